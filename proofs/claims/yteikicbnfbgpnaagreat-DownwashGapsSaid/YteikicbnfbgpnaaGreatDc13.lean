/- Rules, arithmetic and contracts: part 14. No conditions but those that each theorem names. -/
import Derived.Test.YteikicbnfbgpnaaGreatDc12
import Derived.TacticsIn
import Derived.RangeFuncCalls
set_option linter.all false
namespace Go.Sky
open Go.RowKit (Below)
variable {P:Program} {N:Nat} {sc:Nat->Prop} {env env':Ob} {H H':Hp} {Q Q':Exit->Act->World->Prop}
end Go.Sky
namespace Go.Sky
open Go.RowKit (Below)
variable{f:FuncId}{vs:List Value}{pre:List Pc}{o:Oper}{a:Act}{w:World}{K K':Act->World->Prop}{r:Nat}{ρ:Operand->Value}{Q1:Exit->Act->World->Prop}
variable {P:Program} {N:Nat} {sc:Nat->Prop} {env env':Ob} {H H':Hp} {Q Q':Exit->Act->World->Prop}
def Zid(P:Program)(fn:Func)(w0:World)(pre:List Pc)(al:Bool){G:Type}(φ:G->Prop)(Yq:G->Value)(c:G->List Pc):Exit->Act->World->Prop:=
  bodyPostM Fence.wide 0 P fn λe d => ∃ g, e = .returned (Yq g) /\ φ g /\ Below w0.heap.size w0 d /\
        ∀p∈c g,p.holds d/\p.own=false/\∀b,p.fp b->w0.heap.size<=b\/(al=true/\∃q∈pre,q.fp b)
theorem Yo7  {fn:Func} {c:Code}   {al:Bool} {G:Type} {φ:G->Prop} {Yq:G->Value} {k:G->List Pc} {N:Nat}
    (F:P.funcs[f]? = some fn) (d:fn.body=some c) (B:fn.ntmps=N) (s:Nat.ble vs.length N=true) (y:AllRo pre)
    (h:∀w0 (sc:Nat->Prop),(∀b,w0.heap.size<=b->sc b)->(∀b,sc b->w0.heap.size<=b\/∃q∈pre,q.fp b)->
      E P N sc c (Zid P fn w0 pre al φ Yq k) (Oh 0 vs) ((0,Qb w0 (λ_=>False))::Qt 1 pre)) :
    Cal P f vs.toArray pre al φ Yq k:=λw M=>by
  refine(callsIn_wide (n:=0)).1 (callsIn_of_wp_marks F d aA (wpIn_wide.2 (h w (λb=>w.heap.size<=b\/∃q∈pre,q.fp b) (λb d=> .inl d) (λb d=>d) _ w ?_)));have z:vs.length<=N:=by simpa using s
  refine⟨by simp [B];omega,rfl,λt v R=>?_,λi p hi=>?_,λi j p q I hi S x b d D=>?_,λi p m hi b d=>?_⟩
  . have l:=(Fi vs 0 t v R).2;have l:vs.toArray[t]? = some v:=by simpa using l
    have u:=(bI.1 l).1;rw [bP,eU u,l];rfl
  . by_cases g:0=i
    . subst g;rw [Yl]at hi;cases hi;exact Chg.refl _ w
    . rw [Zy _ _ g]at hi;exact M p (Md pre 1 i p hi).2
  . by_cases g:0=i
    . subst g;rw [Yl]at hi;cases hi;cases x
    . rw [Zy _ _ g]at hi;rw [y.mem p (Md pre 1 i p hi).2]at x;cases x
  . rw [Zy _ _ (λe=>m e.symm)]at hi;exact .inr ⟨p,(Md pre 1 i p hi).2,d⟩
def onlyR(Q:Exit->Act->World->Prop):Exit->Act->World->Prop:=Ez Q
def Bg:¬LetsOut (Ez Q):=λ⟨_,_,h⟩=>h
theorem Ym7(d:∀c,o.op≠ .defer c)(h:o.wp P a w K (Ez Q)):o.wpIn (Fence.wide.inRound r) 0 P a w K Q:=by
  refine⟨λ_ _=>trivial,?_⟩;unfold Oper.wp at h;show o.uponIn (Fence.wide.inRound r) 0 P a K Q ((o.semAt (some r) a.eval).run P w);rw [Oper.semAt_some r _ o d];generalize (execOp a.eval o).run P w=x at *;cases x with
  | ok n g=>
    cases n<;>simp only [Oper.upon,Oper.uponIn]at h ⊢
    case value=>exact h
    case skip=>exact h
    case defer=>exact h
    case enter f args=>
      refine⟨λh=>(by cases h),CallsIn.inRound r (callsIn_wide.2 (h.mono λe i b=>?_))⟩;cases e with
      | returned v=>exact b
      | panicked c=>exact b.elim
      | outgrown=>exact absurd b Bg
    case row row args=>exact⟨λh=>(by cases h),Yf8 (n:=0) h⟩
  | halt x g=>
    cases x<;>simp only [Oper.upon]at h
    case panic u=>exact h.elim
def Zp8(l:List Oper):Prop:=∀o∈l,∀c,o.op≠ .defer c
theorem Zqf{ops:Array Oper}{r:Nat} : ∀(l:List Oper) (a:Act) (w:World),Zp8 l->wpList P ops (Ez Q) l a w->wpListIn (Fence.wide.inRound r) 0 P ops Q l a w
  | [],_,_,_,h=>h
  | o::l,a,w,hnd,h=>by
    unfold wpList at h;unfold wpListIn;split
    . rename_i c;simp only [c,lL]at h;exact Oper.wpIn_mono (λa w d=>Zqf l a w (λo b=>hnd o (bG _ b)) d) (Ym7 (hnd o (bR ..)) (h.resolve_right λh=>Bg h.2))
    . rename_i c;simp only [c]at h;exact⟨λ_ _=>trivial,Zqf l _ w (λo b=>hnd o (bG _ b)) h⟩
def Yge{id:Nat}{l:List Oper}(b:Zp8 l)(h:L P N sc l.toArray l (Ez Q) env H)(hs:Sat N sc env H a w):(Code.region id l.toArray false).wpIn (Fence.wide.inRound r) 0 P Q a w:=
  wpIn_region_lit (Zqf l a w b (h a w hs))
def fx(l:Nat)(o:Obj):Pc:=
  { own:=false,fp:=λb=>b=l,holds:=λw=>w.heap[l]? = some o
    lt:=λw b h c=>by subst c;exact(bI.1 h).1
    stable:=λw g h d=>(d.block l (bI.1 h).1 (λe=>e rfl)).trans h }
def Zf6(o:Oper):Bool:=match o.op with
  | .build ..=>true
  | .store ..=>true
  | .load ..=>true
  | .alloc ..=>true
  | _=>false
theorem Yg9(h:Zf6 o=true){w':World}{d:Deferred} : (execOp ρ o).run P w≠ .ok (.defer d) w':=λb=>by
  unfold Zf6 at h;cases ho:o.op<;>simp only [ho]at h<;>try (cases h;done)
  all_goals
    simp only [execOp,ho,Sem.run_bind]at b;revert b;generalize Sem.run P _ w=r;cases r<;>simp [Result.andThen,Sem.run_pure]
theorem Zk8(a:Act)(ds:List Deferred)(d:Option Tmp)(v:Value):({ a with defers:=ds } : Act).put d v={ a.put d v with defers:=ds }:=by cases d<;>rfl
theorem Ym8    {ds:List Deferred}   (i:Zf6 o=true) (g:∀a w,K a w->K' { a with defers:=ds } w)
    (k:∀e a w,¬Q1 e a w) (h:o.wp P a w K Q1):o.wp P { a with defers:=ds } w K' Q:=by
  unfold Oper.wp at h ⊢;have j:=λd w'=>Yg9 (P:=P) i (ρ:=a.eval) (w:=w) (w':=w') (d:=d);show o.upon P _ K' Q ((execOp a.eval o).run P w);generalize (execOp a.eval o).run P w=x at *;cases x with
  | ok n w'=>
    cases n<;>simp only [Oper.upon]at h ⊢
    case value=>rw [Zk8];exact g _ _ h
    case skip=>rw [Zk8];exact g _ _ h
    case defer d=>exact absurd rfl (j d w')
    case enter f args=>
      refine h.mono λe l b=>?_;cases e with
      | returned v=>show K' (({ a with defers:=ds } : Act).put o.dst v) l;rw [Zk8];exact g _ _ b
      | panicked c=>exact(k _ _ _ b).elim
      | outgrown=>obtain⟨_,_,h⟩:=b;exact(k _ _ _ h).elim
    case row row args=>exact h.mono λ_ _ b=>by rw [Zk8];exact g _ _ b
  | halt x w'=>
    cases x<;>simp only [Oper.upon]at h
    case panic u=>exact(k _ _ _ h).elim
theorem Zqg{ops:Array Oper}{ds:List Deferred} : ∀(l:List Oper) (a:Act) (w:World),l.all Zf6=true->wpList P ops (Ez λe a w=>Q e { a with defers:=ds } w) l a w->wpList P ops Q l { a with defers:=ds } w
  | [],_,_,_,h=>h
  | o::l,a,w,hnd,h=>by
    simp only [nL,aS]at hnd;unfold wpList at h ⊢;split
    . rename_i d;simp only [d,lL]at h;have h:=h.resolve_right λh=>Bg h.2;refine .inl (Ym8 (Q1:=noQ) hnd.1 (λa w g=>Zqg l a w hnd.2 g) (λ_ _ _ h=>h) ?_);unfold Oper.wp at h ⊢;revert h;generalize (execOp a.eval o).run P w=x;intro h;cases x with
      | ok n i=>
        cases n<;>simp only [Oper.upon]at h ⊢
        case value=>exact h
        case skip=>exact h
        case defer=>exact h
        case enter f args=>
          refine h.mono λe j b=>?_;cases e with
          | returned v=>exact b
          | panicked c=>exact b
          | outgrown=>exact absurd b Bg
        case row row args=>exact h
      | halt x i=>
        cases x<;>simp only [Oper.upon]at h ⊢
        case panic u=>exact h
    . rename_i d;rw [aD d]at h;rw [Zk8];exact Zqg l _ w hnd.2 h
end Go.Sky
namespace Go.Sky
open Go.RowKit (Below)
variable{a:Act}{w:World}{i:Nat}
variable {P:Program} {N:Nat} {sc:Nat->Prop} {env env':Ob} {H H':Hp} {Q Q':Exit->Act->World->Prop}
abbrev ALL:Nat->Prop:=λ_=>True
def FpSub:Hp->Hp->Prop
 | [],_=>True
 | (i,p)::r,H=>(∃q,lk H i=some q/\p.own=q.own/\∀b,p.fp b->q.fp b)/\FpSub r H
theorem FpSub.lk:∀{H' H:Hp},FpSub H' H->∀i p,lk H' i=some p->∃q,lk H i=some q/\p.own=q.own/\∀b,p.fp b->q.fp b
 | [],_,_,_,_,h=>by cases h
 | (k,u)::r,H,h,i,p,hi=>by
  by_cases c:k=i
  .subst c;rw [Yl]at hi;cases hi;exact h.1
  .rw [Zy _ _ c]at hi;exact FpSub.lk h.2 i p hi
theorem Sat.re{w':World}(hs:Sat N sc env H a w)(l:∀i p,lk H' i=some p->∃q,lk H i=some q/\p.own=q.own/\∀b,p.fp b->q.fp b)(n:∀i p,lk H' i=some p->p.holds w'):Sat N ALL env H' a w':=
 ⟨hs.size,hs.defers,hs.env,n,λi j p q f hi o r b m c=>by obtain⟨s,h,g,d⟩:=l i p hi;obtain⟨t,k,_,e⟩:=l j q o;exact hs.sep i j s t f h k (g▸r) b (d b m) (e b c),λ_ _ _ _ _ _=>trivial⟩
def FpN:Hp->Hp->Prop
 | [],_=>True
 | (i,p)::r,H=>(p.own=true\/∃q,lk H i=some q/\∀b,p.fp b->q.fp b)/\FpN r H
theorem FpN.lk:∀{H' H:Hp},FpN H' H->∀i p,lk H' i=some p->p.own=true\/∃q,lk H i=some q/\∀b,p.fp b->q.fp b
 | [],_,_,_,_,h=>by cases h
 | (k,u)::r,H,h,i,p,hi=>by
  by_cases c:k=i
  .subst c;rw [Yl]at hi;cases hi;exact h.1
  .rw [Zy _ _ c]at hi;exact FpN.lk h.2 i p hi
theorem lk3{p q:Pc}{r:Pc}(h:lk ((90,p)::(91,q)::H) i=some r):(i=90/\r=p)\/(i=91/\r=q)\/(i≠90/\i≠91/\lk H i=some r):=by
 by_cases b:90=i
 .subst b;rw [Yl]at h;cases h;exact .inl ⟨rfl,rfl⟩
 .rw [Zy _ _ b]at h;by_cases c:91=i
  .subst c;rw [Yl]at h;cases h;exact .inr (.inl ⟨rfl,rfl⟩)
  .rw [Zy _ _ c]at h;exact .inr (.inr ⟨λe=>b e.symm,λe=>c e.symm,h⟩)
theorem lk3'{p q:Pc}(b:i≠90)(c:i≠91):lk ((90,p)::(91,q)::H) i=lk H i:=by rw [Zy _ _ (λe=>b e.symm),Zy _ _ (λe=>c e.symm)]
theorem Sat.turn{l D:Nat}{o m g:Obj}(hs:Sat N ALL env ((90,fx l o)::(91,fx D g)::H) a w)(f:l≠D)(r:∀i p,i≠90->i≠91->lk H i=some p->¬p.fp l) :
  Sat N ALL env ((90,fx l m)::(91,fx D g)::H) a (w.putObj l m):=by
 have q:w.heap[l]? = some o:=hs.hold 90 _ rfl;have n:w.heap[D]? = some g:=hs.hold 91 _ rfl;refine hs.re (λi p hi=>?_) (λi p hi=>?_)
 .rcases lk3 hi with⟨rfl,rfl⟩|⟨rfl,rfl⟩|⟨b,c,hi⟩
  .exact⟨_,rfl,rfl,λ_ h=>h⟩
  .exact⟨_,rfl,rfl,λ_ h=>h⟩
  .exact⟨p,by rw [lk3' b c];exact hi,rfl,λ_ h=>h⟩
 .rcases lk3 hi with⟨rfl,rfl⟩|⟨rfl,rfl⟩|⟨b,c,j⟩
  .exact World.putObj_heap_same (bI.1 q).1
  .exact(World.putObj_heap_other (λe=>f e.symm)).trans n
  .refine p.stable _ _ (hs.hold i p (by rw [lk3' b c];exact j)) ⟨rfl,rfl,rfl,O5,λk s d=>World.putObj_heap_other (λe=>d ?_)⟩;subst e;exact r i p b c j
theorem Sat.round(hs:Sat N sc env H a w)(d:Nat)(v:Value)(b:Nat.blt d N=true):Sat N sc ((d,v)::env) H { tmps:=(#[d].zip #[v]).foldl (λt (p,v)=>t.setIfInBounds p v) a.tmps,defers:=[] } w:=by
 have h:=hs.put d v b;have e:(a.put (some d) v)={ tmps:=(#[d].zip #[v]).foldl (λt (p,v)=>t.setIfInBounds p v) a.tmps,defers:=[] }:=by show({ a with tmps:=a.tmps.setIfInBounds d v } : Act)=_;rw [<-hs.defers];simp
 rw [<-e];exact h
theorem Im{ops:Array Oper}{Q1 k:Exit->Act->World->Prop}(b:∀e a w,Q1 e a w->k e a w):∀(l:List Oper) (a:Act) (w:World),wpList P ops Q1 l a w->wpList P ops k l a w
 | [],_,_,h=>b _ _ _ h
 | o::l,a,w,h=>by
  unfold wpList at h ⊢;split
  .rename_i g;rw [aG g]at h;rcases h with h|⟨p,m,j,q⟩
   .refine .inl ?_;unfold Oper.wp at h ⊢;revert h;generalize (execOp a.eval o).run P w=x;intro h;cases x with
    | ok n j=>
     cases n<;>simp only [Oper.upon]at h ⊢
     case value=>exact Im b l _ _ h
     case skip=>exact Im b l _ _ h
     case defer=>exact Im b l _ _ h
     case enter f args=>
      refine h.mono λe r d=>?_;cases e with
      | returned v=>exact Im b l _ _ d
      | panicked c=>exact b _ _ _ d
      | outgrown=>obtain⟨a,w,h⟩:=d;exact⟨a,w,b _ _ _ h⟩
     case row row args=>exact h.mono λ_ _ d=>Im b l _ _ d
    | halt x j=>
     cases x<;>simp only [Oper.upon]at h ⊢
     case panic u=>exact b _ _ _ h
   .exact .inr ⟨p,m,j,b _ _ _ q⟩
  .rename_i g;rw [aD g]at h;exact Im b l _ _ h
end Go.Sky
namespace Go.Sky
open Go.RowKit (Below)
variable{f:FuncId}{fn:Func}{lb vs:List Value}{pre:List Pc}{ops:Array Oper}{o:Oper}{ts:Array Value}{rest:List Oper}{d:Nat}{w0 W:World}{M:Nat->Prop}{x:Operand}{ops':List Operand}{tys:Array TypeId}{Jx:World->Prop}
variable {P:Program} {N:Nat} {sc:Nat->Prop} {env env':Ob} {H H':Hp} {Q Q':Exit->Act->World->Prop}
def YJI(P:Program)(w0:World)(l:Nat)(M:Nat->Prop)(J:Nat->World->Prop)(Jx:World->Prop){α G:Type}(xs:List α)(ys:α->G->List Value)(h:α->G->List Pc):Prop:=
 ∀k x g,xs[k]? = some x->∀W a,J k W->w0.heap.size<=W.heap.size->Below W.heap.size W a->(∀p∈h x g,p.holds a/\p.own=false/\∀b,p.fp b->W.heap.size<=b)->
  YieldAt Fence.wide 0 P l (ys x g).toArray a λe c=>(e= .returned (.bool true)/\J (k+1) c/\Chg (λb=>M b\/w0.heap.size<=b) a c)\/(e= .returned (.bool false)/\Jx c/\Chg (λb=>M b\/w0.heap.size<=b) a c)
def Zmz(J:World->Prop):Prop:=∀W a,J W->Below W.heap.size W a->J a
def CalI(P:Program)(f:FuncId)(lb:List Value)(pre:List Pc){α G:Type}(xs:List α)(ys:α->G->List Value)(a:α->G->List Pc):Prop:=
 ∀(l:Nat) (M:Nat->Prop) (J:Nat->World->Prop) (Jx:World->Prop) (w:World),
  (∀p∈pre,p.holds w)->(∀p∈pre,∀b,p.fp b->¬M b)->(∀k,Zmz (J k))->Zmz Jx->J 0 w->YJI P w l M J Jx xs ys a->
  Calls P f (.func (.yield l) #[] #[]::lb).toArray w λe c=>(∃v,e= .returned v)/\(J xs.length c\/Jx c)
def Ylg(P:Program)(fn:Func)(n:Nat)(J:Nat->World->Prop)(Jx:World->Prop):Exit->Act->World->Prop:=
 bodyPost P fn λe a=>(∃v,e= .returned v)/\(J n a\/Jx a)
theorem Yo6   {c:Code}   {α G:Type} {xs:List α} {ys:α->G->List Value} {n:α->G->List Pc} {N:Nat}
  (hf:P.funcs[f]? = some fn) (a:fn.body=some c) (V:fn.ntmps=N) (z:Nat.ble (lb.length+1) N=true) (F:AllRo pre)
  (h:∀(l:Nat) (M:Nat->Prop) (J:Nat->World->Prop) (Jx:World->Prop) w0 (sc:Nat->Prop),(∀b,w0.heap.size<=b->sc b)->(∀p∈pre,∀b,p.fp b->b<w0.heap.size/\¬M b)->(∀k,Zmz (J k))->Zmz Jx->J 0 w0->YJI P w0 l M J Jx xs ys n->
   E P N sc c (Ylg P fn xs.length J Jx) (Oh 0 (.func (.yield l) #[] #[]::lb)) ((0,Qb w0 (λ_=>False))::Qt 1 pre)) :
  CalI P f lb pre xs ys n:=λl M J Jx w R hm S u s Y=>by
 refine calls_of_wp hf a (h l M J Jx w (λb=>w.heap.size<=b\/∃q∈pre,q.fp b) (λb a=> .inl a) (λp m b a=>⟨p.lt w b (R p m) a,hm p m b a⟩) S u s Y _ w ?_);have I:lb.length+1<=N:=by simpa using z
 refine⟨by simp [V];omega,rfl,λt v ht=>?_,λi p hi=>?_,λi j p q a0 hi hj D b a Z=>?_,λi p y hi b a=>?_⟩
 .have r:=(Fi (.func (.yield l) #[] #[]::lb) 0 t v ht).2;have r:(Value.func (.yield l) #[] #[]::lb).toArray[t]? = some v:=by simpa using r
  have B:=(bI.1 r).1;rw [bP,eU B,r];rfl
 .by_cases g:0=i
  .subst g;rw [Yl]at hi;cases hi;exact Chg.refl _ w
  .rw [Zy _ _ g]at hi;exact R p (Md pre 1 i p hi).2
 .by_cases g:0=i
  .subst g;rw [Yl]at hi;cases hi;cases D
  .rw [Zy _ _ g]at hi;rw [F.mem p (Md pre 1 i p hi).2]at D;cases D
 .rw [Zy _ _ (λe=>y e.symm)]at hi;exact .inr ⟨p,(Md pre 1 i p hi).2,a⟩
def LI(P:Program)(N:Nat)(sc:Nat->Prop)(ops:Array Oper)(rest:List Oper)(Q:Exit->Act->World->Prop)(env:Ob)(H:Hp):Prop:=
 ∀a w,Sat N sc env H a w->wpListIn Fence.wide 0 P ops Q rest a w
def e_li{id:Nat}{l:List Oper}(h:LI P N sc l.toArray l Q env H):E P N sc (.region id l.toArray false) Q env H:=λa w hs=>
 (wpIn_wide (n:=0)).1 (wpIn_region_lit (h a w hs))
theorem Zie(a:o.guard=none):Region.wanted o (yielded ops ts)=true:=by simp [Region.wanted,a]
theorem Zlq{v:Value}(g:Mz P N sc o env H v)(e:o.guard=none)(c:o.dst=some d)(b:Nat.blt d N=true)(h:LI P N sc ops rest Q ((d,v)::env) H):LI P N sc ops (o::rest) Q env H:=λa w hs=>by unfold wpListIn;rw [aG (Zie e)];refine⟨λ_ _=>trivial,?_⟩;show o.uponIn Fence.wide 0 P a _ Q ((execOp a.eval o).run P w);rw [g a w hs];show wpListIn Fence.wide 0 P ops Q rest (a.put o.dst v) w;rw [c];exact h _ w (hs.put d v b)
def Yid(h:X N sc .normal Q env H):LI P N sc ops [] Q env H:=λa w hs=>h a w hs
theorem Sat.base {u r:World}   {a:Act} (hs:Sat N sc env H a u) (n:∀p∈pre,∀b,p.fp b->b<w0.heap.size/\¬M b) (t:AllRo pre) (c:HSub (Qt 1 pre) H)
  (l:Chg (λb=>M b\/w0.heap.size<=b) u r):Sat N sc env ((0,Qb r (λ_=>False))::Qt 1 pre) a r:=by
 refine⟨hs.size,hs.defers,hs.env,λi p hi=>?_,λi j p q D hi G s b v w=>?_,λi p m hi b v=>?_⟩
 .by_cases g:0=i
  .subst g;rw [Yl]at hi;cases hi;exact Chg.refl _ _
  .rw [Zy _ _ g]at hi;have F:=(Md pre 1 i p hi).2;refine p.stable _ _ (hs.hold i p (c.lk i p hi)) ⟨l.os,l.tape,l.output,l.size,λk z B=>l.block k z (λy=>?_)⟩;have:=n p F k (gF.1 B);rcases y with h|h
   .exact this.2 h
   .omega
 .by_cases g:0=i
  .subst g;rw [Yl]at hi;cases hi;cases s
  .rw [Zy _ _ g]at hi;rw [t.mem p (Md pre 1 i p hi).2]at s;cases s
 .rw [Zy _ _ (λe=>m e.symm)]at hi;exact hs.scope i p m (c.lk i p hi) b v
theorem Yic    {l:Nat}       {J:Nat->World->Prop}  {α G:Type} {xs:List α} {ys:α->G->List Value} {F:α->G->List Pc} 
  (k:Nat) (y:α) (g:G) (hY:YJI P w0 l M J Jx xs ys F) (hy:xs[k]? = some y) (hJ:J k W) (hW:w0.heap.size<=W.heap.size) (n:∀p∈pre,∀b,p.fp b->b<w0.heap.size/\¬M b)
  (ho:o.op= .call { callee:= .value x,args:=ops'.toArray,argTypes:=tys }) (hg:o.guard=none) (hd:o.dst=some d) (hN:Nat.blt d N=true) (hx:ev env x=some (.func (.yield l) #[] #[])) (s:EvL env ops' vs) (V:vs=ys y g)
  (h0:lk H 0=some (Qb W (λ_=>False))) (v:∀p∈F y g,p.own=false/\(∀b,p.fp b->W.heap.size<=b)/\∃i R,lk H i=some R/\∀w,R.holds w->p.holds w)
  (z:AllRo pre) (q:HSub (Qt 1 pre) H)
  (ht:∀c,J (k+1) c->w0.heap.size<=c.heap.size->LI P N sc ops rest Q ((d,.bool true)::env) ((0,Qb c (λ_=>False))::Qt 1 pre))
  (hf:∀c,Jx c->w0.heap.size<=c.heap.size->LI P N sc ops rest Q ((d,.bool false)::env) ((0,Qb c (λ_=>False))::Qt 1 pre)):LI P N sc ops (o::rest) Q env H:=λa w hs=>by
 subst V;have Z:=Gv (hs.hold 0 _ h0);obtain⟨fn,I,j,t,B,m⟩:=hY k y g hy W w hJ hW Z (λp hp=>by obtain⟨h1,h2,i,R,hi,hh⟩:=v p hp;exact⟨hh w (hs.hold i R hi),h1,h2⟩)
 have S:(o.semAt Fence.wide.round a.eval).run P w= .ok (.round l fn I j t) w:=by show(execOp a.eval o).run P w=_;have hm:=s.map hs;have Y:=hs.ev hx;simp [execOp,ho,resolve,invoke,Deferred.ofValue,hm,Y,B,Sem.run_bind]
 unfold wpListIn;rw [aG (Zie hg)];refine⟨λ_ _=>trivial,?_⟩;rw [S];refine⟨λh=>(by cases h),m.mono ?_⟩;have D:w0.heap.size<=w.heap.size:=aB hW Z.size;rintro e c (⟨rfl,r,u⟩|⟨rfl,r,u⟩)
 .show wpListIn Fence.wide 0 P ops Q rest (a.put o.dst _) c;rw [hd];exact ht c r (aB D u.size) _ c ((hs.base n z q u).put d _ hN)
 .show wpListIn Fence.wide 0 P ops Q rest (a.put o.dst _) c;rw [hd];exact hf c r (aB D u.size) _ c ((hs.base n z q u).put d _ hN)
theorem Yei{J:Nat->World->Prop}{n:Nat}{e:Exit}(l:e= .ret\/e= .normal)(m:fn.results=#[])(j:lk H 0=some (Qb W (λ_=>False)))(b:∀k,Zmz (J k))(c:Zmz Jx)(h:J n W\/Jx W):X N sc e (Ylg P fn n J Jx) env H:=λa w hs=>by
 have i:=Gv (hs.hold 0 _ j);have g:a.defers=[]/\∃v,(results fn a.tmps).run P w= .ok v w/\((∃u,Ending.returned v= .returned u)/\(J n w\/Jx w)):=
  ⟨hs.defers,_,Ygc m,⟨_,rfl⟩,h.imp (λh=>b n W w h i) (λh=>c W w h i)⟩
 rcases l with rfl|rfl<;>exact g
end Go.Sky
namespace Go.Sky
open Go.RowKit (Below)
variable{w W W' w0:World}{Mf:Nat->Prop}{Hn:Hp}{a:Act}{fn:Func}{preF pre:List Pc}{lbv:List Value}
variable {P:Program} {N:Nat} {sc:Nat->Prop} {env env':Ob} {H H':Hp} {Q Q':Exit->Act->World->Prop}
def FpM:Hp->Hp->Prop
 | [],_=>True
 | (i,p)::r,H=>(p.own=true\/∀b,p.fp b->∃j q,lk H j=some q/\q.fp b)/\FpM r H
theorem FpM.lk:∀{H' H:Hp},FpM H' H->∀i p,lk H' i=some p->p.own=true\/∀b,p.fp b->∃j q,lk H j=some q/\q.fp b
 | [],_,_,_,_,h=>by cases h
 | (k,u)::r,H,h,i,p,hi=>by
  by_cases c:k=i
  .subst c;rw [Yl]at hi;cases hi;exact h.1
  .rw [Zy _ _ c]at hi;exact FpM.lk h.2 i p hi
structure Kps (sc:Nat->Prop) (w:World) (Mf:Nat->Prop) (Hn:Hp) (W:World):Prop where
 hold:∀i it,lk Hn i=some it->it.holds W
 sep:∀i j it jt,i≠j->lk Hn i=some it->lk Hn j=some jt->it.own=true->∀b,it.fp b->jt.fp b->False
 scope:∀i it,i≠0->lk Hn i=some it->∀b,it.fp b->sc b
 off:∀i it,lk Hn i=some it->it.own=false->∀b,it.fp b->b<w.heap.size\/w.heap.size+2<=b
 mf:∀i it,lk Hn i=some it->it.own=true->∀b,it.fp b->Mf b
def Mof(w:World)(H:Hp)(b:Nat):Prop:=(∃i q,lk H i=some q/\q.own=true/\q.fp b)\/w.heap.size+2<=b
def Kps.chg(h:Kps sc w Mf Hn W)(d:∀i c,lk Hn i=some c->Chg (λb=>¬c.fp b) W W'):Kps sc w Mf Hn W':=
 ⟨λi c hi=>c.stable _ _ (h.hold i c hi) (d i c hi),h.sep,h.scope,h.off,h.mf⟩
def Kps.stays(h:Kps sc w Mf Hn W)(b:Below W.heap.size W W'):Kps sc w Mf Hn W':=h.chg λ_ _ _=>Chg.of_below b
theorem Kps.put{d:Nat}{o:Obj}(h:Kps sc w (Mof w H) Hn W)(c:∀i q,lk H i=some q->∀b,q.fp b->b<w.heap.size)(p:w.heap.size<=d/\d<w.heap.size+2):Kps sc w (Mof w H) Hn (W.putObj d o):=
 h.chg λi g hi=>⟨rfl,rfl,rfl,O5,λk r m=>World.putObj_heap_other (λe=>m λl=>by
  subst e;cases ho:g.own with
  | false=>rcases h.off i g hi ho _ l with h|h<;>omega
  | true=>
   rcases h.mf i g hi ho _ l with⟨j,q,n,_,f⟩|h
   .have:=c j q n _ f;omega
   .omega)⟩
def Kps.sat(h:Kps sc w Mf Hn W)(b:a.tmps.size=N)(c:a.defers=[])(d:∀t v,lk env t=some v->a.tmps.getD t undef=v):Sat N sc env Hn a W:=⟨b,c,d,h.hold,h.sep,h.scope⟩
def Zqn(H:Hp)(w0:World):Prop:=lk H 0=some (Qb w0 (λ_=>False))/\lk H 92=none
def Mfs(sc:Nat->Prop)(w:World)(H:Hp)(b:Nat):Prop:=Mof w H b\/¬sc b
theorem Sat.ps {r F:World} {d:Hp}  (hs:Sat N sc env ((92,Qb r (Mfs sc w H))::Hn) a F) (k:lk Hn 92=none) (R:∀q,lk Hn 0=some q->q.own=false) (hb:w.heap.size+2<=r.heap.size)
  (S:FpM Hn d) (z:∀j q,lk d j=some q->∀b,q.fp b->q.own=true->Mof w H b) (o:∀j q,lk d j=some q->∀b,q.fp b->q.own=false->b<w.heap.size\/w.heap.size+2<=b) (v:∀i q,lk H i=some q->∀b,q.fp b->b<w.heap.size):Kps sc w (Mof w H) Hn F:=by
 have g:∀i c,lk Hn i=some c->lk ((92,Qb r (Mfs sc w H))::Hn) i=some c:=λi c hi=>by
  by_cases G:92=i
  .subst G;rw [k]at hi;cases hi
  .rw [Zy _ _ G];exact hi
 have x:∀i c,lk Hn i=some c->c.own=true->∀b,c.fp b->Mof w H b:=λi c hi n b f=>by
  have l:i≠92:=λe=>by subst e;rw [k]at hi;cases hi
  have s:i≠0:=λe=>by subst e;rw [R c hi]at n;cases n
  have D:=hs.scope i c s (g i c hi) b f;have:=hs.sep i 92 c _ l (g i c hi) (Yl _ _ _) n b f;by_cases m:b<r.heap.size
  .rcases(gF.1 λY=>this ⟨m,Y⟩:Mfs sc w H b)with h|h
   .exact h
   .exact absurd D h
  .exact .inr O
 refine⟨λi c hi=>hs.hold i c (g i c hi),λi j c M y hi V=>hs.sep i j c M y (g i c hi) (g j M V),λi c u hi=>hs.scope i c u (g i c hi),λi c hi n b f=>?_,x⟩;rcases S.lk i c hi with h|h
 .rw [n]at h;cases h
 .obtain⟨j,q,I,p⟩:=h b f;cases hqo:q.own with
  | false=>exact o j q I b p hqo
  | true=>
   rcases z j q I b p hqo with⟨Z,q',B,_,t⟩|h
   .exact .inl (v Z q' B b t)
   .exact .inr h
def RB(N:Nat)(sc:Nat->Prop)(Mf:Nat->Prop)(b:Hp){h i:Type}(j:h->Hp)(g:h->Prop)(k:i->Hp)(c:i->Prop)(l:World):Exit->Act->World->Prop:=λe a W=>
 (e= .normal/\∃d,g d/\FpM (j d) b/\∃env',Sat N sc env' ((92,Qb l Mf)::j d) a W)\/(e= .ret/\∃f,c f/\FpM (k f) b/\∃env',Sat N sc env' ((92,Qb l Mf)::k f) a W)
def RA(P:Program)(N:Nat)(sc:Nat->Prop)(l:Nat)(Mf:Nat->Prop)(b:Hp)(body:Code){h i:Type}(k:h->Hp)(g:h->Prop)(m:i->Hp)(f:i->Prop)(n:World):Exit->Act->World->Prop:=λe a W=>
 e= .normal/\∃c d,lk d 92=none/\(∀q,lk d 0=some q->q.own=false)/\FpM d b/\Sat N sc c ((92,Qb n Mf)::d) a W/\
  ∀j a W,Sat N sc c ((92,Qb j Mf)::d) a W->body.wpIn (Fence.wide.inRound l) 0 P (RB N sc Mf b k g m f j) a W
theorem Zz3:∀(l:List Pc) (n:Nat) (H:Hp) (j:Nat) (q:Pc),lk (adds n l H) j=some q->q∈l\/lk H j=some q
 | [],_,_,_,_,h=> .inr h
 | p::r,n,H,j,q,h=>by
  by_cases b:n=j
  .subst b;rw [show adds n (p::r) H=(n,p)::adds (n+1) r H from rfl,Yl]at h;cases h;exact .inl (bR ..)
  .rw [show adds n (p::r) H=(n,p)::adds (n+1) r H from rfl,Zy _ _ b]at h;exact(Zz3 r (n+1) H j q h).imp (bG _) id
@[reducible] def renv:List Nat->List Value->Ob->Ob
 | p::ps,v::vs,env=>renv ps vs ((p,v)::env)
 | _,_,env=>env
theorem Sat.rounds{w:World} : ∀(ps:List Nat) (vs:List Value) {env:Ob} {b:Array Value},(ps.all λp=>Nat.blt p N)=true->Sat N sc env H { tmps:=b,defers:=[] } w->
  Sat N sc (renv ps vs env) H { tmps:=(ps.zip vs).foldl (λt c=>t.setIfInBounds c.1 c.2) b,defers:=[] } w
 | [],_,_,_,_,h=>h
 | _::_,[],_,_,_,h=>h
 | p::ps,v::vs,env,b,hp,h=>by simp only [nL,aS]at hp;exact Sat.rounds ps vs (env:=(p,v)::env) hp.2 (h.put p v hp.1)
theorem Zuj    {al:Bool} {c:Type} {φ:c->Prop} {Yq:c->Value} {b:c->List Pc}  {D:Nat}
  (d:W.heap[D]? = some (.deferred (some []))) (h:Zdj P fn w0 preF al φ Yq b .ret { a with defers:=[] } (W.putObj D (.deferred none))) :
  Zid P fn w0 preF al φ Yq b .ret { a with defers:=[{ target:= .collected D,args:=#[] }] } W:=by
 obtain⟨-,v,f,e⟩:=h;exact⟨O5,.inl ⟨_,_,rfl,run_takeDeferred d,⟨v,f,e⟩⟩⟩
theorem e_rfi {g:Operand} {gf i6 g1:Nat} {ps:List Nat} {assign body:Code}   {α G:Type} {xs:List α} {ys:α->G->List Value} {F:α->G->List Pc} {lc:List Oper}    {al:Bool} {GF:Type} {φ:GF->Prop} {Yq:GF->Value} {R:GF->List Pc}
  {GG GX:Type} (S:Nat->GG->Hp) (c2:Nat->GG->Prop) (HX:GX->Hp) (c3:GX->Prop) (d0:GG)
  (hg:ev env g=some (.func (.func gf) #[] lbv.toArray)) (eg:∀args w,(callFunc gf args).run P w= .ok (.enter gf args) w) (hc:CalI P gf lbv pre xs ys F)
  (hp:∀p∈pre,p.own=false/\∃i,lk H i=some p) (i2:∀x I,(ys x I).length=ps.length) (i1:(ps.all λp=>Nat.blt p N)=true)
  (hw:∀b,w0.heap.size<=b->sc b) (h0:lk H 0=some (Qb w0 (λ_=>False)))
  (b7:c2 0 d0) (b2:HSub (S 0 d0) H) (hk:∀k u,Zqn (S k u) w0) (h8:∀gx,Zqn (HX gx) w0)
  (c5:∀k x I u,xs[k]? = some x->c2 k u->∀l Mf V a W,Sat N sc (renv ps (ys x I) env) ((92,Qb V Mf)::adds 100 (F x I) (S k u)) a W->
   assign.wpIn (Fence.wide.inRound l) 0 P (RA P N sc l Mf (adds 100 (F x I) (S k u)) body (S (k+1)) (c2 (k+1)) HX c3 V) a W)
  (i0:lc.all Zf6=true)
  (hC:∀u,c2 xs.length u->∀D od,L P N sc lc.toArray lc (Ez λe a w=>e= .normal/\∃b5 H2,lk H2 92=none/\FpSub H2 (S xs.length u)/\Sat N sc b5 ((92,fx D od)::H2) a w/\X N sc .ret (Zdj P fn w0 preF al φ Yq R) b5 H2) env ((92,fx D od)::S xs.length u))
  (hX:∀gx,c3 gx->X N sc .ret (Zdj P fn w0 preF al φ Yq R) env (HX gx)) :
  E P N sc (.rangeFunc g ps.toArray assign body) (Exit.inBlock g1 (Exit.then ((Code.seq (.region i6 lc.toArray false) .ret).wp P (Zid P fn w0 preF al φ Yq R)) (Zid P fn w0 preF al φ Yq R))) env H:=λa w hs=>by
 have a0:∀i p,lk H i=some p->∀b,p.fp b->b<w.heap.size:=λi p hi b f=>p.lt w b (hs.hold i p hi) f;have i5:w0.heap.size<=w.heap.size:=(hs.hold 0 _ h0).size;refine(wpIn_wide (n:=0)).1 (wpIn_rangeFunc ?_);intro c9 h5;obtain⟨c,d⟩:∃c:LoopState->Option Code->Loop,c=λst pe=>{ state:=st,pending:=pe,fn:=c9,tmps:=a.tmps,params:=ps.toArray,assign,body,defers:=w.heap.size }:=⟨_,rfl⟩;obtain⟨W1,b6⟩:∃W1,(w.alloc (.deferred (some []))).alloc (.loop (c .ready none))=W1:=⟨_,rfl⟩;have g5:W1.heap[w.heap.size+1]? = some (.loop (c .ready none)):=by rw [<-b6];have:=World.alloc_heap_new (w.alloc (.deferred (some []))) (.loop (c .ready none));rwa [World.size_alloc]at this
 have g4:W1.heap[w.heap.size]? = some (.deferred (some [])):=by rw [<-b6];exact(Below.heap_alloc _ _ _ O5).trans (World.alloc_heap_new w _)
 have e9:Below w.heap.size w W1:=by rw [<-b6];exact((Below.refl _ w).alloc (aH _) _).alloc O5 _
 have j1:W1.heap.size=w.heap.size+2:=by rw [<-b6];simp
 have e0:(#[.func (.yield (w.heap.size+1)) #[] #[]] ++ lbv.toArray:Array Value)=(Value.func (.yield (w.heap.size+1)) #[] #[]::lbv).toArray:=O5;refine⟨w.heap.size+1,[{ target:= .collected w.heap.size,args:=#[] }],W1,{ target:= .fn (.func gf) lbv.toArray,args:=#[.func (.yield (w.heap.size+1)) #[] #[]] },W1,gf,
  (Value.func (.yield (w.heap.size+1)) #[] #[]::lbv).toArray,W1,?_,?_,λ_ _=>trivial,?_,λh=>(by cases h),?_⟩
 .rw [<-b6,d];exact run_enterLoop_outer _ _ _ _ _
 .simp only [resolve,hs.ev hg];simp [go_sem]
 .simp [invoke,go_sem,eg]
 have c1:∀(Hn:Hp) (r:Loop),Zmz λW=>W.heap[w.heap.size+1]? = some (.loop r)/\W.heap[w.heap.size]? = some (.deferred (some []))/\W1.heap.size<=W.heap.size/\Kps sc w (Mof w H) Hn W:=λHn r W W' ⟨h1,h2,h3,h4⟩ hB=>
  ⟨(hB.block _ (bI.1 h1).1).trans h1,(hB.block _ (bI.1 h2).1).trans h2,aB h3 hB.size,h4.stays hB⟩
 have h9:¬Mof w H (w.heap.size+1):=λh=>by
  rcases h with⟨i,q,hq,_,hf⟩|h
  .have:=a0 i q hq _ hf;omega
  .omega
 have d3:¬Mof w H w.heap.size:=λh=>by
  rcases h with⟨i,q,hq,_,hf⟩|h
  .have:=a0 i q hq _ hf;omega
  .omega
 have f6:∀(Hn:Hp) (W:World),Kps sc w (Mof w H) Hn W->∀(o:Obj),Kps sc w (Mof w H) Hn (W.putObj w.heap.size o):=λHn W h o=>h.put a0 ⟨aH _,O⟩;have c0:∀(Hn:Hp) (W:World),Kps sc w (Mof w H) Hn W->∀(o:Obj),Kps sc w (Mof w H) Hn (W.putObj (w.heap.size+1) o):=λHn W h o=>h.put a0 ⟨O,O⟩;refine callsIn_wide.2 ((hc (w.heap.size+1) (λb=>(∃i q,lk H i=some q/\q.own=true/\q.fp b)\/b=w.heap.size+1)
  (λk W=>∃u,c2 k u/\(W.heap[w.heap.size+1]? = some (.loop (c .ready none))/\W.heap[w.heap.size]? = some (.deferred (some []))/\W1.heap.size<=W.heap.size/\Kps sc w (Mof w H) (S k u) W))
  (λW=>∃gx,c3 gx/\(W.heap[w.heap.size+1]? = some (.loop (c .done (some .ret)))/\W.heap[w.heap.size]? = some (.deferred (some []))/\W1.heap.size<=W.heap.size/\Kps sc w (Mof w H) (HX gx) W)) W1
  ?_ ?_ ?_ ?_ ?_ ?_).mono ?_)
 .intro p z;obtain⟨ho,i,hi⟩:=hp p z;exact p.stable _ _ (hs.hold i p hi) (Chg.of_below e9)
 .rintro p z b f (⟨i,q,hq,b1,i3⟩|rfl)
  .obtain⟨ho,j,M⟩:=hp p z;exact hs.sep i j q p (λe=>by subst e;rw [hq]at M;cases M;rw [ho]at b1;cases b1) hq M b1 b i3 f
  .obtain⟨ho,j,M⟩:=hp p z;have:=a0 j p M _ f;omega
 .rintro k W W' ⟨u,d7,h⟩ hB;exact⟨u,d7,c1 _ _ W W' h hB⟩
 .rintro W W' ⟨gx,d7,h⟩ hB;exact⟨gx,d7,c1 _ _ W W' h hB⟩
 .refine⟨d0,b7,g5,g4,aH _,λi s hi=>s.stable _ _ (hs.hold i s (b2.lk i s hi)) (Chg.of_below e9),λi j s jt b0 hi M=>hs.sep i j s jt b0 (b2.lk i s hi) (b2.lk j jt M),
   λi s b7 hi=>hs.scope i s b7 (b2.lk i s hi),λi s hi _ b f=> .inl (a0 i s (b2.lk i s hi) b f),λi s hi ho b f=> .inl ⟨i,s,b2.lk i s hi,ho,f⟩⟩
 .rintro k x I hx W V ⟨u,Y,hl,hd,f9,a2⟩ j2 hB Z;have f3:V.heap[w.heap.size+1]? = some (.loop (c .ready none)):=(hB.block _ O).trans hl;have g7:V.heap[w.heap.size]? = some (.deferred (some [])):=(hB.block _ O).trans hd;have hy:=run_yield (P:=P) (args:=(ys x I).toArray) f3 (by rw [d];simp [i2]);have b8:∀p∈F x I,∀b,p.fp b->w.heap.size+2<=b:=λp hp b f=>by have:=(Z p hp).2.2 b f;omega
  have s1:Sat N sc env (S k u) { tmps:=a.tmps,defers:=[] } V:=(a2.stays hB).sat hs.size rfl hs.env;have s2:Sat N sc env (adds 100 (F x I) (S k u)) { tmps:=a.tmps,defers:=[] } V:=s1.adds (w1:=V) _ _ λp z=>⟨(Z p z).1,(Z p z).2.1,λb f=>hw b (by have:=b8 p z b f;omega),λj jt M ho b f a5=>by have h1:=(Z p z).2.2 b f;have h2:=jt.lt W b (a2.hold j jt M) a5;omega⟩
  have c6:∀j q,lk (adds 100 (F x I) (S k u)) j=some q->(q∈F x I)\/lk (S k u) j=some q:=λj q h=>Zz3 _ _ _ j q h;have z:∀j q,lk (adds 100 (F x I) (S k u)) j=some q->∀b,q.fp b->q.own=true->Mof w H b:=λj q M b f ho=>by
   rcases c6 j q M with h|h
   .rw [(Z q h).2.1]at ho;cases ho
   .exact a2.mf j q h ho b f
  have c8:∀j q,lk (adds 100 (F x I) (S k u)) j=some q->∀b,q.fp b->q.own=false->b<w.heap.size\/w.heap.size+2<=b:=λj q M b f ho=>by
   rcases c6 j q M with h|h
   .exact .inr (b8 q h b f)
   .exact a2.off j q h ho b f
  have s3:=s2.rounds ps (ys x I) i1;have s4:Sat N sc (renv ps (ys x I) env) ((92,Qb V (Mfs sc w H))::adds 100 (F x I) (S k u)) _ V:=s3.add 92 (Qb V (Mfs sc w H)) (Chg.refl _ _) (λj jt b0 M Ig b f a5=>by
   rcases Ig with h|h
   .cases h
   .exact f.2 (.inl (z j jt M b a5 h))) (λb f=>gF.1 λhn=>f.2 (.inr hn))
  have f5:¬Mfs sc w H (w.heap.size+1):=λh=>h.elim h9 (λhn=>hn (hw _ O));have e5:¬Mfs sc w H w.heap.size:=λh=>h.elim d3 (λhn=>hn (hw _ i5));rw [d]at hy;refine⟨c9,_,assign,body,hy,roundIn_of_wpIn h5 ?_⟩;have hr:=c5 k x I u hx Y (w.heap.size+1) (Mfs sc w H) V _ V s4;have e3:(ps.toArray.zip (ys x I).toArray).foldl (λt (p,v)=>t.setIfInBounds p v) a.tmps=(ps.zip (ys x I)).foldl (λt pv=>t.setIfInBounds pv.1 pv.2) a.tmps:=O5;have f7:w.heap.size+2<=V.heap.size:=by have:=hB.size;omega
  have h7:∀(Hn:Hp),Zqn Hn w0->∀q,lk Hn 0=some q->q.own=false:=λHn h q hq=>by rw [h.1]at hq;cases hq;rfl
  rw [show(ps.toArray.zip (ys x I).toArray).foldl (λt (x:Nat×Value)=>t.setIfInBounds x.1 x.2) a.tmps=(ps.zip (ys x I)).foldl (λt pv=>t.setIfInBounds pv.1 pv.2) a.tmps from e3];refine wpIn_mono hr ?_;rintro e a1 W2 ⟨rfl,e2,H1,d1,e6,g2,a4,d6⟩;have a6:Chg (Mfs sc w H) V W2:=a4.hold 92 _ (Yl _ _ _);have a9:W2.heap[w.heap.size+1]? = some (.loop (c .ready none)):=(a6.block _ O f5).trans f3;have g9:W2.heap[w.heap.size]? = some (.deferred (some [])):=(a6.block _ O e5).trans g7;have p1:=a4.ps d1 e6 f7 g2 z c8 a0;have i8:V.heap.size<=W2.heap.size:=a6.size;obtain⟨m,y⟩:∃m,W2.putObj (w.heap.size+1) (.loop { c .ready none with state:= .busy })=m:=⟨_,rfl⟩;have i7:Sat N sc e2 ((92,Qb m (Mfs sc w H))::H1) a1 m:=by
   have p2:=c0 _ _ p1 (.loop { c .ready none with state:= .busy });rw [y]at p2;refine(p2.sat a4.size a4.defers a4.env).add 92 (Qb m (Mfs sc w H)) (Chg.refl _ _) (λj jt b0 M Ig b f a5=>?_) (λb f=>gF.1 λhn=>f.2 (.inr hn));rcases Ig with h|h
   .cases h
   .exact f.2 (.inl (p2.mf j jt M h b a5))
  have i4:W2.heap.size=m.heap.size:=by rw [<-y];simp
  have f4:m.heap[w.heap.size+1]? = some (.loop { c .ready none with state:= .busy }):=by rw [<-y];exact World.putObj_heap_same O
  have f1:m.heap[w.heap.size]? = some (.deferred (some [])):=by rw [<-y];exact(World.putObj_heap_other O).trans g9
  refine⟨m,by rw [<-y];exact run_beginRound a9 (by rw [d]),wpIn_mono (d6 m a1 m i7) ?_⟩;have c7:∀(Hn:Hp) (env':Ob) (a3:Act) (B:World),Zqn Hn w0->FpM Hn (adds 100 (F x I) (S k u))->Sat N sc env' ((92,Qb m (Mfs sc w H))::Hn) a3 B->∀(r:Loop),
    B.heap[w.heap.size+1]? = some (.loop { c .ready none with state:= .busy })/\(((B.putObj (w.heap.size+1) (.loop r)).heap[w.heap.size+1]? = some (.loop r)/\(B.putObj (w.heap.size+1) (.loop r)).heap[w.heap.size]? = some (.deferred (some []))/\
     W1.heap.size<=(B.putObj (w.heap.size+1) (.loop r)).heap.size/\Kps sc w (Mof w H) Hn (B.putObj (w.heap.size+1) (.loop r)))/\
     Chg (λb=>((∃i q,lk H i=some q/\q.own=true/\q.fp b)\/b=w.heap.size+1)\/W1.heap.size<=b) V (B.putObj (w.heap.size+1) (.loop r))):=by
   intro Hn env' a3 B d9 g3 b3 r;have a7:Chg (Mfs sc w H) m B:=b3.hold 92 _ (Yl _ _ _);have b9:=(a7.block _ O f5).trans f4;have a8:=(a7.block _ O e5).trans f1;have g0:=a7.size;have p3:=b3.ps d9.2 (h7 Hn d9) O g3 z c8 a0;refine⟨b9,⟨World.putObj_heap_same O,(World.putObj_heap_other O).trans a8,O8,c0 _ _ p3 _⟩,?_⟩;have k0:(Qb w0 (λ_=>False)).holds V:=a2.stays hB |>.hold 0 _ (hk k u).1;have k3:(Qb w0 (λ_=>False)).holds B:=p3.hold 0 _ d9.1;refine⟨?_,?_,?_,O8,λb f hn=>?_⟩
   .exact a7.os.trans ((by rw [<-y];rfl:m.os=W2.os).trans a6.os)
   .exact a7.tape.trans ((by rw [<-y];rfl:m.tape=W2.tape).trans a6.tape)
   .exact a7.output.trans ((by rw [<-y];rfl:m.output=W2.output).trans a6.output)
   .have f0:b≠w.heap.size+1:=λe=>hn (.inl (.inr e));have g6:¬Mof w H b:=λh=>by
     rcases h with h|h
     .exact hn (.inl (.inl h))
     .exact hn (.inr O)
    refine(World.putObj_heap_other f0).trans ?_;by_cases f8:sc b
    .have e7:¬Mfs sc w H b:=λh=>h.elim g6 (λh=>h f8);refine(a7.block b O e7).trans ?_;have:m.heap[b]? = W2.heap[b]?:=by rw [<-y];exact World.putObj_heap_other f0
     exact this.trans (a6.block b f e7)
    .have e8:b<w0.heap.size:=by
      rcases bA b w0.heap.size with h|h
      .exact h
      .exact absurd (hw b h) f8
     exact(k3.block b e8 (λh=>h)).trans (k0.block b e8 (λh=>h)).symm
  rintro e a3 B (⟨rfl,e4,d8,d4,env',b3⟩|⟨rfl,gx,d8,d4,env',b3⟩)
  .obtain⟨b9,d5,d2⟩:=c7 _ env' a3 B (hk (k+1) e4) d4 b3 (c .ready none);have:=run_endRound (P:=P) none b9;rw [show({ ({ c .ready none with state:= .busy } : Loop)with state:=if(none:Option Code).isNone then LoopState.ready else .done,pending:=none } : Loop)=c .ready none by rw [d];rfl]at this;exact⟨_,_,this,.inl ⟨rfl,⟨e4,d8,d5⟩,d2⟩⟩
  .obtain⟨b9,d5,d2⟩:=c7 _ env' a3 B (h8 gx) d4 b3 (c .done (some .ret));have:=run_endRound (P:=P) (some .ret) b9;rw [show({ ({ c .ready none with state:= .busy } : Loop)with state:=if(some Code.ret).isNone then LoopState.ready else .done,pending:=some .ret } : Loop)=c .done (some .ret) by rw [d];rfl]at this;exact⟨_,_,this,.inr ⟨rfl,⟨gx,d8,d5⟩,d2⟩⟩
 .have i9:∀(Hn:Hp) (W:World),Kps sc w (Mof w H) Hn W->Kps sc w (Mof w H) Hn ((W.putObj (w.heap.size+1) (.loop (c .exhausted none))).putObj w.heap.size (.deferred none)):=λHn W h=>f6 _ _ (c0 _ _ h _) _;rintro e W2 ⟨⟨v,rfl⟩,⟨u,Y,hl,hd,f9,e1⟩|⟨gx,Y,hl,hd,f9,e1⟩⟩
  .refine⟨none,_,by have:=run_endLoop (P:=P) hl (by rw [d];simp);rw [d]at this;exact this,?_⟩;obtain⟨B,c4⟩:∃B,W2.putObj (w.heap.size+1) (.loop (c .exhausted none))=B:=⟨_,rfl⟩;have p3:=c0 _ _ e1 (.loop (c .exhausted none));rw [c4]at p3;have a8:B.heap[w.heap.size]? = some (.deferred (some [])):=by rw [<-c4];exact(World.putObj_heap_other O).trans hd
   have g0:B.heap.size=W2.heap.size:=by rw [<-c4];simp
   rw [show W2.putObj (w.heap.size+1) (.loop { state:= .exhausted,pending:=none,fn:=c9,tmps:=a.tmps,params:=ps.toArray,assign:=assign,body:=body,defers:=w.heap.size })=B by rw [<-c4,d]];have s3:Sat N sc env (S xs.length u) { tmps:=a.tmps,defers:=[] } B:=p3.sat hs.size rfl hs.env;have s4:Sat N sc env ((92,fx w.heap.size (.deferred (some [])))::S xs.length u) { tmps:=a.tmps,defers:=[] } B:=s3.add 92 _ a8 (λj jt b0 M Ig b f a5=>by
    rcases Ig with h|h
    .cases h
    .have f:b=w.heap.size:=f;subst f;exact d3 (p3.mf j jt M h _ a5)) (λb f=>hw b (by have f:b=w.heap.size:=f;omega))
   rw [hs.defers];refine wp_seq (wp_region_lit (Zqg (P:=P) (ops:=lc.toArray) (Q:=Exit.then (Code.ret.wp P (Zid P fn w0 preF al φ Yq R)) (Zid P fn w0 preF al φ Yq R)) (ds:=[{ target:= .collected w.heap.size,args:=#[] }]) lc { tmps:=a.tmps,defers:=[] } B i0 ?_));refine Im (λe a' W' h=>?_) lc _ B (hC u Y _ _ _ B s4);cases e with
   | normal=>
    obtain⟨-,b5,H2,d1,h6,b4,hx⟩:=h;refine wp_ret (Zuj (b4.hold 92 _ (Yl _ _ _)) ?_);have a9:∀i s,lk H2 i=some s->lk ((92,fx w.heap.size (.deferred (some [])))::H2) i=some s:=λi s hi=>by
     by_cases h1:92=i
     .subst h1;rw [d1]at hi;cases hi
     .rw [Zy _ _ h1];exact hi
    refine hx _ _ ⟨b4.size,rfl,b4.env,λi s hi=>s.stable _ _ (b4.hold i s (a9 i s hi)) ⟨rfl,rfl,rfl,O5,λk hk hn=>World.putObj_heap_other (λe=>hn λhf=>?_)⟩,λi j s jt b0 hi M=>b4.sep i j s jt b0 (a9 i s hi) (a9 j jt M),λi s b7 hi=>b4.scope i s b7 (a9 i s hi)⟩;subst e;obtain⟨q,hq,j0,f2⟩:=h6.lk i s hi;cases b1:q.own with
    | true=>exact d3 (p3.mf i q hq b1 _ (f2 _ hf))
    | false=>rcases p3.off i q hq b1 _ (f2 _ hf)with h|h<;>omega
   | _=>exact h.elim
  .refine⟨some .ret,_,by have:=run_endLoop (P:=P) hl (by rw [d];simp);rw [d]at this;exact this,wpIn_ret ?_⟩;have p3:=c0 _ _ e1 (.loop { c .done (some .ret)with state:= .exhausted });have a8:(W2.putObj (w.heap.size+1) (.loop { c .done (some .ret)with state:= .exhausted })).heap[w.heap.size]? = some (.deferred (some [])):=(World.putObj_heap_other O).trans hd;rw [d]at p3 a8;rw [hs.defers];exact Zuj a8 (hX gx Y _ _ ((f6 _ _ p3 _).sat hs.size rfl hs.env))
end Go.Sky
namespace Go.Sky
open Go.RowKit (Below)
variable{o:Oper}{x:Operand}{k:IntKind}{cs:Array Value}
variable {P:Program} {N:Nat} {sc:Nat->Prop} {env env':Ob} {H H':Hp} {Q Q':Exit->Act->World->Prop} {M:Nat->Prop}
theorem f_new{w0:World}{p:Pc}(i:Nat)(hi:lk H i=some p)(f:p.own=true)(d:lk H 0=some (Qb w0 (λ_=>False)))(c:i≠0:=by decide):∀a w,Sat N sc env H a w->∀b,p.fp b->w0.heap.size<=b:=λa w hs b e=>by
  rcases bA b w0.heap.size with h|h
  . exact(hs.sep i 0 p _ c hi d f b e ⟨h,λh=>h⟩).elim
  . exact h
theorem Yej {fn:Func} {pre:List Pc} {G:Type} {φ:G->Prop} {Yq:G->Value} {c:G->List Pc} {w0:World} {e:Exit} (B:e= .ret\/e= .normal)
    (g:G) (v:Value) (n:∀p∈c g,∀b,p.fp b->w0.heap.size<=b) (j:∀a w,Sat N sc env H a w->(results fn a.tmps).run P w= .ok v w) (R:Yq g=v) (F:φ g) (t:lk H 0=some (Qb w0 (λ_=>False))) (d:Give H true (c g)) :
    X N sc e (Zdj P fn w0 pre false φ Yq c) env H:=λa w hs=>by
  have l : a.defers = [] /\ ∃ v, (results fn a.tmps).run P w = .ok v w /\ (∃ g, Ending.returned v = .returned (Yq g) /\ φ g /\ Below w0.heap.size w0 w /\
        ∀p∈c g,p.holds w/\p.own=false/\∀b,p.fp b->w0.heap.size<=b\/(false=true/\∃q∈pre,q.fp b)):=by
    refine⟨hs.defers,v,j a w hs,g,by rw [R],F,Gv (hs.hold 0 _ t),λp s=>?_⟩;obtain⟨r,h|⟨u,y⟩⟩:=d.mem p s
    case inr=>exact⟨u w,r,λb m=>absurd m (y b)⟩
    obtain⟨i,S,I,hi,f,D,z⟩:=h;exact⟨f w (hs.hold i S hi),r,λb m=> .inl (n p s b m)⟩
  rcases B with rfl|rfl
  . exact l
  . exact l
section
variable {f:FuncId} {xs:List Operand} {ats:Array TypeId} {d:Nat} {vs:List Value} {pre:List Pc} {G:Type} {φ:G->Prop} {Yq:G->Value} {its:G->List Pc} {w0:World} {M0:Nat->Prop} {ty:TypeId} {pos:String} {af:Array Edge} {g:Option (Nat×Bool)}
theorem Ylz  {n:Nat} (Z:Cal P f vs.toArray pre false φ Yq its)
    (ho:o.op= .call { callee:= .value (.func f),args:=xs.toArray,argTypes:=ats }) (hd:o.dst=some d) (Y:Nat.blt d N=true)
    (r:EvL env xs vs) (t:∀args w,(callFunc f args).run P w= .ok (.enter f args) w) (v:PreOk H false pre)
    (R:lk H 0=some (Qb w0 M0)) (hw:∀b,w0.heap.size<=b->sc b) :
    T P N sc M o env H (λg=>φ g/\∀p∈its g,∀b,p.fp b->w0.heap.size<=b) (λg=>(d,Yq g)::env) (λg=>adds n (its g) H):=λa w hs K Q W=>by
  have B:w0.heap.size<=w.heap.size:=(hs.hold 0 _ R).size;have hr:(execOp a.eval o).run P w= .ok (.enter f vs.toArray) w:=by have hm:=r.map hs;simp [execOp,ho,resolve,invoke,Act.eval,Deferred.ofValue,hm,t]
  unfold Oper.wp;rw [hr];refine(Z w (λp l=>by obtain⟨i,it,_,hi,u,_,_⟩:=v.mem p l;exact u w (hs.hold i it hi))).mono ?_
  rintro e I ⟨g,rfl,hg,m,q⟩;show K (a.put o.dst (Yq g)) I;rw [hd];have z:Sat N sc env H a I:=hs.chg0 (Chg.of_below m);have c:∀p∈its g,∀b,p.fp b->w.heap.size<=b:=λp l b s=>by
    rcases(q p l).2.2 b s with h|⟨h,_⟩
    . exact h
    . cases h
  refine W g _ _ ⟨hg,λp l b s=>aB B (c p l b s)⟩ (Sat.put (z.adds (w1:=w) (its g) n ?_) d _ Y) (Chg.of_below m);intro p l;obtain⟨S,V,h3⟩:=q p l;refine⟨S,V,λb s=>hw b (aB B (c p l b s)),λj F hj D b s y=>?_⟩;have:=F.lt w b (hs.hold j F hj) y;have:=c p l b s;omega
def Ycj(n:Nat)(a:List Nat)(e:Cal P f vs.toArray pre false φ Yq its){c:G->Hp}[hx:EvI env xs vs][hf:CalF P f][hp:PreL P H false a pre][h0:Som (lk2 H 0) (Qb w0 M0)][hN:TB (ltb d N)][hw:Hw w0 sc][ha:∀g,AddI n (its g) H (c g)] :
    T P N sc M ⟨some d,.call { callee:= .value (.func f),args:=xs.toArray,argTypes:=ats },ty,pos,af,g⟩ env H (λg=>φ g/\∀p∈its g,∀b,p.fp b->w0.heap.size<=b) (λg=>(d,Yq g)::env) c:=
  (Ylz (n:=n) e rfl rfl (Nm hN.h) hx.h hf.h hp.h h0.l hw.h).conv λg=>(ha g).h
end
theorem hw_up{w0 W:World}(h:Hw w0 sc)(a:w0.heap.size<=W.heap.size):Hw W sc:=⟨λb c=>h.h b (aB a c)⟩
theorem Zop  {y:Operand} {ats:Array TypeId}  {m n:Int} (b:o.op= .call { callee:= .builtin .min,args:=#[x,y],argTypes:=ats })
    (c:ev env x=some (.int k m)) (e:ev env y=some (.int k n)):Mz P N sc o env H (.int k (min m n)):=λa w hs=>by
  simp [execOp,b,resolve,hs.ev c,hs.ev e,invoke,builtin,Builtin.min_,Builtin.min2];by_cases h:n<m
  . rw [aG h];omega
  . rw [aD h];omega
theorem d_lbw   {t p:TypeId} {i b k:Nat}  (h:o.op= .load t x) (m:ev env x=some (.pointer (some ⟨b,0,none⟩))) (a:lk H i=some (box b p cs)) (j:∀w,(isAgg t).run P w= .ok true w) (c:∀w,(sizeOf t).run P w= .ok k w)
    (e:cs.size=k):Mz P N sc o env H (.agg cs):=by
  have:=Ya4 (P:=P) (N:=N) (sc:=sc) (vs:=cs.toList) h m a j c (by simpa using e) (λn u l=>by rw [bX];simpa using l);simpa using this
end Go.Sky
namespace Go.Sky
variable{p:Zt->Bool}{i id:Nat}{d:Zt}{c:List Int}{ov b M x0 x1 x2 x3 a:Int}{x y:Code}{ops:List Oper}{zs:List Zt}
abbrev Zvp:=(Int×Int×Int)×List Int×List Int×List Int
def unS(g:Zt):Zvp:=(g.1,g.2.1.2,g.2.2.1.2,g.2.2.2.2)
abbrev cA (fr:Int) (g:Zt):Int:=max fr g.1.1
abbrev cB (e:Int) (g:Zt):Int:=min e g.1.2.1
abbrev cX (fr e:Int) (g:Zt) (c:List Int):List Int:=Pb c (cA fr g-g.1.1) (cB e g-cA fr g) (g.1.2.1-g.1.1)
abbrev cO (g:Zt):Int:=g.1.2.2*(g.1.2.1-g.1.1)^5
def cG(fr e:Int)(g:Zt):Int:=Km (cO g) (cX fr e g g.2.1.2) (cX fr e g g.2.2.1.2) (cX fr e g g.2.2.2.2)
def Kw(fr e:Int)(g:Zt):Bool:=decide (cA fr g<cB e g)
def Zgy(fr e:Int)(g:Zt):Bool:=decide (cO g/cG fr e g<=4294967296)
def Zu3(fr e:Int)(g:Zt):Zvp:=((cA fr g,cB e g,mdO (cO g) (cG fr e g)),mdL (cO g) (cG fr e g) (cX fr e g g.2.1.2),mdL (cO g) (cG fr e g) (cX fr e g g.2.2.1.2),mdL (cO g) (cG fr e g) (cX fr e g g.2.2.2.2))
def MdG(fr e:Int)(g:Zt):Prop:=Mdh (cO g) (cX fr e g g.2.1.2) (cX fr e g g.2.2.1.2) (cX fr e g g.2.2.2.2)
theorem Zqr{ps:List Zt}(hi:i<ps.length)(f:p (ps.getD i d)=true):(ps.filter p)[((ps.take i).filter p).length]? = some (ps.getD i d):=by
 have h:=fM i ps;have e:ps.drop i=ps.getD i d::ps.drop (i+1):=by rw [aI,aN hi,fP];exact eO hi
 conv=>lhs;arg 1;rw [<-h,e]
 rw [iO,fI f];simp
theorem fl_t{ps:List Zt}(hi:i<ps.length)(e:p (ps.getD i d)=true):((ps.take (i+1)).filter p).length=((ps.take i).filter p).length+1:=by rw [Py d _ _ hi,iO,fI e,aY];rfl
theorem fl_f{ps:List Zt}(hi:i<ps.length)(e:p (ps.getD i d)=false):((ps.take (i+1)).filter p).length=((ps.take i).filter p).length:=by rw [Py d _ _ hi,iO,iK (by rw [e];exact dC),aY];rfl
def Ziq{d:Int}(h:1<=d/\d<=3600000):bl (d^5).natAbs<=132:=Zou (Zb8 O) 5 (aH _)
theorem Yj3{W:Nat}{H:Hp}{l m n:SL}{g j k:List Int}(h:∀p∈[Yw 1 Yk (Xq l) g,Yw 1 Yk (Xq m) j,Yw 1 Yk (Xq n) k],∀b,p.fp b->W<=b)(i:Nat)(q:lk H i=some (Yw 1 Yk (Xq l) g))(r:lk H (i+1)=some (Yw 1 Yk (Xq m) j))(s:lk H (i+2)=some (Yw 1 Yk (Xq n) k)) :
  ∀p∈[Yw 1 Yk (Xq l) g,Yw 1 Yk (Xq m) j,Yw 1 Yk (Xq n) k],p.own=false/\(∀b,p.fp b->W<=b)/\∃i o,lk H i=some o/\∀w,o.holds w->p.holds w:=λp f=>by
 have e:=h p f;simp only [bQ,fQ,lC]at f;rcases f with rfl|rfl|rfl
 .exact⟨rfl,e,_,_,q,λ_ h=>h⟩
 .exact⟨rfl,e,_,_,r,λ_ h=>h⟩
 .exact⟨rfl,e,_,_,s,λ_ h=>h⟩
theorem cut_b{fr f:Int}{g:Zt}(e:SgG g)(h:Kw fr f g=true):(cA fr g-g.1.1).natAbs<=3600000/\(cB f g-cA fr g).natAbs<=3600000/\Nx (cA fr g-g.1.1)/\Nx (cB f g-cA fr g):=by have m:=cC h;have j:=e.t1;have k:=e.t2;have l:=e.t3;unfold cA cB at *;exact⟨O,O,⟨O,O⟩,⟨O,O⟩⟩
def Ylm:∀n,n<6->∀j,j<n+1->∀k,k<j+1->(Oq n j:Int)*w60 n j k=60*(Oq (n-k) (j-k):Int):=O6
theorem Zex(f:Nat->Int)(a:Int):∀m,Ye (λk=>a*f k) m=a*Ye f m
 | 0=>by show(0:Int)=a*0;omega
 | m+1=>by rw [Yi,Yi,Zex f a m,kK]
theorem Yoj(g:1<=c.length/\c.length<=6){j:Nat}(e:j<c.length):(Oq (c.length-1) j:Int)*ctl c j (j+1)=60*Ha (c.length-1) c j:=by unfold ctl Ha;rw [<-Zex,<-Zex];refine Xa λk f=>?_;have:=Ylm (c.length-1) O j O k O;show(Oq (c.length-1) j:Int)*(cf c k*w60 (c.length-1) j k)=60*(cf c k*_);rw [lS,this,lS]
theorem Ykh{n j:Nat}(h:j<n+1):(0:Int)<(Oq n j:Int):=by have:=Zjz (n:=n) (k:=j) O;omega
theorem Ybw(s:1<=c.length/\c.length<=6) : Zmo c ov=true↔∀j,j<c.length->((Ha (c.length-1) c j).natAbs:Int)<=1048576*ov*(Oq (c.length-1) j:Int):=by
 have f:∀j,j<c.length->((((ctl c j (j+1)).natAbs:Int)<=62914560*ov)↔((Ha (c.length-1) c j).natAbs:Int)<=1048576*ov*(Oq (c.length-1) j:Int)):=λj e=>by
  have o:=Yoj s e;have k:=Ykh (n:=c.length-1) (j:=j) O;have l:=aF Int.natAbs o;rw [cF,cF,dD]at l;generalize (ctl c j (j+1)).natAbs=x at *;generalize (Ha (c.length-1) c j).natAbs=y at *;generalize Oq (c.length-1) j=q at *;have m:(q:Int)*(x:Int)=60*(y:Int):=by exact_mod_cast l
  constructor
  .intro h;have g:=iL h (eA k);rw [m]at g;have r:(q:Int)*(62914560*ov)=60*(1048576*ov*q):=O4;omega
  .intro h;have g:60*(y:Int)<=(q:Int)*(62914560*ov):=by have r:(q:Int)*(62914560*ov)=60*(1048576*ov*q):=O4;omega
   rw [<-m]at g;exact lJ g k
 constructor
 .intro h j e;unfold Zmo at h;rw [cP]at h;exact(f j e).1 (cC (h j (fX.2 e)))
 .intro h;exact Zxz λj e=>(f j e).2 (h j e)
def Xz{x:Int} : ((x.natAbs:Int)<=b)↔(-b<=x/\x<=b):=O
def cfb0(f:0<=M)(e:-(M*1)<=(x0*1)/\(x0*1)<=M*1):(-(2047*M)<=x0/\x0<=2047*M):=O
def bre00(c:List Int):Ha 0 c 0=cf c 0*1:=O10
theorem cfb1(g:0<=M)(e:-(M*1)<=(x0*1)/\(x0*1)<=M*1)(f:-(M*1)<=(x0*1+x1*1)/\(x0*1+x1*1)<=M*1):(-(2047*M)<=x0/\x0<=2047*M)/\(-(2047*M)<=x1/\x1<=2047*M):=by refine⟨⟨?_,?_⟩,⟨?_,?_⟩⟩<;>omega
def bre10(c:List Int):Ha 1 c 0=cf c 0*1:=O10
def bre11(c:List Int):Ha 1 c 1=cf c 0*1+cf c 1*1:=O10
theorem cfb2(h:0<=M)(e:-(M*1)<=(x0*1)/\(x0*1)<=M*1)(f:-(M*2)<=(x0*2+x1*1)/\(x0*2+x1*1)<=M*2)(g:-(M*1)<=(x0*1+x1*1+x2*1)/\(x0*1+x1*1+x2*1)<=M*1):(-(2047*M)<=x0/\x0<=2047*M)/\(-(2047*M)<=x1/\x1<=2047*M)/\(-(2047*M)<=x2/\x2<=2047*M):=by refine⟨⟨?_,?_⟩,⟨?_,?_⟩,⟨?_,?_⟩⟩<;>omega
def bre20(c:List Int):Ha 2 c 0=cf c 0*1:=O10
def bre21(c:List Int):Ha 2 c 1=cf c 0*2+cf c 1*1:=O10
def bre22(c:List Int):Ha 2 c 2=cf c 0*1+cf c 1*1+cf c 2*1:=O10
theorem cfb3(j:0<=M)(e:-(M*1)<=(x0*1)/\(x0*1)<=M*1)(f:-(M*3)<=(x0*3+x1*1)/\(x0*3+x1*1)<=M*3)(g:-(M*3)<=(x0*3+x1*2+x2*1)/\(x0*3+x1*2+x2*1)<=M*3)(h:-(M*1)<=(x0*1+x1*1+x2*1+x3*1)/\(x0*1+x1*1+x2*1+x3*1)<=M*1):(-(2047*M)<=x0/\x0<=2047*M)/\(-(2047*M)<=x1/\x1<=2047*M)/\(-(2047*M)<=x2/\x2<=2047*M)/\(-(2047*M)<=x3/\x3<=2047*M):=by refine⟨⟨?_,?_⟩,⟨?_,?_⟩,⟨?_,?_⟩,⟨?_,?_⟩⟩<;>omega
def bre30(c:List Int):Ha 3 c 0=cf c 0*1:=O10
def bre31(c:List Int):Ha 3 c 1=cf c 0*3+cf c 1*1:=O10
def bre32(c:List Int):Ha 3 c 2=cf c 0*3+cf c 1*2+cf c 2*1:=O10
def bre33(c:List Int):Ha 3 c 3=cf c 0*1+cf c 1*1+cf c 2*1+cf c 3*1:=O10
theorem cfb4{e:Int}(l:0<=M)(f:-(M*1)<=(x0*1)/\(x0*1)<=M*1)(g:-(M*4)<=(x0*4+x1*1)/\(x0*4+x1*1)<=M*4)(h:-(M*6)<=(x0*6+x1*3+x2*1)/\(x0*6+x1*3+x2*1)<=M*6)(j:-(M*4)<=(x0*4+x1*3+x2*2+x3*1)/\(x0*4+x1*3+x2*2+x3*1)<=M*4)(k:-(M*1)<=(x0*1+x1*1+x2*1+x3*1+e*1)/\(x0*1+x1*1+x2*1+x3*1+e*1)<=M*1):(-(2047*M)<=x0/\x0<=2047*M)/\(-(2047*M)<=x1/\x1<=2047*M)/\(-(2047*M)<=x2/\x2<=2047*M)/\(-(2047*M)<=x3/\x3<=2047*M)/\(-(2047*M)<=e/\e<=2047*M):=by refine⟨⟨?_,?_⟩,⟨?_,?_⟩,⟨?_,?_⟩,⟨?_,?_⟩,⟨?_,?_⟩⟩<;>omega
def bre40(c:List Int):Ha 4 c 0=cf c 0*1:=O10
def bre41(c:List Int):Ha 4 c 1=cf c 0*4+cf c 1*1:=O10
def bre42(c:List Int):Ha 4 c 2=cf c 0*6+cf c 1*3+cf c 2*1:=O10
def bre43(c:List Int):Ha 4 c 3=cf c 0*4+cf c 1*3+cf c 2*2+cf c 3*1:=O10
def bre44(c:List Int):Ha 4 c 4=cf c 0*1+cf c 1*1+cf c 2*1+cf c 3*1+cf c 4*1:=O10
theorem cfb5{e f:Int}(n:0<=M)(g:-(M*1)<=(x0*1)/\(x0*1)<=M*1)(h:-(M*5)<=(x0*5+x1*1)/\(x0*5+x1*1)<=M*5)(j:-(M*10)<=(x0*10+x1*4+x2*1)/\(x0*10+x1*4+x2*1)<=M*10)(k:-(M*10)<=(x0*10+x1*6+x2*3+x3*1)/\(x0*10+x1*6+x2*3+x3*1)<=M*10)(l:-(M*5)<=(x0*5+x1*4+x2*3+x3*2+e*1)/\(x0*5+x1*4+x2*3+x3*2+e*1)<=M*5)(m:-(M*1)<=(x0*1+x1*1+x2*1+x3*1+e*1+f*1)/\(x0*1+x1*1+x2*1+x3*1+e*1+f*1)<=M*1):(-(2047*M)<=x0/\x0<=2047*M)/\(-(2047*M)<=x1/\x1<=2047*M)/\(-(2047*M)<=x2/\x2<=2047*M)/\(-(2047*M)<=x3/\x3<=2047*M)/\(-(2047*M)<=e/\e<=2047*M)/\(-(2047*M)<=f/\f<=2047*M):=by refine⟨⟨?_,?_⟩,⟨?_,?_⟩,⟨?_,?_⟩,⟨?_,?_⟩,⟨?_,?_⟩,⟨?_,?_⟩⟩<;>omega
def bre50(c:List Int):Ha 5 c 0=cf c 0*1:=O10
def bre51(c:List Int):Ha 5 c 1=cf c 0*5+cf c 1*1:=O10
def bre52(c:List Int):Ha 5 c 2=cf c 0*10+cf c 1*4+cf c 2*1:=O10
def bre53(c:List Int):Ha 5 c 3=cf c 0*10+cf c 1*6+cf c 2*3+cf c 3*1:=O10
def bre54(c:List Int):Ha 5 c 4=cf c 0*5+cf c 1*4+cf c 2*3+cf c 3*2+cf c 4*1:=O10
def bre55(c:List Int):Ha 5 c 5=cf c 0*1+cf c 1*1+cf c 2*1+cf c 3*1+cf c 4*1+cf c 5*1:=O10
theorem cf_brS{n:Nat}(s:n<6)(u:c.length<=n+1)(h:∀j,j<n+1->((Ha n c j).natAbs:Int)<=M*(Oq n j:Int))(k:Nat):((cf c k).natAbs:Int)<=2047*M:=by
 have o:0<=M:=by have f:=h 0 O;rw [Zmi]at f;omega
 by_cases t:k<n+1
 .rw [Xz]
  match n,s with
  | 0,_=>
   have f:=Xz.1 (h 0 O3);rw [bre00,show(Oq 0 0:Int)=1 from rfl]at f;have e:=cfb0 o f;obtain rfl:k=0:=O;exact e
  | 1,_=>
   have f:=Xz.1 (h 0 O3);rw [bre10,show(Oq 1 0:Int)=1 from rfl]at f;have g:=Xz.1 (h 1 O3);rw [bre11,show(Oq 1 1:Int)=1 from rfl]at g;have e:=cfb1 o f g;rcases(show k=0\/k=1 by omega)with rfl|rfl
   .exact e.1
   .exact e.2
  | 2,_=>
   have f:=Xz.1 (h 0 O3);rw [bre20,show(Oq 2 0:Int)=1 from rfl]at f;have g:=Xz.1 (h 1 O3);rw [bre21,show(Oq 2 1:Int)=2 from rfl]at g;have l:=Xz.1 (h 2 O3);rw [bre22,show(Oq 2 2:Int)=1 from rfl]at l;have e:=cfb2 o f g l;rcases(show k=0\/k=1\/k=2 by omega)with rfl|rfl|rfl
   .exact e.1
   .exact e.2.1
   .exact e.2.2
  | 3,_=>
   have f:=Xz.1 (h 0 O3);rw [bre30,show(Oq 3 0:Int)=1 from rfl]at f;have g:=Xz.1 (h 1 O3);rw [bre31,show(Oq 3 1:Int)=3 from rfl]at g;have l:=Xz.1 (h 2 O3);rw [bre32,show(Oq 3 2:Int)=3 from rfl]at l;have m:=Xz.1 (h 3 O3);rw [bre33,show(Oq 3 3:Int)=1 from rfl]at m;have e:=cfb3 o f g l m;rcases(show k=0\/k=1\/k=2\/k=3 by omega)with rfl|rfl|rfl|rfl
   .exact e.1
   .exact e.2.1
   .exact e.2.2.1
   .exact e.2.2.2
  | 4,_=>
   have f:=Xz.1 (h 0 O3);rw [bre40,show(Oq 4 0:Int)=1 from rfl]at f;have g:=Xz.1 (h 1 O3);rw [bre41,show(Oq 4 1:Int)=4 from rfl]at g;have l:=Xz.1 (h 2 O3);rw [bre42,show(Oq 4 2:Int)=6 from rfl]at l;have m:=Xz.1 (h 3 O3);rw [bre43,show(Oq 4 3:Int)=4 from rfl]at m;have q:=Xz.1 (h 4 O3);rw [bre44,show(Oq 4 4:Int)=1 from rfl]at q;have e:=cfb4 o f g l m q;rcases(show k=0\/k=1\/k=2\/k=3\/k=4 by omega)with rfl|rfl|rfl|rfl|rfl
   .exact e.1
   .exact e.2.1
   .exact e.2.2.1
   .exact e.2.2.2.1
   .exact e.2.2.2.2
  | 5,_=>
   have f:=Xz.1 (h 0 O3);rw [bre50,show(Oq 5 0:Int)=1 from rfl]at f;have g:=Xz.1 (h 1 O3);rw [bre51,show(Oq 5 1:Int)=5 from rfl]at g;have l:=Xz.1 (h 2 O3);rw [bre52,show(Oq 5 2:Int)=10 from rfl]at l;have m:=Xz.1 (h 3 O3);rw [bre53,show(Oq 5 3:Int)=10 from rfl]at m;have q:=Xz.1 (h 4 O3);rw [bre54,show(Oq 5 4:Int)=5 from rfl]at q;have r:=Xz.1 (h 5 O3);rw [bre55,show(Oq 5 5:Int)=1 from rfl]at r;have e:=cfb5 o f g l m q r;rcases(show k=0\/k=1\/k=2\/k=3\/k=4\/k=5 by omega)with rfl|rfl|rfl|rfl|rfl|rfl
   .exact e.1
   .exact e.2.1
   .exact e.2.2.1
   .exact e.2.2.2.1
   .exact e.2.2.2.2.1
   .exact e.2.2.2.2.2
 .rw [Yf O];simp;omega
structure AxC (c:List Int) (ov:Int):Prop where
 l:1<=c.length/\c.length<=6
 t:¬(1<c.length/\c.getD (c.length-1) 0=0)
 b:∀j,j<c.length->((Ha (c.length-1) c j).natAbs:Int)<=1048576*ov*(Oq (c.length-1) j:Int)
theorem AxC.of(h:axB c ov=true):AxC c ov:=by unfold axB at h;simp only [aS,gC,iW,dW,gD]at h;have g:1<=c.length/\c.length<=6:=⟨h.1.1.1,h.1.1.2⟩;exact⟨g,λf=>by rcases h.1.2 with e|e;exact e f.1;exact e f.2,(Ybw g).1 h.2⟩
def AxC.to(h:AxC c ov):axB c ov=true:=Yb7 h.l.1 h.l.2 h.t ((Ybw h.l).2 h.b)
def tzl_nz(e:c.getD (c.length-1) 0≠0):tzl c=c:=Zal (.inr e)
theorem Yk3(h:AxC c ov):(tzl c=c)\/c=[0]:=by
 by_cases e:c.getD (c.length-1) 0=0
 .have j:c.length=1:=by
   have k:=h.l;have f:=h.t;by_cases g:1<c.length
   .exact absurd ⟨g,e⟩ f
   .omega
  right
  match c,j with
  | [x],_=>simp at e;rw [e]
 .exact .inl (tzl_nz e)
theorem Zf0(h:AxC c ov){d:Int}{t u:Rat}(f:t*(d:Rat)=(a:Rat)+(b:Rat)*u):Zf (Pb c a b d) u=(d:Rat)^5*Zf c t:=by
 unfold Pb;rw [Ze4];rcases Yk3 h with e|e
 .have g:=h.l;rw [e,Zk1 a b d f O,Zde];have:(d:Rat)^5=(d:Rat)^(6-c.length)*(d:Rat)^(c.length-1):=by rw [<-Yca];congr 1;omega
  rw [this];grind
 .subst e;rw [show tzl [0]=[]from by decide,show Lc [] a b d=[]from rfl];show _*(0:Rat)=_*(((0:Int):Rat)+t*0);push_cast;grind
def Zgk(a b d:Int):(Pb c a b d).length<=c.length:=aB (Pu _ _) (aB (Ze8 _ _ _ _) (Mo c))
theorem Ybv(h:AxC c ov){d:Int}(f:0<=a)(g:0<=b)(e:a+b<=d)(k:0<d):∀j,j<c.length->((Ha (c.length-1) (Pb c a b d) j).natAbs:Int)<=1048576*(ov*d^5)*(Oq (c.length-1) j:Int):=λj l=>by have r:=h.l;have q:=Zgk (c:=c) a b d;have:=Ypd (c:=c) (X:=Pb c a b d) (n:=c.length-1) (m:=5) (B:=1048576*ov) O O f g e k (λt u o=>Zf0 h o) (λj l=>h.b j O) j O;rw [eD]at this;rw [eD];rw [eD,<-eD ov]at this;exact this
theorem cf_cmp(h:AxC c ov){d:Int}(f:0<=a)(g:0<=b)(e:a+b<=d)(l:0<d)(k:Nat):((cf (Pb c a b d) k).natAbs:Int)<=ov*d^5*2146435072:=by have q:=h.l;have m:=Zgk (c:=c) a b d;have:=cf_brS (n:=c.length-1) O (c:=Pb c a b d) O (M:=1048576*(ov*d^5)) (λj o=>Ybv h f g e l j O) k;omega
theorem Zv4{g:Zt}(h:seB g=true):AxC g.2.1.2 g.1.2.2/\AxC g.2.2.1.2 g.1.2.2/\AxC g.2.2.2.2 g.1.2.2:=by have e:Cg g.1.1 g.1.2.1 g.1.2.2 g.2.1.2 g.2.2.1.2 g.2.2.2.2=true:=h;unfold Cg at e;simp only [aS]at e;exact⟨.of e.1.1.1.2,.of e.1.1.2,.of e.1.2⟩
theorem Yj2{fr e:Int}{g:Zt}(f:SgG g)(h:Kw fr e g=true):0<=cA fr g-g.1.1/\0<cB e g-cA fr g/\(cA fr g-g.1.1)+(cB e g-cA fr g)<=g.1.2.1-g.1.1/\0<g.1.2.1-g.1.1:=by have l:=cC h;have j:=f.t1;have k:=f.t2;unfold cA cB at *;exact⟨O,O,O,O⟩
theorem Zww{fr s:Int}{g:Zt}(hi:Gin g)(hs:seB g=true)(h:Kw fr s g=true):MdG fr s g:=by
 have f:SgG g:=Ib hi hs;obtain⟨w,z,B⟩:=Zv4 hs;obtain⟨D,F,G,H⟩:=Yj2 f h;obtain⟨q,r,-,-⟩:=cut_b f h;have R:=f.t3;have Q:=f.t1;have N:=f.o1;have P:=f.o2;have j:1<=g.1.2.1-g.1.1/\g.1.2.1-g.1.1<=3600000:=⟨O,O⟩;have t:=Zh7 f.hx f.lx q r j;have u:=Zh7 f.hy f.ly q r j;have v:=Zh7 f.hz f.lz q r j;have o:0<cO g:=iA O (kN O);have n:((cO g).natAbs:Int)=cO g:=O;have m:∀{c:List Int},AxC c g.1.2.2->∀k,(cf (cX fr s g c) k).natAbs<=(cO g).natAbs*2146435072:=λI k=>by
  have:=cf_cmp I D (eA F) G H k;have e:(((cO g).natAbs*2146435072:Nat):Int)=cO g*2146435072:=by rw [eW,n];rfl
  refine kX.1 ?_;rw [e];exact this
 refine⟨o,?_,λi=>?_,λi=>?_,λi k=>?_⟩
 .have S:bl g.1.2.2.natAbs<=40:=(Qm 40 _).2 O;have V:=Ziq j;have:=Yo g.1.2.2 ((g.1.2.1-g.1.1)^5);show bl (g.1.2.2*(g.1.2.1-g.1.1)^5).natAbs<=1000;omega
 .exact Cf (p:=λl:List Int=>Sz 1000 l) t.2.2.2.2.2.2.1 u.2.2.2.2.2.2.1 v.2.2.2.2.2.2.1
 .exact Cf (p:=λl:List Int=>l.length<=6) t.2.2.2.2.2.2.2 u.2.2.2.2.2.2.2 v.2.2.2.2.2.2.2
 .exact Cf (p:=λl:List Int=>(cf l k).natAbs<=(cO g).natAbs*2146435072) (m w k) (m z k) (m B k)
open Go.RowKit (Below)
variable {P:Program} {N:Nat} {sc:Nat->Prop} {env env':Ob} {H H':Hp} {Q Q':Exit->Act->World->Prop} {l:Nat}
def ER(P:Program)(N:Nat)(sc:Nat->Prop)(l:Nat)(c:Code)(Q:Exit->Act->World->Prop)(env:Ob)(H:Hp):Prop:=
 ∀a w,Sat N sc env H a w->c.wpIn (Fence.wide.inRound l) 0 P Q a w
def ndB(o:Oper):Bool:=match o.op with
 | .defer _=>false
 | _=>true
theorem Zod(h:ops.all ndB=true):Zp8 ops:=λo f c e=>by have:=cP.1 h o f;unfold ndB at this;rw [e]at this;cases this
def Zxb(e:ops.all ndB=true)(h:L P N sc ops.toArray ops (Ez (Exit.then (λa w=>y.wpIn (Fence.wide.inRound l) 0 P Q a w) Q)) env H):ER P N sc l (.seq (.region id ops.toArray false) y) Q env H:=
 λa w hs=>wpIn_seq (Yge (Zod e) h hs)
def Yao(e:ops.all ndB=true)(h:L P N sc ops.toArray ops (Ez Q) env H):ER P N sc l (.region id ops.toArray false) Q env H:=
 λa w hs=>Yge (Zod e) h hs
def x_er(h:ER P N sc l y Q env H):X N sc .normal (Ez (Exit.then (λa w=>y.wpIn (Fence.wide.inRound l) 0 P Q a w) Q)) env H:=λa w hs=>h a w hs
def x_en(h:∀a w,Sat N sc env H a w->Q .normal a w):X N sc .normal (Ez Q) env H:=λa w hs=>h a w hs
def er_seq(h:ER P N sc l x (Exit.then (λa w=>y.wpIn (Fence.wide.inRound l) 0 P Q a w) Q) env H):ER P N sc l (.seq x y) Q env H:=λa w hs=>wpIn_seq (h a w hs)
def Yjd{c:Code}(h:ER P N sc l c (Exit.inBlock id Q) env H):ER P N sc l (.block id c) Q env H:=λa w hs=>wpIn_block (h a w hs)
theorem Yjc{c:Operand}{b:Bool}(e:ev env c=some (.bool b))(g:b=true->ER P N sc l x Q env H)(f:b=false->ER P N sc l y Q env H):ER P N sc l (.cond c x y) Q env H:=λa w hs=>by
 cases b with
 | true=>exact wpIn_cond_true (hs.ev e) (g rfl a w hs)
 | false=>exact wpIn_cond_false (hs.ev e) (f rfl a w hs)
def Yn1(h:∀a w,Sat N sc env H a w->Q .normal a w):ER P N sc l .skip Q env H:=λa w hs=>wpIn_skip (h a w hs)
def er_ret(h:∀a w,Sat N sc env H a w->Q .ret a w):ER P N sc l .ret Q env H:=λa w hs=>wpIn_ret (h a w hs)
def er_imp(e:∀a w,Sat N sc env H a w->Sat N sc env' H' a w){c:Code}(h:ER P N sc l c Q env' H'):ER P N sc l c Q env H:=λa w hs=>h a w (e a w hs)
theorem Du{β:Type}(i k:Nat)(enc:β->Value)(q:β->Pc):∀a w,Sat N sc env H a w->Sat N sc env ((i,Qh k enc q (.slice none 0 0) [])::H) a w:=λa w hs=>
 hs.add i _ ⟨Br k enc w,λz f=>by cases f⟩ (λh j _ _ Ig b e g=>by
  rcases e with e|⟨z,f,_⟩
  .exact absurd rfl e.1
  .cases f) (λb e=>by
  rcases e with e|⟨z,f,_⟩
  .exact absurd rfl e.1
  .cases f)
theorem Yiz{e:Hp}{g:Zt}(i j:Nat)(k:lk e i=some (Mc qG zs))(m:lk e j=some (Yw 1 Yk (Xq g.2.1.1) g.2.1.2))(n:lk e (j+1)=some (Yw 1 Yk (Xq g.2.2.1.1) g.2.2.1.2))(o:lk e (j+2)=some (Yw 1 Yk (Xq g.2.2.2.1) g.2.2.2.2)) :
  ∀b,(Mc qG (zs ++ [g])).fp b->∃j q,lk e j=some q/\q.fp b:=λb ⟨z,r,f⟩=>by
 rcases cY.1 r with q|q
 .exact⟨i,_,k,z,q,f⟩
 .rw [bC.1 q]at f;obtain⟨c,h,f⟩:=f;simp only [bQ,fQ,lC]at h;rcases h with rfl|rfl|rfl
  .exact⟨j,_,m,f⟩
  .exact⟨j+1,_,n,f⟩
  .exact⟨j+2,_,o,f⟩
end Go.Sky
namespace Go.Sky
variable{k b i:Nat}{zs:List Zt}{x y:Operand}{c xs:List Int}{ov d G x0 x1 x2 x3 m:Int}{a:Act}{o:Oper}{t tb:TypeId}{r:List Value}{v:Value}{w0 w:World}{M0:Nat->Prop}{kd:IntKind}
theorem Zqw(n p q s u z e f g h j l:Value):Instr.fill (λi=>some (i*6,6)) ((List.range (1*6)).map ((Value.agg #[n,p,q,s,u,z]).cells[· % (Value.agg #[n,p,q,s,u,z]).cells.size]!)).toArray [(0,.agg #[e,f,g,h,j,l])]=some #[e,f,g,h,j,l]:=by
 simp [Instr.fill,Value.cells,List.range,List.range.loop]
 try rfl
def Ol(fr e:Int)(ps:List Zt):Bool:=(ps.filter (Kw fr e)).all (Zgy fr e)
def Zda(fr e:Int)(ps:List Zt):List Zvp:=if Ol fr e ps=true then(ps.filter (Kw fr e)).map (Zu3 fr e)else []
def Zu4(fr e:Int)(ps:List Zt):Int:=if Ol fr e ps=true then 0 else 7
def Zv3(fr e:Int)(x:Zt)(g:SL×SL×SL):Zt:=((cA fr x,cB e x,mdO (cO x) (cG fr e x)),(g.1,mdL (cO x) (cG fr e x) (cX fr e x x.2.1.2)),(g.2.1,mdL (cO x) (cG fr e x) (cX fr e x x.2.2.1.2)),(g.2.2,mdL (cO x) (cG fr e x) (cX fr e x x.2.2.2.2)))
def Zq9(fr e:Int)(ps:List Zt)(k:Nat)(zs:List Zt):Prop:=zs.map unS=((ps.filter (Kw fr e)).take k).map (Zu3 fr e)/\((ps.filter (Kw fr e)).take k).all (Zgy fr e)=true
theorem Zhg{α:Type}{xs:List α}{x:α}(h:xs[k]? = some x):xs.take (k+1)=xs.take k ++ [x]:=by rw [List.take_add_one,h];rfl
theorem Yj8(fr e:Int)(ps:List Zt):Zq9 fr e ps 0 []:=⟨by rw [dS];rfl,by rw [dS];rfl⟩
theorem cutI_s{fr e:Int}{ps:List Zt}{x:Zt}{g:SL×SL×SL}(h:Zq9 fr e ps k zs)(f:(ps.filter (Kw fr e))[k]? = some x)(n:Zgy fr e x=true):Zq9 fr e ps (k+1) (zs ++ [Zv3 fr e x g]):=by
 obtain⟨j,l⟩:=h;refine⟨?_,?_⟩
 .rw [Zhg f,dV,dV,j];rfl
 .rw [Zhg f,mL,l];simp [n]
theorem Yj6{fr e:Int}{ps:List Zt}(h:Zq9 fr e ps k zs)(f:k<=ps.length):zs.length<=ps.length:=by have:=aF List.length h.1;rw [aP,aP,aR]at this;have:=iX (Kw fr e) ps;omega
theorem Zxk{fr e:Int}{ps:List Zt}{x:Zt}(g:(ps.filter (Kw fr e))[k]? = some x)(f:Zgy fr e x=false):Ol fr e ps=false:=by
 unfold Ol;cases hb:(ps.filter (Kw fr e)).all (Zgy fr e)with
 | false=>rfl
 | true=>
  have:=cP.1 hb x (nA g);rw [f]at this;cases this
theorem Yj7{fr e:Int}{ps:List Zt}(h:Zq9 fr e ps (ps.filter (Kw fr e)).length zs):zs.map unS=Zda fr e ps/\Zu4 fr e ps=0:=by obtain⟨g,f⟩:=h;rw [bL]at g f;exact⟨by unfold Zda Ol;rw [aG f];exact g,by unfold Zu4 Ol;rw [aG f]⟩
theorem Yj4{fr e:Int}{ps:List Zt}(h:Ol fr e ps=false):([]:List Zt).map unS=Zda fr e ps/\Zu4 fr e ps=7:=by unfold Zda Zu4;rw [aD (by rw [h];exact dC),aD (by rw [h];exact dC)];exact⟨rfl,rfl⟩
def spF(ps:List Zt):Int:=(ps.getD 0 G0).1.1
def spL(ps:List Zt):Int:=(ps.getD (ps.length-1) G0).1.2.1
theorem Ynn(h:AxC c ov)(s:c.getD (c.length-1) 0≠0){a b:Int}(B:0<b)(F:0<d):(Pb c a b d).length=c.length:=by
 have M:=h.l;have I:=Zgk (c:=c) a b d;rcases bA (Pb c a b d).length c.length with q|q
 .exfalso;have D:(b:Rat)≠0:=by
    have:(0:Rat)<(b:Rat):=by exact_mod_cast B
    grind
  have H:(d:Rat)≠0:=by
    have:(0:Rat)<(d:Rat):=by exact_mod_cast F
    grind
  have n:∀t:Rat,t*(d:Rat)=(a:Rat)+(b:Rat)*((t*d-a)/b):=λt=>O4;by_cases j:(Pb c a b d).length=0
  .have z:=aC j;have:∀t:Rat,Zf c t=0:=λt=>by
    have e:=Zf0 h (n t);rw [z]at e;have f:(d:Rat)^5*Zf c t=0:=e.symm;have l:(d:Rat)^5≠0:=by rw [show(d:Rat)^5=d*d*d*d*d by rw [dP,dP,dP,dP,dP,eG];grind];grind
    grind
   exact s (Zpj this _)
  .have g:∀t:Rat,Zf ((Lc (Pb c a b d) (-a) d b).map λq=>1*q) t=Zf (c.map λq=>b^((Pb c a b d).length-1)*d^5*q) t:=λt=>by rw [Zl,Zl];have e:=Zf0 h (n t);have f:=Zk1 (p:=Pb c a b d) (-a) d b (t:=(t*d-a)/b) (u:=t) (by push_cast;grind) j;rw [f,e];push_cast;rw [<-Zde,<-Zde];push_cast;grind
   have e:=Nj g (c.length-1);rw [Cb,Cb,Yf (by have:=Ze8 (Pb c a b d) (-a) d b;omega)]at e;have f:b^((Pb c a b d).length-1)*d^5≠0:=bH (Int.pow_ne_zero O) (Int.pow_ne_zero O);have l:b^((Pb c a b d).length-1)*d^5*cf c (c.length-1)=0:=O;rcases eI.1 l with q|q
   .exact f q
   .exact s q
 .omega
theorem Zxt{X:List Int}(f:0<G)(e:∀x∈X,G∣x)(i:Nat):cf (Hi X G) i*G=cf X i:=by
 unfold Hi;split
 .rename_i h;rw [aC h]
  match i with
  | 0=>show(0:Int)*G=cf [] 0;rw [cM];rfl
  | i+1=>show(0:Int)*G=cf [] (i+1);rw [cM];rfl
 .rw [Zdb _ _ O5];by_cases hi:i<X.length
  .have:cf X i∈X:=Ze hi;exact iD (e _ this)
  .rw [Yf O];simp
theorem Ymn{X:List Int}(e:0<G)(f:∀x∈X,G∣x)(u:Rat):Zf (Hi X G) u*(G:Rat)=Zf X u:=by rw [kF,<-Zl];exact Nv u _ _ λi=>by rw [Cb,cQ,Zxt e f]
theorem Zij(f g:Nat->Int)(a:Int)(h:∀k,f k*a=g k):∀m,Ye f m*a=Ye g m
 | 0=>cM _
 | m+1=>by rw [Yi,Yi,lO,Zij f g a h m,h]
theorem Ypc{X:List Int}(e:0<G)(f:∀x∈X,G∣x)(n j:Nat):Ha n (Hi X G) j*G=Ha n X j:=by unfold Ha;exact Zij _ _ _ (λk=>by rw [Int.mul_right_comm,Zxt e f]) _
theorem Ynm(X:List Int)(G:Int):(Hi X G).length=max X.length 1:=by
 unfold Hi;split
 .rename_i h;rw [h];rfl
 .rw [aP];omega
theorem Zx7(h:AxC c ov){a b o:Int}(N:0<=a)(B:0<b)(q:a+b<=d)(D:0<d)(p:0<G)(H:∀x∈Pb c a b d,G∣x)(Q:o*G=ov*d^5):AxC (Hi (Pb c a b d) G) o/\(Hi (Pb c a b d) G).length=c.length:=by
 have S:=h.l;have f:(Hi (Pb c a b d) G).length=c.length/\(1<c.length->(Pb c a b d).length=c.length):=by
  rw [Ynm];by_cases I:c.getD (c.length-1) 0=0
  .have:=h.t;have P:=Zgk (c:=c) a b d;have g:c.length=1:=by
    by_cases l:1<c.length
    .exact absurd ⟨l,I⟩ this
    .omega
   exact⟨O,λl=>O⟩
  .have:=Ynn h I (a:=a) B D;exact⟨O,λ_=>this⟩
 refine⟨⟨O,λ⟨g,s⟩=>?_,λj F=>?_⟩,f.1⟩
 .rw [f.1]at g s;have l:cf (Hi (Pb c a b d) G) (c.length-1)=0:=s;have u:=Zxt p H (c.length-1);rw [l,cM]at u;have n:=f.2 g;have R:Tr (Pb c a b d):=Qd _ _;have z:=R.mem (λe=>by rw [e]at n;simp at n;omega);rw [n]at z;exact z u.symm
 .rw [f.1]at F ⊢;have g:=Ybv h N (eA B) q D j F;rw [<-Ypc p H,<-Q,cF]at g;have M:((G.natAbs:Nat):Int)=G:=O;push_cast at g;rw [M]at g;refine Int.le_of_mul_le_mul_right (a:=G) ?_ p;refine Int.le_trans g (oD ?_);grind
theorem Zuf{G:Int}(e:0<G):∀(l:List Int) (o:Int),Ny (G*o) (l.map (G*·))=G*Ny o l
 | [],o=>rfl
 | x::l,o=>by show Ny ((Int.gcd (G*o) (G*x):Nat):Int) (l.map (G*·))=G*Ny ((Int.gcd o x:Nat):Int) l;rw [Int.gcd_mul_left];push_cast;rw [show((G.natAbs:Nat):Int)=G by omega];exact Zuf e l _
theorem Zl2{X:List Int}{o:Int}(g:0<G)(e:∀x∈X,G∣x)(j:0<=o):Ny o ((Hi X G).map (G*·))=Ny o X:=by
 unfold Hi;split
 .rename_i h;rw [aC h];show((Int.gcd o (G*0):Nat):Int)=o;rw [dL,nT];omega
 .congr 1;rw [kW]
  conv=>rhs;rw [<-List.map_id X]
  refine kR λx f=>?_;show G*(x/G)=x;exact kM (e x f)
theorem Ynx{X Y Z:List Int}{o f:Int}(g:0<o)(e:0<Km o X Y Z)(p:∀x∈X,Km o X Y Z∣x)(q:∀x∈Y,Km o X Y Z∣x)(s:∀x∈Z,Km o X Y Z∣x)(h:Km o X Y Z*f=o) :
  Ny f (Hi X (Km o X Y Z) ++ Hi Y (Km o X Y Z) ++ Hi Z (Km o X Y Z))=1:=by
 have j:=Zuf e (Hi X (Km o X Y Z) ++ Hi Y (Km o X Y Z) ++ Hi Z (Km o X Y Z)) f;rw [h,dV,dV,Iz,Iz,Zl2 e p (eA g),Zl2 e q (Zgm _ _ (eA g)),Zl2 e s (Zgm _ _ (Zgm _ _ (eA g)))]at j;have l:Km o X Y Z=Ny (Ny (Ny o X) Y) Z:=by show Ny o (X ++ Y ++ Z)=_;rw [Iz,Iz]
 rw [<-l]at j;generalize Ny f _=r at *;have n:Km o X Y Z*r=Km o X Y Z*1:=O;exact gP O n
structure Prt (q g:Zt) (G:Int):Prop where
 g0:0<G
 a0:0<=q.1.1-g.1.1
 b0:0<q.1.2.1-q.1.1
 ab:(q.1.1-g.1.1)+(q.1.2.1-q.1.1)<=g.1.2.1-g.1.1
 o:q.1.2.2*G=g.1.2.2*(g.1.2.1-g.1.1)^5
 x:∀i (t u:Rat),t*((g.1.2.1-g.1.1:Int):Rat)=((q.1.1-g.1.1:Int):Rat)+((q.1.2.1-q.1.1:Int):Rat)*u->Zf (Zp i q.2.1.2 q.2.2.1.2 q.2.2.2.2) u*(G:Rat)=((g.1.2.1-g.1.1:Int):Rat)^5*Zf (Zp i g.2.1.2 g.2.2.1.2 g.2.2.2.2) t
theorem Zw2{X:List Int}(h:∀k,(X.getD k 0/G).natAbs<=9223372036854775807):∀a∈Hi X G,Nx a:=λa e=>by
 unfold Hi at e;split at e
 .rw [bC.1 e];exact⟨O3,O3⟩
 .obtain⟨x,g,rfl⟩:=fT.1 e;obtain⟨k,f⟩:=mR.1 g;have:=h k;rw [aI,f]at this;simp only [fP]at this;exact⟨O,O⟩
theorem Zpu{a b:Int}{t u:Rat}(f:AxC c ov)(e:0<G)(g:∀x∈Pb c a b d,G∣x)(h:t*(d:Rat)=(a:Rat)+(b:Rat)*u):Zf (Hi (Pb c a b d) G) u*(G:Rat)=(d:Rat)^5*Zf c t:=by rw [Ymn e g];exact Zf0 f h
theorem Yoh{fr e:Int}{g q:Zt}(hi:Gin g)(hs:seB g=true)(hp:Kw fr e g=true)(hk:Zgy fr e g=true)(hu:unS q=Zu3 fr e g):Gin q/\seB q=true/\Prt q g (cG fr e g):=by
 have W:SgG g:=Ib hi hs;obtain⟨a1,a2,a3⟩:=Zv4 hs;obtain⟨M,N,P,R⟩:=Yj2 W hp;have V:=Zww hi hs hp;obtain⟨g1,⟨s,a6⟩,S⟩:=V.g;have n:0<cG fr e g:=g1;have B:∀x∈cX fr e g g.2.1.2,cG fr e g∣x:=S 0 O3;have D:∀x∈cX fr e g g.2.2.1.2,cG fr e g∣x:=S 1 O3;have F:∀x∈cX fr e g g.2.2.2.2,cG fr e g∣x:=S 2 O3;have H:cG fr e g*s=cO g:=a6.symm;have z:cO g/cG fr e g=s:=by rw [<-H];exact jQ _ O
 have f:cO g/cG fr e g<=4294967296:=cC hk;have a7:0<cO g:=V.o;have b1:0<s:=by
  by_cases h:0<s
  .exact h
  .have:=gM (eA n) (show s<=0 by omega);omega
 have p:s*cG fr e g=g.1.2.2*(g.1.2.1-g.1.1)^5:=by rw [cQ];exact H
 obtain⟨x1,x2⟩:=Zx7 a1 M N P R n B p;obtain⟨y1,y2⟩:=Zx7 a2 M N P R n D p;obtain⟨z1,z2⟩:=Zx7 a3 M N P R n F p;obtain⟨⟨qf,qt,qo⟩,⟨sx,qx⟩,⟨sy,qy⟩,⟨sz,qz⟩⟩:=q;unfold unS Zu3 at hu;rw [mdO_t f,Zgg f,Zgg f,Zgg f,z]at hu;injection hu with h1 h2;injection h1 with hf h1;injection h1 with ht Q;injection h2 with hx h2;injection h2 with hy hz;dsimp only at hf ht Q hx hy hz;subst hf ht hx hy hz;have Q:=Q.symm;subst Q;have j:=λi (hi:i<3) k=>V.fit (i:=i) f hi k;have a9:=cC hp;have b2:=W.t1;have b3:=W.t3;have a0:∀a∈Hi (cX fr e g g.2.1.2) (cG fr e g),Nx a:=Zw2 (j 0 O3);have a4:∀a∈Hi (cX fr e g g.2.2.1.2) (cG fr e g),Nx a:=Zw2 (j 1 O3);have a5:∀a∈Hi (cX fr e g g.2.2.2.2) (cG fr e g),Nx a:=Zw2 (j 2 O3);have b0:s<=4294967296:=z▸f;have a8:0<=cA fr g/\cB e g<=3600000:=by unfold cA cB;exact⟨O,O⟩
 have i1:Nx (cA fr g):=⟨O,O⟩;have i2:Nx (cB e g):=⟨O,O⟩;have i3:Nx s:=⟨O,O⟩;refine⟨⟨i1,i2,i3,a0,a4,a5⟩,?_,⟨n,M,N,by show(cA fr g-g.1.1)+(cB e g-cA fr g)<=_;exact P,p,λi t u I=>?_⟩⟩
 .show Cg (cA fr g) (cB e g) s _ _ _=true;unfold Cg Yci;simp only [aS,dW];exact⟨⟨⟨⟨⟨⟨⟨⟨O,O⟩,O⟩,O⟩,O⟩,x1.to⟩,y1.to⟩,z1.to⟩,Ynx a7 n B D F H⟩
 .have l:t*((g.1.2.1-g.1.1:Int):Rat)=((cA fr g-g.1.1:Int):Rat)+((cB e g-cA fr g:Int):Rat)*u:=I;clear I;have k0:=Zpu a1 n B l;have k1:=Zpu a2 n D l;have k2:=Zpu a3 n F l;dsimp only;generalize Hi (cX fr e g g.2.1.2) (cG fr e g)=X at *;generalize Hi (cX fr e g g.2.2.1.2) (cG fr e g)=Y at *;generalize Hi (cX fr e g g.2.2.2.2) (cG fr e g)=Z at *;generalize ((cG fr e g:Int):Rat)=GG at *;generalize ((g.1.2.1-g.1.1:Int):Rat)^5=DD at *
  match i with
  | 0=>exact k0
  | 1=>exact k1
  | i+2=>exact k2
def cgb0{M:Int}(f:0<=M)(e:-(M*1)<=(x0*1)/\(x0*1)<=M*1):(-(80*M)<=x0/\x0<=80*M):=O
theorem cgb1{M:Int}(g:0<=M)(e:-(M*1)<=(x0*1)/\(x0*1)<=M*1)(f:-(M*1)<=(x0*1+x1*1)/\(x0*1+x1*1)<=M*1):(-(80*M)<=x0/\x0<=80*M)/\(-(80*M)<=x1/\x1<=80*M):=by refine⟨⟨?_,?_⟩,⟨?_,?_⟩⟩<;>omega
theorem cgb2{M:Int}(h:0<=M)(e:-(M*1)<=(x0*1)/\(x0*1)<=M*1)(f:-(M*2)<=(x0*2+x1*1)/\(x0*2+x1*1)<=M*2)(g:-(M*1)<=(x0*1+x1*1+x2*1)/\(x0*1+x1*1+x2*1)<=M*1):(-(80*M)<=x0/\x0<=80*M)/\(-(80*M)<=x1/\x1<=80*M)/\(-(80*M)<=x2/\x2<=80*M):=by refine⟨⟨?_,?_⟩,⟨?_,?_⟩,⟨?_,?_⟩⟩<;>omega
theorem cgb3{M:Int}(j:0<=M)(e:-(M*1)<=(x0*1)/\(x0*1)<=M*1)(f:-(M*3)<=(x0*3+x1*1)/\(x0*3+x1*1)<=M*3)(g:-(M*3)<=(x0*3+x1*2+x2*1)/\(x0*3+x1*2+x2*1)<=M*3)(h:-(M*1)<=(x0*1+x1*1+x2*1+x3*1)/\(x0*1+x1*1+x2*1+x3*1)<=M*1):(-(80*M)<=x0/\x0<=80*M)/\(-(80*M)<=x1/\x1<=80*M)/\(-(80*M)<=x2/\x2<=80*M)/\(-(80*M)<=x3/\x3<=80*M):=by refine⟨⟨?_,?_⟩,⟨?_,?_⟩,⟨?_,?_⟩,⟨?_,?_⟩⟩<;>omega
theorem cgb4{M e:Int}(n:0<=M)(f:-(M*1)<=(x0*1)/\(x0*1)<=M*1)(g:-(M*4)<=(x0*4+x1*1)/\(x0*4+x1*1)<=M*4)(h:-(M*6)<=(x0*6+x1*3+x2*1)/\(x0*6+x1*3+x2*1)<=M*6)(j:-(M*4)<=(x0*4+x1*3+x2*2+x3*1)/\(x0*4+x1*3+x2*2+x3*1)<=M*4)(l:-(M*1)<=(x0*1+x1*1+x2*1+x3*1+e*1)/\(x0*1+x1*1+x2*1+x3*1+e*1)<=M*1):(-(80*M)<=x0/\x0<=80*M)/\(-(80*M)<=x1/\x1<=80*M)/\(-(80*M)<=x2/\x2<=80*M)/\(-(80*M)<=x3/\x3<=80*M)/\(-(80*M)<=e/\e<=80*M):=by refine⟨⟨?_,?_⟩,⟨?_,?_⟩,⟨?_,?_⟩,⟨?_,?_⟩,⟨?_,?_⟩⟩<;>omega
theorem cgb5{M e f:Int}(q:0<=M)(g:-(M*1)<=(x0*1)/\(x0*1)<=M*1)(h:-(M*5)<=(x0*5+x1*1)/\(x0*5+x1*1)<=M*5)(j:-(M*10)<=(x0*10+x1*4+x2*1)/\(x0*10+x1*4+x2*1)<=M*10)(l:-(M*10)<=(x0*10+x1*6+x2*3+x3*1)/\(x0*10+x1*6+x2*3+x3*1)<=M*10)(n:-(M*5)<=(x0*5+x1*4+x2*3+x3*2+e*1)/\(x0*5+x1*4+x2*3+x3*2+e*1)<=M*5)(p:-(M*1)<=(x0*1+x1*1+x2*1+x3*1+e*1+f*1)/\(x0*1+x1*1+x2*1+x3*1+e*1+f*1)<=M*1):(-(80*M)<=x0/\x0<=80*M)/\(-(80*M)<=x1/\x1<=80*M)/\(-(80*M)<=x2/\x2<=80*M)/\(-(80*M)<=x3/\x3<=80*M)/\(-(80*M)<=e/\e<=80*M)/\(-(80*M)<=f/\f<=80*M):=by refine⟨⟨?_,?_⟩,⟨?_,?_⟩,⟨?_,?_⟩,⟨?_,?_⟩,⟨?_,?_⟩,⟨?_,?_⟩⟩<;>omega
theorem cg_brS{n:Nat}(z:n<6)(D:c.length<=n+1){M:Int}(h:∀j,j<n+1->((Ha n c j).natAbs:Int)<=M*(Oq n j:Int))(k:Nat):((cf c k).natAbs:Int)<=80*M:=by
 have q:0<=M:=by have f:=h 0 O;rw [Zmi]at f;omega
 by_cases B:k<n+1
 .rw [Xz]
  match n,z with
  | 0,_=>
   have f:=Xz.1 (h 0 O3);rw [bre00,show(Oq 0 0:Int)=1 from rfl]at f;have e:=cgb0 q f;obtain rfl:k=0:=O;exact e
  | 1,_=>
   have f:=Xz.1 (h 0 O3);rw [bre10,show(Oq 1 0:Int)=1 from rfl]at f;have g:=Xz.1 (h 1 O3);rw [bre11,show(Oq 1 1:Int)=1 from rfl]at g;have e:=cgb1 q f g;rcases(show k=0\/k=1 by omega)with rfl|rfl
   .exact e.1
   .exact e.2
  | 2,_=>
   have f:=Xz.1 (h 0 O3);rw [bre20,show(Oq 2 0:Int)=1 from rfl]at f;have g:=Xz.1 (h 1 O3);rw [bre21,show(Oq 2 1:Int)=2 from rfl]at g;have l:=Xz.1 (h 2 O3);rw [bre22,show(Oq 2 2:Int)=1 from rfl]at l;have e:=cgb2 q f g l;rcases(show k=0\/k=1\/k=2 by omega)with rfl|rfl|rfl
   .exact e.1
   .exact e.2.1
   .exact e.2.2
  | 3,_=>
   have f:=Xz.1 (h 0 O3);rw [bre30,show(Oq 3 0:Int)=1 from rfl]at f;have g:=Xz.1 (h 1 O3);rw [bre31,show(Oq 3 1:Int)=3 from rfl]at g;have l:=Xz.1 (h 2 O3);rw [bre32,show(Oq 3 2:Int)=3 from rfl]at l;have p:=Xz.1 (h 3 O3);rw [bre33,show(Oq 3 3:Int)=1 from rfl]at p;have e:=cgb3 q f g l p;rcases(show k=0\/k=1\/k=2\/k=3 by omega)with rfl|rfl|rfl|rfl
   .exact e.1
   .exact e.2.1
   .exact e.2.2.1
   .exact e.2.2.2
  | 4,_=>
   have f:=Xz.1 (h 0 O3);rw [bre40,show(Oq 4 0:Int)=1 from rfl]at f;have g:=Xz.1 (h 1 O3);rw [bre41,show(Oq 4 1:Int)=4 from rfl]at g;have l:=Xz.1 (h 2 O3);rw [bre42,show(Oq 4 2:Int)=6 from rfl]at l;have p:=Xz.1 (h 3 O3);rw [bre43,show(Oq 4 3:Int)=4 from rfl]at p;have s:=Xz.1 (h 4 O3);rw [bre44,show(Oq 4 4:Int)=1 from rfl]at s;have e:=cgb4 q f g l p s;rcases(show k=0\/k=1\/k=2\/k=3\/k=4 by omega)with rfl|rfl|rfl|rfl|rfl
   .exact e.1
   .exact e.2.1
   .exact e.2.2.1
   .exact e.2.2.2.1
   .exact e.2.2.2.2
  | 5,_=>
   have f:=Xz.1 (h 0 O3);rw [bre50,show(Oq 5 0:Int)=1 from rfl]at f;have g:=Xz.1 (h 1 O3);rw [bre51,show(Oq 5 1:Int)=5 from rfl]at g;have l:=Xz.1 (h 2 O3);rw [bre52,show(Oq 5 2:Int)=10 from rfl]at l;have p:=Xz.1 (h 3 O3);rw [bre53,show(Oq 5 3:Int)=10 from rfl]at p;have s:=Xz.1 (h 4 O3);rw [bre54,show(Oq 5 4:Int)=5 from rfl]at s;have u:=Xz.1 (h 5 O3);rw [bre55,show(Oq 5 5:Int)=1 from rfl]at u;have e:=cgb5 q f g l p s u;rcases(show k=0\/k=1\/k=2\/k=3\/k=4\/k=5 by omega)with rfl|rfl|rfl|rfl|rfl|rfl
   .exact e.1
   .exact e.2.1
   .exact e.2.2.1
   .exact e.2.2.2.1
   .exact e.2.2.2.2.1
   .exact e.2.2.2.2.2
 .rw [Yf O];simp;omega
theorem AxC.cg(h:AxC c ov)(k:Nat):((cf c k).natAbs:Int)<=83886080*ov:=by have f:=h.l;have:=cg_brS (n:=c.length-1) O (c:=c) O (M:=1048576*ov) (λj e=>h.b j O) k;omega
open Go.RowKit (Below)
variable {P:Program} {N:Nat} {sc:Nat->Prop} {env env':Ob} {H H':Hp} {Q Q':Exit->Act->World->Prop} {M:Nat->Prop}
def wcr(l:List Int)(r:List Value):Array Value:=(l.map (Value.int .i64) ++ r).toArray
theorem Zj8(l:List Int)(r:List Value):(wcr l r).size=l.length+r.length:=by simp [wcr]
theorem Yll{l:List Int}{j:Nat}(h:j<l.length):(wcr l r)[j]? = some (.int .i64 (l.getD j 0)):=by simp [wcr,cW,h,aI]
theorem Ylk{l:List Int}{j:Nat}{v:Int}(h:j<l.length):Fq (wcr l r) j [.int .i64 v]=wcr (l.set j v) r:=by
 unfold Fq wcr;congr 1;rw [jX,aG h,dV,cJ,lX,List.map_drop];have e:j<=(l.map (Value.int .i64)).length:=by rw [aP];omega
 have f:j+1<=(l.map (Value.int .i64)).length:=by rw [aP];omega
 simp only [dM,eX,bX];rw [fB e,fY f];simp
theorem Zxv(l:List Int):cellsOf Yk l=l.map (Value.int .i64):=by
 induction l with
 | nil=>rfl
 | cons x l e=>rw [show cellsOf Yk (x::l)=(Yk x).cells.toList ++ cellsOf Yk l from rfl,e];rfl
theorem f_obox{e:TypeId}(i:Nat)(hi:lk H i=some (On 1 e Yk v xs))(B:xs≠[]):∀a w,Sat N sc env H a w->∃y:Nat×Nat×List Value,
  v= .slice (some ⟨y.1,0,none⟩) xs.length y.2.1/\xs.length+y.2.2.length=y.2.1/\y.2.1<=maxLen/\w.heap[y.1]? = some (.cells (wcr xs y.2.2) e (0,0)):=λa w hs=>by
 have n:w.ownsRow 0 e 1 v xs.length (cellsOf Yk xs):=hs.hold i _ hi;rcases n.2 with⟨rfl,u⟩|⟨g,j,f,rfl,D,s,z,p,l,h⟩
 .exact absurd (aC u) B
 .rw [jF]at l h;refine⟨(g,j,f.toList.drop xs.length),rfl,?_,p,?_⟩
  .show xs.length+(f.toList.drop xs.length).length=j;have q:f.toList.length=j:=by rw [dY];exact l
   rw [dZ,q];omega
  .show w.heap[g]? = some (.cells (wcr xs (f.toList.drop xs.length)) e (0,0));rw [show wcr xs (f.toList.drop xs.length)=f by unfold wcr;rw [<-Zxv,<-h,fM]]
   exact s
theorem s_obox {e:TypeId} {c:Nat}     (i:Nat) (hi:lk H i=some (On 1 e Yk (.slice (some ⟨b,0,none⟩) xs.length c) xs)) (f:Nat.beq i 0=false) (g:lk H 0=some (Qb w0 M0)) (l:∀b,w0.heap.size<=b->sc b)
    (hs:Sat N sc env H a w) (h:w.heap[b]? = some (.cells (wcr xs r) e (0,0))):Sat N sc env ((i,box b e (wcr xs r))::H) a w:=
 hs.upd hi rfl (λe=>by subst e;simp at f) (Chg.refl _ w) h (λk j=> .inl (by show some b=some k;rw [show k=b from j])) g l
theorem e_obox {g:Code} {e:TypeId}     (i:Nat) (hi:lk H i=some (On 1 e Yk v xs)) (f:Nat.beq i 0=false) (u:xs≠[]) (j:lk H 0=some (Qb w0 M0)) (s:∀b,w0.heap.size<=b->sc b)
  (h:∀(b c:Nat) (r:List Value),v= .slice (some ⟨b,0,none⟩) xs.length c->xs.length+r.length=c->c<=maxLen->E P N sc g Q env ((i,box b e (wcr xs r))::H)):E P N sc g Q env H:=λa w hs=>by
 obtain⟨⟨b,c,r⟩,q,l,n,p⟩:=f_obox i hi u a w hs;subst q;exact h b c r rfl l n a w (s_obox i hi f j s hs p)
theorem Ymf{e:TypeId}{c:Nat}(i:Nat)(hi:lk H i=some (box b e (wcr xs r)))(f:Nat.beq i 0=false)(h:xs.length+r.length=c)(n:c<=maxLen)(g:lk H 0=some (Qb w0 M0))(p:∀b,w0.heap.size<=b->sc b) :
  ∀a w,Sat N sc env H a w->Sat N sc env ((i,On 1 e Yk (.slice (some ⟨b,0,none⟩) xs.length c) xs)::H) a w:=λa w hs=>by
 have j:w.heap[b]? = some (.cells (wcr xs r) e (0,0)):=hs.hold i _ hi;refine hs.upd hi rfl (λe=>by subst e;simp at f) (Chg.refl _ w) ?_ (λk l=> .inl (by cases l;rfl)) g p;refine⟨by rw [Zxv,aP,jF],.inr ⟨b,c,_,rfl,bD _,j,O,n,by rw [Zj8,jF];exact h,?_⟩⟩;rw [Zxv,jF];show((xs.map (Value.int .i64)) ++ r).take xs.length=_;rw [fB (by rw [aP];exact aH _),bK (by rw [aP];exact aH _)]
theorem Zah   {e:TypeId} {f n c:Nat}   (l:o.op= .indexAddr t x y) (q:ev env x=some (.slice (some ⟨b,f,none⟩) n c)) (s:ev env y=some (.int kd m))
  (p:P.underlying t=some (.slice e)) (j:∀w,(sizeOf e).run P w= .ok 1 w) (g:m=(i:Int)) (h:i<n):Mz P N sc o env H (.pointer (some ⟨b,f+i,none⟩)):=λa w hs=>by
 subst g;simp [execOp,l,hs.ev q,hs.ev s,Instr.indexAt,asIntOf,run_underlying p,j,h,Ot]
theorem Zq7   {e:TypeId} {f:Option Addr} {n c:Nat} (g:o.op= .call { callee:= .builtin .len,args:=#[x],argTypes:=#[t] })
  (j:ev env x=some (.slice f n c)) (h:P.underlying t=some (.slice e)):Mz P N sc o env H (.int .i64 (n:Int)):=λa w hs=>by
 simp [execOp,g,resolve,hs.ev j,invoke,builtin,Builtin.len_,run_underlying h,goInt]
def Zc8{j:Nat}{l:List Int}(g:o.op= .load t x)(n:ev env x=some (.pointer (some ⟨b,j,none⟩)))(e:lk H i=some (box b tb (wcr l r)))(h:∀w,(isAgg t).run P w= .ok false w)(f:j<l.length) :
  Mz P N sc o env H (.int .i64 (l.getD j 0)):=Yd7 g n e h (Yll f)
theorem Zsd    {j:Nat} {l:List Int}  {v:Int}   (s:o.op= .store t x y) (n:o.dst=none)
  (D:ev env x=some (.pointer (some ⟨b,j,none⟩))) (F:ev env y=some (.int .i64 v)) (g:lk H i=some (box b tb (wcr l r))) (e:i≠0) (q:∀w,(sizeOf t).run P w= .ok 1 w) (p:j<l.length)
  (f:lk H 0=some (Qb w0 M0)) (B:∀b,w0.heap.size<=b->sc b) (h:M b) :
  T P N sc M o env H (G:=Unit) (λ_=>True) (λ_=>env) (λ_=>(i,box b tb (wcr (l.set j v) r))::H):=by
 rw [<-Ylk p];exact Zkk (vs:=[.int .i64 v]) s n D F g e rfl q rfl (by rw [Zj8];simp;omega) (λu z=>Yr (by rw [bC.1 z];rfl)) rfl f B h
theorem Yjv   {e:TypeId} {f n c:Nat}   (s:o.op= .slice t x (some y) none none) (z:ev env x=some (.slice (some ⟨b,f,none⟩) n c)) (B:ev env y=some (.int kd m))
  (u:P.underlying t=some (.slice e)) (l:∀w,(sizeOf e).run P w= .ok 1 w) (g:m=(i:Int)) (p:i<n) (q:n<=c):Mz P N sc o env H (.slice (some ⟨b,f+i,none⟩) (n-i) (c-i)):=λa w hs=>by
 subst g;have h:i<=n:=O;have j:i<c:=O;simp [execOp,s,hs.ev z,hs.ev B,Instr.sliceAt,Instr.slice,Instr.sliceBounds,Instr.sliceBound,asIntOf,run_underlying u,l,h,j,q,Ot];intro D;omega
theorem d_prew   {e:TypeId} {n c:Nat}   (l:o.op= .slice t x none (some y) none) (q:ev env x=some (.slice (some ⟨b,0,none⟩) n c)) (s:ev env y=some (.int kd m))
  (p:P.underlying t=some (.slice e)) (j:∀w,(sizeOf e).run P w= .ok 1 w) (f:m=(i:Int)) (g:i<=n) (u:n<=c):Mz P N sc o env H (.slice (some ⟨b,0,none⟩) i c):=λa w hs=>by
 subst f;have h:i<=c:=O;simp [execOp,l,hs.ev q,hs.ev s,Instr.sliceAt,Instr.slice,Instr.sliceBounds,Instr.sliceBound,asIntOf,run_underlying p,j,g,h,Ot]
theorem t_clw   {p:TypeId} {lo n D:Nat} {l:List Int}   
  (W:o.op= .call { callee:= .builtin .clear,args:=#[x],argTypes:=#[t] }) (S:o.dst=none)
  (hx:ev env x=some (.slice (some ⟨b,lo,none⟩) n D))  (s:lk H i=some (box b tb (wcr l r))) (g:i≠0)
  (hn:0<n) (V:lo+n=l.length) (Y:P.underlying t=some (.slice p)) (B:∀w,(sizeOf p).run P w= .ok 1 w)
  (hz:∀w,(zeroValue p).run P w= .ok (.int .i64 0) w)
  (F:lk H 0=some (Qb w0 M0)) (hw:∀b,w0.heap.size<=b->sc b) (R:M b) :
  T P N sc M o env H (G:=Unit) (λ_=>True) (λ_=>env) (λ_=>(i,box b tb (wcr (l.take lo) (List.replicate n (Value.int .i64 0) ++ r)))::H):=λa w hs K Q I=>by
 have z:w.heap[b]? = some (.cells (wcr l r) tb (0,0)):=hs.hold i _ s;have j:(Builtin.zeroCells (Value.int .i64 0).cells n).toList=List.replicate n (Value.int .i64 0):=by
  apply iE
  .simp [Builtin.zeroCells,Value.cells]
  .intro i h2 h3;simp [Builtin.zeroCells,Value.cells,mT]
 have e:=run_storeCells_at P b lo tb (List.replicate n (Value.int .i64 0)) 0 (wcr l r) w z (by rw [Zj8,aT];omega) (λu Z=>by rw [List.eq_of_mem_replicate Z];rfl);simp only [eF,aT]at e;have f:((wcr l r).toList.take lo ++ List.replicate n (Value.int .i64 0) ++ (wcr l r).toList.drop (lo+n)).toArray=wcr (l.take lo) (List.replicate n (Value.int .i64 0) ++ r):=by unfold wcr;congr 1;show((l.map (Value.int .i64) ++ r).take lo ++ _) ++ (l.map (Value.int .i64) ++ r).drop (lo+n)=_;rw [fB (by rw [aP];omega),fY (by rw [aP];omega),kC (by rw [aP];omega),lX,iR,eC]
 rw [f]at e;obtain⟨m,rfl⟩:∃m,n=m+1:=⟨n-1,O⟩;have h:(execOp a.eval o).run P w= .ok (.value (.tuple #[])) (w.setRow b (wcr (l.take lo) (List.replicate (m+1) (Value.int .i64 0) ++ r))):=by simp only [execOp,W,resolve,invoke,builtin];simp [hs.ev hx,Builtin.clear_,run_underlying Y,hz,j,e]
 unfold Oper.wp;rw [h];show K (a.put o.dst _) _;rw [S];exact I () _ _ aA ((hs.upd s rfl g (q:=box b tb (wcr (l.take lo) (List.replicate (m+1) (Value.int .i64 0) ++ r))) (Ho (M:=λk=>k=b) _ rfl) (setRow_heap w b _ _ tb _ z) (λk B=> .inl B) F hw).put_none _) (Ho _ R)
theorem res0{fn:Func}(hs:Sat N sc env H a w)(e:fn.results=#[]):(results fn a.tmps).run P w= .ok (.tuple #[]) w:=by simp [results,e]
end Go.Sky
namespace Go.Sky
variable{i k:Nat}{m xs:List Int}
def Srt(l:List Int)(n:Nat):Prop:=∀p q,p<q->q<n->l.getD p 0<=l.getD q 0
def Sst(l:List Int)(n:Nat):Prop:=∀p q,p<q->q<n->l.getD p 0<l.getD q 0
def Ylc(l:List Int)(i j:Nat):Prop:=∀p q,p<q->q<=i->q≠j->l.getD p 0<=l.getD q 0
def Sam(l m:List Int):Prop:=m.length=l.length/\∀x,x∈m↔x∈l
def Sam.rfl'(l:List Int):Sam l l:=⟨rfl,λ_=>Iff.rfl⟩
def Bk{l:List Int}{j:Nat}{v:Int}(hi:i<l.length):(l.set i v).getD j 0=if j=i then v else l.getD j 0:=Zh2 hi
def swp(l:List Int)(j:Nat):List Int:=(l.set j (l.getD (j-1) 0)).set (j-1) (l.getD j 0)
theorem Zz7(l:List Int)(j:Nat):(swp l j).length=l.length:=by simp [swp]
theorem Za7{l:List Int}{j:Nat}(a:j<l.length)(b:1<=j)(k:Nat):(swp l j).getD k 0=if k=j-1 then l.getD j 0 else if k=j then l.getD (j-1) 0 else l.getD k 0:=by unfold swp;rw [Bk (by rw [cL];omega),Bk a]
theorem Gs{l:List Int}{x:Int} : x∈l↔∃k,k<l.length/\l.getD k 0=x:=by
 constructor
 .intro h;obtain⟨k,a,e⟩:=eN.1 h;exact⟨k,a,by rw [aI,aN a];exact e⟩
 .rintro⟨k,a,rfl⟩;exact Ze a
theorem Zyw{l:List Int}{j:Nat}(c:j<l.length)(d:1<=j):Sam l (swp l j):=⟨Zz7 l j,λx=>by
 rw [Gs,Gs,Zz7];constructor
 .rintro⟨k,f,e⟩;rw [Za7 c d]at e;by_cases a:k=j-1
  .rw [aG a]at e;exact⟨j,c,e⟩
  .rw [aD a]at e;by_cases b:k=j
   .rw [aG b]at e;exact⟨j-1,O,e⟩
   .rw [aD b]at e;exact⟨k,f,e⟩
 .rintro⟨k,f,e⟩;by_cases a:k=j-1
  .exact⟨j,c,by rw [Za7 c d,aD O,aG rfl,<-a];exact e⟩
  .by_cases b:k=j
   .exact⟨j-1,O,by rw [Za7 c d,aG rfl,<-b];exact e⟩
   .exact⟨k,f,by rw [Za7 c d,aD a,aD b];exact e⟩⟩
def Sam.trans{l n:List Int}(h:Sam l m)(a:Sam m n):Sam l n:=⟨a.1.trans h.1,λx=>(a.2 x).trans (h.2 x)⟩
def srtx_0{l:List Int}(h:Srt l i):Ylc l i i:=λp q a b c=>h p q a O
theorem Zsk{l:List Int}{j:Nat}(h:Ylc l i j)(f:j<l.length)(e:1<=j)(o:j<=i)(r:l.getD j 0<l.getD (j-1) 0):Ylc (swp l j) i (j-1):=λp q g d n=>by
 rw [Za7 f e,Za7 f e,aD n];by_cases a:q=j
 .rw [aG a];by_cases b:p=j-1
  .rw [aG b];omega
  .rw [aD b,aD O];exact h p (j-1) O O O
 .rw [aD a];by_cases b:p=j-1
  .rw [aG b];exact h j q O d a
  .rw [aD b];by_cases c:p=j
   .rw [aG c];exact h (j-1) q O d a
   .rw [aD c];exact h p q g d a
theorem Yfa{l:List Int}{j:Nat}(h:Ylc l i j)(n:j<=i)(f:j=0\/(1<=j/\¬l.getD j 0<l.getD (j-1) 0)):Srt l (i+1):=λp q e g=>by
 by_cases a:q=j
 .rcases f with b|⟨b,c⟩
  .omega
  .subst a;by_cases d:p=q-1
   .subst d;omega
   .have:=h p (q-1) O O O;omega
 .exact h p q e O a
def srt_1(l:List Int):Srt l 1:=λp q a b=>O
structure Cmp (xs zs:List Int):Prop where
 s:Sst zs zs.length
 m:∀x,x∈zs↔x∈xs
theorem Ye9{l:List Int}{n:Nat}(h:Srt l n)(c:∀q,1<=q->q<n->l.getD q 0≠l.getD (q-1) 0):Sst l n:=λp q d b=>by
 have e:=c q O b;have f:=h (q-1) q O b;rcases iP (show p<=q-1 by omega)with a|a
 .have:=h p (q-1) a O;omega
 .subst a;omega
def Yot{l:List Int}(h:Srt l l.length)(a:∀q,1<=q->q<l.length->l.getD q 0≠l.getD (q-1) 0):Cmp l l:=⟨Ye9 h a,λx=>Iff.rfl⟩
structure Cml (xs l:List Int) (m k:Nat):Prop where
 k1:1<=k
 km:k<m
 ml:m<=xs.length
 ll:l.length=xs.length
 r:∀q,m<=q+1->l.getD q 0=xs.getD q 0
 s:Sst l k
 e:∀x,(∃p,p<k/\l.getD p 0=x)↔∃p,p<m/\xs.getD p 0=x
 z:l.getD (k-1) 0=xs.getD (m-1) 0
theorem cml_0(hs:Srt xs xs.length)(e:∀q,1<=q->q<k->xs.getD q 0≠xs.getD (q-1) 0)(f:1<=k)(g:k<xs.length)(d:xs.getD k 0=xs.getD (k-1) 0):Cml xs xs (k+1) k:=
 ⟨f,O,O,rfl,λq _=>rfl,Ye9 (λp q c b=>hs p q c O) e,λx=>by
  constructor
  .rintro⟨p,c,b⟩;exact⟨p,O,b⟩
  .rintro⟨p,c,b⟩;by_cases a:p=k
   .subst a;exact⟨p-1,O,by rw [<-d];exact b⟩
   .exact⟨p,O,b⟩,by rw [show k+1-1=k by omega];exact d.symm⟩
theorem cml_eq{l:List Int}{m:Nat}(h:Cml xs l m k)(n:m<xs.length)(e:l.getD m 0=l.getD (m-1) 0):Cml xs l (m+1) k:=by
 have c:=h.r m O;have d:=h.r (m-1) (by have:=h.k1;have:=h.km;omega);have g:=h.k1;have j:=h.km;refine⟨h.k1,O,n,h.ll,λq o=>h.r q O,h.s,λx=>(h.e x).trans ⟨?_,?_⟩,?_⟩
 .rintro⟨p,f,b⟩;exact⟨p,O,b⟩
 .rintro⟨p,f,b⟩;by_cases a:p=m
  .subst a;exact⟨p-1,O,by rw [<-b,<-c,<-d];exact e.symm⟩
  .exact⟨p,O,b⟩
 .rw [h.z,show m+1-1=m by omega,<-c,<-d];exact e.symm
theorem cml_ne{l:List Int}{m:Nat}(hs:Srt xs xs.length)(h:Cml xs l m k)(j:m<xs.length)(u:l.getD m 0≠l.getD (m-1) 0):Cml xs (l.set k (l.getD m 0)) (m+1) (k+1):=by
 have e:=h.r m O;have n:=h.k1;have o:=h.km;have t:=h.r (m-1) O;have r:=h.ll;have b:k<l.length:=O;have s:xs.getD (m-1) 0<xs.getD m 0:=by have:=hs (m-1) m O j;omega
 refine⟨O,O,j,by rw [cL];exact h.ll,λq v=>?_,λp q f c=>?_,λx=>?_,?_⟩
 .rw [Bk b,aD O];exact h.r q O
 .rw [Bk b,Bk b,aD (show p≠k by omega)];by_cases a:q=k
  .rw [aG a,e];have w:=h.z;rcases iP (show p<=k-1 by omega)with d|d
   .have:=h.s p (k-1) d O;omega
   .subst d;omega
  .rw [aD a];exact h.s p q f O
 .constructor
  .rintro⟨p,f,c⟩;rw [Bk b]at c;by_cases a:p=k
   .rw [aG a,e]at c;exact⟨m,O,c⟩
   .rw [aD a]at c;obtain⟨q,d,g⟩:=(h.e x).1 ⟨p,O,c⟩;exact⟨q,O,g⟩
  .rintro⟨p,f,c⟩;by_cases a:p=m
   .exact⟨k,O,by rw [Bk b,aG rfl,e,<-a];exact c⟩
   .obtain⟨q,d,g⟩:=(h.e x).2 ⟨p,O,c⟩;exact⟨q,O,by rw [Bk b,aD O];exact g⟩
 .rw [show k+1-1=k by omega,Bk b,aG rfl,show m+1-1=m by omega];exact e
theorem Zjt{l:List Int}{p:Nat}(h:p<k):(l.take k).getD p 0=l.getD p 0:=by rw [aI,aI,lZ h]
theorem cml_e{l:List Int}(h:Cml xs l xs.length k):Cmp xs (l.take k):=by
 have e:=h.km;have d:=h.ll;have c:(l.take k).length=k:=by rw [aR];omega
 refine⟨λp q b a=>?_,λx=>?_⟩
 .rw [c]at a;rw [Zjt O,Zjt a];exact h.s p q b a
 .rw [Gs,Gs,<-h.e x,c];constructor
  .rintro⟨p,b,a⟩;rw [Zjt b]at a;exact⟨p,b,a⟩
  .rintro⟨p,b,a⟩;exact⟨p,b,by rw [Zjt b];exact a⟩
def Zlx(x:Int):List Int->List Int
 | []=>[x]
 | y::l=>if x<y then x::y::l else if x=y then y::l else y::Zlx x l
def Inc:List Int->Prop
 | []=>True
 | x::l=>(∀y∈l,x<y)/\Inc l
theorem Zln{x z:Int} : ∀{l:List Int},z∈Zlx x l↔z=x\/z∈l
 | []=>by simp [Zlx]
 | y::l=>by
  unfold Zlx;split
  .simp
  .split
   .rename_i h;subst h;simp
   .rw [bQ,Zln,bQ];constructor
    .rintro(h|h|h)
     .exact .inr (.inl h)
     .exact .inl h
     .exact .inr (.inr h)
    .rintro(h|h|h)
     .exact .inr (.inl h)
     .exact .inl h
     .exact .inr (.inr h)
theorem Zuc{x:Int} : ∀{l:List Int},Inc l->Inc (Zlx x l)
 | [],_=>⟨λy h=>(nomatch h),aA⟩
 | y::l,h=>by
  unfold Zlx;split
  .rename_i b;exact⟨λz a=>by
    rcases bQ.1 a with rfl|a
    .exact b
    .have:=h.1 z a;omega,h⟩
  .split
   .exact h
   .refine⟨λz a=>?_,Zuc h.2⟩;rcases Zln.1 a with rfl|a
    .omega
    .exact h.1 z a
def Zsl(l:List Int):List Int:=l.foldr Zlx []
def Zly:∀(l:List Int),Inc (Zsl l)
 | []=>trivial
 | x::l=>Zuc (Zly l)
theorem Zlm{z:Int} : ∀{l:List Int},z∈Zsl l↔z∈l
 | []=>Iff.rfl
 | x::l=>by show z∈Zlx x (Zsl l)↔_;rw [Zln,Zlm,bQ]
theorem Yim:∀{l m:List Int},Inc l->Inc m->(∀x,x∈l↔x∈m)->l=m
 | [],[],_,_,_=>rfl
 | [],y::m,_,_,h=>absurd ((h y).2 (bR ..)) (λh=>nomatch h)
 | x::l,[],_,_,h=>absurd ((h x).1 (bR ..)) (λh=>nomatch h)
 | x::l,y::m,hl,hm,h=>by
  have e:x=y:=by
   have c:=(h x).1 (bR ..);have b:=(h y).2 (bR ..);rcases bQ.1 c with a|a
   .exact a
   .rcases bQ.1 b with d|d
    .exact d.symm
    .have:=hm.1 x a;have:=hl.1 y d;omega
  subst e;rw [Yim hl.2 hm.2 λz=>by
   have c:=h z;rw [bQ,bQ]at c;constructor
   .intro b;rcases c.1 (.inr b)with a|a
    .subst a;have:=hl.1 z b;omega
    .exact a
   .intro b;rcases c.2 (.inr b)with a|a
    .subst a;have:=hm.1 z b;omega
    .exact a]
theorem Yab:∀{l:List Int},Sst l l.length->Inc l
 | [],_=>trivial
 | x::l,h=>⟨λy a=>by obtain⟨k,d,rfl⟩:=Gs.1 a;exact h 0 (k+1) O O8,Yab λp q b c=>h (p+1) (q+1) O O8⟩
theorem Yke{ys zs:List Int}(b:Sam xs ys)(a:Cmp ys zs):zs=Zsl xs:=
 Yim (Yab a.s) (Zly xs) λx=>by rw [a.m,b.2,Zlm]
theorem Zyj:∀{l:List Int},Inc l->Sst l l.length
 | [],_=>λp q _ h=>absurd h (cI _)
 | x::l,h=>λp q a b=>by
  match p,q,a with
  | 0,q+1,_=>
   show x<l.getD q 0;exact h.1 _ (Ze (by simp at b;omega))
  | p+1,q+1,a=>exact Zyj h.2 p q O (by simp at b;omega)
def Ynq(j:Nat):j=0\/1<=j:=O
theorem hd_s(h:∀q,1<=q->q<k->xs.getD q 0≠xs.getD (q-1) 0)(b:¬xs.getD k 0=xs.getD (k-1) 0):∀q,1<=q->q<k+1->xs.getD q 0≠xs.getD (q-1) 0:=λq c d=>by
 rcases bM.1 d with a|a
 .exact h q c a
 .subst a;exact b
end Go.Sky

