/- Rules, arithmetic and contracts: part 8. No conditions but those that each theorem names. -/
import Derived.Test.YthennaflbbajkaaGreatAk06
import Derived.RangeFuncNested
import Derived.Deep.LoopGhost
import Derived.Sort.LoopGhostIn
set_option linter.all false
namespace Go.Sky
open Go.RowKit Below
variable{a:Act}{w:World}{i:Nat}
variable {P:Program} {N:Nat} {sc:Nat->Prop} {env env':Qm} {H H':Hp} {Q Q':Exit->Act->World->Prop}
abbrev ALL:Nat->Prop:=λ_=>True
def FpSub:Hp->Hp->Prop
 | [],_=>True
 | (i,p)::r,H=>(∃q,lk H i=some q/\p.own=q.own/\∀b,p.fp b->q.fp b)/\FpSub r H
theorem FpSub.lk:∀{H' H:Hp},FpSub H' H->∀i p,lk H' i=some p->∃q,lk H i=some q/\p.own=q.own/\∀b,p.fp b->q.fp b
 | [],_,_,_,_,h=>by cases h
 | (k,u)::r,H,h,i,p,hi=>by
  by_cases c:k=i
  .subst c;rw [Zp]at hi;cases hi;exact h.1
  .rw [Zh _ _ c]at hi;exact FpSub.lk h.2 i p hi
theorem Sat.re{w':World}(hs:Sat N sc env H a w)(l:∀i p,lk H' i=some p->∃q,lk H i=some q/\p.own=q.own/\∀b,p.fp b->q.fp b)(n:∀i p,lk H' i=some p->p.holds w'):Sat N ALL env H' a w':=
 ⟨hs.size,hs.defers,hs.env,n,λi j p q f hi o r b m c=>by obtain⟨s,h,g,d⟩:=l i p hi;obtain⟨t,k,_,e⟩:=l j q o;exact hs.sep i j s t f h k (g▸r) b (d b m) (e b c),λ_ _ _ _ _ _=>trivial⟩
def FpN:Hp->Hp->Prop
 | [],_=>True
 | (i,p)::r,H=>(p.own=true\/∃q,lk H i=some q/\∀b,p.fp b->q.fp b)/\FpN r H
theorem FpN.lk:∀{H' H:Hp},FpN H' H->∀i p,lk H' i=some p->p.own=true\/∃q,lk H i=some q/\∀b,p.fp b->q.fp b
 | [],_,_,_,_,h=>by cases h
 | (k,u)::r,H,h,i,p,hi=>by
  by_cases c:k=i
  .subst c;rw [Zp]at hi;cases hi;exact h.1
  .rw [Zh _ _ c]at hi;exact FpN.lk h.2 i p hi
theorem lk3{p q:Pc}{r:Pc}(h:lk ((90,p)::(91,q)::H) i=some r):(i=90/\r=p)\/(i=91/\r=q)\/(i≠90/\i≠91/\lk H i=some r):=by grind [Zp,Zh]
theorem lk3'{p q:Pc}(b:i≠90)(c:i≠91):lk ((90,p)::(91,q)::H) i=lk H i:=by grind [Zh]
theorem Sat.turn{l D:Nat}{o d f:Obj}(hs:Sat N ALL env ((90,fx l o)::(91,fx D f)::H) a w)(c:l≠D)(s:∀i p,i≠90->i≠91->lk H i=some p->¬p.fp l) :
  Sat N ALL env ((90,fx l d)::(91,fx D f)::H) a (w.putObj l d):=by
 have n:=hs.hold 90 _ rfl;have m:=hs.hold 91 _ rfl;refine hs.re (λi p hi=>?_) (λi p hi=>?_)
 .rcases lk3 hi with⟨rfl,rfl⟩|⟨rfl,rfl⟩|⟨g,j,hi⟩
  .exact⟨_,rfl,rfl,λ_ h=>h⟩
  .exact⟨_,rfl,rfl,λ_ h=>h⟩
  grind [lk3']
 .rcases lk3 hi with⟨rfl,rfl⟩|⟨rfl,rfl⟩|⟨g,j,q⟩
  .exact World.putObj_heap_same (aM.1 n).1
  .exact(World.putObj_heap_other (λe=>c e.symm)).trans m
  .refine p.stable _ _ (hs.hold i p (by grind [lk3'])) ⟨rfl,rfl,rfl,O8,λk r b=>World.putObj_heap_other (λe=>b ?_)⟩;grind
theorem Sat.round(hs:Sat N sc env H a w)(d:Nat)(v:Value)(b:Nat.blt d N=true):Sat N sc ((d,v)::env) H { tmps:=(#[d].zip #[v]).foldl (λt (p,v)=>t.setIfInBounds p v) a.tmps,defers:=[] } w:=by
 have h:=hs.put d v b;have e:(a.put (some d) v)={ tmps:=(#[d].zip #[v]).foldl (λt (p,v)=>t.setIfInBounds p v) a.tmps,defers:=[] }:=by show({ a with tmps:=a.tmps.setIfInBounds d v })=_;rw [<-hs.defers];simp
 grind
theorem Im{ops:Array Oper}{k m:Exit->Act->World->Prop}(b:∀e a w,k e a w->m e a w):∀(l:List Oper) (a:Act) (w:World),wpList P ops k l a w->wpList P ops m l a w
 | [],_,_,h=>b _ _ _ h
 | o::l,a,w,h=>by
  unfold wpList at h ⊢;split
  .rename_i g;rw [aO g]at h;rcases h with h|⟨q,p,j,r⟩
   .refine .inl ?_;unfold Oper.wp at h ⊢;revert h;generalize (execOp _ o).run P w=x;intro h;cases x with
    | ok n j=>
     cases n<;>simp only [Oper.upon]at h ⊢
     case value=>exact Im b l _ _ h
     case skip=>exact Im b l _ _ h
     case defer=>exact Im b l _ _ h
     case enter f args=>
      refine h.mono λe s d=>?_;cases e with
      | returned v=>exact Im b l _ _ d
      | panicked c=>grind
      | outgrown=>obtain⟨a,w,h⟩:=d;exact⟨a,w,b _ _ _ h⟩
     case row row args=>exact h.mono λ_ _ d=>Im b l _ _ d
    | halt x j=>
     cases x<;>simp only [Oper.upon]at h ⊢;grind
   .exact .inr ⟨q,p,j,b _ _ _ r⟩
  .rename_i g;rw [aF g]at h;exact Im b l _ _ h
end Go.Sky
namespace Go.Sky
open Go.RowKit Below
variable{f:FuncId}{fn:Func}{lb:List Value}{pre:List Pc}{ops:Array Oper}{ts:Array Value}{rest:List Oper}{d:Nat}{w0 W:World}{M:Nat->Prop}{x:Operand}{ops':List Operand}{tys:Array TypeId}{Jx:World->Prop}
variable {P:Program} {N:Nat} {sc:Nat->Prop} {env env':Qm} {H H':Hp} {Q Q':Exit->Act->World->Prop}
def YJI(P:Program)(w0:World)(l:Nat)(M:Nat->Prop)(J:Nat->World->Prop)(Jx:World->Prop){α G:Type}(xs:List α)(ys:α->G->List Value)(h:α->G->List Pc):Prop:=
 ∀k x g,xs[k]? = some x->∀W a,J k W->w0.heap.size<=W.heap.size->Below W.heap.size W a->(∀p∈h x g,p.holds a/\p.own=false/\∀b,p.fp b->W.heap.size<=b)->
  YieldAt Fence.wide 0 P l (ys x g).toArray a λe c=>(e= .returned (.bool true)/\J (k+1) c/\Chg (λb=>M b\/w0.heap.size<=b) a c)\/(e= .returned (.bool false)/\Jx c/\Chg (λb=>M b\/w0.heap.size<=b) a c)
def Ze7(J:World->Prop):Prop:=∀W a,J W->Below W.heap.size W a->J a
def Zwh(P:Program)(f:FuncId)(lb:List Value)(pre:List Pc){α G:Type}(xs:List α)(ys:α->G->List Value)(a:α->G->List Pc):Prop:=
 ∀(l:Nat) (M:Nat->Prop) (J:Nat->World->Prop) (Jx:World->Prop) (w:World),
  (∀p∈pre,p.holds w)->(∀p∈pre,∀b,p.fp b->¬M b)->(∀k,Ze7 (J k))->Ze7 Jx->J 0 w->YJI P w l M J Jx xs ys a->
  Calls P f (.func (.yield l) #[] #[]::lb).toArray w λe c=>(∃v,e= .returned v)/\(J xs.length c\/Jx c)
def Ymg(P:Program)(fn:Func)(n:Nat)(J:Nat->World->Prop)(Jx:World->Prop):Exit->Act->World->Prop:=
 bodyPost P fn λe a=>(∃v,e= .returned v)/\(J n a\/Jx a)
theorem Zr2   {c:Code}   {α G:Type} {xs:List α} {ys:α->G->List Value} {n:α->G->List Pc} {N:Nat}
  (S:P.funcs[f]? = some fn) (a:fn.body=some c) (hN:fn.ntmps=N) (V:Nat.ble (lb.length+1) N=true) (u:AllRo pre)
  (h:∀(l:Nat) (M:Nat->Prop) (J:Nat->World->Prop) (Jx:World->Prop) w0 (sc:Nat->Prop),(∀b,w0.heap.size<=b->sc b)->(∀p∈pre,∀b,p.fp b->b<w0.heap.size/\¬M b)->(∀k,Ze7 (J k))->Ze7 Jx->J 0 w0->YJI P w0 l M J Jx xs ys n->
   E P N sc c (Ymg P fn xs.length J Jx) (Ql 0 (.func (.yield l) #[] #[]::lb)) ((0,Zy w0 (λ_=>False))::Yn 1 pre)) :
  Zwh P f lb pre xs ys n:=λl M J Jx w D Z F r o I=>by
 refine calls_of_wp S a (h l M J Jx w (λb=>w.heap.size<=b\/∃q∈pre,q.fp b) (λb a=> .inl a) (λp m b a=>⟨p.lt w b (D p m) a,Z p m b a⟩) F r o I _ w ?_);have z:lb.length+1<=N:=O11;refine⟨O5,rfl,λt v ht=>?_,λi p hi=>?_,λi j p q a0 hi hj B b a R=>?_,λi p s hi b a=>?_⟩
 .have y:=(Gj _ 0 t v ht).2;have y:(Value.func (.yield l) #[] #[]::lb).toArray[t]? = some v:=O5;have Y:=(aM.1 y).1;simp_all [bH,dY]
 .by_cases g:0=i
  .subst g;cases hi;exact Chg.refl _ w
  .rw [Zh _ _ g]at hi;exact D p (Na pre 1 i p hi).2
 .by_cases g:0=i
  .subst g;cases hi;cases B
  .rw [Zh _ _ g]at hi;rw [u.mem p (Na pre 1 i p hi).2]at B;grind
 .rw [Zh _ _ (λe=>s e.symm)]at hi;exact .inr ⟨p,(Na pre 1 i p hi).2,a⟩
def LI(P:Program)(N:Nat)(sc:Nat->Prop)(ops:Array Oper)(rest:List Oper)(Q:Exit->Act->World->Prop)(env:Qm)(H:Hp):Prop:=
 ∀a w,Sat N sc env H a w->wpListIn Fence.wide 0 P ops Q rest a w
def Yd8{id:Nat}{l:List Oper}(h:LI P N sc l.toArray l Q env H):E P N sc (.region id l.toArray false) Q env H:=λa w hs=>
 (wpIn_wide).1 (wpIn_region_lit (h a w hs))
theorem Zaf{o:Oper}(a:o.guard=none):Region.wanted o (yielded ops ts)=true:=by simp [Region.wanted,a]
theorem Py{o:Oper}{v:Value}(g:Ld P N sc o env H v)(c:o.dst=some d)(h:LI P N sc ops rest Q ((d,v)::env) H)(e:o.guard=none:=by rfl)(b:Nat.blt d N=true:=by rfl):LI P N sc ops (o::rest) Q env H:=λa w hs=>by unfold wpListIn;rw [aO (Zaf e)];refine⟨λ_ _=>trivial,?_⟩;show o.uponIn _ 0 P a _ Q ((execOp _ o).run P w);rw [g a w hs];show wpListIn _ 0 P ops Q _ _ w;rw [c];exact h _ w (hs.put d v b)
def Bd(h:X N sc .normal Q env H):LI P N sc ops [] Q env H:=λa w hs=>h a w hs
theorem Sat.base {o m:World}   {a:Act} (hs:Sat N sc env H a o) (t:∀p∈pre,∀b,p.fp b->b<w0.heap.size/\¬M b) (n:AllRo pre) (c:HSub (Yn 1 pre) H)
  (h:Chg (λb=>M b\/w0.heap.size<=b) o m):Sat N sc env ((0,Zy m (λ_=>False))::Yn 1 pre) a m:=by
 refine⟨hs.size,hs.defers,hs.env,λi p hi=>?_,λi j p q w hi z s b r u=>?_,λi p l hi b r=>?_⟩
 .by_cases g:0=i
  .subst g;cases hi;exact Chg.refl _ _
  .rw [Zh _ _ g]at hi;have D:=(Na pre 1 i p hi).2;refine p.stable _ _ (hs.hold i p (c.lk i p hi)) ⟨h.os,h.tape,h.output,h.size,λk v B=>h.block k v (λy=>?_)⟩;grind
 .by_cases g:0=i
  .subst g;cases hi;cases s
  .rw [Zh _ _ g]at hi;rw [n.mem p (Na pre 1 i p hi).2]at s;grind
 .rw [Zh _ _ (λe=>l e.symm)]at hi;exact hs.scope i p l (c.lk i p hi) b r
theorem Zud (vs:List Value)(pre:List Pc)   {o:Oper} {l:Nat}       {J:Nat->World->Prop}  {α G:Type} {xs:List α} {ys:α->G->List Value} {F:α->G->List Pc} 
  {k:Nat} (y:α) (g:G) (hY:YJI P w0 l M J Jx xs ys F) (hy:xs[k]? = some y) (hJ:J k W) (hW:w0.heap.size<=W.heap.size) (n:∀p∈pre,∀b,p.fp b->b<w0.heap.size/\¬M b)
  (ho:o.op= .call { callee:= .value x,args:=ops'.toArray,argTypes:=tys }) (hg:o.guard=none) (hd:o.dst=some d) (hN:Nat.blt d N=true) (hx:ev env x=some (.func (.yield l) #[] #[])) (s:EvL env ops' vs) (V:vs=ys y g)
  (h0:lk H 0=some (Zy W (λ_=>False))) (v:∀p∈F y g,p.own=false/\(∀b,p.fp b->W.heap.size<=b)/\∃i R,lk H i=some R/\∀w,R.holds w->p.holds w)
  (z:AllRo pre) (q:HSub (Yn 1 pre) H)
  (ht:∀c,J (k+1) c->w0.heap.size<=c.heap.size->LI P N sc ops rest Q ((d,.bool true)::env) ((0,Zy c (λ_=>False))::Yn 1 pre))
  (hf:∀c,Jx c->w0.heap.size<=c.heap.size->LI P N sc ops rest Q ((d,.bool false)::env) ((0,Zy c (λ_=>False))::Yn 1 pre)):LI P N sc ops (o::rest) Q env H:=λa w hs=>by
 subst V;have Z:=Hk (hs.hold 0 _ h0);obtain⟨fn,I,j,t,B,m⟩:=hY k y g hy W w hJ hW Z (λp hp=>by obtain⟨h1,h2,i,R,hi,hh⟩:=v p hp;exact⟨hh w (hs.hold i R hi),h1,h2⟩)
 have S:(o.semAt Fence.wide.round a.eval).run P w= .ok (.round l fn I j t) w:=by show(execOp _ o).run P w=_;have hm:=s.map hs;have Y:=hs.ev hx;simp [execOp,ho,resolve,invoke,Deferred.ofValue,hm,Y,B,Sem.run_bind]
 unfold wpListIn;rw [aO (Zaf hg)];refine⟨λ_ _=>trivial,?_⟩;rw [S];refine⟨λh=>(by cases h),m.mono ?_⟩;have D:=aB hW Z.size;rintro e c (⟨rfl,r,u⟩|⟨rfl,r,u⟩)
 .rw [hd];exact ht c r (aB D u.size) _ c ((hs.base n z q u).put d _ hN)
 .rw [hd];exact hf c r (aB D u.size) _ c ((hs.base n z q u).put d _ hN)
theorem Zbt{J:Nat->World->Prop}{n:Nat}{e:Exit}(l:e= .ret\/e= .normal)(m:fn.results=#[])(j:lk H 0=some (Zy W (λ_=>False)))(b:∀k,Ze7 (J k))(c:Ze7 Jx)(h:J n W\/Jx W):X N sc e (Ymg P fn n J Jx) env H:=λa w hs=>by
 have i:=Hk (hs.hold 0 _ j);have g:a.defers=[]/\∃v,(results fn a.tmps).run P w= .ok v w/\((∃u,Ending.returned v= .returned u)/\(J n w\/Jx w)):=
  ⟨hs.defers,_,Ztp m,⟨_,rfl⟩,h.imp (λh=>b n W w h i) (λh=>c W w h i)⟩
 rcases l with rfl|rfl<;>exact g
end Go.Sky
namespace Go.Sky
open Go.RowKit Below
variable{w W W':World}{Mf:Nat->Prop}{Hn:Hp}{a:Act}{fn:Func}{preF:List Pc}{lbv:List Value}
variable {P:Program} {N:Nat} {sc:Nat->Prop} {env env':Qm} {H H':Hp} {Q Q':Exit->Act->World->Prop}
def FpM:Hp->Hp->Prop
 | [],_=>True
 | (i,p)::r,H=>(p.own=true\/∀b,p.fp b->∃j q,lk H j=some q/\q.fp b)/\FpM r H
theorem FpM.lk:∀{H' H:Hp},FpM H' H->∀i p,lk H' i=some p->p.own=true\/∀b,p.fp b->∃j q,lk H j=some q/\q.fp b
 | [],_,_,_,_,h=>by cases h
 | (k,u)::r,H,h,i,p,hi=>by
  by_cases c:k=i
  .subst c;rw [Zp]at hi;cases hi;exact h.1
  .rw [Zh _ _ c]at hi;exact FpM.lk h.2 i p hi
structure Kps (sc:Nat->Prop) (w:World) (m:Nat) (Mf:Nat->Prop) (Hn:Hp) (W:World):Prop where
 hold:∀i it,lk Hn i=some it->it.holds W
 sep:∀i j it jt,i≠j->lk Hn i=some it->lk Hn j=some jt->it.own=true->∀b,it.fp b->jt.fp b->False
 scope:∀i it,i≠0->lk Hn i=some it->∀b,it.fp b->sc b
 off:∀i it,lk Hn i=some it->it.own=false->∀b,it.fp b->b<w.heap.size\/m<=b
 mf:∀i it,lk Hn i=some it->it.own=true->∀b,it.fp b->Mf b
def Ds(m:Nat)(H:Hp)(b:Nat):Prop:=(∃i q,lk H i=some q/\q.own=true/\q.fp b)\/m<=b
def Kps.chg{m:Nat}(h:Kps sc w m Mf Hn W)(d:∀i c,lk Hn i=some c->Chg (λb=>¬c.fp b) W W'):Kps sc w m Mf Hn W':=
 ⟨λi c hi=>c.stable _ _ (h.hold i c hi) (d i c hi),h.sep,h.scope,h.off,h.mf⟩
def Kps.stays{m:Nat}(h:Kps sc w m Mf Hn W)(b:Below W.heap.size W W'):Kps sc w m Mf Hn W':=h.chg λ_ _ _=>Chg.of_below b
theorem Kps.put{m:Nat}{d:Nat}{o:Obj}(h:Kps sc w m (Ds m H) Hn W)(g:∀i q,lk H i=some q->∀b,q.fp b->b<w.heap.size)(p:w.heap.size<=d/\d<m):Kps sc w m (Ds m H) Hn (W.putObj d o):=
 h.chg λi c hi=>⟨rfl,rfl,rfl,O8,λk r l=>World.putObj_heap_other (λe=>l λf=>by
  cases ho:c.own with
  | false=>rcases h.off i c hi ho _ f with h|h<;>omega
  | true=>
   rcases h.mf i c hi ho _ f with⟨j,q,s,_,n⟩|h
   all_goals grind)⟩
def Kps.sat{m:Nat}(h:Kps sc w m Mf Hn W)(b:a.tmps.size=N)(c:a.defers=[])(d:∀t v,lk env t=some v->a.tmps.getD t undef=v):Sat N sc env Hn a W:=⟨b,c,d,h.hold,h.sep,h.scope⟩
def Zca(H:Hp)(w0:World):Prop:=lk H 0=some (Zy w0 (λ_=>False))/\lk H 92=none
theorem lk92{p:Pc}{H:Hp}{i:Nat}{q:Pc}(h:lk ((92,p)::H) i=some q):(i=92/\q=p)\/(i≠92/\lk H i=some q):=by grind [Zp,Zh]
def Mfs(sc:Nat->Prop)(m:Nat)(H:Hp)(b:Nat):Prop:=Ds m H b\/¬sc b
theorem Sat.ps {o y:World} {m n:Nat} {d:Hp}  (hs:Sat N sc env ((n,Zy o (Mfs sc m H))::Hn) a y) (S:lk Hn n=none) (R:n≠0) (Z:∀q,lk Hn 0=some q->q.own=false) (hb:m<=o.heap.size)
  (F:FpM Hn d) (u:∀j q,lk d j=some q->∀b,q.fp b->q.own=true->Ds m H b) (B:∀j q,lk d j=some q->∀b,q.fp b->q.own=false->b<w.heap.size\/m<=b) (M:∀i q,lk H i=some q->∀b,q.fp b->b<w.heap.size):Kps sc w m (Ds m H) Hn y:=by
 have g:∀i c,lk Hn i=some c->lk ((n,Zy o (Mfs sc m H))::Hn) i=some c:=λi c hi=>by grind [Zh]
 have s:∀i c,lk Hn i=some c->c.own=true->∀b,c.fp b->Ds m H b:=λi c hi z b f=>by
  have k:i≠n:=λe=>O5;have p:i≠0:=λe=>O5;have Y:=hs.scope i c p (g i c hi) b f;have:=hs.sep i n c _ k (g i c hi) (Zp _ _ _) z b f;by_cases l:b<o.heap.size
  .rcases(cJ.1 λv=>this ⟨l,v⟩)with h|h
   all_goals grind
  .exact .inr O1
 refine⟨λi c hi=>hs.hold i c (g i c hi),λi j c D t hi I=>hs.sep i j c D t (g i c hi) (g j D I),λi c r hi=>hs.scope i c r (g i c hi),λi c hi z b f=>?_,s⟩;rcases F.lk i c hi with h|h
 .grind
 .obtain⟨j,q,v,x⟩:=h b f;cases hqo:q.own with
  | false=>grind
  | true=>
   rcases u j q v b x hqo with⟨i',q',V,_,G⟩|h
   all_goals grind
def LpAt(l:Nat)(Mf:Nat->Prop)(W:World):Prop:=(∃r,W.heap[l]? = some (.loop r))/\¬Mf l
def RBn(n:Nat)(N:Nat)(sc:Nat->Prop)(Mf:Nat->Prop)(b:Hp){h i:Type}(j:h->Hp)(g:h->Prop)(k:i->Hp)(c:i->Prop)(l:World):Exit->Act->World->Prop:=λe a W=>
 (e= .normal/\∃d,g d/\FpM (j d) b/\∃env',Sat N sc env' ((n,Zy l Mf)::j d) a W)\/(e= .ret/\∃f,c f/\FpM (k f) b/\∃env',Sat N sc env' ((n,Zy l Mf)::k f) a W)
def RAn(n:Nat)(P:Program)(N:Nat)(sc:Nat->Prop)(l:Nat)(Mf:Nat->Prop)(b:Hp)(body:Code){i j:Type}(k:i->Hp)(h:i->Prop)(m:j->Hp)(f:j->Prop)(o:World):Exit->Act->World->Prop:=λe a W=>
 e= .normal/\∃c d,lk d n=none/\(∀q,lk d 0=some q->q.own=false)/\FpM d b/\Sat N sc c ((n,Zy o Mf)::d) a W/\
  ∀g,LpAt l Mf g->∀a W,Sat N sc c ((n,Zy g Mf)::d) a W->body.wpIn (Fence.wide.inRound l) 0 P (RBn n N sc Mf b k h m f g) a W
theorem Zg0:∀(l:List Pc) (n:Nat) (H:Hp) (j:Nat) (q:Pc),lk (adds n l H) j=some q->q∈l\/lk H j=some q
 | [],_,_,_,_,h=> .inr h
 | p::r,n,H,j,q,h=>by
  by_cases b:n=j
  .subst b;rw [Zp]at h;cases h;exact .inl (bX ..)
  .rw [Zh _ _ b]at h;exact(Zg0 r _ H j q h).imp (bN _) id
@[reducible] def renv:List Nat->List Value->Qm->Qm
 | p::ps,v::vs,env=>renv ps vs ((p,v)::env)
 | _,_,env=>env
theorem Sat.rounds{w:World} : ∀(ps:List Nat) (vs:List Value) {env:Qm} {b:Array Value},(ps.all λp=>Nat.blt p N)=true->Sat N sc env H { tmps:=b,defers:=[] } w->
  Sat N sc (renv ps vs env) H { tmps:=(ps.zip vs).foldl (λt c=>t.setIfInBounds c.1 c.2) b,defers:=[] } w
 | [],_,_,_,_,h=>h
 | _::_,[],_,_,_,h=>h
 | p::ps,v::vs,env,b,hp,h=>by simp only [List.all_cons,aP]at hp;exact Sat.rounds ps vs hp.2 (h.put p v hp.1)
theorem Zu0  {w0:World}  {al:Bool} {c:Type} {φ:c->Prop} {val:c->Value} {b:c->List Pc}  {D:Nat}
  (d:W.heap[D]? = some (.deferred (some []))) (h:Za1 P fn w0 preF al φ val b .ret { a with defers:=[] } (W.putObj D (.deferred none))) :
  Zdw P fn w0 preF al φ val b .ret { a with defers:=[{ target:= .collected D,args:=#[] }] } W:=by
 obtain⟨-,v,f,e⟩:=h;exact⟨O8,.inl ⟨_,_,rfl,run_takeDeferred d,⟨v,f,e⟩⟩⟩
theorem e_rfi (pre:List Pc)(w0:World) {g:Operand} {gf i6 g1:Nat} {ps:List Nat} {assign body:Code}   {α G:Type} {xs:List α} {ys:α->G->List Value} {F:α->G->List Pc} {lc:List Oper}    {al:Bool} {GF:Type} {φ:GF->Prop} {val:GF->Value} {R:GF->List Pc}
  {GG GX:Type} (S:Nat->GG->Hp) (c2:Nat->GG->Prop) (HX:GX->Hp) (c3:GX->Prop) (d1:GG)
  (hg:ev env g=some (.func (.func gf) #[] lbv.toArray)) (eg:∀args w,(callFunc gf args).run P w= .ok (.enter gf args) w) (hc:Zwh P gf lbv pre xs ys F)
  (hp:∀p∈pre,p.own=false/\∃i,lk H i=some p) (i2:∀x I,(ys x I).length=ps.length) (i1:(ps.all λp=>Nat.blt p N)=true)
  (hw:∀b,w0.heap.size<=b->sc b) (h0:lk H 0=some (Zy w0 (λ_=>False)))
  (b7:c2 0 d1) (b2:HSub (S 0 d1) H) (hk:∀k u,Zca (S k u) w0) (h8:∀gx,Zca (HX gx) w0)
  (c5:∀k x I u,xs[k]? = some x->c2 k u->∀l Mf V a W,Sat N sc (renv ps (ys x I) env) ((92,Zy V Mf)::adds 100 (F x I) (S k u)) a W->
   assign.wpIn (Fence.wide.inRound l) 0 P (RAn 92 P N sc l Mf (adds 100 (F x I) (S k u)) body (S (k+1)) (c2 (k+1)) HX c3 V) a W)
  (i0:lc.all Zgq=true)
  (hC:∀u,c2 xs.length u->∀D od,L P N sc lc.toArray lc (Hg λe a w=>e= .normal/\∃b5 H2,lk H2 92=none/\FpSub H2 (S xs.length u)/\Sat N sc b5 ((92,fx D od)::H2) a w/\X N sc .ret (Za1 P fn w0 preF al φ val R) b5 H2) env ((92,fx D od)::S xs.length u))
  (hX:∀gx,c3 gx->X N sc .ret (Za1 P fn w0 preF al φ val R) env (HX gx)) :
  E P N sc (.rangeFunc g ps.toArray assign body) (Exit.inBlock g1 (Exit.then ((Code.seq (.region i6 lc.toArray false) .ret).wp P (Zdw P fn w0 preF al φ val R)) (Zdw P fn w0 preF al φ val R))) env H:=λa w hs=>by
 have a0:∀i p,lk H i=some p->∀b,p.fp b->b<w.heap.size:=λi p hi b f=>p.lt w b (hs.hold i p hi) f;have i5:w0.heap.size<=w.heap.size:=(hs.hold 0 _ h0).size;refine(wpIn_wide (n:=0)).1 (wpIn_rangeFunc ?_);intro d0 h5;obtain⟨c,d⟩:∃c:LoopState->Option Code->Loop,c=λst pe=>{ state:=st,pending:=pe,fn:=d0,tmps:=a.tmps,params:=ps.toArray,assign:=assign,body:=body,defers:=w.heap.size }:=⟨_,rfl⟩;obtain⟨W1,b6⟩:∃W1,(w.alloc (.deferred (some []))).alloc (.loop (c .ready none))=W1:=⟨_,rfl⟩;have g5:W1.heap[w.heap.size+1]? = some (.loop (c .ready none)):=by rw [<-b6];have:=World.alloc_heap_new (w.alloc (.deferred (some []))) (.loop (c .ready none));rwa [World.size_alloc]at this
 have g4:W1.heap[w.heap.size]? = some (.deferred (some [])):=by rw [<-b6];exact(Below.heap_alloc _ _ _ O8).trans (World.alloc_heap_new w _)
 have f1:Below w.heap.size w W1:=by rw [<-b6];exact((Below.refl _ w).alloc (aI _) _).alloc O8 _
 have j1:W1.heap.size=w.heap.size+2:=by rw [<-b6];simp
 have e0:(#[.func (.yield (w.heap.size+1)) #[] #[]] ++ lbv.toArray:Array Value)=(Value.func (.yield (w.heap.size+1)) #[] #[]::lbv).toArray:=O8;refine⟨w.heap.size+1,[{ target:= .collected w.heap.size,args:=#[] }],W1,{ target:= .fn (.func gf) lbv.toArray,args:=#[.func (.yield (w.heap.size+1)) #[] #[]] },W1,gf,
  (Value.func (.yield (w.heap.size+1)) #[] #[]::lbv).toArray,W1,?_,?_,λ_ _=>trivial,?_,λh=>(by cases h),?_⟩
 .rw [<-b6,d];exact run_enterLoop_outer _ _ _ _ _
 .simp only [resolve,hs.ev hg];simp [go_sem]
 .simp [invoke,go_sem,eg]
 have c1:∀(Hn:Hp) (r:Loop),Ze7 λW=>W.heap[w.heap.size+1]? = some (.loop r)/\W.heap[w.heap.size]? = some (.deferred (some []))/\W1.heap.size<=W.heap.size/\Kps sc w (w.heap.size+2) (Ds (w.heap.size+2) H) Hn W:=λHn r W W' ⟨h1,h2,h3,h4⟩ hB=>
  ⟨(hB.block _ (aM.1 h1).1).trans h1,(hB.block _ (aM.1 h2).1).trans h2,aB h3 hB.size,h4.stays hB⟩
 have h9:¬Ds (w.heap.size+2) H (w.heap.size+1):=λh=>by
  rcases h with⟨i,q,hq,_,hf⟩|h
  .have:=a0 i q hq _ hf;omega
  .omega
 have d4:¬Ds (w.heap.size+2) H w.heap.size:=λh=>by
  rcases h with⟨i,q,hq,_,hf⟩|h
  .have:=a0 i q hq _ hf;omega
  .omega
 have f6:∀(Hn:Hp) (W:World),Kps sc w (w.heap.size+2) (Ds (w.heap.size+2) H) Hn W->∀(o:Obj),Kps sc w (w.heap.size+2) (Ds (w.heap.size+2) H) Hn (W.putObj w.heap.size o):=λHn W h o=>h.put a0 ⟨aI _,O1⟩;have c0:∀(Hn:Hp) (W:World),Kps sc w (w.heap.size+2) (Ds (w.heap.size+2) H) Hn W->∀(o:Obj),Kps sc w (w.heap.size+2) (Ds (w.heap.size+2) H) Hn (W.putObj (w.heap.size+1) o):=λHn W h o=>h.put a0 ⟨O1,O1⟩;refine callsIn_wide.2 ((hc (w.heap.size+1) (λb=>(∃i q,lk H i=some q/\q.own=true/\q.fp b)\/b=w.heap.size+1)
  (λk W=>∃u,c2 k u/\(W.heap[w.heap.size+1]? = some (.loop (c .ready none))/\W.heap[w.heap.size]? = some (.deferred (some []))/\W1.heap.size<=W.heap.size/\Kps sc w (w.heap.size+2) (Ds (w.heap.size+2) H) (S k u) W))
  (λW=>∃gx,c3 gx/\(W.heap[w.heap.size+1]? = some (.loop (c .done (some .ret)))/\W.heap[w.heap.size]? = some (.deferred (some []))/\W1.heap.size<=W.heap.size/\Kps sc w (w.heap.size+2) (Ds (w.heap.size+2) H) (HX gx) W)) W1
  ?_ ?_ ?_ ?_ ?_ ?_).mono ?_)
 .intro p z;obtain⟨ho,i,hi⟩:=hp p z;exact p.stable _ _ (hs.hold i p hi) (Chg.of_below f1)
 .rintro p z b f (⟨i,q,hq,b1,i3⟩|rfl)
  .obtain⟨ho,j,M⟩:=hp p z;exact hs.sep i j q p (λe=>by subst e;rw [hq]at M;cases M;rw [ho]at b1;cases b1) hq M b1 b i3 f
  .obtain⟨ho,j,M⟩:=hp p z;have:=a0 j p M _ f;omega
 .rintro k W W' ⟨u,d8,h⟩ hB;exact⟨u,d8,c1 _ _ W W' h hB⟩
 .rintro W W' ⟨gx,d8,h⟩ hB;exact⟨gx,d8,c1 _ _ W W' h hB⟩
 .refine⟨d1,b7,g5,g4,aI _,λi s hi=>s.stable _ _ (hs.hold i s (b2.lk i s hi)) (Chg.of_below f1),λi j s jt b0 hi M=>hs.sep i j s jt b0 (b2.lk i s hi) (b2.lk j jt M),
   λi s b7 hi=>hs.scope i s b7 (b2.lk i s hi),λi s hi _ b f=> .inl (a0 i s (b2.lk i s hi) b f),λi s hi ho b f=> .inl ⟨i,s,b2.lk i s hi,ho,f⟩⟩
 .rintro k x I hx W V ⟨u,Y,hl,hd,f9,a2⟩ j2 hB Z;have f5:V.heap[w.heap.size+1]? = some (.loop (c .ready none)):=(hB.block _ O1).trans hl;have g7:V.heap[w.heap.size]? = some (.deferred (some [])):=(hB.block _ O1).trans hd;have hy:=run_yield (P:=P) (args:=(ys x I).toArray) f5 (by rw [d];simp [i2]);have b8:∀p∈F x I,∀b,p.fp b->w.heap.size+2<=b:=λp hp b f=>by have:=(Z p hp).2.2 b f;omega
  have s1:Sat N sc env (S k u) { tmps:=a.tmps,defers:=[] } V:=(a2.stays hB).sat hs.size rfl hs.env;have s2:Sat N sc env (adds 100 (F x I) (S k u)) { tmps:=a.tmps,defers:=[] } V:=s1.adds (w1:=V) _ _ λp z=>⟨(Z p z).1,(Z p z).2.1,λb f=>hw b (by have:=b8 p z b f;omega),λj jt M ho b f a5=>by have h1:=(Z p z).2.2 b f;have h2:=jt.lt W b (a2.hold j jt M) a5;omega⟩
  have c6:∀j q,lk (adds 100 (F x I) (S k u)) j=some q->(q∈F x I)\/lk (S k u) j=some q:=λj q h=>Zg0 _ _ _ j q h;have z:∀j q,lk (adds 100 (F x I) (S k u)) j=some q->∀b,q.fp b->q.own=true->Ds (w.heap.size+2) H b:=λj q M b f ho=>by
   rcases c6 j q M with h|h
   .rw [(Z q h).2.1]at ho;cases ho
   .exact a2.mf j q h ho b f
  have c9:∀j q,lk (adds 100 (F x I) (S k u)) j=some q->∀b,q.fp b->q.own=false->b<w.heap.size\/w.heap.size+2<=b:=λj q M b f ho=>by
   rcases c6 j q M with h|h
   .exact .inr (b8 q h b f)
   .exact a2.off j q h ho b f
  have s3:=s2.rounds ps (ys x I) i1;have s4:Sat N sc (renv ps (ys x I) env) ((92,Zy V (Mfs sc (w.heap.size+2) H))::adds 100 (F x I) (S k u)) _ V:=s3.add 92 (Zy V (Mfs sc (w.heap.size+2) H)) (Chg.refl _ _) (λj jt b0 M Ht b f a5=>by
   rcases Ht with h|h
   .cases h
   .exact f.2 (.inl (z j jt M b a5 h))) (λb f=>cJ.1 λhn=>f.2 (.inr hn))
  have e2:¬Mfs sc (w.heap.size+2) H (w.heap.size+1):=λh=>h.elim h9 (λhn=>hn (hw _ O1));have e7:¬Mfs sc (w.heap.size+2) H w.heap.size:=λh=>h.elim d4 (λhn=>hn (hw _ i5));rw [d]at hy;refine⟨d0,_,assign,body,hy,roundIn_of_wpIn h5 ?_⟩;have hr:=c5 k x I u hx Y (w.heap.size+1) (Mfs sc (w.heap.size+2) H) V _ V s4;have e3:(ps.toArray.zip (ys x I).toArray).foldl (λt (p,v)=>t.setIfInBounds p v) a.tmps=(ps.zip (ys x I)).foldl (λt pv=>t.setIfInBounds pv.1 pv.2) a.tmps:=O8;have f7:w.heap.size+2<=V.heap.size:=by have:=hB.size;omega
  have h7:∀(Hn:Hp),Zca Hn w0->∀q,lk Hn 0=some q->q.own=false:=λHn h q hq=>by rw [h.1]at hq;cases hq;rfl
  rw [show(ps.toArray.zip (ys x I).toArray).foldl (λt (x:Nat×Value)=>t.setIfInBounds x.1 x.2) a.tmps=(ps.zip (ys x I)).foldl (λt pv=>t.setIfInBounds pv.1 pv.2) a.tmps from e3];refine wpIn_mono hr ?_;rintro e a1 W2 ⟨rfl,e5,H1,d2,e8,g2,a4,d7⟩;have a6:Chg (Mfs sc (w.heap.size+2) H) V W2:=a4.hold 92 _ (Zp _ _ _);have a9:W2.heap[w.heap.size+1]? = some (.loop (c .ready none)):=(a6.block _ O1 e2).trans f5;have g9:W2.heap[w.heap.size]? = some (.deferred (some [])):=(a6.block _ O1 e7).trans g7;have p1:=a4.ps d2 O4 e8 f7 g2 z c9 a0;have i8:V.heap.size<=W2.heap.size:=a6.size;obtain⟨m,y⟩:∃m,W2.putObj (w.heap.size+1) (.loop { c .ready none with state:= .busy })=m:=⟨_,rfl⟩;have i7:Sat N sc e5 ((92,Zy m (Mfs sc (w.heap.size+2) H))::H1) a1 m:=by
   have p2:=c0 _ _ p1 (.loop { c .ready none with state:= .busy });rw [y]at p2;refine(p2.sat a4.size a4.defers a4.env).add 92 (Zy m (Mfs sc (w.heap.size+2) H)) (Chg.refl _ _) (λj jt b0 M Ht b f a5=>?_) (λb f=>cJ.1 λhn=>f.2 (.inr hn));rcases Ht with h|h
   .cases h
   .exact f.2 (.inl (p2.mf j jt M h b a5))
  have i4:W2.heap.size=m.heap.size:=by rw [<-y];simp
  have c8:m.heap[w.heap.size+1]? = some (.loop { c .ready none with state:= .busy }):=by rw [<-y];exact World.putObj_heap_same O1
  have f3:m.heap[w.heap.size]? = some (.deferred (some [])):=by rw [<-y];exact(World.putObj_heap_other O1).trans g9
  refine⟨m,by rw [<-y];exact run_beginRound a9 (by rw [d]),wpIn_mono (d7 m ⟨⟨_,c8⟩,e2⟩ a1 m i7) ?_⟩;have c7:∀(Hn:Hp) (env':Qm) (a3:Act) (B:World),Zca Hn w0->FpM Hn (adds 100 (F x I) (S k u))->Sat N sc env' ((92,Zy m (Mfs sc (w.heap.size+2) H))::Hn) a3 B->∀(r:Loop),
    B.heap[w.heap.size+1]? = some (.loop { c .ready none with state:= .busy })/\(((B.putObj (w.heap.size+1) (.loop r)).heap[w.heap.size+1]? = some (.loop r)/\(B.putObj (w.heap.size+1) (.loop r)).heap[w.heap.size]? = some (.deferred (some []))/\
     W1.heap.size<=(B.putObj (w.heap.size+1) (.loop r)).heap.size/\Kps sc w (w.heap.size+2) (Ds (w.heap.size+2) H) Hn (B.putObj (w.heap.size+1) (.loop r)))/\
     Chg (λb=>((∃i q,lk H i=some q/\q.own=true/\q.fp b)\/b=w.heap.size+1)\/W1.heap.size<=b) V (B.putObj (w.heap.size+1) (.loop r))):=by
   intro Hn env' a3 B e1 g3 b3 r;have a7:Chg (Mfs sc (w.heap.size+2) H) m B:=b3.hold 92 _ (Zp _ _ _);have b9:=(a7.block _ O1 e2).trans c8;have a8:=(a7.block _ O1 e7).trans f3;have g0:=a7.size;have p3:=b3.ps e1.2 O4 (h7 Hn e1) O1 g3 z c9 a0;refine⟨b9,⟨World.putObj_heap_same O1,(World.putObj_heap_other O1).trans a8,O10,c0 _ _ p3 _⟩,?_⟩;have k0:(Zy w0 (λ_=>False)).holds V:=a2.stays hB |>.hold 0 _ (hk k u).1;have k3:(Zy w0 (λ_=>False)).holds B:=p3.hold 0 _ e1.1;refine⟨?_,?_,?_,O10,λb f hn=>?_⟩
   .exact a7.os.trans ((by rw [<-y];rfl:m.os=W2.os).trans a6.os)
   .exact a7.tape.trans ((by rw [<-y];rfl:m.tape=W2.tape).trans a6.tape)
   .exact a7.output.trans ((by rw [<-y];rfl:m.output=W2.output).trans a6.output)
   .have f2:b≠w.heap.size+1:=λe=>hn (.inl (.inr e));have g6:¬Ds (w.heap.size+2) H b:=λh=>by
     rcases h with h|h
     .exact hn (.inl (.inl h))
     .exact hn (.inr O1)
    refine(World.putObj_heap_other f2).trans ?_;by_cases f8:sc b
    .have e9:¬Mfs sc (w.heap.size+2) H b:=λh=>h.elim g6 (λh=>h f8);refine(a7.block b O1 e9).trans ?_;have:m.heap[b]? = W2.heap[b]?:=by rw [<-y];exact World.putObj_heap_other f2
     exact this.trans (a6.block b f e9)
    .have f0:b<w0.heap.size:=by
      rcases bA b w0.heap.size with h|h
      .exact h
      .exact absurd (hw b h) f8
     exact(k3.block b f0 (λh=>h)).trans (k0.block b f0 (λh=>h)).symm
  rintro e a3 B (⟨rfl,e6,d9,d5,env',b3⟩|⟨rfl,gx,d9,d5,env',b3⟩)
  .obtain⟨b9,d6,d3⟩:=c7 _ env' a3 B (hk (k+1) e6) d5 b3 (c .ready none);have:=run_endRound (P:=P) none b9;rw [show({ ({ c .ready none with state:= .busy } : Loop)with state:=if(none:Option Code).isNone then LoopState.ready else .done,pending:=none } : Loop)=c .ready none by rw [d];rfl]at this;exact⟨_,_,this,.inl ⟨rfl,⟨e6,d9,d6⟩,d3⟩⟩
  .obtain⟨b9,d6,d3⟩:=c7 _ env' a3 B (h8 gx) d5 b3 (c .done (some .ret));have:=run_endRound (P:=P) (some .ret) b9;rw [show({ ({ c .ready none with state:= .busy } : Loop)with state:=if(some Code.ret).isNone then LoopState.ready else .done,pending:=some .ret } : Loop)=c .done (some .ret) by rw [d];rfl]at this;exact⟨_,_,this,.inr ⟨rfl,⟨gx,d9,d6⟩,d3⟩⟩
 .have i9:∀(Hn:Hp) (W:World),Kps sc w (w.heap.size+2) (Ds (w.heap.size+2) H) Hn W->Kps sc w (w.heap.size+2) (Ds (w.heap.size+2) H) Hn ((W.putObj (w.heap.size+1) (.loop (c .exhausted none))).putObj w.heap.size (.deferred none)):=λHn W h=>f6 _ _ (c0 _ _ h _) _;rintro e W2 ⟨⟨v,rfl⟩,⟨u,Y,hl,hd,f9,e4⟩|⟨gx,Y,hl,hd,f9,e4⟩⟩
  .refine⟨none,_,by have:=run_endLoop (P:=P) hl (by rw [d];simp);rw [d]at this;exact this,?_⟩;obtain⟨B,c4⟩:∃B,W2.putObj (w.heap.size+1) (.loop (c .exhausted none))=B:=⟨_,rfl⟩;have p3:=c0 _ _ e4 (.loop (c .exhausted none));rw [c4]at p3;have a8:B.heap[w.heap.size]? = some (.deferred (some [])):=by rw [<-c4];exact(World.putObj_heap_other O1).trans hd
   have g0:B.heap.size=W2.heap.size:=by rw [<-c4];simp
   rw [show W2.putObj (w.heap.size+1) (.loop { state:= .exhausted,pending:=none,fn:=d0,tmps:=a.tmps,params:=ps.toArray,assign:=assign,body:=body,defers:=w.heap.size })=B by rw [<-c4,d]];have s3:Sat N sc env (S xs.length u) { tmps:=a.tmps,defers:=[] } B:=p3.sat hs.size rfl hs.env;have s4:Sat N sc env ((92,fx w.heap.size (.deferred (some [])))::S xs.length u) { tmps:=a.tmps,defers:=[] } B:=s3.add 92 _ a8 (λj jt b0 M Ht b f a5=>by
    rcases Ht with h|h
    .cases h
    .have f:b=w.heap.size:=f;subst f;exact d4 (p3.mf j jt M h _ a5)) (λb f=>hw b (by have f:b=w.heap.size:=f;omega))
   rw [hs.defers];refine wp_seq (wp_region_lit (Zqk (P:=P) (ops:=lc.toArray) (Q:=Exit.then (Code.ret.wp P (Zdw P fn w0 preF al φ val R)) (Zdw P fn w0 preF al φ val R)) (ds:=[{ target:= .collected w.heap.size,args:=#[] }]) lc { tmps:=a.tmps,defers:=[] } B i0 ?_));refine Im (λe a' W' h=>?_) lc _ B (hC u Y _ _ _ B s4);cases e with
   | normal=>
    obtain⟨-,b5,H2,d2,h6,b4,hx⟩:=h;refine wp_ret (Zu0 (b4.hold 92 _ (Zp _ _ _)) ?_);have a9:∀i s,lk H2 i=some s->lk ((92,fx w.heap.size (.deferred (some [])))::H2) i=some s:=λi s hi=>by
     by_cases h1:92=i
     .subst h1;rw [d2]at hi;cases hi
     .rw [Zh _ _ h1];exact hi
    refine hx _ _ ⟨b4.size,rfl,b4.env,λi s hi=>s.stable _ _ (b4.hold i s (a9 i s hi)) ⟨rfl,rfl,rfl,O8,λk hk hn=>World.putObj_heap_other (λe=>hn λhf=>?_)⟩,λi j s jt b0 hi M=>b4.sep i j s jt b0 (a9 i s hi) (a9 j jt M),λi s b7 hi=>b4.scope i s b7 (a9 i s hi)⟩;subst e;obtain⟨q,hq,j0,f4⟩:=h6.lk i s hi;cases b1:q.own with
    | true=>exact d4 (p3.mf i q hq b1 _ (f4 _ hf))
    | false=>rcases p3.off i q hq b1 _ (f4 _ hf)with h|h<;>omega
   | _=>exact h.elim
  .refine⟨some .ret,_,by have:=run_endLoop (P:=P) hl (by rw [d];simp);rw [d]at this;exact this,wpIn_ret ?_⟩;have p3:=c0 _ _ e4 (.loop { c .done (some .ret)with state:= .exhausted });have a8:(W2.putObj (w.heap.size+1) (.loop { c .done (some .ret)with state:= .exhausted })).heap[w.heap.size]? = some (.deferred (some [])):=(World.putObj_heap_other O1).trans hd;rw [d]at p3 a8;rw [hs.defers];exact Zu0 a8 (hX gx Y _ _ ((f6 _ _ p3 _).sat hs.size rfl hs.env))
end Go.Sky
namespace Go.Sky
variable {P:Program} {N:Nat} {sc:Nat->Prop} {env env':Qm} {H H':Hp} {Q Q':Exit->Act->World->Prop} {M:Nat->Prop}
@[reducible] def lk2 {α:Type} : List (Nat×α)->Nat->Option α
 | [],_=>none
 | (k,v)::r,n=>match Nat.beq k n with
  | true=>some v
  | false=>lk2 r n
theorem Zxd{α:Type} : ∀(e:List (Nat×α)) (n:Nat),lk2 e n=lk e n
 | [],_=>rfl
 | (k,v)::r,n=>by unfold lk2 lk;cases Nat.beq k n<;>simp [Zxd r n]
@[reducible] def ev2 (e:Qm):Operand->Option Value
 | .tmp t=>lk2 e t
 | .const v=>some v
 | .global g=>some (.pointer (some ⟨g,0,none⟩))
 | .func f=>some (.func (.func f) #[] #[])
theorem ev2_eq(e:Qm)(x:Operand):ev2 e x=ev e x:=by cases x<;>simp [ev2,ev,Zxd]
@[reducible] def nth {α:Type} : List α->Nat->Option α
 | [],_=>none
 | x::r,n=>match n with
  | 0=>some x
  | n+1=>nth r n
theorem Zxa{α:Type} : ∀(l:List α) (n:Nat),nth l n=l[n]?
 | [],n=>by rfl
 | x::r,0=>by rfl
 | x::r,n+1=>by simp [nth,Zxa r n]
@[reducible] def ltb (a b:Nat):Bool:=match Nat.ble b a with
 | true=>false
 | false=>true
theorem Oz{a b:Nat}(h:ltb a b=true):Nat.blt a b=true:=by
 cases hb:Nat.ble b a with
 | true=>grind
 | false=>
  have c:¬b<=a:=λd=>by grind [Nat.ble_eq_true_of_le]
  simp_all
@[reducible] def neb (a b:Nat):Bool:=match Nat.beq a b with
 | true=>false
 | false=>true
theorem Zb6{a b:Nat}(h:neb a b=true):a≠b:=λe=>by grind [Nat.beq_refl]
class Som {α:Type} (a:Option α) (b:outParam α):Prop where h:a=some b
instance {α:Type} {b:α} : Som (some b) b:=⟨rfl⟩
class TB (a:Bool):Prop where h:a=true
instance:TB true:=⟨rfl⟩
def Som.e{x:Operand}{v:Value}(h:Som (ev2 env x) v):ev env x=some v:=(ev2_eq env x).symm.trans h.h
def Som.l{α:Type}{e:List (Nat×α)}{n:Nat}{v:α}(h:Som (lk2 e n) v):lk e n=some v:=(Zxd e n).symm.trans h.h
theorem Som.n{α:Type}{l:List α}{n:Nat}{v:α}(h:Som (nth l n) v):l.toArray[n]? = some v:=by have:=(Zxa l n).symm.trans h.h;simpa using this
class AndO (s q:Prop) (r:outParam Prop):Prop where h:r->s/\q
instance (priority:=low) {s q:Prop} : AndO s q (s/\q):=⟨id⟩
instance {q:Prop} : AndO True q q:=⟨λh=>⟨aA,h⟩⟩
class Und (P:Program) (t:TypeId) (d:outParam TypeDesc):Prop where h:P.underlying t=some d
class Siz (P:Program) (t:TypeId) (k:outParam Nat):Prop where h:∀w,(sizeOf t).run P w= .ok k w
class Agg (P:Program) (t:TypeId) (b:outParam Bool):Prop where h:∀w,(isAgg t).run P w= .ok b w
class EncT {α:Type} (P:Program) (t:TypeId) (k:Nat) (enc:α->Value):Prop where h:Enc P t k enc
class RdI (P:Program) (H:Hp) (v:Value) (i:outParam Nat) {α:outParam Type} (k:outParam Nat) (enc:outParam (α->Value)) (xs:outParam (List α)):Prop where
 h:∃p,lk H i=some p/\Rd p k enc v xs
instance {α:Type} {v:Value} {i k:Nat} {enc:α->Value} {xs:List α} : RdI P ((i,Yt k enc v xs)::H) v i k enc xs:=⟨_,Zp _ _ _,Zl⟩
instance {α:Type} {v:Value} {i k:Nat} {enc:α->Value} {xs:List α} {e:TypeId} [h:EncT P e k enc]:RdI P ((i,Nk k e enc v xs)::H) v i k enc xs:=⟨_,Zp _ _ _,Yu h.h⟩
instance {β:Type} {v:Value} {i k:Nat} {enc:β->Value} {q:β->Pc} {zs:List β} : RdI P ((i,Xv k enc q v zs)::H) v i k enc zs:=⟨_,Zp _ _ _,Zt⟩
instance (priority:=low) {α:Type} {v:Value} {i j k:Nat} {p:Pc} {enc:α->Value} {xs:List α} [h:RdI P H v i k enc xs] [hn:TB (neb j i)]:RdI P ((j,p)::H) v i k enc xs:=
 ⟨by obtain⟨q,h1,h2⟩:=h.h;exact⟨q,by rw [Zh _ _ (Zb6 hn.h)];exact h1,h2⟩⟩
class BxI (H:Hp) (b:Nat) (i:outParam Nat) (t:outParam TypeId) (l:outParam (List Value)):Prop where h:lk H i=some (box b t l.toArray)
instance {b i:Nat} {t:TypeId} {l:List Value} : BxI ((i,box b t l.toArray)::H) b i t l:=⟨Zp _ _ _⟩
instance (priority:=low) {b i j:Nat} {t:TypeId} {p:Pc} {l:List Value} [h:BxI H b i t l] [hn:TB (neb j i)]:BxI ((j,p)::H) b i t l:=⟨by rw [Zh _ _ (Zb6 hn.h)];exact h.h⟩
class RxI (H:Hp) (b:Nat) (i:outParam Nat) (t:outParam TypeId) (l:outParam (List Value)):Prop where h:lk H i=some (Oq b t l.toArray)
instance {b i:Nat} {t:TypeId} {l:List Value} : RxI ((i,Oq b t l.toArray)::H) b i t l:=⟨Zp _ _ _⟩
instance (priority:=low) {b i j:Nat} {t:TypeId} {p:Pc} {l:List Value} [h:RxI H b i t l] [hn:TB (neb j i)]:RxI ((j,p)::H) b i t l:=⟨by rw [Zh _ _ (Zb6 hn.h)];exact h.h⟩
class DI (P:Program) (N:Nat) (sc:Nat->Prop) (op:Go.Op) (env:Qm) (H:Hp) (v:outParam Value) (s:outParam Prop):Prop where
 h:s->∀{d:Option Tmp} {ty:TypeId} {pos:String} {af:Array Edge} {g:Option (Nat×Bool)},Ld P N sc ⟨d,op,ty,pos,af,g⟩ env H v
section
variable {x y c:Operand} {v u:Value} {t t':TypeId} {k:IntKind} {m n:Int}
instance [h:Som (ev2 env x) v]:DI P N sc (.move x) env H v True:=⟨λ_=>Gc rfl h.e⟩
instance [h:Som (ev2 env x) v]:DI P N sc (.assign x) env H v True:=⟨λ_=>d_as rfl h.e⟩
instance {i:Nat} {vs:List Value} [h:Som (ev2 env x) (.tuple vs.toArray)] [h2:Som (nth vs i) v]:DI P N sc (.extract x i) env H v True:=⟨λ_=>Zx4 rfl h.e h2.n⟩
instance {ad:Addr} [h:Som (ev2 env x) (.pointer (some ad))]:DI P N sc (.nilCheck x) env H (.pointer (some ad)) True:=⟨λ_=>d_nc rfl h.e⟩
instance {p:Prop} [Decidable p] [h:Som (ev2 env x) (.bool (decide p))]:DI P N sc (.unOp .not t x) env H (.bool (decide (¬p))) True:=⟨λ_=>d_not rfl h.e⟩
instance (priority:=low) {b:Bool} [h:Som (ev2 env x) (.bool b)]:DI P N sc (.unOp .not t x) env H (.bool (!b)) True:=⟨λ_=>Ym rfl h.e⟩
instance (priority:=high) [h:Som (ev2 env x) (.bool true)]:DI P N sc (.unOp .not t x) env H (.bool false) True:=⟨λ_=>Ym rfl h.e⟩
instance (priority:=high) [h:Som (ev2 env x) (.bool false)]:DI P N sc (.unOp .not t x) env H (.bool true) True:=⟨λ_=>Ym rfl h.e⟩
instance [h:Som (ev2 env c) (.bool true)] [h1:Som (ev2 env x) v]:DI P N sc (.pick c x y) env H v True:=⟨λ_=>Bw rfl h.e h1.e⟩
instance [h:Som (ev2 env c) (.bool false)] [h1:Som (ev2 env y) v]:DI P N sc (.pick c x y) env H v True:=⟨λ_=>Yp6 rfl h.e h1.e⟩
instance [h:Som (ev2 env x) (.int k m)] [h1:Som (ev2 env y) (.int k n)]:DI P N sc (.binOp .lss t x y t') env H (.bool (decide (m<n))) True:=⟨λ_=>d_lss rfl h.e h1.e⟩
instance [h:Som (ev2 env x) (.int k m)] [h1:Som (ev2 env y) (.int k n)]:DI P N sc (.binOp .leq t x y t') env H (.bool (decide (m<=n))) True:=⟨λ_=>d_leq rfl h.e h1.e⟩
instance [h:Som (ev2 env x) (.int k m)] [h1:Som (ev2 env y) (.int k n)]:DI P N sc (.binOp .gtr t x y t') env H (.bool (decide (n<m))) True:=⟨λ_=>Zvn rfl h.e h1.e⟩
instance [h:Som (ev2 env x) (.int k m)] [h1:Som (ev2 env y) (.int k n)]:DI P N sc (.binOp .geq t x y t') env H (.bool (decide (n<=m))) True:=⟨λ_=>d_geq rfl h.e h1.e⟩
instance [h:Som (ev2 env x) (.int k m)] [h1:Som (ev2 env y) (.int k n)]:DI P N sc (.binOp .eql t x y t') env H (.bool (decide (m=n))) True:=⟨λ_=>Ykl rfl h.e h1.e⟩
instance [h:Som (ev2 env x) (.int k m)] [h1:Som (ev2 env y) (.int k n)]:DI P N sc (.binOp .neq t x y t') env H (.bool (decide (m≠n))) True:=⟨λ_=>d_neq rfl h.e h1.e⟩
instance {a b:Bool} [h:Som (ev2 env x) (.bool a)] [h1:Som (ev2 env y) (.bool b)] [h2:Und P t .bool]:DI P N sc (.binOp .eql t x y t') env H (.bool (a == b)) True:=⟨λ_=>d_eqb rfl h.e h1.e h2.h⟩
instance {a b:Bool} [h:Som (ev2 env x) (.bool a)] [h1:Som (ev2 env y) (.bool b)] [h2:Und P t .bool]:DI P N sc (.binOp .neq t x y t') env H (.bool (a != b)) True:=⟨λ_=>d_neb rfl h.e h1.e h2.h⟩
instance [h:Som (ev2 env x) (.int .i64 m)] [h1:Som (ev2 env y) (.int .i64 n)]:DI P N sc (.binOp .add t x y t') env H (.int .i64 (m+n)) (-9223372036854775808<=m+n/\m+n<=9223372036854775807):=⟨λs=>d_add rfl h.e h1.e s⟩
instance [h:Som (ev2 env x) (.int .i64 m)] [h1:Som (ev2 env y) (.int .i64 n)]:DI P N sc (.binOp .sub t x y t') env H (.int .i64 (m-n)) (-9223372036854775808<=m-n/\m-n<=9223372036854775807):=⟨λs=>d_sub rfl h.e h1.e s⟩
instance [h:Som (ev2 env x) (.int .i64 m)] [h1:Som (ev2 env y) (.int .i64 n)]:DI P N sc (.binOp .mul t x y t') env H (.int .i64 (m*n)) (-9223372036854775808<=m*n/\m*n<=9223372036854775807):=⟨λs=>d_mul rfl h.e h1.e s⟩
instance {i kk:Nat} {α:Type} {enc:α->Value} {xs:List α} {e:TypeId} [h:Som (ev2 env x) v] [h1:RdI P H v i kk enc xs] [h2:Und P t (.slice e)]:DI P N sc (.call { callee:= .builtin .len,args:=#[x],argTypes:=#[t] }) env H (.int .i64 xs.length) True:=
 ⟨λ_=>by obtain⟨p,h3,h4⟩:=h1.h;exact d_len rfl h.e h3 h4 h2.h⟩
instance {s:ByteArray} [h:Som (ev2 env x) (.string s)] [h2:Und P t .string]:DI P N sc (.call { callee:= .builtin .len,args:=#[x],argTypes:=#[t] }) env H (.int .i64 s.size) True:=⟨λ_=>d_lens rfl h.e h2.h⟩
end
@[reducible] def eqb (a b:Nat):Bool:=match Nat.beq a b with
 | true=>true
 | false=>false
theorem eqb_eq{a b:Nat}(h:eqb a b=true):a=b:=by grind [Nat.eq_of_beq_eq_true]
@[reducible] def lenq {α:Type} : List α->Nat->Bool
 | [],n=>match n with
  | 0=>true
  | _+1=>false
 | _::r,n=>match n with
  | 0=>false
  | n+1=>lenq r n
theorem Zg2{α:Type} : ∀{l:List α} {n:Nat},lenq l n=true->l.length=n
 | [],0,_=>rfl
 | [],n+1,h=>O5
 | _::r,0,h=>O5
 | _::r,n+1,h=>by have:=Zg2 (by simpa [lenq]using h);simp [this]
@[reducible] def fit0 {α β:Type} : List α->List β->Bool
 | _,[]=>true
 | l,_::vs=>match l with
  | []=>false
  | _::r=>fit0 r vs
@[reducible] def fits {α β:Type} : List α->Nat->List β->Bool
 | [],j,a=>match j with
  | 0=>fit0 ([]:List α) a
  | _+1=>false
 | x::r,j,a=>match j with
  | 0=>fit0 (x::r) a
  | j+1=>fits r j a
theorem Zq1{α β:Type} : ∀{vs:List β} {l:List α},fit0 l vs=true->vs.length<=l.length
 | [],_,_=>O8
 | _::vs,[],h=>O5
 | _::vs,_::r,h=>by simp_all [Zq1]
theorem Ya4{α β:Type} : ∀{l:List α} {j:Nat} {vs:List β},fits l j vs=true->j+vs.length<=l.length
 | [],0,vs,h=>by have:=Zq1 O1;omega
 | [],j+1,vs,h=>O5
 | x::r,0,vs,h=>by have:=Zq1 O1;omega
 | x::r,j+1,vs,h=>by have:=Ya4 (l:=r) O1;grind
@[reducible] def seg {α:Type} : List α->Nat->Nat->List α
 | [],_,_=>[]
 | x::r,j,k=>match j with
  | j+1=>seg r j k
  | 0=>match k with
   | 0=>[]
   | k+1=>x::seg r 0 k
theorem Zjm{α:Type} : ∀(l:List α) (j k n:Nat) (u:α),(seg l j k)[n]? = some u->l[j+n]? = some u
 | [],_,_,_,_,h=>O5
 | x::r,j+1,k,n,u,h=>by have:=Zjm r j k n u (by simpa [seg]using h);rw [show j+1+n=(j+n)+1 by omega];simpa using this
 | x::r,0,0,n,u,h=>O5
 | x::r,0,k+1,0,u,h=>O5
 | x::r,0,k+1,n+1,u,h=>by have:=Zjm r 0 k n u O5;grind
class LEv {α:Type} (l:List α) (r:outParam (List α)):Prop where h:l=r
instance {α:Type} : LEv ([]:List α) []:=⟨rfl⟩
instance {α:Type} {a:α} {l r:List α} [h:LEv l r]:LEv (a::l) (a::r):=⟨by rw [h.h]⟩
class AddN (a b:Nat) (c:outParam Nat):Prop where h:a+b=c
instance (priority:=low) {a b:Nat} : AddN a b (a+b):=⟨rfl⟩
instance {b:Nat} : AddN 0 b b:=⟨bZ b⟩
instance {a:Nat} : AddN a 0 a:=⟨rfl⟩
class Df (α:Type) (d:outParam α):Prop where t:True
instance:Df Int 0:=⟨aA⟩
instance:Df Nat 0:=⟨aA⟩
section
variable {x y:Operand} {v u:Value} {t tb:TypeId} {b j i k f:Nat} {l vs ws:List Value}
instance [h:Som (ev2 env x) (.pointer (some ⟨b,j,none⟩))] [h1:Agg P t false] [h2:BxI H b i tb l] [h3:Som (nth l j) v]:DI P N sc (.load t x) env H v True:=⟨λ_=>Zmt _ rfl h.e h2.h h1.h h3.n⟩
instance [h:Som (ev2 env x) (.pointer (some ⟨b,j,none⟩))] [h1:Agg P t true] [h2:BxI H b i tb l] [h4:Siz P t k] [h3:LEv (seg l j k) vs] [h5:TB (lenq vs k)]:DI P N sc (.load t x) env H (.agg vs.toArray) True:=
 ⟨λ_=>Ybp rfl h.e h2.h h1.h h4.h (Zg2 h5.h) (λn u hu=>by rw [<-h3.h]at hu;simpa using Zjm l j k n u hu)⟩
instance [h:Som (ev2 env x) (.pointer (some ⟨b,j,none⟩))] [h1:Agg P t false] [h2:RxI H b i tb l] [h3:Som (nth l j) v]:DI P N sc (.load t x) env H v True:=⟨λ_=>d_lr rfl h.e h2.h h1.h h3.n⟩
instance [h:Som (ev2 env x) (.pointer (some ⟨b,j,none⟩))] [h1:Agg P t true] [h2:RxI H b i tb l] [h4:Siz P t k] [h3:LEv (seg l j k) vs] [h5:TB (lenq vs k)]:DI P N sc (.load t x) env H (.agg vs.toArray) True:=
 ⟨λ_=>d_lra rfl h.e h2.h h1.h h4.h (Zg2 h5.h) (λn u hu=>by rw [<-h3.h]at hu;simpa using Zjm l j k n u hu)⟩
instance {fs:List Field} {c q bo:Nat} {nm tag pk:String} {ft:TypeId} {em:Bool} [h:Som (ev2 env x) (.pointer (some ⟨b,j,none⟩))] [h1:Und P t (.struct fs.toArray)] [h2:Som (nth fs f) ⟨nm,ft,q,em,tag,pk,bo⟩] [h3:Siz P ft k] [h5:TB (neb k 0)] [h4:AddN j q c] :
  DI P N sc (.fieldAddr t x f) env H (.pointer (some ⟨b,c,none⟩)) True:=⟨λ_=>by
 obtain⟨k,rfl⟩:=Nat.exists_eq_succ_of_ne_zero (Zb6 h5.h);exact Ykk rfl h.e h1.h h2.n h3.h rfl h4.h⟩
instance {α:Type} {enc:α->Value} {xs:List α} {e:TypeId} {kd:IntKind} {n:Nat} [h:Som (ev2 env x) v] [h1:Som (ev2 env y) (.int kd (n:Int))] [h2:RdI P H v i k enc xs] [h3:Und P t (.slice e)] [h4:Siz P e k] :
  DI P N sc (.indexAddr t x y) env H (.pointer (some (ead v n k))) (n<xs.length):=⟨λs=>by obtain⟨p,h5,h6⟩:=h2.h;exact Yk _ _ rfl h.e h1.e h5 h6 h3.h h4.h rfl s⟩
instance {α:Type} {enc:α->Value} {xs:List α} {e:TypeId} {kd:IntKind} {n:Nat} [h:Som (ev2 env x) v] [h1:Som (ev2 env y) (.int kd (@OfNat.ofNat Int n (@instOfNat n)))] [hl:TB (eqb n n)] [h2:RdI P H v i k enc xs] [h3:Und P t (.slice e)] [h4:Siz P e k] :
  DI P N sc (.indexAddr t x y) env H (.pointer (some (ead v (@OfNat.ofNat Nat n (instOfNatNat n)) k))) (@OfNat.ofNat Nat n (instOfNatNat n)<xs.length):=⟨λs=>by obtain⟨p,h5,h6⟩:=h2.h;exact Yk _ _ rfl h.e h1.e h5 h6 h3.h h4.h rfl s⟩
instance {α:Type} {enc:α->Value} {xs:List α} {n:Nat} {d0:α} [h:Som (ev2 env x) (.pointer (some (ead v n k)))] [h2:RdI P H v i k enc xs] [h3:EncT P t k enc] [h4:Df α d0] :
  DI P N sc (.load t x) env H (enc (xs.getD n d0)) (n<xs.length):=⟨λs=>by obtain⟨p,h5,h6⟩:=h2.h;exact Pr _ d0 rfl h.e h5 h6 h3.h s⟩
instance {fs:List Field} {q bo:Nat} {nm tag pk:String} {ft:TypeId} {em:Bool} [h:Som (ev2 env x) (.agg l.toArray)] [h1:Und P t (.struct fs.toArray)] [h2:Som (nth fs f) ⟨nm,ft,q,em,tag,pk,bo⟩] [h3:Agg P ft false] [h4:Som (nth l q) v] :
  DI P N sc (.field t x f) env H v True:=⟨λ_=>d_fld rfl h.e h1.h h2.n h3.h h4.n⟩
end
class Adv (n:Nat) (p:Prop) (q:outParam Prop):Prop where h:q->p
def go(n:Nat){p q:Prop}[h:Adv n p q](k:q):p:=h.h k
@[reducible] def dsto (l:List Oper) (j:Nat):Option Nat:=match nth l j with
 | some o=>o.dst
 | none=>none
theorem Cm{l:List Oper}{j e:Nat}(h:Som (dsto l j) e):(l.toArray[j]?).bind (·.dst)=some e:=by
 have h:=h.h;unfold dsto at h;rw [Zxa]at h;simp only [List.getElem?_toArray];cases hb:l[j]? with
 | none=>rw [hb]at h;cases h
 | some o=>rw [hb]at h;exact h
section
variable {n:Nat} {q r s:Prop} {c x y:Code} {id:Nat} {l:List Oper} {ops:Array Oper} {rest:List Oper} {d j t:Nat} {op:Go.Op} {ty:TypeId} {pos:String} {af:Array Edge} {v:Value} {e:Exit} {b:Bool}
instance {p:Prop} : Adv 0 p p:=⟨λk=>k⟩
instance [h:Adv n (E P N sc x (Exit.then (y.wp P Q) Q) env H) q]:Adv (n+1) (E P N sc (.seq x y) Q env H) q:=⟨λk=>e_seq (h.h k)⟩
instance [h:Adv n (L P N sc l.toArray l Q env H) q]:Adv (n+1) (E P N sc (.region id l.toArray false) Q env H) q:=⟨λk=>e_reg (h.h k)⟩
instance [h:Adv n (X N sc .normal Q env H) q]:Adv (n+1) (E P N sc .skip Q env H) q:=⟨λk=>e_skip (h.h k)⟩
instance [h:Adv n (E P N sc c (Exit.inBlock id Q) env H) q]:Adv (n+1) (E P N sc (.block id c) Q env H) q:=⟨λk=>Yp0 (h.h k)⟩
instance [h:Adv n (X N sc (.exit id) Q env H) q]:Adv (n+1) (E P N sc (.exit id) Q env H) q:=⟨λk=>e_exit (h.h k)⟩
instance [h:Adv n (X N sc .ret Q env H) q]:Adv (n+1) (E P N sc .ret Q env H) q:=⟨λk=>e_ret (h.h k)⟩
instance {o:Operand} [h1:Som (ev2 env o) (.bool true)] [h:Adv n (E P N sc x Q env H) q]:Adv (n+1) (E P N sc (.cond o x y) Q env H) q:=⟨λk=>Ypy h1.e (h.h k)⟩
instance {o:Operand} [h1:Som (ev2 env o) (.bool false)] [h:Adv n (E P N sc y Q env H) q]:Adv (n+1) (E P N sc (.cond o x y) Q env H) q:=⟨λk=>Ypz h1.e (h.h k)⟩
instance [h:Adv n (E P N sc y Q env H) q]:Adv (n+1) (X N sc .normal (Exit.then (y.wp P Q) Q) env H) q:=⟨λk=>x_then (h.h k)⟩
instance {K:Act->World->Prop} [h:Adv n (X N sc .ret Q env H) q]:Adv (n+1) (X N sc .ret (Exit.then K Q) env H) q:=⟨λk=>x_ret (h.h k)⟩
instance {K:Act->World->Prop} [h:Adv n (X N sc (.exit id) Q env H) q]:Adv (n+1) (X N sc (.exit id) (Exit.then K Q) env H) q:=⟨λk=>x_exit (h.h k)⟩
instance [h:Adv n (X N sc .normal Q env H) q]:Adv (n+1) (X N sc .normal (Exit.inBlock id Q) env H) q:=⟨λk=>x_bn (h.h k)⟩
instance [h:Adv n (X N sc .ret Q env H) q]:Adv (n+1) (X N sc .ret (Exit.inBlock id Q) env H) q:=⟨λk=>x_br (h.h k)⟩
instance [h:Adv n (X N sc .normal Q env H) q]:Adv (n+1) (X N sc (.exit id) (Exit.inBlock id Q) env H) q:=⟨λk=>x_be (h.h k)⟩
instance (priority:=low) {id':Nat} [hn:TB (neb id' id)] [h:Adv n (X N sc (.exit id') Q env H) q]:Adv (n+1) (X N sc (.exit id') (Exit.inBlock id Q) env H) q:=⟨λk=>x_bo (Zb6 hn.h) (h.h k)⟩
instance [h:Adv n (X N sc .normal Q env H) q]:Adv (n+1) (L P N sc ops [] Q env H) q:=⟨λk=>Zs (h.h k)⟩
instance [h1:DI P N sc op env H v s] [h2:TB (ltb d N)] [h:Adv n (L P N sc ops rest Q ((d,v)::env) H) q] [h3:AndO s q r]:Adv (n+1) (L P N sc ops (⟨some d,op,ty,pos,af,none⟩::rest) Q env H) r:=
 ⟨λk=>dt (h1.h (h3.h k).1) (h.h (h3.h k).2) (Oz h2.h)⟩
instance [hj:Som (dsto l j) t] [hg:Som (lk2 env t) (.bool b)] [h4:TB (ltb t N)] [h1:DI P N sc op env H v s] [h2:TB (ltb d N)] [h:Adv n (L P N sc l.toArray rest Q ((d,v)::env) H) q] [h3:AndO s q r]:Adv (n+1) (L P N sc l.toArray (⟨some d,op,ty,pos,af,some (j,b)⟩::rest) Q env H) r:=
 ⟨λk=>Hz (h1.h (h3.h k).1) (Cm hj) hg.l (h.h (h3.h k).2) (Oz h4.h) (Oz h2.h)⟩
instance [hj:Som (dsto l j) t] [hg:Som (lk2 env t) (.bool false)] [h4:TB (ltb t N)] [h2:TB (ltb d N)] [h:Adv n (L P N sc l.toArray rest Q ((d,undef)::env) H) q]:Adv (n+1) (L P N sc l.toArray (⟨some d,op,ty,pos,af,some (j,true)⟩::rest) Q env H) q:=
 ⟨λk=>gsk (Cm hj) hg.l rfl (Oz h4.h) (Oz h2.h) (h.h k)⟩
instance [hj:Som (dsto l j) t] [hg:Som (lk2 env t) (.bool true)] [h4:TB (ltb t N)] [h2:TB (ltb d N)] [h:Adv n (L P N sc l.toArray rest Q ((d,undef)::env) H) q]:Adv (n+1) (L P N sc l.toArray (⟨some d,op,ty,pos,af,some (j,false)⟩::rest) Q env H) q:=
 ⟨λk=>gsk (Cm hj) hg.l rfl (Oz h4.h) (Oz h2.h) (h.h k)⟩
instance [hj:Som (dsto l j) t] [hg:Som (lk2 env t) undef] [h2:TB (ltb d N)] [h:Adv n (L P N sc l.toArray rest Q ((d,undef)::env) H) q]:Adv (n+1) (L P N sc l.toArray (⟨some d,op,ty,pos,af,some (j,b)⟩::rest) Q env H) q:=
 ⟨λk=>gsku (Cm hj) hg.l (Oz h2.h) (h.h k)⟩
end
end Go.Sky
namespace Go.Sky
variable {P:Program} {N:Nat} {sc:Nat->Prop} {env env':Qm} {H H':Hp} {Q Q':Exit->Act->World->Prop} {M:Nat->Prop}
class Hw (w0:World) (sc:Nat->Prop):Prop where h:∀b,w0.heap.size<=b->sc b
class EvI (env:Qm) (xs:List Operand) (vs:outParam (List Value)):Prop where h:EvL env xs vs
instance:EvI env [] []:=⟨aA⟩
instance {x:Operand} {r:List Operand} {v:Value} {vs:List Value} [h:Som (ev2 env x) v] [h2:EvI env r vs]:EvI env (x::r) (v::vs):=⟨⟨h.e,h2.h⟩⟩
class CalF (P:Program) (f:FuncId):Prop where h:∀args w,(callFunc f args).run P w= .ok (.enter f args) w
class AddI (n:Nat) (l:List Pc) (H:Hp) (H':outParam Hp):Prop where h:adds n l H=H'
instance {n:Nat} : AddI n [] H H:=⟨rfl⟩
instance {n:Nat} {p:Pc} {r:List Pc} [h:AddI (n+1) r H H']:AddI n (p::r) H ((n,p)::H'):=⟨by rw [<-h.h]⟩
class PreL (P:Program) (H:Hp) (al:Bool) (ids:List Nat) (pre:outParam (List Pc)):Prop where h:PreOk H al pre
class RoI (p:Pc):Prop where h:p.own=false
instance {α:Type} {k:Nat} {enc:α->Value} {v:Value} {xs:List α} : RoI (Yt k enc v xs):=⟨rfl⟩
instance {β:Type} {k:Nat} {enc:β->Value} {q:β->Pc} {v:Value} {zs:List β} : RoI (Xv k enc q v zs):=⟨rfl⟩
instance {b:Nat} {t:TypeId} {cs:Array Value} : RoI (Oq b t cs):=⟨rfl⟩
class LnI (P:Program) (al:Bool) (i:Nat) (p:Pc) (q:outParam Pc):Prop where
 h:i≠0->∀{H r},lk H i=some p->PreOk H al r->PreOk H al (q::r)
theorem Zv5{i:Nat}(h:i≠0):Nat.beq i 0=false:=by grind [Nat.eq_of_beq_eq_true]
instance {al:Bool} {i:Nat} {p:Pc} [h:RoI p]:LnI P al i p p:=⟨λh0 _ _ hi hr=>Yc i hi (Zv5 h0) h.h hr⟩
instance {α:Type} {i k:Nat} {e:TypeId} {enc:α->Value} {v:Value} {xs:List α} [h:EncT P e k enc]:LnI P false i (Nk k e enc v xs) (Yt k enc v xs):=⟨λh0 _ _ hi hr=>Yg0 i hi (Zv5 h0) h.h hr⟩
instance {i b:Nat} {t:TypeId} {cs:Array Value} : LnI P false i (box b t cs) (Oq b t cs):=⟨λh0 _ _ hi hr=>Zh3 i hi (Zv5 h0) hr⟩
instance {al:Bool} : PreL P H al [] []:=⟨aA⟩
instance {al:Bool} {i:Nat} {ids:List Nat} {p q:Pc} {r:List Pc} [h:Som (lk2 H i) p] [h0:TB (neb i 0)] [h1:LnI P al i p q] [h2:PreL P H al ids r]:PreL P H al (i::ids) (q::r):=⟨h1.h (Zb6 h0.h) h.l h2.h⟩
theorem T.conv{o:Oper}{G:Type}{φ:G->Prop}{c:G->Qm}{a b:G->Hp}(h:T P N sc M o env H φ c a)(d:∀g,a g=b g):T P N sc M o env H φ c b:=by rw [show b=a from(funext d).symm];omega
section
variable {f:FuncId} {xs:List Operand} {ats:Array TypeId} {d:Nat} {vs fs us:List Value} {pre:List Pc} {al:Bool} {G:Type} {φ:G->Prop} {val:G->Value} {its:G->List Pc} {w0:World} {M0:Nat->Prop} {ty:TypeId} {pos:String} {af:Array Edge} {g:Option (Nat×Bool)}
def Zz(n:Nat)(a:List Nat)(c:Cal P f vs.toArray pre al φ val its){b:G->Hp}[hx:EvI env xs vs][hf:CalF P f][hp:PreL P H al a pre][h0:Som (lk2 H 0) (Zy w0 M0)][hN:TB (ltb d N)][hw:Hw w0 sc][ha:∀g,AddI n (its g) H (b g)] :
  T P N sc M ⟨some d,.call { callee:= .value (.func f),args:=xs.toArray,argTypes:=ats },ty,pos,af,g⟩ env H φ (λg=>(d,val g)::env) b:=
 (Ov _ c rfl rfl (Oz hN.h) hx.h hf.h hp.h h0.l hw.h).conv λg=>(ha g).h
class On1 (P:Program) (N:Nat) (sc:Nat->Prop) (env:Qm) (H:Hp) (v:Value):Prop where h:One N sc env H v
instance {k:IntKind} {n:Int} : On1 P N sc env H (.int k n):=⟨Zj rfl⟩
instance {b:Bool} : On1 P N sc env H (.bool b):=⟨Zj rfl⟩
instance {s:ByteArray} : On1 P N sc env H (.string s):=⟨Zj rfl⟩
instance {a:Option Addr} : On1 P N sc env H (.pointer a):=⟨Zj rfl⟩
instance {a:Option Addr} {m n:Nat} : On1 P N sc env H (.slice a m n):=⟨Zj rfl⟩
instance (priority:=low) {α:Type} {i k:Nat} {v:Value} {enc:α->Value} {ys:List α} [h:RdI P H v i k enc ys]:On1 P N sc env H v:=⟨by obtain⟨p,h1,h2⟩:=h.h;exact Ow _ h1 h2⟩
class OnL (P:Program) (N:Nat) (sc:Nat->Prop) (env:Qm) (H:Hp) (l:List Value):Prop where h:∀u∈l,One N sc env H u
instance:OnL P N sc env H []:=⟨λ_ h=>nomatch h⟩
instance {v:Value} {l:List Value} [h:On1 P N sc env H v] [h2:OnL P N sc env H l]:OnL P N sc env H (v::l):=⟨λu hu=>by
 cases hu with
 | head=>exact h.h
 | tail _ hu=>exact h2.h u hu⟩
class CeI (P:Program) (N:Nat) (sc:Nat->Prop) (env:Qm) (H:Hp) (v:Value) (l:outParam (List Value)):Prop where
 h:∀a w,Sat N sc env H a w->v.cells=l.toArray
 o:∀u∈l,One N sc env H u
instance {l:List Value} [h:OnL P N sc env H l]:CeI P N sc env H (.agg l.toArray) l:=⟨λ_ _ _=>rfl,h.h⟩
instance (priority:=low) {v:Value} [h:On1 P N sc env H v]:CeI P N sc env H v [v]:=⟨λa w hs=>Zn (h.h a w hs),λu hu=>by rw [cE.1 hu];exact h.h⟩
class ClI (v:Value) (l:outParam (List Value)):Prop where h:v.cells=l.toArray
instance {l:List Value} : ClI (.agg l.toArray) l:=⟨rfl⟩
instance {k:IntKind} {n:Int} : ClI (.int k n) [.int k n]:=⟨rfl⟩
instance {b:Bool} : ClI (.bool b) [.bool b]:=⟨rfl⟩
instance {s:ByteArray} : ClI (.string s) [.string s]:=⟨rfl⟩
instance {a:Option Addr} : ClI (.pointer a) [.pointer a]:=⟨rfl⟩
instance {a:Option Addr} {m n:Nat} : ClI (.slice a m n) [.slice a m n]:=⟨rfl⟩
class Zer (P:Program) (t:TypeId) (z:outParam Value):Prop where h:∀w,(zeroValue t).run P w= .ok z w
variable {t tb:TypeId} {l l':List Value} {v z:Value} {x y:Operand} {i j k b:Nat}
def Zv(n:Nat)[hz:Zer P t z][hc:ClI z l][h0:Som (lk2 H 0) (Zy w0 M0)][hN:TB (ltb d N)][hw:Hw w0 sc] :
  T P N sc M ⟨some d,.alloc t,ty,pos,af,g⟩ env H (G:=Nat) (λ_=>True) (λb=>(d,.pointer (some ⟨b,0,none⟩))::env) (λb=>(n,box b t l.toArray)::H):=Zjh _ rfl rfl hz.h hc.h h0.l hw.h (Oz hN.h)
def Zr(n:Nat)[hx:Som (ev2 env x) v][hc:ClI v l][h0:Som (lk2 H 0) (Zy w0 M0)][hN:TB (ltb d N)][hw:Hw w0 sc] :
  T P N sc M ⟨some d,.box t x,ty,pos,af,g⟩ env H (G:=Nat) (λ_=>True) (λb=>(d,.pointer (some ⟨b,0,none⟩))::env) (λb=>(n,box b t l.toArray)::H):=t_box rfl rfl (Oz hN.h) hx.e hc.h h0.l hw.h
@[reducible] def lay2 {α:Type} : List α->Nat->List α->List α
 | [],_,_=>[]
 | c::r,j,vs=>match j with
  | j+1=>c::lay2 r j vs
  | 0=>match vs with
   | []=>c::r
   | v::vs=>v::lay2 r 0 vs
theorem Zqs{α:Type} : ∀(l:List α) (j:Nat) (vs:List α),j+vs.length<=l.length->lay2 l j vs=l.take j ++ vs ++ l.drop (j+vs.length)
 | [],j,vs,h=>by simp_all
 | c::r,j+1,vs,h=>by rw [show j+1+vs.length=(j+vs.length)+1 by omega];simp only [lay2,jY,List.drop_succ_cons,iL];rw [Zqs r j vs (by simp at h;omega)]
 | c::r,0,[],h=>by rfl
 | c::r,0,v::vs,h=>by have a:0+vs.length<=r.length:=O5;have:=Zqs r 0 vs a;grind
theorem Yfb [hx:Som (ev2 env x) (.pointer (some ⟨b,j,none⟩))] [hy:Som (ev2 env y) v] [hB:BxI H b i tb l] [hi:TB (neb i 0)] [hv:CeI P N sc env H v vs] [hk:Siz P t k] [hl:TB (lenq vs k)] [hf:TB (fits l j vs)] [hr:LEv (lay2 l j vs) l']
  [h0:Som (lk2 H 0) (Zy w0 M0)] [hw:Hw w0 sc] (e:M b):T P N sc M ⟨none,.store t x y,ty,pos,af,g⟩ env H (G:=Unit) (λ_=>True) (λ_=>env) (λ_=>(i,box b tb l'.toArray)::H):=λa w hs=>by
 have c:=Ya4 hf.h;refine Zip rfl rfl hx.e hy.e hB.h (Zb6 hi.h) (hv.h a w hs) hk.h (Zg2 hl.h) O1 hv.o ?_ h0.l hw.h e a w hs;unfold Fi;rw [<-hr.h,Zqs l j vs c]
variable {ops:Array Oper} {rest:List Oper} {op:Go.Op} {genv:G->Qm} {gH:G->Hp} {dd:Option Tmp}
def Zx(a:T P N sc (λ_=>True) ⟨dd,op,ty,pos,af,none⟩ env H φ genv gH)(h:∀g,φ g->L P N sc ops rest Q (genv g) (gH g)):L P N sc ops (⟨dd,op,ty,pos,af,none⟩::rest) Q env H:=tt a h
def gt' {c:List Oper} {e:Nat} {a:Bool} (m:T P N sc (λ_=>True) ⟨dd,op,ty,pos,af,some (j,a)⟩ env H φ genv gH) [hj:Som (dsto c j) e] [he:Som (lk2 env e) (.bool a)] [hN:TB (ltb e N)]
  (h:∀g,φ g->L P N sc c.toArray rest Q (genv g) (gH g)):L P N sc c.toArray (⟨dd,op,ty,pos,af,some (j,a)⟩::rest) Q env H:=gtt m rfl (Cm hj) he.l (Oz hN.h) h
instance {n:Nat} {q:Prop} [hx:Som (ev2 env x) (.pointer (some ⟨b,j,none⟩))] [hy:Som (ev2 env y) v] [hB:BxI H b i tb l] [hi:TB (neb i 0)] [hv:CeI P N sc env H v vs] [hk:Siz P t k] [hl:TB (lenq vs k)] [hf:TB (fits l j vs)] [hr:LEv (lay2 l j vs) l']
  [h0:Som (lk2 H 0) (Zy w0 M0)] [hw:Hw w0 sc] [h:Adv n (L P N sc ops rest Q env ((i,box b tb l'.toArray)::H)) q]:Adv (n+1) (L P N sc ops (⟨none,.store t x y,ty,pos,af,none⟩::rest) Q env H) q:=
 ⟨λq=>Zx (Yfb aA) λ_ _=>h.h q⟩
end
end Go.Sky
namespace Go.Sky
open Go.RowKit Below
variable {P:Program} {N:Nat} {sc:Nat->Prop} {env env':Qm} {H H':Hp} {Q Q':Exit->Act->World->Prop} {M:Nat->Prop}
theorem f_new{w0:World}{p:Pc}(i:Nat)(hi:lk H i=some p)(f:p.own=true)(d:lk H 0=some (Zy w0 (λ_=>False)))(c:i≠0:=by decide):∀a w,Sat N sc env H a w->∀b,p.fp b->w0.heap.size<=b:=λa w hs b e=>by
  rcases bA b w0.heap.size with h|h
  . exact(hs.sep i 0 p _ c hi d f b e ⟨h,λh=>h⟩).elim
  . exact h
theorem Yes {fn:Func} {pre:List Pc} {G:Type} {φ:G->Prop} {val:G->Value} {c:G->List Pc} {w0:World} {e:Exit} (x:e= .ret\/e= .normal)
    (g:G) {v:Value} (m:∀p∈c g,∀b,p.fp b->w0.heap.size<=b) (j:∀a w,Sat N sc env H a w->(results fn a.tmps).run P w= .ok v w) (D:val g=v) (z:φ g) (r:lk H 0=some (Zy w0 (λ_=>False))) (d:Give H true (c g)) :
    X N sc e (Za1 P fn w0 pre false φ val c) env H:=λa w hs=>by
  have k : a.defers = [] /\ ∃ v, (results fn a.tmps).run P w = .ok v w /\ (∃ g, Ending.returned v = .returned (val g) /\ φ g /\ Below w0.heap.size w0 w /\
        ∀p∈c g,p.holds w/\p.own=false/\∀b,p.fp b->w0.heap.size<=b\/(false=true/\∃q∈pre,q.fp b)):=by
    refine⟨hs.defers,v,j a w hs,g,by rw [D],z,Hk (hs.hold 0 _ r),λp o=>?_⟩;obtain⟨n,h|⟨s,t⟩⟩:=d.mem p o
    case inr=>exact⟨s w,n,λb l=>absurd l (t b)⟩
    obtain⟨i,F,B,hi,f,y,u⟩:=h;exact⟨f w (hs.hold i F hi),n,λb l=> .inl (m p o b l)⟩
  rcases x with rfl|rfl
  . exact k
  . exact k
section
variable {f:FuncId} {xs:List Operand} {ats:Array TypeId} {d:Nat} {vs:List Value} {pre:List Pc} {G:Type} {φ:G->Prop} {val:G->Value} {its:G->List Pc} {w0:World} {M0:Nat->Prop} {ty:TypeId} {pos:String} {af:Array Edge} {g:Option (Nat×Bool)}
theorem Ym5 {o:Oper} {n:Nat} (W:Cal P f vs.toArray pre false φ val its)
    (ho:o.op= .call { callee:= .value (.func f),args:=xs.toArray,argTypes:=ats }) (Y:o.dst=some d) (V:Nat.blt d N=true)
    (q:EvL env xs vs) (s:∀args w,(callFunc f args).run P w= .ok (.enter f args) w) (u:PreOk H false pre)
    (F:lk H 0=some (Zy w0 M0)) (hw:∀b,w0.heap.size<=b->sc b) :
    T P N sc M o env H (λg=>φ g/\∀p∈its g,∀b,p.fp b->w0.heap.size<=b) (λg=>(d,val g)::env) (λg=>adds n (its g) H):=λa w hs K Q S=>by
  have y:w0.heap.size<=w.heap.size:=(hs.hold 0 _ F).size;have hr:(execOp a.eval o).run P w= .ok (.enter f vs.toArray) w:=by have hm:=q.map hs;simp [execOp,ho,resolve,invoke,Act.eval,Deferred.ofValue,hm,s]
  unfold Oper.wp;rw [hr];refine(W w (λp k=>by obtain⟨i,it,_,hi,t,_,_⟩:=u.mem p k;exact t w (hs.hold i it hi))).mono ?_
  rintro e D ⟨g,rfl,Z,l,m⟩;show K (a.put o.dst (val g)) D;rw [Y];have x:Sat N sc env H a D:=hs.chg0 (Chg.of_below l);have c:∀p∈its g,∀b,p.fp b->w.heap.size<=b:=λp k b r=>by
    rcases(m p k).2.2 b r with h|⟨h,_⟩
    . exact h
    . cases h
  refine S g _ _ ⟨Z,λp k b r=>aB y (c p k b r)⟩ (Sat.put (x.adds (w1:=w) (its g) n ?_) d _ V) (Chg.of_below l);intro p k;obtain⟨I,R,h3⟩:=m p k;refine⟨I,R,λb r=>hw b (aB y (c p k b r)),λj B hj z b r v=>?_⟩;have:=B.lt w b (hs.hold j B hj) v;have:=c p k b r;omega
def Ycp(n:Nat)(a:List Nat)(e:Cal P f vs.toArray pre false φ val its){c:G->Hp}[hx:EvI env xs vs][hf:CalF P f][hp:PreL P H false a pre][h0:Som (lk2 H 0) (Zy w0 M0)][hN:TB (ltb d N)][hw:Hw w0 sc][ha:∀g,AddI n (its g) H (c g)] :
    T P N sc M ⟨some d,.call { callee:= .value (.func f),args:=xs.toArray,argTypes:=ats },ty,pos,af,g⟩ env H (λg=>φ g/\∀p∈its g,∀b,p.fp b->w0.heap.size<=b) (λg=>(d,val g)::env) c:=
  (Ym5 (n:=n) e rfl rfl (Oz hN.h) hx.h hf.h hp.h h0.l hw.h).conv λg=>(ha g).h
end
theorem Yiu{w0 W:World}(h:Hw w0 sc)(a:w0.heap.size<=W.heap.size):Hw W sc:=⟨λb c=>h.h b (aB a c)⟩
theorem Zms {o:Oper} {x y:Operand} {ats:Array TypeId} {k:IntKind} {m n:Int} (b:o.op= .call { callee:= .builtin .min,args:=#[x,y],argTypes:=ats })
    (c:ev env x=some (.int k m)) (e:ev env y=some (.int k n)):Ld P N sc o env H (.int k (min m n)):=λa w hs=>by
  simp [execOp,b,resolve,hs.ev c,hs.ev e,invoke,builtin,Builtin.min_,Builtin.min2];by_cases h:n<m
  . rw [aO h];omega
  . rw [aF h];omega
theorem d_lbw {o:Oper} {x:Operand} {t p:TypeId} {i b k:Nat} {cs:Array Value} (h:o.op= .load t x) (m:ev env x=some (.pointer (some ⟨b,0,none⟩))) (a:lk H i=some (box b p cs)) (j:∀w,(isAgg t).run P w= .ok true w) (c:∀w,(sizeOf t).run P w= .ok k w)
    (e:cs.size=k):Ld P N sc o env H (.agg cs):=by
  have:=Ybp (P:=P) (N:=N) (sc:=sc) (vs:=cs.toList) h m a j c (by simpa using e) (λn u l=>by rw [bZ];simpa using l);simpa using this
end Go.Sky
namespace Go.Sky
open Go.RowKit Below
variable{ops:List Oper}{id:Nat}{y x c:Code}{zs:List Zd}
variable {P:Program} {N:Nat} {sc:Nat->Prop} {env env':Qm} {H H':Hp} {Q Q':Exit->Act->World->Prop} {l:Nat}
def ER(P:Program)(N:Nat)(sc:Nat->Prop)(l:Nat)(c:Code)(Q:Exit->Act->World->Prop)(env:Qm)(H:Hp):Prop:=
 ∀a w,Sat N sc env H a w->c.wpIn (Fence.wide.inRound l) 0 P Q a w
def ndB(o:Oper):Bool:=match o.op with
 | .defer _=>false
 | _=>true
theorem Zd9(h:ops.all ndB=true):Zjs ops:=λo b c a=>by have:=bC.1 h o b;unfold ndB at this;rw [a]at this;cases this
def Zrf(b:ops.all ndB=true)(h:L P N sc ops.toArray ops (Hg (Exit.then (λa w=>y.wpIn (Fence.wide.inRound l) 0 P Q a w) Q)) env H):ER P N sc l (.seq (.region id ops.toArray false) y) Q env H:=
 λa w hs=>wpIn_seq (Ygv (Zd9 b) h hs)
def Zre(b:ops.all ndB=true)(h:L P N sc ops.toArray ops (Hg Q) env H):ER P N sc l (.region id ops.toArray false) Q env H:=
 λa w hs=>Ygv (Zd9 b) h hs
def Ymm(h:ER P N sc l y Q env H):X N sc .normal (Hg (Exit.then (λa w=>y.wpIn (Fence.wide.inRound l) 0 P Q a w) Q)) env H:=λa w hs=>h a w hs
def Ymn(h:∀a w,Sat N sc env H a w->Q .normal a w):X N sc .normal (Hg Q) env H:=λa w hs=>h a w hs
def Pb(h:ER P N sc l x (Exit.then (λa w=>y.wpIn (Fence.wide.inRound l) 0 P Q a w) Q) env H):ER P N sc l (.seq x y) Q env H:=λa w hs=>wpIn_seq (h a w hs)
def Ka(h:ER P N sc l c (Exit.inBlock id Q) env H):ER P N sc l (.block id c) Q env H:=λa w hs=>wpIn_block (h a w hs)
theorem Zdj{c:Operand}{b:Bool}(d:ev env c=some (.bool b))(f:b=true->ER P N sc l x Q env H)(e:b=false->ER P N sc l y Q env H):ER P N sc l (.cond c x y) Q env H:=λa w hs=>by
 cases b with
 | true=>exact wpIn_cond_true (hs.ev d) (f rfl a w hs)
 | false=>exact wpIn_cond_false (hs.ev d) (e rfl a w hs)
def Zrc(h:∀a w,Sat N sc env H a w->Q .normal a w):ER P N sc l .skip Q env H:=λa w hs=>wpIn_skip (h a w hs)
def Zxw(h:∀a w,Sat N sc env H a w->Q .ret a w):ER P N sc l .ret Q env H:=λa w hs=>wpIn_ret (h a w hs)
def Zce(b:∀a w,Sat N sc env H a w->Sat N sc env' H' a w)(h:ER P N sc l c Q env' H'):ER P N sc l c Q env H:=λa w hs=>h a w (b a w hs)
def Pk{e:Exit}(b:∀a w,Sat N sc env H a w->Sat N sc env' H' a w)(h:X N sc e Q env' H'):X N sc e Q env H:=λa w hs=>h a w (b a w hs)
theorem Zgd{β:Type}(i k:Nat)(enc:β->Value)(q:β->Pc):∀a w,Sat N sc env H a w->Sat N sc env ((i,Xv k enc q (.slice none 0 0) [])::H) a w:=λa w hs=>
 hs.add i _ ⟨Cd k enc w,λz e=>by cases e⟩ (λg h _ _ Ht b d f=>by
  rcases d with d|⟨z,e,_⟩
  .exact absurd rfl d.1
  .cases e) (λb d=>by
  rcases d with d|⟨z,e,_⟩
  .exact absurd rfl d.1
  .cases e)
theorem Yjb{a:Hp}{g:Zd}(i j:Nat)(f:lk a i=some (Hx qG zs))(h:lk a j=some (Yt 1 Xk (Xa g.2.1.1) g.2.1.2))(k:lk a (j+1)=some (Yt 1 Xk (Xa g.2.2.1.1) g.2.2.1.2))(m:lk a (j+2)=some (Yt 1 Xk (Xa g.2.2.2.1) g.2.2.2.2)) :
  ∀b,(Hx qG (zs ++ [g])).fp b->∃j q,lk a j=some q/\q.fp b:=λb ⟨z,n,d⟩=>by
 rcases dB.1 n with q|q
 .exact⟨i,_,f,z,q,d⟩
 .rw [cE.1 q]at d;obtain⟨c,e,d⟩:=d;simp only [aW,dA,fR]at e;rcases e with rfl|rfl|rfl
  .exact⟨j,_,h,d⟩
  .exact⟨j+1,_,k,d⟩
  .exact⟨j+2,_,m,d⟩
end Go.Sky
namespace Go.Sky
open Go.RowKit Below
variable{Mf0 Mf:Nat->Prop}{body y x:Code}{lbv:List Value}{pre:List Pc}{r id:Nat}{ops:List Oper}{c:Operand}{Hall:Hp}{Wb:World}
variable {P:Program} {N:Nat} {sc:Nat->Prop} {env env':Qm} {H H':Hp} {Q Q':Exit->Act->World->Prop}
theorem er_rfi {l0:Nat}  {c0:World} {g:Operand} {gf:Nat} {ps:List Nat} {assign:Code}   {α G:Type} {xs:List α} {ys:α->G->List Value} {B:α->G->List Pc} {w0:World}
  {GG GX:Type} (Z:Nat->GG->Hp) (b1:Nat->GG->Prop) (HX:GX->Hp) (b2:GX->Prop) (c1:GG) (f5:LpAt l0 Mf0 c0) (c2:lk H 92=some (Zy c0 Mf0))
  (hg:ev env g=some (.func (.func gf) #[] lbv.toArray)) (eg:∀args w,(callFunc gf args).run P w= .ok (.enter gf args) w) (hc:Zwh P gf lbv pre xs ys B)
  (hp:∀p∈pre,p.own=false/\∃i,lk H i=some p) (g4:∀x D,(ys x D).length=ps.length) (g3:(ps.all λp=>Nat.blt p N)=true)
  (hw:∀b,w0.heap.size<=b->sc b) (h0:lk H 0=some (Zy w0 (λ_=>False)))
  (c9:b1 0 c1) (a5:HSub (Z 0 c1) H) (hk:∀k s,lk (Z k s) 0=some (Zy w0 (λ_=>False))/\lk (Z k s) 93=none) (g0:∀gx,lk (HX gx) 0=some (Zy w0 (λ_=>False))/\lk (HX gx) 93=none)
  (b5:∀k x D s,xs[k]? = some x->b1 k s->∀l Mf I a W,Sat N sc (renv ps (ys x D) env) ((93,Zy I Mf)::adds 100 (B x D) (Z k s)) a W->
   assign.wpIn (Fence.wide.inRound l) 0 P (RAn 93 P N sc l Mf (adds 100 (B x D) (Z k s)) body (Z (k+1)) (b1 (k+1)) HX b2 I) a W)
  (hD:∀s,b1 xs.length s->X N sc .normal Q env (Z xs.length s))
  (hX:∀gx,b2 gx->X N sc .ret Q env (HX gx)) :
  ER P N sc l0 (.rangeFunc g ps.toArray assign body) Q env H:=λa w hs=>by
 have a4:∀i p,lk H i=some p->∀b,p.fp b->b<w.heap.size:=λi p hi b n=>p.lt w b (hs.hold i p hi) n;have g7:w0.heap.size<=w.heap.size:=(hs.hold 0 _ h0).size;have e5:Chg Mf0 c0 w:=hs.hold 92 _ c2;obtain⟨⟨r0,e9⟩,e7⟩:=f5;have e8:w.heap[l0]? = some (.loop r0):=(e5.block _ (aM.1 e9).1 e7).trans e9;refine wpIn_rangeFunc ?_;intro d6 f8;obtain⟨d,f⟩:∃d:LoopState->Option Code->Loop,d=λst pe=>{ state:=st,pending:=pe,fn:=d6,tmps:=a.tmps,params:=ps.toArray,assign:=assign,body:=body,defers:=r0.defers }:=⟨_,rfl⟩;obtain⟨W1,b3⟩:∃W1,w.alloc (.loop (d .ready none))=W1:=⟨_,rfl⟩;have f6:W1.heap[w.heap.size]? = some (.loop (d .ready none)):=by rw [<-b3];exact World.alloc_heap_new w _
 have e2:Below w.heap.size w W1:=by rw [<-b3];exact(Below.refl _ w).alloc (aI _) _
 have h7:W1.heap.size=w.heap.size+1:=by rw [<-b3];simp
 have e0:(#[.func (.yield w.heap.size) #[] #[]] ++ lbv.toArray:Array Value)=(Value.func (.yield w.heap.size) #[] #[]::lbv).toArray:=O8;refine⟨w.heap.size,[],W1,{ target:= .fn (.func gf) lbv.toArray,args:=#[.func (.yield w.heap.size) #[] #[]] },W1,gf,
  (Value.func (.yield w.heap.size) #[] #[]::lbv).toArray,W1,?_,?_,λ_ _=>trivial,?_,λh=>(by cases h),?_⟩
 .rw [<-b3,f];exact run_enterLoop_inner e8 _ _ _ _ _
 .simp only [resolve,hs.ev hg];simp [go_sem]
 .simp [invoke,go_sem,eg]
 have b0:∀(F:Hp) (r:Loop),Ze7 λW=>W.heap[w.heap.size]? = some (.loop r)/\W1.heap.size<=W.heap.size/\Kps sc w (w.heap.size+1) (Ds (w.heap.size+1) H) F W:=λF r W W' ⟨h1,h3,h4⟩ hB=>
  ⟨(hB.block _ (aM.1 h1).1).trans h1,aB h3 hB.size,h4.stays hB⟩
 have g2:¬Ds (w.heap.size+1) H w.heap.size:=λh=>by
  rcases h with⟨i,q,hq,_,hf⟩|h
  .have:=a4 i q hq _ hf;omega
  .omega
 have b4:∀(F:Hp) (W:World),Kps sc w (w.heap.size+1) (Ds (w.heap.size+1) H) F W->∀(o:Obj),Kps sc w (w.heap.size+1) (Ds (w.heap.size+1) H) F (W.putObj w.heap.size o):=λF W h o=>h.put a4 ⟨aI _,O1⟩;refine callsIn_wide.2 ((hc w.heap.size (λb=>(∃i q,lk H i=some q/\q.own=true/\q.fp b)\/b=w.heap.size)
  (λk W=>∃s,b1 k s/\(W.heap[w.heap.size]? = some (.loop (d .ready none))/\W1.heap.size<=W.heap.size/\Kps sc w (w.heap.size+1) (Ds (w.heap.size+1) H) (Z k s) W))
  (λW=>∃gx,b2 gx/\(W.heap[w.heap.size]? = some (.loop (d .done (some .ret)))/\W1.heap.size<=W.heap.size/\Kps sc w (w.heap.size+1) (Ds (w.heap.size+1) H) (HX gx) W)) W1
  ?_ ?_ ?_ ?_ ?_ ?_).mono ?_)
 .intro p u;obtain⟨ho,i,hi⟩:=hp p u;exact p.stable _ _ (hs.hold i p hi) (Chg.of_below e2)
 .rintro p u b n (⟨i,q,hq,d4,g5⟩|rfl)
  .obtain⟨ho,j,S⟩:=hp p u;exact hs.sep i j q p (λe=>by subst e;rw [hq]at S;cases S;rw [ho]at d4;cases d4) hq S d4 b g5 n
  .obtain⟨ho,j,S⟩:=hp p u;have:=a4 j p S _ n;omega
 .rintro k W W' ⟨s,c7,h⟩ hB;exact⟨s,c7,b0 _ _ W W' h hB⟩
 .rintro W W' ⟨gx,c7,h⟩ hB;exact⟨gx,c7,b0 _ _ W W' h hB⟩
 .refine⟨c1,c9,f6,aI _,λi it hi=>it.stable _ _ (hs.hold i it (a5.lk i it hi)) (Chg.of_below e2),λi j it jt d2 hi S=>hs.sep i j it jt d2 (a5.lk i it hi) (a5.lk j jt S),
   λi it c9 hi=>hs.scope i it c9 (a5.lk i it hi),λi it hi _ b n=> .inl (a4 i it (a5.lk i it hi) b n),λi it hi ho b n=> .inl ⟨i,it,a5.lk i it hi,ho,n⟩⟩
 .rintro k x D hx W I ⟨s,M,hl,f2,V⟩ h8 hB R;have e6:I.heap[w.heap.size]? = some (.loop (d .ready none)):=(hB.block _ O1).trans hl;have hy:=run_yield (P:=P) (args:=(ys x D).toArray) e6 (by rw [f];simp [g4]);have a8:∀p∈B x D,∀b,p.fp b->w.heap.size+1<=b:=λp hp b n=>by have:=(R p hp).2.2 b n;omega
  have s1:Sat N sc env (Z k s) { tmps:=a.tmps,defers:=[] } I:=(V.stays hB).sat hs.size rfl hs.env;have s2:Sat N sc env (adds 100 (B x D) (Z k s)) { tmps:=a.tmps,defers:=[] } I:=s1.adds (w1:=I) _ _ λp u=>⟨(R p u).1,(R p u).2.1,λb n=>hw b (by have:=a8 p u b n;omega),λj jt S ho b n a7=>by have h1:=(R p u).2.2 b n;have h2:=jt.lt W b (V.hold j jt S) a7;omega⟩
  have b6:∀j q,lk (adds 100 (B x D) (Z k s)) j=some q->(q∈B x D)\/lk (Z k s) j=some q:=λj q h=>Zg0 _ _ _ j q h;have u:∀j q,lk (adds 100 (B x D) (Z k s)) j=some q->∀b,q.fp b->q.own=true->Ds (w.heap.size+1) H b:=λj q S b n ho=>by
   rcases b6 j q S with h|h
   .rw [(R q h).2.1]at ho;cases ho
   .exact V.mf j q h ho b n
  have b9:∀j q,lk (adds 100 (B x D) (Z k s)) j=some q->∀b,q.fp b->q.own=false->b<w.heap.size\/w.heap.size+1<=b:=λj q S b n ho=>by
   rcases b6 j q S with h|h
   .exact .inr (a8 q h b n)
   .exact V.off j q h ho b n
  have s3:=s2.rounds ps (ys x D) g3;have s4:Sat N sc (renv ps (ys x D) env) ((93,Zy I (Mfs sc (w.heap.size+1) H))::adds 100 (B x D) (Z k s)) _ I:=s3.add 93 (Zy I (Mfs sc (w.heap.size+1) H)) (Chg.refl _ _) (λj jt d2 S Ht b n a7=>by
   rcases Ht with h|h
   .cases h
   .exact n.2 (.inl (u j jt S b a7 h))) (λb n=>cJ.1 λhn=>n.2 (.inr hn))
  have d1:¬Mfs sc (w.heap.size+1) H w.heap.size:=λh=>h.elim g2 (λhn=>hn (hw _ g7));rw [f]at hy;refine⟨d6,_,assign,body,hy,roundIn_of_wpIn f8 ?_⟩;have hr:=b5 k x D s hx M w.heap.size (Mfs sc (w.heap.size+1) H) I _ I s4;have e3:(ps.toArray.zip (ys x D).toArray).foldl (λt (p,v)=>t.setIfInBounds p v) a.tmps=(ps.zip (ys x D)).foldl (λt pv=>t.setIfInBounds pv.1 pv.2) a.tmps:=O8;have f0:w.heap.size+1<=I.heap.size:=by have:=hB.size;omega
  have f9:∀(F:Hp),lk F 0=some (Zy w0 (λ_=>False))/\lk F 93=none->∀q,lk F 0=some q->q.own=false:=λF h q hq=>by rw [h.1]at hq;cases hq;rfl
  rw [show(ps.toArray.zip (ys x D).toArray).foldl (λt (x:Nat×Value)=>t.setIfInBounds x.1 x.2) a.tmps=(ps.zip (ys x D)).foldl (λt pv=>t.setIfInBounds pv.1 pv.2) a.tmps from e3];refine wpIn_mono hr ?_;rintro e a1 W2 ⟨rfl,d5,H1,c2,d8,f3,Y,c6⟩;have a0:Chg (Mfs sc (w.heap.size+1) H) I W2:=Y.hold 93 _ (Zp _ _ _);have g1:W2.heap[w.heap.size]? = some (.loop (d .ready none)):=(a0.block _ O1 d1).trans e6;have p1:=Y.ps c2 O4 d8 f0 f3 u b9 a4;have h5:I.heap.size<=W2.heap.size:=a0.size;obtain⟨m,z⟩:∃m,W2.putObj w.heap.size (.loop { d .ready none with state:= .busy })=m:=⟨_,rfl⟩;have g9:Sat N sc d5 ((93,Zy m (Mfs sc (w.heap.size+1) H))::H1) a1 m:=by
   have p2:=b4 _ _ p1 (.loop { d .ready none with state:= .busy });rw [z]at p2;refine(p2.sat Y.size Y.defers Y.env).add 93 (Zy m (Mfs sc (w.heap.size+1) H)) (Chg.refl _ _) (λj jt d2 S Ht b n a7=>?_) (λb n=>cJ.1 λhn=>n.2 (.inr hn));rcases Ht with h|h
   .cases h
   .exact n.2 (.inl (p2.mf j jt S h b a7))
  have g6:W2.heap.size=m.heap.size:=by rw [<-z];simp
  have b8:m.heap[w.heap.size]? = some (.loop { d .ready none with state:= .busy }):=by rw [<-z];exact World.putObj_heap_same O1
  refine⟨m,by rw [<-z];exact run_beginRound g1 (by rw [f]),wpIn_mono (c6 m ⟨⟨_,b8⟩,d1⟩ a1 m g9) ?_⟩;have b7:∀(F:Hp) (env':Qm) (a3:Act) (W3:World),(lk F 0=some (Zy w0 (λ_=>False))/\lk F 93=none)->FpM F (adds 100 (B x D) (Z k s))->Sat N sc env' ((93,Zy m (Mfs sc (w.heap.size+1) H))::F) a3 W3->∀(r:Loop),
    W3.heap[w.heap.size]? = some (.loop { d .ready none with state:= .busy })/\(((W3.putObj w.heap.size (.loop r)).heap[w.heap.size]? = some (.loop r)/\
     W1.heap.size<=(W3.putObj w.heap.size (.loop r)).heap.size/\Kps sc w (w.heap.size+1) (Ds (w.heap.size+1) H) F (W3.putObj w.heap.size (.loop r)))/\
     Chg (λb=>((∃i q,lk H i=some q/\q.own=true/\q.fp b)\/b=w.heap.size)\/W1.heap.size<=b) I (W3.putObj w.heap.size (.loop r))):=by
   intro F env' a3 W3 d0 f4 a6 r;have a2:Chg (Mfs sc (w.heap.size+1) H) m W3:=a6.hold 93 _ (Zp _ _ _);have a9:=(a2.block _ O1 d1).trans b8;have h6:=a2.size;have p3:=a6.ps d0.2 O4 (f9 F d0) O1 f4 u b9 a4;refine⟨a9,⟨World.putObj_heap_same O1,O10,b4 _ _ p3 _⟩,?_⟩;have k0:(Zy w0 (λ_=>False)).holds I:=V.stays hB |>.hold 0 _ (hk k s).1;have k3:(Zy w0 (λ_=>False)).holds W3:=p3.hold 0 _ d0.1;refine⟨?_,?_,?_,O10,λb n hn=>?_⟩
   .exact a2.os.trans ((by rw [<-z];rfl:m.os=W2.os).trans a0.os)
   .exact a2.tape.trans ((by rw [<-z];rfl:m.tape=W2.tape).trans a0.tape)
   .exact a2.output.trans ((by rw [<-z];rfl:m.output=W2.output).trans a0.output)
   .have e4:b≠w.heap.size:=λe=>hn (.inl (.inr e));have f7:¬Ds (w.heap.size+1) H b:=λh=>by
     rcases h with h|h
     .exact hn (.inl (.inl h))
     .exact hn (.inr O1)
    refine(World.putObj_heap_other e4).trans ?_;by_cases f1:sc b
    .have d9:¬Mfs sc (w.heap.size+1) H b:=λh=>h.elim f7 (λh=>h f1);refine(a2.block b O1 d9).trans ?_;have:m.heap[b]? = W2.heap[b]?:=by rw [<-z];exact World.putObj_heap_other e4
     exact this.trans (a0.block b n d9)
    .have e1:b<w0.heap.size:=by
      rcases bA b w0.heap.size with h|h
      .exact h
      .exact absurd (hw b h) f1
     exact(k3.block b e1 (λh=>h)).trans (k0.block b e1 (λh=>h)).symm
  rintro e a3 W3 (⟨rfl,d7,c8,c4,env',a6⟩|⟨rfl,gx,c8,c4,env',a6⟩)
  .obtain⟨a9,c5,c3⟩:=b7 _ env' a3 W3 (hk (k+1) d7) c4 a6 (d .ready none);have:=run_endRound (P:=P) none a9;rw [show({ ({ d .ready none with state:= .busy } : Loop)with state:=if(none:Option Code).isNone then LoopState.ready else .done,pending:=none } : Loop)=d .ready none by rw [f];rfl]at this;exact⟨_,_,this,.inl ⟨rfl,⟨d7,c8,c5⟩,c3⟩⟩
  .obtain⟨a9,c5,c3⟩:=b7 _ env' a3 W3 (g0 gx) c4 a6 (d .done (some .ret));have:=run_endRound (P:=P) (some .ret) a9;rw [show({ ({ d .ready none with state:= .busy } : Loop)with state:=if(some Code.ret).isNone then LoopState.ready else .done,pending:=some .ret } : Loop)=d .done (some .ret) by rw [f];rfl]at this;exact⟨_,_,this,.inr ⟨rfl,⟨gx,c8,c5⟩,c3⟩⟩
 .rintro e W2 ⟨⟨v,rfl⟩,⟨s,M,hl,f2,d3⟩|⟨gx,M,hl,f2,d3⟩⟩
  .refine⟨none,_,by have:=run_endLoop (P:=P) hl (by rw [f];simp);rw [f]at this;exact this,?_⟩;have p3:=b4 _ _ d3 (.loop (d .exhausted none));rw [f]at p3;have s3:=p3.sat (a:=a) hs.size hs.defers hs.env;exact hD s M _ _ s3
  .refine⟨some .ret,_,by have:=run_endLoop (P:=P) hl (by rw [f];simp);rw [f]at this;exact this,wpIn_ret ?_⟩;have p3:=b4 _ _ d3 (.loop { d .done (some .ret)with state:= .exhausted });rw [f]at p3;exact hX gx M _ _ (p3.sat (a:=a) hs.size hs.defers hs.env)
theorem Zsd{ops:Array Oper}{r:Nat}(e:Zjs ops.toList):∀(d:Nat) (b:Array Bool) (a:Act) (w:World),wpAny P .any ops (Hg Q) d b a w->wpAnyIn (Fence.wide.inRound r) 0 P .any ops Q d b a w
 | 0,_,_,_,h=>h
 | d+1,b,a,w,h=>by
  refine⟨h.1,λi hi=>?_⟩;have f:=h.2 i hi;unfold wpOp at f;unfold wpOpIn;split
  .rename_i g;simp only [g]at f;exact Zsd e _ _ a w f
  .rename_i o g;simp only [g]at f;split
   .rename_i j;simp only [j,jQ]at f;exact Oper.wpIn_mono (λa w k=>Zsd e _ _ a w k) (Zz8 (e o O5) (f.resolve_right λh=>It h.2))
   .rename_i j;simp only [j]at f;exact⟨λ_ _=>trivial,Zsd e _ _ _ w f⟩
def Qe(h:ER P N sc r y Q env H):X N sc .normal (Exit.then (λa w=>y.wpIn (Fence.wide.inRound r) 0 P Q a w) Q) env H:=λa w hs=>h a w hs
def Qz(h:X N sc .normal Q env H):X N sc .normal (Hg Q) env H:=λa w hs=>h a w hs
def Yy(a:ops.all ndB=true)(h:L P N sc ops.toArray ops (Hg Q) env H):ER P N sc r (.region id ops.toArray false) Q env H:=Zre a h
def Xx(h:X N sc .normal Q env H):ER P N sc r .skip Q env H:=Zrc h
def Zrd(h:X N sc .ret Q env H):ER P N sc r .ret Q env H:=Zxw h
def Yj0(a:ev env c=some (.bool true))(h:ER P N sc r x Q env H):ER P N sc r (.cond c x y) Q env H:=Zdj a (λ_=>h) (λh=>O5)
def Qy(a:ev env c=some (.bool false))(h:ER P N sc r y Q env H):ER P N sc r (.cond c x y) Q env H:=Zdj a (λh=>O5) (λ_=>h)
def Kt{p:Prop}[Decidable p](a:ev env c=some (.bool (decide p)))(d:p->ER P N sc r x Q env H)(b:¬p->ER P N sc r y Q env H):ER P N sc r (.cond c x y) Q env H:=
 Zdj a (λh=>d (bL h)) (λh=>b (kJ h))
def Oh{n:Nat}{f h:Type}{g:f->Hp}{b:f->Prop}{i:h->Hp}{d:h->Prop}(e:f)(hi:b e)(j:FpM (g e) Hall)(k:HSub ((n,Zy Wb Mf)::g e) H):X N sc .normal (RBn n N sc Mf Hall g b i d Wb) env H:=
 λa w hs=>Or.inl ⟨rfl,e,hi,j,[],hs.weaken aA k⟩
def Yml{n:Nat}{h e:Type}{i:h->Hp}{g:h->Prop}{f:e->Hp}{b:e->Prop}(d:e)(hi:b d)(j:FpM (f d) Hall)(k:HSub ((n,Zy Wb Mf)::f d) H):X N sc .ret (RBn n N sc Mf Hall i g f b Wb) env H:=
 λa w hs=>Or.inr ⟨rfl,d,hi,j,[],hs.weaken aA k⟩
def Yeq {n l:Nat}    {g h:Type} {i:g->Hp} {f:g->Prop} {j:h->Hp} {d:h->Prop} {k:World} (b:Qm) (e:Hp) (t:Sub b env) (u:HSub ((n,Zy k Mf)::e) H) (o:lk e n=none) (m:∀q,lk e 0=some q->q.own=false) (p:FpM e Hall)
  (s:∀Wb,LpAt l Mf Wb->ER P N sc l body (RBn n N sc Mf Hall i f j d Wb) b ((n,Zy Wb Mf)::e)):X N sc .normal (RAn n P N sc l Mf Hall body i f j d k) env H:=
 λa w hs=>⟨rfl,b,e,o,m,p,hs.weaken t u,s⟩
theorem Yjz  {l:List Oper} (M:Nat->Prop) (d:List Nat) (e:P.follows .mixedOrders=true) (b:l.all ndB=true)
  (h:A P N sc M l.toArray d Q l.length (Array.replicate l.length false) env H):ER P N sc r (.region id l.toArray true) Q env H:=λa w hs=>by
 refine wpIn_region_any e (Zsd (Zd9 b) _ _ _ _ (Zbu d (C:=Chg M) _ _ _ _ ?_));simpa using h a _ hs.drew
theorem Ypr  {l:List Oper} (M:Nat->Prop) (a:List (Nat×Nat)) (k:P.follows .mixedOrders=true) (b:l.all ndB=true)
  (e:(Region.noSelect l.toArray && Nat.beq a.length l.length && Fx l.toArray (Ao a) a (Array.replicate l.length false) &&
   (Region.ready .any l.toArray (Ey a (Array.replicate l.length false))).isEmpty)=true)
  (h:LD P N sc M l.toArray (X N sc .normal Q) a env H):ER P N sc r (.region id l.toArray true) Q env H:=by
 simp only [aP]at e;obtain⟨⟨⟨f,d⟩,g⟩,i⟩:=e;have d:=eG d;refine Yjz M (Ao a) k b ?_;have:=LD.sound f _ _ env H g h (λenv H j=>Yr j i);grind
end Go.Sky
namespace Go.Sky
open Go.RowKit Below
variable{p:Prop}{a:Act}{w:World}{x y c:Code}{id r:Nat}{K K':Act->World->Prop}{pre:List Pc}{lbv:List Value}
variable {P:Program} {N:Nat} {sc:Nat->Prop} {env env':Qm} {H H':Hp} {Q Q':Exit->Act->World->Prop} {ds:List Nat}
abbrev mrk (D:Nat):Deferred:={ target:= .collected D,args:=#[] }
def ap(ds:List Nat)(a:Act):Act:={ a with defers:=a.defers ++ ds.map mrk }
theorem Zle(a:Act)(d:Option Tmp)(v:Value):(ap ds a).put d v=ap ds (a.put d v):=by cases d<;>rfl
def fxs(ds:List Nat):Pc:=
  { own:=true,fp:=λb=>b∈ds,holds:=λw=>ds.Nodup/\∀D∈ds,w.heap[D]? = some (.deferred (some []))
    lt:=λw b h e=>(aM.1 (h.2 b e)).1
    stable:=λw i h f=>⟨h.1,λD d=>(f.block D (aM.1 (h.2 D d)).1 (λg=>g d)).trans (h.2 D d)⟩ }
theorem You{p q:Pc}{i:Nat}(h:lk ((91,p)::H) i=some q):(i=91/\q=p)\/(i≠91/\lk H i=some q):=by
  by_cases b:91=i
  . subst b;rw [Zp]at h;cases h;exact .inl ⟨rfl,rfl⟩
  . rw [Zh _ _ b]at h;exact .inr ⟨λe=>b e.symm,h⟩
theorem Zxo{D:Nat}(hs:Sat N sc env H a w)(f:lk H 91=some (fxs ds))(G:w.heap[D]? = some (.deferred (some [])))(s:∀i q,lk H i=some q->¬q.fp D)(t:sc D):Sat N sc env ((91,fxs (D::ds))::H) a w:=by
  have u:=hs.hold 91 _ f;have F:D ∉ ds:=λh=>s 91 _ f h;refine⟨hs.size,hs.defers,hs.env,λi p hi=>?_,λi j p q m hi I v b g d=>?_,λi p o hi b g=>?_⟩
  . rcases You hi with⟨rfl,rfl⟩|⟨_,hi⟩
    . exact⟨lO.2 ⟨F,u.1⟩,λE n=>by
        rcases aW.1 n with rfl|n
        . exact G
        . exact u.2 E n⟩
    . exact hs.hold i p hi
  . rcases You hi with⟨rfl,rfl⟩|⟨z,k⟩<;>rcases You I with⟨rfl,rfl⟩|⟨B,l⟩
    . exact m rfl
    . rcases aW.1 g with rfl|g
      . exact s j q l d
      . exact hs.sep 91 j _ q (λe=>B e.symm) f l rfl b g d
    . rcases aW.1 d with rfl|d
      . exact s i p k g
      . exact hs.sep i 91 p _ z k f v b g d
    . exact hs.sep i j p q m k l v b g d
  . rcases You hi with⟨rfl,rfl⟩|⟨_,hi⟩
    . rcases aW.1 g with rfl|g
      . exact t
      . exact hs.scope 91 _ O4 f b g
    . exact hs.scope i p o hi b g
def EG(P:Program)(N:Nat)(sc:Nat->Prop)(ds:List Nat)(c:Code)(Q:Exit->Act->World->Prop)(env:Qm)(H:Hp):Prop:=
  ∀a w,Sat N sc env H a w->c.wp P Q (ap ds a) w
def XG(N:Nat)(sc:Nat->Prop)(ds:List Nat)(e:Exit)(Q:Exit->Act->World->Prop)(env:Qm)(H:Hp):Prop:=
  ∀a w,Sat N sc env H a w->Q e (ap ds a) w
def Xc(h:EG P N sc ds x (Exit.then (y.wp P Q) Q) env H):EG P N sc ds (.seq x y) Q env H:=λa w hs=>wp_seq (h a w hs)
def Fs(h:XG N sc ds .normal Q env H):EG P N sc ds .skip Q env H:=λa w hs=>wp_skip (h a w hs)
def Be(h:XG N sc ds .ret Q env H):EG P N sc ds .ret Q env H:=λa w hs=>wp_ret (h a w hs)
def Zj0(h:XG N sc ds (.exit id) Q env H):EG P N sc ds (.exit id) Q env H:=λa w hs=>wp_exit (h a w hs)
def Ig(h:EG P N sc ds c (Exit.inBlock id Q) env H):EG P N sc ds (.block id c) Q env H:=λa w hs=>wp_block (h a w hs)
def Zmj{x:Operand}{v:Value}(hs:Sat N sc env H a w)(b:ev env x=some v):(ap ds a).eval x=v:=hs.ev b
theorem Zcf{c:Operand}[Decidable p](b:ev env c=some (.bool (decide p)))(e:p->EG P N sc ds x Q env H)(d:¬p->EG P N sc ds y Q env H) :
    EG P N sc ds (.cond c x y) Q env H:=λa w hs=>
  wp_cond_split (Zmj hs b) (λh=>e (by simpa using h) a w hs) (λh=>d (by simpa using h) a w hs)
def Zu6{c:Operand}{b:Bool}(d:ev env c=some (.bool b))(f:b=true->EG P N sc ds x Q env H)(e:b=false->EG P N sc ds y Q env H) :
    EG P N sc ds (.cond c x y) Q env H:=λa w hs=>
  wp_cond_split (Zmj hs d) (λh=>f h a w hs) (λh=>e h a w hs)
def Zhb{c:Operand}(b:ev env c=some (.bool true))(d:EG P N sc ds x Q env H):EG P N sc ds (.cond c x y) Q env H:=λa w hs=>
  wp_cond_true (Zmj hs b) (d a w hs)
def Zml{c:Operand}(b:ev env c=some (.bool false))(d:EG P N sc ds y Q env H):EG P N sc ds (.cond c x y) Q env H:=λa w hs=>
  wp_cond_false (Zmj hs b) (d a w hs)
def Yd(h:EG P N sc ds y Q env H):XG N sc ds .normal (Exit.then (y.wp P Q) Q) env H:=h
def Kv(h:XG N sc ds .ret Q env H):XG N sc ds .ret (Exit.then K Q) env H:=h
def Zae(h:XG N sc ds (.exit id) Q env H):XG N sc ds (.exit id) (Exit.then K Q) env H:=h
def Zeq(h:XG N sc ds .normal Q env H):XG N sc ds .normal (Exit.inBlock id Q) env H:=h
def Zep(h:XG N sc ds .ret Q env H):XG N sc ds .ret (Exit.inBlock id Q) env H:=h
theorem Zy2(h:XG N sc ds .normal Q env H):XG N sc ds (.exit id) (Exit.inBlock id Q) env H:=λa w hs=>by show(if id=id then Q .normal _ w else Q (.exit id) _ w);rw [aO rfl];exact h a w hs
def Au(hi:∀a w,Sat N sc env H a w->Sat N sc env' H' a w)(h:EG P N sc ds c Q env' H'):EG P N sc ds c Q env H:=λa w hs=>h a w (hi a w hs)
def Zo1{e:Exit}(hi:∀a w,Sat N sc env H a w->Sat N sc env' H' a w)(h:XG N sc ds e Q env' H'):XG N sc ds e Q env H:=λa w hs=>h a w (hi a w hs)
def Ypw(b:∀a w,Sat N sc env H a w->p)(h:p->EG P N sc ds c Q env H):EG P N sc ds c Q env H:=λa w hs=>h (b a w hs) a w hs
theorem Yoh{o:Oper}(g:∀a w,K a w->K' (ap ds a) w)(h:o.wp P a w K noQ):o.wp P (ap ds a) w K' Q:=by
  unfold Oper.wp at h ⊢;show o.upon P _ K' Q ((execOp a.eval o).run P w);generalize (execOp a.eval o).run P w=x at *;cases x with
  | ok n j=>
    cases n<;>simp only [Oper.upon]at h ⊢
    case value=>rw [Zle];exact g _ _ h
    case skip=>rw [Zle];exact g _ _ h
    case defer d=>exact(by cases o.dst<;>rfl:ap ds (({ a with defers:=d::a.defers } : Act).put o.dst undef)=({ ap ds a with defers:=d::(ap ds a).defers } : Act).put o.dst undef)▸g _ _ h
    case enter f args=>
      refine h.mono λe i b=>?_;cases e with
      | returned v=>show K' ((ap ds a).put o.dst v) i;rw [Zle];exact g _ _ b
      | panicked c=>exact b.elim
      | outgrown=>obtain⟨_,_,h⟩:=b;exact h.elim
    case row row args=>exact h.mono λ_ _ b=>by rw [Zle];exact g _ _ b
  | halt x j=>
    cases x<;>simp only [Oper.upon]at h
    case panic u=>exact h.elim
theorem Yof{o:Oper}(h:o.wp P a w K (Hg Q)):o.wp P a w K noQ:=by
  unfold Oper.wp at h ⊢;revert h;generalize (execOp a.eval o).run P w=x;intro h;cases x with
  | ok n d=>
    cases n<;>simp only [Oper.upon]at h ⊢
    case value=>exact h
    case skip=>exact h
    case defer=>exact h
    case enter f args=>
      refine h.mono λe g b=>?_;cases e with
      | returned v=>exact b
      | panicked c=>exact b
      | outgrown=>exact absurd b It
    case row row args=>exact h
  | halt x d=>
    cases x<;>simp only [Oper.upon]at h ⊢
    case panic u=>exact h
theorem Zql{ops:Array Oper} : ∀(l:List Oper) (a:Act) (w:World),wpList P ops (Hg λe a w=>Q e (ap ds a) w) l a w->wpList P ops Q l (ap ds a) w
  | [],_,_,h=>h
  | o::l,a,w,h=>by
    unfold wpList at h ⊢;split
    . rename_i d;have b:Region.wanted o (yielded ops a.tmps)=true:=d;simp only [b,jQ]at h;have h:=h.resolve_right λh=>It h.2;exact .inl (Yoh (λa w f=>Zql l a w f) (Yof h))
    . rename_i d;have b:¬Region.wanted o (yielded ops a.tmps)=true:=d;rw [aF b]at h;rw [Zle];exact Zql l _ w h
def Xy{l:List Oper}(h:L P N sc l.toArray l (Hg λe a w=>Q e (ap ds a) w) env H):EG P N sc ds (.region id l.toArray false) Q env H:=λa w hs=>wp_region_lit (Zql l a w (h a w hs))
def Nj(h:XG N sc ds .normal Q env H):X N sc .normal (Hg λe a w=>Q e (ap ds a) w) env H:=λa w hs=>h a w hs
def RndG{G:Type}(N:Nat)(sc:Nat->Prop)(cs:Qm)(f:Hp)(dg:G->List Nat)(i:G->Qm)(h:G->Hp)(d:G->Prop)(μ:G->Nat)(g:G):Act->World->Prop:=
  λa w=>∃b,d b/\μ b<μ g/\∃e,a=ap (dg b) e/\Sat N sc (i b ++ cs) (h b ++ f) e w
theorem Ybc  {G:Type} (dg:G->List Nat) (cs:Qm) (j:Hp) (l:G->Qm) (k:G->Hp) (b:G->Prop) (μ:G->Nat) (f:G) (m:dg f=ds) (B:b f) (hs:Sub (l f ++ cs) env) (z:HSub (k f ++ j) H)
    (d:∀g,b g->EG P N sc (dg g) c (Exit.then (RndG N sc cs j dg l k b μ g) Q) (l g ++ cs) (k g ++ j)) :
    EG P N sc ds (.loop c) Q env H:=λa w h=>by
  refine wp_loop_ghost (λn a w=>∃g,b g/\μ g=n/\∃i,a=ap (dg g) i/\Sat N sc (l g ++ cs) (k g ++ j) i w) (μ f) ⟨f,B,rfl,a,by rw [m],h.weaken hs z⟩ ?_;rintro n a w ⟨g,hi,rfl,i,rfl,o⟩;refine Code.wp_mono (λe a w s=>?_) (d g hi i w o);cases e with
  | normal=>obtain⟨q,t,u,v⟩:=s;exact⟨μ q,u,q,t,rfl,v⟩
  | _=>exact s
theorem Zkb{G:Type}{cs:Qm}{h:Hp}{dg:G->List Nat}{j:G->Qm}{i:G->Hp}{e:G->Prop}{μ:G->Nat}{g:G}(b:G)(f:dg b=ds)(k:e b)(l:μ b<μ g)(hs:Sub (j b ++ cs) env)(m:HSub (i b ++ h) H) :
    XG N sc ds .normal (Exit.then (RndG N sc cs h dg j i e μ g) Q) env H:=λa w d=>⟨b,k,l,a,by rw [f],d.weaken hs m⟩
theorem Zu5(h:EG P N sc [] c Q env ((91,fxs [])::H)):E P N sc c Q env H:=λa w hs=>by
  have e:ap [] a=a:=by simp [ap]
  rw [<-e];refine h a w (hs.add 91 (fxs []) ⟨List.nodup_nil,λD f=>by cases f⟩ (λj g _ _ _ b d _=>by cases d) (λb d=>by cases d))
theorem Zic{fn:Func}{t:Array Value}{R:Ending->World->Prop} : ∀(ds:List Nat) (w:World),(fxs ds).holds w->
    (∀w',(∀k,k ∉ ds->w'.heap[k]? = w.heap[k]?)->w'.os=w.os->w'.tape=w.tape->w'.output=w.output->w.heap.size<=w'.heap.size->LeavesInM Fence.wide 0 P fn t R [] .returning w')->LeavesInM Fence.wide 0 P fn t R (ds.map mrk) .returning w
  | [],w,_,h=>h w (λ_ _=>rfl) rfl rfl rfl (aI _)
  | D::ds,w,⟨d,h2⟩,h=>by
    obtain⟨f,d⟩:=lO.1 d;refine⟨O8,.inl ⟨D,w.putObj D (.deferred none),rfl,run_takeDeferred (h2 D (bX ..)),Zic ds _ ⟨d,λE e=>?_⟩ (λw' g i j l m=>?_)⟩⟩
    . rw [World.putObj_heap_other (by rintro rfl;exact f e)];exact h2 E (bN _ e)
    . refine h w' (λk b=>?_) (i.trans rfl) (j.trans rfl) (l.trans rfl) (by simpa using m);rw [aW,not_or]at b;rw [g k b.2,World.putObj_heap_other b.1]
theorem El{fn:Func}{w0:World}{al:Bool}{G:Type}{φ:G->Prop}{val:G->Value}{d:G->List Pc}{e:Exit}(D:e= .ret\/e= .normal)(l:lk H 91=some (fxs ds))(h:X N sc .ret (Za1 P fn w0 pre al φ val d) env (drp 91 H)):XG N sc ds e (Zdw P fn w0 pre al φ val d) env H:=λa w hs=>by
  have B:(ap ds a).defers=ds.map mrk:=by simp [ap,hs.defers]
  have m : LeavesInM Fence.wide 0 P fn a.tmps (λe f => ∃ g, e = .returned (val g) /\ φ g /\ Below w0.heap.size w0 f /\
        ∀p∈d g,p.holds f/\p.own=false/\∀b,p.fp b->w0.heap.size<=b\/(al=true/\∃q∈pre,q.fp b)) (ap ds a).defers .returning w:=by
    rw [B];refine Zic ds w (hs.hold 91 _ l) λf M S W Y Z=>?_;have u:Sat N sc env (drp 91 H) a f:=by refine⟨hs.size,hs.defers,hs.env,λi p hi=>?_,λi j p q t hi I=>hs.sep i j p q t (Gk _ _ _ _ hi).2 (Gk _ _ _ _ I).2,λi p n hi=>hs.scope i p n (Gk _ _ _ _ hi).2⟩;obtain⟨o,hi⟩:=Gk _ _ _ _ hi;exact p.stable w f (hs.hold i p hi) ⟨S,W,Y,Z,λk _ R=>M k λs=>R λF=>hs.sep 91 i _ p (λe=>o e.symm) l hi rfl k s F⟩
    obtain⟨-,v,V,z⟩:=h a f u;exact⟨v,V,z⟩
  rcases D with rfl|rfl
  . exact m
  . exact m
theorem Zxx (pre:List Pc)(w0:World) {ds:List Nat} {g:Operand} {gf:Nat} {ps:List Nat} {assign body:Code}   {α G:Type} {xs:List α} {ys:α->G->List Value} {I:α->G->List Pc} 
    {GG GX:Type} (HH:Nat->GG->Hp) (b5:Nat->GG->Prop) (HX:GX->Hp) (b6:GX->Prop) (c3:GG)
    (hg:ev env g=some (.func (.func gf) #[] lbv.toArray)) (eg:∀args w,(callFunc gf args).run P w= .ok (.enter gf args) w) (hc:Zwh P gf lbv pre xs ys I)
    (hp:∀p∈pre,p.own=false/\∃i,lk H i=some p) (h7:∀x M,(ys x M).length=ps.length) (h6:(ps.all λp=>Nat.blt p N)=true)
    (hw:∀b,w0.heap.size<=b->sc b) (h0:lk H 0=some (Zy w0 (λ_=>False)))
    (d1:b5 0 c3) (a8:HSub (HH 0 c3) H) (hk:∀k s,Zca (HH k s) w0) (f0:∀k s,lk (HH k s) 91=some (fxs ds)) (g7:∀Y,Zca (HX Y) w0) (d3:∀Y,lk (HX Y) 91=some (fxs ds))
    (b8:∀k x M s,xs[k]? = some x->b5 k s->∀l Mf V a W,Sat N sc (renv ps (ys x M) env) ((92,Zy V Mf)::adds 100 (I x M) (HH k s)) a W->
      assign.wpIn (Fence.wide.inRound l) 0 P (RAn 92 P N sc l Mf (adds 100 (I x M) (HH k s)) body (HH (k+1)) (b5 (k+1)) HX b6 V) a W)
    (hD:∀s D,b5 xs.length s->XG N sc (D::ds) .normal Q env ((91,fxs (D::ds))::HH xs.length s))
    (hX:∀Y D,b6 Y->XG N sc (D::ds) .ret Q env ((91,fxs (D::ds))::HX Y)) :
    EG P N sc ds (.rangeFunc g ps.toArray assign body) Q env H:=λa w hs=>by
  have S:∀i p,lk H i=some p->∀b,p.fp b->b<w.heap.size:=λi p hi b z=>p.lt w b (hs.hold i p hi) z;have f5:w0.heap.size<=w.heap.size:=(hs.hold 0 _ h0).size;refine(wpIn_wide (n:=0)).1 (wpIn_rangeFunc ?_);have e9:∀(F:Hp),lk F 91=some (fxs ds)->∀W:World,Kps sc w (w.heap.size+2) (Ds (w.heap.size+2) H) F W->W.heap[w.heap.size]? = some (.deferred (some []))->Sat N sc env ((91,fxs (w.heap.size::ds))::F) { tmps:=a.tmps,defers:=[] } W:=λF f6 W p3 R=>by
    have c5:¬Ds (w.heap.size+2) H w.heap.size:=λh=>by
      rcases h with⟨i,q,hq,_,hf⟩|h
      . have:=S i q hq _ hf;omega
      . omega
    exact Zxo (p3.sat (a:={ tmps:=a.tmps,defers:=[] }) hs.size rfl hs.env) f6 R (λi q hq hf=>by
      cases a7:q.own with
      | true=>exact c5 (p3.mf i q hq a7 _ hf)
      | false=>rcases p3.off i q hq a7 _ hf with h|h<;>omega) (hw _ f5)
  intro d8 g5;obtain⟨d,f⟩:∃d:LoopState->Option Code->Loop,d=λst pe=>{ state:=st,pending:=pe,fn:=d8,tmps:=a.tmps,params:=ps.toArray,assign:=assign,body:=body,defers:=w.heap.size }:=⟨_,rfl⟩;obtain⟨W1,b0⟩:∃W1,(w.alloc (.deferred (some []))).alloc (.loop (d .ready none))=W1:=⟨_,rfl⟩;have g1:W1.heap[w.heap.size+1]? = some (.loop (d .ready none)):=by rw [<-b0];have:=World.alloc_heap_new (w.alloc (.deferred (some []))) (.loop (d .ready none));rwa [World.size_alloc]at this
  have g0:W1.heap[w.heap.size]? = some (.deferred (some [])):=by rw [<-b0];exact(Below.heap_alloc _ _ _ O8).trans (World.alloc_heap_new w _)
  have e6:Below w.heap.size w W1:=by rw [<-b0];exact((Below.refl _ w).alloc (aI _) _).alloc O8 _
  have i5:W1.heap.size=w.heap.size+2:=by rw [<-b0];simp
  have e0:(#[.func (.yield (w.heap.size+1)) #[] #[]] ++ lbv.toArray:Array Value)=(Value.func (.yield (w.heap.size+1)) #[] #[]::lbv).toArray:=O8;refine⟨w.heap.size+1,[{ target:= .collected w.heap.size,args:=#[] }],W1,{ target:= .fn (.func gf) lbv.toArray,args:=#[.func (.yield (w.heap.size+1)) #[] #[]] },W1,gf,
    (Value.func (.yield (w.heap.size+1)) #[] #[]::lbv).toArray,W1,?_,?_,λ_ _=>trivial,?_,λh=>(by cases h),?_⟩
  . rw [<-b0,f];exact run_enterLoop_outer _ _ _ _ _
  . simp only [resolve,Zmj (ds:=ds) hs hg];simp [go_sem]
  . simp [invoke,go_sem,eg]
  have b4:∀(F:Hp) (r:Loop),Ze7 λW=>W.heap[w.heap.size+1]? = some (.loop r)/\W.heap[w.heap.size]? = some (.deferred (some []))/\W1.heap.size<=W.heap.size/\Kps sc w (w.heap.size+2) (Ds (w.heap.size+2) H) F W:=λF r W W' ⟨h1,h2,h3,h4⟩ hB=>
    ⟨(hB.block _ (aM.1 h1).1).trans h1,(hB.block _ (aM.1 h2).1).trans h2,aB h3 hB.size,h4.stays hB⟩
  have h5:¬Ds (w.heap.size+2) H (w.heap.size+1):=λh=>by
    rcases h with⟨i,q,hq,_,hf⟩|h
    . have:=S i q hq _ hf;omega
    . omega
  have c5:¬Ds (w.heap.size+2) H w.heap.size:=λh=>by
    rcases h with⟨i,q,hq,_,hf⟩|h
    . have:=S i q hq _ hf;omega
    . omega
  have i4:∀(F:Hp) (W:World),Kps sc w (w.heap.size+2) (Ds (w.heap.size+2) H) F W->∀(o:Obj),Kps sc w (w.heap.size+2) (Ds (w.heap.size+2) H) F (W.putObj w.heap.size o):=λF W h o=>h.put S ⟨aI _,O1⟩;have b7:∀(F:Hp) (W:World),Kps sc w (w.heap.size+2) (Ds (w.heap.size+2) H) F W->∀(o:Obj),Kps sc w (w.heap.size+2) (Ds (w.heap.size+2) H) F (W.putObj (w.heap.size+1) o):=λF W h o=>h.put S ⟨O1,O1⟩;refine callsIn_wide.2 ((hc (w.heap.size+1) (λb=>(∃i q,lk H i=some q/\q.own=true/\q.fp b)\/b=w.heap.size+1)
    (λk W=>∃s,b5 k s/\(W.heap[w.heap.size+1]? = some (.loop (d .ready none))/\W.heap[w.heap.size]? = some (.deferred (some []))/\W1.heap.size<=W.heap.size/\Kps sc w (w.heap.size+2) (Ds (w.heap.size+2) H) (HH k s) W))
    (λW=>∃Y,b6 Y/\(W.heap[w.heap.size+1]? = some (.loop (d .done (some .ret)))/\W.heap[w.heap.size]? = some (.deferred (some []))/\W1.heap.size<=W.heap.size/\Kps sc w (w.heap.size+2) (Ds (w.heap.size+2) H) (HX Y) W)) W1
    ?_ ?_ ?_ ?_ ?_ ?_).mono ?_)
  . intro p B;obtain⟨ho,i,hi⟩:=hp p B;exact p.stable _ _ (hs.hold i p hi) (Chg.of_below e6)
  . rintro p B b z (⟨i,q,hq,a7,h8⟩|rfl)
    . obtain⟨ho,j,hj⟩:=hp p B;exact hs.sep i j q p (λe=>by subst e;rw [hq]at hj;cases hj;rw [ho]at a7;cases a7) hq hj a7 b h8 z
    . obtain⟨ho,j,hj⟩:=hp p B;have:=S j p hj _ z;omega
  . rintro k W W' ⟨s,c9,h⟩ hB;exact⟨s,c9,b4 _ _ W W' h hB⟩
  . rintro W W' ⟨Y,c9,h⟩ hB;exact⟨Y,c9,b4 _ _ W W' h hB⟩
  . refine⟨c3,d1,g1,g0,aI _,λi it hi=>it.stable _ _ (hs.hold i it (a8.lk i it hi)) (Chg.of_below e6),λi j it jt d5 hi hj=>hs.sep i j it jt d5 (a8.lk i it hi) (a8.lk j jt hj),
      λi it d1 hi=>hs.scope i it d1 (a8.lk i it hi),λi it hi _ b z=> .inl (S i it (a8.lk i it hi) b z),λi it hi ho b z=> .inl ⟨i,it,a8.lk i it hi,ho,z⟩⟩
  . rintro k x M hx W V ⟨s,Z,hl,hd,f4,a2⟩ i6 hB a0;have f1:V.heap[w.heap.size+1]? = some (.loop (d .ready none)):=(hB.block _ O1).trans hl;have g3:V.heap[w.heap.size]? = some (.deferred (some [])):=(hB.block _ O1).trans hd;have hy:=run_yield (P:=P) (args:=(ys x M).toArray) f1 (by rw [f];simp [h7]);have b2:∀p∈I x M,∀b,p.fp b->w.heap.size+2<=b:=λp hp b z=>by have:=(a0 p hp).2.2 b z;omega
    have s1:Sat N sc env (HH k s) { tmps:=a.tmps,defers:=[] } V:=(a2.stays hB).sat hs.size rfl hs.env;have s2:Sat N sc env (adds 100 (I x M) (HH k s)) { tmps:=a.tmps,defers:=[] } V:=s1.adds (w1:=V) _ _ λp B=>⟨(a0 p B).1,(a0 p B).2.1,λb z=>hw b (by have:=b2 p B b z;omega),λj jt hj ho b z b1=>by have h1:=(a0 p B).2.2 b z;have h2:=jt.lt W b (a2.hold j jt hj) b1;omega⟩
    have b9:∀j q,lk (adds 100 (I x M) (HH k s)) j=some q->(q∈I x M)\/lk (HH k s) j=some q:=λj q h=>Zg0 _ _ _ j q h;have B:∀j q,lk (adds 100 (I x M) (HH k s)) j=some q->∀b,q.fp b->q.own=true->Ds (w.heap.size+2) H b:=λj q hj b z ho=>by
      rcases b9 j q hj with h|h
      . rw [(a0 q h).2.1]at ho;cases ho
      . exact a2.mf j q h ho b z
    have c2:∀j q,lk (adds 100 (I x M) (HH k s)) j=some q->∀b,q.fp b->q.own=false->b<w.heap.size\/w.heap.size+2<=b:=λj q hj b z ho=>by
      rcases b9 j q hj with h|h
      . exact .inr (b2 q h b z)
      . exact a2.off j q h ho b z
    have s3:=s2.rounds ps (ys x M) h6;have s4:Sat N sc (renv ps (ys x M) env) ((92,Zy V (Mfs sc (w.heap.size+2) H))::adds 100 (I x M) (HH k s)) _ V:=s3.add 92 (Zy V (Mfs sc (w.heap.size+2) H)) (Chg.refl _ _) (λj jt d5 hj Ht b z b1=>by
      rcases Ht with h|h
      . cases h
      . exact z.2 (.inl (B j jt hj b b1 h))) (λb z=>cJ.1 λhn=>z.2 (.inr hn))
    have d4:¬Mfs sc (w.heap.size+2) H (w.heap.size+1):=λh=>h.elim h5 (λhn=>hn (hw _ O1));have e1:¬Mfs sc (w.heap.size+2) H w.heap.size:=λh=>h.elim c5 (λhn=>hn (hw _ f5));rw [f]at hy;refine⟨d8,_,assign,body,hy,roundIn_of_wpIn g5 ?_⟩;have hr:=b8 k x M s hx Z (w.heap.size+1) (Mfs sc (w.heap.size+2) H) V _ V s4;have e3:(ps.toArray.zip (ys x M).toArray).foldl (λt (p,v)=>t.setIfInBounds p v) a.tmps=(ps.zip (ys x M)).foldl (λt pv=>t.setIfInBounds pv.1 pv.2) a.tmps:=O8;have f2:w.heap.size+2<=V.heap.size:=by have:=hB.size;omega
    have g6:∀(F:Hp),Zca F w0->∀q,lk F 0=some q->q.own=false:=λF h q hq=>by rw [h.1]at hq;cases hq;rfl
    rw [show(ps.toArray.zip (ys x M).toArray).foldl (λt (x:Nat×Value)=>t.setIfInBounds x.1 x.2) a.tmps=(ps.zip (ys x M)).foldl (λt pv=>t.setIfInBounds pv.1 pv.2) a.tmps from e3];refine wpIn_mono hr ?_;rintro e a1 W2 ⟨rfl,d7,H1,f7,e2,f8,a4,c8⟩;have a5:Chg (Mfs sc (w.heap.size+2) H) V W2:=a4.hold 92 _ (Zp _ _ _);have g9:W2.heap[w.heap.size+1]? = some (.loop (d .ready none)):=(a5.block _ O1 d4).trans f1;have g4:W2.heap[w.heap.size]? = some (.deferred (some [])):=(a5.block _ O1 e1).trans g3;have p1:=a4.ps f7 O4 e2 f2 f8 B c2 S;have i2:V.heap.size<=W2.heap.size:=a5.size;obtain⟨m,u⟩:∃m,W2.putObj (w.heap.size+1) (.loop { d .ready none with state:= .busy })=m:=⟨_,rfl⟩;have i1:Sat N sc d7 ((92,Zy m (Mfs sc (w.heap.size+2) H))::H1) a1 m:=by
      have p2:=b7 _ _ p1 (.loop { d .ready none with state:= .busy });rw [u]at p2;refine(p2.sat a4.size a4.defers a4.env).add 92 (Zy m (Mfs sc (w.heap.size+2) H)) (Chg.refl _ _) (λj jt d5 hj Ht b z b1=>?_) (λb z=>cJ.1 λhn=>z.2 (.inr hn));rcases Ht with h|h
      . cases h
      . exact z.2 (.inl (p2.mf j jt hj h b b1))
    have i0:W2.heap.size=m.heap.size:=by rw [<-u];simp
    have c1:m.heap[w.heap.size+1]? = some (.loop { d .ready none with state:= .busy }):=by rw [<-u];exact World.putObj_heap_same O1
    have e8:m.heap[w.heap.size]? = some (.deferred (some [])):=by rw [<-u];exact(World.putObj_heap_other O1).trans g4
    refine⟨m,by rw [<-u];exact run_beginRound g9 (by rw [f]),wpIn_mono (c8 m ⟨⟨_,c1⟩,d4⟩ a1 m i1) ?_⟩;have c0:∀(F:Hp) (env':Qm) (a3:Act) (W3:World),Zca F w0->FpM F (adds 100 (I x M) (HH k s))->Sat N sc env' ((92,Zy m (Mfs sc (w.heap.size+2) H))::F) a3 W3->∀(r:Loop),
        W3.heap[w.heap.size+1]? = some (.loop { d .ready none with state:= .busy })/\(((W3.putObj (w.heap.size+1) (.loop r)).heap[w.heap.size+1]? = some (.loop r)/\(W3.putObj (w.heap.size+1) (.loop r)).heap[w.heap.size]? = some (.deferred (some []))/\
          W1.heap.size<=(W3.putObj (w.heap.size+1) (.loop r)).heap.size/\Kps sc w (w.heap.size+2) (Ds (w.heap.size+2) H) F (W3.putObj (w.heap.size+1) (.loop r)))/\
          Chg (λb=>((∃i q,lk H i=some q/\q.own=true/\q.fp b)\/b=w.heap.size+1)\/W1.heap.size<=b) V (W3.putObj (w.heap.size+1) (.loop r))):=by
      intro F env' a3 W3 d2 f9 a9 r;have a6:Chg (Mfs sc (w.heap.size+2) H) m W3:=a9.hold 92 _ (Zp _ _ _);have b3:=(a6.block _ O1 d4).trans c1;have R:=(a6.block _ O1 e1).trans e8;have i3:=a6.size;have p3:=a9.ps d2.2 O4 (g6 F d2) O1 f9 B c2 S;refine⟨b3,⟨World.putObj_heap_same O1,(World.putObj_heap_other O1).trans R,O10,b7 _ _ p3 _⟩,?_⟩;have k0:(Zy w0 (λ_=>False)).holds V:=a2.stays hB |>.hold 0 _ (hk k s).1;have k3:(Zy w0 (λ_=>False)).holds W3:=p3.hold 0 _ d2.1;refine⟨?_,?_,?_,O10,λb z hn=>?_⟩
      . exact a6.os.trans ((by rw [<-u];rfl:m.os=W2.os).trans a5.os)
      . exact a6.tape.trans ((by rw [<-u];rfl:m.tape=W2.tape).trans a5.tape)
      . exact a6.output.trans ((by rw [<-u];rfl:m.output=W2.output).trans a5.output)
      . have e7:b≠w.heap.size+1:=λe=>hn (.inl (.inr e));have g2:¬Ds (w.heap.size+2) H b:=λh=>by
          rcases h with h|h
          . exact hn (.inl (.inl h))
          . exact hn (.inr O1)
        refine(World.putObj_heap_other e7).trans ?_;by_cases f3:sc b
        . have e4:¬Mfs sc (w.heap.size+2) H b:=λh=>h.elim g2 (λh=>h f3);refine(a6.block b O1 e4).trans ?_;have:m.heap[b]? = W2.heap[b]?:=by rw [<-u];exact World.putObj_heap_other e7
          exact this.trans (a5.block b z e4)
        . have e5:b<w0.heap.size:=by
            rcases bA b w0.heap.size with h|h
            . exact h
            . exact absurd (hw b h) f3
          exact(k3.block b e5 (λh=>h)).trans (k0.block b e5 (λh=>h)).symm
    rintro e a3 W3 (⟨rfl,d9,d0,c6,env',a9⟩|⟨rfl,Y,d0,c6,env',a9⟩)
    . obtain⟨b3,c7,c4⟩:=c0 _ env' a3 W3 (hk (k+1) d9) c6 a9 (d .ready none);have:=run_endRound (P:=P) none b3;rw [show({ ({ d .ready none with state:= .busy } : Loop)with state:=if(none:Option Code).isNone then LoopState.ready else .done,pending:=none } : Loop)=d .ready none by rw [f];rfl]at this;exact⟨_,_,this,.inl ⟨rfl,⟨d9,d0,c7⟩,c4⟩⟩
    . obtain⟨b3,c7,c4⟩:=c0 _ env' a3 W3 (g7 Y) c6 a9 (d .done (some .ret));have:=run_endRound (P:=P) (some .ret) b3;rw [show({ ({ d .ready none with state:= .busy } : Loop)with state:=if(some Code.ret).isNone then LoopState.ready else .done,pending:=some .ret } : Loop)=d .done (some .ret) by rw [f];rfl]at this;exact⟨_,_,this,.inr ⟨rfl,⟨Y,d0,c7⟩,c4⟩⟩
  . rintro e W2 ⟨⟨v,rfl⟩,⟨s,Z,hl,hd,f4,d6⟩|⟨Y,Z,hl,hd,f4,d6⟩⟩
    . refine⟨none,_,by have:=run_endLoop (P:=P) hl (by rw [f];simp);rw [f]at this;exact this,?_⟩;have p3:=b7 _ _ d6 (.loop (d .exhausted none));have R:(W2.putObj (w.heap.size+1) (.loop (d .exhausted none))).heap[w.heap.size]? = some (.deferred (some [])):=(World.putObj_heap_other O1).trans hd;rw [f]at p3 R;have h9:=hD s w.heap.size Z _ _ (e9 _ (f0 _ s) _ p3 R);simpa [ap,hs.defers]using h9
    . refine⟨some .ret,_,by have:=run_endLoop (P:=P) hl (by rw [f];simp);rw [f]at this;exact this,wpIn_ret ?_⟩;have p3:=b7 _ _ d6 (.loop { d .done (some .ret)with state:= .exhausted });have R:(W2.putObj (w.heap.size+1) (.loop { d .done (some .ret)with state:= .exhausted })).heap[w.heap.size]? = some (.deferred (some [])):=(World.putObj_heap_other O1).trans hd;rw [f]at p3 R;have h9:=hX Y w.heap.size Z _ _ (e9 _ (d3 Y) _ p3 R);simpa [ap,hs.defers]using h9
theorem er_lp   {G:Type} (cs:Qm) (i:Hp) (k:G->Qm) (j:G->Hp) (b:G->Prop) (μ:G->Nat) (f:G) (v:b f) (hs:Sub (k f ++ cs) env) (u:HSub (j f ++ i) H)
    (d:∀g,b g->ER P N sc r c (Exit.then (Ymb N sc cs i k j b μ g) Q) (k g ++ cs) (j g ++ i)):ER P N sc r (.loop c) Q env H:=λa w h=>by
  refine wpIn_loop_ghost (λn a w=>∃g,b g/\μ g=n/\Sat N sc (k g ++ cs) (j g ++ i) a w) (μ f) ⟨f,v,rfl,h.weaken hs u⟩ ?_;rintro n a w ⟨g,hi,rfl,l⟩;refine wpIn_mono (d g hi a w l) (λe a w o=>?_);cases e with
  | normal=>obtain⟨m,q,s,t⟩:=o;exact⟨μ m,s,m,q,rfl,t⟩
  | _=>exact o
def Ypq(h:X N sc (.exit id) Q env H):ER P N sc r (.exit id) Q env H:=λa w hs=>wpIn_exit (h a w hs)
end Go.Sky

