/- Rules, arithmetic and contracts: part 22. No conditions but those that each theorem names. -/
import Derived.Test.YtpmihempjefadaaGreatAw20
set_option linter.all false
set_option maxHeartbeats 4000000
namespace Go.Sky
open Go.RowKit Below
variable{f:FuncId}{fn:Func}{lb vs lbv:List Value}{pre:List Pc}{M Mf S:Nat->Prop}{W w W':World}{a:Act}{r d gf i:Nat}{ops:Array Oper}{o:Oper}{rest:List Oper}{x:Operand}{ops':List Operand}{tys:Array TypeId}{assign body:Code}{Hn:Hp}{u:Pc}
variable {P:Program} {N:Nat} {sc:Nat->Prop} {env env':Qj} {H H':Hp} {Q Q':Exit->Act->World->Prop} {ds:List Nat}
def kp(W:World)(T:Nat->Prop):Pc:=
 {own:=true,fp:=T,holds:=λw=>(∀b,T b->b<w.heap.size)/\∀b,T b->w.heap[b]? = W.heap[b]?
  lt:=λw b h c=>h.1 b c
  stable:=λw j h e=>⟨λb c=>cY (h.1 b c) e.size,λb c=>(e.block b (h.1 b c) (λg=>g c)).trans (h.2 b c)⟩ }
def YJK(P:Program)(l:Nat)(M:Nat->Prop)(J:Nat->(Nat->Prop)->World->Prop){α:Type}(xs:List α)(ys:α->List Value):Prop:=
 ∀k x T W,xs[k]? = some x->J k T W->YieldAt Fence.wide 0 P l (ys x).toArray W λe W'=>e= .returned (.bool true)/\Chg (λb=>M b\/T b\/W.heap.size<=b) W W'/\∃c,(∀b,T b->c b)/\(∀b,c b->T b\/W.heap.size<=b)/\J (k+1) c W'
structure StK (n:Nat) (J:Nat->(Nat->Prop)->World->Prop):Prop where
 stay:∀k T W W',J k T W->Chg (λb=>n<=b/\¬T b) W W'->J k T W'
 lt:∀k T W,J k T W->n<=W.heap.size/\∀b,T b->n<=b/\b<W.heap.size
def CalK(P:Program)(f:FuncId)(lb:List Value)(pre:List Pc){α:Type}(xs:List α)(ys:α->List Value):Prop:=
 ∀(l:Nat) (M:Nat->Prop) (J:Nat->(Nat->Prop)->World->Prop) (w:World),
  (∀p∈pre,p.holds w)->(∀p∈pre,∀b,p.fp b->¬M b)->(∀b,M b->b<w.heap.size)->StK w.heap.size J->J 0 (λ_=>False) w->YJK P l M J xs ys->
  Calls P f (.func (.yield l) #[] #[]::lb).toArray w λe c=>(∃v,e= .returned v)/\∃T,J xs.length T c
def Yi9(P:Program)(fn:Func)(n:Nat)(J:Nat->(Nat->Prop)->World->Prop):Exit->Act->World->Prop:=
 bodyPostM Fence.wide 0 P fn λe b=>(∃v,e= .returned v)/\∃T,J n T b
abbrev kO (n:Nat) (M:Nat->Prop) (W:World):Pc:=Zt W (λb=>n<=b\/M b)
abbrev kT (M T:Nat->Prop) (W:World):Pc:=kp W (λb=>M b\/T b)
abbrev noT:Nat->Prop:=λ_=>False
structure HwA:Prop where h:∀{w:World} (b:Nat),w.heap.size<=b->True
def hwA:HwA:=⟨λ_ _=>trivial⟩
theorem Ynj   {c:Code}   {α:Type} {xs:List α} {ys:α->List Value} {N:Nat}
  (hf:P.funcs[f]? = some fn) (g:fn.body=some c) (hN:fn.ntmps=N) (D:Nat.ble (lb.length+1) N=true) (V:AllRo pre)
  (h:∀(l n:Nat) (M:Nat->Prop) (J:Nat->(Nat->Prop)->World->Prop) w0,n=w0.heap.size->(∀b,M b->b<n)->StK n J->J 0 noT w0->YJK P l M J xs ys->
   E P N (λ_=>True) c (Yi9 P fn xs.length J) (Qf 0 (.func (.yield l) #[] #[]::lb)) ((0,kO n M w0)::(93,kT M noT w0)::Yg 1 pre)) :
  CalK P f lb pre xs ys:=λl M J w hp hm Z hJ B hY=>by
 refine(callsIn_wide (n:=0)).1 (callsIn_of_wp_marks hf g aA (wpIn_wide.2 (h l _ M J w rfl Z hJ B hY _ w ?_)));have a0:lb.length+1<=N:=by simpa using D
 have y:∀i p,lk ((0,kO w.heap.size M w)::(93,kT M noT w)::Yg 1 pre) i=some p->(i=0/\p=kO w.heap.size M w)\/(i=93/\p=kT M noT w)\/(i≠93/\p∈pre):=λi p hi=>by
  by_cases Y:0=i
  .subst Y;rw [Zm]at hi;cases hi;exact .inl ⟨rfl,rfl⟩
  .rw [Zh Y]at hi;by_cases z:93=i
   .subst z;rw [Zm]at hi;cases hi;exact .inr (.inl ⟨rfl,rfl⟩)
   .rw [Zh z]at hi;exact .inr (.inr ⟨λe=>z e.symm,(Oq pre 1 i p hi).2⟩)
 refine⟨by simp [hN];omega,rfl,λt v ht=>?_,λi p hi=>?_,λi j p q G hi hj I b g m=>?_,λi p a1 hi b g=>trivial⟩
 .have s:=(Hu (.func (.yield l) #[] #[]::lb) 0 t v ht).2;have s:(Value.func (.yield l) #[] #[]::lb).toArray[t]? = some v:=by simpa using s
  have F:=(aO.1 s).1;rw [bK,eQ F,s];rfl
 .rcases y i p hi with⟨rfl,rfl⟩|⟨rfl,rfl⟩|⟨_,k⟩
  .exact Chg.refl _ w
  .exact⟨λb g=>g.elim (Z b) False.elim,λ_ _=>rfl⟩
  .exact hp p k
 .rcases y i p hi with⟨rfl,rfl⟩|⟨rfl,rfl⟩|⟨_,k⟩
  .cases I
  .have g:M b:=g.elim id False.elim;rcases y j q hj with⟨rfl,rfl⟩|⟨rfl,rfl⟩|⟨_,R⟩
   .exact m.2 (.inr g)
   .exact G rfl
   .exact hm q R b m g
  .rw [V.mem p k]at I;cases I
theorem Sat.sinceK{n:Nat}{T:Nat->Prop}(hs:Sat N sc env H a w)(k:lk H 0=some (kO n M W))(c:lk H 93=some (kT M T W)):Chg (λb=>n<=b/\¬T b) W w:=by
 have h:=hs.hold 0 _ k;have e:=hs.hold 93 _ c;refine⟨h.os,h.tape,h.output,h.size,λb l m=>?_⟩;by_cases g:M b
 .exact e.2 b (.inl g)
 .by_cases j:T b
  .exact e.2 b (.inr j)
  .exact h.block b l (λh=>h.elim (λh=>m ⟨h,j⟩) g)
def LR(P:Program)(N:Nat)(sc:Nat->Prop)(r:Nat)(ops:Array Oper)(rest:List Oper)(Q:Exit->Act->World->Prop)(env:Qj)(H:Hp):Prop:=
 ∀a w,Sat N sc env H a w->wpListIn (Fence.wide.inRound r) 0 P ops Q rest a w
def er_lr{id:Nat}{l:List Oper}(h:LR P N sc r l.toArray l Q env H):ER P N sc r (.region id l.toArray false) Q env H:=λa w hs=>
 wpIn_region_lit (h a w hs)
theorem Zo5{v:Value}(j:Mt P N sc o env H v)(g:o.guard=none)(e:o.dst=some d)(c:Nat.blt d N=true)(b:ndB o=true)(h:LR P N sc r ops rest Q ((d,v)::env) H):LR P N sc r ops (o::rest) Q env H:=λa w hs=>by unfold wpListIn;rw [aF (Aj g)];refine⟨λ_ _=>trivial,?_⟩;show o.uponIn (Fence.wide.inRound r) 0 P a _ Q ((o.semAt (some r) a.eval).run P w);rw [Oper.semAt_some r _ o (Zdn (ops:=[o]) (by simp [b]) o (bZ.2 rfl)),j a w hs];show wpListIn (Fence.wide.inRound r) 0 P ops Q rest (a.put o.dst v) w;rw [e];exact h _ w (hs.put d v c)
def lr_nil(h:X N sc .normal Q env H):LR P N sc r ops [] Q env H:=λa w hs=>h a w hs
theorem Sat.behK {n:Nat} {T y:Nat->Prop} {z:World}  (hs:Sat N (λ_=>True) env H a z) (B:lk H 0=some (kO n M W)) (Z:lk H 93=some (kT M T W)) (hM:∀b,M b->b<n) (a1:n<=z.heap.size) (hn:n<=W.heap.size)
  (v:Chg (λb=>M b\/T b\/z.heap.size<=b) z W') (hT:∀b,y b->T b\/z.heap.size<=b) (G:∀b,y b->n<=b/\b<W'.heap.size):Sat N (λ_=>True) env ((0,kO n M W')::(93,kT M y W')::H) a W':=by
 have Y:∀i p,lk ((0,kO n M W')::(93,kT M y W')::H) i=some p->(i=0/\p=kO n M W')\/(i=93/\p=kT M y W')\/(i≠0/\i≠93/\lk H i=some p):=λi p hi=>by
  by_cases B:0=i
  .subst B;rw [Zm]at hi;cases hi;exact .inl ⟨rfl,rfl⟩
  .rw [Zh B]at hi;by_cases F:93=i
   .subst F;rw [Zm]at hi;cases hi;exact .inr (.inl ⟨rfl,rfl⟩)
   .rw [Zh F]at hi;exact .inr (.inr ⟨λe=>B e.symm,λe=>F e.symm,hi⟩)
 have l:∀i p,i≠93->lk H i=some p->∀b,p.fp b->¬M b/\¬T b:=λi p F hi b g=>by have:=hs.sep 93 i _ p (λe=>F e.symm) Z hi rfl b;exact⟨λh=>this (.inl h) g,λh=>this (.inr h) g⟩
 refine⟨hs.size,hs.defers,hs.env,λi p hi=>?_,λi j p q t hi R V b g c=>?_,λi p m hi b g=>trivial⟩
 .rcases Y i p hi with⟨rfl,rfl⟩|⟨rfl,rfl⟩|⟨m,s,hi⟩
  .exact Chg.refl _ _
  .exact⟨λb g=>g.elim (λh=>by have:=hM b h;have:=v.size;omega) (λh=>(G b h).2),λ_ _=>rfl⟩
  .refine p.stable _ _ (hs.hold i p hi) ⟨v.os,v.tape,v.output,v.size,λk hk hn=>v.block k hk (λhf=>?_)⟩;have:=l i p s hi k (cN.1 hn);rcases hf with h|h|h
   .exact this.1 h
   .exact this.2 h
   .omega
 .rcases Y i p hi with⟨rfl,rfl⟩|⟨rfl,rfl⟩|⟨m,s,hi⟩<;>rcases Y j q R with⟨rfl,rfl⟩|⟨rfl,rfl⟩|⟨a3,a0,R⟩
  .exact t rfl
  .cases V
  .cases V
  .rcases g with h|h
   .exact c.2 (.inr h)
   .exact c.2 (.inl (G b h).1)
  .exact t rfl
  .have D:=l j q a0 R b c;have h2:=q.lt _ b (hs.hold j q R) c;rcases g with h|h
   .exact D.1 h
   .rcases hT b h with h|h
    .exact D.2 h
    .omega
  .have:=hs.sep i 0 p _ m hi B V b g;obtain⟨a2,I⟩:=c;refine this ⟨?_,I⟩;have:b<n:=by
    rcases aX b n with h|h
    .exact h
    .exact absurd (.inl h) I
   omega
  .have D:=l i p s hi b g;have h2:=p.lt _ b (hs.hold i p hi) g;rcases c with h|h
   .exact D.1 h
   .rcases hT b h with h|h
    .exact D.2 h
    .omega
  .exact hs.sep i j p q t hi R V b g c
theorem Yfj     {l n:Nat}      {T:Nat->Prop} {J:Nat->(Nat->Prop)->World->Prop} {α:Type} {xs:List α} {ys:α->List Value}
  {k:Nat} (y:α) (hY:YJK P l M J xs ys) (g:StK n J) (hy:xs[k]? = some y) (R:J k T W) (Y:∀b,M b->b<n)
  (V:o.op= .call { callee:= .value x,args:=ops'.toArray,argTypes:=tys }) (hg:o.guard=none) (hd:o.dst=some d) (Z:Nat.blt d N=true) (hx:ev env x=some (.func (.yield l) #[] #[])) (m:EvL env ops' vs) (F:vs=ys y)
  (I:lk H 0=some (kO n M W)) (q:lk H 93=some (kT M T W))
  (ht:∀p W',J (k+1) p W'->LR P N (λ_=>True) r ops rest Q ((d,.bool true)::env) ((0,kO n M W')::(93,kT M p W')::H)):LR P N (λ_=>True) r ops (o::rest) Q env H:=λa w hs=>by
 subst F;have t:=g.stay k T W w R (hs.sinceK I q);obtain⟨fn,z,assign,body,v,j⟩:=hY k y T w hy t;have D:(o.semAt (some r) a.eval).run P w= .ok (.round l fn z assign body) w:=by rw [Oper.semAt_some r _ o (by rw [V];exact λc h=>by cases h)];show(execOp a.eval o).run P w=_;have hm:=m.map hs;have G:=hs.ev hx;simp [execOp,V,resolve,invoke,Deferred.ofValue,hm,G,v,Sem.run_bind]
 unfold wpListIn;rw [aF (Aj hg)];refine⟨λ_ _=>trivial,?_⟩;show o.uponIn (Fence.wide.inRound r) 0 P a _ Q ((o.semAt (some r) a.eval).run P w);rw [D];refine⟨λh=>(by cases h),j.mono ?_⟩;rintro e W' ⟨rfl,hc,p,a0,B,s⟩;show wpListIn (Fence.wide.inRound r) 0 P ops Q rest (a.put o.dst _) W';rw [hd];exact ht p W' s _ W' ((hs.behK I q Y (g.lt k T w t).1 (g.lt k T W R).1 hc B (g.lt _ p W' s).2).put d _ Z)
theorem Yje{n m:Nat}{T:Nat->Prop}{J:Nat->(Nat->Prop)->World->Prop}{e:Exit}(D:e= .ret\/e= .normal)(F:fn.results=#[])(c:lk H 91=some (fxs ds))(s:lk H 0=some (kO n M W))(g:lk H 93=some (kT M T W))(j:StK n J)(t:J m T W):XG N sc ds e (Yi9 P fn m J) env H:=λa w hs=>by
 have B:(ap ds a).defers=ds.map mrk:=by simp [ap,hs.defers]
 have l:LeavesInM Fence.wide 0 P fn a.tmps (λe q=>(∃v,e= .returned v)/\∃T,J m T q) (ap ds a).defers .returning w:=by
  rw [B];refine Zhc ds w (hs.hold 91 _ c) λq G R V Y Z=>?_;refine⟨_,Zrx F,⟨_,rfl⟩,T,j.stay m T w q (j.stay m T W w t (hs.sinceK s g)) ⟨R,V,Y,Z,λb hb I=>G b λk=>I ⟨?_,?_⟩⟩⟩
  .have y:=hs.sep 91 0 _ _ O3 c s rfl b k;have z:=hs.sep 91 93 _ _ O3 c g rfl b k;rcases aX b n with h|h
   .exact(y ⟨by have:=(j.lt m T W t).1;omega,λp=>p.elim (λp=>O) (λp=>z (.inl p))⟩).elim
   .exact h
  .exact λh=>hs.sep 91 93 _ _ O3 c g rfl b k (.inr h)
 rcases D with rfl|rfl
 .exact l
 .exact l
theorem eg_rfs {ds:List Nat} {g:Operand}  {ps:List Nat}    {α G:Type} {xs:List α} {ys:α->G->List Value} {I:α->G->List Pc}
  {GG GX:Type} (HH:Nat->GG->Hp) (b5:Nat->GG->Prop) (HX:GX->Hp) (b6:GX->Prop) (c3:GG)
  (hg:ev env g=some (.func (.func gf) #[] lbv.toArray)) (eg:∀args w,(callFunc gf args).run P w= .ok (.enter gf args) w) (hc:Zun P gf lbv pre xs ys I)
  (hp:∀p∈pre,p.own=false/\∃i,lk H i=some p) (h0:∀x R,(ys x R).length=ps.length) (g9:(ps.all λp=>Nat.blt p N)=true)
  (hw:∀b,sc b)
  (d1:b5 0 c3) (a9:HSub (HH 0 c3) H) (hk:∀k y,(∃q,lk (HH k y) 0=some q/\q.own=false)/\lk (HH k y) 92=none) (e9:∀k y,lk (HH k y) 91=some (fxs ds)) (g5:∀Z,(∃q,lk (HX Z) 0=some q/\q.own=false)/\lk (HX Z) 92=none) (d3:∀Z,lk (HX Z) 91=some (fxs ds))
  (b8:∀k x R y,xs[k]? = some x->b5 k y->∀l Mf Wa a W,Sat N sc (renv ps (ys x R) env) ((92,Zt Wa Mf)::adds 100 (I x R) (HH k y)) a W->
   assign.wpIn (Fence.wide.inRound l) 0 P (RAn 92 P N sc l Mf (adds 100 (I x R) (HH k y)) body (HH (k+1)) (b5 (k+1)) HX b6 Wa) a W)
  (hD:∀y D,b5 xs.length y->XG N sc (D::ds) .normal Q env ((91,fxs (D::ds))::HH xs.length y))
  (hX:∀Z D,b6 Z->XG N sc (D::ds) .ret Q env ((91,fxs (D::ds))::HX Z)) :
  EG P N sc ds (.rangeFunc g ps.toArray assign body) Q env H:=λa w hs=>by
 have Y:∀i p,lk H i=some p->∀b,p.fp b->b<w.heap.size:=λi p hi b B=>p.lt w b (hs.hold i p hi) B;refine(wpIn_wide (n:=0)).1 (wpIn_rangeFunc ?_);have e8:∀(Hn:Hp),lk Hn 91=some (fxs ds)->∀W:World,Kps sc w (w.heap.size+2) (Es (w.heap.size+2) H) Hn W->W.heap[w.heap.size]? = some (.deferred (some []))->Sat N sc env ((91,fxs (w.heap.size::ds))::Hn) { tmps:=a.tmps,defers:=[] } W:=λHn f4 W p3 V=>by
  have c5:¬Es (w.heap.size+2) H w.heap.size:=λh=>by
   rcases h with⟨i,q,hq,_,hf⟩|h
   .have:=Y i q hq _ hf;omega
   .omega
  exact Zvp (p3.sat (a:={ tmps:=a.tmps,defers:=[] }) hs.size rfl hs.env) f4 V (λi q hq hf=>by
   cases a8:q.own with
   | true=>exact c5 (p3.mf i q hq a8 _ hf)
   | false=>rcases p3.off i q hq a8 _ hf with h|h<;>omega) (hw _)
 intro d8 g3;obtain⟨c,m⟩:∃c:LoopState->Option Code->Loop,c=λst pe=>{ state:=st,pending:=pe,fn:=d8,tmps:=a.tmps,params:=ps.toArray,assign:=assign,body:=body,defers:=w.heap.size }:=⟨_,rfl⟩;obtain⟨W1,b1⟩:∃W1,(w.alloc (.deferred (some []))).alloc (.loop (c .ready none))=W1:=⟨_,rfl⟩;have f9:W1.heap[w.heap.size+1]? = some (.loop (c .ready none)):=by rw [<-b1];have:=World.alloc_heap_new (w.alloc (.deferred (some []))) (.loop (c .ready none));rwa [World.size_alloc]at this
 have f8:W1.heap[w.heap.size]? = some (.deferred (some [])):=by rw [<-b1];exact(Below.heap_alloc _ _ _ O8).trans (World.alloc_heap_new w _)
 have e5:Below w.heap.size w W1:=by rw [<-b1];exact((Below.refl _ w).alloc (aJ _) _).alloc O8 _
 have i2:W1.heap.size=w.heap.size+2:=by rw [<-b1];simp
 have e0:(#[.func (.yield (w.heap.size+1)) #[] #[]] ++ lbv.toArray:Array Value)=(Value.func (.yield (w.heap.size+1)) #[] #[]::lbv).toArray:=O8;refine⟨w.heap.size+1,[{ target:= .collected w.heap.size,args:=#[] }],W1,{ target:= .fn (.func gf) lbv.toArray,args:=#[.func (.yield (w.heap.size+1)) #[] #[]] },W1,gf,
  (Value.func (.yield (w.heap.size+1)) #[] #[]::lbv).toArray,W1,?_,?_,λ_ _=>trivial,?_,λh=>(by cases h),?_⟩
 .rw [<-b1,m];exact run_enterLoop_outer _ _ _ _ _
 .simp only [resolve,Zlh (ds:=ds) hs hg];simp [go_sem]
 .simp [invoke,go_sem,eg]
 have b4:∀(Hn:Hp) (r:Loop),Zef λW=>W.heap[w.heap.size+1]? = some (.loop r)/\W.heap[w.heap.size]? = some (.deferred (some []))/\W1.heap.size<=W.heap.size/\Kps sc w (w.heap.size+2) (Es (w.heap.size+2) H) Hn W:=λHn r W W' ⟨h1,h2,h3,h4⟩ hB=>
  ⟨(hB.block _ (aO.1 h1).1).trans h1,(hB.block _ (aO.1 h2).1).trans h2,aB h3 hB.size,h4.stays hB⟩
 have g7:¬Es (w.heap.size+2) H (w.heap.size+1):=λh=>by
  rcases h with⟨i,q,hq,_,hf⟩|h
  .have:=Y i q hq _ hf;omega
  .omega
 have c5:¬Es (w.heap.size+2) H w.heap.size:=λh=>by
  rcases h with⟨i,q,hq,_,hf⟩|h
  .have:=Y i q hq _ hf;omega
  .omega
 have i1:∀(Hn:Hp) (W:World),Kps sc w (w.heap.size+2) (Es (w.heap.size+2) H) Hn W->∀(o:Obj),Kps sc w (w.heap.size+2) (Es (w.heap.size+2) H) Hn (W.putObj w.heap.size o):=λHn W h o=>h.put Y ⟨aJ _,O⟩;have b7:∀(Hn:Hp) (W:World),Kps sc w (w.heap.size+2) (Es (w.heap.size+2) H) Hn W->∀(o:Obj),Kps sc w (w.heap.size+2) (Es (w.heap.size+2) H) Hn (W.putObj (w.heap.size+1) o):=λHn W h o=>h.put Y ⟨O,O⟩;refine callsIn_wide.2 ((hc (w.heap.size+1) (λb=>(∃i q,lk H i=some q/\q.own=true/\q.fp b)\/b=w.heap.size+1)
  (λk W=>∃y,b5 k y/\(W.heap[w.heap.size+1]? = some (.loop (c .ready none))/\W.heap[w.heap.size]? = some (.deferred (some []))/\W1.heap.size<=W.heap.size/\Kps sc w (w.heap.size+2) (Es (w.heap.size+2) H) (HH k y) W))
  (λW=>∃Z,b6 Z/\(W.heap[w.heap.size+1]? = some (.loop (c .done (some .ret)))/\W.heap[w.heap.size]? = some (.deferred (some []))/\W1.heap.size<=W.heap.size/\Kps sc w (w.heap.size+2) (Es (w.heap.size+2) H) (HX Z) W)) W1
  ?_ ?_ ?_ ?_ ?_ ?_).mono ?_)
 .intro p F;obtain⟨ho,i,hi⟩:=hp p F;exact p.stable _ _ (hs.hold i p hi) (Chg.of_below e5)
 .rintro p F b B (⟨i,q,hq,a8,h5⟩|rfl)
  .obtain⟨ho,j,hj⟩:=hp p F;exact hs.sep i j q p (λe=>by subst e;rw [hq]at hj;cases hj;rw [ho]at a8;cases a8) hq hj a8 b h5 B
  .obtain⟨ho,j,hj⟩:=hp p F;have:=Y j p hj _ B;omega
 .rintro k W W' ⟨y,c9,h⟩ hB;exact⟨y,c9,b4 _ _ W W' h hB⟩
 .rintro W W' ⟨Z,c9,h⟩ hB;exact⟨Z,c9,b4 _ _ W W' h hB⟩
 .refine⟨c3,d1,f9,f8,aJ _,λi it hi=>it.stable _ _ (hs.hold i it (a9.lk i it hi)) (Chg.of_below e5),λi j it jt d5 hi hj=>hs.sep i j it jt d5 (a9.lk i it hi) (a9.lk j jt hj),
   λi it d1 hi=>hs.scope i it d1 (a9.lk i it hi),λi it hi _ b B=> .inl (Y i it (a9.lk i it hi) b B),λi it hi ho b B=> .inl ⟨i,it,a9.lk i it hi,ho,B⟩⟩
 .rintro k x R hx W Wa ⟨y,a0,hl,hd,f3,a7⟩ i3 hB a2;have f1:Wa.heap[w.heap.size+1]? = some (.loop (c .ready none)):=(hB.block _ O).trans hl;have g1:Wa.heap[w.heap.size]? = some (.deferred (some [])):=(hB.block _ O).trans hd;have hy:=run_yield (P:=P) (args:=(ys x R).toArray) f1 (by rw [m];simp [h0]);have d2:∀p∈I x R,∀b,p.fp b->w.heap.size+2<=b:=λp hp b B=>by have:=(a2 p hp).2.2 b B;omega
  have s1:Sat N sc env (HH k y) { tmps:=a.tmps,defers:=[] } Wa:=(a7.stays hB).sat hs.size rfl hs.env;have s2:Sat N sc env (adds 100 (I x R) (HH k y)) { tmps:=a.tmps,defers:=[] } Wa:=s1.adds (w1:=Wa) _ _ λp F=>⟨(a2 p F).1,(a2 p F).2.1,λb B=>hw b,λj jt hj ho b B b2=>by have h1:=(a2 p F).2.2 b B;have h2:=jt.lt W b (a7.hold j jt hj) b2;omega⟩
  have b9:∀j q,lk (adds 100 (I x R) (HH k y)) j=some q->(q∈I x R)\/lk (HH k y) j=some q:=λj q h=>Zf1 _ _ _ j q h;have F:∀j q,lk (adds 100 (I x R) (HH k y)) j=some q->∀b,q.fp b->q.own=true->Es (w.heap.size+2) H b:=λj q hj b B ho=>by
   rcases b9 j q hj with h|h
   .rw [(a2 q h).2.1]at ho;cases ho
   .exact a7.mf j q h ho b B
  have c2:∀j q,lk (adds 100 (I x R) (HH k y)) j=some q->∀b,q.fp b->q.own=false->b<w.heap.size\/w.heap.size+2<=b:=λj q hj b B ho=>by
   rcases b9 j q hj with h|h
   .exact .inr (d2 q h b B)
   .exact a7.off j q h ho b B
  have s3:=s2.rounds ps (ys x R) g9;have s4:Sat N sc (renv ps (ys x R) env) ((92,Zt Wa (Bz sc (w.heap.size+2) H))::adds 100 (I x R) (HH k y)) _ Wa:=s3.add 92 (Zt Wa (Bz sc (w.heap.size+2) H)) (Chg.refl _ _) (λj jt d5 hj Lf b B b2=>by
   rcases Lf with h|h
   .cases h
   .exact B.2 (.inl (F j jt hj b b2 h))) (λb B=>cN.1 λhn=>B.2 (.inr hn))
  have d4:¬Bz sc (w.heap.size+2) H (w.heap.size+1):=λh=>h.elim g7 (λhn=>hn (hw _));have e1:¬Bz sc (w.heap.size+2) H w.heap.size:=λh=>h.elim c5 (λhn=>hn (hw _));rw [m]at hy;refine⟨d8,_,assign,body,hy,roundIn_of_wpIn g3 ?_⟩;have hr:=b8 k x R y hx a0 (w.heap.size+1) (Bz sc (w.heap.size+2) H) Wa _ Wa s4;have e3:(ps.toArray.zip (ys x R).toArray).foldl (λt (p,v)=>t.setIfInBounds p v) a.tmps=(ps.zip (ys x R)).foldl (λt pv=>t.setIfInBounds pv.1 pv.2) a.tmps:=O8;have f2:w.heap.size+2<=Wa.heap.size:=by have:=hB.size;omega
  have g4:∀(Hn:Hp),((∃q,lk Hn 0=some q/\q.own=false)/\lk Hn 92=none)->∀q,lk Hn 0=some q->q.own=false:=λHn h q hq=>by obtain⟨q',h1,h2⟩:=h.1;rw [h1]at hq;cases hq;exact h2
  rw [show(ps.toArray.zip (ys x R).toArray).foldl (λt (x:Nat×Value)=>t.setIfInBounds x.1 x.2) a.tmps=(ps.zip (ys x R)).foldl (λt pv=>t.setIfInBounds pv.1 pv.2) a.tmps from e3];refine wpIn_mono hr ?_;rintro e a1 W2 ⟨rfl,d7,H1,f5,e2,f6,a4,c8⟩;have a5:Chg (Bz sc (w.heap.size+2) H) Wa W2:=a4.hold 92 _ (Zm _ _ _);have g6:W2.heap[w.heap.size+1]? = some (.loop (c .ready none)):=(a5.block _ O d4).trans f1;have g2:W2.heap[w.heap.size]? = some (.deferred (some [])):=(a5.block _ O e1).trans g1;have p1:=a4.ps f5 O3 e2 f2 f6 F c2 Y;have h8:Wa.heap.size<=W2.heap.size:=a5.size;obtain⟨s,z⟩:∃s,W2.putObj (w.heap.size+1) (.loop { c .ready none with state:= .busy })=s:=⟨_,rfl⟩;have h7:Sat N sc d7 ((92,Zt s (Bz sc (w.heap.size+2) H))::H1) a1 s:=by
   have p2:=b7 _ _ p1 (.loop { c .ready none with state:= .busy });rw [z]at p2;refine(p2.sat a4.size a4.defers a4.env).add 92 (Zt s (Bz sc (w.heap.size+2) H)) (Chg.refl _ _) (λj jt d5 hj Lf b B b2=>?_) (λb B=>cN.1 λhn=>B.2 (.inr hn));rcases Lf with h|h
   .cases h
   .exact B.2 (.inl (p2.mf j jt hj h b b2))
  have h6:W2.heap.size=s.heap.size:=by rw [<-z];simp
  have c1:s.heap[w.heap.size+1]? = some (.loop { c .ready none with state:= .busy }):=by rw [<-z];exact World.putObj_heap_same O
  have e7:s.heap[w.heap.size]? = some (.deferred (some [])):=by rw [<-z];exact(World.putObj_heap_other O).trans g2
  refine⟨s,by rw [<-z];exact run_beginRound g6 (by rw [m]),wpIn_mono (c8 s ⟨⟨_,c1⟩,d4⟩ a1 s h7) ?_⟩;have c0:∀(Hn:Hp) (env':Qj) (a3:Act) (W3:World),((∃q,lk Hn 0=some q/\q.own=false)/\lk Hn 92=none)->FpM Hn (adds 100 (I x R) (HH k y))->Sat N sc env' ((92,Zt s (Bz sc (w.heap.size+2) H))::Hn) a3 W3->∀(r:Loop),
    W3.heap[w.heap.size+1]? = some (.loop { c .ready none with state:= .busy })/\(((W3.putObj (w.heap.size+1) (.loop r)).heap[w.heap.size+1]? = some (.loop r)/\(W3.putObj (w.heap.size+1) (.loop r)).heap[w.heap.size]? = some (.deferred (some []))/\
     W1.heap.size<=(W3.putObj (w.heap.size+1) (.loop r)).heap.size/\Kps sc w (w.heap.size+2) (Es (w.heap.size+2) H) Hn (W3.putObj (w.heap.size+1) (.loop r)))/\
     Chg (λb=>((∃i q,lk H i=some q/\q.own=true/\q.fp b)\/b=w.heap.size+1)\/W1.heap.size<=b) Wa (W3.putObj (w.heap.size+1) (.loop r))):=by
   intro Hn env' a3 W3 f0 f7 b0 r;have a6:Chg (Bz sc (w.heap.size+2) H) s W3:=b0.hold 92 _ (Zm _ _ _);have b3:=(a6.block _ O d4).trans c1;have V:=(a6.block _ O e1).trans e7;have i0:=a6.size;have p3:=b0.ps f0.2 O3 (g4 Hn f0) O f7 F c2 Y;refine⟨b3,⟨World.putObj_heap_same O,(World.putObj_heap_other O).trans V,O9,b7 _ _ p3 _⟩,?_⟩;refine⟨?_,?_,?_,O9,λb B hn=>?_⟩
   .exact a6.os.trans ((by rw [<-z];rfl:s.os=W2.os).trans a5.os)
   .exact a6.tape.trans ((by rw [<-z];rfl:s.tape=W2.tape).trans a5.tape)
   .exact a6.output.trans ((by rw [<-z];rfl:s.output=W2.output).trans a5.output)
   .have e6:b≠w.heap.size+1:=λe=>hn (.inl (.inr e));have g0:¬Es (w.heap.size+2) H b:=λh=>by
     rcases h with h|h
     .exact hn (.inl (.inl h))
     .exact hn (.inr O)
    refine(World.putObj_heap_other e6).trans ?_;have e4:¬Bz sc (w.heap.size+2) H b:=λh=>h.elim g0 (λh=>h (hw b));refine(a6.block b O e4).trans ?_;have:s.heap[b]? = W2.heap[b]?:=by rw [<-z];exact World.putObj_heap_other e6
    exact this.trans (a5.block b B e4)
  rintro e a3 W3 (⟨rfl,d9,d0,c6,env',b0⟩|⟨rfl,Z,d0,c6,env',b0⟩)
  .obtain⟨b3,c7,c4⟩:=c0 _ env' a3 W3 (hk (k+1) d9) c6 b0 (c .ready none);have:=run_endRound (P:=P) none b3;rw [show({ ({ c .ready none with state:= .busy } : Loop)with state:=if(none:Option Code).isNone then LoopState.ready else .done,pending:=none } : Loop)=c .ready none by rw [m];rfl]at this;exact⟨_,_,this,.inl ⟨rfl,⟨d9,d0,c7⟩,c4⟩⟩
  .obtain⟨b3,c7,c4⟩:=c0 _ env' a3 W3 (g5 Z) c6 b0 (c .done (some .ret));have:=run_endRound (P:=P) (some .ret) b3;rw [show({ ({ c .ready none with state:= .busy } : Loop)with state:=if(some Code.ret).isNone then LoopState.ready else .done,pending:=some .ret } : Loop)=c .done (some .ret) by rw [m];rfl]at this;exact⟨_,_,this,.inr ⟨rfl,⟨Z,d0,c7⟩,c4⟩⟩
 .rintro e W2 ⟨⟨v,rfl⟩,⟨y,a0,hl,hd,f3,d6⟩|⟨Z,a0,hl,hd,f3,d6⟩⟩
  .refine⟨none,_,by have:=run_endLoop (P:=P) hl (by rw [m];simp);rw [m]at this;exact this,?_⟩;have p3:=b7 _ _ d6 (.loop (c .exhausted none));have V:(W2.putObj (w.heap.size+1) (.loop (c .exhausted none))).heap[w.heap.size]? = some (.deferred (some [])):=(World.putObj_heap_other O).trans hd;rw [m]at p3 V;have h9:=hD y w.heap.size a0 _ _ (e8 _ (e9 _ y) _ p3 V);simpa [ap,hs.defers]using h9
  .refine⟨some .ret,_,by have:=run_endLoop (P:=P) hl (by rw [m];simp);rw [m]at this;exact this,wpIn_ret ?_⟩;have p3:=b7 _ _ d6 (.loop { c .done (some .ret)with state:= .exhausted });have V:(W2.putObj (w.heap.size+1) (.loop { c .done (some .ret)with state:= .exhausted })).heap[w.heap.size]? = some (.deferred (some [])):=(World.putObj_heap_other O).trans hd;rw [m]at p3 V;have h9:=hX Z w.heap.size a0 _ _ (e8 _ (d3 Z) _ p3 V);simpa [ap,hs.defers]using h9
structure Kpt (sc:Nat->Prop) (w:World) (H:Hp) (T:Nat->Prop) (Hn:Hp) (W:World):Prop where
 hold:∀i it,lk Hn i=some it->it.holds W
 sep:∀i j it jt,i≠j->lk Hn i=some it->lk Hn j=some jt->it.own=true->∀b,it.fp b->jt.fp b->False
 scope:∀i it,i≠0->lk Hn i=some it->∀b,it.fp b->sc b
 off:∀i it,lk Hn i=some it->∀b,it.fp b->b<w.heap.size\/T b
 mf:∀i it,lk Hn i=some it->it.own=true->∀b,it.fp b->(∃i q,lk H i=some q/\q.own=true/\q.fp b)\/T b
theorem Kpt.chg{T:Nat->Prop}(h:Kpt sc w H T Hn W)(c:Chg (λb=>w.heap.size<=b/\¬T b) W W'):Kpt sc w H T Hn W':=
 ⟨λi e hi=>e.stable _ _ (h.hold i e hi) ⟨c.os,c.tape,c.output,c.size,λk j l=>c.block k j (λg=>by
  rcases h.off i e hi k (cN.1 l)with h|h
  .omega
  .exact g.2 h)⟩,h.sep,h.scope,h.off,h.mf⟩
def Kpt.sat{T:Nat->Prop}(h:Kpt sc w H T Hn W)(b:a.tmps.size=N)(c:a.defers=[])(e:∀t v,lk env t=some v->a.tmps.getD t undef=v):Sat N sc env Hn a W:=⟨b,c,e,h.hold,h.sep,h.scope⟩
def RBk(N:Nat)(sc:Nat->Prop)(Mf S:Nat->Prop){c:Type}(j:c->Hp)(b:c->Prop)(g:World):Exit->Act->World->Prop:=λe a W=>
 e= .normal/\∃h,b h/\∃env',Sat N sc env' ((92,Zt g Mf)::(94,kp g S)::j h) a W
def RAk(P:Program)(N:Nat)(sc:Nat->Prop)(l:Nat)(Mf S:Nat->Prop)(body:Code){j:Type}(m:j->Hp)(h:j->Prop)(k:World):Exit->Act->World->Prop:=λe a W=>
 e= .normal/\∃b c,lk c 92=none/\lk c 94=none/\Sat N sc b ((92,Zt k Mf)::(94,kp k S)::c) a W/\
  ∀g,∀a W,Sat N sc b ((92,Zt g Mf)::(94,kp g S)::c) a W->body.wpIn (Fence.wide.inRound l) 0 P (RBk N sc Mf S m h g) a W
theorem Zkx{p q:Pc}(h:lk ((92,p)::(94,q)::H) i=some u):(i=92/\u=p)\/(i=94/\u=q)\/(i≠92/\i≠94/\lk H i=some u):=by
 rcases lk92 h with h|⟨c,h⟩
 .exact .inl h
 .by_cases b:94=i
  .subst b;rw [Zm]at h;cases h;exact .inr (.inl ⟨rfl,rfl⟩)
  .rw [Zh b]at h;exact .inr (.inr ⟨c,λe=>b e.symm,h⟩)
theorem Zdp{p q:Pc}(j:lk H 92=none)(g:lk H 94=none)(h:lk H i=some u):i≠92/\i≠94/\lk ((92,p)::(94,q)::H) i=some u:=by
 have b:i≠92:=λe=>by subst e;rw [j]at h;cases h
 have c:i≠94:=λe=>by subst e;rw [g]at h;cases h
 exact⟨b,c,by rw [Zh (λe=>b e.symm),Zh (λe=>c e.symm)];exact h⟩
theorem eg_rfk {g:Operand}  {ps:List Nat}    {α:Type} {xs:List α} {ys:α->List Value} {w0:World}
  {GG:Type} (HH:Nat->GG->Hp) (b7:Nat->GG->Prop) (c4:GG)
  (hg:ev env g=some (.func (.func gf) #[] lbv.toArray)) (eg:∀args w,(callFunc gf args).run P w= .ok (.enter gf args) w) (hc:CalK P gf lbv pre xs ys)
  (hp:∀p∈pre,p.own=false/\∃i,lk H i=some p) (g4:∀x,(ys x).length=ps.length) (g3:(ps.all λp=>Nat.blt p N)=true)
  (hw:∀b,w0.heap.size<=b->sc b) (h0:lk H 0=some (Zt w0 (λ_=>False)))
  (Z:b7 0 c4) (b0:HSub (HH 0 c4) H) (hk:∀k R,Zbp (HH k R) w0) (e8:∀k R,lk (HH k R) 94=none) (e7:∀k R,lk (HH k R) 91=some (fxs ds))
  (c1:∀k x R,xs[k]? = some x->b7 k R->∀l Mf S F a W,Sat N sc (renv ps (ys x) env) ((92,Zt F Mf)::(94,kp F S)::HH k R) a W->
   assign.wpIn (Fence.wide.inRound l) 0 P (RAk P N sc l Mf S body (HH (k+1)) (b7 (k+1)) F) a W)
  (hD:∀R D,b7 xs.length R->XG N sc (D::ds) .normal Q env ((91,fxs (D::ds))::HH xs.length R)) :
  EG P N sc ds (.rangeFunc g ps.toArray assign body) Q env H:=λa w hs=>by
 have d3:∀i p,lk H i=some p->∀b,p.fp b->b<w.heap.size:=λi p hi b c=>p.lt w b (hs.hold i p hi) c;have g7:w0.heap.size<=w.heap.size:=(hs.hold 0 _ h0).size;refine(wpIn_wide (n:=0)).1 (wpIn_rangeFunc ?_);intro d7 f8;obtain⟨B,I⟩:∃B:LoopState->Option Code->Loop,B=λst pe=>{ state:=st,pending:=pe,fn:=d7,tmps:=a.tmps,params:=ps.toArray,assign:=assign,body:=body,defers:=w.heap.size }:=⟨_,rfl⟩;obtain⟨W1,b2⟩:∃W1,(w.alloc (.deferred (some []))).alloc (.loop (B .ready none))=W1:=⟨_,rfl⟩;have f3:W1.heap[w.heap.size+1]? = some (.loop (B .ready none)):=by rw [<-b2];have:=World.alloc_heap_new (w.alloc (.deferred (some []))) (.loop (B .ready none));rwa [World.size_alloc]at this
 have f2:W1.heap[w.heap.size]? = some (.deferred (some [])):=by rw [<-b2];exact(Below.heap_alloc _ _ _ O8).trans (World.alloc_heap_new w _)
 have e5:Below w.heap.size w W1:=by rw [<-b2];exact((Below.refl _ w).alloc (aJ _) _).alloc O8 _
 have i1:W1.heap.size=w.heap.size+2:=by rw [<-b2];simp
 have e0:(#[.func (.yield (w.heap.size+1)) #[] #[]] ++ lbv.toArray:Array Value)=(Value.func (.yield (w.heap.size+1)) #[] #[]::lbv).toArray:=O8;refine⟨w.heap.size+1,[{ target:= .collected w.heap.size,args:=#[] }],W1,{ target:= .fn (.func gf) lbv.toArray,args:=#[.func (.yield (w.heap.size+1)) #[] #[]] },W1,gf,
  (Value.func (.yield (w.heap.size+1)) #[] #[]::lbv).toArray,W1,?_,?_,λ_ _=>trivial,?_,λh=>(by cases h),?_⟩
 .rw [<-b2,I];exact run_enterLoop_outer _ _ _ _ _
 .simp only [resolve,Zlh (ds:=ds) hs hg];simp [go_sem]
 .simp [invoke,go_sem,eg]
 have e3:∀x,(ps.toArray.zip (ys x).toArray).foldl (λt (p,v)=>t.setIfInBounds p v) a.tmps=(ps.zip (ys x)).foldl (λt pv=>t.setIfInBounds pv.1 pv.2) a.tmps:=λx=>O8;have c3:∀(T:Nat->Prop) (Hn:Hp) (W:World) (d:Nat) (o:Obj),(∀b,T b->w.heap.size+2<=b)->w.heap.size<=d->d<w.heap.size+2->Kpt sc w H T Hn W->Kpt sc w H T Hn (W.putObj d o):=λT Hn W d o hT h1 h2 h=>
  h.chg ⟨rfl,rfl,rfl,O8,λk hk hn=>World.putObj_heap_other (λe=>hn ⟨O,λf6=>by have:=hT k f6;omega⟩)⟩
 refine callsIn_wide.2 ((hc (w.heap.size+1) (λb=>(∃i q,lk H i=some q/\q.own=true/\q.fp b)\/b=w.heap.size+1)
  (λk T W=>∃R,b7 k R/\(W.heap[w.heap.size+1]? = some (.loop (B .ready none))/\W.heap[w.heap.size]? = some (.deferred (some []))/\W1.heap.size<=W.heap.size/\(∀b,T b->W1.heap.size<=b/\b<W.heap.size)/\Kpt sc w H T (HH k R) W)) W1
  ?_ ?_ ?_ ?_ ?_ ?_).mono ?_)
 .intro p c0;obtain⟨ho,i,hi⟩:=hp p c0;exact p.stable _ _ (hs.hold i p hi) (Chg.of_below e5)
 .rintro p c0 b c (⟨i,q,hq,d5,d4⟩|rfl)
  .obtain⟨ho,j,hj⟩:=hp p c0;exact hs.sep i j q p (λe=>by subst e;rw [hq]at hj;cases hj;rw [ho]at d5;cases d5) hq hj d5 b d4 c
  .obtain⟨ho,j,hj⟩:=hp p c0;have:=d3 j p hj _ c;omega
 .rintro b (⟨i,q,hq,-,d4⟩|rfl)
  .have:=d3 i q hq b d4;omega
  .omega
 .refine⟨?_,?_⟩
  .rintro k T W W' ⟨R,e6,h1,h2,h3,h4,h5⟩ hC;refine⟨R,e6,(hC.block _ (aO.1 h1).1 (λh=>O)).trans h1,(hC.block _ (aO.1 h2).1 (λh=>O)).trans h2,aB h3 hC.size,λb c=>⟨(h4 b c).1,cY (h4 b c).2 hC.size⟩,h5.chg ⟨hC.os,hC.tape,hC.output,hC.size,λb c hn=>hC.block b c (λh=>hn ⟨O,h.2⟩)⟩⟩
  .rintro k T W ⟨R,e6,h1,h2,h3,h4,h5⟩;exact⟨h3,h4⟩
 .refine⟨c4,Z,f3,f2,aJ _,λb c=>c.elim,λi m hi=>m.stable _ _ (hs.hold i m (b0.lk i m hi)) (Chg.of_below e5),λi j m jt a0 hi hj=>hs.sep i j m jt a0 (b0.lk i m hi) (b0.lk j jt hj),
   λi m Z hi=>hs.scope i m Z (b0.lk i m hi),λi m hi b c=> .inl (d3 i m (b0.lk i m hi) b c),λi m hi ho b c=> .inl ⟨i,m,b0.lk i m hi,ho,c⟩⟩
 .rintro k x T F hx ⟨R,b6,hl,hd,g5,hT,a8⟩;have hy:=run_yield (P:=P) (args:=(ys x).toArray) hl (by rw [I];simp [g4]);have a9:∀b,T b->w.heap.size+2<=b:=λb c=>by have:=(hT b c).1;omega
  obtain⟨S,hS⟩:∃S:Nat->Prop,S=λb=>w.heap.size<=b/\b<F.heap.size/\¬T b:=⟨_,rfl⟩;obtain⟨Mf,f4⟩:∃Mf:Nat->Prop,Mf=Bz sc w.heap.size H:=⟨_,rfl⟩;have G:∀b,Mf b↔((∃i q,lk H i=some q/\q.own=true/\q.fp b)\/w.heap.size<=b)\/¬sc b:=λb=>by rw [f4];exact oP
  have V:∀b,S b↔(w.heap.size<=b/\b<F.heap.size/\¬T b):=λb=>by rw [hS]
  have d2:S (w.heap.size+1):=(V _).2 ⟨O,O,λh=>by have:=a9 _ h;omega⟩;have d9:S w.heap.size:=(V _).2 ⟨O,O,λh=>by have:=a9 _ h;omega⟩;have s1:Sat N sc env (HH k R) { tmps:=a.tmps,defers:=[] } F:=a8.sat hs.size rfl hs.env;have s3:=s1.rounds ps (ys x) g3;have h6:=s3.add 94 (kp F S) ⟨λb c=>((V b).1 c).2.1,λ_ _=>rfl⟩ (λj jt a0 hj Lf b c Y=>by
   have h1:=(V b).1 c;rcases a8.off j jt hj b Y with h|h
   .omega
   .exact h1.2.2 h) (λb c=>hw b (by have:=((V b).1 c).1;omega))
  have s4:=h6.add 92 (Zt F Mf) (Chg.refl _ _) (λj jt a0 hj Lf b c Y=>by
   rcases Lf with h|h
   .cases h
   .refine c.2 ((G b).2 ?_);by_cases a5:94=j
    .subst a5;rw [Zm]at hj;cases hj;exact .inl (.inr ((V b).1 Y).1)
    .rw [Zh a5]at hj;rcases a8.mf j jt hj h b Y with h|h
     .exact .inl (.inl h)
     .exact .inl (.inr (by have:=a9 b h;omega))) (λb c=>cN.1 λhn=>c.2 ((G b).2 (.inr hn)))
  rw [I]at hy;refine⟨d7,_,assign,body,hy,roundIn_of_wpIn f8 ?_⟩;have hr:=c1 k x R hx b6 (w.heap.size+1) Mf S F _ F s4;rw [show(ps.toArray.zip (ys x).toArray).foldl (λt (x:Nat×Value)=>t.setIfInBounds x.1 x.2) a.tmps=(ps.zip (ys x)).foldl (λt pv=>t.setIfInBounds pv.1 pv.2) a.tmps from e3 x];refine wpIn_mono hr ?_;rintro e a1 W2 ⟨rfl,d6,H1,b1,a5,s,c7⟩;have b3:Chg Mf F W2:=s.hold 92 _ (Zm _ _ _);have b5:=s.hold 94 _ (by rw [Zh O3,Zm]);have g0:W2.heap[w.heap.size+1]? = some (.loop (B .ready none)):=(b5.2 _ d2).trans hl;have h7:F.heap.size<=W2.heap.size:=b3.size;obtain⟨y,z⟩:∃y,W2.putObj (w.heap.size+1) (.loop { B .ready none with state:= .busy })=y:=⟨_,rfl⟩;have g6:W2.heap.size=y.heap.size:=by rw [<-z];simp
  have e9:y.heap[w.heap.size+1]? = some (.loop { B .ready none with state:= .busy }):=by rw [<-z];exact World.putObj_heap_same O
  have a2:∀b,b≠w.heap.size+1->y.heap[b]? = W2.heap[b]?:=λb c=>by rw [<-z];exact World.putObj_heap_other c
  have g9:Sat N sc d6 ((92,Zt y Mf)::(94,kp y S)::H1) a1 y:=by
   have hh:∀i m,lk H1 i=some m->m.holds y:=λi m hi=>by obtain⟨h1,h2,h3⟩:=Zdp (p:=Zt F Mf) (q:=kp F S) b1 a5 hi;refine m.stable _ _ (s.hold i m h3) ⟨by rw [<-z];rfl,by rw [<-z];rfl,by rw [<-z];rfl,O,λb c hn=>a2 b (λe=>?_)⟩;subst e;exact s.sep 94 i _ m (λe=>h2 e.symm) (by rw [Zh O3,Zm]) h3 rfl _ d2 (cN.1 hn)
   refine⟨s.size,s.defers,s.env,λi p hi=>?_,λi j p q a0 hi hj ho b c Y=>?_,λi p Z hi b c=>?_⟩
   .rcases Zkx hi with⟨rfl,rfl⟩|⟨rfl,rfl⟩|⟨_,_,hi⟩
    .exact Chg.refl _ _
    .exact⟨λb c=>by have:=((V b).1 c).2.1;omega,λ_ _=>rfl⟩
    .exact hh i p hi
   .rcases Zkx hi with⟨rfl,rfl⟩|⟨rfl,rfl⟩|⟨h1,h2,c8⟩
    .cases ho
    .rcases Zkx hj with⟨rfl,rfl⟩|⟨rfl,rfl⟩|⟨h3,h4,d0⟩
     .exact Y.2 ((G b).2 (.inl (.inr ((V b).1 c).1)))
     .exact a0 rfl
     .exact s.sep 94 j (kp F S) q a0 (by rw [Zh O3,Zm]) (Zdp b1 a5 d0).2.2 rfl b c Y
    .have c9:=(Zdp (p:=Zt F Mf) (q:=kp F S) b1 a5 c8).2.2;rcases Zkx hj with⟨rfl,rfl⟩|⟨rfl,rfl⟩|⟨h3,h4,d0⟩
     .refine Y.2 (cN.1 λhn=>?_);rcases aX b F.heap.size with h|h
      .exact s.sep i 92 p _ h1 c9 (Zm _ _ _) ho b c ⟨h,hn⟩
      .exact hn ((G b).2 (.inl (.inr O)))
     .exact s.sep i 94 p (kp F S) h2 c9 (by rw [Zh O3,Zm]) ho b c Y
     .exact s.sep i j p q a0 c9 (Zdp b1 a5 d0).2.2 ho b c Y
   .rcases Zkx hi with⟨rfl,rfl⟩|⟨rfl,rfl⟩|⟨h1,h2,c8⟩
    .exact cN.1 λhn=>c.2 ((G b).2 (.inr hn))
    .exact hw b (by have:=((V b).1 c).1;omega)
    .exact s.scope i p Z (Zdp (p:=Zt F Mf) (q:=kp F S) b1 a5 c8).2.2 b c
  have i0:¬Mf (w.heap.size+1)->False:=λh=>h ((G _).2 (.inl (.inr O)));refine⟨y,by rw [<-z];exact run_beginRound g0 (by rw [I]),wpIn_mono (c7 y a1 y g9) ?_⟩;rintro e a3 W3 ⟨rfl,a6,f9,env',a4⟩;have b4:Chg Mf y W3:=a4.hold 92 _ (Zm _ _ _);have a7:=a4.hold 94 _ (by rw [Zh O3,Zm]);have g1:W3.heap[w.heap.size+1]? = some (.loop { B .ready none with state:= .busy }):=(a7.2 _ d2).trans e9;have b9:W3.heap[w.heap.size]? = some (.deferred (some [])):=(a7.2 _ d9).trans ((a2 _ O).trans ((b5.2 _ d9).trans hd));have h8:=b4.size;have d1:=hk (k+1) a6;have d8:=e8 (k+1) a6;obtain⟨T',f5⟩:∃T':Nat->Prop,T'=λb=>T b\/(F.heap.size<=b/\b<W3.heap.size):=⟨_,rfl⟩;have b8:∀b,T' b↔(T b\/(F.heap.size<=b/\b<W3.heap.size)):=λb=>by rw [f5]
  have p3:Kpt sc w H T' (HH (k+1) a6) W3:=by
   have hl:∀i m,lk (HH (k+1) a6) i=some m->i≠92/\i≠94/\lk ((92,Zt y Mf)::(94,kp y S)::HH (k+1) a6) i=some m:=λi m hi=>Zdp d1.2 d8 hi;have c2:∀i m,lk (HH (k+1) a6) i=some m->∀b,m.fp b->b<w.heap.size\/T' b:=λi m hi b c=>by
    obtain⟨h1,h2,h3⟩:=hl i m hi;have h4:=a4.sep 94 i _ m (λe=>h2 e.symm) (by rw [Zh O3,Zm]) h3 rfl b;have h5:=m.lt W3 b (a4.hold i m h3) c;rcases aX b w.heap.size with h|h
    .exact .inl h
    .refine .inr ((b8 b).2 ?_);by_cases e2:T b
     .exact .inl e2
     .rcases aX b F.heap.size with h'|h'
      .exact(h4 ((V b).2 ⟨h,h',e2⟩) c).elim
      .exact .inr ⟨h',h5⟩
   refine⟨λi m hi=>a4.hold i m (hl i m hi).2.2,λi j m jt a0 hi hj=>a4.sep i j m jt a0 (hl i m hi).2.2 (hl j jt hj).2.2,λi m Z hi=>a4.scope i m Z (hl i m hi).2.2,c2,λi m hi ho b c=>?_⟩;obtain⟨h1,h2,h3⟩:=hl i m hi;have Z:i≠0:=λe=>by subst e;rw [d1.1]at hi;cases hi;cases ho
   have h4:=a4.sep i 92 m _ h1 h3 (Zm _ _ _) ho b c;rcases c2 i m hi b c with h|h
   .have hM:Mf b:=cN.1 λhn=>h4 ⟨O,hn⟩;rcases(G b).1 hM with(h'|h')|h'
    .exact .inl h'
    .omega
    .exact absurd (a4.scope i m Z h3 b c) h'
   .exact .inr h
  have c5:∀b,T' b->w.heap.size+2<=b/\b<W3.heap.size:=λb c=>by
   rcases(b8 b).1 c with h|h
   .have:=hT b h;exact⟨O,O⟩
   .exact⟨O,h.2⟩
  have:=run_endRound (P:=P) none g1;rw [show({ ({ B .ready none with state:= .busy } : Loop)with state:=if(none:Option Code).isNone then LoopState.ready else .done,pending:=none } : Loop)=B .ready none by rw [I];rfl]at this;refine⟨_,_,this,rfl,?_,T',λb c=>(b8 b).2 (.inl c),λb c=>((b8 b).1 c).imp id (λh=>h.1),a6,f9,World.putObj_heap_same O,(World.putObj_heap_other O).trans b9,O9,λb c=>⟨by have:=(c5 b c).1;omega,by simp;exact(c5 b c).2⟩,c3 T' _ W3 _ _ (λb c=>(c5 b c).1) O O p3⟩;have k0:(Zt w0 (λ_=>False)).holds F:=a8.hold 0 _ (hk k R).1;have k3:(Zt w0 (λ_=>False)).holds W3:=p3.hold 0 _ d1.1;refine⟨b4.os.trans ((by rw [<-z];rfl:y.os=W2.os).trans b3.os),b4.tape.trans ((by rw [<-z];rfl:y.tape=W2.tape).trans b3.tape),b4.output.trans ((by rw [<-z];rfl:y.output=W2.output).trans b3.output),O9,λb c hn=>?_⟩;have c6:b≠w.heap.size+1:=λe=>hn (.inl (.inr e));refine(World.putObj_heap_other c6).trans ?_;by_cases f7:w.heap.size<=b
  .have e1:S b:=(V b).2 ⟨f7,c,λh=>hn (.inr (.inl h))⟩;exact(a7.2 b e1).trans ((a2 b c6).trans (b5.2 b e1))
  .by_cases f1:sc b
   .have f0:¬Mf b:=λh=>by
     rcases(G b).1 h with(h|h)|h
     .exact hn (.inl (.inl h))
     .omega
     .exact h f1
    exact(b4.block b O f0).trans ((a2 b c6).trans (b3.block b c f0))
   .have e4:b<w0.heap.size:=by
     rcases aX b w0.heap.size with h|h
     .exact h
     .exact absurd (hw b h) f1
    exact(k3.block b e4 (λh=>h)).trans (k0.block b e4 (λh=>h)).symm
 .rintro e W2 ⟨⟨v,rfl⟩,T,R,b6,hl,hd,g5,hT,g2⟩;have a9:∀b,T b->w.heap.size+2<=b:=λb c=>by have:=(hT b c).1;omega
  refine⟨none,_,by have:=run_endLoop (P:=P) hl (by rw [I];simp);rw [I]at this;exact this,?_⟩;have p3:=c3 T _ W2 (w.heap.size+1) (.loop (B .exhausted none)) a9 O O g2;have b9:(W2.putObj (w.heap.size+1) (.loop (B .exhausted none))).heap[w.heap.size]? = some (.deferred (some [])):=(World.putObj_heap_other O).trans hd;rw [I]at p3 b9;have h9:=hD R w.heap.size b6 _ _ (Zvp (p3.sat (a:={ tmps:=a.tmps,defers:=[] }) hs.size rfl hs.env) (e7 _ R) b9 (λi q hq hf=>by
   rcases p3.off i q hq _ hf with h|h
   .omega
   .have:=a9 _ h;omega) (hw _ g7))
  simpa [ap,hs.defers]using h9
def Ycb{c:Type}{h:c->Hp}{b:c->Prop}{e:World}(g:c)(hi:b g)(j:HSub ((92,Zt e Mf)::(94,kp e S)::h g) H):X N sc .normal (RBk N sc Mf S h b e) env H:=
 λa w hs=>⟨rfl,g,hi,[],hs.weaken aA j⟩
def x_rak {l:Nat}   {k:Type} {m:k->Hp} {g:k->Prop} {h:World} (b:Qj) (c:Hp) (q:Sub b env) (s:HSub ((92,Zt h Mf)::(94,kp h S)::c) H) (n:lk c 92=none) (j:lk c 94=none)
  (p:∀e,ER P N sc l body (RBk N sc Mf S m g e) b ((92,Zt e Mf)::(94,kp e S)::c)):X N sc .normal (RAk P N sc l Mf S body m g h) env H:=
 λa w hs=>⟨rfl,b,c,n,j,hs.weaken q s,λe=>p e⟩
def JnG{G:Type}(N:Nat)(sc:Nat->Prop)(ds:List Nat)(cs:Qj)(e:Hp)(j:G->Qj)(h:G->Hp)(b:G->Prop):Act->World->Prop:=
 λa w=>∃g,b g/\∃c,a=ap ds c/\Sat N sc (j g ++ cs) (h g ++ e) c w
theorem eg_jn {x y:Code} {G:Type} (cs:Qj) (h:Hp) (l:G->Qj) (k:G->Hp) (c:G->Prop) (p:Sub cs env) (n:HSub h H)
  (s:EG P N sc ds x (Exit.then (JnG N sc ds cs h l k c) Q) env H)
  (t:∀g,c g->EG P N sc ds y Q (l g ++ cs) (k g ++ h)):EG P N sc ds (.seq x y) Q env H:=λa w hs=>by
 refine wp_seq (Code.wp_mono (λe a w j=>?_) (s a w hs));cases e with
 | normal=>obtain⟨g,q,m,rfl,b⟩:=j;exact t g q m w b
 | _=>exact j
def xg_jn{G:Type}{cs:Qj}{e:Hp}{j:G->Qj}{h:G->Hp}{c:G->Prop}{g:G}(k:c g)(hs:Sub (j g ++ cs) env)(l:HSub (h g ++ e) H) :
  XG N sc ds .normal (Exit.then (JnG N sc ds cs e j h c) Q) env H:=λa w b=>⟨g,k,a,rfl,b.weaken hs l⟩
def kO_fp{n:Nat}{b:Nat}(e:n<=W.heap.size)(h:(kO n M W').fp b):(kO n M W).fp b:=
 ⟨cY (Nat.lt_of_not_le λc=>h.2 (.inl c)) e,h.2⟩
end Go.Sky
namespace Go.Sky
variable{t:TypeId}{k i:Nat}{v:Value}{M:Nat->Prop}{o:Oper}{kd:IntKind}{xs:List Yj}{rs:List Lo}{b:Int×Int}
section
variable {P:Program} {N:Nat} {sc:Nat->Prop} {env:Qj} {H:Hp}
def rd_osu{α:Type}{e:TypeId}{enc:α->Value}{xs:List α}(a:Enc P t k enc)(n:Nat)(c:n<=xs.length):Rd (Ol k e enc v xs) k enc (Ad v n k) (xs.drop n):=λw h=>Zg4 n c (Yo a w h)
def OwV(v:Value)(n:Nat):Prop:=∃g c,v= .slice (some ⟨g,0,none⟩) n c/\n<=c
theorem Yjz{n m:Nat}(f:OwV v m)(j:n<m):ead (Ad v n k) i k=ead v (i+n) k:=by obtain⟨g,c,rfl,h⟩:=f;have e:c≠n:=O;by_cases a:i*k=0<;>by_cases d:n*k=0<;>simp [ead,Ad,e,Addr.add,bL,iA,a,d]
theorem f_osv{α:Type}{e:TypeId}{enc:α->Value}{xs:List α}(i:Nat)(hi:lk H i=some (Ol k e enc v xs))(n:0<xs.length):∀a w,Sat N sc env H a w->OwV v xs.length:=λa w hs=>by
 have c:w.ownsRow 0 e k v xs.length (cellsOf enc xs):=hs.hold i _ hi;rcases c.2 with⟨rfl,r⟩|⟨g,d,j,rfl,p,q,f,l,m,h⟩
 .omega
 .exact⟨g,d,rfl,f⟩
def t_evM{G:Type}{φ:G->Prop}{d:G->Qj}{e:G->Hp}(h:T P N sc (λ_=>True) o env H φ d e)(n:∀x,M x):T P N sc M o env H φ d e:=λa w hs K Q m=>
 h a w hs K Q λg f q j l c=>m g f q j l ⟨c.os,c.tape,c.output,c.size,λk r p=>absurd (n k) p⟩
theorem Znm (i:Nat)  {x y:Operand} {e:TypeId}  {n m:Nat}  {j:Int} (B:o.op= .indexAddr t x y) (F:ev env x=some (Ad v n k)) (G:ev env y=some (.int kd j)) (q:OwV v m) (z:n<m)
  (D:P.underlying t=some (.slice e)) (f:∀w,(sizeOf e).run P w= .ok k w) (d:j=(i:Int)) (u:i+n<m):Mt P N sc o env H (.pointer (some (ead v (i+n) k))):=λa w hs=>by
 have r:=Yjz (k:=k) (i:=i) q z;rw [<-r];obtain⟨g,c,rfl,h⟩:=q;have p:c≠n:=O;have s:i<m-n:=O;subst d;have l:a.eval x= .slice (some ((⟨g,0,none⟩:Addr).add (n*k))) (m-n) (c-n):=by rw [hs.ev F];simp [Ad,p]
 simp [execOp,B,l,hs.ev G,Instr.indexAt,asIntOf,run_underlying D,f,s,ead,Ad,p]
instance hwT {w0:World} : Hw w0 (λ_=>True):=⟨λ_ _=>trivial⟩
end
def sw2(l:List Yj)(a b:Nat):List Yj:=(l.set a (l.getD b Yr)).set b (l.getD a Yr)
def Zmb(xs:List Yj):List Yj:=(List.range xs.length).map λp=>xs.getD ((xs.length-p)%xs.length) Yr
structure RvT (xs:List Yj) (i:Nat) (l:List Yj):Prop where
 len:l.length=xs.length
 at':∀p,p<xs.length->l.getD p Yr=if 1<=p/\(p<=i\/xs.length-p<=i)then xs.getD (xs.length-p) Yr else xs.getD p Yr
theorem rvI_0(xs:List Yj):RvT xs 0 xs:=⟨rfl,λp a=>by rw [aD O]⟩
theorem Zne{l:List Yj}{a p:Nat}{z:Yj}(c:p<l.length):(l.set a z).getD p Yr=if a=p then z else l.getD p Yr:=by
 rw [aE,aE,oB];by_cases h:a=p
 .subst h;simp [c]
 .simp [h]
theorem rvI_s{l:List Yj}(h:RvT xs i l)(hi:i+1<xs.length-1-i):RvT xs (i+1) (sw2 l (i+1) (xs.length-2-i+1)):=by
 have e:=h.len;refine⟨by unfold sw2;rw [bX,bX,e],λp f=>?_⟩;unfold sw2;rw [Zne (by rw [bX];omega),Zne O];by_cases a:xs.length-2-i+1=p
 .rw [aF a,aF O,h.at' _ O,aD O];congr 1;omega
 .rw [aD a];by_cases c:i+1=p
  .rw [aF c,aF O,h.at' _ O,aD O];congr 1;omega
  .rw [aD c,h.at' p f];by_cases d:1<=p/\(p<=i\/xs.length-p<=i)
   .rw [aF d,aF O]
   .rw [aD d,aD O]
theorem rvI_e{l:List Yj}(h:RvT xs i l)(hi:¬i+1<xs.length-1-i):l=Zmb xs:=by
 refine gL (by rw [h.len];simp [Zmb]) λp a f=>?_;have e:p<xs.length:=by rw [<-h.len];exact a
 have:=h.at' p e;rw [aE,aL a,fC]at this;rw [this];simp only [Zmb,List.getElem_map,List.getElem_range];by_cases d:p=0
 .subst d;rw [aD O,iM,Nat.mod_self]
 .rw [aU O];by_cases c:1<=p/\(p<=i\/xs.length-p<=i)
  .rw [aF c]
  .rw [aD c];congr 1;omega
theorem Yd5(xs:List Yj):(Zmb xs).length=xs.length:=by simp [Zmb]
theorem Ykr(h:xs.all Kk=true):(Zmb xs).all Kk=true:=by rw [bF]at h ⊢;intro p a;simp only [Zmb,eV,dA]at a;obtain⟨k,c,rfl⟩:=a;exact h _ (Zi (bO _ O))
def orL(i:Nat)(l:List Yj):List Yj:=if(decide (0<ar2 (Pv l)) != decide ((i:Int)=0))=true then Zmb l else l
def rgE(rs:List Lo)(i:Nat):List (Yj×Yj):=Pv (orL i (rs.getD i Ia).2)
def Gt(rs:List Lo)(n:Nat):List (Yj×Yj):=(List.range n).flatMap (rgE rs)
theorem Zwv(rs:List Lo)(n:Nat):Gt rs (n+1)=Gt rs n ++ rgE rs n:=by unfold Gt;rw [List.range_succ,List.flatMap_append];simp
theorem Zuf(rs:List Lo)(n:Nat):(Gt rs (n+1)).length=(Gt rs n).length+(rgE rs n).length:=by rw [Zwv,bE]
theorem Zue(rs:List Lo){n:Nat}(h:i<=n):∃t,Gt rs n=Gt rs i ++ t:=by
 induction n with
 | zero=>exact⟨[],by rw [show i=0 by omega];simp⟩
 | succ n d=>
  by_cases a:i=n+1
  .exact⟨[],by rw [a];simp⟩
  .obtain⟨t,c⟩:=d O;exact⟨t ++ rgE rs n,by rw [Zwv,c,dW]⟩
theorem Ynw{n:Nat}{e:Yj×Yj}(h:i<n)(a:(rgE rs i)[k]? = some e):(Gt rs n)[(Gt rs i).length+k]? = some e:=by obtain⟨t,d⟩:=Zue rs (show i+1<=n from h);have c:=(cI.1 a).1;rw [d,Zwv,dW,dP O,Nat.add_sub_cancel_left,cT c,a]
theorem Zx3(i:Nat)(l:List Yj):(orL i l).length=l.length:=by unfold orL;split;exact Yd5 l;rfl
theorem orL_pt{l:List Yj}(h:l.all Kk=true):(orL i l).all Kk=true:=by unfold orL;split;exact Ykr h;exact h
def orL_t{l:List Yj}(h:(decide (0<ar2 (Pv l)) != decide ((i:Int)=0))=true):orL i l=Zmb l:=aF h
theorem orL_f{l:List Yj}(h:(decide (0<ar2 (Pv l)) != decide ((i:Int)=0))=false):orL i l=l:=aD (by rw [h];exact bD)
theorem Zww{n:Nat}{e:Yj×Yj}(c:∀z∈rs,Kz z.2=true)(l:n<=rs.length)(h:(Gt rs n)[k]? = some e):Kk e.1=true/\Kk e.2=true:=by have a:=dU h;unfold Gt at a;obtain⟨i,hi,f⟩:=jI.1 a;have hi:=dA.1 hi;obtain⟨j,g⟩:=fI.1 f;exact Zlj (orL_pt (Co (c _ (Zi (d:=Ia) (show i<rs.length by omega))))) g
theorem Ztu{p:Yj}{rs:List Lo}{n:Nat}(d:Kk p=true)(a:∀z∈rs,Kz z.2=true)(c:n<=rs.length):∀k,QIn (d2F p ((Gt rs n).take k))
 | 0=>qin_0
 | k+1=>by
  cases h:(Gt rs n)[k]? with
  | none=>
   rw [List.getElem?_eq_none_iff]at h;rw [cC O,<-cC h];exact Ztu d a c k
  | some e=>
   obtain⟨f,g⟩:=Zww a c h;rw [Ztt h];exact qin_s (Ztu d a c k) (d2b f g d)
theorem qin_c(h:QIn b):b.2=0\/0<b.2:=by have:=h.p;omega
end Go.Sky
namespace Go.Sky
open Go.Proofs.Tryz
open Go.Proofs
set_option synthInstance.maxHeartbeats 0
set_option synthInstance.maxSize 100000
set_option maxRecDepth 20000
set_option linter.unusedSimpArgs false
variable{v:Value}{xs:List Yj}{lo a z:Int}{rs:List Lo}
theorem Yh1(g:xs.length<=64):Yjd prog 266 #[v] [Ys 3 Xa v xs] (G:=Value) (λr=>True) (λr=>r) (λr=>Ol 3 23 Xa r xs):=by
 refine Zqe func266 J ntmps266 J K1 ?_;intro j h d e;have d:=Hw.mk d;simp only [Qf,Yg];refine Lh (Ygz (i:=1) J Zk) λc=>go 9 ?_;refine dt (Zp3 J J J (i:=1) J Zk Fq)<|go 2 ?_;refine Yp J (λb=>?_) (λb=>?_)
 .refine go 7 ?_;obtain rfl:xs=[]:=c (by simpa using b);exact Xg (Hb 9 3 23 Xa)<|Zgr (.inl J) (.slice none 0 0) (λa w hs=>Fc hs results266 J) J aA J 9 J J J
 .refine go 4 ?_;refine tt (Ycw 2 (enc:=Xa) J J J Fq pPt J d.h) λv _=>go 1 ?_;refine tt (Fr 2 1 24 J J J J J J O3 J Zk Fq ti23 J pPt J J J O9 O3 J d.h) λf _=>go 4 ?_;exact Zgr (.inl J) _ (λa w hs=>Fc hs results266 J) J aA J 2 J (by rfl) J
theorem sl_rev(k:3<=xs.length)(j:xs.length<=64):Yjc prog 267 #[Ad v 1 3] [] (Ol 3 23 Xa v xs) (G:=Unit) (λ_=>True) (λ_=> .tuple #[]) (λ_=>Ol 3 23 Xa v (Zmb xs)):=by
 refine Zqd func267 J ntmps267 J aA ?_;intro n m c f;have c:=Hw.mk c;simp only [Qf,Yg];refine Lh (f_osv 1 J O) λb=>go 3 ?_;refine dt (Yv ( .int .i64 ((xs.length-1:Nat):Int)) (d_len (i:=1) J J J (rd_osu pPt 1 O) Fq) (aN (λq:Nat=>Value.int .i64 (q:Int)) (eH ..)))<|go 6 ⟨O,?_⟩;refine lp (G:=Nat×List Yj) [0] [0] (λq=>[(2,.int .i64 (q.1:Int)),(3,.int .i64 ((xs.length:Int)-2-q.1))]) (λq=>[(1,Ol 3 23 Xa v q.2)]) (λq=>(q.1<=xs.length)/\(RvT xs q.1 q.2)) (λq=>xs.length-q.1) (0,xs) ⟨O1,rvI_0 xs⟩ ⟨J,(aN (λq:Int=>some (Value.int .i64 q)) O),aA⟩ K1 ?_;rintro⟨i,l⟩ ⟨hi,e⟩;dsimp only at hi e;dsimp only;have g:=e.len;refine go 8<|Zc J (λd=>?_) (λd=>?_)
 .refine go 4<|Ng [] [15] ?_;refine Zw 6 [(0,0),(1,0),(2,0),(3,0),(4,0),(5,0),(6,0),(8,0),(9,0),(10,0)]<|go 6 ?_;refine Qb J J (Ft (Znm (xs.length-2-i) J J J b O Fq Aa O O) aA)<|go 2 ?_;refine Qb J J (Ft (Znm i J J J b O Fq Aa O O) aA)<|go 1 ?_;refine Nm 5 7 11 ?_ ?_
  .refine Zaf J J (Ak (Of 1 Yr J J J (Yo pPt) pPt) J) (λ_ _=>?_);refine Zw 0 [(11,1),(12,0),(13,1),(14,0),(15,3)]<|Bm J (Ak (Of 1 Yr J J J (Yo pPt) pPt) J) (λ_ _=>?_);refine Qb J J (Ft (Znm i J J J b O Fq Aa O O) aA)<|Bm J (t_evM (Lm 1 (enc:=Xa) (z:=l.getD ((xs.length-2-i)+1) Yr) J J J J J J pPt J c.h) (λ_ _ h=>nomatch h)) (λ_ _=>?_);refine Qb J J (Ft (Znm (xs.length-2-i) J J J b O Fq Aa O O) aA)<|r3' J (Lm 1 (enc:=Xa) (z:=l.getD (i+1) Yr) J J J J J J pPt J c.h O3 (by rw [bX];omega)) λ_ _=>go 1 ?_;refine Yq<|go 10 ⟨O,O,?_⟩;exact Yl (i+1,sw2 l (i+1) ((xs.length-2-i)+1)) ⟨O1,rvI_s e O⟩ O1 ⟨J,(aN (λq:Int=>some (Value.int .i64 q)) O),aA⟩ K1
  .refine Zaf J J (Ak (Of 1 Yr J J J (Yo pPt) pPt) J) (λ_ _=>?_);refine Zw 0 [(7,1),(12,0),(13,1),(14,0),(15,3)]<|Bm J (Ak (Of 1 Yr J J J (Yo pPt) pPt) J) (λ_ _=>?_);refine Qb J J (Ft (Znm i J J J b O Fq Aa O O) aA)<|Bm J (t_evM (Lm 1 (enc:=Xa) (z:=l.getD ((xs.length-2-i)+1) Yr) J J J J J J pPt J c.h) (λ_ _ h=>nomatch h)) (λ_ _=>?_);refine Qb J J (Ft (Znm (xs.length-2-i) J J J b O Fq Aa O O) aA)<|r3' J (Lm 1 (enc:=Xa) (z:=l.getD (i+1) Yr) J J J J J J pPt J c.h O3 (by rw [bX];omega)) λ_ _=>go 1 ?_;refine Yq<|go 10 ⟨O,O,?_⟩;exact Yl (i+1,sw2 l (i+1) ((xs.length-2-i)+1)) ⟨O1,rvI_s e O⟩ O1 ⟨J,(aN (λq:Int=>some (Value.int .i64 q)) O),aA⟩ K1
 .refine go 4<|Xg (Qa 1 (aN (Ol 3 23 Xa v) (rvI_e e O)) J J) ?_;exact Zuo (.inr J) f () (λa w hs=>Ykt hs results267) J aA 1 J J J J Zs
theorem Ybo(fo H:SL)(d:List Yj)(e:List Lo)(fl I:Int)(Y:Nat)(B:Cd d e fl I=true):CalK prog 264 [.pointer (some ⟨Y,0,none⟩)] [Oz Y 81 #[Xo fo,Xo H,.int .i64 fl,.int .i64 I],Ys 3 Xa (Xo fo) d,Qi 1 (Ob (α:=List Yj)) qPg (Xo H) e] (Gt ((fo,d)::e:List Lo) ((fo,d)::e:List Lo).length) (λc=>[Xa c.1,Xa c.2]):=by
 refine Ynj func264 J ntmps264 J K3 ?_;intro l n M V w0 hn hM r P hY;have G:=hwA;simp only [Qf,Yg];refine Zs8 ?_;have a1:e.length<=16:=(Cw B).2.1.1;have hS:∀z∈((fo,d)::e:List Lo),Kz z.2=true:=λz hz=>by rcases aZ.1 hz with rfl|h;exact(Cw B).1;exact Zi2 B z h
 have a3:((fo,d)::e:List Lo).length<=17:=by have:=(Cw B).2.1.1;rw [dM];omega
 refine Xc<|Xv<|Zz (Zu 4) λbq _=>?_;refine Zq (Oy ?_);refine Ya<|Xc<|Xc<|Xv<|go 1 ?_;refine cl 4 [2,3] (Zct fo H d e fl I) λ_ _=>?_;refine dt (dF (Yz J J) (aN (λb=>Value.bool (!b)) B))<|Zq (Oy ?_);refine Ya<|Zli J<|Gz<|Ya<|Xc<|Bq (On qPg 71)<|Bq (Qs (q:=qPg) (z:=(fo,d)) 71 2 71 J J J J J)<|Bq (Zem 3 72 J J)<|Bq (Zel 71 72 71 J J J J)<|Xv<|go 2 ?_;refine tt (Oe [(0,_)] 60 (enc:=(Ob (α:=List Yj))) [(fo,d)] J J K2 Zjn ti37 J J J J J pPg.cells J J G.h) λv _=>go 2 ?_;refine tt (Fr 60 3 24 J J J J J J O3 J Yf Zjn ti37 J pPg J J J O9 O3 J G.h) λD _=>go 2 ?_;refine Zq (Oy ?_);refine Ya<|Kx<|Zy6 (λ(q:Nat×(Nat->Prop)×World×List Nat)=>q.2.2.2) [(2,_),(15,_),(16,_)] [(4,_),(71,_),(60,_)] (λ(q:Nat×(Nat->Prop)×World×List Nat)=>[(17,.int .i64 (q.1:Int))]) (λ(q:Nat×(Nat->Prop)×World×List Nat)=>[(0,kO n M q.2.2.1),(91,fxs q.2.2.2),(93,kT M q.2.1 q.2.2.1)]) (λ(q:Nat×(Nat->Prop)×World×List Nat)=>(q.1<=((fo,d)::e:List Lo).length)/\(V (Gt ((fo,d)::e:List Lo) q.1).length q.2.1 q.2.2.1)) (λ(q:Nat×(Nat->Prop)×World×List Nat)=>((fo,d)::e:List Lo).length-q.1) (0,noT,w0,[]) J ⟨O1,P⟩ K4 K6 ?_;rintro⟨i,T,W,F⟩ ⟨hi,N⟩;dsimp only at hi N;simp only [CA,NA];refine Xc<|Xv<|go 1 ?_;refine Zq (Oy ?_);refine Ya<|Xc<|Zbt J (λy=>?_) (λy=>?_)
 .have s:i<((fo,d)::e:List Lo).length:=O;refine Gz<|Ya<|Xc<|Kx<|Xc<|Bq (Zbh 71 74 (((fo,d)::e:List Lo).getD i Ia) J J (Zi s) J)<|Xv<|go 1 ?_;refine dt (Ym 60 i J J J J (Yo pPg) Zjn sizeOf37 J)<|dt (Of 60 Ia J J J (Yo pPg) pPg)<|go 2 ?_;refine Zq (Oy ?_);refine Ya<|eg_jn [(2,_),(15,_),(16,_),(17,_)] [(0,_),(91,_),(93,_),(4,_),(71,_),(60,_)] (λ(u:Value)=>[(4,u)]) (λ(u:Value)=>[(74,Ys 3 Xa u (orL i (((fo,d)::e:List Lo).getD i Ia).2))]) (λ(u:Value)=>True) K4 K6 ?_ ?_
  .refine Xc ?_;have g:=hS (((fo,d)::e:List Lo).getD i Ia) (Zi s);refine Xv<|go 1 ?_;refine cl 4 [74] (Ygt (((fo,d)::e:List Lo).getD i Ia).2 (Co g) (Kl g).2) λ_ _=>go 4 ?_;refine Zq (Oy ?_);refine Ya<|Zs9 J (λm=>?_) (λm=>?_)
   .refine Xc<|Xv<|go 1 ?_;refine tt (Zik 74 (Yh1 (Kl g).2) J J J K1 call266 (Yd 74 J J J Zs) J G.h) λa5 _=>go 1 ?_;refine Zq (Oy ?_);refine Ya<|Xv<|go 1 ?_;refine dt (d_suf 74 1 J J J J (Yo pPt) Fq Aa J (by have:=(Kl g).1;omega))<|tt (Zn7 74 [] [_] [] (sl_rev (Kl g).1 (Kl g).2) J J J J K1 call267 J J O3 Zs J G.h (λ_ _=>trivial)) (λ_ _=>?_);refine Zq (Oy ?_);exact Znt (Na 74 J J pPt)<|xg_jn aA K5 ⟨aN (λq=>some (Ys 3 Xa _ q)) (orL_t m).symm,J,J,J,J,J,J,aA⟩ /-1 1-/
   .exact Gz<|xg_jn aA K5 ⟨aN (λq=>some (Ys 3 Xa _ q)) (orL_f m).symm,J,J,J,J,J,J,aA⟩ /-1 1-/
  .rintro u -;dsimp only [CA,NA];refine Xc ?_;have g:=hS (((fo,d)::e:List Lo).getD i Ia) (Zi s);refine Xv<|go 1 ?_;refine cl 5 [74] (Zcu _) λb _=>?_;refine Zq (Oy ?_);refine Ya<|Kx<|eg_rfs (pre:=[Oz b 37 #[u],Ys 3 Xa u (orL i (((fo,d)::e:List Lo).getD i Ia).2)]) (λ(k:Nat) (j:(Nat->Prop)×World)=>[(0,kO n M j.2),(91,fxs F),(93,kT M j.1 j.2),(4,box bq 294 #[.func (.yield l) #[] #[]]),(60,Ol 1 37 (Ob (α:=List Yj)) D ((fo,d)::e:List Lo)),(71,Hf qPg ((fo,d)::e:List Lo))]) (λk j=>V ((Gt ((fo,d)::e:List Lo) i).length+k) j.1 j.2) (λ(_:Unit)=>[(0,kO n M W),(91,fxs F),(93,kT M T W)]) (λ_=>False) (T,W) J (by intro t w;first|exact enters_of func190 O6 rfl t w|exact call190 t w) (Za2 u (orL i (((fo,d)::e:List Lo).getD i Ia).2) b (by rw [Zx3];exact(Kl g).2)) ?_ (λ_ _=>J) J (λ_=>trivial) N K6 (λ_ _=>⟨⟨_,J,J⟩,J⟩) (λ_ _=>J) (λ_=>⟨⟨_,J,J⟩,J⟩) (λ_=>J) (λk x gi j hx f a4 Mf Wa=>?_) (λj S f=>?_) (λ_ S R=>?_)
   .intro p hp;simp only [aZ,dJ,gF]at hp;rcases hp with rfl|rfl
    .exact⟨J,5,J⟩
    .exact⟨J,74,J⟩
   .refine Zbs (env':=[(2,_),(35,_),(36,_)]) (H':=[(92,Zt Wa Mf),(0,kO n M j.2),(91,fxs F),(93,kT M j.1 j.2),(4,box bq 294 #[.func (.yield l) #[] #[]]),(60,Ol 1 37 (Ob (α:=List Yj)) D ((fo,d)::e:List Lo)),(71,Hf qPg ((fo,d)::e:List Lo))]) (λa w hs=>hs.weaken ⟨J,J,J,aA⟩ ⟨J,J,J,J,J,J,J,aA⟩)<|Qy<|Yw J<|Zz (Zx 6) λZ _=>go 1 ?_;refine Zq (Qw ?_);refine Xz<|Yw J<|Zz (Zx 7) λa0 _=>go 1 ?_;refine Zq (Qw ?_);refine Ycc [(2,_),(5,_),(6,_)] [(0,_),(91,_),(93,_),(4,_),(60,_),(71,_),(6,_),(7,_)] K3 K9 J (λq h=>by cases h;rfl) ⟨.inr (λb o=>⟨0,_,J,kO_fp (r.lt _ _ _ f).1 o⟩),.inr (λb o=>⟨91,_,J,o⟩),.inl J,.inl J,.inl J,.inr (λb o=>⟨71,_,J,o⟩),.inl J,.inl J,aA⟩ λWb a2=>?_;refine Lu<|Qy<|er_lr<|Zo5 (Zlp 4 J J J isAgg294 J) J J J J<|Zo5 (DI.h aA) J J J J<|Zo5 (DI.h aA) J J J J<|Yfj (vs:=[_,_]) x hY r (Ynw s hx) f hM J J J J J K2 J J J (λT2 W2 Q=>?_);refine Zo5 (Yz J J) J J J J<|lr_nil<|Xz<|Qv J<|Xu<|go 1 ?_;exact Oc (T2,W2) Q ⟨.inr (λb o=>⟨0,_,J,kO_fp (r.lt _ _ _ f).1 o⟩),.inr (λb o=>⟨91,_,J,o⟩),.inl J,.inl J,.inl J,.inr (λb o=>⟨71,_,J,o⟩),aA⟩ K7
   .refine Zd7<|Zd7<|Ya<|Xv<|go 2 ⟨O,?_⟩;refine Zq (Oy ?_);exact Zjf (i+1,j.1,j.2,(S::F)) J ⟨O1,(by rw [Zuf];exact f)⟩ O1 K4 K6 /-1 3-/
   .exact R.elim
 .obtain rfl:i=((fo,d)::e:List Lo).length:=O;exact Zi6<|Ai<|Ai<|Zw2<|Yje (.inr J) J J J J r N
theorem Ygq(fo b:SL)(f:List Yj)(e:List Lo)(fl d:Int):Cal prog 196 #[.agg #[Xo fo,Xo b,.int .i64 fl,.int .i64 d]] [Ys 3 Xa (Xo fo) f,Qi 1 (Ob (α:=List Yj)) qPg (Xo b) e] true (G:=Nat) (λg=>True) (λg=> .func (.func 264) #[] #[.pointer (some ⟨g,0,none⟩)]) (λg=>[Oz g 81 #[Xo fo,Xo b,.int .i64 fl,.int .i64 d]]):=by refine Zd func196 ntmps196 λk j i c=>go 2 ?_;refine Zz (Zu 3) λh _=>go 5 ?_;refine dt (Zgf [] [_] J aA K1)<|go 4 ?_;exact Xg (Zce 3 J J)<|Yx c _ results196 J aA (Kd 3 Za)
theorem Ygu(fo n:SL)(d:List Yj)(c:List Lo)(fl r:Int)(q:Yj)(D:Cd d c fl r=true)(F:Kk q=true):Xj prog 121 #[.agg #[Xo fo,Xo n,.int .i64 fl,.int .i64 r],Xa q] [Ys 3 Xa (Xo fo) d,Qi 1 (Ob (α:=List Yj)) qPg (Xo n) c] (.tuple #[.agg #[.bool (decide ((d2F q (Gt ((fo,d)::c:List Lo) ((fo,d)::c:List Lo).length)).1<0)),.string (Xn ((d2F q (Gt ((fo,d)::c:List Lo) ((fo,d)::c:List Lo).length)).1).natAbs),.bool (decide ((d2F q (Gt ((fo,d)::c:List Lo) ((fo,d)::c:List Lo).length)).2<0)),.string (Xn ((d2F q (Gt ((fo,d)::c:List Lo) ((fo,d)::c:List Lo).length)).2).natAbs)],.int .i64 0]):=by
 refine Zdy func121 J ntmps121 J K2 ?_;intro w0 sc I H;have I:=Hw.mk I;simp only [Qf,Yg];refine Zs8 ?_;have V:∀z∈((fo,d)::c:List Lo),Kz z.2=true:=λz hz=>by rcases aZ.1 hz with rfl|h;exact(Cw D).1;exact Zi2 D z h
 refine Xc<|Xv<|Zz (Zu 3) λbq _=>Zz (Zu 4) λl _=>Zz (Zx 5) λm _=>go 1 ?_;refine Zq (Oy ?_);refine Ya<|Xc<|Xc<|Xv<|go 1 ?_;refine cl 5 [1,2] (Zct fo n d c fl r) λ_ _=>?_;refine dt (dF (Yz J J) (aN (λb=>Value.bool (!b)) D))<|go 2 ?_;refine Kj 5 [] (Zht q.1 q.2.1 q.2.2) λ_ _=>?_;refine Fj (dF (Yz J J) (aN (λb=>Value.bool (!b)) F)) J J<|go 1 ?_;refine Zq (Oy ?_);refine Ya<|Zli J<|Gz<|Ya<|Xc<|Xv<|Zz (Zx 6) λe _=>?_;refine Zq (Oy ?_);refine Ya<|Xc<|Xc<|Bq (Qa 6 (show box e 209 #[.bool false,.string ⟨#[]⟩,.bool false,.string ⟨#[]⟩]=box e 209 #[.bool (decide (((0,0):Int×Int).1<0)),.string (Xn (((0,0):Int×Int).1).natAbs),.bool (decide (((0,0):Int×Int).2<0)),.string (Xn (((0,0):Int×Int).2).natAbs)]from J) J J)<|Xv<|go 1 ?_;refine cl 7 [1,2] (Ygq fo n d c fl r) λb _=>?_;refine Zq (Oy ?_);refine Ya<|Kx<|eg_rfk (pre:=[Oz b 81 #[Xo fo,Xo n,.int .i64 fl,.int .i64 r],Ys 3 Xa (Xo fo) d,Qi 1 (Ob (α:=List Yj)) qPg (Xo n) c]) (w0:=w0) (λ(k:Nat) (B:Int×Int)=>[(0,Zt w0 (λ_=>False)),(91,fxs []),(4,box l 23 #[.int .i64 q.1,.int .i64 q.2.1,.int .i64 q.2.2]),(5,box m 209 #[.bool false,.string ⟨#[]⟩,.bool false,.string ⟨#[]⟩]),(6,box e 209 #[.bool (decide (B.1<0)),.string (Xn (B.1).natAbs),.bool (decide (B.2<0)),.string (Xn (B.2).natAbs)])]) (λk B=>B=d2F q ((Gt ((fo,d)::c:List Lo) ((fo,d)::c:List Lo).length).take k)) (0,0) J (by intro j w;first|exact enters_of func264 O6 rfl j w|exact call264 j w) (Ybo fo n d c fl r b D) ?_ (λ_=>J) J I.h J J K5 (λ_ _=>⟨J,J⟩) (λ_ _=>J) (λ_ _=>J) (λk x B G i a3 Y S M=>?_) (λB Dm i=>?_)
 .intro p W;simp only [aZ,dJ,gF]at W;rcases W with rfl|rfl|rfl
  .exact⟨J,7,J⟩
  .exact⟨J,1,J⟩
  .exact⟨J,2,J⟩
 .refine Zbs (env':=[(3,_),(6,_),(23,_),(24,_)]) (H':=[(92,Zt M Y),(94,kp M S),(0,Zt w0 (λ_=>False)),(91,fxs []),(4,box l 23 #[.int .i64 q.1,.int .i64 q.2.1,.int .i64 q.2.2]),(5,box m 209 #[.bool false,.string ⟨#[]⟩,.bool false,.string ⟨#[]⟩]),(6,box e 209 #[.bool (decide (B.1<0)),.string (Xn (B.1).natAbs),.bool (decide (B.2<0)),.string (Xn (B.2).natAbs)])]) (λa w hs=>hs.weaken ⟨J,J,J,J,aA⟩ ⟨J,J,J,J,J,J,J,aA⟩)<|Qy<|Yw J<|Zz (Zx 8) λN _=>go 1 ?_;refine Zq (Qw ?_);refine Xz<|Yw J<|Zz (Zx 9) λP _=>go 1 ?_;refine Zq (Qw ?_);refine x_rak [(3,_),(6,_),(7,_),(8,_)] [(0,_),(91,_),(4,_),(5,_),(6,_),(8,_),(9,_)] K4 K9 J J λWb=>?_;obtain⟨s,t⟩:=Zww V (aJ _) G;have y:B=d2F q ((Gt ((fo,d)::c:List Lo) ((fo,d)::c:List Lo).length).take k):=i;have o:QIn B:=y▸Ztu F V (aJ _) k;obtain⟨a1,a2,u⟩:=Yhd (d2b s t F);have Z:=o.n;have a0:=o.d;refine Lu<|Qy<|Yw J<|go 3 ?_;refine cl 9 [] (Ygr x.1 x.2 q s t F) λ_ _=>Zz (Zx 10) λQ _=>go 1 ?_;refine Zq (Qw ?_);refine Xz<|Qy ?_;rcases qin_c o with f|f
  .refine Yw J<|go 2 ?_;refine cl 10 [] (Zd2 (dqF x.1 x.2 q).1 (dqF x.1 x.2 q).2 B.1 B.2 O O u f) λ_ _=>go 5 ?_;refine Zq (Qw ?_);refine Xz<|Qy<|Yw J<|go 1 ?_;refine cl 10 [] Cg λ_ _=>?_;refine dt (dT (Yz J J) (aN (λb=>Value.bool (!b)) (okR_0 f)))<|go 4 ?_;refine Zq (Qw ?_);refine Xz<|Yg2 J<|Yw J<|go 2 ?_;refine Zq (Qw ?_);refine go 1 ?_;exact Ycb (dqF x.1 x.2 q) (by show _=d2F q ((Gt ((fo,d)::c:List Lo) ((fo,d)::c:List Lo).length).take (k+1));rw [Ztt G,<-y,mnq_t (.inl f)]) K7
  .refine Yw J<|go 2 ?_;refine cl 10 [] (Fo (dqF x.1 x.2 q).1 (dqF x.1 x.2 q).2 B.1 B.2 O O u f) λ_ _=>go 5 ?_;refine Zq (Qw ?_);refine Xz<|Qy<|Yw J<|go 1 ?_;refine cl 10 [] (Og B.1 B.2 O O f) λ_ _=>go 5 ?_;refine Zq (Qw ?_);refine Xz<|Kn J (λg=>?_) (λg=>?_)
   .refine Yw J<|go 2 ?_;refine Zq (Qw ?_);refine go 1 ?_;exact Ycb (dqF x.1 x.2 q) (by show _=d2F q ((Gt ((fo,d)::c:List Lo) ((fo,d)::c:List Lo).length).take (k+1));rw [Ztt G,<-y,mnq_t (.inr (Int.sign_neg_iff.1 g))]) K7
   .refine Xu<|go 1 ?_;exact Ycb B (by show _=d2F q ((Gt ((fo,d)::c:List Lo) ((fo,d)::c:List Lo).length).take (k+1));rw [Ztt G,<-y,mnq_f (λh=>h.elim (λh=>O) (λh=>g (Int.sign_neg_iff.2 h)))]) K7
 .refine Zd7<|Ya<|Xc<|Xv<|go 3 ?_;refine Zq (Oy ?_);exact Ya<|Ci<|Fl (.inl J) J (Fm (.inl J) H () (λa w hs=>Zu8 hs results121 (Gw 5 J J isAgg209 sizeOf209 J) J) (by have R:=i;rw [bT]at R;rw [<-R]) aA J Za)
theorem sm_Cut(ps:List Ze)(fr b:Int)(k:∀g∈ps,Gin g)(f:Xt ps=true)(l:(spF ps<=fr/\fr<b/\b<=spL ps))(e:∀g∈ps,SgG g)(h:∀g∈ps,Li fr b g=true->MdG fr b g):Cal prog 112 #[v,.int .i64 fr,.int .i64 b] [Qi 6 Pz qG v ps] true (G:=Value×List Ze) (λg=>g.2.map Dn=Cz fr b ps) (λg=> .tuple #[g.1,.int .i64 (Zd5 fr b ps)]) (λg=>[Qi 6 Pz qG g.1 g.2]):=by refine Zd func112 ntmps112 λo n m d=>?_;obtain⟨-,j,c⟩:=Oh f;refine go 9 ?_;refine cl 1 [1] (Zip _ k f) λ_ _=>go 14<|kf (aK O3)<|go 8<|kf (aK O)<|go 3<|kfg (aK O)<|go 4<|kfg (aK O)<|go 13 ?_;refine cl 2 [1] (Zuw e h c) λg i=>go 7 ?_;exact Nn d _ results112 J i (Kd 2 Za)
def wiB(n lo hi:Int):Bool:=decide (lo<=n) && decide (n<=hi)
theorem wiB_t{n hi:Int}(h:lo<=n):wiB n lo hi=decide (n<=hi):=by unfold wiB;rw [aI h];rfl
theorem wiB_f{n hi:Int}(h:¬lo<=n):wiB n lo hi=false:=by unfold wiB;rw [aK h];rfl
theorem Zq0{n hi:Int}(h:wiB n lo hi=true):lo<=n/\n<=hi:=by unfold wiB at h;simpa using h
abbrev GdT:=Int×Int×Int
abbrev Zcx (g:GdT):Value:= .agg #[.int .i64 g.1,.int .i64 g.2.1,.int .i64 g.2.2]
def Zb4(g:GdT):Bool:=wiB g.1 0 100000 && (wiB g.2.1 0 100000 && wiB g.2.2 0 3600000)
theorem Yf5{g:GdT}(h:wiB g.1 0 100000=false):Zb4 g=false:=by unfold Zb4;rw [h];rfl
theorem Yf4{g:GdT}(h:wiB g.2.1 0 100000=false):Zb4 g=false:=by unfold Zb4;rw [h];simp
theorem Yf3{g:GdT}(h:wiB g.1 0 100000=true)(b:wiB g.2.1 0 100000=true):Zb4 g=wiB g.2.2 0 3600000:=by unfold Zb4;rw [h,b];rfl
theorem grd_b{g:GdT}(h:Zb4 g=true):(0<=g.1/\g.1<=100000)/\(0<=g.2.1/\g.2.1<=100000)/\(0<=g.2.2/\g.2.2<=3600000):=by unfold Zb4 at h;simp only [aQ]at h;exact⟨Zq0 h.1,Zq0 h.2.1,Zq0 h.2.2⟩
def Bv(lo hi:Int):Bool:=wiB lo (-1073741824) hi && decide (hi<=1073741824)
theorem bds_1{hi:Int}(h:wiB lo (-1073741824) hi=false):Bv lo hi=false:=by unfold Bv;rw [h];rfl
theorem bds_2{hi:Int}(h:wiB lo (-1073741824) hi=true):Bv lo hi=decide (hi<=1073741824):=by unfold Bv;rw [h];rfl
theorem Zz5{hi:Int}(h:Bv lo hi=true):-1073741824<=lo/\lo<=hi/\hi<=1073741824:=by unfold Bv at h;simp only [aQ,cZ]at h;exact⟨(Zq0 h.1).1,(Zq0 h.1).2,h.2⟩
def wnF(a z lo hi:Int):Int:=min (max lo a) z
def wnP(a z lo hi:Int):Int×Int:=if min (max lo a) z=min (max hi a) z then(if min (max hi a) z<z then(min (max lo a) z,min (max hi a) z+1)else(min (max lo a) z-1,min (max hi a) z))else(min (max lo a) z,min (max hi a) z)
abbrev wnV (w:Int×Int):Value:= .tuple #[.int .i64 w.1,.int .i64 w.2,.int .i64 0]
theorem Zny{hi:Int}(h:min (max lo a) z=min (max hi a) z)(b:min (max hi a) z<z):wnP a z lo hi=(min (max lo a) z,min (max hi a) z+1):=by unfold wnP;rw [aF h,aF b]
theorem Znx{hi:Int}(h:min (max lo a) z=min (max hi a) z)(b:¬min (max hi a) z<z):wnP a z lo hi=(min (max lo a) z-1,min (max hi a) z):=by unfold wnP;rw [aF h,aD b]
theorem Znw{hi:Int}(h:¬min (max lo a) z=min (max hi a) z):wnP a z lo hi=(min (max lo a) z,min (max hi a) z):=by unfold wnP;rw [aD h]
theorem wn_ok{hi:Int}(h:a<z)(d:lo<=hi):a<=(wnP a z lo hi).1/\(wnP a z lo hi).1<(wnP a z lo hi).2/\(wnP a z lo hi).2<=z:=by
 by_cases b:min (max lo a) z=min (max hi a) z
 .by_cases c:min (max hi a) z<z
  .rw [Zny b c];dsimp only;omega
  .rw [Znx b c];dsimp only;omega
 .rw [Znw b];dsimp only;omega
abbrev qLo (lo:Int) (q:Yj):Yj:=(q.1,q.2.1,lo)
abbrev rsF (fo:SL) (c:List Yj) (b:List Lo):List Lo:=(fo,c)::b
def d2A(fo:SL)(c:List Yj)(b:List Lo)(q:Yj):Int×Int:=d2F q (Gt ((fo,c)::b) ((fo,c)::b).length)
def ouN(d:Int×Int)(e:Int):Bool:=decide ((d.1*Ip (e*e) 1-Ho (e*e) 1*d.2).sign>0)
def ouB(fo:SL)(d:List Yj)(c:List Lo)(fl b:Int)(e:Int)(q:Yj):Bool:=
 if q.2.2<fl-e\/q.2.2>b+e then true else if Zk5 d c fl b (qLo fl q)=true then false else ouN (d2A fo d c (qLo fl q)) e
section
variable {fo:SL} {po:List Yj} {ph:List Lo} {fl fu e:Int} {q:Yj}
theorem Yk4(h:q.2.2<fl-e):ouB fo po ph fl fu e q=true:=by unfold ouB;rw [aF (.inl h)]
theorem Yk3(h:q.2.2>fu+e):ouB fo po ph fl fu e q=true:=by unfold ouB;rw [aF (.inr h)]
theorem Yk2(b:¬q.2.2<fl-e)(c:¬q.2.2>fu+e)(h:Zk5 po ph fl fu (qLo fl q)=true):ouB fo po ph fl fu e q=false:=by unfold ouB;rw [aD O,aF h]
theorem Yk1(b:¬q.2.2<fl-e)(c:¬q.2.2>fu+e)(h:Zk5 po ph fl fu (qLo fl q)=false):ouB fo po ph fl fu e q=ouN (d2A fo po ph (qLo fl q)) e:=by unfold ouB;rw [aD O,aD (by rw [h];exact bD)]
theorem Ymv{p:Yj}{n:Nat}(d:Kk p=true)(b:∀z∈rs,Kz z.2=true)(c:n<=rs.length):∀k,k<(Gt rs n).length->0<(d2F p ((Gt rs n).take (k+1))).2:=λk l=>by
 have h:=aL l;obtain⟨f,g⟩:=Zww b c h;rw [Ztt h];have m:=Ztu d b c k;obtain⟨-,-,i⟩:=Yhd (d2b f g d);unfold mnq;split
 .exact i
 .rename_i j;rcases qin_c m with h|h
  .exact absurd (.inl h) j
  .exact h
theorem Ynv(c:∀z∈rs,Kz z.2=true){n:Nat}(b:0<n)(j:n<=rs.length):0<(Gt rs n).length:=by
 obtain⟨t,f⟩:=Zue rs (show 1<=n from b);have g:=(Kl (c _ (Zi (d:=Ia) (show 0<rs.length by omega)))).1;have h:=Zuf rs 0;have i:(rgE rs 0).length=(rs.getD 0 Ia).2.length:=by unfold rgE;rw [De,Zx3]
 rw [f,bE];show 0<(Gt rs (0+1)).length+_;omega
theorem Ygh(b:Cd po ph fl fu=true):∀z∈((fo,po)::ph:List Lo),Kz z.2=true:=λz c=>by
 rcases aZ.1 c with rfl|h
 .exact(Cw b).1
 .exact Zi2 b z h
theorem d2A_ok(h:Cd po ph fl fu=true)(f:Kk q=true):bl (d2A fo po ph q).1.natAbs<=88/\bl (d2A fo po ph q).2.natAbs<=44/\0<(d2A fo po ph q).2:=by have d:=Ygh (fo:=fo) h;have g:=Ynv d (n:=((fo,po)::ph:List Lo).length) O8 (aJ _);have b:=Ztu f d (aJ _) (Gt ((fo,po)::ph) ((fo,po)::ph:List Lo).length).length;have c:=Ymv f d (aJ _) ((Gt ((fo,po)::ph) ((fo,po)::ph:List Lo).length).length-1) O;rw [nR g]at c;rw [bT]at b c;exact⟨b.n,b.d,c⟩
theorem qLo_pt(b:Cd po ph fl fu=true)(c:Kk q=true):Kk (qLo fl q)=true:=by obtain⟨d,f,g⟩:=Zam c;obtain⟨-,h,-⟩:=Cw b;show ptB q.1 q.2.1 fl=true;unfold ptB Zmd;simp;omega
theorem ee_b(h:0<=e/\e<=100000):0<=e*e/\e*e<=10000000000:=by
 have b:e.natAbs<=100000:=O;have c:(e*e).natAbs<=100000*100000:=by rw [cH];exact aY b b
 have d:0<=e*e:=dS h.1 h.1;omega
theorem ee_r(h:0<=e/\e<=100000):Ho (e*e) 1=e*e/\Ip (e*e) 1=1:=by have:=ee_b h;exact rn_one ⟨O,O⟩
end
theorem Znb(g:GdT):Zb4 g=decide (0<=g.1/\g.1<=100000/\0<=g.2.1/\g.2.1<=100000/\0<=g.2.2/\g.2.2<=3600000):=by unfold Zb4 wiB;simp only [<-Bool.decide_and];exact cF.2 O
theorem Yii(lo hi:Int):Bv lo hi=decide (-1073741824<=lo/\lo<=hi/\hi<=1073741824):=by unfold Bv wiB;simp only [<-Bool.decide_and];exact cF.2 O
abbrev Zb5:=(Int×Int)×Yj
abbrev Yg6 (s:Zb5):Value:= .agg #[.int .i64 s.1.1,.int .i64 s.1.2,.int .i64 s.2.1,.int .i64 s.2.2.1,.int .i64 s.2.2.2]
def sigB(s:Zb5):Bool:=Bv s.1.1 s.1.2 && Kk s.2
def nrB(a b:Yj)(m:Int):Bool:=decide (0<=m) && decide (d2V a.1 a.2.1 a.2.2 b.1 b.2.1 b.2.2<=m*m)
end Go.Sky
namespace Go.Sky
open Go.Proofs.Tryz
open Go.Proofs
set_option synthInstance.maxHeartbeats 0
set_option synthInstance.maxSize 100000
set_option maxRecDepth 20000
set_option linter.unusedSimpArgs false
variable{v:Value}{ax ay az bx by_ bz:Int}
theorem Zd0(n lo hi:Int):Xj prog 108 #[.int .i64 n,.int .i64 lo,.int .i64 hi] [] (.bool (wiB n lo hi)):=by
 refine Zd func108 ntmps108 λe d c a=>go 11 ?_;refine Zj 10 J (λb=>?_) (λb=>?_)
 .refine go 8 ?_;exact Yx a () results108 (by first|exact vB (wiB_t ‹_›)|exact vB (wiB_f ‹_›)) aA Za
 .refine go 8 ?_;exact Yx a () results108 (by first|exact vB (wiB_t ‹_›)|exact vB (wiB_f ‹_›)) aA Za
theorem Zd1(lo hi:Int):Xj prog 107 #[.agg #[.int .i64 lo,.int .i64 hi]] [] (.bool (Bv lo hi)):=by
 refine Zd func107 ntmps107 λe d c a=>go 2 ?_;refine Zz (Zu 1) λbq _=>go 9 ?_;refine cl 1 [] (Zd0 lo (-1073741824) hi) λ_ _=>go 1<|Qc 8 J (λb=>?_) (λb=>?_)
 .refine go 8 ?_;exact Yx a () results107 (by first|exact vB (bds_2 ‹_›)|exact vB (bds_1 ‹_›)) aA Za
 .refine go 8 ?_;exact Yx a () results107 (by first|exact vB (bds_2 ‹_›)|exact vB (bds_1 ‹_›)) aA Za
theorem Za8(g:GdT):Xj prog 41 #[Zcx g] [] (.bool (Zb4 g)):=by
 refine Zd func41 ntmps41 λf e d a=>go 2 ?_;refine Zz (Zu 1) λbq _=>go 7 ?_;refine cl 1 [] (Zd0 g.1 0 100000) λ_ _=>go 1<|Qc 6 J (λc=>?_) (λc=>?_)
 .refine go 2 ?_;refine Kj 1 [] (Zd0 g.2.1 0 100000) λ_ _=>go 2<|Qc 11 J (λb=>?_) (λb=>?_)
  .refine go 2 ?_;refine Kj 1 [] (Zd0 g.2.2 0 3600000) λ_ _=>go 5 ?_;exact Yx a () results41 (by first|exact vB (Yf3 ‹_› ‹_›)|exact vB (Yf4 ‹_›)|exact vB (Yf5 ‹_›)) aA Za
  .refine go 8 ?_;exact Yx a () results41 (by first|exact vB (Yf3 ‹_› ‹_›)|exact vB (Yf4 ‹_›)|exact vB (Yf5 ‹_›)) aA Za
 .refine go 13 ?_;exact Yx a () results41 (by first|exact vB (Yf3 ‹_› ‹_›)|exact vB (Yf4 ‹_›)|exact vB (Yf5 ‹_›)) aA Za
theorem Zhr(ps:List Ze)(lo hi:Int)(h:∀g∈ps,Gin g)(e:Xt ps=true)(f:Bv lo hi=true):Xj prog 40 #[v,.agg #[.int .i64 lo,.int .i64 hi]] [Qi 6 Pz qG v ps] (wnV (wnP (spF ps) (spL ps) lo hi)):=by
 refine Zd func40 ntmps40 λr q p a=>?_;obtain⟨i,j,k⟩:=Zz5 f;obtain⟨l,m,n,o⟩:=Ydc h e;refine go 2<|Zz (Zu 2) λbq _=>go 8 ?_;refine cl 2 [1] (Zip _ h e) λ_ _=>go 13<|kf (aK O3)<|go 2 ?_;refine Kj 2 [] (Zd1 lo hi) λ_ _=>?_;refine Fj (dF (Yz J J) (aN (λb=>Value.bool (!b)) f)) J J<|go 7 ?_;refine Pd (λ_=>False) [(0,0),(1,0),(2,0),(3,0),(4,0),(5,0),(6,0),(7,0),(8,0),(9,0),(10,0),(11,0),(12,0),(13,3)]<|go 3 ?_;refine Qb J J (Pq (Zb1 J J J))<|go 1 ?_;refine Qb J J (Pq (Znl J J J))<|go 3 ?_;refine Qb J J (Pq (Zb1 J J J))<|go 1 ?_;refine Qb J J (Pq (Znl J J J))<|go 12 ?_;refine Zc J (λc=>?_) (λc=>?_)
 .refine go 7<|Zc J (λd=>?_) (λd=>?_)
  .refine go 16 ⟨O,?_⟩;exact xe3 a () results40 (by first|(rw [Znw ‹_›];done)|(rw [Zny ‹_› ‹_›];done)|(rw [Znx ‹_› ‹_›];done)) aA Za
  .refine go 16 ⟨O,?_⟩;exact xe3 a () results40 (by first|(rw [Znw ‹_›];done)|(rw [Zny ‹_› ‹_›];done)|(rw [Znx ‹_› ‹_›];done)) aA Za
 .exact go 12<|xe3 a () results40 (by first|(rw [Znw ‹_›];done)|(rw [Zny ‹_› ‹_›];done)|(rw [Znx ‹_› ‹_›];done)) aA Za
theorem Zuj(ps:List Ze)(lo hi:Int)(c:∀g∈ps,Gin g)(b:Xt ps=false):Xj prog 40 #[v,.agg #[.int .i64 lo,.int .i64 hi]] [Qi 6 Pz qG v ps] (.tuple #[.int .i64 0,.int .i64 0,.int .i64 2]):=by refine Zd func40 ntmps40 λf e d a=>go 2 ?_;refine Zz (Zu 2) λbq _=>go 8 ?_;exact cl 2 [1] (Zrf c b) λ_ _=>go 13<|kt (aI O3)<|go 17<|xe3 a () results40 J aA Za
theorem Zuk(ps:List Ze)(lo hi:Int)(e:∀g∈ps,Gin g)(c:Xt ps=true)(d:Bv lo hi=false):Xj prog 40 #[v,.agg #[.int .i64 lo,.int .i64 hi]] [Qi 6 Pz qG v ps] (.tuple #[.int .i64 0,.int .i64 0,.int .i64 2]):=by refine Zd func40 ntmps40 λi h f a=>go 2 ?_;refine Zz (Zu 2) λbq _=>go 8 ?_;refine cl 2 [1] (Zip _ e c) λ_ _=>go 13<|kf (aK O3)<|go 2 ?_;refine Kj 2 [] (Zd1 lo hi) λ_ _=>?_;refine Fj (dT (Yz J J) (aN (λb=>Value.bool (!b)) d)) J J<|go 13 ?_;exact xe3 a () results40 J aA Za
theorem Zl2(fo j:SL)(e:List Yj)(d:List Lo)(fl f:Int)(g:GdT)(q:Yj)(h:Cd e d fl f=true)(F:Zb4 g=true)(y:Kk q=true):Xj prog 115 #[Zcx g,.agg #[Xo fo,Xo j,.int .i64 fl,.int .i64 f],Xa q] [Ys 3 Xa (Xo fo) e,Qi 1 (Ob (α:=List Yj)) qPg (Xo j) d] (.bool (ouB fo e d fl f g.2.1 q)):=by
 refine Zd func115 ntmps115 λR Q P a=>?_;obtain⟨G,i,H⟩:=grd_b F;obtain⟨I,M,N⟩:=Zam y;obtain⟨t,u,w,x⟩:=(Cw h).2.1;have c:=qLo_pt h y;obtain⟨z,B,m⟩:=d2A_ok (fo:=fo) h c;have D:=ee_b i;have b:=ee_r i;refine go 2<|Zz (Zu 3) λbq _=>Zz (Zu 4) λo _=>Zz (Zu 5) λp _=>?_;refine go 16 ⟨O,?_⟩;refine Zj 24 J (λn=>?_) (λn=>?_)
 .refine go 20 ?_;exact Yx a () results115 (by first|exact vB (Yk4 ‹_›)|exact vB (Yk3 ‹_›)|exact vB (Yk2 ‹_› ‹_› ‹_›)|exact vB (Yk1 ‹_› ‹_› ‹_›)) aA Za
 .refine go 12 ⟨O,?_⟩;refine Zc J (λk=>?_) (λk=>?_)
  .refine go 7 ?_;exact Yx a () results115 (by first|exact vB (Yk4 ‹_›)|exact vB (Yk3 ‹_›)|exact vB (Yk2 ‹_› ‹_› ‹_›)|exact vB (Yk1 ‹_› ‹_› ‹_›)) aA Za
  .refine go 15 ?_;refine cl 5 [1,2] (Ybp fo j e d fl f (qLo fl q) h c) λ_ _=>go 12<|Yp J (λl=>?_) (λl=>?_)
   .refine go 7 ?_;exact Yx a () results115 (by first|exact vB (Yk4 ‹_›)|exact vB (Yk3 ‹_›)|exact vB (Yk2 ‹_› ‹_› ‹_›)|exact vB (Yk1 ‹_› ‹_› ‹_›)) aA Za
   .refine go 6 ?_;refine cl 5 [1,2] (Ygu fo j e d fl f (qLo fl q) h c) λ_ _=>go 3<|Zz (Zx 6) λr _=>?_;refine go 13 ⟨O,?_⟩;refine cl 6 [] (Gf (g.2.1*g.2.1) 1 ⟨O,O⟩ ⟨O3,O3⟩ O3) λ_ _=>go 3<|Zz (Zx 7) λs _=>go 8 ?_;refine cl 7 [] (Fo (d2A fo e d (qLo fl q)).1 (d2A fo e d (qLo fl q)).2 (Ho (g.2.1*g.2.1) 1) (Ip (g.2.1*g.2.1) 1) (by rw [b.1];exact aB (Ey ⟨O,O⟩) O3) (by rw [b.2];decide) m (by rw [b.2];decide)) λ_ _=>go 15 ?_;exact Yx a () results115 (by first|exact vB (Yk4 ‹_›)|exact vB (Yk3 ‹_›)|exact vB (Yk2 ‹_› ‹_› ‹_›)|exact vB (Yk1 ‹_› ‹_› ‹_›)) aA Za
theorem Zwz(fo f:SL)(e:List Yj)(d:List Lo)(fl c:Int)(g:GdT)(q:Yj)(k:Cd e d fl c=true)(l:Zb4 g=true)(m:Kk q=true):Xj prog 49 #[.agg #[Xo fo,Xo f,.int .i64 fl,.int .i64 c],Zcx g,Xa q] [Ys 3 Xa (Xo fo) e,Qi 1 (Ob (α:=List Yj)) qPg (Xo f) d] (.tuple #[.bool (ouB fo e d fl c g.2.1 q),.int .i64 0]):=by refine Zd func49 ntmps49 λp o n h=>go 2 ?_;refine Zz (Zu 3) λbq _=>Zz (Zu 4) λi _=>Zz (Zu 5) λj _=>go 8 ?_;refine cl 5 [1,2] (Zct fo f e d fl c) λ_ _=>?_;refine dt (dF (Yz J J) (aN (λb=>Value.bool (!b)) k))<|go 2 ?_;refine Kj 5 [] (Za8 g) λ_ _=>?_;refine Fj (dF (Yz J J) (aN (λb=>Value.bool (!b)) l)) J J<|go 3 ?_;refine Kj 5 [] (Zht q.1 q.2.1 q.2.2) λ_ _=>?_;refine Fj (dF (Yz J J) (aN (λb=>Value.bool (!b)) m)) J J<|go 9 ?_;refine dt (Xp [(0,_)] J K2 (λa w hs=>Zwr))<|go 2 ?_;refine cl 5 [1,2] (Zl2 fo f e d fl c g q k l m) λ_ _=>go 5 ?_;exact Nn h () results49 J aA Za
theorem Zhd(g:GdT):Xj prog 42 #[Zcx g] [] (.bool (Zb4 g)):=by
 refine Zd func42 ntmps42 λj i h a=>go 2 ?_;refine Zz (Zu 1) λbq _=>go 9<|Zj 6 J (λf=>?_) (λf=>?_)
 .refine go 5<|Zj 11 J (λb=>?_) (λb=>?_)
  .refine go 5<|Zj 16 J (λc=>?_) (λc=>?_)
   .refine go 5<|Zj 21 J (λd=>?_) (λd=>?_)
    .refine go 5<|Zj 26 J (λe=>?_) (λe=>?_)
     .refine go 8 ?_;exact Yx a () results42 (vB (by rw [Znb];first|exact aK O|exact aI O|exact cF.2 O)) aA Za
     .refine go 8 ?_;exact Yx a () results42 (vB (by rw [Znb];first|exact aK O|exact aI O|exact cF.2 O)) aA Za
    .refine go 13 ?_;exact Yx a () results42 (vB (by rw [Znb];first|exact aK O|exact aI O|exact cF.2 O)) aA Za
   .refine go 18 ?_;exact Yx a () results42 (vB (by rw [Znb];first|exact aK O|exact aI O|exact cF.2 O)) aA Za
  .refine go 23 ?_;exact Yx a () results42 (vB (by rw [Znb];first|exact aK O|exact aI O|exact cF.2 O)) aA Za
 .refine go 28 ?_;exact Yx a () results42 (vB (by rw [Znb];first|exact aK O|exact aI O|exact cF.2 O)) aA Za
theorem Zk3(lo hi:Int):Xj prog 44 #[.agg #[.int .i64 lo,.int .i64 hi]] [] (.bool (Bv lo hi)):=by
 refine Zd func44 ntmps44 λf e d a=>go 2 ?_;refine Zz (Zu 1) λbq _=>go 9<|Zj 6 J (λc=>?_) (λc=>?_)
 .refine go 7<|Zj 13 J (λb=>?_) (λb=>?_)
  .refine go 8 ?_;exact Yx a () results44 (vB (by rw [Yii];first|exact aK O|exact aI O|exact cF.2 O)) aA Za
  .refine go 8 ?_;exact Yx a () results44 (vB (by rw [Yii];first|exact aK O|exact aI O|exact cF.2 O)) aA Za
 .refine go 15 ?_;exact Yx a () results44 (vB (by rw [Yii];first|exact aK O|exact aI O|exact cF.2 O)) aA Za
theorem Zvk(a z lo hi:Int)(r:-1073741824<=z/\z<=1073741824)(o:-1073741824<=a/\a<=1073741824)(k:Bv lo hi=true):Xj prog 45 #[.int .i64 a,.int .i64 z,.agg #[.int .i64 lo,.int .i64 hi]] [] (.tuple #[.int .i64 (wnP a z lo hi).1,.int .i64 (wnP a z lo hi).2]):=by
 refine Zd func45 ntmps45 λt s p b=>?_;obtain⟨l,m,n⟩:=Zz5 k;refine go 2<|Zz (Zu 1) λbq _=>go 5<|Pd (λ_=>False) [(0,0),(1,0),(2,0),(3,0),(4,0),(5,3)]<|go 8 ?_;refine jn (G:=Unit) [0,1,9] [0,1] (λ_=>[(8,.int .i64 (max lo a))]) (λ_=>[]) (λ_=>True) ?_ ?_
 .refine go 7<|Zc J (λd=>?_) (λd=>?_)
  .refine go 4 ?_;exact Gd () aA ⟨(aN (λq:Int=>some (Value.int .i64 q)) O),aA⟩ aA
  .refine go 1 ?_;exact Gd () aA ⟨(aN (λq:Int=>some (Value.int .i64 q)) O),aA⟩ aA
 .rintro _ -;refine jn (G:=Unit) [0,1,9] [0,1] (λ_=>[(8,.int .i64 (min (max lo a) z))]) (λ_=>[]) (λ_=>True) ?_ ?_
  .refine go 7<|Zc J (λe=>?_) (λe=>?_)
   .refine go 4 ?_;exact Gd () aA ⟨(aN (λq:Int=>some (Value.int .i64 q)) O),aA⟩ aA
   .refine go 1 ?_;exact Gd () aA ⟨(aN (λq:Int=>some (Value.int .i64 q)) O),aA⟩ aA
  .rintro _ -;refine jn (G:=Unit) [1,8] [0,1] (λ_=>[(9,.int .i64 (max hi a))]) (λ_=>[]) (λ_=>True) ?_ ?_
   .refine go 7<|Zc J (λf=>?_) (λf=>?_)
    .refine go 4 ?_;exact Gd () aA ⟨(aN (λq:Int=>some (Value.int .i64 q)) O),aA⟩ aA
    .refine go 1 ?_;exact Gd () aA ⟨(aN (λq:Int=>some (Value.int .i64 q)) O),aA⟩ aA
   .rintro _ -;refine jn (G:=Unit) [1,8] [0,1] (λ_=>[(9,.int .i64 (min (max hi a) z))]) (λ_=>[]) (λ_=>True) ?_ ?_
    .refine go 7<|Zc J (λg=>?_) (λg=>?_)
     .refine go 4 ?_;exact Gd () aA ⟨(aN (λq:Int=>some (Value.int .i64 q)) O),aA⟩ aA
     .refine go 1 ?_;exact Gd () aA ⟨(aN (λq:Int=>some (Value.int .i64 q)) O),aA⟩ aA
    .rintro _ -;refine go 7<|Zj 33 J (λj=>?_) (λj=>?_)
     .refine go 6<|Zc J (λh=>?_) (λh=>?_)
      .refine go 11 ⟨O,?_⟩;exact Nn b () results45 (by first|(rw [Znw O];done)|(rw [Zny O O];done)|(rw [Znx O O];done)) aA Za
      .refine go 10<|Zc J (λi=>?_) (λi=>?_)
       .refine go 11 ⟨O,?_⟩;exact Nn b () results45 (by first|(rw [Znw O];done)|(rw [Zny O O];done)|(rw [Znx O O];done)) aA Za
       .refine go 11 ?_;exact Nn b () results45 (by first|(rw [Znw O];done)|(rw [Zny O O];done)|(rw [Znx O O];done)) aA Za
     .refine go 17<|Zc J (λc=>?_) (λc=>?_)
      .refine go 11 ⟨O,?_⟩;exact Nn b () results45 (by first|(rw [Znw O];done)|(rw [Zny O O];done)|(rw [Znx O O];done)) aA Za
      .refine go 11 ?_;exact Nn b () results45 (by first|(rw [Znw O];done)|(rw [Zny O O];done)|(rw [Znx O O];done)) aA Za
theorem Yl4:Cal prog 215 #[] [] true (G:=Nat×SL×SL) (λr=>True) (λr=> .map (some r.1)) (λr=>[mro r.1 [(0,.slice none 0 0),(1,Xo r.2.1),(2,Xo r.2.2)],Ys 1 Xf (Xo r.2.1) [1],Ys 1 Xf (Xo r.2.2) Zys]):=by refine Zd func215 ntmps215 λk j a d=>go 7 ?_;refine tt (t_mmi (i:=1) J J J J a.h) (λh _=>?_);refine tt (Ycv 1 J J J J J J (by simp [mfi]) O3 underlying323 underlying150 J a.h aA) (λ_ _=>?_);refine tt (Oe [(0,_)] 2 (enc:=Xf) ([1]:List Int) J J K2 Le ti3 J J J J J pZ.cells J J a.h) (λv _=>?_);refine tt (Ycv 1 J J J J J J (by simp [mfi]) O3 underlying323 underlying150 J a.h aA) (λ_ _=>?_);refine tt (Oe [(0,_),(1,_),(2,_),(3,_),(4,_)] 3 (enc:=Xf) ([0,0,10,-15,6]:List Int) J J K10 Le ti3 J J J J J pZ.cells J J a.h) (λg _=>?_);refine tt (Ycv 1 J J J J J J (by simp [mfi]) O3 underlying323 underlying150 J a.h aA) λ_ _=>go 5 ?_;refine Xg (s_pubm 1 J J)<|Xg (Na 2 J J pZ)<|Znu (Ml 2 J Zk) (λe b=>?_);subst b;refine Xg (Na 3 J J pZ)<|Znu (Ml 3 J Zk) (λf c=>?_);subst c;exact Yx d (_,e,f) results215 J aA (Kd 1 (Kd 2 (Kd 3 Za)))
theorem Zk7(a b:Int)(c:List Int)(t:-4194304<=a/\a<=4194304)(u:-4194304<=b/\b<=4194304)(h:∀f∈c,-15<=f/\f<=15)(x:c.length<=5):Cal prog 216 #[.int .i64 a,.int .i64 b,v] [Ys 1 Xf v c] true (G:=SL) (λr=>True) (λr=>Xo r) (λr=>[Ys 1 Xf (Xo r) (Zaj a b c)]):=by
 refine Zd func216 ntmps216 λD z n j=>go 8 ?_;refine tt (Oe [(0,_)] 2 (enc:=Xf) ([a]:List Int) J J K2 Le ti3 J J J J J pZ.cells J J n.h) λv _=>go 11 ?_;refine Zc J (λg=>?_) (λg=>?_)
 .refine go 8 ?_;refine lp (G:=Nat×Value) [0,1,15,16] [0,1] (λq=>[(17,.int .i64 (q.1:Int)),(7,q.2)]) (λq=>[(2,Ol 1 3 Xf q.2 (a::((c.take q.1).map λf=>f*(b-a))))]) (λq=>q.1<=c.length) (λq=>c.length-q.1) (0,_) O1 K2 K1 ?_;rintro⟨k,B⟩ o;dsimp only at o;dsimp only;refine go 6<|Zc J (λm=>?_) (λm=>?_)
  .refine go 6 ?_;refine dt (Ym 1 k J J J J Zk Le Dx J)<|go 4 ⟨O,?_⟩;have w:=h _ (Zi (zs:=c) (i:=k) (d:=0));have y:=Zse (c.getD k 0) (b-a) ⟨O,O⟩ ⟨O,O⟩;refine go 7 ⟨O,O,?_⟩;refine tt (Oe [(0,_)] 3 (enc:=Xf) ([c.getD k 0*(b-a)]:List Int) J J K2 Le ti3 J J J J J pZ.cells J J n.h) (λp _=>?_);refine tt (Fr 2 3 8 J J J J J J O3 J (Yo pZ) Le ti3 J pZ J J J O9 O3 J n.h) (λs _=>?_);refine go 8 ⟨O,?_⟩;exact Yl (k+1,_) O1 O1 K2 ⟨by rw [trm_s O];rfl,aA⟩
  .refine go 12<|Xg (Na 2 J J pZ) ?_;refine Znu (Ml 2 J Zk) (λl e=>?_);subst e;exact Yx j l results216 J aA (Kd 2 Za (aN (Ys 1 Xf (Xo l)) (trm_n g O).symm))
 .refine go 9<|Xg (Na 2 J J pZ) ?_;refine Znu (Ml 2 J Zk) (λl e=>?_);subst e;exact Yx j l results216 J aA (Kd 2 Za (aN (Ys 1 Xf (Xo l)) (trm_e c (a:=a) (b:=b) O).symm))
theorem gl_leg{fr p k:Int}(o:k=0\/k=1\/k=2)(e:-4194304<=ax/\ax<=4194304)(f:-4194304<=ay/\ay<=4194304)(g:-4194304<=az/\az<=4194304)(h:-4194304<=bx/\bx<=4194304)(b:-4194304<=by_/\by_<=4194304)(j:-4194304<=bz/\bz<=4194304):Cal prog 146 #[.agg #[.int .i64 ax,.int .i64 ay,.int .i64 az],.agg #[.int .i64 bx,.int .i64 by_,.int .i64 bz],.int .i64 fr,.int .i64 p,.int .i64 k] [] true (G:=SL×SL×SL) (λr=>True) (λr=> .agg #[.int .i64 fr,.int .i64 p,.int .i64 1,Xo r.1,Xo r.2.1,Xo r.2.2]) (λr=>[Ys 1 Xf (Xo r.1) (Zaj ax bx (rwK k)),Ys 1 Xf (Xo r.2.1) (Zaj ay by_ (rwK k)),Ys 1 Xf (Xo r.2.2) (Zaj az bz (rwK k))]):=by refine Zd func146 ntmps146 λu t s l=>go 2 ?_;refine Zz (Zu 1) λbq _=>Zz (Zu 2) λm _=>Zz (Zx 3) λn _=>go 4 ?_;refine cl 4 [] Yl4 λrw _=>go 1 ?_;refine dt (d_mlr (i:=4) J J J J underlying323 underlying150 (mf_row o))<|go 4 ?_;refine Zr (s_row o 5 6 60 J J J J)<|Pd (λ_=>False) [(0,0),(1,0),(2,0),(3,0),(4,0),(5,0),(6,0),(8,0),(9,0),(10,0),(11,0),(12,0),(14,0),(15,0),(16,0),(17,0),(18,0),(7,1),(13,1),(19,1),(20,0),(21,3)]<|go 17<|Qk (Zv 7 [60] (Zk7 ax bx (rwK k) e h Zxn Zu3)) λq _=>Qk (Zv 8 [60] (Zk7 ay by_ (rwK k) f b Zxn Zu3)) λc _=>Qk (Zv 9 [60] (Zk7 az bz (rwK k) g j Zxn Zu3)) λd _=>?_;refine Qb J J (Pq (Xp [(0,_),(1,_),(2,_),(3,_),(4,_),(5,_)] J K12 (λa w hs=>Zub ((Zl J) a w hs) ((Zl J) a w hs) ((Zl J) a w hs) ((Ok 7 J Zk) a w hs) ((Ok 8 J Zk) a w hs) ((Ok 9 J Zk) a w hs))))<|go 4 ?_;exact Yx l (q,c,d) results146 J aA (Kd 7 (Kd 8 (Kd 9 Za)))
theorem Yf6{fr g:Int}:Cal prog 145 #[.agg #[.int .i64 ax,.int .i64 ay,.int .i64 az],.agg #[.int .i64 bx,.int .i64 by_,.int .i64 bz],.int .i64 fr,.int .i64 g] [] true (G:=Unit) (λ_=>True) (λ_=> .bool (Zew ax ay az bx by_ bz fr g)) (λ_=>[]):=by
 refine Zd func145 ntmps145 λj i h a=>go 2 ?_;refine Zz (Zu 1) λbq _=>Zz (Zu 2) λf _=>go 6 ?_;refine cl 2 [] (Zht _ _ _) λ_ _=>go 1<|Qc 11 J (λe=>?_) (λe=>?_)
 .refine go 1 ?_;refine Kj 2 [] (Zht _ _ _) λ_ _=>go 2<|Qc 15 J (λb=>?_) (λb=>?_)
  .refine go 4<|Zj 19 J (λc=>?_) (λc=>?_)
   .refine go 5<|Zj 24 J (λd=>?_) (λd=>?_)
    .refine go 7 ?_;exact Yx a () results145 (by first|exact vB (Zsy ‹_›)|exact vB (Zsx ‹_›)|exact vB (Zsw O)|exact vB (Znc ‹_› ‹_› O O)) aA Za
    .refine go 7 ?_;exact Yx a () results145 (by first|exact vB (Zsy ‹_›)|exact vB (Zsx ‹_›)|exact vB (Zsw O)|exact vB (Znc ‹_› ‹_› O O)) aA Za
   .refine go 12 ?_;exact Yx a () results145 (by first|exact vB (Zsy ‹_›)|exact vB (Zsx ‹_›)|exact vB (Zsw O)|exact vB (Znc ‹_› ‹_› O O)) aA Za
  .refine go 16 ?_;exact Yx a () results145 (by first|exact vB (Zsy ‹_›)|exact vB (Zsx ‹_›)|exact vB (Zsw O)|exact vB (Znc ‹_› ‹_› O O)) aA Za
 .refine go 20 ?_;exact Yx a () results145 (by first|exact vB (Zsy ‹_›)|exact vB (Zsx ‹_›)|exact vB (Zsw O)|exact vB (Znc ‹_› ‹_› O O)) aA Za
theorem Yf8{fr d k:Int}(t:k=0\/k=1\/k=2)(j:Zew ax ay az bx by_ bz fr d=true):Cal prog 76 #[.agg #[.int .i64 ax,.int .i64 ay,.int .i64 az],.agg #[.int .i64 bx,.int .i64 by_,.int .i64 bz],.int .i64 fr,.int .i64 d,.int .i64 k] [] true (G:=Value×(SL×SL×SL)) (λr=>True) (λr=> .tuple #[r.1,.int .i64 0]) (λr=>[Qi 6 Pz qG r.1 [glG ax ay az bx by_ bz fr d k r.2]]):=by refine Zd func76 ntmps76 λx w u h=>?_;obtain⟨f,g,-,-,-⟩:=Yl3 j;obtain⟨l,m,n⟩:=Zam f;obtain⟨o,p,s⟩:=Zam g;refine go 2<|Zz (Zu 1) λbq _=>Zz (Zu 2) λi _=>go 11 ?_;refine cl 2 [] Yf6 λ_ _=>?_;refine dt (dF (Yz J J) (aN (λb=>Value.bool (!b)) j))<|go 12 ?_;refine cl 3 [] (gl_leg t ⟨O,O⟩ ⟨O,O⟩ ⟨O,O⟩ ⟨O,O⟩ ⟨O,O⟩ ⟨O,O⟩) λ⟨e,a,c⟩ _=>?_;refine tt (Oe [(0,_)] 6 (enc:=Pz) [glG ax ay az bx by_ bz fr d k (e,a,c)] J J K2 Zfb ti137 J J Ygp J J pG.cells J J u.h) λv _=>go 5 ?_;exact Xg (Na 6 J J pG)<|Xg (On qC 71)<|Xg (Qs (q:=qC) (z:=(glG ax ay az bx by_ bz fr d k (e,a,c)).2.1) 71 3 71 J J J J J)<|Xg (Qs (q:=qC) (z:=(glG ax ay az bx by_ bz fr d k (e,a,c)).2.2.1) 71 4 71 J J J J J)<|Xg (Qs (q:=qC) (z:=(glG ax ay az bx by_ bz fr d k (e,a,c)).2.2.2) 71 5 71 J J J J J)<|Xg (On qG 73)<|Xg (Qs (q:=qG) (z:=(glG ax ay az bx by_ bz fr d k (e,a,c))) 73 71 73 J J J J J)<|Xg (Dz 6 73 72 J J J J)<|Nn h (_,e,a,c) results76 J aA (Kd 72 Za)
theorem Yl5(ax ay az bx by_ bz fr b:Int)(d:Zew ax ay az bx by_ bz fr b=true):Cal prog 151 #[.agg #[.int .i64 ax,.int .i64 ay,.int .i64 az],.agg #[.int .i64 bx,.int .i64 by_,.int .i64 bz],.int .i64 fr,.int .i64 b] [] true (G:=Value×(SL×SL×SL)) (λr=>True) (λr=> .tuple #[r.1,.int .i64 0]) (λr=>[Qi 6 Pz qG r.1 [glG ax ay az bx by_ bz fr b 1 r.2]]):=by refine Zd func151 ntmps151 λg f e a=>go 2 ?_;refine Zz (Zu 1) λbq _=>Zz (Zu 2) λc _=>go 10 ?_;refine cl 3 [] (Yf8 (.inr (.inl J)) d) λ⟨v,q⟩ _=>go 7 ?_;exact Nn a (v,q) results151 J aA (Kd 3 Za)
theorem Yf7(ax ay az fr b:Int)(c:Zew ax ay az ax ay az fr b=true):Cal prog 113 #[.agg #[.int .i64 ax,.int .i64 ay,.int .i64 az],.int .i64 fr,.int .i64 b] [] true (G:=Value×(SL×SL×SL)) (λr=>True) (λr=> .tuple #[r.1,.int .i64 0]) (λr=>[Qi 6 Pz qG r.1 [glG ax ay az ax ay az fr b 0 r.2]]):=by refine Zd func113 ntmps113 λf e d a=>go 2 ?_;refine Zz (Zu 1) λbq _=>go 10 ?_;refine cl 2 [] (Yf8 (.inl J) c) λ⟨v,q⟩ _=>go 7 ?_;exact Nn a (v,q) results113 J aA (Kd 2 Za)
end Go.Sky

