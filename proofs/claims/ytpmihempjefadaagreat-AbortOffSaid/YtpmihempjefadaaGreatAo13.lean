/- Rules, arithmetic and contracts: part 14. No conditions but those that each theorem names. -/
import Derived.Test.YtpmihempjefadaaGreatAo12
import Derived.Laws.IdiomArrays
set_option linter.all false
namespace Go.Sky
open Go.RowKit Below
variable{f:FuncId}{fn:Func}{lb vs lbv:List Value}{pre:List Pc}{M Mf S:Nat->Prop}{W w W':World}{a:Act}{r d gf i:Nat}{ops:Array Oper}{o:Oper}{rest:List Oper}{x:Operand}{ops':List Operand}{tys:Array TypeId}{assign body:Code}{Hn:Hp}{u:Pc}
variable {P:Program} {N:Nat} {sc:Nat->Prop} {env env':Qi} {H H':Hp} {Q Q':Exit->Act->World->Prop} {ds:List Nat}
def kp(W:World)(T:Nat->Prop):Pc:=
 {own:=true,fp:=T,holds:=λw=>(∀b,T b->b<w.heap.size)/\∀b,T b->w.heap[b]? = W.heap[b]?
  lt:=λw b h c=>h.1 b c
  stable:=λw j h e=>⟨λb c=>cZ (h.1 b c) e.size,λb c=>(e.block b (h.1 b c) (λg=>g c)).trans (h.2 b c)⟩ }
def YJK(P:Program)(l:Nat)(M:Nat->Prop)(J:Nat->(Nat->Prop)->World->Prop){α:Type}(xs:List α)(ys:α->List Value):Prop:=
 ∀k x T W,xs[k]? = some x->J k T W->YieldAt Fence.wide 0 P l (ys x).toArray W λe W'=>e= .returned (.bool true)/\Chg (λb=>M b\/T b\/W.heap.size<=b) W W'/\∃c,(∀b,T b->c b)/\(∀b,c b->T b\/W.heap.size<=b)/\J (k+1) c W'
structure StK (n:Nat) (J:Nat->(Nat->Prop)->World->Prop):Prop where
 stay:∀k T W W',J k T W->Chg (λb=>n<=b/\¬T b) W W'->J k T W'
 lt:∀k T W,J k T W->n<=W.heap.size/\∀b,T b->n<=b/\b<W.heap.size
def CalK(P:Program)(f:FuncId)(lb:List Value)(pre:List Pc){α:Type}(xs:List α)(ys:α->List Value):Prop:=
 ∀(l:Nat) (M:Nat->Prop) (J:Nat->(Nat->Prop)->World->Prop) (w:World),
  (∀p∈pre,p.holds w)->(∀p∈pre,∀b,p.fp b->¬M b)->(∀b,M b->b<w.heap.size)->StK w.heap.size J->J 0 (λ_=>False) w->YJK P l M J xs ys->
  Calls P f (.func (.yield l) #[] #[]::lb).toArray w λe c=>(∃v,e= .returned v)/\∃T,J xs.length T c
def Yjl(P:Program)(fn:Func)(n:Nat)(J:Nat->(Nat->Prop)->World->Prop):Exit->Act->World->Prop:=
 bodyPostM Fence.wide 0 P fn λe b=>(∃v,e= .returned v)/\∃T,J n T b
abbrev kO (n:Nat) (M:Nat->Prop) (W:World):Pc:=Zt W (λb=>n<=b\/M b)
abbrev kT (M T:Nat->Prop) (W:World):Pc:=kp W (λb=>M b\/T b)
abbrev noT:Nat->Prop:=λ_=>False
structure HwA:Prop where h:∀{w:World} (b:Nat),w.heap.size<=b->True
def hwA:HwA:=⟨λ_ _=>trivial⟩
theorem Ynt   {c:Code}   {α:Type} {xs:List α} {ys:α->List Value} {N:Nat}
  (hf:P.funcs[f]? = some fn) (g:fn.body=some c) (hN:fn.ntmps=N) (D:Nat.ble (lb.length+1) N=true) (V:AllRo pre)
  (h:∀(l n:Nat) (M:Nat->Prop) (J:Nat->(Nat->Prop)->World->Prop) w0,n=w0.heap.size->(∀b,M b->b<n)->StK n J->J 0 noT w0->YJK P l M J xs ys->
   E P N (λ_=>True) c (Yjl P fn xs.length J) (Qf 0 (.func (.yield l) #[] #[]::lb)) ((0,kO n M w0)::(93,kT M noT w0)::Yg 1 pre)) :
  CalK P f lb pre xs ys:=λl M J w hp hm Z hJ B hY=>by
 refine(callsIn_wide (n:=0)).1 (callsIn_of_wp_marks hf g aA (wpIn_wide.2 (h l _ M J w rfl Z hJ B hY _ w ?_)));have a0:lb.length+1<=N:=by simpa using D
 have y:∀i p,lk ((0,kO w.heap.size M w)::(93,kT M noT w)::Yg 1 pre) i=some p->(i=0/\p=kO w.heap.size M w)\/(i=93/\p=kT M noT w)\/(i≠93/\p∈pre):=λi p hi=>by
  by_cases Y:0=i
  .subst Y;rw [Zm]at hi;cases hi;exact .inl ⟨rfl,rfl⟩
  .rw [Zh Y]at hi;by_cases z:93=i
   .subst z;rw [Zm]at hi;cases hi;exact .inr (.inl ⟨rfl,rfl⟩)
   .rw [Zh z]at hi;exact .inr (.inr ⟨λe=>z e.symm,(Ot pre 1 i p hi).2⟩)
 refine⟨by simp [hN];omega,rfl,λt v ht=>?_,λi p hi=>?_,λi j p q G hi hj I b g m=>?_,λi p a1 hi b g=>trivial⟩
 .have s:=(Hu (.func (.yield l) #[] #[]::lb) 0 t v ht).2;have s:(Value.func (.yield l) #[] #[]::lb).toArray[t]? = some v:=by simpa using s
  have F:=(aO.1 s).1;rw [bK,eQ F,s];rfl
 .rcases y i p hi with⟨rfl,rfl⟩|⟨rfl,rfl⟩|⟨_,k⟩
  .exact Chg.refl _ w
  .exact⟨λb g=>g.elim (Z b) False.elim,λ_ _=>rfl⟩
  .exact hp p k
 .rcases y i p hi with⟨rfl,rfl⟩|⟨rfl,rfl⟩|⟨_,k⟩
  .cases I
  .have g:M b:=g.elim id False.elim;rcases y j q hj with⟨rfl,rfl⟩|⟨rfl,rfl⟩|⟨_,R⟩
   .exact m.2 (.inr g)
   .exact G rfl
   .exact hm q R b m g
  .rw [V.mem p k]at I;cases I
theorem Sat.sinceK{n:Nat}{T:Nat->Prop}(hs:Sat N sc env H a w)(k:lk H 0=some (kO n M W))(c:lk H 93=some (kT M T W)):Chg (λb=>n<=b/\¬T b) W w:=by
 have h:=hs.hold 0 _ k;have e:=hs.hold 93 _ c;refine⟨h.os,h.tape,h.output,h.size,λb l m=>?_⟩;by_cases g:M b
 .exact e.2 b (.inl g)
 .by_cases j:T b
  .exact e.2 b (.inr j)
  .exact h.block b l (λh=>h.elim (λh=>m ⟨h,j⟩) g)
def LR(P:Program)(N:Nat)(sc:Nat->Prop)(r:Nat)(ops:Array Oper)(rest:List Oper)(Q:Exit->Act->World->Prop)(env:Qi)(H:Hp):Prop:=
 ∀a w,Sat N sc env H a w->wpListIn (Fence.wide.inRound r) 0 P ops Q rest a w
def er_lr{id:Nat}{l:List Oper}(h:LR P N sc r l.toArray l Q env H):ER P N sc r (.region id l.toArray false) Q env H:=λa w hs=>
 wpIn_region_lit (h a w hs)
theorem Zo7{v:Value}(j:Ms P N sc o env H v)(g:o.guard=none)(e:o.dst=some d)(c:Nat.blt d N=true)(b:ndB o=true)(h:LR P N sc r ops rest Q ((d,v)::env) H):LR P N sc r ops (o::rest) Q env H:=λa w hs=>by unfold wpListIn;rw [aF (Al g)];refine⟨λ_ _=>trivial,?_⟩;show o.uponIn (Fence.wide.inRound r) 0 P a _ Q ((o.semAt (some r) a.eval).run P w);rw [Oper.semAt_some r _ o (Zdq (ops:=[o]) (by simp [b]) o (bZ.2 rfl)),j a w hs];show wpListIn (Fence.wide.inRound r) 0 P ops Q rest (a.put o.dst v) w;rw [e];exact h _ w (hs.put d v c)
def lr_nil(h:X N sc .normal Q env H):LR P N sc r ops [] Q env H:=λa w hs=>h a w hs
theorem Sat.behK {n:Nat} {T y:Nat->Prop} {z:World}  (hs:Sat N (λ_=>True) env H a z) (B:lk H 0=some (kO n M W)) (Z:lk H 93=some (kT M T W)) (hM:∀b,M b->b<n) (a1:n<=z.heap.size) (hn:n<=W.heap.size)
  (v:Chg (λb=>M b\/T b\/z.heap.size<=b) z W') (hT:∀b,y b->T b\/z.heap.size<=b) (G:∀b,y b->n<=b/\b<W'.heap.size):Sat N (λ_=>True) env ((0,kO n M W')::(93,kT M y W')::H) a W':=by
 have Y:∀i p,lk ((0,kO n M W')::(93,kT M y W')::H) i=some p->(i=0/\p=kO n M W')\/(i=93/\p=kT M y W')\/(i≠0/\i≠93/\lk H i=some p):=λi p hi=>by
  by_cases B:0=i
  .subst B;rw [Zm]at hi;cases hi;exact .inl ⟨rfl,rfl⟩
  .rw [Zh B]at hi;by_cases F:93=i
   .subst F;rw [Zm]at hi;cases hi;exact .inr (.inl ⟨rfl,rfl⟩)
   .rw [Zh F]at hi;exact .inr (.inr ⟨λe=>B e.symm,λe=>F e.symm,hi⟩)
 have l:∀i p,i≠93->lk H i=some p->∀b,p.fp b->¬M b/\¬T b:=λi p F hi b g=>by have:=hs.sep 93 i _ p (λe=>F e.symm) Z hi rfl b;exact⟨λh=>this (.inl h) g,λh=>this (.inr h) g⟩
 refine⟨hs.size,hs.defers,hs.env,λi p hi=>?_,λi j p q t hi R V b g c=>?_,λi p m hi b g=>trivial⟩
 .rcases Y i p hi with⟨rfl,rfl⟩|⟨rfl,rfl⟩|⟨m,s,hi⟩
  .exact Chg.refl _ _
  .exact⟨λb g=>g.elim (λh=>by have:=hM b h;have:=v.size;omega) (λh=>(G b h).2),λ_ _=>rfl⟩
  .refine p.stable _ _ (hs.hold i p hi) ⟨v.os,v.tape,v.output,v.size,λk hk hn=>v.block k hk (λhf=>?_)⟩;have:=l i p s hi k (cN.1 hn);rcases hf with h|h|h
   .exact this.1 h
   .exact this.2 h
   .omega
 .rcases Y i p hi with⟨rfl,rfl⟩|⟨rfl,rfl⟩|⟨m,s,hi⟩<;>rcases Y j q R with⟨rfl,rfl⟩|⟨rfl,rfl⟩|⟨a3,a0,R⟩
  .exact t rfl
  .cases V
  .cases V
  .rcases g with h|h
   .exact c.2 (.inr h)
   .exact c.2 (.inl (G b h).1)
  .exact t rfl
  .have D:=l j q a0 R b c;have h2:=q.lt _ b (hs.hold j q R) c;rcases g with h|h
   .exact D.1 h
   .rcases hT b h with h|h
    .exact D.2 h
    .omega
  .have:=hs.sep i 0 p _ m hi B V b g;obtain⟨a2,I⟩:=c;refine this ⟨?_,I⟩;have:b<n:=by
    rcases aX b n with h|h
    .exact h
    .exact absurd (.inl h) I
   omega
  .have D:=l i p s hi b g;have h2:=p.lt _ b (hs.hold i p hi) g;rcases c with h|h
   .exact D.1 h
   .rcases hT b h with h|h
    .exact D.2 h
    .omega
  .exact hs.sep i j p q t hi R V b g c
theorem Yfw     {l n:Nat}      {T:Nat->Prop} {J:Nat->(Nat->Prop)->World->Prop} {α:Type} {xs:List α} {ys:α->List Value}
  {k:Nat} (y:α) (hY:YJK P l M J xs ys) (g:StK n J) (hy:xs[k]? = some y) (R:J k T W) (Y:∀b,M b->b<n)
  (V:o.op= .call { callee:= .value x,args:=ops'.toArray,argTypes:=tys }) (hg:o.guard=none) (hd:o.dst=some d) (Z:Nat.blt d N=true) (hx:ev env x=some (.func (.yield l) #[] #[])) (m:EvL env ops' vs) (F:vs=ys y)
  (I:lk H 0=some (kO n M W)) (q:lk H 93=some (kT M T W))
  (ht:∀p W',J (k+1) p W'->LR P N (λ_=>True) r ops rest Q ((d,.bool true)::env) ((0,kO n M W')::(93,kT M p W')::H)):LR P N (λ_=>True) r ops (o::rest) Q env H:=λa w hs=>by
 subst F;have t:=g.stay k T W w R (hs.sinceK I q);obtain⟨fn,z,assign,body,v,j⟩:=hY k y T w hy t;have D:(o.semAt (some r) a.eval).run P w= .ok (.round l fn z assign body) w:=by rw [Oper.semAt_some r _ o (by rw [V];exact λc h=>by cases h)];show(execOp a.eval o).run P w=_;have hm:=m.map hs;have G:=hs.ev hx;simp [execOp,V,resolve,invoke,Deferred.ofValue,hm,G,v,Sem.run_bind]
 unfold wpListIn;rw [aF (Al hg)];refine⟨λ_ _=>trivial,?_⟩;show o.uponIn (Fence.wide.inRound r) 0 P a _ Q ((o.semAt (some r) a.eval).run P w);rw [D];refine⟨λh=>(by cases h),j.mono ?_⟩;rintro e W' ⟨rfl,hc,p,a0,B,s⟩;show wpListIn (Fence.wide.inRound r) 0 P ops Q rest (a.put o.dst _) W';rw [hd];exact ht p W' s _ W' ((hs.behK I q Y (g.lt k T w t).1 (g.lt k T W R).1 hc B (g.lt _ p W' s).2).put d _ Z)
theorem Yjq{n m:Nat}{T:Nat->Prop}{J:Nat->(Nat->Prop)->World->Prop}{e:Exit}(D:e= .ret\/e= .normal)(F:fn.results=#[])(c:lk H 91=some (fxs ds))(s:lk H 0=some (kO n M W))(g:lk H 93=some (kT M T W))(j:StK n J)(t:J m T W):XG N sc ds e (Yjl P fn m J) env H:=λa w hs=>by
 have B:(ap ds a).defers=ds.map mrk:=by simp [ap,hs.defers]
 have l:LeavesInM Fence.wide 0 P fn a.tmps (λe q=>(∃v,e= .returned v)/\∃T,J m T q) (ap ds a).defers .returning w:=by
  rw [B];refine Zhd ds w (hs.hold 91 _ c) λq G R V Y Z=>?_;refine⟨_,Zr0 F,⟨_,rfl⟩,T,j.stay m T w q (j.stay m T W w t (hs.sinceK s g)) ⟨R,V,Y,Z,λb hb I=>G b λk=>I ⟨?_,?_⟩⟩⟩
  .have y:=hs.sep 91 0 _ _ O3 c s rfl b k;have z:=hs.sep 91 93 _ _ O3 c g rfl b k;rcases aX b n with h|h
   .exact(y ⟨by have:=(j.lt m T W t).1;omega,λp=>p.elim (λp=>O) (λp=>z (.inl p))⟩).elim
   .exact h
  .exact λh=>hs.sep 91 93 _ _ O3 c g rfl b k (.inr h)
 rcases D with rfl|rfl
 .exact l
 .exact l
theorem eg_rfs {ds:List Nat} {g:Operand}  {ps:List Nat}    {α G:Type} {xs:List α} {ys:α->G->List Value} {I:α->G->List Pc}
  {GG GX:Type} (HH:Nat->GG->Hp) (b5:Nat->GG->Prop) (HX:GX->Hp) (b6:GX->Prop) (c3:GG)
  (hg:ev env g=some (.func (.func gf) #[] lbv.toArray)) (eg:∀args w,(callFunc gf args).run P w= .ok (.enter gf args) w) (hc:Zup P gf lbv pre xs ys I)
  (hp:∀p∈pre,p.own=false/\∃i,lk H i=some p) (h0:∀x R,(ys x R).length=ps.length) (g9:(ps.all λp=>Nat.blt p N)=true)
  (hw:∀b,sc b)
  (d1:b5 0 c3) (a9:HSub (HH 0 c3) H) (hk:∀k y,(∃q,lk (HH k y) 0=some q/\q.own=false)/\lk (HH k y) 92=none) (e9:∀k y,lk (HH k y) 91=some (fxs ds)) (g5:∀Z,(∃q,lk (HX Z) 0=some q/\q.own=false)/\lk (HX Z) 92=none) (d3:∀Z,lk (HX Z) 91=some (fxs ds))
  (b8:∀k x R y,xs[k]? = some x->b5 k y->∀l Mf Wa a W,Sat N sc (renv ps (ys x R) env) ((92,Zt Wa Mf)::adds 100 (I x R) (HH k y)) a W->
   assign.wpIn (Fence.wide.inRound l) 0 P (RAn 92 P N sc l Mf (adds 100 (I x R) (HH k y)) body (HH (k+1)) (b5 (k+1)) HX b6 Wa) a W)
  (hD:∀y D,b5 xs.length y->XG N sc (D::ds) .normal Q env ((91,fxs (D::ds))::HH xs.length y))
  (hX:∀Z D,b6 Z->XG N sc (D::ds) .ret Q env ((91,fxs (D::ds))::HX Z)) :
  EG P N sc ds (.rangeFunc g ps.toArray assign body) Q env H:=λa w hs=>by
 have Y:∀i p,lk H i=some p->∀b,p.fp b->b<w.heap.size:=λi p hi b B=>p.lt w b (hs.hold i p hi) B;refine(wpIn_wide (n:=0)).1 (wpIn_rangeFunc ?_);have e8:∀(Hn:Hp),lk Hn 91=some (fxs ds)->∀W:World,Kps sc w (w.heap.size+2) (Ev (w.heap.size+2) H) Hn W->W.heap[w.heap.size]? = some (.deferred (some []))->Sat N sc env ((91,fxs (w.heap.size::ds))::Hn) { tmps:=a.tmps,defers:=[] } W:=λHn f4 W p3 V=>by
  have c5:¬Ev (w.heap.size+2) H w.heap.size:=λh=>by
   rcases h with⟨i,q,hq,_,hf⟩|h
   .have:=Y i q hq _ hf;omega
   .omega
  exact Zvu (p3.sat (a:={ tmps:=a.tmps,defers:=[] }) hs.size rfl hs.env) f4 V (λi q hq hf=>by
   cases a8:q.own with
   | true=>exact c5 (p3.mf i q hq a8 _ hf)
   | false=>rcases p3.off i q hq a8 _ hf with h|h<;>omega) (hw _)
 intro d8 g3;obtain⟨c,m⟩:∃c:LoopState->Option Code->Loop,c=λst pe=>{ state:=st,pending:=pe,fn:=d8,tmps:=a.tmps,params:=ps.toArray,assign:=assign,body:=body,defers:=w.heap.size }:=⟨_,rfl⟩;obtain⟨W1,b1⟩:∃W1,(w.alloc (.deferred (some []))).alloc (.loop (c .ready none))=W1:=⟨_,rfl⟩;have f9:W1.heap[w.heap.size+1]? = some (.loop (c .ready none)):=by rw [<-b1];have:=World.alloc_heap_new (w.alloc (.deferred (some []))) (.loop (c .ready none));rwa [World.size_alloc]at this
 have f8:W1.heap[w.heap.size]? = some (.deferred (some [])):=by rw [<-b1];exact(Below.heap_alloc _ _ _ O8).trans (World.alloc_heap_new w _)
 have e5:Below w.heap.size w W1:=by rw [<-b1];exact((Below.refl _ w).alloc (aI _) _).alloc O8 _
 have i2:W1.heap.size=w.heap.size+2:=by rw [<-b1];simp
 have e0:(#[.func (.yield (w.heap.size+1)) #[] #[]] ++ lbv.toArray:Array Value)=(Value.func (.yield (w.heap.size+1)) #[] #[]::lbv).toArray:=O8;refine⟨w.heap.size+1,[{ target:= .collected w.heap.size,args:=#[] }],W1,{ target:= .fn (.func gf) lbv.toArray,args:=#[.func (.yield (w.heap.size+1)) #[] #[]] },W1,gf,
  (Value.func (.yield (w.heap.size+1)) #[] #[]::lbv).toArray,W1,?_,?_,λ_ _=>trivial,?_,λh=>(by cases h),?_⟩
 .rw [<-b1,m];exact run_enterLoop_outer _ _ _ _ _
 .simp only [resolve,Zlg (ds:=ds) hs hg];simp [go_sem]
 .simp [invoke,go_sem,eg]
 have b4:∀(Hn:Hp) (r:Loop),Zeh λW=>W.heap[w.heap.size+1]? = some (.loop r)/\W.heap[w.heap.size]? = some (.deferred (some []))/\W1.heap.size<=W.heap.size/\Kps sc w (w.heap.size+2) (Ev (w.heap.size+2) H) Hn W:=λHn r W W' ⟨h1,h2,h3,h4⟩ hB=>
  ⟨(hB.block _ (aO.1 h1).1).trans h1,(hB.block _ (aO.1 h2).1).trans h2,aB h3 hB.size,h4.stays hB⟩
 have g7:¬Ev (w.heap.size+2) H (w.heap.size+1):=λh=>by
  rcases h with⟨i,q,hq,_,hf⟩|h
  .have:=Y i q hq _ hf;omega
  .omega
 have c5:¬Ev (w.heap.size+2) H w.heap.size:=λh=>by
  rcases h with⟨i,q,hq,_,hf⟩|h
  .have:=Y i q hq _ hf;omega
  .omega
 have i1:∀(Hn:Hp) (W:World),Kps sc w (w.heap.size+2) (Ev (w.heap.size+2) H) Hn W->∀(o:Obj),Kps sc w (w.heap.size+2) (Ev (w.heap.size+2) H) Hn (W.putObj w.heap.size o):=λHn W h o=>h.put Y ⟨aI _,O⟩;have b7:∀(Hn:Hp) (W:World),Kps sc w (w.heap.size+2) (Ev (w.heap.size+2) H) Hn W->∀(o:Obj),Kps sc w (w.heap.size+2) (Ev (w.heap.size+2) H) Hn (W.putObj (w.heap.size+1) o):=λHn W h o=>h.put Y ⟨O,O⟩;refine callsIn_wide.2 ((hc (w.heap.size+1) (λb=>(∃i q,lk H i=some q/\q.own=true/\q.fp b)\/b=w.heap.size+1)
  (λk W=>∃y,b5 k y/\(W.heap[w.heap.size+1]? = some (.loop (c .ready none))/\W.heap[w.heap.size]? = some (.deferred (some []))/\W1.heap.size<=W.heap.size/\Kps sc w (w.heap.size+2) (Ev (w.heap.size+2) H) (HH k y) W))
  (λW=>∃Z,b6 Z/\(W.heap[w.heap.size+1]? = some (.loop (c .done (some .ret)))/\W.heap[w.heap.size]? = some (.deferred (some []))/\W1.heap.size<=W.heap.size/\Kps sc w (w.heap.size+2) (Ev (w.heap.size+2) H) (HX Z) W)) W1
  ?_ ?_ ?_ ?_ ?_ ?_).mono ?_)
 .intro p F;obtain⟨ho,i,hi⟩:=hp p F;exact p.stable _ _ (hs.hold i p hi) (Chg.of_below e5)
 .rintro p F b B (⟨i,q,hq,a8,h5⟩|rfl)
  .obtain⟨ho,j,hj⟩:=hp p F;exact hs.sep i j q p (λe=>by subst e;rw [hq]at hj;cases hj;rw [ho]at a8;cases a8) hq hj a8 b h5 B
  .obtain⟨ho,j,hj⟩:=hp p F;have:=Y j p hj _ B;omega
 .rintro k W W' ⟨y,c9,h⟩ hB;exact⟨y,c9,b4 _ _ W W' h hB⟩
 .rintro W W' ⟨Z,c9,h⟩ hB;exact⟨Z,c9,b4 _ _ W W' h hB⟩
 .refine⟨c3,d1,f9,f8,aI _,λi it hi=>it.stable _ _ (hs.hold i it (a9.lk i it hi)) (Chg.of_below e5),λi j it jt d5 hi hj=>hs.sep i j it jt d5 (a9.lk i it hi) (a9.lk j jt hj),
   λi it d1 hi=>hs.scope i it d1 (a9.lk i it hi),λi it hi _ b B=> .inl (Y i it (a9.lk i it hi) b B),λi it hi ho b B=> .inl ⟨i,it,a9.lk i it hi,ho,B⟩⟩
 .rintro k x R hx W Wa ⟨y,a0,hl,hd,f3,a7⟩ i3 hB a2;have f1:Wa.heap[w.heap.size+1]? = some (.loop (c .ready none)):=(hB.block _ O).trans hl;have g1:Wa.heap[w.heap.size]? = some (.deferred (some [])):=(hB.block _ O).trans hd;have hy:=run_yield (P:=P) (args:=(ys x R).toArray) f1 (by rw [m];simp [h0]);have d2:∀p∈I x R,∀b,p.fp b->w.heap.size+2<=b:=λp hp b B=>by have:=(a2 p hp).2.2 b B;omega
  have s1:Sat N sc env (HH k y) { tmps:=a.tmps,defers:=[] } Wa:=(a7.stays hB).sat hs.size rfl hs.env;have s2:Sat N sc env (adds 100 (I x R) (HH k y)) { tmps:=a.tmps,defers:=[] } Wa:=s1.adds (w1:=Wa) _ _ λp F=>⟨(a2 p F).1,(a2 p F).2.1,λb B=>hw b,λj jt hj ho b B b2=>by have h1:=(a2 p F).2.2 b B;have h2:=jt.lt W b (a7.hold j jt hj) b2;omega⟩
  have b9:∀j q,lk (adds 100 (I x R) (HH k y)) j=some q->(q∈I x R)\/lk (HH k y) j=some q:=λj q h=>Zf2 _ _ _ j q h;have F:∀j q,lk (adds 100 (I x R) (HH k y)) j=some q->∀b,q.fp b->q.own=true->Ev (w.heap.size+2) H b:=λj q hj b B ho=>by
   rcases b9 j q hj with h|h
   .rw [(a2 q h).2.1]at ho;cases ho
   .exact a7.mf j q h ho b B
  have c2:∀j q,lk (adds 100 (I x R) (HH k y)) j=some q->∀b,q.fp b->q.own=false->b<w.heap.size\/w.heap.size+2<=b:=λj q hj b B ho=>by
   rcases b9 j q hj with h|h
   .exact .inr (d2 q h b B)
   .exact a7.off j q h ho b B
  have s3:=s2.rounds ps (ys x R) g9;have s4:Sat N sc (renv ps (ys x R) env) ((92,Zt Wa (Ac sc (w.heap.size+2) H))::adds 100 (I x R) (HH k y)) _ Wa:=s3.add 92 (Zt Wa (Ac sc (w.heap.size+2) H)) (Chg.refl _ _) (λj jt d5 hj Lf b B b2=>by
   rcases Lf with h|h
   .cases h
   .exact B.2 (.inl (F j jt hj b b2 h))) (λb B=>cN.1 λhn=>B.2 (.inr hn))
  have d4:¬Ac sc (w.heap.size+2) H (w.heap.size+1):=λh=>h.elim g7 (λhn=>hn (hw _));have e1:¬Ac sc (w.heap.size+2) H w.heap.size:=λh=>h.elim c5 (λhn=>hn (hw _));rw [m]at hy;refine⟨d8,_,assign,body,hy,roundIn_of_wpIn g3 ?_⟩;have hr:=b8 k x R y hx a0 (w.heap.size+1) (Ac sc (w.heap.size+2) H) Wa _ Wa s4;have e3:(ps.toArray.zip (ys x R).toArray).foldl (λt (p,v)=>t.setIfInBounds p v) a.tmps=(ps.zip (ys x R)).foldl (λt pv=>t.setIfInBounds pv.1 pv.2) a.tmps:=O8;have f2:w.heap.size+2<=Wa.heap.size:=by have:=hB.size;omega
  have g4:∀(Hn:Hp),((∃q,lk Hn 0=some q/\q.own=false)/\lk Hn 92=none)->∀q,lk Hn 0=some q->q.own=false:=λHn h q hq=>by obtain⟨q',h1,h2⟩:=h.1;rw [h1]at hq;cases hq;exact h2
  rw [show(ps.toArray.zip (ys x R).toArray).foldl (λt (x:Nat×Value)=>t.setIfInBounds x.1 x.2) a.tmps=(ps.zip (ys x R)).foldl (λt pv=>t.setIfInBounds pv.1 pv.2) a.tmps from e3];refine wpIn_mono hr ?_;rintro e a1 W2 ⟨rfl,d7,H1,f5,e2,f6,a4,c8⟩;have a5:Chg (Ac sc (w.heap.size+2) H) Wa W2:=a4.hold 92 _ (Zm _ _ _);have g6:W2.heap[w.heap.size+1]? = some (.loop (c .ready none)):=(a5.block _ O d4).trans f1;have g2:W2.heap[w.heap.size]? = some (.deferred (some [])):=(a5.block _ O e1).trans g1;have p1:=a4.ps f5 O3 e2 f2 f6 F c2 Y;have h8:Wa.heap.size<=W2.heap.size:=a5.size;obtain⟨s,z⟩:∃s,W2.putObj (w.heap.size+1) (.loop { c .ready none with state:= .busy })=s:=⟨_,rfl⟩;have h7:Sat N sc d7 ((92,Zt s (Ac sc (w.heap.size+2) H))::H1) a1 s:=by
   have p2:=b7 _ _ p1 (.loop { c .ready none with state:= .busy });rw [z]at p2;refine(p2.sat a4.size a4.defers a4.env).add 92 (Zt s (Ac sc (w.heap.size+2) H)) (Chg.refl _ _) (λj jt d5 hj Lf b B b2=>?_) (λb B=>cN.1 λhn=>B.2 (.inr hn));rcases Lf with h|h
   .cases h
   .exact B.2 (.inl (p2.mf j jt hj h b b2))
  have h6:W2.heap.size=s.heap.size:=by rw [<-z];simp
  have c1:s.heap[w.heap.size+1]? = some (.loop { c .ready none with state:= .busy }):=by rw [<-z];exact World.putObj_heap_same O
  have e7:s.heap[w.heap.size]? = some (.deferred (some [])):=by rw [<-z];exact(World.putObj_heap_other O).trans g2
  refine⟨s,by rw [<-z];exact run_beginRound g6 (by rw [m]),wpIn_mono (c8 s ⟨⟨_,c1⟩,d4⟩ a1 s h7) ?_⟩;have c0:∀(Hn:Hp) (env':Qi) (a3:Act) (W3:World),((∃q,lk Hn 0=some q/\q.own=false)/\lk Hn 92=none)->FpM Hn (adds 100 (I x R) (HH k y))->Sat N sc env' ((92,Zt s (Ac sc (w.heap.size+2) H))::Hn) a3 W3->∀(r:Loop),
    W3.heap[w.heap.size+1]? = some (.loop { c .ready none with state:= .busy })/\(((W3.putObj (w.heap.size+1) (.loop r)).heap[w.heap.size+1]? = some (.loop r)/\(W3.putObj (w.heap.size+1) (.loop r)).heap[w.heap.size]? = some (.deferred (some []))/\
     W1.heap.size<=(W3.putObj (w.heap.size+1) (.loop r)).heap.size/\Kps sc w (w.heap.size+2) (Ev (w.heap.size+2) H) Hn (W3.putObj (w.heap.size+1) (.loop r)))/\
     Chg (λb=>((∃i q,lk H i=some q/\q.own=true/\q.fp b)\/b=w.heap.size+1)\/W1.heap.size<=b) Wa (W3.putObj (w.heap.size+1) (.loop r))):=by
   intro Hn env' a3 W3 f0 f7 b0 r;have a6:Chg (Ac sc (w.heap.size+2) H) s W3:=b0.hold 92 _ (Zm _ _ _);have b3:=(a6.block _ O d4).trans c1;have V:=(a6.block _ O e1).trans e7;have i0:=a6.size;have p3:=b0.ps f0.2 O3 (g4 Hn f0) O f7 F c2 Y;refine⟨b3,⟨World.putObj_heap_same O,(World.putObj_heap_other O).trans V,O9,b7 _ _ p3 _⟩,?_⟩;refine⟨?_,?_,?_,O9,λb B hn=>?_⟩
   .exact a6.os.trans ((by rw [<-z];rfl:s.os=W2.os).trans a5.os)
   .exact a6.tape.trans ((by rw [<-z];rfl:s.tape=W2.tape).trans a5.tape)
   .exact a6.output.trans ((by rw [<-z];rfl:s.output=W2.output).trans a5.output)
   .have e6:b≠w.heap.size+1:=λe=>hn (.inl (.inr e));have g0:¬Ev (w.heap.size+2) H b:=λh=>by
     rcases h with h|h
     .exact hn (.inl (.inl h))
     .exact hn (.inr O)
    refine(World.putObj_heap_other e6).trans ?_;have e4:¬Ac sc (w.heap.size+2) H b:=λh=>h.elim g0 (λh=>h (hw b));refine(a6.block b O e4).trans ?_;have:s.heap[b]? = W2.heap[b]?:=by rw [<-z];exact World.putObj_heap_other e6
    exact this.trans (a5.block b B e4)
  rintro e a3 W3 (⟨rfl,d9,d0,c6,env',b0⟩|⟨rfl,Z,d0,c6,env',b0⟩)
  .obtain⟨b3,c7,c4⟩:=c0 _ env' a3 W3 (hk (k+1) d9) c6 b0 (c .ready none);have:=run_endRound (P:=P) none b3;rw [show({ ({ c .ready none with state:= .busy } : Loop)with state:=if(none:Option Code).isNone then LoopState.ready else .done,pending:=none } : Loop)=c .ready none by rw [m];rfl]at this;exact⟨_,_,this,.inl ⟨rfl,⟨d9,d0,c7⟩,c4⟩⟩
  .obtain⟨b3,c7,c4⟩:=c0 _ env' a3 W3 (g5 Z) c6 b0 (c .done (some .ret));have:=run_endRound (P:=P) (some .ret) b3;rw [show({ ({ c .ready none with state:= .busy } : Loop)with state:=if(some Code.ret).isNone then LoopState.ready else .done,pending:=some .ret } : Loop)=c .done (some .ret) by rw [m];rfl]at this;exact⟨_,_,this,.inr ⟨rfl,⟨Z,d0,c7⟩,c4⟩⟩
 .rintro e W2 ⟨⟨v,rfl⟩,⟨y,a0,hl,hd,f3,d6⟩|⟨Z,a0,hl,hd,f3,d6⟩⟩
  .refine⟨none,_,by have:=run_endLoop (P:=P) hl (by rw [m];simp);rw [m]at this;exact this,?_⟩;have p3:=b7 _ _ d6 (.loop (c .exhausted none));have V:(W2.putObj (w.heap.size+1) (.loop (c .exhausted none))).heap[w.heap.size]? = some (.deferred (some [])):=(World.putObj_heap_other O).trans hd;rw [m]at p3 V;have h9:=hD y w.heap.size a0 _ _ (e8 _ (e9 _ y) _ p3 V);simpa [ap,hs.defers]using h9
  .refine⟨some .ret,_,by have:=run_endLoop (P:=P) hl (by rw [m];simp);rw [m]at this;exact this,wpIn_ret ?_⟩;have p3:=b7 _ _ d6 (.loop { c .done (some .ret)with state:= .exhausted });have V:(W2.putObj (w.heap.size+1) (.loop { c .done (some .ret)with state:= .exhausted })).heap[w.heap.size]? = some (.deferred (some [])):=(World.putObj_heap_other O).trans hd;rw [m]at p3 V;have h9:=hX Z w.heap.size a0 _ _ (e8 _ (d3 Z) _ p3 V);simpa [ap,hs.defers]using h9
structure Kpt (sc:Nat->Prop) (w:World) (H:Hp) (T:Nat->Prop) (Hn:Hp) (W:World):Prop where
 hold:∀i it,lk Hn i=some it->it.holds W
 sep:∀i j it jt,i≠j->lk Hn i=some it->lk Hn j=some jt->it.own=true->∀b,it.fp b->jt.fp b->False
 scope:∀i it,i≠0->lk Hn i=some it->∀b,it.fp b->sc b
 off:∀i it,lk Hn i=some it->∀b,it.fp b->b<w.heap.size\/T b
 mf:∀i it,lk Hn i=some it->it.own=true->∀b,it.fp b->(∃i q,lk H i=some q/\q.own=true/\q.fp b)\/T b
theorem Kpt.chg{T:Nat->Prop}(h:Kpt sc w H T Hn W)(c:Chg (λb=>w.heap.size<=b/\¬T b) W W'):Kpt sc w H T Hn W':=
 ⟨λi e hi=>e.stable _ _ (h.hold i e hi) ⟨c.os,c.tape,c.output,c.size,λk j l=>c.block k j (λg=>by
  rcases h.off i e hi k (cN.1 l)with h|h
  .omega
  .exact g.2 h)⟩,h.sep,h.scope,h.off,h.mf⟩
def Kpt.sat{T:Nat->Prop}(h:Kpt sc w H T Hn W)(b:a.tmps.size=N)(c:a.defers=[])(e:∀t v,lk env t=some v->a.tmps.getD t undef=v):Sat N sc env Hn a W:=⟨b,c,e,h.hold,h.sep,h.scope⟩
def RBk(N:Nat)(sc:Nat->Prop)(Mf S:Nat->Prop){c:Type}(j:c->Hp)(b:c->Prop)(g:World):Exit->Act->World->Prop:=λe a W=>
 e= .normal/\∃h,b h/\∃env',Sat N sc env' ((92,Zt g Mf)::(94,kp g S)::j h) a W
def RAk(P:Program)(N:Nat)(sc:Nat->Prop)(l:Nat)(Mf S:Nat->Prop)(body:Code){j:Type}(m:j->Hp)(h:j->Prop)(k:World):Exit->Act->World->Prop:=λe a W=>
 e= .normal/\∃b c,lk c 92=none/\lk c 94=none/\Sat N sc b ((92,Zt k Mf)::(94,kp k S)::c) a W/\
  ∀g,∀a W,Sat N sc b ((92,Zt g Mf)::(94,kp g S)::c) a W->body.wpIn (Fence.wide.inRound l) 0 P (RBk N sc Mf S m h g) a W
theorem Zkx{p q:Pc}(h:lk ((92,p)::(94,q)::H) i=some u):(i=92/\u=p)\/(i=94/\u=q)\/(i≠92/\i≠94/\lk H i=some u):=by
 rcases lk92 h with h|⟨c,h⟩
 .exact .inl h
 .by_cases b:94=i
  .subst b;rw [Zm]at h;cases h;exact .inr (.inl ⟨rfl,rfl⟩)
  .rw [Zh b]at h;exact .inr (.inr ⟨c,λe=>b e.symm,h⟩)
theorem Zds{p q:Pc}(j:lk H 92=none)(g:lk H 94=none)(h:lk H i=some u):i≠92/\i≠94/\lk ((92,p)::(94,q)::H) i=some u:=by
 have b:i≠92:=λe=>by subst e;rw [j]at h;cases h
 have c:i≠94:=λe=>by subst e;rw [g]at h;cases h
 exact⟨b,c,by rw [Zh (λe=>b e.symm),Zh (λe=>c e.symm)];exact h⟩
theorem eg_rfk {g:Operand}  {ps:List Nat}    {α:Type} {xs:List α} {ys:α->List Value} {w0:World}
  {GG:Type} (HH:Nat->GG->Hp) (b7:Nat->GG->Prop) (c4:GG)
  (hg:ev env g=some (.func (.func gf) #[] lbv.toArray)) (eg:∀args w,(callFunc gf args).run P w= .ok (.enter gf args) w) (hc:CalK P gf lbv pre xs ys)
  (hp:∀p∈pre,p.own=false/\∃i,lk H i=some p) (g4:∀x,(ys x).length=ps.length) (g3:(ps.all λp=>Nat.blt p N)=true)
  (hw:∀b,w0.heap.size<=b->sc b) (h0:lk H 0=some (Zt w0 (λ_=>False)))
  (Z:b7 0 c4) (b0:HSub (HH 0 c4) H) (hk:∀k R,Zbs (HH k R) w0) (e8:∀k R,lk (HH k R) 94=none) (e7:∀k R,lk (HH k R) 91=some (fxs ds))
  (c1:∀k x R,xs[k]? = some x->b7 k R->∀l Mf S F a W,Sat N sc (renv ps (ys x) env) ((92,Zt F Mf)::(94,kp F S)::HH k R) a W->
   assign.wpIn (Fence.wide.inRound l) 0 P (RAk P N sc l Mf S body (HH (k+1)) (b7 (k+1)) F) a W)
  (hD:∀R D,b7 xs.length R->XG N sc (D::ds) .normal Q env ((91,fxs (D::ds))::HH xs.length R)) :
  EG P N sc ds (.rangeFunc g ps.toArray assign body) Q env H:=λa w hs=>by
 have d3:∀i p,lk H i=some p->∀b,p.fp b->b<w.heap.size:=λi p hi b c=>p.lt w b (hs.hold i p hi) c;have g7:w0.heap.size<=w.heap.size:=(hs.hold 0 _ h0).size;refine(wpIn_wide (n:=0)).1 (wpIn_rangeFunc ?_);intro d7 f8;obtain⟨B,I⟩:∃B:LoopState->Option Code->Loop,B=λst pe=>{ state:=st,pending:=pe,fn:=d7,tmps:=a.tmps,params:=ps.toArray,assign:=assign,body:=body,defers:=w.heap.size }:=⟨_,rfl⟩;obtain⟨W1,b2⟩:∃W1,(w.alloc (.deferred (some []))).alloc (.loop (B .ready none))=W1:=⟨_,rfl⟩;have f3:W1.heap[w.heap.size+1]? = some (.loop (B .ready none)):=by rw [<-b2];have:=World.alloc_heap_new (w.alloc (.deferred (some []))) (.loop (B .ready none));rwa [World.size_alloc]at this
 have f2:W1.heap[w.heap.size]? = some (.deferred (some [])):=by rw [<-b2];exact(Below.heap_alloc _ _ _ O8).trans (World.alloc_heap_new w _)
 have e5:Below w.heap.size w W1:=by rw [<-b2];exact((Below.refl _ w).alloc (aI _) _).alloc O8 _
 have i1:W1.heap.size=w.heap.size+2:=by rw [<-b2];simp
 have e0:(#[.func (.yield (w.heap.size+1)) #[] #[]] ++ lbv.toArray:Array Value)=(Value.func (.yield (w.heap.size+1)) #[] #[]::lbv).toArray:=O8;refine⟨w.heap.size+1,[{ target:= .collected w.heap.size,args:=#[] }],W1,{ target:= .fn (.func gf) lbv.toArray,args:=#[.func (.yield (w.heap.size+1)) #[] #[]] },W1,gf,
  (Value.func (.yield (w.heap.size+1)) #[] #[]::lbv).toArray,W1,?_,?_,λ_ _=>trivial,?_,λh=>(by cases h),?_⟩
 .rw [<-b2,I];exact run_enterLoop_outer _ _ _ _ _
 .simp only [resolve,Zlg (ds:=ds) hs hg];simp [go_sem]
 .simp [invoke,go_sem,eg]
 have e3:∀x,(ps.toArray.zip (ys x).toArray).foldl (λt (p,v)=>t.setIfInBounds p v) a.tmps=(ps.zip (ys x)).foldl (λt pv=>t.setIfInBounds pv.1 pv.2) a.tmps:=λx=>O8;have c3:∀(T:Nat->Prop) (Hn:Hp) (W:World) (d:Nat) (o:Obj),(∀b,T b->w.heap.size+2<=b)->w.heap.size<=d->d<w.heap.size+2->Kpt sc w H T Hn W->Kpt sc w H T Hn (W.putObj d o):=λT Hn W d o hT h1 h2 h=>
  h.chg ⟨rfl,rfl,rfl,O8,λk hk hn=>World.putObj_heap_other (λe=>hn ⟨O,λf6=>by have:=hT k f6;omega⟩)⟩
 refine callsIn_wide.2 ((hc (w.heap.size+1) (λb=>(∃i q,lk H i=some q/\q.own=true/\q.fp b)\/b=w.heap.size+1)
  (λk T W=>∃R,b7 k R/\(W.heap[w.heap.size+1]? = some (.loop (B .ready none))/\W.heap[w.heap.size]? = some (.deferred (some []))/\W1.heap.size<=W.heap.size/\(∀b,T b->W1.heap.size<=b/\b<W.heap.size)/\Kpt sc w H T (HH k R) W)) W1
  ?_ ?_ ?_ ?_ ?_ ?_).mono ?_)
 .intro p c0;obtain⟨ho,i,hi⟩:=hp p c0;exact p.stable _ _ (hs.hold i p hi) (Chg.of_below e5)
 .rintro p c0 b c (⟨i,q,hq,d5,d4⟩|rfl)
  .obtain⟨ho,j,hj⟩:=hp p c0;exact hs.sep i j q p (λe=>by subst e;rw [hq]at hj;cases hj;rw [ho]at d5;cases d5) hq hj d5 b d4 c
  .obtain⟨ho,j,hj⟩:=hp p c0;have:=d3 j p hj _ c;omega
 .rintro b (⟨i,q,hq,-,d4⟩|rfl)
  .have:=d3 i q hq b d4;omega
  .omega
 .refine⟨?_,?_⟩
  .rintro k T W W' ⟨R,e6,h1,h2,h3,h4,h5⟩ hC;refine⟨R,e6,(hC.block _ (aO.1 h1).1 (λh=>O)).trans h1,(hC.block _ (aO.1 h2).1 (λh=>O)).trans h2,aB h3 hC.size,λb c=>⟨(h4 b c).1,cZ (h4 b c).2 hC.size⟩,h5.chg ⟨hC.os,hC.tape,hC.output,hC.size,λb c hn=>hC.block b c (λh=>hn ⟨O,h.2⟩)⟩⟩
  .rintro k T W ⟨R,e6,h1,h2,h3,h4,h5⟩;exact⟨h3,h4⟩
 .refine⟨c4,Z,f3,f2,aI _,λb c=>c.elim,λi m hi=>m.stable _ _ (hs.hold i m (b0.lk i m hi)) (Chg.of_below e5),λi j m jt a0 hi hj=>hs.sep i j m jt a0 (b0.lk i m hi) (b0.lk j jt hj),
   λi m Z hi=>hs.scope i m Z (b0.lk i m hi),λi m hi b c=> .inl (d3 i m (b0.lk i m hi) b c),λi m hi ho b c=> .inl ⟨i,m,b0.lk i m hi,ho,c⟩⟩
 .rintro k x T F hx ⟨R,b6,hl,hd,g5,hT,a8⟩;have hy:=run_yield (P:=P) (args:=(ys x).toArray) hl (by rw [I];simp [g4]);have a9:∀b,T b->w.heap.size+2<=b:=λb c=>by have:=(hT b c).1;omega
  obtain⟨S,hS⟩:∃S:Nat->Prop,S=λb=>w.heap.size<=b/\b<F.heap.size/\¬T b:=⟨_,rfl⟩;obtain⟨Mf,f4⟩:∃Mf:Nat->Prop,Mf=Ac sc w.heap.size H:=⟨_,rfl⟩;have G:∀b,Mf b↔((∃i q,lk H i=some q/\q.own=true/\q.fp b)\/w.heap.size<=b)\/¬sc b:=λb=>by rw [f4];exact oP
  have V:∀b,S b↔(w.heap.size<=b/\b<F.heap.size/\¬T b):=λb=>by rw [hS]
  have d2:S (w.heap.size+1):=(V _).2 ⟨O,O,λh=>by have:=a9 _ h;omega⟩;have d9:S w.heap.size:=(V _).2 ⟨O,O,λh=>by have:=a9 _ h;omega⟩;have s1:Sat N sc env (HH k R) { tmps:=a.tmps,defers:=[] } F:=a8.sat hs.size rfl hs.env;have s3:=s1.rounds ps (ys x) g3;have h6:=s3.add 94 (kp F S) ⟨λb c=>((V b).1 c).2.1,λ_ _=>rfl⟩ (λj jt a0 hj Lf b c Y=>by
   have h1:=(V b).1 c;rcases a8.off j jt hj b Y with h|h
   .omega
   .exact h1.2.2 h) (λb c=>hw b (by have:=((V b).1 c).1;omega))
  have s4:=h6.add 92 (Zt F Mf) (Chg.refl _ _) (λj jt a0 hj Lf b c Y=>by
   rcases Lf with h|h
   .cases h
   .refine c.2 ((G b).2 ?_);by_cases a5:94=j
    .subst a5;rw [Zm]at hj;cases hj;exact .inl (.inr ((V b).1 Y).1)
    .rw [Zh a5]at hj;rcases a8.mf j jt hj h b Y with h|h
     .exact .inl (.inl h)
     .exact .inl (.inr (by have:=a9 b h;omega))) (λb c=>cN.1 λhn=>c.2 ((G b).2 (.inr hn)))
  rw [I]at hy;refine⟨d7,_,assign,body,hy,roundIn_of_wpIn f8 ?_⟩;have hr:=c1 k x R hx b6 (w.heap.size+1) Mf S F _ F s4;rw [show(ps.toArray.zip (ys x).toArray).foldl (λt (x:Nat×Value)=>t.setIfInBounds x.1 x.2) a.tmps=(ps.zip (ys x)).foldl (λt pv=>t.setIfInBounds pv.1 pv.2) a.tmps from e3 x];refine wpIn_mono hr ?_;rintro e a1 W2 ⟨rfl,d6,H1,b1,a5,s,c7⟩;have b3:Chg Mf F W2:=s.hold 92 _ (Zm _ _ _);have b5:=s.hold 94 _ (by rw [Zh O3,Zm]);have g0:W2.heap[w.heap.size+1]? = some (.loop (B .ready none)):=(b5.2 _ d2).trans hl;have h7:F.heap.size<=W2.heap.size:=b3.size;obtain⟨y,z⟩:∃y,W2.putObj (w.heap.size+1) (.loop { B .ready none with state:= .busy })=y:=⟨_,rfl⟩;have g6:W2.heap.size=y.heap.size:=by rw [<-z];simp
  have e9:y.heap[w.heap.size+1]? = some (.loop { B .ready none with state:= .busy }):=by rw [<-z];exact World.putObj_heap_same O
  have a2:∀b,b≠w.heap.size+1->y.heap[b]? = W2.heap[b]?:=λb c=>by rw [<-z];exact World.putObj_heap_other c
  have g9:Sat N sc d6 ((92,Zt y Mf)::(94,kp y S)::H1) a1 y:=by
   have hh:∀i m,lk H1 i=some m->m.holds y:=λi m hi=>by obtain⟨h1,h2,h3⟩:=Zds (p:=Zt F Mf) (q:=kp F S) b1 a5 hi;refine m.stable _ _ (s.hold i m h3) ⟨by rw [<-z];rfl,by rw [<-z];rfl,by rw [<-z];rfl,O,λb c hn=>a2 b (λe=>?_)⟩;subst e;exact s.sep 94 i _ m (λe=>h2 e.symm) (by rw [Zh O3,Zm]) h3 rfl _ d2 (cN.1 hn)
   refine⟨s.size,s.defers,s.env,λi p hi=>?_,λi j p q a0 hi hj ho b c Y=>?_,λi p Z hi b c=>?_⟩
   .rcases Zkx hi with⟨rfl,rfl⟩|⟨rfl,rfl⟩|⟨_,_,hi⟩
    .exact Chg.refl _ _
    .exact⟨λb c=>by have:=((V b).1 c).2.1;omega,λ_ _=>rfl⟩
    .exact hh i p hi
   .rcases Zkx hi with⟨rfl,rfl⟩|⟨rfl,rfl⟩|⟨h1,h2,c8⟩
    .cases ho
    .rcases Zkx hj with⟨rfl,rfl⟩|⟨rfl,rfl⟩|⟨h3,h4,d0⟩
     .exact Y.2 ((G b).2 (.inl (.inr ((V b).1 c).1)))
     .exact a0 rfl
     .exact s.sep 94 j (kp F S) q a0 (by rw [Zh O3,Zm]) (Zds b1 a5 d0).2.2 rfl b c Y
    .have c9:=(Zds (p:=Zt F Mf) (q:=kp F S) b1 a5 c8).2.2;rcases Zkx hj with⟨rfl,rfl⟩|⟨rfl,rfl⟩|⟨h3,h4,d0⟩
     .refine Y.2 (cN.1 λhn=>?_);rcases aX b F.heap.size with h|h
      .exact s.sep i 92 p _ h1 c9 (Zm _ _ _) ho b c ⟨h,hn⟩
      .exact hn ((G b).2 (.inl (.inr O)))
     .exact s.sep i 94 p (kp F S) h2 c9 (by rw [Zh O3,Zm]) ho b c Y
     .exact s.sep i j p q a0 c9 (Zds b1 a5 d0).2.2 ho b c Y
   .rcases Zkx hi with⟨rfl,rfl⟩|⟨rfl,rfl⟩|⟨h1,h2,c8⟩
    .exact cN.1 λhn=>c.2 ((G b).2 (.inr hn))
    .exact hw b (by have:=((V b).1 c).1;omega)
    .exact s.scope i p Z (Zds (p:=Zt F Mf) (q:=kp F S) b1 a5 c8).2.2 b c
  have i0:¬Mf (w.heap.size+1)->False:=λh=>h ((G _).2 (.inl (.inr O)));refine⟨y,by rw [<-z];exact run_beginRound g0 (by rw [I]),wpIn_mono (c7 y a1 y g9) ?_⟩;rintro e a3 W3 ⟨rfl,a6,f9,env',a4⟩;have b4:Chg Mf y W3:=a4.hold 92 _ (Zm _ _ _);have a7:=a4.hold 94 _ (by rw [Zh O3,Zm]);have g1:W3.heap[w.heap.size+1]? = some (.loop { B .ready none with state:= .busy }):=(a7.2 _ d2).trans e9;have b9:W3.heap[w.heap.size]? = some (.deferred (some [])):=(a7.2 _ d9).trans ((a2 _ O).trans ((b5.2 _ d9).trans hd));have h8:=b4.size;have d1:=hk (k+1) a6;have d8:=e8 (k+1) a6;obtain⟨T',f5⟩:∃T':Nat->Prop,T'=λb=>T b\/(F.heap.size<=b/\b<W3.heap.size):=⟨_,rfl⟩;have b8:∀b,T' b↔(T b\/(F.heap.size<=b/\b<W3.heap.size)):=λb=>by rw [f5]
  have p3:Kpt sc w H T' (HH (k+1) a6) W3:=by
   have hl:∀i m,lk (HH (k+1) a6) i=some m->i≠92/\i≠94/\lk ((92,Zt y Mf)::(94,kp y S)::HH (k+1) a6) i=some m:=λi m hi=>Zds d1.2 d8 hi;have c2:∀i m,lk (HH (k+1) a6) i=some m->∀b,m.fp b->b<w.heap.size\/T' b:=λi m hi b c=>by
    obtain⟨h1,h2,h3⟩:=hl i m hi;have h4:=a4.sep 94 i _ m (λe=>h2 e.symm) (by rw [Zh O3,Zm]) h3 rfl b;have h5:=m.lt W3 b (a4.hold i m h3) c;rcases aX b w.heap.size with h|h
    .exact .inl h
    .refine .inr ((b8 b).2 ?_);by_cases e2:T b
     .exact .inl e2
     .rcases aX b F.heap.size with h'|h'
      .exact(h4 ((V b).2 ⟨h,h',e2⟩) c).elim
      .exact .inr ⟨h',h5⟩
   refine⟨λi m hi=>a4.hold i m (hl i m hi).2.2,λi j m jt a0 hi hj=>a4.sep i j m jt a0 (hl i m hi).2.2 (hl j jt hj).2.2,λi m Z hi=>a4.scope i m Z (hl i m hi).2.2,c2,λi m hi ho b c=>?_⟩;obtain⟨h1,h2,h3⟩:=hl i m hi;have Z:i≠0:=λe=>by subst e;rw [d1.1]at hi;cases hi;cases ho
   have h4:=a4.sep i 92 m _ h1 h3 (Zm _ _ _) ho b c;rcases c2 i m hi b c with h|h
   .have hM:Mf b:=cN.1 λhn=>h4 ⟨O,hn⟩;rcases(G b).1 hM with(h'|h')|h'
    .exact .inl h'
    .omega
    .exact absurd (a4.scope i m Z h3 b c) h'
   .exact .inr h
  have c5:∀b,T' b->w.heap.size+2<=b/\b<W3.heap.size:=λb c=>by
   rcases(b8 b).1 c with h|h
   .have:=hT b h;exact⟨O,O⟩
   .exact⟨O,h.2⟩
  have:=run_endRound (P:=P) none g1;rw [show({ ({ B .ready none with state:= .busy } : Loop)with state:=if(none:Option Code).isNone then LoopState.ready else .done,pending:=none } : Loop)=B .ready none by rw [I];rfl]at this;refine⟨_,_,this,rfl,?_,T',λb c=>(b8 b).2 (.inl c),λb c=>((b8 b).1 c).imp id (λh=>h.1),a6,f9,World.putObj_heap_same O,(World.putObj_heap_other O).trans b9,O9,λb c=>⟨by have:=(c5 b c).1;omega,by simp;exact(c5 b c).2⟩,c3 T' _ W3 _ _ (λb c=>(c5 b c).1) O O p3⟩;have k0:(Zt w0 (λ_=>False)).holds F:=a8.hold 0 _ (hk k R).1;have k3:(Zt w0 (λ_=>False)).holds W3:=p3.hold 0 _ d1.1;refine⟨b4.os.trans ((by rw [<-z];rfl:y.os=W2.os).trans b3.os),b4.tape.trans ((by rw [<-z];rfl:y.tape=W2.tape).trans b3.tape),b4.output.trans ((by rw [<-z];rfl:y.output=W2.output).trans b3.output),O9,λb c hn=>?_⟩;have c6:b≠w.heap.size+1:=λe=>hn (.inl (.inr e));refine(World.putObj_heap_other c6).trans ?_;by_cases f7:w.heap.size<=b
  .have e1:S b:=(V b).2 ⟨f7,c,λh=>hn (.inr (.inl h))⟩;exact(a7.2 b e1).trans ((a2 b c6).trans (b5.2 b e1))
  .by_cases f1:sc b
   .have f0:¬Mf b:=λh=>by
     rcases(G b).1 h with(h|h)|h
     .exact hn (.inl (.inl h))
     .omega
     .exact h f1
    exact(b4.block b O f0).trans ((a2 b c6).trans (b3.block b c f0))
   .have e4:b<w0.heap.size:=by
     rcases aX b w0.heap.size with h|h
     .exact h
     .exact absurd (hw b h) f1
    exact(k3.block b e4 (λh=>h)).trans (k0.block b e4 (λh=>h)).symm
 .rintro e W2 ⟨⟨v,rfl⟩,T,R,b6,hl,hd,g5,hT,g2⟩;have a9:∀b,T b->w.heap.size+2<=b:=λb c=>by have:=(hT b c).1;omega
  refine⟨none,_,by have:=run_endLoop (P:=P) hl (by rw [I];simp);rw [I]at this;exact this,?_⟩;have p3:=c3 T _ W2 (w.heap.size+1) (.loop (B .exhausted none)) a9 O O g2;have b9:(W2.putObj (w.heap.size+1) (.loop (B .exhausted none))).heap[w.heap.size]? = some (.deferred (some [])):=(World.putObj_heap_other O).trans hd;rw [I]at p3 b9;have h9:=hD R w.heap.size b6 _ _ (Zvu (p3.sat (a:={ tmps:=a.tmps,defers:=[] }) hs.size rfl hs.env) (e7 _ R) b9 (λi q hq hf=>by
   rcases p3.off i q hq _ hf with h|h
   .omega
   .have:=a9 _ h;omega) (hw _ g7))
  simpa [ap,hs.defers]using h9
def Ycm{c:Type}{h:c->Hp}{b:c->Prop}{e:World}(g:c)(hi:b g)(j:HSub ((92,Zt e Mf)::(94,kp e S)::h g) H):X N sc .normal (RBk N sc Mf S h b e) env H:=
 λa w hs=>⟨rfl,g,hi,[],hs.weaken aA j⟩
def x_rak {l:Nat}   {k:Type} {m:k->Hp} {g:k->Prop} {h:World} (b:Qi) (c:Hp) (q:Sub b env) (s:HSub ((92,Zt h Mf)::(94,kp h S)::c) H) (n:lk c 92=none) (j:lk c 94=none)
  (p:∀e,ER P N sc l body (RBk N sc Mf S m g e) b ((92,Zt e Mf)::(94,kp e S)::c)):X N sc .normal (RAk P N sc l Mf S body m g h) env H:=
 λa w hs=>⟨rfl,b,c,n,j,hs.weaken q s,λe=>p e⟩
def JnG{G:Type}(N:Nat)(sc:Nat->Prop)(ds:List Nat)(cs:Qi)(e:Hp)(j:G->Qi)(h:G->Hp)(b:G->Prop):Act->World->Prop:=
 λa w=>∃g,b g/\∃c,a=ap ds c/\Sat N sc (j g ++ cs) (h g ++ e) c w
theorem eg_jn {x y:Code} {G:Type} (cs:Qi) (h:Hp) (l:G->Qi) (k:G->Hp) (c:G->Prop) (p:Sub cs env) (n:HSub h H)
  (s:EG P N sc ds x (Exit.then (JnG N sc ds cs h l k c) Q) env H)
  (t:∀g,c g->EG P N sc ds y Q (l g ++ cs) (k g ++ h)):EG P N sc ds (.seq x y) Q env H:=λa w hs=>by
 refine wp_seq (Code.wp_mono (λe a w j=>?_) (s a w hs));cases e with
 | normal=>obtain⟨g,q,m,rfl,b⟩:=j;exact t g q m w b
 | _=>exact j
def xg_jn{G:Type}{cs:Qi}{e:Hp}{j:G->Qi}{h:G->Hp}{c:G->Prop}{g:G}(k:c g)(hs:Sub (j g ++ cs) env)(l:HSub (h g ++ e) H) :
  XG N sc ds .normal (Exit.then (JnG N sc ds cs e j h c) Q) env H:=λa w b=>⟨g,k,a,rfl,b.weaken hs l⟩
def kO_fp{n:Nat}{b:Nat}(e:n<=W.heap.size)(h:(kO n M W').fp b):(kO n M W).fp b:=
 ⟨cZ (Nat.lt_of_not_le λc=>h.2 (.inl c)) e,h.2⟩
end Go.Sky
namespace Go.Sky
variable{t:TypeId}{k i:Nat}{v:Value}{M:Nat->Prop}{o:Oper}{kd:IntKind}{xs:List Yj}{rs:List Lm}{b:Int×Int}
section
variable {P:Program} {N:Nat} {sc:Nat->Prop} {env:Qi} {H:Hp}
def rd_osu{α:Type}{e:TypeId}{enc:α->Value}{xs:List α}(a:Enc P t k enc)(n:Nat)(c:n<=xs.length):Rd (On k e enc v xs) k enc (Af v n k) (xs.drop n):=λw h=>Zg5 n c (Yp a w h)
def OwV(v:Value)(n:Nat):Prop:=∃g c,v= .slice (some ⟨g,0,none⟩) n c/\n<=c
theorem Ykb{n m:Nat}(f:OwV v m)(j:n<m):ead (Af v n k) i k=ead v (i+n) k:=by obtain⟨g,c,rfl,h⟩:=f;have e:c≠n:=O;by_cases a:i*k=0<;>by_cases d:n*k=0<;>simp [ead,Af,e,Addr.add,bL,iB,a,d]
theorem f_osv{α:Type}{e:TypeId}{enc:α->Value}{xs:List α}(i:Nat)(hi:lk H i=some (On k e enc v xs))(n:0<xs.length):∀a w,Sat N sc env H a w->OwV v xs.length:=λa w hs=>by
 have c:w.ownsRow 0 e k v xs.length (cellsOf enc xs):=hs.hold i _ hi;rcases c.2 with⟨rfl,r⟩|⟨g,d,j,rfl,p,q,f,l,m,h⟩
 .omega
 .exact⟨g,d,rfl,f⟩
def t_evM{G:Type}{φ:G->Prop}{d:G->Qi}{e:G->Hp}(h:T P N sc (λ_=>True) o env H φ d e)(n:∀x,M x):T P N sc M o env H φ d e:=λa w hs K Q m=>
 h a w hs K Q λg f q j l c=>m g f q j l ⟨c.os,c.tape,c.output,c.size,λk r p=>absurd (n k) p⟩
theorem Znm (i:Nat)  {x y:Operand} {e:TypeId}  {n m:Nat}  {j:Int} (B:o.op= .indexAddr t x y) (F:ev env x=some (Af v n k)) (G:ev env y=some (.int kd j)) (q:OwV v m) (z:n<m)
  (D:P.underlying t=some (.slice e)) (f:∀w,(sizeOf e).run P w= .ok k w) (d:j=(i:Int)) (u:i+n<m):Ms P N sc o env H (.pointer (some (ead v (i+n) k))):=λa w hs=>by
 have r:=Ykb (k:=k) (i:=i) q z;rw [<-r];obtain⟨g,c,rfl,h⟩:=q;have p:c≠n:=O;have s:i<m-n:=O;subst d;have l:a.eval x= .slice (some ((⟨g,0,none⟩:Addr).add (n*k))) (m-n) (c-n):=by rw [hs.ev F];simp [Af,p]
 simp [execOp,B,l,hs.ev G,Instr.indexAt,asIntOf,run_underlying D,f,s,ead,Af,p]
instance hwT {w0:World} : Hw w0 (λ_=>True):=⟨λ_ _=>trivial⟩
end
def sw2(l:List Yj)(a b:Nat):List Yj:=(l.set a (l.getD b Yr)).set b (l.getD a Yr)
def Zma(xs:List Yj):List Yj:=(List.range xs.length).map λp=>xs.getD ((xs.length-p)%xs.length) Yr
structure RvT (xs:List Yj) (i:Nat) (l:List Yj):Prop where
 len:l.length=xs.length
 at':∀p,p<xs.length->l.getD p Yr=if 1<=p/\(p<=i\/xs.length-p<=i)then xs.getD (xs.length-p) Yr else xs.getD p Yr
theorem rvI_0(xs:List Yj):RvT xs 0 xs:=⟨rfl,λp a=>by rw [aD O]⟩
theorem Zne{l:List Yj}{a p:Nat}{z:Yj}(c:p<l.length):(l.set a z).getD p Yr=if a=p then z else l.getD p Yr:=by
 rw [aE,aE,oA];by_cases h:a=p
 .subst h;simp [c]
 .simp [h]
theorem rvI_s{l:List Yj}(h:RvT xs i l)(hi:i+1<xs.length-1-i):RvT xs (i+1) (sw2 l (i+1) (xs.length-2-i+1)):=by
 have e:=h.len;refine⟨by unfold sw2;rw [bX,bX,e],λp f=>?_⟩;unfold sw2;rw [Zne (by rw [bX];omega),Zne O];by_cases a:xs.length-2-i+1=p
 .rw [aF a,aF O,h.at' _ O,aD O];congr 1;omega
 .rw [aD a];by_cases c:i+1=p
  .rw [aF c,aF O,h.at' _ O,aD O];congr 1;omega
  .rw [aD c,h.at' p f];by_cases d:1<=p/\(p<=i\/xs.length-p<=i)
   .rw [aF d,aF O]
   .rw [aD d,aD O]
theorem rvI_e{l:List Yj}(h:RvT xs i l)(hi:¬i+1<xs.length-1-i):l=Zma xs:=by
 refine gM (by rw [h.len];simp [Zma]) λp a f=>?_;have e:p<xs.length:=by rw [<-h.len];exact a
 have:=h.at' p e;rw [aE,aM a,fC]at this;rw [this];simp only [Zma,List.getElem_map,List.getElem_range];by_cases d:p=0
 .subst d;rw [aD O,iM,Nat.mod_self]
 .rw [aU O];by_cases c:1<=p/\(p<=i\/xs.length-p<=i)
  .rw [aF c]
  .rw [aD c];congr 1;omega
theorem Yeh(xs:List Yj):(Zma xs).length=xs.length:=by simp [Zma]
theorem Yk3(h:xs.all Lq=true):(Zma xs).all Lq=true:=by rw [bF]at h ⊢;intro p a;simp only [Zma,eV,dA]at a;obtain⟨k,c,rfl⟩:=a;exact h _ (Zi (bO _ O))
def orL(i:Nat)(l:List Yj):List Yj:=if(decide (0<ar2 (Pw l)) != decide ((i:Int)=0))=true then Zma l else l
def rgE(rs:List Lm)(i:Nat):List (Yj×Yj):=Pw (orL i (rs.getD i Ia).2)
def Gu(rs:List Lm)(n:Nat):List (Yj×Yj):=(List.range n).flatMap (rgE rs)
theorem Zw0(rs:List Lm)(n:Nat):Gu rs (n+1)=Gu rs n ++ rgE rs n:=by unfold Gu;rw [List.range_succ,List.flatMap_append];simp
theorem Zuj(rs:List Lm)(n:Nat):(Gu rs (n+1)).length=(Gu rs n).length+(rgE rs n).length:=by rw [Zw0,bE]
theorem Zui(rs:List Lm){n:Nat}(h:i<=n):∃t,Gu rs n=Gu rs i ++ t:=by
 induction n with
 | zero=>exact⟨[],by rw [show i=0 by omega];simp⟩
 | succ n d=>
  by_cases a:i=n+1
  .exact⟨[],by rw [a];simp⟩
  .obtain⟨t,c⟩:=d O;exact⟨t ++ rgE rs n,by rw [Zw0,c,dW]⟩
theorem Yn5{n:Nat}{e:Yj×Yj}(h:i<n)(a:(rgE rs i)[k]? = some e):(Gu rs n)[(Gu rs i).length+k]? = some e:=by obtain⟨t,d⟩:=Zui rs (show i+1<=n from h);have c:=(cI.1 a).1;rw [d,Zw0,dW,dP O,Nat.add_sub_cancel_left,cW c,a]
theorem Zx9(i:Nat)(l:List Yj):(orL i l).length=l.length:=by unfold orL;split;exact Yeh l;rfl
theorem orL_pt{l:List Yj}(h:l.all Lq=true):(orL i l).all Lq=true:=by unfold orL;split;exact Yk3 h;exact h
def orL_t{l:List Yj}(h:(decide (0<ar2 (Pw l)) != decide ((i:Int)=0))=true):orL i l=Zma l:=aF h
theorem orL_f{l:List Yj}(h:(decide (0<ar2 (Pw l)) != decide ((i:Int)=0))=false):orL i l=l:=aD (by rw [h];exact bD)
theorem Zw1{n:Nat}{e:Yj×Yj}(c:∀z∈rs,Kz z.2=true)(l:n<=rs.length)(h:(Gu rs n)[k]? = some e):Lq e.1=true/\Lq e.2=true:=by have a:=dU h;unfold Gu at a;obtain⟨i,hi,f⟩:=jH.1 a;have hi:=dA.1 hi;obtain⟨j,g⟩:=fI.1 f;exact Zli (orL_pt (Cr (c _ (Zi (d:=Ia) (show i<rs.length by omega))))) g
theorem Zty{p:Yj}{rs:List Lm}{n:Nat}(d:Lq p=true)(a:∀z∈rs,Kz z.2=true)(c:n<=rs.length):∀k,QIn (d2F p ((Gu rs n).take k))
 | 0=>qin_0
 | k+1=>by
  cases h:(Gu rs n)[k]? with
  | none=>
   rw [List.getElem?_eq_none_iff]at h;rw [cC O,<-cC h];exact Zty d a c k
  | some e=>
   obtain⟨f,g⟩:=Zw1 a c h;rw [Ztx h];exact qin_s (Zty d a c k) (d2b f g d)
theorem qin_c(h:QIn b):b.2=0\/0<b.2:=by have:=h.p;omega
end Go.Sky
namespace Go.Sky
variable{lo a z:Int}{rs:List Lm}
def wiB(n lo hi:Int):Bool:=decide (lo<=n) && decide (n<=hi)
theorem wiB_t{n hi:Int}(h:lo<=n):wiB n lo hi=decide (n<=hi):=by unfold wiB;rw [aJ h];rfl
theorem wiB_f{n hi:Int}(h:¬lo<=n):wiB n lo hi=false:=by unfold wiB;rw [aK h];rfl
theorem Zq2{n hi:Int}(h:wiB n lo hi=true):lo<=n/\n<=hi:=by unfold wiB at h;simpa using h
abbrev GdT:=Int×Int×Int
abbrev Zb4 (g:GdT):Value:= .agg #[.int .i64 g.1,.int .i64 g.2.1,.int .i64 g.2.2]
def Et(g:GdT):Bool:=wiB g.1 0 100000 && (wiB g.2.1 0 100000 && wiB g.2.2 0 3600000)
theorem Ygi{g:GdT}(h:wiB g.1 0 100000=false):Et g=false:=by unfold Et;rw [h];rfl
theorem Ygh{g:GdT}(h:wiB g.2.1 0 100000=false):Et g=false:=by unfold Et;rw [h];simp
theorem Ygg{g:GdT}(h:wiB g.1 0 100000=true)(b:wiB g.2.1 0 100000=true):Et g=wiB g.2.2 0 3600000:=by unfold Et;rw [h,b];rfl
theorem Ygf{g:GdT}(h:Et g=true):(0<=g.1/\g.1<=100000)/\(0<=g.2.1/\g.2.1<=100000)/\(0<=g.2.2/\g.2.2<=3600000):=by unfold Et at h;simp only [aQ]at h;exact⟨Zq2 h.1,Zq2 h.2.1,Zq2 h.2.2⟩
def Cg(lo hi:Int):Bool:=wiB lo (-1073741824) hi && decide (hi<=1073741824)
theorem bds_1{hi:Int}(h:wiB lo (-1073741824) hi=false):Cg lo hi=false:=by unfold Cg;rw [h];rfl
theorem bds_2{hi:Int}(h:wiB lo (-1073741824) hi=true):Cg lo hi=decide (hi<=1073741824):=by unfold Cg;rw [h];rfl
theorem Yaf{hi:Int}(h:Cg lo hi=true):-1073741824<=lo/\lo<=hi/\hi<=1073741824:=by unfold Cg at h;simp only [aQ,cT]at h;exact⟨(Zq2 h.1).1,(Zq2 h.1).2,h.2⟩
def wnF(a z lo hi:Int):Int:=min (max lo a) z
def wnP(a z lo hi:Int):Int×Int:=if min (max lo a) z=min (max hi a) z then(if min (max hi a) z<z then(min (max lo a) z,min (max hi a) z+1)else(min (max lo a) z-1,min (max hi a) z))else(min (max lo a) z,min (max hi a) z)
abbrev wnV (w:Int×Int):Value:= .tuple #[.int .i64 w.1,.int .i64 w.2,.int .i64 0]
theorem Znz{hi:Int}(h:min (max lo a) z=min (max hi a) z)(b:min (max hi a) z<z):wnP a z lo hi=(min (max lo a) z,min (max hi a) z+1):=by unfold wnP;rw [aF h,aF b]
theorem Zny{hi:Int}(h:min (max lo a) z=min (max hi a) z)(b:¬min (max hi a) z<z):wnP a z lo hi=(min (max lo a) z-1,min (max hi a) z):=by unfold wnP;rw [aF h,aD b]
theorem Znx{hi:Int}(h:¬min (max lo a) z=min (max hi a) z):wnP a z lo hi=(min (max lo a) z,min (max hi a) z):=by unfold wnP;rw [aD h]
theorem wn_ok{hi:Int}(h:a<z)(d:lo<=hi):a<=(wnP a z lo hi).1/\(wnP a z lo hi).1<(wnP a z lo hi).2/\(wnP a z lo hi).2<=z:=by
 by_cases b:min (max lo a) z=min (max hi a) z
 .by_cases c:min (max hi a) z<z
  .rw [Znz b c];dsimp only;omega
  .rw [Zny b c];dsimp only;omega
 .rw [Znx b];dsimp only;omega
abbrev qLo (lo:Int) (q:Yj):Yj:=(q.1,q.2.1,lo)
abbrev rsF (fo:SL) (c:List Yj) (b:List Lm):List Lm:=(fo,c)::b
def d2A(fo:SL)(c:List Yj)(b:List Lm)(q:Yj):Int×Int:=d2F q (Gu ((fo,c)::b) ((fo,c)::b).length)
def ouN(d:Int×Int)(e:Int):Bool:=decide ((d.1*Iq (e*e) 1-Ho (e*e) 1*d.2).sign>0)
def ouB(fo:SL)(d:List Yj)(c:List Lm)(fl b:Int)(e:Int)(q:Yj):Bool:=
 if q.2.2<fl-e\/q.2.2>b+e then true else if Zk4 d c fl b (qLo fl q)=true then false else ouN (d2A fo d c (qLo fl q)) e
section
variable {fo:SL} {po:List Yj} {ph:List Lm} {fl fu e:Int} {q:Yj}
theorem Ylg(h:q.2.2<fl-e):ouB fo po ph fl fu e q=true:=by unfold ouB;rw [aF (.inl h)]
theorem Ylf(h:q.2.2>fu+e):ouB fo po ph fl fu e q=true:=by unfold ouB;rw [aF (.inr h)]
theorem Yle(b:¬q.2.2<fl-e)(c:¬q.2.2>fu+e)(h:Zk4 po ph fl fu (qLo fl q)=true):ouB fo po ph fl fu e q=false:=by unfold ouB;rw [aD O,aF h]
theorem Yld(b:¬q.2.2<fl-e)(c:¬q.2.2>fu+e)(h:Zk4 po ph fl fu (qLo fl q)=false):ouB fo po ph fl fu e q=ouN (d2A fo po ph (qLo fl q)) e:=by unfold ouB;rw [aD O,aD (by rw [h];exact bD)]
theorem Ym5{p:Yj}{n:Nat}(d:Lq p=true)(b:∀z∈rs,Kz z.2=true)(c:n<=rs.length):∀k,k<(Gu rs n).length->0<(d2F p ((Gu rs n).take (k+1))).2:=λk l=>by
 have h:=aM l;obtain⟨f,g⟩:=Zw1 b c h;rw [Ztx h];have m:=Zty d b c k;obtain⟨-,-,i⟩:=Yho (d2b f g d);unfold mnq;split
 .exact i
 .rename_i j;rcases qin_c m with h|h
  .exact absurd (.inl h) j
  .exact h
theorem Yn4(c:∀z∈rs,Kz z.2=true){n:Nat}(b:0<n)(j:n<=rs.length):0<(Gu rs n).length:=by
 obtain⟨t,f⟩:=Zui rs (show 1<=n from b);have g:=(Kl (c _ (Zi (d:=Ia) (show 0<rs.length by omega)))).1;have h:=Zuj rs 0;have i:(rgE rs 0).length=(rs.getD 0 Ia).2.length:=by unfold rgE;rw [Di,Zx9]
 rw [f,bE];show 0<(Gu rs (0+1)).length+_;omega
theorem Ygt(b:Cf po ph fl fu=true):∀z∈((fo,po)::ph:List Lm),Kz z.2=true:=λz c=>by
 rcases aZ.1 c with rfl|h
 .exact(Cz b).1
 .exact Zi1 b z h
theorem d2A_ok(h:Cf po ph fl fu=true)(f:Lq q=true):bl (d2A fo po ph q).1.natAbs<=88/\bl (d2A fo po ph q).2.natAbs<=44/\0<(d2A fo po ph q).2:=by have d:=Ygt (fo:=fo) h;have g:=Yn4 d (n:=((fo,po)::ph:List Lm).length) O8 (aI _);have b:=Zty f d (aI _) (Gu ((fo,po)::ph) ((fo,po)::ph:List Lm).length).length;have c:=Ym5 f d (aI _) ((Gu ((fo,po)::ph) ((fo,po)::ph:List Lm).length).length-1) O;rw [nQ g]at c;rw [bT]at b c;exact⟨b.n,b.d,c⟩
theorem qLo_pt(b:Cf po ph fl fu=true)(c:Lq q=true):Lq (qLo fl q)=true:=by obtain⟨d,f,g⟩:=Zan c;obtain⟨-,h,-⟩:=Cz b;show ptB q.1 q.2.1 fl=true;unfold ptB Zmc;simp;omega
theorem ee_b(h:0<=e/\e<=100000):0<=e*e/\e*e<=10000000000:=by
 have b:e.natAbs<=100000:=O;have c:(e*e).natAbs<=100000*100000:=by rw [cH];exact aY b b
 have d:0<=e*e:=dS h.1 h.1;omega
theorem ee_r(h:0<=e/\e<=100000):Ho (e*e) 1=e*e/\Iq (e*e) 1=1:=by have:=ee_b h;exact rn_one ⟨O,O⟩
end
theorem Znb(g:GdT):Et g=decide (0<=g.1/\g.1<=100000/\0<=g.2.1/\g.2.1<=100000/\0<=g.2.2/\g.2.2<=3600000):=by unfold Et wiB;simp only [<-Bool.decide_and];exact cF.2 O
theorem Yit(lo hi:Int):Cg lo hi=decide (-1073741824<=lo/\lo<=hi/\hi<=1073741824):=by unfold Cg wiB;simp only [<-Bool.decide_and];exact cF.2 O
abbrev Fg:=(Int×Int)×Yj
abbrev Zcy (s:Fg):Value:= .agg #[.int .i64 s.1.1,.int .i64 s.1.2,.int .i64 s.2.1,.int .i64 s.2.2.1,.int .i64 s.2.2.2]
def Zjx(s:Fg):Bool:=Cg s.1.1 s.1.2 && Lq s.2
theorem Ydz{s:Fg}(h:Cg s.1.1 s.1.2=true):Zjx s=Lq s.2:=by unfold Zjx;rw [h];rfl
theorem sig_f{s:Fg}(h:Cg s.1.1 s.1.2=false):Zjx s=false:=by unfold Zjx;rw [h];rfl
def nrB(a b:Yj)(m:Int):Bool:=decide (0<=m) && decide (d2V a.1 a.2.1 a.2.2 b.1 b.2.1 b.2.2<=m*m)
end Go.Sky
namespace Go.Sky
def nul(g:Ze):Ze:=(g.1,((none,0,0),g.2.1.2),((none,0,0),g.2.2.1.2),((none,0,0),g.2.2.2.2))
def Zo0{ps b:List Ze}(h:ps.map Ds=b.map Ds):ps.map nul=b.map nul:=by
 have a:∀l:List Ze,l.map nul=(l.map Ds).map λu=>(u.1,((none,0,0),u.2.1),((none,0,0),u.2.2.1),((none,0,0),u.2.2.2)):=λl=>by rw [iC];rfl
 rw [a,a,h]
def Zo1{p:Ze->Bool}(a:∀g,p (nul g)=p g)(ps:List Ze):(ps.map nul).filter p=(ps.filter p).map nul:=by rw [List.filter_map];congr 1;exact aL (λq=>List.filter q ps) (funext a)
def nul_F(ps:List Ze):spF (ps.map nul)=spF ps:=by unfold spF;cases ps<;>rfl
def nul_L(ps:List Ze):spL (ps.map nul)=spL ps:=by unfold spL;rw [aW,aE,aE,eY];cases ps[ps.length-1]?<;>rfl
def Zkl(fr a:Int)(ps:List Ze):Pq fr a (ps.map nul)=Pq fr a ps:=by unfold Pq;rw [Zo1 (λ_=>rfl),List.all_map];rfl
def Yfd(fr a:Int)(ps:List Ze):Bc fr a (ps.map nul)=Bc fr a ps:=by unfold Bc;rw [Zkl,Zo1 (λ_=>rfl),iC];rfl
def Ylm(fr a:Int)(ps:List Ze):inn fr a (ps.map nul)=inn fr a ps:=by unfold inn;rw [Zo1 (λ_=>rfl),iC];rfl
def Zyf(a b:List Ze):Lp (a.map nul) (b.map nul)=Lp a b:=by unfold Lp Zej cmF cmL;simp only [nul_F,nul_L,Ylm]
def Zkm(ts:List Int)(ps:List Ze):∀n,Ze4 ts (ps.map nul) n=Ze4 ts ps n
 | 0=>rfl
 | n+1=>by simp only [Ze4,Zkm ts ps n,Yfd]
def Zm4(ts:List Int)(a b:List Ze):∀n,Ek ts (a.map nul) (b.map nul) n=Ek ts a b n
 | 0=>rfl
 | n+1=>by simp only [Ek,Zm4 ts a b n,Zkl]
def Zsg(a b:List Ze):Bv (a.map nul) (b.map nul)=Bv a b:=by unfold Bv Zt4 cmF cmL;rw [Zyf,Zm4];simp only [nul_F,nul_L]
def Zkk(a b:List Ze):Eg (a.map nul) (b.map nul)=Eg a b:=by unfold Eg;rw [Zsg]
def Yfc(D n d:Int)(a b:List Ze):Gm D n d (a.map nul) (b.map nul)=Gm D n d a b:=by unfold Gm Iu;rw [Zsg,Zyf,Zkm,Zkm]
def Zyg(D n d:Int)(a b:List Ze):apZ D n d (a.map nul) (b.map nul)=apZ D n d a b:=by unfold apZ;rw [Zkk,Yfc]
def apZ_un{D n d:Int}{a a' b c:List Ze}(e:a.map Ds=a'.map Ds)(f:b.map Ds=c.map Ds):apZ D n d a b=apZ D n d a' c:=by rw [<-Zyg D n d a b,<-Zyg D n d a' c,Zo0 e,Zo0 f]
def Ymk{a a' b c:List Ze}(d:a.map Ds=a'.map Ds)(e:b.map Ds=c.map Ds):Eg a b=Eg a' c:=by rw [<-Zkk a b,<-Zkk a' c,Zo0 d,Zo0 e]
def Ygl{a b:Int}(e:-1048576<=a/\a<=1048576)(g:-1048576<=b/\b<=1048576)(k:Int):∀x∈Zak a b (rwK k),Mw x:=by
 intro x c;unfold Zak at c;rcases aZ.1 c with rfl|c
 .exact⟨O,O⟩
 .split at c
  .cases c
  .obtain⟨f,d,rfl⟩:=eV.1 c;have:=Zxt f d;have:=Zsh f (b-a) ⟨O,O⟩ ⟨O,O⟩;exact⟨O,O⟩
def gl_gin{b c d f e g fr a k:Int}(l:ptB b c d=true)(m:ptB f e g=true)(q:0<=fr)(s:fr<a)(t:a<=3600000)(r:SL×SL×SL):Gin (glG b c d f e g fr a k r):=by obtain⟨h,i,j⟩:=Zan l;obtain⟨n,o,p⟩:=Zan m;exact⟨show Mw fr from⟨O,O⟩,show Mw a from⟨O,O⟩,show Mw (1:Int)from⟨O3,O3⟩,Ygl h n k,Ygl i o k,Ygl j p k⟩
def Zy2{b c d f e h fr a k:Int}(m:ptB b c d=true)(n:ptB f e h=true)(i:0<=fr)(j:fr<a)(l:a<=3600000){r:SL×SL×SL}:∀g∈[glG b c d f e h fr a k r],Gin g:=λg o=>by rw [bZ.1 o];exact gl_gin m n i j l r
section
variable {ax ay az bx b2 bz:Int} {D s a T:Nat} (ha:ptB ax ay az=true) (hb:ptB bx b2 bz=true) (hT:1<=T/\T<=3600000)
include ha hb hT
end
end Go.Sky
namespace Go.Sky
section
variable {ax ay az fr to:Int} (ha:ptB ax ay az=true) (h0:0<=fr) (h1:fr<to) (h2:to<=3600000) (r:SL×SL×SL)
include ha h0 h1 h2
theorem hv_seB:seB (glG ax ay az ax ay az fr to 0 r)=true:=by
 obtain⟨a,b,c⟩:=Zan ha;have e:∀x,Zak x x (rwK 0)=glC x x:=λx=>by rw [Ygm];unfold Zak;rw [aF rfl]
 unfold seB Zal Zut glG;dsimp only;rw [e,e,e,Zvv a a,Zvv b b,Zvv c c,Ygo];simp;omega
theorem Zy1:Xn [glG ax ay az ax ay az fr to 0 r]=true:=by have h:Zd4 [glG ax ay az ax ay az fr to 0 r] 0=true:=Zvg (hv_seB ha h0 h1 h2 r) rfl;unfold Xn;simp [h]
end
def lft(u:Zht):Ze:=(u.1,((none,0,0),u.2.1),((none,0,0),u.2.2.1),((none,0,0),u.2.2.2))
theorem lft_un(a:List Zht):(a.map lft).map Ds=a:=by rw [iC];exact nA _
abbrev sl0:SL×SL×SL:=((none,0,0),(none,0,0),(none,0,0))
def Zop(ps:List Ze)(w:Int×Int):List Ze:=(Bc w.1 w.2 ps).map lft
def Zju(q:Yj)(w:Int×Int):List Ze:=[glG q.1 q.2.1 q.2.2 q.1 q.2.1 q.2.2 w.1 w.2 0 sl0]
abbrev Ok (ps:List Ze) (s:Fg):Int×Int:=wnP (spF ps) (spL ps) s.1.1 s.1.2
def Zao(ps:List Ze)(s:Fg):Int:=if Zc4 (Ok ps s).1 (Ok ps s).2 ps=0 then(if Eg (Zop ps (Ok ps s)) (Zju s.2 (Ok ps s))=0 then 0 else 7)else 7
def Zd5(ps:List Ze)(g:GdT)(s:Fg):Bool:=decide (Zc4 (Ok ps s).1 (Ok ps s).2 ps=0) && apZ (g.1+g.2.1+1) 1 1 (Zop ps (Ok ps s)) (Zju s.2 (Ok ps s))
section
variable {ps qs hs:List Ze} {g:GdT} {s:Fg} {r:SL×SL×SL}
theorem Zye(h:Zc4 (Ok ps s).1 (Ok ps s).2 ps≠0):Zao ps s=7/\Zd5 ps g s=false:=by unfold Zao Zd5;rw [aD h,aK h];exact⟨rfl,rfl⟩
theorem Yfb(a:qs.map Ds=Bc (Ok ps s).1 (Ok ps s).2 ps)(r:SL×SL×SL) :
  Eg qs [glG s.2.1 s.2.2.1 s.2.2.2 s.2.1 s.2.2.1 s.2.2.2 (Ok ps s).1 (Ok ps s).2 0 r]=Eg (Zop ps (Ok ps s)) (Zju s.2 (Ok ps s))/\
  apZ (g.1+g.2.1+1) 1 1 qs [glG s.2.1 s.2.2.1 s.2.2.2 s.2.1 s.2.2.1 s.2.2.2 (Ok ps s).1 (Ok ps s).2 0 r]=apZ (g.1+g.2.1+1) 1 1 (Zop ps (Ok ps s)) (Zju s.2 (Ok ps s)):=by
 have h1:qs.map Ds=(Zop ps (Ok ps s)).map Ds:=by unfold Zop;rw [lft_un,a]
 exact⟨Ymk h1 rfl,apZ_un h1 rfl⟩
theorem off_e(h:Zc4 (Ok ps s).1 (Ok ps s).2 ps=0)(h2:Eg (Zop ps (Ok ps s)) (Zju s.2 (Ok ps s))≠0):Zao ps s=7/\Zd5 ps g s=false:=by unfold Zao Zd5;rw [aF h,aD h2,ap_f h2,dH];exact⟨rfl,rfl⟩
theorem off_v(h:Zc4 (Ok ps s).1 (Ok ps s).2 ps=0)(h2:Eg (Zop ps (Ok ps s)) (Zju s.2 (Ok ps s))=0):Zao ps s=0/\Zd5 ps g s=apZ (g.1+g.2.1+1) 1 1 (Zop ps (Ok ps s)) (Zju s.2 (Ok ps s)):=by unfold Zao Zd5;rw [aF h,aF h2,aJ h,fJ];exact⟨rfl,rfl⟩
end
theorem sp_lt{ps:List Ze}(b:∀g∈ps,Gin g)(a:Xn ps=true):spF ps<spL ps:=by have h0:0<ps.length:=(Oi a).2.1;obtain⟨h1,h2⟩:=Yla b a h0;have c:ps.getD 0 G0∈ps:=Zi h0;have s:=Ig (b _ c) ((Fz b a).2.1 _ c);have:=s.t2;omega
structure OffH (ps:List Ze) (s:Fg):Prop where
 r:spF ps<=(Ok ps s).1/\(Ok ps s).1<(Ok ps s).2/\(Ok ps s).2<=spL ps
 b:0<=(Ok ps s).1/\(Ok ps s).2<=3600000
theorem offH (s:Fg){ps:List Ze}(c:∀g∈ps,Gin g)(b:Xn ps=true)(f:Cg s.1.1 s.1.2=true):OffH ps s:=by obtain⟨h1,h2,h⟩:=Yaf f;have a:=wn_ok (sp_lt c b) h2;obtain⟨d,i,j,e⟩:=Ydn c b;exact⟨a,mJ d a.1,mJ a.2.2 e⟩
theorem Yf8{ps:List Ze}{s:Fg}(a:Lq s.2=true)(h:OffH ps s):Zex s.2.1 s.2.2.1 s.2.2.2 s.2.1 s.2.2.1 s.2.2.2 (Ok ps s).1 (Ok ps s).2=true:=by rw [Znc a a h.b.1 h.r.2.1];exact aJ h.b.2
theorem Zyc{ps qs:List Ze}{s:Fg}(b:∀g∈ps,Gin g)(a:Xn ps=true)(h:OffH ps s)(h0:Zc4 (Ok ps s).1 (Ok ps s).2 ps=0)(c:qs.map Ds=Bc (Ok ps s).1 (Ok ps s).2 ps):Pat (Ok ps s).1 (Ok ps s).2 ps qs:=by
 refine lh_pat b a h.r ?_ c;unfold Zc4 at h0;split at h0
 .assumption
 .cases h0
theorem Zyd{fr to:Int}{ps qs:List Ze}(a:ps.length<=5)(h:Pat fr to ps qs):qs.length<=5:=by rw [h.len];exact aB (gR ..) a
theorem Ybd{ps:List Ze}{g:GdT}{s:Fg}(h:(Xn ps && (Et g && Zjx s))=false):Xn ps=false\/(Xn ps=true/\Et g=false)\/(Xn ps=true/\Et g=true/\Cg s.1.1 s.1.2=false)\/(Xn ps=true/\Et g=true/\Cg s.1.1 s.1.2=true/\Lq s.2=false):=by unfold Zjx at h;cases h1:Xn ps<;>cases h2:Et g<;>cases h3:Cg s.1.1 s.1.2<;>cases h4:Lq s.2<;>simp_all
end Go.Sky
namespace Go.Sky
def s7(g:Ze):Bool:=decide (g.2.1.2.length<=7) && decide (g.2.2.1.2.length<=7) && decide (g.2.2.2.2.length<=7)
def sf5(ps:List Ze):Bool:=(List.range ps.length).all λi=>decide (4<i) || s7 (ps.getD i G0)
def sfH(a:List Lm):Bool:=decide (a.length=0) || decide ((a.getD 0 Ia).2.length<=8)
def sfB(ps:List Ze)(b:List Yj)(a:List Lm):Bool:=sf5 ps && (decide (ps.length<=4) && (decide (b.length<=8) && (decide (a.length<=1) && sfH a)))
def s7_t{g:Ze}(a:g.2.1.2.length<=7)(b:g.2.2.1.2.length<=7)(c:g.2.2.2.2.length<=7):s7 g=true:=by unfold s7;rw [aJ a,aJ b,aJ c];rfl
def s7_f{g:Ze}(h:¬(g.2.1.2.length<=7/\g.2.2.1.2.length<=7/\g.2.2.2.2.length<=7)):s7 g=false:=by
 cases hb:s7 g with
 | false=>rfl
 | true=>
  unfold s7 at hb;simp only [aQ,cT]at hb;exact absurd ⟨hb.1.1,hb.1.2,hb.2⟩ h
def sf_f (ps:List Ze)(i:Nat){b:List Yj}{a:List Lm}(hi:i<ps.length)(c:i<=4)(h:s7 (ps.getD i G0)=false):sfB ps b a=false:=by have:sf5 ps=false:=eT.2 ⟨i,dA.2 hi,by rw [h,aK O];decide⟩;unfold sfB;rw [this];rfl
def sf_e{ps:List Ze}{b:List Yj}{a:List Lm}{n:Nat}(c:n=ps.length\/4<n)(h:∀k,k<n->s7 (ps.getD k G0)=true):sfB ps b a=(decide (ps.length<=4) && (decide (b.length<=8) && (decide (a.length<=1) && sfH a))):=by
 unfold sfB;rw [show sf5 ps=true from bF.2 λi hi=>by
  have hi:=dA.1 hi;rcases aX 4 i with q|q
  .rw [aJ q];rfl
  .rw [h i O,oG]]
 rfl
def sf_len{ps:List Ze}{b:List Yj}{a:List Lm}(h:sfB ps b a=true):ps.length<=4/\b.length<=8/\a.length<=1:=by unfold sfB at h;simp only [aQ,cT]at h;exact⟨h.2.1,h.2.2.1,h.2.2.2.1⟩
section
variable {ps:List Ze} {po:List Yj} {ph:List Lm} {n:Nat}
theorem Ykq(a:n=ps.length\/4<n)(h:∀k,k<n->s7 (ps.getD k G0)=true):sfB ps [] []=decide (ps.length<=4):=by rw [sf_e a h];cases decide (ps.length<=4)<;>rfl
end
def dcE(a:Bool)(oe:Int):Int:=if a=true then 0 else oe
def dcV(a:Bool)(oe:Int)(b w:Bool):Int:=if a=true then 3 else if oe≠0 then 0 else if b=true then 2 else if w=true then 1 else 0
theorem dc_2{oe:Int}(a w:Bool)(h:oe≠0):dcV false oe a w=0/\dcE false oe=oe:=by unfold dcV dcE;exact⟨by rw [aD bD,aF h],aD bD⟩
theorem dc_3{oe:Int}(w:Bool)(h:¬oe≠0):dcV false oe true w=2/\dcE false oe=0:=by unfold dcV dcE;exact⟨by rw [aD bD,aD h,aF rfl],by rw [aD bD];omega⟩
theorem dc_4{oe:Int}(h:¬oe≠0):dcV false oe false true=1/\dcE false oe=0:=by unfold dcV dcE;exact⟨by rw [aD bD,aD h,aD bD,aF rfl],by rw [aD bD];omega⟩
theorem dc_5{oe:Int}(h:¬oe≠0):dcV false oe false false=0/\dcE false oe=0:=by unfold dcV dcE;exact⟨by rw [aD bD,aD h,aD bD,aD bD],by rw [aD bD];omega⟩
def wiS(g:GdT)(s:Fg):Bool:=decide (s.1.2-s.1.1>g.2.2)
def wiS_t{g:GdT}{s:Fg}(h:s.1.2-s.1.1>g.2.2):wiS g s=true:=aJ h
def wiS_f{g:GdT}{s:Fg}(h:¬s.1.2-s.1.1>g.2.2):wiS g s=false:=aK h
abbrev dcR (ps:List Ze) (fo:SL) (po:List Yj) (ph:List Lm) (fl a:Int) (g:GdT) (s:Fg):Value:= .tuple #[.int .i64 (dcV (ouB fo po ph fl a g.2.1 s.2) (Zao ps s) (Zd5 ps g s) (wiS g s)),.int .i64 (dcE (ouB fo po ph fl a g.2.1 s.2) (Zao ps s))]
section
variable {ps:List Ze} {fo:SL} {po:List Yj} {ph:List Lm} {fl fu:Int} {g:GdT} {s:Fg}
theorem Ztu(a:ouB fo po ph fl fu g.2.1 s.2=true):Value.tuple #[.int .i64 3,.int .i64 0]=dcR ps fo po ph fl fu g s:=by rw [dcR,a];rfl
theorem Ztt(b:ouB fo po ph fl fu g.2.1 s.2=false)(a:Zao ps s≠0):Value.tuple #[.int .i64 0,.int .i64 (Zao ps s)]=dcR ps fo po ph fl fu g s:=by rw [dcR,b,(dc_2 _ _ a).1,(dc_2 false false a).2]
theorem Zts(b:ouB fo po ph fl fu g.2.1 s.2=false)(a:¬Zao ps s≠0)(c:Zd5 ps g s=true):Value.tuple #[.int .i64 2,.int .i64 0]=dcR ps fo po ph fl fu g s:=by rw [dcR,b,c,(dc_3 _ a).1,(dc_3 false a).2]
theorem Ztr(b:ouB fo po ph fl fu g.2.1 s.2=false)(a:¬Zao ps s≠0)(c:Zd5 ps g s=false)(d:s.1.2-s.1.1>g.2.2):Value.tuple #[.int .i64 1,.int .i64 0]=dcR ps fo po ph fl fu g s:=by rw [dcR,b,c,wiS_t d,(dc_4 a).1,(dc_4 a).2]
theorem Ztq(b:ouB fo po ph fl fu g.2.1 s.2=false)(a:¬Zao ps s≠0)(c:Zd5 ps g s=false)(d:¬s.1.2-s.1.1>g.2.2):Value.tuple #[.int .i64 0,.int .i64 0]=dcR ps fo po ph fl fu g s:=by rw [dcR,b,c,wiS_f d,(dc_5 a).1,(dc_5 a).2]
end
end Go.Sky
namespace Go.Sky
variable{sc:Nat->Prop}{i:Nat}
theorem s_dnil{β:Type}{N:Nat}{env:Qi}{H:Hp}(k:Nat)(enc:β->Value)(q:β->Pc)(i:Nat):∀a w,Sat N sc env H a w->Sat N sc env ((i,Qj k enc q (Xp (none,0,0)) [])::H) a w:=λa w hs=>
 hs.add i _ ⟨Bg k enc w,λz d=>by cases d⟩ (λf g _ _ Lf b c e=>by
  rcases c with c|⟨z,d,_⟩
  .exact absurd rfl c.1
  .cases d) (λb c=>by
  rcases c with c|⟨z,d,_⟩
  .exact absurd rfl c.1
  .cases d)
abbrev Yhi (b:Int×Int):Value:= .agg #[.int .i64 b.1,.int .i64 b.2]
abbrev exG (q:SL×SL×SL):Ze:=glG 0 0 100 1000 0 100 0 10000 1 q
def Zlf:List Yj:=[(-50,-50,0),(1050,-50,0),(1050,50,0),(-50,50,0)]
abbrev gd5:GdT:=(20,5,500)
def xB:List (Int×Int):=[(100,200),(300,300),(10000,12000)]
def xV:List Yj:=[(100,0,126),(105,0,125),(140,0,100)]
def xW:List Yj:=[(500,55,100),(500,56,100),(500,0,206)]
def lt3(h:i<3):i=0\/i=1\/i=2:=O
section
variable (q:SL×SL×SL)
theorem Yl8:∀g∈[exG q],Gin g:=λg b=>by rw [bZ.1 b];exact⟨show Mw (0:Int)from⟨O3,O3⟩,show Mw (10000:Int)from⟨O3,O3⟩,show Mw (1:Int)from⟨O3,O3⟩,show ∀a∈Zak 0 1000 (rwK 1),Mw a from Zhf O3,show ∀a∈Zak 0 0 (rwK 1),Mw a from Zhf O3,show ∀a∈Zak 100 100 (rwK 1),Mw a from Zhf O3⟩
def Yl7:Xn [exG q]=true:=O6
def kx_f:Cf Zlf [] 0 200=true:=O6
def Zyy:Et gd5=true:=O6
theorem kx_b(h:i<3):Cg (xB.getD i (0,0)).1 (xB.getD i (0,0)).2=true:=by rcases lt3 h with rfl|rfl|rfl<;>kernel_rfl
theorem kx_w(h:i<3):(wnP (spF [exG q]) (spL [exG q]) (xB.getD i (0,0)).1 (xB.getD i (0,0)).2).1=([100,300,9999]:List Int).getD i 0/\(wnP (spF [exG q]) (spL [exG q]) (xB.getD i (0,0)).1 (xB.getD i (0,0)).2).2=([200,301,10000]:List Int).getD i 0:=by rcases lt3 h with rfl|rfl|rfl<;>exact⟨O6,O6⟩
theorem kx_v(h:i<3):Lq (xV.getD i Yr)=true:=by rcases lt3 h with rfl|rfl|rfl<;>kernel_rfl
theorem kx_oe(h:i<3):Zao [exG q] ((1000,1100),xV.getD i Yr)=0:=by rcases lt3 h with rfl|rfl|rfl<;>kernel_rfl
theorem kx_ov(h:i<3):Zd5 [exG q] gd5 ((1000,1100),xV.getD i Yr)=decide ((i:Int)≠1):=by rcases lt3 h with rfl|rfl|rfl<;>kernel_rfl
theorem kx_u(h:i<3):Lq (xW.getD i Yr)=true:=by rcases lt3 h with rfl|rfl|rfl<;>kernel_rfl
theorem kx_ou{fo:SL}(h:i<3):ouB fo Zlf [] 0 200 5 (xW.getD i Yr)=decide ((i:Int)>0):=by rcases lt3 h with rfl|rfl|rfl<;>kernel_rfl
def kx_d1(fo:SL):dcV (ouB fo Zlf [] 0 200 5 (100,0,100)) (Zao [exG q] ((1000,1600),(100,0,100))) (Zd5 [exG q] gd5 ((1000,1600),(100,0,100))) (wiS gd5 ((1000,1600),(100,0,100)))=1/\dcE (ouB fo Zlf [] 0 200 5 (100,0,100)) (Zao [exG q] ((1000,1600),(100,0,100)))=0:=⟨O6,O6⟩
def kx_d2(fo:SL):dcV (ouB fo Zlf [] 0 200 5 (100,0,100)) (Zao [exG q] ((1000,1400),(100,0,100))) (Zd5 [exG q] gd5 ((1000,1400),(100,0,100))) (wiS gd5 ((1000,1400),(100,0,100)))=0/\dcE (ouB fo Zlf [] 0 200 5 (100,0,100)) (Zao [exG q] ((1000,1400),(100,0,100)))=0:=⟨O6,O6⟩
end
end Go.Sky
namespace Go.Sky
open Go.ChangeShapes Go.WideShapes Go.ChangeAt Go.RowKit Go.Joins Go.Deep
open Go.Proofs
variable{t ti:TypeId}{cs:List Value}{fuel:Nat}
variable {P:Program} {W:World} {H:Type} {enc:TypeId×Value->H}
theorem Yel  {f0 f1 f2:Field}   {x:DataW H×List MemPlace} (q:P.underlying t=some (.struct #[f0,f1,f2])) (p:P.cellsOf t=3) (l:f0.type=ti) (m:f1.type=ti) (o:f2.type=ti) (v:f0.offset=0) (w:f1.offset=1) (y:f2.offset=2)
  (hi:P.underlying ti=some (.int .i64)) (a:P.cellsOf ti=1) (h:DataW.trod enc P W 0 (λ_=>true) true fuel t cs=some x):∃z:Yj,cs=[.int .i64 z.1,.int .i64 z.2.1,.int .i64 z.2.2]:=by
 obtain⟨B,n,_,I,g,c,b⟩:=DataW.trod_struct q h;rw [p]at g
 match cs,g with
 | [D,F,G],_=>
 match B,c with
 | [R,S,V],_=>
 have d:=b 0 f0 rfl;have e:=b 1 f1 rfl;have f:=b 2 f2 rfl;rw [l,v,a]at d;rw [m,w,a]at e;rw [o,y,a]at f;obtain⟨r,i,M⟩:=DataW.trod_int hi d;obtain⟨s,j,N⟩:=DataW.trod_int hi e;obtain⟨u,k,Q⟩:=DataW.trod_int hi f;simp at i j k;subst i;subst j;subst k;exact⟨(r,s,u),rfl⟩
instance:Inhabited Yj:=⟨Yr⟩
instance:Inhabited Lm:=⟨Ia⟩
theorem Zrj {j k:TypeId} {f0 f1 c d e f g:Field}   {x:DataW H×List MemPlace} (G:P.underlying t=some (.struct #[f0,f1])) (y:P.cellsOf t=5) (Q:f0.offset=0) (R:f1.offset=2) (t0:f0.type=j) (t1:f1.type=k) (i:P.cellsOf j=2) (b:P.cellsOf k=3)
  (B:P.underlying j=some (.struct #[c,d])) (x0:c.type=ti) (x1:d.type=ti) (v0:c.offset=0) (v1:d.offset=1) (F:P.underlying k=some (.struct #[e,f,g])) (S:e.type=ti) (V:f.type=ti) (Y:g.type=ti) (Z:e.offset=0) (u1:f.offset=1) (u2:g.offset=2)
  (hi:P.underlying ti=some (.int .i64)) (a:P.cellsOf ti=1) (h:DataW.trod enc P W 0 (λ_=>true) true fuel t cs=some x):∃s:Fg,cs=[.int .i64 s.1.1,.int .i64 s.1.2,.int .i64 s.2.1,.int .i64 s.2.2.1,.int .i64 s.2.2.2]:=by
 obtain⟨y0,y1,n,hx,p,l,o⟩:=trod_struct2 G h;rw [y]at p
 match cs,p with
 | [c0,c1,c2,c3,c4],_=>
 rw [t0,Q,i]at l;rw [t1,R,b]at o;obtain⟨z0,z1,m,I,D,r,u⟩:=trod_struct2 B l;rw [x0,v0,a]at r;rw [x1,v1,a]at u;obtain⟨M,v,w0⟩:=DataW.trod_int hi r;obtain⟨N,w,w1⟩:=DataW.trod_int hi u;obtain⟨z,q⟩:=Yel F b S V Y Z u1 u2 hi a o;simp at v w q;obtain⟨rfl,rfl,rfl⟩:=q;subst v;subst w;exact⟨((M,N),z),rfl⟩
theorem Zvf {m n:TypeId} {f0 f1 a c e f g:Field} {v:Value} {d:DataW H} {p:List MemPlace} (o:P.underlying t=some (.struct #[f0,f1])) (q:P.cellsOf t=5) (B:f0.offset=0) (D:f1.offset=2) (t0:f0.type=m) (t1:f1.type=n) (i:P.cellsOf m=2) (j:P.cellsOf n=3)
  (u:P.underlying m=some (.struct #[a,c])) (V:a.type=ti) (Y:c.type=ti) (R:a.offset=0) (S:c.offset=1) (x:P.underlying n=some (.struct #[e,f,g])) (F:e.type=ti) (G:f.type=ti) (I:g.type=ti) (M:e.offset=0) (N:f.offset=1) (Q:g.offset=2)
  (hi:P.underlying ti=some (.int .i64)) (k:P.cellsOf ti=1) {r:Reach} {b:Nat} (z:Value.okWide P W r b t v) (h:DataW.Trod enc P W 0 (λ_=>true) true t v d p):∃s:Fg,v=Zcy s:=by
 obtain⟨cs,rfl,y⟩:=okWide_struct o z;obtain⟨fuel,w⟩:=h;obtain⟨s,hs⟩:=Zrj o q B D t0 t1 i j u V Y R S x F G I M N Q hi k w;obtain⟨l⟩:=cs;simp [Value.cells]at hs;subst hs;exact⟨s,rfl⟩
instance:Inhabited Fg:=⟨((0,0),Yr)⟩
end Go.Sky
namespace Go.Proofs.YtpmihempjefadaaGreat
open Go Go.Joins Go.Sky
def Lk{a b:Bool}(h:a=true)(c:b=true):(a && b)=true:=by rw [h,c];rfl
def cf0:(λ(P:Program) (f:FuncId) (fn:Func) (s:ChangeSpec) (c:OpenClaim)=>c.wf (OpenSpec.ofChange s)) Tryz.checked.prog 9 Tryz.f9 Rows.abortOffSpec Rows.abortOffRow=true:=O6
def cf1:(λ(P:Program) (f:FuncId) (fn:Func) (s:ChangeSpec) (c:OpenClaim)=>laidOutB P) Tryz.checked.prog 9 Tryz.f9 Rows.abortOffSpec Rows.abortOffRow=true:=O6
def cf2:(λ(P:Program) (f:FuncId) (fn:Func) (s:ChangeSpec) (c:OpenClaim)=>mapsRowed P) Tryz.checked.prog 9 Tryz.f9 Rows.abortOffSpec Rows.abortOffRow=true:=O6
def cf3:(λ(P:Program) (f:FuncId) (fn:Func) (s:ChangeSpec) (c:OpenClaim)=>fn.params.all (P.readableRec ·)) Tryz.checked.prog 9 Tryz.f9 Rows.abortOffSpec Rows.abortOffRow=true:=O6
def cf4:(λ(P:Program) (f:FuncId) (fn:Func) (s:ChangeSpec) (c:OpenClaim)=>namedTie P c.named s.vars) Tryz.checked.prog 9 Tryz.f9 Rows.abortOffSpec Rows.abortOffRow=true:=O6
def cf5:(λ(P:Program) (f:FuncId) (fn:Func) (s:ChangeSpec) (c:OpenClaim)=>c.stops == []) Tryz.checked.prog 9 Tryz.f9 Rows.abortOffSpec Rows.abortOffRow=true:=O6
def cf6:(λ(P:Program) (f:FuncId) (fn:Func) (s:ChangeSpec) (c:OpenClaim)=>P.stops == []) Tryz.checked.prog 9 Tryz.f9 Rows.abortOffSpec Rows.abortOffRow=true:=O6
def cf7:(λ(P:Program) (f:FuncId) (fn:Func) (s:ChangeSpec) (c:OpenClaim)=>c.knobs == []) Tryz.checked.prog 9 Tryz.f9 Rows.abortOffSpec Rows.abortOffRow=true:=O6
def cf8:(λ(P:Program) (f:FuncId) (fn:Func) (s:ChangeSpec) (c:OpenClaim)=>P.stopKnobs == []) Tryz.checked.prog 9 Tryz.f9 Rows.abortOffSpec Rows.abortOffRow=true:=O6
def cf9:(λ(P:Program) (f:FuncId) (fn:Func) (s:ChangeSpec) (c:OpenClaim)=>c.inPlace == P.inPlace f) Tryz.checked.prog 9 Tryz.f9 Rows.abortOffSpec Rows.abortOffRow=true:=O6
def cf10:(λ(P:Program) (f:FuncId) (fn:Func) (s:ChangeSpec) (c:OpenClaim)=>c.unfollowed == P.unfollowed f) Tryz.checked.prog 9 Tryz.f9 Rows.abortOffSpec Rows.abortOffRow=true:=O6
def cf11:(λ(P:Program) (f:FuncId) (fn:Func) (s:ChangeSpec) (c:OpenClaim)=>c.recurses == P.recurses f) Tryz.checked.prog 9 Tryz.f9 Rows.abortOffSpec Rows.abortOffRow=true:=O6
def cf12:(λ(P:Program) (f:FuncId) (fn:Func) (s:ChangeSpec) (c:OpenClaim)=>c.named == P.varsNamed f) Tryz.checked.prog 9 Tryz.f9 Rows.abortOffSpec Rows.abortOffRow=true:=O6
def cf13:(λ(P:Program) (f:FuncId) (fn:Func) (s:ChangeSpec) (c:OpenClaim)=>(c.maps == (fn.params.toList ++ s.plain.varTypes P).any (P.mapsRec ·))) Tryz.checked.prog 9 Tryz.f9 Rows.abortOffSpec Rows.abortOffRow=true:=O6
def cf14:(λ(P:Program) (f:FuncId) (fn:Func) (s:ChangeSpec) (c:OpenClaim)=>(c.ifaces == (fn.params.toList ++ s.plain.varTypes P).any (P.ifacesRec ·))) Tryz.checked.prog 9 Tryz.f9 Rows.abortOffSpec Rows.abortOffRow=true:=O6
def cf15:(λ(P:Program) (f:FuncId) (fn:Func) (s:ChangeSpec) (c:OpenClaim)=>c.mapsOut == P.mapsAmong fn.resultTypes.toList) Tryz.checked.prog 9 Tryz.f9 Rows.abortOffSpec Rows.abortOffRow=true:=O6
def cf16:(λ(P:Program) (f:FuncId) (fn:Func) (s:ChangeSpec) (c:OpenClaim)=>(c.loops == (fn.params.toList ++ s.plain.varTypes P).any (P.loopsFrom ·))) Tryz.checked.prog 9 Tryz.f9 Rows.abortOffSpec Rows.abortOffRow=true:=O6
def cf17:(λ(P:Program) (f:FuncId) (fn:Func) (s:ChangeSpec) (c:OpenClaim)=>(c.wideKeys == (fn.params.toList ++ s.plain.varTypes P ++ fn.resultTypes.toList).any (P.wideKeysFrom ·))) Tryz.checked.prog 9 Tryz.f9 Rows.abortOffSpec Rows.abortOffRow=true:=O6
def cf18:(λ(P:Program) (f:FuncId) (fn:Func) (s:ChangeSpec) (c:OpenClaim)=>s.vars.all (P.varReadable ·)) Tryz.checked.prog 9 Tryz.f9 Rows.abortOffSpec Rows.abortOffRow=true:=O6
def cf19:(λ(P:Program) (f:FuncId) (fn:Func) (s:ChangeSpec) (c:OpenClaim)=>fn.resultTypes.all (λt=>P.readableRec t && decide (t<P.types.size))) Tryz.checked.prog 9 Tryz.f9 Rows.abortOffSpec Rows.abortOffRow=true:=O6
def cf20:(λ(P:Program) (f:FuncId) (fn:Func) (s:ChangeSpec) (c:OpenClaim)=>(c.ifacesOut == fn.resultTypes.toList.any (P.ifacesRec ·))) Tryz.checked.prog 9 Tryz.f9 Rows.abortOffSpec Rows.abortOffRow=true:=O6
def cf21:(λ(P:Program) (f:FuncId) (fn:Func) (s:ChangeSpec) (c:OpenClaim)=>(c.loopsOut == fn.resultTypes.toList.any (P.loopsFrom ·))) Tryz.checked.prog 9 Tryz.f9 Rows.abortOffSpec Rows.abortOffRow=true:=O6
def cf22:(λ(P:Program) (f:FuncId) (fn:Func) (s:ChangeSpec) (c:OpenClaim)=>c.plainKeys == P.plainKeys) Tryz.checked.prog 9 Tryz.f9 Rows.abortOffSpec Rows.abortOffRow=true:=O6
def cf23:(λ(P:Program) (f:FuncId) (fn:Func) (s:ChangeSpec) (c:OpenClaim)=>c.shortTexts.isNone) Tryz.checked.prog 9 Tryz.f9 Rows.abortOffSpec Rows.abortOffRow=true:=O6
def cf24:(λ(P:Program) (f:FuncId) (fn:Func) (s:ChangeSpec) (c:OpenClaim)=>P.stopsHeard) Tryz.checked.prog 9 Tryz.f9 Rows.abortOffSpec Rows.abortOffRow=true:=O6
def cf25:(λ(P:Program) (f:FuncId) (fn:Func) (s:ChangeSpec) (c:OpenClaim)=>P.mayEnter) Tryz.checked.prog 9 Tryz.f9 Rows.abortOffSpec Rows.abortOffRow=true:=O6
def cf26:(λ(P:Program) (f:FuncId) (fn:Func) (s:ChangeSpec) (c:OpenClaim)=>c.lifted == P.liftsFinal) Tryz.checked.prog 9 Tryz.f9 Rows.abortOffSpec Rows.abortOffRow=true:=O6
def cf27:(λ(P:Program) (f:FuncId) (fn:Func) (s:ChangeSpec) (c:OpenClaim)=>P.make == some c.make) Tryz.checked.prog 9 Tryz.f9 Rows.abortOffSpec Rows.abortOffRow=true:=O6
def cf28:(λ(P:Program) (f:FuncId) (fn:Func) (s:ChangeSpec) (c:OpenClaim)=>c.kinds == (if c.domain.isEmpty then []else fn.params.toList.map λt=>match P.underlying t with|some (.int k)=>some k|_=>none)) Tryz.checked.prog 9 Tryz.f9 Rows.abortOffSpec Rows.abortOffRow=true:=O6
def cf29:(λ(P:Program) (f:FuncId) (fn:Func) (s:ChangeSpec) (c:OpenClaim)=>c.pinned == c.pinnedBy) Tryz.checked.prog 9 Tryz.f9 Rows.abortOffSpec Rows.abortOffRow=true:=O6
def cf30:(λ(P:Program) (f:FuncId) (fn:Func) (s:ChangeSpec) (c:OpenClaim)=>(c.veiled == (fn.params.toList ++ s.plain.varTypes P ++ fn.resultTypes.toList).any (P.veiledRec ·))) Tryz.checked.prog 9 Tryz.f9 Rows.abortOffSpec Rows.abortOffRow=true:=O6
def cf31:(λ(P:Program) (f:FuncId) (fn:Func) (s:ChangeSpec) (c:OpenClaim)=>c.veiledFits P fn.params.toList (fn.params.toList ++ s.plain.varTypes P ++ fn.resultTypes.toList)) Tryz.checked.prog 9 Tryz.f9 Rows.abortOffSpec Rows.abortOffRow=true:=O6
set_option maxRecDepth 100000 in
def closed:joinedFacts Tryz.checked.prog 9 Tryz.f9 Rows.abortOffSpec Rows.abortOffRow=true:=(Lk (Lk (Lk (Lk (Lk (Lk (Lk (Lk (Lk (Lk (Lk (Lk (Lk (Lk (Lk (Lk (Lk (Lk (Lk (Lk (Lk (Lk (Lk (Lk (Lk (Lk (Lk (Lk (Lk (Lk (Lk cf0 cf1) cf2) cf3) cf4) cf5) cf6) cf7) cf8) cf9) cf10) cf11) cf12) cf13) cf14) cf15) cf16) cf17) cf18) cf19) cf20) cf21) cf22) cf23) cf24) cf25) cf26) cf27) cf28) cf29) cf30) cf31)
end Go.Proofs.YtpmihempjefadaaGreat
namespace Go.Sky
variable {P:Program} {N:Nat} {sc:Nat->Prop} {env env':Qi} {H H' H0:Hp} {Q Q':Exit->Act->World->Prop} {M:Nat->Prop}
@[reducible] def drp2:Nat->Hp->Hp
 | _,[]=>[]
 | k,(i,p)::r=>match Nat.beq i k with
  | true=>drp2 k r
  | false=>(i,p)::drp2 k r
theorem Zzk:∀(k:Nat) (H:Hp),drp2 k H=drp k H
 | _,[]=>rfl
 | k,(i,p)::r=>by unfold drp2 drp;cases Nat.beq i k<;>simp [Zzk k r]
@[reducible] def anyb:List Nat->Nat->Bool
 | [],_=>false
 | k::r,i=>match Nat.beq i k with
  | true=>true
  | false=>anyb r i
theorem Zqq:∀(a:List Nat) (i:Nat),anyb a i=a.any (Nat.beq i)
 | [],_=>rfl
 | k::r,i=>by unfold anyb;rw [List.any_cons,<-Zqq r i];cases Nat.beq i k<;>rfl
@[reducible] def rst2 (a:List Nat):Hp->Hp
 | []=>[]
 | (i,p)::r=>match anyb a i with
  | true=>(i,p)::rst2 a r
  | false=>rst2 a r
theorem Zxu(a:List Nat):∀H:Hp,rst2 a H=rst a H
 | []=>rfl
 | (i,p)::r=>by unfold rst2 rst;rw [<-Zqq];cases anyb a i<;>simp [Zxu a r]
class AgI (H0 H:Hp) (ks:List Nat):Prop where h:Agr H0 H ks
instance:AgI H0 H []:=⟨aA⟩
instance {k:Nat} {ks:List Nat} {p:Pc} [h1:Som (lk2 H k) p] [h2:Som (lk2 H0 k) p] [h:AgI H0 H ks]:AgI H0 H (k::ks):=⟨⟨h1.l.trans h2.l.symm,h.h⟩⟩
class StI (P:Program) (N:Nat) (sc:Nat->Prop) (M:Nat->Prop) (op:Go.Op) (env:Qi) (H:Hp) (v:outParam Value) (s:outParam Prop):Prop where
 h:s->∀{d:Option Tmp} {ty:TypeId} {pos:String} {af:Array Edge} {g:Option (Nat×Bool)},Stb P N sc M ⟨d,op,ty,pos,af,g⟩ env H v
section
variable {op:Go.Op} {v:Value} {s:Prop} {k b:Nat} {t:TypeId} {l:List Value} {ks:List Nat}
instance [h:DI P N sc op env H v s]:StI P N sc (λ_=>False) op env H v s:=⟨λhs=>Pt (h.h hs)⟩
instance [hb:BxI H b k t l] [h:DI P N sc op env (drp2 k H) v s]:StI P N sc (λx=>x=b) op env H v s:=⟨λhs=>st1 k hb.h (by rw [<-Zzk];exact h.h hs)⟩
instance [ha:AgI H0 H ks] [h:DI P N sc op env (rst2 ks H) v s]:StI P N sc (Off H0 ks) op env H v s:=⟨λhs=>Fu (by rw [<-Zxu];exact h.h hs) ha.h⟩
end
class MI (M:Nat->Prop) (b:Nat):Prop where h:M b
class MS (N:Nat) (sc:Nat->Prop) (M:Nat->Prop) (env:Qi) (H:Hp) (b:Nat):Prop where h:∀a w,Sat N sc env H a w->M b
instance {b:Nat} : MS N sc (λ_=>True) env H b:=⟨λ_ _ _=>trivial⟩
instance {b:Nat} : MS N sc (λx=>x=b) env H b:=⟨λ_ _ _=>rfl⟩
instance {b:Nat} [h:MI M b]:MS N sc M env H b:=⟨λ_ _ _=>h.h⟩
@[reducible] def nin (ks:List Nat) (i:Nat):Bool:=match anyb ks i with
 | true=>false
 | false=>true
instance (priority:=low) {b i:Nat} {t:TypeId} {l:List Value} {ks:List Nat} [hb:BxI H b i t l] [hn:TB (nin ks i)] [ha:AgI H0 H ks]:MS N sc (Off H0 ks) env H b:=⟨λa w hs=>λk hk p hp hf=>by
 rw [<-ha.h.mem k hk]at hp;have hne:i≠k:=λe=>by
  subst e;have h1:=hn.h;unfold nin at h1;rw [Zqq]at h1;cases h2:ks.any (Nat.beq i)with
  | true=>rw [h2]at h1;cases h1
  | false=>
   have:=oH.1 h2 i hk;simp at this
 exact hs.sep i k _ p hne hb.h hp rfl b rfl hf⟩
section
variable {d i j k b e n:Nat} {vs ws l l':List Value} {w0:World} {M0:Nat->Prop} {ty t tb:TypeId} {pos:String} {af:Array Edge} {g:Option (Nat×Bool)} {x y:Operand} {v z:Value} {bb:Bool}
variable {ll:List Oper} {F:Qi->Hp->Prop} {rest:List (Nat×Nat)} {op:Go.Op} {G:Type} {φ:G->Prop} {genv:G->Qi} {gH:G->Hp} {dd:Option Tmp} {q r s:Prop}
def t_stm [hx:Som (ev2 env x) (.pointer (some ⟨b,j,none⟩))] [hy:Som (ev2 env y) v] [hB:BxI H b i tb l] [hi:TB (neb i 0)] [hv:CeI P N sc env H v vs] [hk:Siz P t k] [hl:TB (lenq vs k)] [hf:TB (fits l j vs)] [hr:LEv (lay2 l j vs) l']
  [h0:Som (lk2 H 0) (Zt w0 M0)] [hw:Hw w0 sc] [hM:MS N sc M env H b]:T P N sc M ⟨none,.store t x y,ty,pos,af,g⟩ env H (G:=Unit) (λ_=>True) (λ_=>env) (λ_=>(i,box b tb l'.toArray)::H):=λa w hs=>Yc5 (hM.h a w hs) a w hs
def Nx(n:Nat){ks:List Nat}[hz:Zer P t z][hc:ClI z l][h0:Som (lk2 H 0) (Zt w0 M0)][hN:TB (ltb d N)][hw:Hw w0 sc][ha:AgI H0 H ks] :
  T P N sc (Off H0 ks) ⟨some d,.alloc t,ty,pos,af,g⟩ env H (G:=Nat) (λb=>MI (Off H0 ks) b) (λb=>(d,.pointer (some ⟨b,0,none⟩))::env) (λb=>(n,box b t l.toArray)::H):=λa w hs K Q f=>
 Yc8 (i:=n) rfl rfl (Oq hN.h) hz.h hc.h h0.l hw.h ha.h a w hs K Q λg c m h=>f g c m ⟨h⟩
def Qn(a:T P N sc M ⟨dd,op,ty,pos,af,none⟩ env H φ genv gH)[ho:Som (nth ll i) ⟨dd,op,ty,pos,af,none⟩](h:∀g,φ g->LD P N sc M ll.toArray F rest (genv g) (gH g)):LD P N sc M ll.toArray F ((i,1)::rest) env H:=Bp ho.n a h
def Iz{ts:List Nat}{a:Array Bool}(c:T P N sc M ⟨dd,op,ty,pos,af,none⟩ env H φ genv gH)[ho:Som (nth ll i) ⟨dd,op,ty,pos,af,none⟩](h:∀g,φ g->A P N sc M ll.toArray ts Q n (a.setIfInBounds i true) (genv g) (gH g)):Ze7 P N sc M ll.toArray ts Q n a env H i:=Zag ho.n rfl c h
instance [ho:Som (nth ll i) ⟨some d,op,ty,pos,af,none⟩] [h1:StI P N sc M op env H v s] [h2:TB (ltb d N)] [h:Adv n (LD P N sc M ll.toArray F rest ((d,v)::env) H) q] [h3:AndO s q r]:Adv (n+1) (LD P N sc M ll.toArray F ((i,0)::rest) env H) r:=
 ⟨λk=>Qd ho.n rfl (h1.h (h3.h k).1) (h.h (h3.h k).2) rfl (Oq h2.h)⟩
instance [ho:Som (nth ll i) ⟨some d,op,ty,pos,af,some (j,bb)⟩] [hj:Som (dsto ll j) e] [he:Som (lk2 env e) (.bool bb)] [hN:TB (ltb e N)] [h1:StI P N sc M op env H v s] [h2:TB (ltb d N)] [h:Adv n (LD P N sc M ll.toArray F rest ((d,v)::env) H) q] [h3:AndO s q r]:Adv (n+1) (LD P N sc M ll.toArray F ((i,0)::rest) env H) r:=
 ⟨λk=>r0g (h1.h (h3.h k).1) ho.n rfl (Du hj) he.l rfl (h.h (h3.h k).2) (Oq hN.h) (Oq h2.h)⟩
instance [ho:Som (nth ll i) ⟨some d,op,ty,pos,af,some (j,true)⟩] [hj:Som (dsto ll j) e] [he:Som (lk2 env e) (.bool false)] [hN:TB (ltb e N)] [h2:TB (ltb d N)] [h:Adv n (LD P N sc M ll.toArray F rest ((d,undef)::env) H) q]:Adv (n+1) (LD P N sc M ll.toArray F ((i,2)::rest) env H) q:=
 ⟨λk=>r2 ho.n rfl (Du hj) he.l rfl (Oq hN.h) rfl (Oq h2.h) (h.h k)⟩
instance [ho:Som (nth ll i) ⟨some d,op,ty,pos,af,some (j,false)⟩] [hj:Som (dsto ll j) e] [he:Som (lk2 env e) (.bool true)] [hN:TB (ltb e N)] [h2:TB (ltb d N)] [h:Adv n (LD P N sc M ll.toArray F rest ((d,undef)::env) H) q]:Adv (n+1) (LD P N sc M ll.toArray F ((i,2)::rest) env H) q:=
 ⟨λk=>r2 ho.n rfl (Du hj) he.l rfl (Oq hN.h) rfl (Oq h2.h) (h.h k)⟩
instance [ho:Som (nth ll i) ⟨none,.store t x y,ty,pos,af,none⟩] [hx:Som (ev2 env x) (.pointer (some ⟨b,j,none⟩))] [hy:Som (ev2 env y) v] [hB:BxI H b k tb l] [hi:TB (neb k 0)] [hv:CeI P N sc env H v vs] [hk:Siz P t e] [hl:TB (lenq vs e)] [hf:TB (fits l j vs)] [hr:LEv (lay2 l j vs) l']
  [h0:Som (lk2 H 0) (Zt w0 M0)] [hw:Hw w0 sc] [h:Adv n (LD P N sc M ll.toArray F rest env ((k,box b tb l'.toArray)::H)) q]:Adv (n+1) (LD P N sc M ll.toArray F ((i,3)::rest) env H) q:=
 ⟨λq=>r3' ho.n (Yc5 aA) λ_ _=>h.h q⟩
instance [ho:Som (nth ll i) ⟨none,.store t x y,ty,pos,af,none⟩] [hx:Som (ev2 env x) (.pointer (some ⟨b,j,none⟩))] [hy:Som (ev2 env y) v] [hB:BxI H b k tb l] [hi:TB (neb k 0)] [hM:MS N sc M env H b] [hv:CeI P N sc env H v vs] [hk:Siz P t e] [hl:TB (lenq vs e)] [hf:TB (fits l j vs)] [hr:LEv (lay2 l j vs) l']
  [h0:Som (lk2 H 0) (Zt w0 M0)] [hw:Hw w0 sc] [h:Adv n (LD P N sc M ll.toArray F rest env ((k,box b tb l'.toArray)::H)) q]:Adv (n+1) (LD P N sc M ll.toArray F ((i,1)::rest) env H) q:=
 ⟨λq=>Bp ho.n t_stm λ_ _=>h.h q⟩
instance [ho:Som (nth ll i) ⟨some d,op,ty,pos,af,none⟩] [h1:DI P N sc op env H v s] [h2:TB (ltb d N)] [h:Adv n (LD P N sc M ll.toArray F rest ((d,v)::env) H) q] [h3:AndO s q r]:Adv (n+1) (LD P N sc M ll.toArray F ((i,1)::rest) env H) r:=
 ⟨λk=>Bp ho.n (Am (h1.h (h3.h k).1) rfl (Oq h2.h)) λ_ _=>h.h (h3.h k).2⟩
instance [ho:Som (nth ll i) ⟨some d,op,ty,pos,af,none⟩] [h1:DI P N sc op env H v s] [h2:TB (ltb d N)] [h:Adv n (LD P N sc M ll.toArray F rest ((d,v)::env) H) q] [h3:AndO s q r]:Adv (n+1) (LD P N sc M ll.toArray F ((i,3)::rest) env H) r:=
 ⟨λk=>r3' ho.n (Am (h1.h (h3.h k).1) rfl (Oq h2.h)) λ_ _=>h.h (h3.h k).2⟩
instance [h:Adv n (F env H) q] {ops:Array Oper} : Adv (n+1) (LD P N sc M ops F [] env H) q:=⟨λk=>r_fin (h.h k)⟩
theorem Ph {id:Nat} {l:List Oper} (M:Nat->Prop) (a:List (Nat×Nat)) (h:LD P N sc M l.toArray (X N sc .normal Q) a env H) (c:P.follows .mixedOrders=true:=by kernel_rfl)
  (f:(Region.noSelect l.toArray && Nat.beq a.length l.length && Ff l.toArray (Br a) a (Array.replicate l.length false) && (Region.ready .any l.toArray (Fy a (Array.replicate l.length false))).isEmpty)=true:=by kernel_rfl) :
  E P N sc (.region id l.toArray true) Q env H:=e_dreg M a c f h
end
end Go.Sky
namespace Go.Sky
open Go.RowKit Below
variable {P:Program} {N:Nat} {sc:Nat->Prop} {env env':Qi} {H H':Hp} {Q Q':Exit->Act->World->Prop} {M:Nat->Prop}
class EnI (vs:List Value) (env:outParam Qi):Prop where h:Qf 0 vs=env
class PnI (vs:List Pc) (H:outParam Hp):Prop where h:Yg 1 vs=H
section
variable {a b c d e f g i j:Value} {p q r s t u v w x y:Pc}
instance:EnI [] []:=⟨rfl⟩
instance:EnI [a] [(0,a)]:=⟨rfl⟩
instance:EnI [a,b] [(0,a),(1,b)]:=⟨rfl⟩
instance:EnI [a,b,c] [(0,a),(1,b),(2,c)]:=⟨rfl⟩
instance:EnI [a,b,c,d] [(0,a),(1,b),(2,c),(3,d)]:=⟨rfl⟩
instance:EnI [a,b,c,d,e] [(0,a),(1,b),(2,c),(3,d),(4,e)]:=⟨rfl⟩
instance:EnI [a,b,c,d,e,f] [(0,a),(1,b),(2,c),(3,d),(4,e),(5,f)]:=⟨rfl⟩
instance:EnI [a,b,c,d,e,f,g] [(0,a),(1,b),(2,c),(3,d),(4,e),(5,f),(6,g)]:=⟨rfl⟩
instance:PnI [] []:=⟨rfl⟩
instance:PnI [p] [(1,p)]:=⟨rfl⟩
instance:PnI [p,q] [(1,p),(2,q)]:=⟨rfl⟩
instance:PnI [p,q,r] [(1,p),(2,q),(3,r)]:=⟨rfl⟩
instance:PnI [p,q,r,s] [(1,p),(2,q),(3,r),(4,s)]:=⟨rfl⟩
instance:PnI [p,q,r,s,t] [(1,p),(2,q),(3,r),(4,s),(5,t)]:=⟨rfl⟩
instance:PnI [p,q,r,s,t,u] [(1,p),(2,q),(3,r),(4,s),(5,t),(6,u)]:=⟨rfl⟩
instance:PnI [p,q,r,s,t,u,v] [(1,p),(2,q),(3,r),(4,s),(5,t),(6,u),(7,v)]:=⟨rfl⟩
instance:PnI [p,q,r,s,t,u,v,w] [(1,p),(2,q),(3,r),(4,s),(5,t),(6,u),(7,v),(8,w)]:=⟨rfl⟩
instance:PnI [p,q,r,s,t,u,v,w,x] [(1,p),(2,q),(3,r),(4,s),(5,t),(6,u),(7,v),(8,w),(9,x)]:=⟨rfl⟩
instance:PnI [p,q,r,s,t,u,v,w,x,y] [(1,p),(2,q),(3,r),(4,s),(5,t),(6,u),(7,v),(8,w),(9,x),(10,y)]:=⟨rfl⟩
end
class RoL (l:List Pc):Prop where h:AllRo l
instance:RoL []:=⟨aA⟩
instance {p:Pc} {r:List Pc} [h:RoI p] [h2:RoL r]:RoL (p::r):=⟨⟨h.h,h2.h⟩⟩
theorem Zd {f:FuncId} {fn:Func} {c:Code} {vs:List Value} {pre:List Pc} {al:Bool} {G:Type} {φ:G->Prop} {val:G->Value} {l:G->List Pc} {N:Nat} (B:P.funcs[f]? = some fn) (o:fn.ntmps=N)
  [he:EnI vs env] [hp:PnI pre H] [hro:RoL pre] (h:∀k (sc:Nat->Prop),Hw k sc->(∀b,sc b->k.heap.size<=b\/∃q∈pre,q.fp b)->E P N sc c (Zah P fn k pre al φ val l) env ((0,Zt k (λ_=>False))::H))
  (z:fn.body=some c:=by rfl) (m:Nat.ble vs.length N=true:=by rfl):Cal P f vs.toArray pre al φ val l:=
 cal_in B z o m hro.h λk sc D n=>by rw [he.h,hp.h];exact h k sc ⟨D⟩ n
class RvI (P:Program) (N:Nat) (sc:Nat->Prop) (env:Qi) (H:Hp) (r:ResultVar) (v:outParam Value):Prop where h:RV P N sc env H r v
instance {t:Nat} {v:Value} [h:Som (lk2 env t) v]:RvI P N sc env H (.tmp t) v:=⟨h.l⟩
instance {c b i k:Nat} {t tb:TypeId} {l:List Value} [h:Som (lk2 env c) (.pointer (some ⟨b,0,none⟩))] [h1:Agg P t true] [h2:BxI H b i tb l] [h3:Siz P t k] [h4:TB (lenq l k)]:RvI P N sc env H (.cell c t) (.agg l.toArray):=⟨Gx _ h.l h2.h h1.h h3.h (Zf3 h4.h)⟩
instance {c b i:Nat} {t tb:TypeId} {v:Value} [h:Som (lk2 env c) (.pointer (some ⟨b,0,none⟩))] [h1:Agg P t false] [h2:BxI H b i tb [v]]:RvI P N sc env H (.cell c t) v:=⟨Kr _ h.l h2.h h1.h⟩
section
variable {fn:Func} {pre:List Pc} {al:Bool} {G:Type} {φ:G->Prop} {val:G->Value} {its:G->List Pc} {w0:World} {r1 r2 r3:ResultVar} {v1 v2 v3:Value}
def Yx(k:∀b,sc b->w0.heap.size<=b\/∃q∈pre,q.fp b)(g:G)(l:fn.results=#[r1])[h1:RvI P N sc env H r1 v1][h0:Som (lk2 H 0) (Zt w0 (λ_=>False))](n:val g=v1)(m:φ g)(h:Give H al (its g)) :
  X N sc .ret (Zah P fn w0 pre al φ val its) env H:=Fo (.inl rfl) k g (v:=v1) (λa w hs=>Fd hs l h1.h) n m h0.l h
def Oy(k:∀b,sc b->w0.heap.size<=b\/∃q∈pre,q.fp b)(g:G)(l:fn.results=#[r1,r2])[h1:RvI P N sc env H r1 v1][h2:RvI P N sc env H r2 v2][h0:Som (lk2 H 0) (Zt w0 (λ_=>False))](n:val g= .tuple #[v1,v2])(m:φ g)(h:Give H al (its g)) :
  X N sc .ret (Zah P fn w0 pre al φ val its) env H:=Fo (.inl rfl) k g (v:=(.tuple #[v1,v2])) (λa w hs=>Zva hs l h1.h h2.h) n m h0.l h
def xe3(k:∀b,sc b->w0.heap.size<=b\/∃q∈pre,q.fp b)(g:G)(l:fn.results=#[r1,r2,r3])[h1:RvI P N sc env H r1 v1][h2:RvI P N sc env H r2 v2][h3:RvI P N sc env H r3 v3][h0:Som (lk2 H 0) (Zt w0 (λ_=>False))](n:val g= .tuple #[v1,v2,v3])(m:φ g)(h:Give H al (its g)) :
  X N sc .ret (Zah P fn w0 pre al φ val its) env H:=Fo (.inl rfl) k g (v:=(.tuple #[v1,v2,v3])) (λa w hs=>res3 hs l h1.h h2.h h3.h) n m h0.l h
end
class EncE {α:Type} (k:Nat) (enc:α->Value):Prop where h:∃(P:Program) (t:TypeId),Enc P t k enc
theorem Kf{p k:Pc}{r:List Pc}(i:Nat)[hi:Som (lk2 H i) k][h0:TB (neb i 0)][ho:RoI k](h:Give H true r)(e:k=p:=by rfl):Give H true (p::r):=e▸Gk i hi.l (Zud (Zbp h0.h)) ho.h h
section
variable {α:Type} {k i:Nat} {e:TypeId} {enc:α->Value} {v v':Value} {xs ys:List α} {al:Bool} {r:List Pc}
theorem gow(i:Nat)[hi:Som (lk2 H i) (On k e enc v xs)][h0:TB (neb i 0)][he:EncE k enc](h:Give H al r)(l:xs=ys:=by rfl):Give H al (Yt k enc v ys::r):=by obtain⟨_,_,m⟩:=he.h;exact Ybw i hi.l (Zud (Zbp h0.h)) m l h
end
section
variable {n:Nat} {x b:Bool} {d e j:Nat} {op:Go.Op} {ty:TypeId} {pos:String} {af:Array Edge} {rest:List Oper} {ops:Array Oper} {ll:List Oper}
def kf [h1:DI P N sc op env H (.bool x) True][h2:TB (ltb d N)](e:x=false)(h:L P N sc ops rest Q ((d,.bool false)::env) H):L P N sc ops (⟨some d,op,ty,pos,af,none⟩::rest) Q env H:=dt (Yw _ (h1.h aA) (aL _ e)) h (Oq h2.h)
def kt [h1:DI P N sc op env H (.bool x) True][h2:TB (ltb d N)](e:x=true)(h:L P N sc ops rest Q ((d,.bool true)::env) H):L P N sc ops (⟨some d,op,ty,pos,af,none⟩::rest) Q env H:=dt (Yw _ (h1.h aA) (aL _ e)) h (Oq h2.h)
def kfg [h1:DI P N sc op env H (.bool x) True][hj:Som (dsto ll j) e][hg:Som (lk2 env e) (.bool b)][h4:TB (ltb e N)][h2:TB (ltb d N)](e:x=false)(h:L P N sc ll.toArray rest Q ((d,.bool false)::env) H):L P N sc ll.toArray (⟨some d,op,ty,pos,af,some (j,b)⟩::rest) Q env H:=Gl (Yw _ (h1.h aA) (aL _ e)) (Du hj) hg.l h (Oq h4.h) (Oq h2.h)
def ktg [h1:DI P N sc op env H (.bool x) True][hj:Som (dsto ll j) e][hg:Som (lk2 env e) (.bool b)][h4:TB (ltb e N)][h2:TB (ltb d N)](e:x=true)(h:L P N sc ll.toArray rest Q ((d,.bool true)::env) H):L P N sc ll.toArray (⟨some d,op,ty,pos,af,some (j,b)⟩::rest) Q env H:=Gl (Yw _ (h1.h aA) (aL _ e)) (Du hj) hg.l h (Oq h4.h) (Oq h2.h)
end
section
variable {f:FuncId} {xs:List Operand} {ats:Array TypeId} {d i j e n:Nat} {vs:List Value} {pre:List Pc} {al b:Bool} {G:Type} {φ:G->Prop} {val:G->Value} {its:G->List Pc} {w0:World} {M0:Nat->Prop} {ty:TypeId} {pos:String} {af:Array Edge} {G':G->Hp} {ops:Array Oper} {rest ll:List Oper}
def cl (n:Nat) (l:List Nat) (m:Cal P f vs.toArray pre al φ val its) [hx:EvI env xs vs] [hf:CalF P f] [hp:PreL P H al l pre] [h0:Som (lk2 H 0) (Zt w0 M0)] [hN:TB (ltb d N)] [hw:Hw w0 sc] [ha:∀g,AddI n (its g) H (G' g)]
  (h:∀g,φ g->L P N sc ops rest Q ((d,val g)::env) (G' g)):L P N sc ops (⟨some d,.call { callee:= .value (.func f),args:=xs.toArray,argTypes:=ats },ty,pos,af,none⟩::rest) Q env H:=Zz (Zx n l m) h
def Lh (n:Nat) (l:List Nat) (m:Cal P f vs.toArray pre al φ val its) [hx:EvI env xs vs] [hf:CalF P f] [hp:PreL P H al l pre] [h0:Som (lk2 H 0) (Zt w0 M0)] [hN:TB (ltb d N)] [hw:Hw w0 sc] [ha:∀g,AddI n (its g) H (G' g)] [hj:Som (dsto ll j) e] [he:Som (lk2 env e) (.bool b)] [hN2:TB (ltb e N)]
  (h:∀g,φ g->L P N sc ll.toArray rest Q ((d,val g)::env) (G' g)):L P N sc ll.toArray (⟨some d,.call { callee:= .value (.func f),args:=xs.toArray,argTypes:=ats },ty,pos,af,some (j,b)⟩::rest) Q env H:=gt' (Zx n l m) h
end
class SeI (l:List Nat) (env:Qi) (cs:outParam Qi):Prop where h:Sub cs env
instance:SeI [] env []:=⟨aA⟩
instance {t:Nat} {l:List Nat} {v:Value} {cs:Qi} [h:Som (lk2 env t) v] [h2:SeI l env cs]:SeI (t::l) env ((t,v)::cs):=⟨⟨h.l,h2.h⟩⟩
class SeH (l:List Nat) (H:Hp) (ch:outParam Hp):Prop where h:HSub ch H
instance:SeH [] H []:=⟨aA⟩
instance {t:Nat} {l:List Nat} {v:Pc} {cs:Hp} [h:Som (lk2 H t) v] [h2:SeH l H cs]:SeH (t::l) H ((t,v)::cs):=⟨⟨h.l,h2.h⟩⟩
class ApI {α:Type _} (a b:List α) (c:outParam (List α)):Prop where h:a ++ b=c
instance {α:Type _} {b:List α} : ApI [] b b:=⟨rfl⟩
instance {α:Type _} {x:α} {a b c:List α} [h:ApI a b c]:ApI (x::a) b (x::c):=⟨by rw [<-h.h];rfl⟩
class SbI (cs env:Qi):Prop where h:Sub cs env
instance:SbI [] env:=⟨aA⟩
instance {t:Nat} {v:Value} {cs:Qi} [h:Som (lk2 env t) v] [h2:SbI cs env]:SbI ((t,v)::cs) env:=⟨⟨h.l,h2.h⟩⟩
class HbI (ch H:Hp):Prop where h:HSub ch H
instance:HbI [] H:=⟨aA⟩
instance {t:Nat} {v:Pc} {cs:Hp} [h:Som (lk2 H t) v] [h2:HbI cs H]:HbI ((t,v)::cs) H:=⟨⟨h.l,h2.h⟩⟩
def Sub.app:∀{a b e:Qi},Sub a e->Sub b e->Sub (a ++ b) e
 | [],_,_,_,h=>h
 | (_,_)::_,_,_,h1,h=>⟨h1.1,Sub.app h1.2 h⟩
def HSub.app:∀{a b e:Hp},HSub a e->HSub b e->HSub (a ++ b) e
 | [],_,_,_,h=>h
 | (_,_)::_,_,_,h1,h=>⟨h1.1,HSub.app h1.2 h⟩
section
variable {c x y:Code} {G:Type} {cs:Qi} {ch:Hp} {e1:G->Qi} {H1:G->Hp} {ov:G->Qi} {oh:G->Hp} {inv:G->Prop} {μ:G->Nat} {g:G}
theorem lp (l D:List Nat) (ov:G->Qi) (oh:G->Hp) (inv:G->Prop) (μ:G->Nat) (m:G) (B:inv m) (hs:Sub (ov m) env) (z:HSub (oh m) H) [h1:SeI l env cs] [h2:SeH D H ch] [h3:∀g,ApI (ov g) cs (e1 g)] [h4:∀g,ApI (oh g) ch (H1 g)]
  (h:∀g,inv g->E P N sc c (Exit.then (Yjh N sc cs ch ov oh inv μ g) Q) (e1 g) (H1 g)):E P N sc (.loop c) Q env H:=
 e_lp cs ch ov oh inv μ m B (hs.app h1.h) (z.app h2.h) λg o=>by rw [(h3 g).h,(h4 g).h];exact h g o
def Ym(h:G)(l:inv h)(m:μ h<μ g)(hs:Sub (ov h) env)(o:HSub (oh h) H)[k1:SbI cs env][k2:HbI ch H]:X N sc .normal (Exit.then (Yjh N sc cs ch ov oh inv μ g) Q) env H:=x_rnd h l m (hs.app k1.h) (o.app k2.h)
theorem jn (l z:List Nat) (ov:G->Qi) (oh:G->Hp) (inv:G->Prop) [h1:SeI l env cs] [h2:SeH z H ch] [h3:∀g,ApI (ov g) cs (e1 g)] [h4:∀g,ApI (oh g) ch (H1 g)]
  (m:E P N sc x (Exit.then (JnK N sc cs ch ov oh inv) Q) env H) (o:∀g,inv g->E P N sc y Q (e1 g) (H1 g)):E P N sc (.seq x y) Q env H:=
 e_jn cs ch ov oh inv h1.h h2.h m λg h=>by rw [(h3 g).h,(h4 g).h];exact o g h
def Gd(h:G)(l:inv h)(hs:Sub (ov h) env)(m:HSub (oh h) H)[k1:SbI cs env][k2:HbI ch H]:X N sc .normal (Exit.then (JnK N sc cs ch ov oh inv) Q) env H:=x_jn h l (hs.app k1.h) (m.app k2.h)
end
end Go.Sky
namespace Go.Sky
open Go.Proofs
set_option linter.all false
set_option synthInstance.maxHeartbeats 0
@[reducible,instance]def iUnd3:=Und.mk Tryz.underlying3
@[reducible,instance]def iUnd4:=Und.mk Tryz.underlying4
@[reducible,instance]def iUnd5:=Und.mk Tryz.underlying5
@[reducible,instance]def iUnd9:=Und.mk Tryz.underlying9
@[reducible,instance]def iUnd40:=Und.mk Tryz.underlying40
@[reducible,instance]def iUnd125:=Und.mk Tryz.underlying125
@[reducible,instance]def iUnd132:=Und.mk Tryz.underlying132
@[reducible,instance]def iUnd133:=Und.mk Tryz.underlying133
@[reducible,instance]def iUnd176:=Und.mk Tryz.underlying176
@[reducible,instance]def iUnd209:=Und.mk Tryz.underlying209
@[reducible,instance]def iUnd225:=Und.mk Tryz.underlying225
@[reducible,instance]def iUnd245:=Und.mk Tryz.underlying245
@[reducible,instance]def iUnd269:=Und.mk Tryz.underlying269
@[reducible,instance]def iUnd272:=Und.mk Tryz.underlying272
@[reducible,instance]def iUnd319:=Und.mk Tryz.underlying319
@[reducible,instance]def iUnd345:=Und.mk Tryz.underlying345
@[reducible,instance]def iUnd347:=Und.mk Tryz.underlying347
@[reducible,instance]def iUnd356:=Und.mk Tryz.underlying356
@[reducible,instance]def iUnd362:=Und.mk Tryz.underlying362
@[reducible,instance]def iUnd384:=Und.mk Tryz.underlying384
@[reducible,instance]def iUnd418:=Und.mk Tryz.underlying418
@[reducible,instance]def iUnd420:=Und.mk Tryz.underlying420
@[reducible,instance]def iUnd424:=Und.mk Tryz.underlying424
@[reducible,instance]def iUnd426:=Und.mk Tryz.underlying426
@[reducible,instance]def iUnd430:=Und.mk Tryz.underlying430
@[reducible,instance]def iUnd451:=Und.mk Tryz.underlying451
@[reducible,instance]def iSiz3:=Siz.mk Tryz.sizeOf3
@[reducible,instance]def iSiz4:=Siz.mk Tryz.sizeOf4
@[reducible,instance]def iSiz5:=Siz.mk Tryz.sizeOf5
@[reducible,instance]def iSiz9:=Siz.mk Tryz.sizeOf9
@[reducible,instance]def iSiz26:=Siz.mk Tryz.sizeOf26
@[reducible,instance]def iSiz40:=Siz.mk Tryz.sizeOf40
@[reducible,instance]def iSiz125:=Siz.mk Tryz.sizeOf125
@[reducible,instance]def iSiz133:=Siz.mk Tryz.sizeOf133
@[reducible,instance]def iSiz176:=Siz.mk Tryz.sizeOf176
@[reducible,instance]def iSiz209:=Siz.mk Tryz.sizeOf209
@[reducible,instance]def iSiz225:=Siz.mk Tryz.sizeOf225
@[reducible,instance]def iSiz245:=Siz.mk Tryz.sizeOf245
@[reducible,instance]def iSiz269:=Siz.mk Tryz.sizeOf269
@[reducible,instance]def iSiz272:=Siz.mk Tryz.sizeOf272
@[reducible,instance]def iSiz345:=Siz.mk Tryz.sizeOf345
@[reducible,instance]def iSiz362:=Siz.mk Tryz.sizeOf362
@[reducible,instance]def iSiz418:=Siz.mk Tryz.sizeOf418
@[reducible,instance]def iSiz420:=Siz.mk Tryz.sizeOf420
@[reducible,instance]def iSiz426:=Siz.mk Tryz.sizeOf426
@[reducible,instance]def iAgg4:=Agg.mk Tryz.isAgg4
@[reducible,instance]def iAgg9:=Agg.mk Tryz.isAgg9
@[reducible,instance]def iAgg26:=Agg.mk Tryz.isAgg26
@[reducible,instance]def iAgg40:=Agg.mk Tryz.isAgg40
@[reducible,instance]def iAgg176:=Agg.mk Tryz.isAgg176
@[reducible,instance]def iAgg209:=Agg.mk Tryz.isAgg209
@[reducible,instance]def iAgg245:=Agg.mk Tryz.isAgg245
@[reducible,instance]def iAgg269:=Agg.mk Tryz.isAgg269
@[reducible,instance]def iAgg272:=Agg.mk Tryz.isAgg272
@[reducible,instance]def iAgg362:=Agg.mk Tryz.isAgg362
@[reducible,instance]def iAgg418:=Agg.mk Tryz.isAgg418
@[reducible,instance]def iAgg420:=Agg.mk Tryz.isAgg420
@[reducible,instance]def iAgg426:=Agg.mk Tryz.isAgg426
@[reducible,instance]def iZer125:=Zer.mk Tryz.zeroValue125
@[reducible,instance]def iZer176:=Zer.mk Tryz.zeroValue176
@[reducible,instance]def iZer209:=Zer.mk Tryz.zeroValue209
@[reducible,instance]def iZer245:=Zer.mk Tryz.zeroValue245
@[reducible,instance]def iZer272:=Zer.mk Tryz.zeroValue272
@[reducible,instance]def iZer347:=Zer.mk Tryz.zeroValue347
@[reducible,instance]def iZer420:=Zer.mk Tryz.zeroValue420
@[reducible,instance]def iZer424:=Zer.mk Tryz.zeroValue424
@[reducible,instance]def iZer426:=Zer.mk Tryz.zeroValue426
abbrev cGa(f:Nat):=CalF Go.Proofs.Tryz.prog f
open Go.Proofs.Tryz
instance:cGa 99:=.mk call99
instance:cGa 123:=.mk call123
instance:cGa 168:=.mk call168
instance:cGa 170:=.mk call170
instance:cGa 172:=.mk call172
instance:cGa 173:=.mk call173
instance:cGa 176:=.mk call176
instance:cGa 177:=.mk call177
instance:cGa 178:=.mk call178
instance:cGa 179:=.mk call179
instance:cGa 198:=.mk call198
instance:cGa 199:=.mk call199
instance:cGa 200:=.mk call200
instance:cGa 201:=.mk call201
instance:cGa 202:=.mk call202
instance:cGa 203:=.mk call203
instance:cGa 204:=.mk call204
instance:cGa 207:=.mk call207
instance:cGa 210:=.mk call210
instance:cGa 219:=.mk call219
instance:cGa 226:=.mk call226
instance:cGa 231:=.mk call231
instance:cGa 232:=.mk call232
instance:cGa 233:=.mk call233
instance:cGa 234:=.mk call234
instance:cGa 235:=.mk call235
instance:cGa 236:=.mk call236
instance:cGa 237:=.mk call237
instance:cGa 238:=.mk call238
instance:cGa 239:=.mk call239
instance:cGa 241:=.mk call241
instance:cGa 242:=.mk call242
instance:cGa 243:=.mk call243
instance:cGa 244:=.mk call244
instance:cGa 268:=.mk call268
instance:cGa 269:=.mk call269
instance:cGa 270:=.mk call270
instance:cGa 271:=.mk call271
instance:cGa 272:=.mk call272
instance:cGa 273:=.mk call273
instance:cGa 278:=.mk call278
instance:cGa 279:=.mk call279
instance:cGa 282:=.mk call282
instance:cGa 284:=.mk call284
instance:cGa 285:=.mk call285
instance:cGa 286:=.mk call286
instance:cGa 290:=.mk call290
instance:cGa 294:=.mk call294
instance:cGa 297:=.mk call297
instance:cGa 298:=.mk call298
instance:cGa 299:=.mk call299
instance:cGa 300:=.mk call300
instance:cGa 301:=.mk call301
instance:cGa 317:=.mk call317
instance:cGa 318:=.mk call318
instance:cGa 319:=.mk call319
instance:cGa 320:=.mk call320
instance:cGa 321:=.mk call321
instance:cGa 322:=.mk call322
instance:cGa 323:=.mk call323
instance:cGa 325:=.mk call325
instance:cGa 329:=.mk call329
instance:cGa 330:=.mk call330
instance:cGa 331:=.mk call331
instance:cGa 332:=.mk call332
instance:cGa 335:=.mk call335
instance:cGa 336:=.mk call336
instance:cGa 337:=.mk call337
instance:cGa 338:=.mk call338
instance:cGa 339:=.mk call339
instance:cGa 350:=.mk call350
instance:cGa 351:=.mk call351
instance:cGa 352:=.mk call352
instance:cGa 353:=.mk call353
instance:cGa 354:=.mk call354
instance:cGa 355:=.mk call355
instance:cGa 356:=.mk call356
instance:cGa 357:=.mk call357
instance:cGa 358:=.mk call358
instance:cGa 359:=.mk call359
instance:cGa 362:=.mk call362
instance:cGa 371:=.mk call371
instance:cGa 372:=.mk call372
instance:cGa 373:=.mk call373
instance:cGa 374:=.mk call374
instance:cGa 375:=.mk call375
instance:cGa 376:=.mk call376
instance:cGa 377:=.mk call377
instance:cGa 378:=.mk call378
instance:cGa 379:=.mk call379
instance:cGa 380:=.mk call380
instance:cGa 396:=.mk call396
instance:cGa 397:=.mk call397
instance:cGa 398:=.mk call398
instance:cGa 399:=.mk call399
instance:cGa 400:=.mk call400
instance:cGa 401:=.mk call401
instance:cGa 402:=.mk call402
instance:cGa 403:=.mk call403
instance:cGa 411:=.mk call411
instance:EncT Tryz.prog 125 1 Md:=⟨pU⟩
instance:EncE 1 Md:=⟨_,_,pU⟩
instance:EncT Tryz.prog 5 1 Yb2:=⟨pB⟩
instance:EncE 1 Yb2:=⟨_,_,pB⟩
instance:EncT Tryz.prog 3 1 Ymt:=⟨pN⟩
instance:EncE 1 Ymt:=⟨_,_,pN⟩
instance:EncT Tryz.prog 3 1 Xf:=⟨pZ⟩
instance:EncE 1 Xf:=⟨_,_,pZ⟩
instance:EncT Tryz.prog 176 2 Yhh:=⟨pW⟩
instance:EncE 2 Yhh:=⟨_,_,pW⟩
instance:EncT Tryz.prog 176 2 wv:=⟨pV⟩
instance:EncE 2 wv:=⟨_,_,pV⟩
instance:EncT Tryz.prog 245 2 Ymu:=⟨pI⟩
instance:EncE 2 Ymu:=⟨_,_,pI⟩
instance {α:Type} : EncT Tryz.prog 133 1 (Ob (α:=α)):=⟨pS⟩
instance {α:Type} : EncE 1 (Ob (α:=α)):=⟨_,_,pS⟩
instance:EncT Tryz.prog 426 8 iq:=⟨pY⟩
instance:EncE 8 iq:=⟨_,_,pY⟩
instance:EncT Tryz.prog 209 4 rq:=⟨pQ⟩
instance:EncE 4 rq:=⟨_,_,pQ⟩
instance:EncT Tryz.prog 209 4 encQ:=⟨pR⟩
instance:EncE 4 encQ:=⟨_,_,pR⟩
end Go.Sky

