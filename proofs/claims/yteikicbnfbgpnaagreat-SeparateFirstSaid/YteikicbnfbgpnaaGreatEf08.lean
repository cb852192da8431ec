/- Rules, arithmetic and contracts: part 9. No conditions but those that each theorem names. -/
import Derived.Test.YteikicbnfbgpnaaGreatEf07
set_option linter.all false
namespace Go.Sky
open Go.RowKit Below
variable{w W W':World}{m:Nat}{Mf:Nat->Prop}{Hn:Hp}{a:Act}{fn:Func}{preF:List Pc}{lbv:List Value}
variable {P:Program} {N:Nat} {sc:Nat->Prop} {env env':Pu} {H H':Hp} {Q Q':Exit->Act->World->Prop}
def FpM:Hp->Hp->Prop
 | [],_=>True
 | (i,p)::r,H=>(p.own=true\/∀b,p.fp b->∃j q,lk H j=some q/\q.fp b)/\FpM r H
theorem FpM.lk:∀{H' H:Hp},FpM H' H->∀i p,lk H' i=some p->p.own=true\/∀b,p.fp b->∃j q,lk H j=some q/\q.fp b
 | [],_,_,_,_,h=>by cases h
 | (k,u)::r,H,h,i,p,hi=>by
  by_cases c:k=i
  .subst c;rw [Yl]at hi;cases hi;exact h.1
  .rw [Zx _ _ c]at hi;exact FpM.lk h.2 i p hi
structure Kps (sc:Nat->Prop) (w:World) (m:Nat) (Mf:Nat->Prop) (Hn:Hp) (W:World):Prop where
 hold:∀i it,lk Hn i=some it->it.holds W
 sep:∀i j it jt,i≠j->lk Hn i=some it->lk Hn j=some jt->it.own=true->∀b,it.fp b->jt.fp b->False
 scope:∀i it,i≠0->lk Hn i=some it->∀b,it.fp b->sc b
 off:∀i it,lk Hn i=some it->it.own=false->∀b,it.fp b->b<w.heap.size\/m<=b
 mf:∀i it,lk Hn i=some it->it.own=true->∀b,it.fp b->Mf b
def Mof(m:Nat)(H:Hp)(b:Nat):Prop:=(∃i q,lk H i=some q/\q.own=true/\q.fp b)\/m<=b
def Kps.chg(h:Kps sc w m Mf Hn W)(d:∀i c,lk Hn i=some c->Chg (λb=>¬c.fp b) W W'):Kps sc w m Mf Hn W':=
 ⟨λi c hi=>c.stable _ _ (h.hold i c hi) (d i c hi),h.sep,h.scope,h.off,h.mf⟩
def Kps.stays(h:Kps sc w m Mf Hn W)(b:Below W.heap.size W W'):Kps sc w m Mf Hn W':=h.chg λ_ _ _=>Chg.of_below b
theorem Kps.put{d:Nat}{o:Obj}(h:Kps sc w m (Mof m H) Hn W)(g:∀i q,lk H i=some q->∀b,q.fp b->b<w.heap.size)(p:w.heap.size<=d/\d<m):Kps sc w m (Mof m H) Hn (W.putObj d o):=
 h.chg λi c hi=>⟨rfl,rfl,rfl,O5,λk r l=>World.putObj_heap_other (λe=>l λf=>by
  cases ho:c.own with
  | false=>rcases h.off i c hi ho _ f with h|h<;>omega
  | true=>
   rcases h.mf i c hi ho _ f with⟨j,q,s,_,n⟩|h
   all_goals grind)⟩
def Kps.sat(h:Kps sc w m Mf Hn W)(b:a.tmps.size=N)(c:a.defers=[])(d:∀t v,lk env t=some v->a.tmps.getD t undef=v):Sat N sc env Hn a W:=⟨b,c,d,h.hold,h.sep,h.scope⟩
def Zr5(H:Hp)(w0:World):Prop:=lk H 0=some (Yx w0 (λ_=>False))/\lk H 92=none
def Mfs(sc:Nat->Prop)(m:Nat)(H:Hp)(b:Nat):Prop:=Mof m H b\/¬sc b
theorem Sat.ps {o y:World} {n:Nat} {d:Hp}  (hs:Sat N sc env ((n,Yx o (Mfs sc m H))::Hn) a y) (S:lk Hn n=none) (R:n≠0) (Z:∀q,lk Hn 0=some q->q.own=false) (hb:m<=o.heap.size)
  (F:FpM Hn d) (u:∀j q,lk d j=some q->∀b,q.fp b->q.own=true->Mof m H b) (B:∀j q,lk d j=some q->∀b,q.fp b->q.own=false->b<w.heap.size\/m<=b) (M:∀i q,lk H i=some q->∀b,q.fp b->b<w.heap.size):Kps sc w m (Mof m H) Hn y:=by
 have g:∀i c,lk Hn i=some c->lk ((n,Yx o (Mfs sc m H))::Hn) i=some c:=λi c hi=>by grind [Zx]
 have s:∀i c,lk Hn i=some c->c.own=true->∀b,c.fp b->Mof m H b:=λi c hi z b f=>by
  have k:i≠n:=λe=>O4;have p:i≠0:=λe=>O4;have Y:=hs.scope i c p (g i c hi) b f;have:=hs.sep i n c _ k (g i c hi) (Yl _ _ _) z b f;by_cases l:b<o.heap.size
  .rcases(eT.1 λv=>this ⟨l,v⟩)with h|h
   all_goals grind
  .exact .inr O
 refine⟨λi c hi=>hs.hold i c (g i c hi),λi j c D t hi I=>hs.sep i j c D t (g i c hi) (g j D I),λi c r hi=>hs.scope i c r (g i c hi),λi c hi z b f=>?_,s⟩;rcases F.lk i c hi with h|h
 .grind
 .obtain⟨j,q,v,x⟩:=h b f;cases hqo:q.own with
  | false=>grind
  | true=>
   rcases u j q v b x hqo with⟨i',q',V,_,G⟩|h
   all_goals grind
def LpAt(l:Nat)(Mf:Nat->Prop)(W:World):Prop:=(∃r,W.heap[l]? = some (.loop r))/\¬Mf l
def RBn(n:Nat)(N:Nat)(sc:Nat->Prop)(Mf:Nat->Prop)(b:Hp){h i:Type}(j:h->Hp)(g:h->Prop)(k:i->Hp)(c:i->Prop)(l:World):Exit->Act->World->Prop:=λe a W=>
 (e= .normal/\∃d,g d/\FpM (j d) b/\∃env',Sat N sc env' ((n,Yx l Mf)::j d) a W)\/(e= .ret/\∃f,c f/\FpM (k f) b/\∃env',Sat N sc env' ((n,Yx l Mf)::k f) a W)
def RAn(n:Nat)(P:Program)(N:Nat)(sc:Nat->Prop)(l:Nat)(Mf:Nat->Prop)(b:Hp)(body:Code){i j:Type}(k:i->Hp)(h:i->Prop)(o:j->Hp)(f:j->Prop)(p:World):Exit->Act->World->Prop:=λe a W=>
 e= .normal/\∃c d,lk d n=none/\(∀q,lk d 0=some q->q.own=false)/\FpM d b/\Sat N sc c ((n,Yx p Mf)::d) a W/\
  ∀g,LpAt l Mf g->∀a W,Sat N sc c ((n,Yx g Mf)::d) a W->body.wpIn (Fence.wide.inRound l) 0 P (RBn n N sc Mf b k h o f g) a W
theorem Zrw:∀(l:List Pc) (n:Nat) (H:Hp) (j:Nat) (q:Pc),lk (adds n l H) j=some q->q∈l\/lk H j=some q
 | [],_,_,_,_,h=> .inr h
 | p::r,n,H,j,q,h=>by
  by_cases b:n=j
  .subst b;rw [Yl]at h;cases h;exact .inl (bK ..)
  .rw [Zx _ _ b]at h;exact(Zrw r _ H j q h).imp (bE _) id
@[reducible] def renv:List Nat->List Value->Pu->Pu
 | p::ps,v::vs,env=>renv ps vs ((p,v)::env)
 | _,_,env=>env
theorem Sat.rounds{w:World} : ∀(ps:List Nat) (vs:List Value) {env:Pu} {b:Array Value},(ps.all λp=>Nat.blt p N)=true->Sat N sc env H { tmps:=b,defers:=[] } w->
  Sat N sc (renv ps vs env) H { tmps:=(ps.zip vs).foldl (λt c=>t.setIfInBounds c.1 c.2) b,defers:=[] } w
 | [],_,_,_,_,h=>h
 | _::_,[],_,_,_,h=>h
 | p::ps,v::vs,env,b,hp,h=>by simp only [List.all_cons,aR]at hp;exact Sat.rounds ps vs hp.2 (h.put p v hp.1)
theorem Zwj  {w0:World}  {al:Bool} {c:Type} {φ:c->Prop} {Yq:c->Value} {b:c->List Pc}  {D:Nat}
  (d:W.heap[D]? = some (.deferred (some []))) (h:Zcx P fn w0 preF al φ Yq b .ret { a with defers:=[] } (W.putObj D (.deferred none))) :
  Zf7 P fn w0 preF al φ Yq b .ret { a with defers:=[{ target:= .collected D,args:=#[] }] } W:=by
 obtain⟨-,v,f,e⟩:=h;exact⟨O5,.inl ⟨_,_,rfl,run_takeDeferred d,⟨v,f,e⟩⟩⟩
theorem Yc4 (pre:List Pc)(w0:World) {g:Operand} {gf i5 f9:Nat} {ps:List Nat} {assign body:Code}   {α G:Type} {xs:List α} {ys:α->G->List Value} {B:α->G->List Pc} {lc:List Oper}    {al:Bool} {GF:Type} {φ:GF->Prop} {Yq:GF->Value} {M:GF->List Pc}
  {GG GX:Type} (R:Nat->GG->Hp) (c0:Nat->GG->Prop) (HX:GX->Hp) (c1:GX->Prop) (c9:GG)
  (hg:ev env g=some (.func (.func gf) #[] lbv.toArray)) (eg:∀args w,(callFunc gf args).run P w= .ok (.enter gf args) w) (hc:Ygz P gf lbv pre xs ys B)
  (hp:∀p∈pre,p.own=false/\∃i,lk H i=some p) (j1:∀x F,(ys x F).length=ps.length) (i0:(ps.all λp=>Nat.blt p N)=true)
  (hw:∀b,w0.heap.size<=b->sc b) (h0:lk H 0=some (Yx w0 (λ_=>False)))
  (b3:c0 0 c9) (a9:HSub (R 0 c9) H) (hk:∀k u,Zr5 (R k u) w0) (h7:∀gx,Zr5 (HX gx) w0)
  (c3:∀k x F u,xs[k]? = some x->c0 k u->∀l Mf S a W,Sat N sc (renv ps (ys x F) env) ((92,Yx S Mf)::adds 100 (B x F) (R k u)) a W->
   assign.wpIn (Fence.wide.inRound l) 0 P (RAn 92 P N sc l Mf (adds 100 (B x F) (R k u)) body (R (k+1)) (c0 (k+1)) HX c1 S) a W)
  (h9:lc.all Zgz=true)
  (hC:∀u,c0 xs.length u->∀D od,L P N sc lc.toArray lc (Fa λe a w=>e= .normal/\∃b2 H2,lk H2 92=none/\FpSub H2 (R xs.length u)/\Sat N sc b2 ((92,fx D od)::H2) a w/\X N sc .ret (Zcx P fn w0 preF al φ Yq M) b2 H2) env ((92,fx D od)::R xs.length u))
  (hX:∀gx,c1 gx->X N sc .ret (Zcx P fn w0 preF al φ Yq M) env (HX gx)) :
  E P N sc (.rangeFunc g ps.toArray assign body) (Exit.inBlock f9 (Exit.then ((Code.seq (.region i5 lc.toArray false) .ret).wp P (Zf7 P fn w0 preF al φ Yq M)) (Zf7 P fn w0 preF al φ Yq M))) env H:=λa w hs=>by
 have b7:∀i p,lk H i=some p->∀b,p.fp b->b<w.heap.size:=λi p hi b f=>p.lt w b (hs.hold i p hi) f;have i4:w0.heap.size<=w.heap.size:=(hs.hold 0 _ h0).size;refine(wpIn_wide (n:=0)).1 (wpIn_rangeFunc ?_);intro c8 g7;obtain⟨c,I⟩:∃c:LoopState->Option Code->Loop,c=λst pe=>{ state:=st,pending:=pe,fn:=c8,tmps:=a.tmps,params:=ps.toArray,assign,body,defers:=w.heap.size }:=⟨_,rfl⟩;obtain⟨W1,d5⟩:∃W1,(w.alloc (.deferred (some []))).alloc (.loop (c .ready none))=W1:=⟨_,rfl⟩;have g3:W1.heap[w.heap.size+1]? = some (.loop (c .ready none)):=by grind [World.alloc_heap_new,World.size_alloc]
 have g2:W1.heap[w.heap.size]? = some (.deferred (some [])):=by rw [<-d5];exact(Below.heap_alloc _ _ _ O5).trans (World.alloc_heap_new w _)
 have f1:Below w.heap.size w W1:=by rw [<-d5];exact((Below.refl _ w).alloc (aI _) _).alloc O5 _
 have j2:W1.heap.size=w.heap.size+2:=by rw [<-d5];simp
 have e0:(#[.func (.yield (w.heap.size+1)) #[] #[]] ++ lbv.toArray:Array Value)=(Value.func (.yield (w.heap.size+1)) #[] #[]::lbv).toArray:=O5;refine⟨w.heap.size+1,[{ target:= .collected w.heap.size,args:=#[] }],W1,{ target:= .fn (.func gf) lbv.toArray,args:=#[.func (.yield (w.heap.size+1)) #[] #[]] },W1,gf,
  (Value.func (.yield (w.heap.size+1)) #[] #[]::lbv).toArray,W1,?_,?_,λ_ _=>trivial,?_,λh=>(by cases h),?_⟩
 .simp_all [run_enterLoop_outer]
 .simp only [resolve,hs.ev hg];simp [go_sem]
 .simp [invoke,go_sem,eg]
 have b9:∀(Hn:Hp) (r:Loop),Zj1 λW=>W.heap[w.heap.size+1]? = some (.loop r)/\W.heap[w.heap.size]? = some (.deferred (some []))/\W1.heap.size<=W.heap.size/\Kps sc w (w.heap.size+2) (Mof (w.heap.size+2) H) Hn W:=λHn r W W' ⟨h1,h2,h3,h4⟩ hB=>
  ⟨(hB.block _ (aS.1 h1).1).trans h1,(hB.block _ (aS.1 h2).1).trans h2,aB h3 hB.size,h4.stays hB⟩
 have h8:¬Mof (w.heap.size+2) H (w.heap.size+1):=λh=>by
  rcases h with⟨i,q,hq,_,hf⟩|h
  all_goals grind
 have d2:¬Mof (w.heap.size+2) H w.heap.size:=λh=>by
  rcases h with⟨i,q,hq,_,hf⟩|h
  all_goals grind
 have f5:∀(Hn:Hp) (W:World),Kps sc w (w.heap.size+2) (Mof (w.heap.size+2) H) Hn W->∀(o:Obj),Kps sc w (w.heap.size+2) (Mof (w.heap.size+2) H) Hn (W.putObj w.heap.size o):=λHn W h o=>h.put b7 ⟨aI _,O5⟩;have b8:∀(Hn:Hp) (W:World),Kps sc w (w.heap.size+2) (Mof (w.heap.size+2) H) Hn W->∀(o:Obj),Kps sc w (w.heap.size+2) (Mof (w.heap.size+2) H) Hn (W.putObj (w.heap.size+1) o):=λHn W h o=>h.put b7 ⟨O5,O5⟩;refine callsIn_wide.2 ((hc (w.heap.size+1) (λb=>(∃i q,lk H i=some q/\q.own=true/\q.fp b)\/b=w.heap.size+1)
  (λk W=>∃u,c0 k u/\(W.heap[w.heap.size+1]? = some (.loop (c .ready none))/\W.heap[w.heap.size]? = some (.deferred (some []))/\W1.heap.size<=W.heap.size/\Kps sc w (w.heap.size+2) (Mof (w.heap.size+2) H) (R k u) W))
  (λW=>∃gx,c1 gx/\(W.heap[w.heap.size+1]? = some (.loop (c .done (some .ret)))/\W.heap[w.heap.size]? = some (.deferred (some []))/\W1.heap.size<=W.heap.size/\Kps sc w (w.heap.size+2) (Mof (w.heap.size+2) H) (HX gx) W)) W1
  ?_ ?_ ?_ ?_ ?_ ?_).mono ?_)
 .intro p z;obtain⟨ho,i,hi⟩:=hp p z;exact p.stable _ _ (hs.hold i p hi) (Chg.of_below f1)
 .rintro p z b f (⟨i,q,hq,c2,i1⟩|rfl)
  .obtain⟨ho,j,Z⟩:=hp p z;exact hs.sep i j q p (λe=>O4) hq Z c2 b i1 f
  grind
 .rintro k W W' ⟨u,d8,h⟩ hB;exact⟨u,d8,b9 _ _ W W' h hB⟩
 .rintro W W' ⟨gx,d8,h⟩ hB;exact⟨gx,d8,b9 _ _ W W' h hB⟩
 .refine⟨c9,b3,g3,g2,aI _,λi s hi=>s.stable _ _ (hs.hold i s (a9.lk i s hi)) (Chg.of_below f1),λi j s jt a8 hi Z=>hs.sep i j s jt a8 (a9.lk i s hi) (a9.lk j jt Z),
   λi s b3 hi=>hs.scope i s b3 (a9.lk i s hi),λi s hi _ b f=> .inl (b7 i s (a9.lk i s hi) b f),λi s hi ho b f=> .inl ⟨i,s,a9.lk i s hi,ho,f⟩⟩
 .rintro k x F hx W S ⟨u,Y,hl,hd,f7,a0⟩ j3 hB b4;have f4:S.heap[w.heap.size+1]? = some (.loop (c .ready none)):=(hB.block _ O).trans hl;have g6:S.heap[w.heap.size]? = some (.deferred (some [])):=(hB.block _ O).trans hd;have hy:=run_yield (P:=P) (args:=(ys x F).toArray) f4 O4;have h5:∀p∈B x F,∀b,p.fp b->w.heap.size+2<=b:=λp hp b f=>O4;have s1:Sat N sc env (R k u) { tmps:=a.tmps,defers:=[] } S:=(a0.stays hB).sat hs.size rfl hs.env;have s2:Sat N sc env (adds 100 (B x F) (R k u)) { tmps:=a.tmps,defers:=[] } S:=s1.adds (w1:=S) _ _ λp z=>⟨(b4 p z).1,(b4 p z).2.1,λb f=>hw b O4,λj jt Z ho b f a4=>by have h1:=(b4 p z).2.2 b f;have h2:=jt.lt W b (a0.hold j jt Z) a4;omega⟩
  have c4:∀j q,lk (adds 100 (B x F) (R k u)) j=some q->(q∈B x F)\/lk (R k u) j=some q:=λj q h=>Zrw _ _ _ j q h;have z:∀j q,lk (adds 100 (B x F) (R k u)) j=some q->∀b,q.fp b->q.own=true->Mof (w.heap.size+2) H b:=λj q Z b f ho=>by
   rcases c4 j q Z with h|h
   .grind
   .exact a0.mf j q h ho b f
  have c7:∀j q,lk (adds 100 (B x F) (R k u)) j=some q->∀b,q.fp b->q.own=false->b<w.heap.size\/w.heap.size+2<=b:=λj q Z b f ho=>by
   rcases c4 j q Z with h|h
   .grind
   .exact a0.off j q h ho b f
  have s3:=s2.rounds ps (ys x F) i0;have s4:Sat N sc (renv ps (ys x F) env) ((92,Yx S (Mfs sc (w.heap.size+2) H))::adds 100 (B x F) (R k u)) _ S:=s3.add 92 (Yx S (Mfs sc (w.heap.size+2) H)) (Chg.refl _ _) (λj jt a8 Z Hf b f a4=>by
   rcases Hf with h|h
   .cases h
   .exact f.2 (.inl (z j jt Z b a4 h))) (λb f=>eT.1 λhn=>f.2 (.inr hn))
  have e2:¬Mfs sc (w.heap.size+2) H (w.heap.size+1):=λh=>h.elim h8 (λhn=>hn (hw _ O));have e7:¬Mfs sc (w.heap.size+2) H w.heap.size:=λh=>h.elim d2 (λhn=>hn (hw _ i4));rw [I]at hy;refine⟨c8,_,assign,body,hy,roundIn_of_wpIn g7 ?_⟩;have hr:=c3 k x F u hx Y (w.heap.size+1) (Mfs sc (w.heap.size+2) H) S _ S s4;have e3:(ps.toArray.zip (ys x F).toArray).foldl (λt (p,v)=>t.setIfInBounds p v) a.tmps=(ps.zip (ys x F)).foldl (λt pv=>t.setIfInBounds pv.1 pv.2) a.tmps:=O5;have f6:w.heap.size+2<=S.heap.size:=O4;have h6:∀(Hn:Hp),Zr5 Hn w0->∀q,lk Hn 0=some q->q.own=false:=λHn h q hq=>by rw [h.1]at hq;cases hq;rfl
  rw [show(ps.toArray.zip (ys x F).toArray).foldl (λt (x:Nat×Value)=>t.setIfInBounds x.1 x.2) a.tmps=(ps.zip (ys x F)).foldl (λt pv=>t.setIfInBounds pv.1 pv.2) a.tmps from e3];refine wpIn_mono hr ?_;rintro e a1 W2 ⟨rfl,e5,H1,d0,e8,g0,a2,d7⟩;have a5:Chg (Mfs sc (w.heap.size+2) H) S W2:=a2.hold 92 _ (Yl _ _ _);have b5:W2.heap[w.heap.size+1]? = some (.loop (c .ready none)):=(a5.block _ O e2).trans f4;have i8:W2.heap[w.heap.size]? = some (.deferred (some [])):=(a5.block _ O e7).trans g6;have p1:=a2.ps d0 O e8 f6 g0 z c7 b7;have i7:S.heap.size<=W2.heap.size:=a5.size;obtain⟨d,V⟩:∃d,W2.putObj (w.heap.size+1) (.loop { c .ready none with state:= .busy })=d:=⟨_,rfl⟩;have i6:Sat N sc e5 ((92,Yx d (Mfs sc (w.heap.size+2) H))::H1) a1 d:=by
   have p2:=b8 _ _ p1 (.loop { c .ready none with state:= .busy });rw [V]at p2;refine(p2.sat a2.size a2.defers a2.env).add 92 (Yx d (Mfs sc (w.heap.size+2) H)) (Chg.refl _ _) (λj jt a8 Z Hf b f a4=>?_) (λb f=>eT.1 λhn=>f.2 (.inr hn));rcases Hf with h|h
   .cases h
   .exact f.2 (.inl (p2.mf j jt Z h b a4))
  have i3:W2.heap.size=d.heap.size:=by rw [<-V];simp
  have c6:d.heap[w.heap.size+1]? = some (.loop { c .ready none with state:= .busy }):=by grind [World.putObj_heap_same]
  have f2:d.heap[w.heap.size]? = some (.deferred (some [])):=by grind [World.putObj_heap_other]
  refine⟨d,by grind [run_beginRound],wpIn_mono (d7 d ⟨⟨_,c6⟩,e2⟩ a1 d i6) ?_⟩;have c5:∀(Hn:Hp) (env':Pu) (a3:Act) (y:World),Zr5 Hn w0->FpM Hn (adds 100 (B x F) (R k u))->Sat N sc env' ((92,Yx d (Mfs sc (w.heap.size+2) H))::Hn) a3 y->∀(r:Loop),
    y.heap[w.heap.size+1]? = some (.loop { c .ready none with state:= .busy })/\(((y.putObj (w.heap.size+1) (.loop r)).heap[w.heap.size+1]? = some (.loop r)/\(y.putObj (w.heap.size+1) (.loop r)).heap[w.heap.size]? = some (.deferred (some []))/\
     W1.heap.size<=(y.putObj (w.heap.size+1) (.loop r)).heap.size/\Kps sc w (w.heap.size+2) (Mof (w.heap.size+2) H) Hn (y.putObj (w.heap.size+1) (.loop r)))/\
     Chg (λb=>((∃i q,lk H i=some q/\q.own=true/\q.fp b)\/b=w.heap.size+1)\/W1.heap.size<=b) S (y.putObj (w.heap.size+1) (.loop r))):=by
   intro Hn env' a3 y e1 g1 b0 r;have a6:Chg (Mfs sc (w.heap.size+2) H) d y:=b0.hold 92 _ (Yl _ _ _);have b6:=(a6.block _ O e2).trans c6;have a7:=(a6.block _ O e7).trans f2;have f8:=a6.size;have p3:=b0.ps e1.2 O (h6 Hn e1) O g1 z c7 b7;refine⟨b6,⟨World.putObj_heap_same O,(World.putObj_heap_other O5).trans a7,O8,b8 _ _ p3 _⟩,?_⟩;have k0:(Yx w0 (λ_=>False)).holds S:=a0.stays hB |>.hold 0 _ (hk k u).1;have k3:(Yx w0 (λ_=>False)).holds y:=p3.hold 0 _ e1.1;refine⟨?_,?_,?_,O8,λb f hn=>?_⟩
   .exact a6.os.trans ((by rw [<-V];rfl:d.os=W2.os).trans a5.os)
   .exact a6.tape.trans ((by rw [<-V];rfl:d.tape=W2.tape).trans a5.tape)
   .exact a6.output.trans ((by rw [<-V];rfl:d.output=W2.output).trans a5.output)
   .have g5:b≠w.heap.size+1:=λe=>hn (.inl (.inr e));have g4:¬Mof (w.heap.size+2) H b:=λh=>by
     rcases h with h|h
     all_goals grind
    refine(World.putObj_heap_other g5).trans ?_;by_cases i2:sc b
    .have e9:¬Mfs sc (w.heap.size+2) H b:=λh=>h.elim g4 (λh=>h i2);refine(a6.block b O e9).trans ?_;have:d.heap[b]? = W2.heap[b]?:=by grind [World.putObj_heap_other]
     exact this.trans (a5.block b f e9)
    .have f0:b<w0.heap.size:=by grind
     exact(k3.block b f0 (λh=>h)).trans (k0.block b f0 (λh=>h)).symm
  rintro e a3 y (⟨rfl,e6,d9,d3,env',b0⟩|⟨rfl,gx,d9,d3,env',b0⟩)
  .obtain⟨b6,d4,d1⟩:=c5 _ env' a3 y (hk (k+1) e6) d3 b0 (c .ready none);have:=run_endRound (P:=P) none b6;rw [show({ ({ c .ready none with state:= .busy } : Loop)with state:=if(none:Option Code).isNone then LoopState.ready else .done,pending:=none } : Loop)=c .ready none by rw [I];rfl]at this;exact⟨_,_,this,.inl ⟨rfl,⟨e6,d9,d4⟩,d1⟩⟩
  .obtain⟨b6,d4,d1⟩:=c5 _ env' a3 y (h7 gx) d3 b0 (c .done (some .ret));have:=run_endRound (P:=P) (some .ret) b6;rw [show({ ({ c .ready none with state:= .busy } : Loop)with state:=if(some Code.ret).isNone then LoopState.ready else .done,pending:=some .ret } : Loop)=c .done (some .ret) by rw [I];rfl]at this;exact⟨_,_,this,.inr ⟨rfl,⟨gx,d9,d4⟩,d1⟩⟩
 .have i9:∀(Hn:Hp) (W:World),Kps sc w (w.heap.size+2) (Mof (w.heap.size+2) H) Hn W->Kps sc w (w.heap.size+2) (Mof (w.heap.size+2) H) Hn ((W.putObj (w.heap.size+1) (.loop (c .exhausted none))).putObj w.heap.size (.deferred none)):=λHn W h=>f5 _ _ (b8 _ _ h _) _;rintro e W2 ⟨⟨v,rfl⟩,⟨u,Y,hl,hd,f7,e4⟩|⟨gx,Y,hl,hd,f7,e4⟩⟩
  .refine⟨none,_,by have:=run_endLoop (P:=P) hl O4;rw [I]at this;omega,?_⟩;obtain⟨y,d6⟩:∃y,W2.putObj (w.heap.size+1) (.loop (c .exhausted none))=y:=⟨_,rfl⟩;have p3:=b8 _ _ e4 (.loop (c .exhausted none));rw [d6]at p3;have a7:y.heap[w.heap.size]? = some (.deferred (some [])):=by rw [<-d6];exact(World.putObj_heap_other O).trans hd
   have f8:y.heap.size=W2.heap.size:=by rw [<-d6];simp
   rw [show W2.putObj (w.heap.size+1) (.loop { state:= .exhausted,pending:=none,fn:=c8,tmps:=a.tmps,params:=ps.toArray,assign:=assign,body:=body,defers:=w.heap.size })=y by grind];have s3:Sat N sc env (R xs.length u) { tmps:=a.tmps,defers:=[] } y:=p3.sat hs.size rfl hs.env;have s4:Sat N sc env ((92,fx w.heap.size (.deferred (some [])))::R xs.length u) { tmps:=a.tmps,defers:=[] } y:=s3.add 92 _ a7 (λj jt a8 Z Hf b f a4=>by
    rcases Hf with h|h
    .cases h
    .have f:b=w.heap.size:=f;subst f;exact d2 (p3.mf j jt Z h _ a4)) (λb f=>hw b (by have f:b=w.heap.size:=f;omega))
   rw [hs.defers];refine wp_seq (wp_region_lit (Zry (P:=P) (ops:=lc.toArray) (Q:=Exit.then (Code.ret.wp P (Zf7 P fn w0 preF al φ Yq M)) (Zf7 P fn w0 preF al φ Yq M)) (ds:=[{ target:= .collected w.heap.size,args:=#[] }]) lc { tmps:=a.tmps,defers:=[] } y h9 ?_));refine Iu (λe a' W' h=>?_) lc _ y (hC u Y _ _ _ y s4);cases e with
   | normal=>
    obtain⟨-,b2,H2,d0,g9,b1,hx⟩:=h;refine wp_ret (Zwj (b1.hold 92 _ (Yl _ _ _)) ?_);have b5:∀i s,lk H2 i=some s->lk ((92,fx w.heap.size (.deferred (some [])))::H2) i=some s:=λi s hi=>by
     by_cases h1:92=i
     .subst h1;rw [d0]at hi;cases hi
     .rw [Zx _ _ h1];exact hi
    refine hx _ _ ⟨b1.size,rfl,b1.env,λi s hi=>s.stable _ _ (b1.hold i s (b5 i s hi)) ⟨rfl,rfl,rfl,O5,λk hk hn=>World.putObj_heap_other (λe=>hn λhf=>?_)⟩,λi j s jt a8 hi Z=>b1.sep i j s jt a8 (b5 i s hi) (b5 j jt Z),λi s b3 hi=>b1.scope i s b3 (b5 i s hi)⟩;subst e;obtain⟨q,hq,j0,f3⟩:=g9.lk i s hi;cases c2:q.own with
    | true=>exact d2 (p3.mf i q hq c2 _ (f3 _ hf))
    | false=>rcases p3.off i q hq c2 _ (f3 _ hf)with h|h<;>omega
   | _=>exact h.elim
  .refine⟨some .ret,_,by have:=run_endLoop (P:=P) hl O4;rw [I]at this;omega,wpIn_ret ?_⟩;have p3:=b8 _ _ e4 (.loop { c .done (some .ret)with state:= .exhausted });have a7:(W2.putObj (w.heap.size+1) (.loop { c .done (some .ret)with state:= .exhausted })).heap[w.heap.size]? = some (.deferred (some [])):=(World.putObj_heap_other O).trans hd;rw [I]at p3 a7;rw [hs.defers];exact Zwj a7 (hX gx Y _ _ ((f5 _ _ p3 _).sat hs.size rfl hs.env))
end Go.Sky
namespace Go.Sky
variable {P:Program} {N:Nat} {sc:Nat->Prop} {env env':Pu} {H H':Hp} {Q Q':Exit->Act->World->Prop} {M:Nat->Prop}
@[reducible] def lk2 {α:Type} : List (Nat×α)->Nat->Option α
 | [],_=>none
 | (k,v)::r,n=>match Nat.beq k n with
  | true=>some v
  | false=>lk2 r n
theorem Zyx{α:Type} : ∀(e:List (Nat×α)) (n:Nat),lk2 e n=lk e n
 | [],_=>rfl
 | (k,v)::r,n=>by unfold lk2 lk;cases Nat.beq k n<;>simp [Zyx r n]
@[reducible] def ev2 (e:Pu):Operand->Option Value
 | .tmp t=>lk2 e t
 | .const v=>some v
 | .global g=>some (.pointer (some ⟨g,0,none⟩))
 | .func f=>some (.func (.func f) #[] #[])
theorem ev2_eq(e:Pu)(x:Operand):ev2 e x=ev e x:=by cases x<;>simp [ev2,ev,Zyx]
@[reducible] def nth {α:Type} : List α->Nat->Option α
 | [],_=>none
 | x::r,n=>match n with
  | 0=>some x
  | n+1=>nth r n
theorem Zyp{α:Type} : ∀(l:List α) (n:Nat),nth l n=l[n]?
 | [],n=>by rfl
 | x::r,0=>by rfl
 | x::r,n+1=>by simp [nth,Zyp r n]
@[reducible] def ltb (a b:Nat):Bool:=match Nat.ble b a with
 | true=>false
 | false=>true
theorem Ns{a b:Nat}(h:ltb a b=true):Nat.blt a b=true:=by
 cases hb:Nat.ble b a with
 | true=>grind
 | false=>
  have c:¬b<=a:=λd=>by grind [Nat.ble_eq_true_of_le]
  simp_all
@[reducible] def neb (a b:Nat):Bool:=match Nat.beq a b with
 | true=>false
 | false=>true
theorem Zci{a b:Nat}(h:neb a b=true):a≠b:=λe=>by grind [Nat.beq_refl]
class Som {α:Type} (a:Option α) (b:outParam α):Prop where h:a=some b
instance {α:Type} {b:α} : Som (some b) b:=⟨rfl⟩
class TB (a:Bool):Prop where h:a=true
instance:TB true:=⟨rfl⟩
def Som.e{x:Operand}{v:Value}(h:Som (ev2 env x) v):ev env x=some v:=(ev2_eq env x).symm.trans h.h
def Som.l{α:Type}{e:List (Nat×α)}{n:Nat}{v:α}(h:Som (lk2 e n) v):lk e n=some v:=(Zyx e n).symm.trans h.h
theorem Som.n{α:Type}{l:List α}{n:Nat}{v:α}(h:Som (nth l n) v):l.toArray[n]? = some v:=by have:=(Zyp l n).symm.trans h.h;simpa using this
class AndO (s q:Prop) (r:outParam Prop):Prop where h:r->s/\q
instance (priority:=low) {s q:Prop} : AndO s q (s/\q):=⟨id⟩
instance {q:Prop} : AndO True q q:=⟨λh=>⟨aA,h⟩⟩
class Und (P:Program) (t:TypeId) (d:outParam TypeDesc):Prop where h:P.underlying t=some d
class Siz (P:Program) (t:TypeId) (k:outParam Nat):Prop where h:∀w,(sizeOf t).run P w= .ok k w
class Agg (P:Program) (t:TypeId) (b:outParam Bool):Prop where h:∀w,(isAgg t).run P w= .ok b w
class EncT {α:Type} (P:Program) (t:TypeId) (k:Nat) (enc:α->Value):Prop where h:Enc P t k enc
class RdI (P:Program) (H:Hp) (v:Value) (i:outParam Nat) {α:outParam Type} (k:outParam Nat) (enc:outParam (α->Value)) (xs:outParam (List α)):Prop where
 h:∃p,lk H i=some p/\Rd p k enc v xs
instance {α:Type} {v:Value} {i k:Nat} {enc:α->Value} {xs:List α} : RdI P ((i,Yy k enc v xs)::H) v i k enc xs:=⟨_,Yl _ _ _,Zq⟩
instance {α:Type} {v:Value} {i k:Nat} {enc:α->Value} {xs:List α} {e:TypeId} [h:EncT P e k enc]:RdI P ((i,Of k e enc v xs)::H) v i k enc xs:=⟨_,Yl _ _ _,Ya h.h⟩
instance {β:Type} {v:Value} {i k:Nat} {enc:β->Value} {q:β->Pc} {zs:List β} : RdI P ((i,Xv k enc q v zs)::H) v i k enc zs:=⟨_,Yl _ _ _,Zc⟩
instance (priority:=low) {α:Type} {v:Value} {i j k:Nat} {p:Pc} {enc:α->Value} {xs:List α} [h:RdI P H v i k enc xs] [hn:TB (neb j i)]:RdI P ((j,p)::H) v i k enc xs:=
 ⟨by obtain⟨q,h1,h2⟩:=h.h;exact⟨q,by rw [Zx _ _ (Zci hn.h)];exact h1,h2⟩⟩
class BxI (H:Hp) (b:Nat) (i:outParam Nat) (t:outParam TypeId) (l:outParam (List Value)):Prop where h:lk H i=some (box b t l.toArray)
instance {b i:Nat} {t:TypeId} {l:List Value} : BxI ((i,box b t l.toArray)::H) b i t l:=⟨Yl _ _ _⟩
instance (priority:=low) {b i j:Nat} {t:TypeId} {p:Pc} {l:List Value} [h:BxI H b i t l] [hn:TB (neb j i)]:BxI ((j,p)::H) b i t l:=⟨by rw [Zx _ _ (Zci hn.h)];exact h.h⟩
class RxI (H:Hp) (b:Nat) (i:outParam Nat) (t:outParam TypeId) (l:outParam (List Value)):Prop where h:lk H i=some (Kv b t l.toArray)
instance {b i:Nat} {t:TypeId} {l:List Value} : RxI ((i,Kv b t l.toArray)::H) b i t l:=⟨Yl _ _ _⟩
instance (priority:=low) {b i j:Nat} {t:TypeId} {p:Pc} {l:List Value} [h:RxI H b i t l] [hn:TB (neb j i)]:RxI ((j,p)::H) b i t l:=⟨by rw [Zx _ _ (Zci hn.h)];exact h.h⟩
class DI (P:Program) (N:Nat) (sc:Nat->Prop) (op:Go.Op) (env:Pu) (H:Hp) (v:outParam Value) (s:outParam Prop):Prop where
 h:s->∀{d:Option Tmp} {ty:TypeId} {pos:String} {af:Array Edge} {g:Option (Nat×Bool)},Li P N sc ⟨d,op,ty,pos,af,g⟩ env H v
section
variable {x y c:Operand} {v u:Value} {t t':TypeId} {k:IntKind} {m n:Int}
instance [h:Som (ev2 env x) v]:DI P N sc (.move x) env H v True:=⟨λ_=>Za8 rfl h.e⟩
instance [h:Som (ev2 env x) v]:DI P N sc (.assign x) env H v True:=⟨λ_=>d_as rfl h.e⟩
instance {i:Nat} {vs:List Value} [h:Som (ev2 env x) (.tuple vs.toArray)] [h2:Som (nth vs i) v]:DI P N sc (.extract x i) env H v True:=⟨λ_=>Zzg rfl h.e h2.n⟩
instance {ad:Addr} [h:Som (ev2 env x) (.pointer (some ad))]:DI P N sc (.nilCheck x) env H (.pointer (some ad)) True:=⟨λ_=>d_nc rfl h.e⟩
instance {p:Prop} [Decidable p] [h:Som (ev2 env x) (.bool (decide p))]:DI P N sc (.unOp .not t x) env H (.bool (decide (¬p))) True:=⟨λ_=>Ymv rfl h.e⟩
instance (priority:=low) {b:Bool} [h:Som (ev2 env x) (.bool b)]:DI P N sc (.unOp .not t x) env H (.bool (!b)) True:=⟨λ_=>Xb rfl h.e⟩
instance (priority:=high) [h:Som (ev2 env x) (.bool true)]:DI P N sc (.unOp .not t x) env H (.bool false) True:=⟨λ_=>Xb rfl h.e⟩
instance (priority:=high) [h:Som (ev2 env x) (.bool false)]:DI P N sc (.unOp .not t x) env H (.bool true) True:=⟨λ_=>Xb rfl h.e⟩
instance [h:Som (ev2 env c) (.bool true)] [h1:Som (ev2 env x) v]:DI P N sc (.pick c x y) env H v True:=⟨λ_=>Cn rfl h.e h1.e⟩
instance [h:Som (ev2 env c) (.bool false)] [h1:Som (ev2 env y) v]:DI P N sc (.pick c x y) env H v True:=⟨λ_=>Yr6 rfl h.e h1.e⟩
instance [h:Som (ev2 env x) (.int k m)] [h1:Som (ev2 env y) (.int k n)]:DI P N sc (.binOp .lss t x y t') env H (.bool (decide (m<n))) True:=⟨λ_=>Ymx rfl h.e h1.e⟩
instance [h:Som (ev2 env x) (.int k m)] [h1:Som (ev2 env y) (.int k n)]:DI P N sc (.binOp .leq t x y t') env H (.bool (decide (m<=n))) True:=⟨λ_=>d_leq rfl h.e h1.e⟩
instance [h:Som (ev2 env x) (.int k m)] [h1:Som (ev2 env y) (.int k n)]:DI P N sc (.binOp .gtr t x y t') env H (.bool (decide (n<m))) True:=⟨λ_=>Zbt rfl h.e h1.e⟩
instance [h:Som (ev2 env x) (.int k m)] [h1:Som (ev2 env y) (.int k n)]:DI P N sc (.binOp .geq t x y t') env H (.bool (decide (n<=m))) True:=⟨λ_=>d_geq rfl h.e h1.e⟩
instance [h:Som (ev2 env x) (.int k m)] [h1:Som (ev2 env y) (.int k n)]:DI P N sc (.binOp .eql t x y t') env H (.bool (decide (m=n))) True:=⟨λ_=>Ymy rfl h.e h1.e⟩
instance [h:Som (ev2 env x) (.int k m)] [h1:Som (ev2 env y) (.int k n)]:DI P N sc (.binOp .neq t x y t') env H (.bool (decide (m≠n))) True:=⟨λ_=>Znj rfl h.e h1.e⟩
instance {a b:Bool} [h:Som (ev2 env x) (.bool a)] [h1:Som (ev2 env y) (.bool b)] [h2:Und P t .bool]:DI P N sc (.binOp .eql t x y t') env H (.bool (a == b)) True:=⟨λ_=>d_eqb rfl h.e h1.e h2.h⟩
instance {a b:Bool} [h:Som (ev2 env x) (.bool a)] [h1:Som (ev2 env y) (.bool b)] [h2:Und P t .bool]:DI P N sc (.binOp .neq t x y t') env H (.bool (a != b)) True:=⟨λ_=>d_neb rfl h.e h1.e h2.h⟩
instance [h:Som (ev2 env x) (.int .i64 m)] [h1:Som (ev2 env y) (.int .i64 n)]:DI P N sc (.binOp .add t x y t') env H (.int .i64 (m+n)) (-9223372036854775808<=m+n/\m+n<=9223372036854775807):=⟨λs=>Ym0 rfl h.e h1.e s⟩
instance [h:Som (ev2 env x) (.int .i64 m)] [h1:Som (ev2 env y) (.int .i64 n)]:DI P N sc (.binOp .sub t x y t') env H (.int .i64 (m-n)) (-9223372036854775808<=m-n/\m-n<=9223372036854775807):=⟨λs=>d_sub rfl h.e h1.e s⟩
instance [h:Som (ev2 env x) (.int .i64 m)] [h1:Som (ev2 env y) (.int .i64 n)]:DI P N sc (.binOp .mul t x y t') env H (.int .i64 (m*n)) (-9223372036854775808<=m*n/\m*n<=9223372036854775807):=⟨λs=>d_mul rfl h.e h1.e s⟩
instance {i kk:Nat} {α:Type} {enc:α->Value} {xs:List α} {e:TypeId} [h:Som (ev2 env x) v] [h1:RdI P H v i kk enc xs] [h2:Und P t (.slice e)]:DI P N sc (.call { callee:= .builtin .len,args:=#[x],argTypes:=#[t] }) env H (.int .i64 xs.length) True:=
 ⟨λ_=>by obtain⟨p,h3,h4⟩:=h1.h;exact d_len rfl h.e h3 h4 h2.h⟩
instance {s:ByteArray} [h:Som (ev2 env x) (.string s)] [h2:Und P t .string]:DI P N sc (.call { callee:= .builtin .len,args:=#[x],argTypes:=#[t] }) env H (.int .i64 s.size) True:=⟨λ_=>d_lens rfl h.e h2.h⟩
end
@[reducible] def eqb (a b:Nat):Bool:=match Nat.beq a b with
 | true=>true
 | false=>false
theorem eqb_eq{a b:Nat}(h:eqb a b=true):a=b:=by grind [Nat.eq_of_beq_eq_true]
@[reducible] def lenq {α:Type} : List α->Nat->Bool
 | [],n=>match n with
  | 0=>true
  | _+1=>false
 | _::r,n=>match n with
  | 0=>false
  | n+1=>lenq r n
theorem Zhc{α:Type} : ∀{l:List α} {n:Nat},lenq l n=true->l.length=n
 | [],0,_=>rfl
 | [],n+1,h=>O4
 | _::r,0,h=>O4
 | _::r,n+1,h=>by have:=Zhc (by simpa [lenq]using h);simp [this]
@[reducible] def fit0 {α β:Type} : List α->List β->Bool
 | _,[]=>true
 | l,_::vs=>match l with
  | []=>false
  | _::r=>fit0 r vs
@[reducible] def fits {α β:Type} : List α->Nat->List β->Bool
 | [],j,a=>match j with
  | 0=>fit0 ([]:List α) a
  | _+1=>false
 | x::r,j,a=>match j with
  | 0=>fit0 (x::r) a
  | j+1=>fits r j a
theorem Zsd{α β:Type} : ∀{vs:List β} {l:List α},fit0 l vs=true->vs.length<=l.length
 | [],_,_=>O5
 | _::vs,[],h=>O4
 | _::vs,_::r,h=>by simp_all [Zsd]
theorem Ycu{α β:Type} : ∀{l:List α} {j:Nat} {vs:List β},fits l j vs=true->j+vs.length<=l.length
 | [],0,vs,h=>by have:=Zsd O;omega
 | [],j+1,vs,h=>O4
 | x::r,0,vs,h=>by have:=Zsd O;omega
 | x::r,j+1,vs,h=>by have:=Ycu (l:=r) O;grind
@[reducible] def seg {α:Type} : List α->Nat->Nat->List α
 | [],_,_=>[]
 | x::r,j,k=>match j with
  | j+1=>seg r j k
  | 0=>match k with
   | 0=>[]
   | k+1=>x::seg r 0 k
theorem Zkj{α:Type} : ∀(l:List α) (j k n:Nat) (u:α),(seg l j k)[n]? = some u->l[j+n]? = some u
 | [],_,_,_,_,h=>O4
 | x::r,j+1,k,n,u,h=>by have:=Zkj r j k n u (by simpa [seg]using h);rw [show j+1+n=(j+n)+1 by omega];simpa using this
 | x::r,0,0,n,u,h=>O4
 | x::r,0,k+1,0,u,h=>O4
 | x::r,0,k+1,n+1,u,h=>by have:=Zkj r 0 k n u O4;grind
class LEv {α:Type} (l:List α) (r:outParam (List α)):Prop where h:l=r
instance {α:Type} : LEv ([]:List α) []:=⟨rfl⟩
instance {α:Type} {a:α} {l r:List α} [h:LEv l r]:LEv (a::l) (a::r):=⟨by rw [h.h]⟩
class AddN (a b:Nat) (c:outParam Nat):Prop where h:a+b=c
instance (priority:=low) {a b:Nat} : AddN a b (a+b):=⟨rfl⟩
instance {b:Nat} : AddN 0 b b:=⟨cE b⟩
instance {a:Nat} : AddN a 0 a:=⟨rfl⟩
class Df (α:Type) (d:outParam α):Prop where t:True
instance:Df Int 0:=⟨aA⟩
instance:Df Nat 0:=⟨aA⟩
section
variable {x y:Operand} {v u:Value} {t tb:TypeId} {b j i k f:Nat} {l vs ws:List Value}
instance [h:Som (ev2 env x) (.pointer (some ⟨b,j,none⟩))] [h1:Agg P t false] [h2:BxI H b i tb l] [h3:Som (nth l j) v]:DI P N sc (.load t x) env H v True:=⟨λ_=>Ygp _ rfl h.e h2.h h1.h h3.n⟩
instance [h:Som (ev2 env x) (.pointer (some ⟨b,j,none⟩))] [h1:Agg P t true] [h2:BxI H b i tb l] [h4:Siz P t k] [h3:LEv (seg l j k) vs] [h5:TB (lenq vs k)]:DI P N sc (.load t x) env H (.agg vs.toArray) True:=
 ⟨λ_=>Ydd _ rfl h.e h2.h h1.h h4.h (Zhc h5.h) (λn u hu=>by rw [<-h3.h]at hu;simpa using Zkj l j k n u hu)⟩
instance [h:Som (ev2 env x) (.pointer (some ⟨b,j,none⟩))] [h1:Agg P t false] [h2:RxI H b i tb l] [h3:Som (nth l j) v]:DI P N sc (.load t x) env H v True:=⟨λ_=>d_lr rfl h.e h2.h h1.h h3.n⟩
instance [h:Som (ev2 env x) (.pointer (some ⟨b,j,none⟩))] [h1:Agg P t true] [h2:RxI H b i tb l] [h4:Siz P t k] [h3:LEv (seg l j k) vs] [h5:TB (lenq vs k)]:DI P N sc (.load t x) env H (.agg vs.toArray) True:=
 ⟨λ_=>d_lra rfl h.e h2.h h1.h h4.h (Zhc h5.h) (λn u hu=>by rw [<-h3.h]at hu;simpa using Zkj l j k n u hu)⟩
instance {fs:List Field} {c q bo:Nat} {nm tag pk:String} {ft:TypeId} {em:Bool} [h:Som (ev2 env x) (.pointer (some ⟨b,j,none⟩))] [h1:Und P t (.struct fs.toArray)] [h2:Som (nth fs f) ⟨nm,ft,q,em,tag,pk,bo⟩] [h3:Siz P ft k] [h5:TB (neb k 0)] [h4:AddN j q c] :
  DI P N sc (.fieldAddr t x f) env H (.pointer (some ⟨b,c,none⟩)) True:=⟨λ_=>by
 obtain⟨k,rfl⟩:=Nat.exists_eq_succ_of_ne_zero (Zci h5.h);exact d_fa rfl h.e h1.h h2.n h3.h rfl h4.h⟩
instance {α:Type} {enc:α->Value} {xs:List α} {e:TypeId} {kd:IntKind} {n:Nat} [h:Som (ev2 env x) v] [h1:Som (ev2 env y) (.int kd (n:Int))] [h2:RdI P H v i k enc xs] [h3:Und P t (.slice e)] [h4:Siz P e k] :
  DI P N sc (.indexAddr t x y) env H (.pointer (some (ead v n k))) (n<xs.length):=⟨λs=>by obtain⟨p,h5,h6⟩:=h2.h;exact Zv _ _ rfl h.e h1.e h5 h6 h3.h h4.h rfl s⟩
instance {α:Type} {enc:α->Value} {xs:List α} {e:TypeId} {kd:IntKind} {n:Nat} [h:Som (ev2 env x) v] [h1:Som (ev2 env y) (.int kd (@OfNat.ofNat Int n (@instOfNat n)))] [hl:TB (eqb n n)] [h2:RdI P H v i k enc xs] [h3:Und P t (.slice e)] [h4:Siz P e k] :
  DI P N sc (.indexAddr t x y) env H (.pointer (some (ead v (@OfNat.ofNat Nat n (instOfNatNat n)) k))) (@OfNat.ofNat Nat n (instOfNatNat n)<xs.length):=⟨λs=>by obtain⟨p,h5,h6⟩:=h2.h;exact Zv _ _ rfl h.e h1.e h5 h6 h3.h h4.h rfl s⟩
instance {α:Type} {enc:α->Value} {xs:List α} {n:Nat} {d0:α} [h:Som (ev2 env x) (.pointer (some (ead v n k)))] [h2:RdI P H v i k enc xs] [h3:EncT P t k enc] [h4:Df α d0] :
  DI P N sc (.load t x) env H (enc (xs.getD n d0)) (n<xs.length):=⟨λs=>by obtain⟨p,h5,h6⟩:=h2.h;exact Ys _ d0 rfl h.e h5 h6 h3.h s⟩
instance {fs:List Field} {q bo:Nat} {nm tag pk:String} {ft:TypeId} {em:Bool} [h:Som (ev2 env x) (.agg l.toArray)] [h1:Und P t (.struct fs.toArray)] [h2:Som (nth fs f) ⟨nm,ft,q,em,tag,pk,bo⟩] [h3:Agg P ft false] [h4:Som (nth l q) v] :
  DI P N sc (.field t x f) env H v True:=⟨λ_=>d_fld rfl h.e h1.h h2.n h3.h h4.n⟩
end
class Adv (n:Nat) (p:Prop) (q:outParam Prop):Prop where h:q->p
def go(n:Nat){p q:Prop}[h:Adv n p q](k:q):p:=h.h k
@[reducible] def dsto (l:List Oper) (j:Nat):Option Nat:=match nth l j with
 | some o=>o.dst
 | none=>none
theorem Cm{l:List Oper}{j e:Nat}(h:Som (dsto l j) e):(l.toArray[j]?).bind (·.dst)=some e:=by
 have h:=h.h;unfold dsto at h;rw [Zyp]at h;simp only [List.getElem?_toArray];cases hb:l[j]? with
 | none=>rw [hb]at h;cases h
 | some o=>rw [hb]at h;exact h
section
variable {n:Nat} {q r s:Prop} {c x y:Code} {id:Nat} {l:List Oper} {ops:Array Oper} {rest:List Oper} {d j t:Nat} {op:Go.Op} {ty:TypeId} {pos:String} {af:Array Edge} {v:Value} {e:Exit} {b:Bool}
instance {p:Prop} : Adv 0 p p:=⟨λk=>k⟩
instance [h:Adv n (E P N sc x (Exit.then (y.wp P Q) Q) env H) q]:Adv (n+1) (E P N sc (.seq x y) Q env H) q:=⟨λk=>e_seq (h.h k)⟩
instance [h:Adv n (L P N sc l.toArray l Q env H) q]:Adv (n+1) (E P N sc (.region id l.toArray false) Q env H) q:=⟨λk=>e_reg (h.h k)⟩
instance [h:Adv n (X N sc .normal Q env H) q]:Adv (n+1) (E P N sc .skip Q env H) q:=⟨λk=>e_skip (h.h k)⟩
instance [h:Adv n (E P N sc c (Exit.inBlock id Q) env H) q]:Adv (n+1) (E P N sc (.block id c) Q env H) q:=⟨λk=>Yrx (h.h k)⟩
instance [h:Adv n (X N sc (.exit id) Q env H) q]:Adv (n+1) (E P N sc (.exit id) Q env H) q:=⟨λk=>e_exit (h.h k)⟩
instance [h:Adv n (X N sc .ret Q env H) q]:Adv (n+1) (E P N sc .ret Q env H) q:=⟨λk=>e_ret (h.h k)⟩
instance {o:Operand} [h1:Som (ev2 env o) (.bool true)] [h:Adv n (E P N sc x Q env H) q]:Adv (n+1) (E P N sc (.cond o x y) Q env H) q:=⟨λk=>Yrv h1.e (h.h k)⟩
instance {o:Operand} [h1:Som (ev2 env o) (.bool false)] [h:Adv n (E P N sc y Q env H) q]:Adv (n+1) (E P N sc (.cond o x y) Q env H) q:=⟨λk=>Yrw h1.e (h.h k)⟩
instance [h:Adv n (E P N sc y Q env H) q]:Adv (n+1) (X N sc .normal (Exit.then (y.wp P Q) Q) env H) q:=⟨λk=>x_then (h.h k)⟩
instance {K:Act->World->Prop} [h:Adv n (X N sc .ret Q env H) q]:Adv (n+1) (X N sc .ret (Exit.then K Q) env H) q:=⟨λk=>x_ret (h.h k)⟩
instance {K:Act->World->Prop} [h:Adv n (X N sc (.exit id) Q env H) q]:Adv (n+1) (X N sc (.exit id) (Exit.then K Q) env H) q:=⟨λk=>x_exit (h.h k)⟩
instance [h:Adv n (X N sc .normal Q env H) q]:Adv (n+1) (X N sc .normal (Exit.inBlock id Q) env H) q:=⟨λk=>x_bn (h.h k)⟩
instance [h:Adv n (X N sc .ret Q env H) q]:Adv (n+1) (X N sc .ret (Exit.inBlock id Q) env H) q:=⟨λk=>x_br (h.h k)⟩
instance [h:Adv n (X N sc .normal Q env H) q]:Adv (n+1) (X N sc (.exit id) (Exit.inBlock id Q) env H) q:=⟨λk=>x_be (h.h k)⟩
instance (priority:=low) {id':Nat} [hn:TB (neb id' id)] [h:Adv n (X N sc (.exit id') Q env H) q]:Adv (n+1) (X N sc (.exit id') (Exit.inBlock id Q) env H) q:=⟨λk=>x_bo (Zci hn.h) (h.h k)⟩
instance [h:Adv n (X N sc .normal Q env H) q]:Adv (n+1) (L P N sc ops [] Q env H) q:=⟨λk=>Zjw (h.h k)⟩
instance [h1:DI P N sc op env H v s] [h2:TB (ltb d N)] [h:Adv n (L P N sc ops rest Q ((d,v)::env) H) q] [h3:AndO s q r]:Adv (n+1) (L P N sc ops (⟨some d,op,ty,pos,af,none⟩::rest) Q env H) r:=
 ⟨λk=>dt (h1.h (h3.h k).1) (h.h (h3.h k).2) (Ns h2.h)⟩
instance [hj:Som (dsto l j) t] [hg:Som (lk2 env t) (.bool b)] [h4:TB (ltb t N)] [h1:DI P N sc op env H v s] [h2:TB (ltb d N)] [h:Adv n (L P N sc l.toArray rest Q ((d,v)::env) H) q] [h3:AndO s q r]:Adv (n+1) (L P N sc l.toArray (⟨some d,op,ty,pos,af,some (j,b)⟩::rest) Q env H) r:=
 ⟨λk=>Fj (h1.h (h3.h k).1) (Cm hj) hg.l (h.h (h3.h k).2) (Ns h4.h) (Ns h2.h)⟩
instance [hj:Som (dsto l j) t] [hg:Som (lk2 env t) (.bool false)] [h4:TB (ltb t N)] [h2:TB (ltb d N)] [h:Adv n (L P N sc l.toArray rest Q ((d,undef)::env) H) q]:Adv (n+1) (L P N sc l.toArray (⟨some d,op,ty,pos,af,some (j,true)⟩::rest) Q env H) q:=
 ⟨λk=>gsk (Cm hj) hg.l rfl (Ns h4.h) (Ns h2.h) (h.h k)⟩
instance [hj:Som (dsto l j) t] [hg:Som (lk2 env t) (.bool true)] [h4:TB (ltb t N)] [h2:TB (ltb d N)] [h:Adv n (L P N sc l.toArray rest Q ((d,undef)::env) H) q]:Adv (n+1) (L P N sc l.toArray (⟨some d,op,ty,pos,af,some (j,false)⟩::rest) Q env H) q:=
 ⟨λk=>gsk (Cm hj) hg.l rfl (Ns h4.h) (Ns h2.h) (h.h k)⟩
instance [hj:Som (dsto l j) t] [hg:Som (lk2 env t) undef] [h2:TB (ltb d N)] [h:Adv n (L P N sc l.toArray rest Q ((d,undef)::env) H) q]:Adv (n+1) (L P N sc l.toArray (⟨some d,op,ty,pos,af,some (j,b)⟩::rest) Q env H) q:=
 ⟨λk=>gsku (Cm hj) hg.l (Ns h2.h) (h.h k)⟩
end
end Go.Sky
namespace Go.Sky
variable {P:Program} {N:Nat} {sc:Nat->Prop} {env env':Pu} {H H':Hp} {Q Q':Exit->Act->World->Prop} {M:Nat->Prop}
class Hw (w0:World) (sc:Nat->Prop):Prop where h:∀b,w0.heap.size<=b->sc b
class EvI (env:Pu) (xs:List Operand) (vs:outParam (List Value)):Prop where h:EvL env xs vs
instance:EvI env [] []:=⟨aA⟩
instance {x:Operand} {r:List Operand} {v:Value} {vs:List Value} [h:Som (ev2 env x) v] [h2:EvI env r vs]:EvI env (x::r) (v::vs):=⟨⟨h.e,h2.h⟩⟩
class CalF (P:Program) (f:FuncId):Prop where h:∀args w,(callFunc f args).run P w= .ok (.enter f args) w
class AddI (n:Nat) (l:List Pc) (H:Hp) (H':outParam Hp):Prop where h:adds n l H=H'
instance {n:Nat} : AddI n [] H H:=⟨rfl⟩
instance {n:Nat} {p:Pc} {r:List Pc} [h:AddI (n+1) r H H']:AddI n (p::r) H ((n,p)::H'):=⟨by rw [<-h.h]⟩
class PreL (P:Program) (H:Hp) (al:Bool) (ids:List Nat) (pre:outParam (List Pc)):Prop where h:PreOk H al pre
class RoI (p:Pc):Prop where h:p.own=false
instance {α:Type} {k:Nat} {enc:α->Value} {v:Value} {xs:List α} : RoI (Yy k enc v xs):=⟨rfl⟩
instance {β:Type} {k:Nat} {enc:β->Value} {q:β->Pc} {v:Value} {zs:List β} : RoI (Xv k enc q v zs):=⟨rfl⟩
instance {b:Nat} {t:TypeId} {cs:Array Value} : RoI (Kv b t cs):=⟨rfl⟩
class LnI (P:Program) (al:Bool) (i:Nat) (p:Pc) (q:outParam Pc):Prop where
 h:i≠0->∀{H r},lk H i=some p->PreOk H al r->PreOk H al (q::r)
theorem Zxi{i:Nat}(h:i≠0):Nat.beq i 0=false:=by
 cases hb:Nat.beq i 0 with
 | true=>exact absurd (dU hb) h
 | false=>rfl
instance {al:Bool} {i:Nat} {p:Pc} [h:RoI p]:LnI P al i p p:=⟨λh0 _ _ hi hr=>Zk i hi (Zxi h0) h.h hr⟩
instance {α:Type} {i k:Nat} {e:TypeId} {enc:α->Value} {v:Value} {xs:List α} [h:EncT P e k enc]:LnI P false i (Of k e enc v xs) (Yy k enc v xs):=⟨λh0 _ _ hi hr=>Yjt i hi (Zxi h0) h.h hr⟩
instance {i b:Nat} {t:TypeId} {cs:Array Value} : LnI P false i (box b t cs) (Kv b t cs):=⟨λh0 _ _ hi hr=>Zip i hi (Zxi h0) hr⟩
instance {al:Bool} : PreL P H al [] []:=⟨aA⟩
instance {al:Bool} {i:Nat} {ids:List Nat} {p q:Pc} {r:List Pc} [h:Som (lk2 H i) p] [h0:TB (neb i 0)] [h1:LnI P al i p q] [h2:PreL P H al ids r]:PreL P H al (i::ids) (q::r):=⟨h1.h (Zci h0.h) h.l h2.h⟩
theorem T.conv{o:Oper}{G:Type}{φ:G->Prop}{c:G->Pu}{a b:G->Hp}(h:T P N sc M o env H φ c a)(d:∀g,a g=b g):T P N sc M o env H φ c b:=by rw [show b=a from(funext d).symm];exact h
section
variable {f:FuncId} {xs:List Operand} {ats:Array TypeId} {d:Nat} {vs fs us:List Value} {pre:List Pc} {al:Bool} {G:Type} {φ:G->Prop} {Yq:G->Value} {its:G->List Pc} {w0:World} {M0:Nat->Prop} {ty:TypeId} {pos:String} {af:Array Edge} {g:Option (Nat×Bool)}
def Zm(n:Nat)(a:List Nat)(c:Cal P f vs.toArray pre al φ Yq its){b:G->Hp}[hx:EvI env xs vs][hf:CalF P f][hp:PreL P H al a pre][h0:Som (lk2 H 0) (Yx w0 M0)][hN:TB (ltb d N)][hw:Hw w0 sc][ha:∀g,AddI n (its g) H (b g)] :
  T P N sc M ⟨some d,.call { callee:= .value (.func f),args:=xs.toArray,argTypes:=ats },ty,pos,af,g⟩ env H φ (λg=>(d,Yq g)::env) b:=
 (Xa n c rfl rfl (Ns hN.h) hx.h hf.h hp.h h0.l hw.h).conv λg=>(ha g).h
class On1 (P:Program) (N:Nat) (sc:Nat->Prop) (env:Pu) (H:Hp) (v:Value):Prop where h:One N sc env H v
instance {k:IntKind} {n:Int} : On1 P N sc env H (.int k n):=⟨Yd rfl⟩
instance {b:Bool} : On1 P N sc env H (.bool b):=⟨Yd rfl⟩
instance {s:ByteArray} : On1 P N sc env H (.string s):=⟨Yd rfl⟩
instance {a:Option Addr} : On1 P N sc env H (.pointer a):=⟨Yd rfl⟩
instance {a:Option Addr} {m n:Nat} : On1 P N sc env H (.slice a m n):=⟨Yd rfl⟩
instance (priority:=low) {α:Type} {i k:Nat} {v:Value} {enc:α->Value} {ys:List α} [h:RdI P H v i k enc ys]:On1 P N sc env H v:=⟨by obtain⟨p,h1,h2⟩:=h.h;exact Oo _ h1 h2⟩
class OnL (P:Program) (N:Nat) (sc:Nat->Prop) (env:Pu) (H:Hp) (l:List Value):Prop where h:∀u∈l,One N sc env H u
instance:OnL P N sc env H []:=⟨λ_ h=>nomatch h⟩
instance {v:Value} {l:List Value} [h:On1 P N sc env H v] [h2:OnL P N sc env H l]:OnL P N sc env H (v::l):=⟨λu hu=>by
 cases hu with
 | head=>exact h.h
 | tail _ hu=>exact h2.h u hu⟩
class CeI (P:Program) (N:Nat) (sc:Nat->Prop) (env:Pu) (H:Hp) (v:Value) (l:outParam (List Value)):Prop where
 h:∀a w,Sat N sc env H a w->v.cells=l.toArray
 o:∀u∈l,One N sc env H u
instance {l:List Value} [h:OnL P N sc env H l]:CeI P N sc env H (.agg l.toArray) l:=⟨λ_ _ _=>rfl,h.h⟩
instance (priority:=low) {v:Value} [h:On1 P N sc env H v]:CeI P N sc env H v [v]:=⟨λa w hs=>Ye (h.h a w hs),λu hu=>by rw [bI.1 hu];exact h.h⟩
class ClI (v:Value) (l:outParam (List Value)):Prop where h:v.cells=l.toArray
instance {l:List Value} : ClI (.agg l.toArray) l:=⟨rfl⟩
instance {k:IntKind} {n:Int} : ClI (.int k n) [.int k n]:=⟨rfl⟩
instance {b:Bool} : ClI (.bool b) [.bool b]:=⟨rfl⟩
instance {s:ByteArray} : ClI (.string s) [.string s]:=⟨rfl⟩
instance {a:Option Addr} : ClI (.pointer a) [.pointer a]:=⟨rfl⟩
instance {a:Option Addr} {m n:Nat} : ClI (.slice a m n) [.slice a m n]:=⟨rfl⟩
class Zer (P:Program) (t:TypeId) (z:outParam Value):Prop where h:∀w,(zeroValue t).run P w= .ok z w
variable {t tb:TypeId} {l l':List Value} {v z:Value} {x y:Operand} {i j k b:Nat}
def Zy(n:Nat)[hz:Zer P t z][hc:ClI z l][h0:Som (lk2 H 0) (Yx w0 M0)][hN:TB (ltb d N)][hw:Hw w0 sc] :
  T P N sc M ⟨some d,.alloc t,ty,pos,af,g⟩ env H (G:=Nat) (λ_=>True) (λb=>(d,.pointer (some ⟨b,0,none⟩))::env) (λb=>(n,box b t l.toArray)::H):=Zke _ rfl rfl (Ns hN.h) hz.h hc.h h0.l hw.h
def Yp(n:Nat)[hx:Som (ev2 env x) v][hc:ClI v l][h0:Som (lk2 H 0) (Yx w0 M0)][hN:TB (ltb d N)][hw:Hw w0 sc] :
  T P N sc M ⟨some d,.box t x,ty,pos,af,g⟩ env H (G:=Nat) (λ_=>True) (λb=>(d,.pointer (some ⟨b,0,none⟩))::env) (λb=>(n,box b t l.toArray)::H):=t_box rfl rfl (Ns hN.h) hx.e hc.h h0.l hw.h
@[reducible] def lay2 {α:Type} : List α->Nat->List α->List α
 | [],_,_=>[]
 | c::r,j,vs=>match j with
  | j+1=>c::lay2 r j vs
  | 0=>match vs with
   | []=>c::r
   | v::vs=>v::lay2 r 0 vs
theorem Zr3{α:Type} : ∀(l:List α) (j:Nat) (vs:List α),j+vs.length<=l.length->lay2 l j vs=l.take j ++ vs ++ l.drop (j+vs.length)
 | [],j,vs,h=>by have a:vs=[]:=aC (by simp only [fQ]at h;omega);subst a;simp [lay2]
 | c::r,j+1,vs,h=>by rw [show j+1+vs.length=(j+vs.length)+1 by omega];simp only [lay2,kJ,mS,gO];rw [Zr3 r j vs (by simp at h;omega)]
 | c::r,0,[],h=>by simp [lay2]
 | c::r,0,v::vs,h=>by
  have e:0+vs.length<=r.length:=by simp only [dP]at h;omega
  have:=Zr3 r 0 vs e;simp only [lay2,this,cE,dQ,jK,dP,mS,gO]
theorem Yhl [hx:Som (ev2 env x) (.pointer (some ⟨b,j,none⟩))] [hy:Som (ev2 env y) v] [hB:BxI H b i tb l] [hi:TB (neb i 0)] [hv:CeI P N sc env H v vs] [hk:Siz P t k] [hl:TB (lenq vs k)] [hf:TB (fits l j vs)] [hr:LEv (lay2 l j vs) l']
  [h0:Som (lk2 H 0) (Yx w0 M0)] [hw:Hw w0 sc] (e:M b):T P N sc M ⟨none,.store t x y,ty,pos,af,g⟩ env H (G:=Unit) (λ_=>True) (λ_=>env) (λ_=>(i,box b tb l'.toArray)::H):=λa w hs=>by
 have c:=Ycu hf.h;refine Zjj _ rfl rfl hx.e hy.e hB.h (Zci hi.h) (hv.h a w hs) hk.h (Zhc hl.h) (by simpa using c) hv.o ?_ h0.l hw.h e a w hs;unfold Fc;rw [<-hr.h,Zr3 l j vs c]
variable {ops:Array Oper} {rest:List Oper} {op:Go.Op} {genv:G->Pu} {gH:G->Hp} {dd:Option Tmp}
def Yg(a:T P N sc (λ_=>True) ⟨dd,op,ty,pos,af,none⟩ env H φ genv gH)(h:∀g,φ g->L P N sc ops rest Q (genv g) (gH g)):L P N sc ops (⟨dd,op,ty,pos,af,none⟩::rest) Q env H:=tt a h
def gt' {c:List Oper} {e:Nat} {a:Bool} (m:T P N sc (λ_=>True) ⟨dd,op,ty,pos,af,some (j,a)⟩ env H φ genv gH) [hj:Som (dsto c j) e] [he:Som (lk2 env e) (.bool a)] [hN:TB (ltb e N)]
  (h:∀g,φ g->L P N sc c.toArray rest Q (genv g) (gH g)):L P N sc c.toArray (⟨dd,op,ty,pos,af,some (j,a)⟩::rest) Q env H:=gtt m rfl (Cm hj) he.l (Ns hN.h) h
instance {n:Nat} {q:Prop} [hx:Som (ev2 env x) (.pointer (some ⟨b,j,none⟩))] [hy:Som (ev2 env y) v] [hB:BxI H b i tb l] [hi:TB (neb i 0)] [hv:CeI P N sc env H v vs] [hk:Siz P t k] [hl:TB (lenq vs k)] [hf:TB (fits l j vs)] [hr:LEv (lay2 l j vs) l']
  [h0:Som (lk2 H 0) (Yx w0 M0)] [hw:Hw w0 sc] [h:Adv n (L P N sc ops rest Q env ((i,box b tb l'.toArray)::H)) q]:Adv (n+1) (L P N sc ops (⟨none,.store t x y,ty,pos,af,none⟩::rest) Q env H) q:=
 ⟨λq=>Yg (Yhl aA) λ_ _=>h.h q⟩
end
end Go.Sky
namespace Go.Sky
open Go.RowKit Below
variable{o:Oper}{x:Operand}{k:IntKind}{cs:Array Value}
variable {P:Program} {N:Nat} {sc:Nat->Prop} {env env':Pu} {H H':Hp} {Q Q':Exit->Act->World->Prop} {M:Nat->Prop}
theorem f_new{w0:World}{p:Pc}(i:Nat)(hi:lk H i=some p)(f:p.own=true)(d:lk H 0=some (Yx w0 (λ_=>False)))(c:i≠0:=by decide):∀a w,Sat N sc env H a w->∀b,p.fp b->w0.heap.size<=b:=λa w hs b e=>by
  rcases aX b w0.heap.size with h|h
  . exact(hs.sep i 0 p _ c hi d f b e ⟨h,λh=>h⟩).elim
  . exact h
theorem Yg3 {fn:Func} {pre:List Pc} {G:Type} {φ:G->Prop} {Yq:G->Value} {c:G->List Pc} {w0:World} {e:Exit} (B:e= .ret\/e= .normal)
    (g:G) {v:Value} (n:∀p∈c g,∀b,p.fp b->w0.heap.size<=b) (j:∀a w,Sat N sc env H a w->(results fn a.tmps).run P w= .ok v w) (R:Yq g=v) (F:φ g) (t:lk H 0=some (Yx w0 (λ_=>False))) (d:Give H true (c g)) :
    X N sc e (Zcx P fn w0 pre false φ Yq c) env H:=λa w hs=>by
  have l : a.defers = [] /\ ∃ v, (results fn a.tmps).run P w = .ok v w /\ (∃ g, Ending.returned v = .returned (Yq g) /\ φ g /\ Below w0.heap.size w0 w /\
        ∀p∈c g,p.holds w/\p.own=false/\∀b,p.fp b->w0.heap.size<=b\/(false=true/\∃q∈pre,q.fp b)):=by
    refine⟨hs.defers,v,j a w hs,g,by rw [R],F,Ib (hs.hold 0 _ t),λp s=>?_⟩;obtain⟨r,h|⟨u,y⟩⟩:=d.mem p s
    case inr=>exact⟨u w,r,λb m=>absurd m (y b)⟩
    obtain⟨i,S,I,hi,f,D,z⟩:=h;exact⟨f w (hs.hold i S hi),r,λb m=> .inl (n p s b m)⟩
  rcases B with rfl|rfl
  . exact l
  . exact l
section
variable {f:FuncId} {xs:List Operand} {ats:Array TypeId} {d:Nat} {vs:List Value} {pre:List Pc} {G:Type} {φ:G->Prop} {Yq:G->Value} {its:G->List Pc} {w0:World} {M0:Nat->Prop} {ty:TypeId} {pos:String} {af:Array Edge} {g:Option (Nat×Bool)}
theorem Yo6  {n:Nat} (Z:Cal P f vs.toArray pre false φ Yq its)
    (ho:o.op= .call { callee:= .value (.func f),args:=xs.toArray,argTypes:=ats }) (hd:o.dst=some d) (Y:Nat.blt d N=true)
    (r:EvL env xs vs) (t:∀args w,(callFunc f args).run P w= .ok (.enter f args) w) (v:PreOk H false pre)
    (R:lk H 0=some (Yx w0 M0)) (hw:∀b,w0.heap.size<=b->sc b) :
    T P N sc M o env H (λg=>φ g/\∀p∈its g,∀b,p.fp b->w0.heap.size<=b) (λg=>(d,Yq g)::env) (λg=>adds n (its g) H):=λa w hs K Q W=>by
  have B:w0.heap.size<=w.heap.size:=(hs.hold 0 _ R).size;have hr:(execOp a.eval o).run P w= .ok (.enter f vs.toArray) w:=by have hm:=r.map hs;simp [execOp,ho,resolve,invoke,Act.eval,Deferred.ofValue,hm,t]
  unfold Oper.wp;rw [hr];refine(Z w (λp l=>by obtain⟨i,it,_,hi,u,_,_⟩:=v.mem p l;exact u w (hs.hold i it hi))).mono ?_
  rintro e I ⟨g,rfl,hg,m,q⟩;show K (a.put o.dst (Yq g)) I;rw [hd];have z:Sat N sc env H a I:=hs.chg0 (Chg.of_below m);have c:∀p∈its g,∀b,p.fp b->w.heap.size<=b:=λp l b s=>by
    rcases(q p l).2.2 b s with h|⟨h,_⟩
    . exact h
    . cases h
  refine W g _ _ ⟨hg,λp l b s=>aB B (c p l b s)⟩ (Sat.put (z.adds (w1:=w) (its g) n ?_) d _ Y) (Chg.of_below m);intro p l;obtain⟨S,V,h3⟩:=q p l;refine⟨S,V,λb s=>hw b (aB B (c p l b s)),λj F hj D b s y=>?_⟩;have:=F.lt w b (hs.hold j F hj) y;have:=c p l b s;omega
def Yes(n:Nat)(a:List Nat)(e:Cal P f vs.toArray pre false φ Yq its){c:G->Hp}[hx:EvI env xs vs][hf:CalF P f][hp:PreL P H false a pre][h0:Som (lk2 H 0) (Yx w0 M0)][hN:TB (ltb d N)][hw:Hw w0 sc][ha:∀g,AddI n (its g) H (c g)] :
    T P N sc M ⟨some d,.call { callee:= .value (.func f),args:=xs.toArray,argTypes:=ats },ty,pos,af,g⟩ env H (λg=>φ g/\∀p∈its g,∀b,p.fp b->w0.heap.size<=b) (λg=>(d,Yq g)::env) c:=
  (Yo6 (n:=n) e rfl rfl (Ns hN.h) hx.h hf.h hp.h h0.l hw.h).conv λg=>(ha g).h
end
theorem Ycj{w0 W:World}(h:Hw w0 sc)(a:w0.heap.size<=W.heap.size):Hw W sc:=⟨λb c=>h.h b (aB a c)⟩
theorem Zpx  {y:Operand} {ats:Array TypeId}  {m n:Int} (b:o.op= .call { callee:= .builtin .min,args:=#[x,y],argTypes:=ats })
    (c:ev env x=some (.int k m)) (e:ev env y=some (.int k n)):Li P N sc o env H (.int k (min m n)):=λa w hs=>by
  simp [execOp,b,resolve,hs.ev c,hs.ev e,invoke,builtin,Builtin.min_,Builtin.min2];by_cases h:n<m
  . rw [aM h];omega
  . rw [aG h];omega
theorem d_lbw   {t p:TypeId} {i b k:Nat}  (h:o.op= .load t x) (m:ev env x=some (.pointer (some ⟨b,0,none⟩))) (a:lk H i=some (box b p cs)) (j:∀w,(isAgg t).run P w= .ok true w) (c:∀w,(sizeOf t).run P w= .ok k w)
    (e:cs.size=k):Li P N sc o env H (.agg cs):=by
  have:=Ydd cs.toList (P:=P) (N:=N) (sc:=sc) h m a j c (by simpa using e) (λn u l=>by rw [cE];simpa using l);simpa using this
end Go.Sky
namespace Go.Sky
variable{p:Zl->Bool}{i id:Nat}{d:Zl}{c:List Int}{ov b a:Int}{x y:Code}{ops:List Oper}{zs:List Zl}
abbrev Zom:=(Int×Int×Int)×List Int×List Int×List Int
def Gr(g:Zl):Zom:=(g.1,g.2.1.2,g.2.2.1.2,g.2.2.2.2)
abbrev cA (fr:Int) (g:Zl):Int:=max fr g.1.1
abbrev cB (e:Int) (g:Zl):Int:=min e g.1.2.1
abbrev cX (fr e:Int) (g:Zl) (c:List Int):List Int:=Qu c (cA fr g-g.1.1) (cB e g-cA fr g) (g.1.2.1-g.1.1)
abbrev cO (g:Zl):Int:=g.1.2.2*(g.1.2.1-g.1.1)^5
def cG(fr e:Int)(g:Zl):Int:=Kk (cO g) (cX fr e g g.2.1.2) (cX fr e g g.2.2.1.2) (cX fr e g g.2.2.2.2)
def It(fr e:Int)(g:Zl):Bool:=decide (cA fr g<cB e g)
def Ze4(fr e:Int)(g:Zl):Bool:=decide (cO g/cG fr e g<=4294967296)
def Zw3(fr e:Int)(g:Zl):Zom:=((cA fr g,cB e g,mdO (cO g) (cG fr e g)),mdL (cO g) (cG fr e g) (cX fr e g g.2.1.2),mdL (cO g) (cG fr e g) (cX fr e g g.2.2.1.2),mdL (cO g) (cG fr e g) (cX fr e g g.2.2.2.2))
def MdG(fr e:Int)(g:Zl):Prop:=Mdh (cO g) (cX fr e g g.2.1.2) (cX fr e g g.2.2.1.2) (cX fr e g g.2.2.2.2)
theorem Zsc{ps:List Zl}(hi:i<ps.length)(f:p (ps.getD i d)=true):(ps.filter p)[((ps.take i).filter p).length]? = some (ps.getD i d):=by
 have h:=fG i ps;have e:ps.drop i=ps.getD i d::ps.drop (i+1):=by rw [aK,aN hi,eV];exact eC hi
 conv=>lhs;arg 1;rw [<-h,e]
 rw [fY,eA f];simp
theorem fl_t{ps:List Zl}(hi:i<ps.length)(e:p (ps.getD i d)=true):((ps.take (i+1)).filter p).length=((ps.take i).filter p).length+1:=by rw [Po d _ _ hi,fY,eA e,bL];rfl
theorem fl_f{ps:List Zl}(hi:i<ps.length)(e:p (ps.getD i d)=false):((ps.take (i+1)).filter p).length=((ps.take i).filter p).length:=by rw [Po d _ _ hi,fY,fO (by rw [e];exact eI),bL];rfl
def Zjs{d:Int}(h:1<=d/\d<=3600000):bl (d^5).natAbs<=132:=Zp5 (Zcr O) 5 (aI _)
theorem Ym5{W:Nat}{H:Hp}{l m n:SL}{g j k:List Int}(h:∀p∈[Yy 1 Yk (Xl l) g,Yy 1 Yk (Xl m) j,Yy 1 Yk (Xl n) k],∀b,p.fp b->W<=b)(i:Nat)(q:lk H i=some (Yy 1 Yk (Xl l) g))(r:lk H (i+1)=some (Yy 1 Yk (Xl m) j))(s:lk H (i+2)=some (Yy 1 Yk (Xl n) k)) :
  ∀p∈[Yy 1 Yk (Xl l) g,Yy 1 Yk (Xl m) j,Yy 1 Yk (Xl n) k],p.own=false/\(∀b,p.fp b->W<=b)/\∃i o,lk H i=some o/\∀w,o.holds w->p.holds w:=λp f=>by
 have e:=h p f;simp only [bB,dI,gR]at f;rcases f with rfl|rfl|rfl
 .exact⟨rfl,e,_,_,q,λ_ h=>h⟩
 .exact⟨rfl,e,_,_,r,λ_ h=>h⟩
 .exact⟨rfl,e,_,_,s,λ_ h=>h⟩
theorem cut_b{fr f:Int}{g:Zl}(e:SgG g)(h:It fr f g=true):(cA fr g-g.1.1).natAbs<=3600000/\(cB f g-cA fr g).natAbs<=3600000/\Nw (cA fr g-g.1.1)/\Nw (cB f g-cA fr g):=by have m:=cF h;have j:=e.t1;have k:=e.t2;have l:=e.t3;unfold cA cB at *;exact⟨O,O,⟨O,O⟩,⟨O,O⟩⟩
def Yos:∀n,n<6->∀j,j<n+1->∀k,k<j+1->(Ot n j:Int)*w60 n j k=60*(Ot (n-k) (j-k):Int):=O3
theorem Zfn(f:Nat->Int)(a:Int):∀m,Yj (λk=>a*f k) m=a*Yj f m
 | 0=>by show(0)=a*0;simp
 | m+1=>by rw [Ym,Ym,Zfn f a m,kZ]
theorem Ysa(g:1<=c.length/\c.length<=6){j:Nat}(e:j<c.length):(Ot (c.length-1) j:Int)*ctl c j (j+1)=60*Hi (c.length-1) c j:=by unfold ctl Hi;rw [<-Zfn,<-Zfn];refine Xg λk f=>?_;have:=Yos (c.length-1) O j O k O;show(Ot _ j)*(cf c k*w60 _ j k)=60*(cf c k*_);grind
theorem Yni{n j:Nat}(h:j<n+1):(0:Int)<(Ot n j:Int):=by grind [Zk6]
theorem Yd3(o:1<=c.length/\c.length<=6) : Znu c ov=true↔∀j,j<c.length->((Hi (c.length-1) c j).natAbs:Int)<=1048576*ov*(Ot (c.length-1) j:Int):=by
 have r:∀j,j<c.length->((((ctl c j _).natAbs)<=62914560*ov)↔((Hi _ c j).natAbs)<=1048576*ov*(Ot _ j)):=λj g=>by
  have k:=Ysa o g;have f:=Yni (n:=c.length-1) (j:=j) O;have l:=aE Int.natAbs k;rw [bX,bX]at l;generalize (ctl c j _).natAbs=x at *;generalize (Hi _ c j).natAbs=y at *;generalize Ot _ j=q at *;have m:(q:Int)*(x)=60*(y):=O4;constructor
  .intro h;have e:=fL h (dV f);grind
  .intro h;have e:60*(y)<=(q)*(62914560*ov):=by grind
   rw [<-m]at e;exact kY e f
 constructor
 .intro h j g;unfold Znu at h;grind
 grind [Zzw]
def Qg{x:Int} : ((x.natAbs:Int)<=b)↔(-b<=x/\x<=b):=O
def bre00(c:List Int):Hi 0 c 0=cf c 0*1:=O11
def bre10(c:List Int):Hi 1 c 0=cf c 0*1:=O11
def bre11(c:List Int):Hi 1 c 1=cf c 0*1+cf c 1*1:=O11
def bre20(c:List Int):Hi 2 c 0=cf c 0*1:=O11
def bre21(c:List Int):Hi 2 c 1=cf c 0*2+cf c 1*1:=O11
def bre22(c:List Int):Hi 2 c 2=cf c 0*1+cf c 1*1+cf c 2*1:=O11
def bre30(c:List Int):Hi 3 c 0=cf c 0*1:=O11
def bre31(c:List Int):Hi 3 c 1=cf c 0*3+cf c 1*1:=O11
def bre32(c:List Int):Hi 3 c 2=cf c 0*3+cf c 1*2+cf c 2*1:=O11
def bre33(c:List Int):Hi 3 c 3=cf c 0*1+cf c 1*1+cf c 2*1+cf c 3*1:=O11
def bre40(c:List Int):Hi 4 c 0=cf c 0*1:=O11
def bre41(c:List Int):Hi 4 c 1=cf c 0*4+cf c 1*1:=O11
def bre42(c:List Int):Hi 4 c 2=cf c 0*6+cf c 1*3+cf c 2*1:=O11
def bre43(c:List Int):Hi 4 c 3=cf c 0*4+cf c 1*3+cf c 2*2+cf c 3*1:=O11
def bre44(c:List Int):Hi 4 c 4=cf c 0*1+cf c 1*1+cf c 2*1+cf c 3*1+cf c 4*1:=O11
def bre50(c:List Int):Hi 5 c 0=cf c 0*1:=O11
def bre51(c:List Int):Hi 5 c 1=cf c 0*5+cf c 1*1:=O11
def bre52(c:List Int):Hi 5 c 2=cf c 0*10+cf c 1*4+cf c 2*1:=O11
def bre53(c:List Int):Hi 5 c 3=cf c 0*10+cf c 1*6+cf c 2*3+cf c 3*1:=O11
def bre54(c:List Int):Hi 5 c 4=cf c 0*5+cf c 1*4+cf c 2*3+cf c 3*2+cf c 4*1:=O11
def bre55(c:List Int):Hi 5 c 5=cf c 0*1+cf c 1*1+cf c 2*1+cf c 3*1+cf c 4*1+cf c 5*1:=O11
theorem cf_brS{n:Nat}(q:n<6)(t:c.length<=n+1){M:Int}(h:∀j,j<n+1->((Hi n c j).natAbs:Int)<=M*(Ot n j:Int))(k:Nat):((cf c k).natAbs:Int)<=2047*M:=by
 have r:0<=M:=by have e:=h 0 O5;grind [Znn]
 by_cases s:k<n+1
 .rw [Qg]
  match n,q with
  | 0,_=>
   have e:=Qg.1 (h 0 O);rw [bre00,show(Ot 0 0:Int)=1 from rfl]at e;grind
  | 1,_=>
   have e:=Qg.1 (h 0 O);rw [bre10,show(Ot 1 0:Int)=1 from rfl]at e;have f:=Qg.1 (h 1 O);rw [bre11,show(Ot 1 1:Int)=1 from rfl]at f;grind
  | 2,_=>
   have e:=Qg.1 (h 0 O);rw [bre20,show(Ot 2 0:Int)=1 from rfl]at e;have f:=Qg.1 (h 1 O);rw [bre21,show(Ot 2 1:Int)=2 from rfl]at f;have g:=Qg.1 (h 2 O);rw [bre22,show(Ot 2 2:Int)=1 from rfl]at g;grind
  | 3,_=>
   have e:=Qg.1 (h 0 O);rw [bre30,show(Ot 3 0:Int)=1 from rfl]at e;have f:=Qg.1 (h 1 O);rw [bre31,show(Ot 3 1:Int)=3 from rfl]at f;have g:=Qg.1 (h 2 O);rw [bre32,show(Ot 3 2:Int)=3 from rfl]at g;have l:=Qg.1 (h 3 O);rw [bre33,show(Ot 3 3:Int)=1 from rfl]at l;grind
  | 4,_=>
   have e:=Qg.1 (h 0 O);rw [bre40,show(Ot 4 0:Int)=1 from rfl]at e;have f:=Qg.1 (h 1 O);rw [bre41,show(Ot 4 1:Int)=4 from rfl]at f;have g:=Qg.1 (h 2 O);rw [bre42,show(Ot 4 2:Int)=6 from rfl]at g;have l:=Qg.1 (h 3 O);rw [bre43,show(Ot 4 3:Int)=4 from rfl]at l;have m:=Qg.1 (h 4 O);rw [bre44,show(Ot 4 4:Int)=1 from rfl]at m;grind
  | 5,_=>
   have e:=Qg.1 (h 0 O);rw [bre50,show(Ot 5 0:Int)=1 from rfl]at e;have f:=Qg.1 (h 1 O);rw [bre51,show(Ot 5 1:Int)=5 from rfl]at f;have g:=Qg.1 (h 2 O);rw [bre52,show(Ot 5 2:Int)=10 from rfl]at g;have l:=Qg.1 (h 3 O);rw [bre53,show(Ot 5 3:Int)=10 from rfl]at l;have m:=Qg.1 (h 4 O);rw [bre54,show(Ot 5 4:Int)=5 from rfl]at m;have o:=Qg.1 (h 5 O);rw [bre55,show(Ot 5 5:Int)=1 from rfl]at o;grind
 grind [Yn]
structure AxC (c:List Int) (ov:Int):Prop where
 l:1<=c.length/\c.length<=6
 t:¬(1<c.length/\c.getD (c.length-1) 0=0)
 b:∀j,j<c.length->((Hi (c.length-1) c j).natAbs:Int)<=1048576*ov*(Ot (c.length-1) j:Int)
theorem AxC.of(h:axB c ov=true):AxC c ov:=by unfold axB at h;simp only [aR,fB,iM,dA,fM]at h;have e:1<=c.length/\c.length<=6:=⟨h.1.1.1,h.1.1.2⟩;exact⟨e,λf=>O,(Yd3 e).1 h.2⟩
def AxC.to(h:AxC c ov):axB c ov=true:=Yef h.l.1 h.l.2 h.t ((Yd3 h.l).2 h.b)
def tzl_nz(e:c.getD (c.length-1) 0≠0):tzl c=c:=Al (.inr e)
theorem Yn4(h:AxC c ov):(tzl c=c)\/c=[0]:=by
 by_cases e:c.getD (c.length-1) 0=0
 .have j:c.length=1:=by
   have k:=h.l;have f:=h.t;by_cases g:1<c.length
   .exact absurd ⟨g,e⟩ f
   .omega
  right
  match c,j with
  | [x],_=>simp at e;rw [e]
 .exact .inl (tzl_nz e)
theorem Zda(h:AxC c ov){d:Int}{t u:Rat}(f:t*(d:Rat)=(a:Rat)+(b:Rat)*u):Zg (Qu c a b d) u=(d:Rat)^5*Zg c t:=by
 unfold Qu;rw [Gb];rcases Yn4 h with e|e
 .have g:=h.l;rw [e,Zl6 a b d f O,Zcp];have:(d:Rat)^5=(d:Rat)^(6-c.length)*(d:Rat)^(c.length-1):=by rw [<-Yei];congr 1;omega
  rw [this];grind
 .subst e;rw [show tzl [0]=[]from by decide,show Lm [] a b d=[]from rfl];show _*(0:Rat)=_*(((0:Int):Rat)+t*0);push_cast;grind
def Zhf (c:List Int)(a b d:Int):(Qu c a b d).length<=c.length:=aB (Oj _ _) (aB (Zfy _ _ _ _) (Mc c))
theorem Yd2(h:AxC c ov){d:Int}(f:0<=a)(g:0<=b)(e:a+b<=d)(k:0<d):∀j,j<c.length->((Hi (c.length-1) (Qu c a b d) j).natAbs:Int)<=1048576*(ov*d^5)*(Ot (c.length-1) j:Int):=λj l=>by have r:=h.l;have q:=Zhf c a b d;have:=Ys5 (c:=c) (X:=Qu c a b d) (n:=c.length-1) (m:=5) (B:=1048576*ov) O O f g e k (λt u o=>Zda h o) (λj l=>h.b j O) j O;rw [eY]at this;rw [eY];rw [eY,<-eY ov]at this;exact this
theorem cf_cmp(h:AxC c ov){d:Int}(f:0<=a)(g:0<=b)(e:a+b<=d)(l:0<d)(k:Nat):((cf (Qu c a b d) k).natAbs:Int)<=ov*d^5*2146435072:=by have q:=h.l;have m:=Zhf c a b d;have:=cf_brS (n:=c.length-1) O (c:=Qu c a b d) O (M:=1048576*(ov*d^5)) (λj o=>Yd2 h f g e l j O) k;omega
theorem Zqo{g:Zl}(h:seB g=true):AxC g.2.1.2 g.1.2.2/\AxC g.2.2.1.2 g.1.2.2/\AxC g.2.2.2.2 g.1.2.2:=by have e:Bd g.1.1 g.1.2.1 g.1.2.2 g.2.1.2 g.2.2.1.2 g.2.2.2.2=true:=h;unfold Bd at e;simp only [aR]at e;exact⟨.of e.1.1.1.2,.of e.1.1.2,.of e.1.2⟩
theorem Ym4{fr e:Int}{g:Zl}(f:SgG g)(h:It fr e g=true):0<=cA fr g-g.1.1/\0<cB e g-cA fr g/\(cA fr g-g.1.1)+(cB e g-cA fr g)<=g.1.2.1-g.1.1/\0<g.1.2.1-g.1.1:=by have l:=cF h;have j:=f.t1;have k:=f.t2;unfold cA cB at *;exact⟨O,O,O,O⟩
theorem Zyv{fr s:Int}{g:Zl}(hi:Gin g)(hs:seB g=true)(h:It fr s g=true):MdG fr s g:=by
 have f:SgG g:=Mx hi hs;obtain⟨w,z,B⟩:=Zqo hs;obtain⟨D,F,G,H⟩:=Ym4 f h;obtain⟨q,r,-,-⟩:=cut_b f h;have Q:=f.t3;have P:=f.t1;have M:=f.o1;have N:=f.o2;have j:1<=g.1.2.1-g.1.1/\g.1.2.1-g.1.1<=3600000:=⟨O,O⟩;have t:=Zi8 f.hx f.lx q r j;have u:=Zi8 f.hy f.ly q r j;have v:=Zi8 f.hz f.lz q r j;have o:0<cO g:=fU O (jN O);have n:((cO g).natAbs:Int)=cO g:=O;have m:∀{c:List Int},AxC c g.1.2.2->∀k,(cf (cX fr s g c) k).natAbs<=(cO g).natAbs*2146435072:=λI k=>by
  have:=cf_cmp I D (dV F) G H k;have e:(((cO g).natAbs*2146435072:Nat):Int)=cO g*2146435072:=by rw [iH,n];rfl
  refine nL.1 ?_;rw [e];exact this
 refine⟨o,?_,λi=>?_,λi=>?_,λi k=>?_⟩
 .have R:bl g.1.2.2.natAbs<=40:=(Qo 40 _).2 O;have S:=Zjs j;have:=Yr g.1.2.2 ((g.1.2.1-g.1.1)^5);show bl (g.1.2.2*(g.1.2.1-g.1.1)^5).natAbs<=1000;omega
 .exact Cu (p:=λl:List Int=>Sz 1000 l) t.2.2.2.2.2.2.1 u.2.2.2.2.2.2.1 v.2.2.2.2.2.2.1
 .exact Cu (p:=λl:List Int=>l.length<=6) t.2.2.2.2.2.2.2 u.2.2.2.2.2.2.2 v.2.2.2.2.2.2.2
 .exact Cu (p:=λl:List Int=>(cf l k).natAbs<=(cO g).natAbs*2146435072) (m w k) (m z k) (m B k)
open Go.RowKit Below
variable {P:Program} {N:Nat} {sc:Nat->Prop} {env env':Pu} {H H':Hp} {Q Q':Exit->Act->World->Prop} {l:Nat}
def ER(P:Program)(N:Nat)(sc:Nat->Prop)(l:Nat)(c:Code)(Q:Exit->Act->World->Prop)(env:Pu)(H:Hp):Prop:=
 ∀a w,Sat N sc env H a w->c.wpIn (Fence.wide.inRound l) 0 P Q a w
def ndB(o:Oper):Bool:=match o.op with
 | .defer _=>false
 | _=>true
theorem Ziv(h:ops.all ndB=true):Zkw ops:=λo f c e=>by have:=cJ.1 h o f;unfold ndB at this;rw [e]at this;cases this
def Zsp(e:ops.all ndB=true)(h:L P N sc ops.toArray ops (Fa (Exit.then (λa w=>y.wpIn (Fence.wide.inRound l) 0 P Q a w) Q)) env H):ER P N sc l (.seq (.region id ops.toArray false) y) Q env H:=
 λa w hs=>wpIn_seq (Yi9 (Ziv e) h hs)
def Zso(e:ops.all ndB=true)(h:L P N sc ops.toArray ops (Fa Q) env H):ER P N sc l (.region id ops.toArray false) Q env H:=
 λa w hs=>Yi9 (Ziv e) h hs
def Yom(h:ER P N sc l y Q env H):X N sc .normal (Fa (Exit.then (λa w=>y.wpIn (Fence.wide.inRound l) 0 P Q a w) Q)) env H:=λa w hs=>h a w hs
def Yek(h:∀a w,Sat N sc env H a w->Q .normal a w):X N sc .normal (Fa Q) env H:=λa w hs=>h a w hs
def Zdm(h:ER P N sc l x (Exit.then (λa w=>y.wpIn (Fence.wide.inRound l) 0 P Q a w) Q) env H):ER P N sc l (.seq x y) Q env H:=λa w hs=>wpIn_seq (h a w hs)
def Zdn{c:Code}(h:ER P N sc l c (Exit.inBlock id Q) env H):ER P N sc l (.block id c) Q env H:=λa w hs=>wpIn_block (h a w hs)
theorem Zwm{c:Operand}{b:Bool}(e:ev env c=some (.bool b))(g:b=true->ER P N sc l x Q env H)(f:b=false->ER P N sc l y Q env H):ER P N sc l (.cond c x y) Q env H:=λa w hs=>by
 cases b with
 | true=>exact wpIn_cond_true (hs.ev e) (g rfl a w hs)
 | false=>exact wpIn_cond_false (hs.ev e) (f rfl a w hs)
def Zsn(h:∀a w,Sat N sc env H a w->Q .normal a w):ER P N sc l .skip Q env H:=λa w hs=>wpIn_skip (h a w hs)
def Zzb(h:∀a w,Sat N sc env H a w->Q .ret a w):ER P N sc l .ret Q env H:=λa w hs=>wpIn_ret (h a w hs)
def Zi5(e:∀a w,Sat N sc env H a w->Sat N sc env' H' a w){c:Code}(h:ER P N sc l c Q env' H'):ER P N sc l c Q env H:=λa w hs=>h a w (e a w hs)
theorem Ci{β:Type}(i k:Nat)(enc:β->Value)(q:β->Pc):∀a w,Sat N sc env H a w->Sat N sc env ((i,Xv k enc q (.slice none 0 0) [])::H) a w:=λa w hs=>
 hs.add i _ ⟨Cc k enc w,λz f=>by cases f⟩ (λh j _ _ Hf b e g=>by
  rcases e with e|⟨z,f,_⟩
  .exact absurd rfl e.1
  .cases f) (λb e=>by
  rcases e with e|⟨z,f,_⟩
  .exact absurd rfl e.1
  .cases f)
theorem Ylx{e:Hp}{g:Zl}(i j:Nat)(k:lk e i=some (Nb qG zs))(m:lk e j=some (Yy 1 Yk (Xl g.2.1.1) g.2.1.2))(n:lk e (j+1)=some (Yy 1 Yk (Xl g.2.2.1.1) g.2.2.1.2))(o:lk e (j+2)=some (Yy 1 Yk (Xl g.2.2.2.1) g.2.2.2.2)) :
  ∀b,(Nb qG (zs ++ [g])).fp b->∃j q,lk e j=some q/\q.fp b:=λb ⟨z,r,f⟩=>by
 rcases cP.1 r with q|q
 .exact⟨i,_,k,z,q,f⟩
 .rw [bI.1 q]at f;obtain⟨c,h,f⟩:=f;simp only [bB,dI,gR]at h;rcases h with rfl|rfl|rfl
  .exact⟨j,_,m,f⟩
  .exact⟨j+1,_,n,f⟩
  .exact⟨j+2,_,o,f⟩
end Go.Sky
namespace Go.Sky
variable{k b off:Nat}{zs:List Zl}{x y:Operand}{c xs:List Int}{ov d G x0 x1 x2 x3 m:Int}{a:Act}{o:Oper}{t tb:TypeId}{r:List Value}{v:Value}{w0 w:World}{M0:Nat->Prop}{kd:IntKind}
theorem Zi2{n p q s u z e f g h j l:Value}:Instr.fill (λi=>some (i*6,6)) ((List.range (1*6)).map ((Value.agg #[n,p,q,s,u,z]).cells[· % (Value.agg #[n,p,q,s,u,z]).cells.size]!)).toArray [(0,.agg #[e,f,g,h,j,l])]=some #[e,f,g,h,j,l]:=by
 simp [Instr.fill,Value.cells,List.range,List.range.loop]
 try rfl
def Pw(fr e:Int)(ps:List Zl):Bool:=(ps.filter (It fr e)).all (Ze4 fr e)
def Zdt(fr e:Int)(ps:List Zl):List Zom:=if Pw fr e ps=true then(ps.filter (It fr e)).map (Zw3 fr e)else []
def Zw4(fr e:Int)(ps:List Zl):Int:=if Pw fr e ps=true then 0 else 7
def Zx1(fr e:Int)(x:Zl)(g:SL×SL×SL):Zl:=((cA fr x,cB e x,mdO (cO x) (cG fr e x)),(g.1,mdL (cO x) (cG fr e x) (cX fr e x x.2.1.2)),(g.2.1,mdL (cO x) (cG fr e x) (cX fr e x x.2.2.1.2)),(g.2.2,mdL (cO x) (cG fr e x) (cX fr e x x.2.2.2.2)))
def Zs0(fr e:Int)(ps:List Zl)(k:Nat)(zs:List Zl):Prop:=zs.map Gr=((ps.filter (It fr e)).take k).map (Zw3 fr e)/\((ps.filter (It fr e)).take k).all (Ze4 fr e)=true
theorem Zic{α:Type}{xs:List α}{x:α}(h:xs[k]? = some x):xs.take (k+1)=xs.take k ++ [x]:=by rw [lG,h];rfl
theorem Yna(fr e:Int)(ps:List Zl):Zs0 fr e ps 0 []:=⟨by rw [dQ];rfl,by rw [dQ];rfl⟩
theorem cutI_s{fr e:Int}{ps:List Zl}{x:Zl}{g:SL×SL×SL}(h:Zs0 fr e ps k zs)(f:(ps.filter (It fr e))[k]? = some x)(l:Ze4 fr e x=true):Zs0 fr e ps (k+1) (zs ++ [Zx1 fr e x g]):=by
 obtain⟨i,j⟩:=h;refine⟨?_,?_⟩
 .rw [Zic f,dD,dD,i];rfl
 .rw [Zic f,mC,j];simp [l]
theorem Ym8{fr e:Int}{ps:List Zl}(h:Zs0 fr e ps k zs)(f:k<=ps.length):zs.length<=ps.length:=by have:=aE List.length h.1;rw [aT,aT,cD]at this;have:=kA (It fr e) ps;omega
theorem Zzi{fr e:Int}{ps:List Zl}{x:Zl}(g:(ps.filter (It fr e))[k]? = some x)(f:Ze4 fr e x=false):Pw fr e ps=false:=by
 unfold Pw;cases hb:(ps.filter (It fr e)).all (Ze4 fr e)with
 | false=>rfl
 | true=>
  have:=cJ.1 hb x (gM g);rw [f]at this;cases this
theorem Ym9{fr e:Int}{ps:List Zl}(h:Zs0 fr e ps (ps.filter (It fr e)).length zs):zs.map Gr=Zdt fr e ps/\Zw4 fr e ps=0:=by obtain⟨g,f⟩:=h;rw [bQ]at g f;exact⟨by unfold Zdt Pw;rw [aM f];exact g,by unfold Zw4 Pw;rw [aM f]⟩
theorem Ym6{fr e:Int}{ps:List Zl}(h:Pw fr e ps=false):([]:List Zl).map Gr=Zdt fr e ps/\Zw4 fr e ps=7:=by unfold Zdt Zw4;rw [aG (by rw [h];exact eI),aG (by rw [h];exact eI)];exact⟨rfl,rfl⟩
def spF(ps:List Zl):Int:=(ps.getD 0 G0).1.1
def spL(ps:List Zl):Int:=(ps.getD (ps.length-1) G0).1.2.1
theorem Yrb(h:AxC c ov)(n:c.getD (c.length-1) 0≠0){a b:Int}(z:0<b)(D:0<d):(Qu c a b d).length=c.length:=by
 have I:=h.l;have H:=Zhf c a b d;rcases aX (Qu c a b d).length c.length with q|q
 .exfalso;have B:(b:Rat)≠0:=by
    have:(0:Rat)<(b:Rat):=by exact_mod_cast z
    grind
  have F:(d:Rat)≠0:=by
    have:(0:Rat)<(d:Rat):=by exact_mod_cast D
    grind
  have l:∀t:Rat,t*(d:Rat)=(a:Rat)+(b:Rat)*((t*d-a)/b):=λt=>O4;by_cases i:(Qu c a b d).length=0
  .have s:=aC i;have:∀t:Rat,Zg c t=0:=λt=>by
    have e:=Zda h (l t);rw [s]at e;have f:(d:Rat)^5*Zg c t=0:=e.symm;have j:(d:Rat)^5≠0:=by rw [show(d:Rat)^5=d*d*d*d*d by rw [dB,dB,dB,dB,dB,dW];grind];grind
    grind
   exact n (Zq0 this _)
  .have g:∀t:Rat,Zg ((Lm (Qu c a b d) (-a) d b).map λq=>1*q) t=Zg (c.map λq=>b^((Qu c a b d).length-1)*d^5*q) t:=λt=>by rw [Zp,Zp];have e:=Zda h (l t);have f:=Zl6 (p:=Qu c a b d) (-a) d b (t:=(t*d-a)/b) (u:=t) (by push_cast;grind) i;rw [f,e];push_cast;rw [<-Zcp,<-Zcp];push_cast;grind
   have e:=Nk g (c.length-1);rw [Co,Co,Yn (by have:=Zfy (Qu c a b d) (-a) d b;omega)]at e;have f:b^((Qu c a b d).length-1)*d^5≠0:=bC (Int.pow_ne_zero O) (Int.pow_ne_zero O);have j:b^((Qu c a b d).length-1)*d^5*cf c (c.length-1)=0:=O;rcases kI.1 j with q|q
   .exact f q
   .exact n q
 .omega
theorem Zzs{X:List Int}(f:0<G)(e:∀x∈X,G∣x)(i:Nat):cf (Hx X G) i*G=cf X i:=by
 unfold Hx;split
 .rename_i h;rw [aC h]
  match i with
  | 0=>show(0:Int)*G=cf [] 0;rw [cN];rfl
  | i+1=>show(0:Int)*G=cf [] (i+1);rw [cN];rfl
 .rw [Zf5 _ _ O5];by_cases hi:i<X.length
  .have:cf X i∈X:=Zd hi;exact mQ (e _ this)
  .rw [Yn O];simp
theorem Yp2{X:List Int}(e:0<G)(f:∀x∈X,G∣x)(u:Rat):Zg (Hx X G) u*(G:Rat)=Zg X u:=by rw [kQ,<-Zp];exact Na u _ _ λi=>by rw [Co,eE,Zzs e f]
theorem Zjl(f g:Nat->Int)(a:Int)(h:∀k,f k*a=g k):∀m,Yj f m*a=Yj g m
 | 0=>cN _
 | m+1=>by rw [Ym,Ym,nR,Zjl f g a h m,h]
theorem Ys4{X:List Int}(e:0<G)(f:∀x∈X,G∣x)(n j:Nat):Hi n (Hx X G) j*G=Hi n X j:=by unfold Hi;exact Zjl _ _ _ (λk=>by rw [Int.mul_right_comm,Zzs e f]) _
theorem Yra(X:List Int)(G:Int):(Hx X G).length=max X.length 1:=by
 unfold Hx;split
 .rename_i h;rw [h];rfl
 .rw [aT];omega
theorem Zz4(h:AxC c ov){a b o:Int}(M:0<=a)(z:0<b)(p:a+b<=d)(B:0<d)(n:0<G)(F:∀x∈Qu c a b d,G∣x)(P:o*G=ov*d^5):AxC (Hx (Qu c a b d) G) o/\(Hx (Qu c a b d) G).length=c.length:=by
 have R:=h.l;have f:(Hx (Qu c a b d) G).length=c.length/\(1<c.length->(Qu c a b d).length=c.length):=by
  rw [Yra];by_cases H:c.getD (c.length-1) 0=0
  .have:=h.t;have N:=Zhf c a b d;have g:c.length=1:=by
    by_cases i:1<c.length
    .exact absurd ⟨i,H⟩ this
    .omega
   exact⟨O,λi=>O⟩
  .have:=Yrb h H (a:=a) z B;exact⟨O,λ_=>this⟩
 refine⟨⟨O,λ⟨g,q⟩=>?_,λj D=>?_⟩,f.1⟩
 .rw [f.1]at g q;have i:cf (Hx (Qu c a b d) G) (c.length-1)=0:=q;have s:=Zzs n F (c.length-1);rw [i,cN]at s;have l:=f.2 g;have Q:Tr (Qu c a b d):=Qk _ _;have u:=Q.mem (λe=>by rw [e]at l;simp at l;omega);rw [l]at u;exact u s.symm
 .rw [f.1]at D ⊢;have g:=Yd2 h M (dV z) p B j D;rw [<-Ys4 n F,<-P,bX]at g;have I:((G.natAbs:Nat):Int)=G:=O;push_cast at g;rw [I]at g;refine Int.le_of_mul_le_mul_right (a:=G) ?_ n;refine nM g (Int.le_of_eq ?_);grind
theorem Zwg{G:Int}(e:0<G):∀(l:List Int) (o:Int),Ma (G*o) (l.map (G*·))=G*Ma o l
 | [],o=>rfl
 | x::l,o=>by show Ma ((Int.gcd (G*o) (G*x):Nat):Int) (l.map (G*·))=G*Ma ((Int.gcd o x:Nat):Int) l;rw [Int.gcd_mul_left];push_cast;rw [show((G.natAbs:Nat):Int)=G by omega];exact Zwg e l _
theorem Zm8{X:List Int}{o:Int}(g:0<G)(e:∀x∈X,G∣x)(i:0<=o):Ma o ((Hx X G).map (G*·))=Ma o X:=by
 unfold Hx;split
 .rename_i h;rw [aC h];show((Int.gcd o (G*0):Nat):Int)=o;rw [eG,nC];omega
 .congr 1;rw [kO]
  conv=>rhs;rw [<-nO X]
  refine kK λx f=>?_;show G*(x/G)=x;exact kH (e x f)
theorem Yrk{X Y Z:List Int}{o f:Int}(g:0<o)(e:0<Kk o X Y Z)(n:∀x∈X,Kk o X Y Z∣x)(p:∀x∈Y,Kk o X Y Z∣x)(q:∀x∈Z,Kk o X Y Z∣x)(h:Kk o X Y Z*f=o) :
  Ma f (Hx X (Kk o X Y Z) ++ Hx Y (Kk o X Y Z) ++ Hx Z (Kk o X Y Z))=1:=by
 have i:=Zwg e (Hx X (Kk o X Y Z) ++ Hx Y (Kk o X Y Z) ++ Hx Z (Kk o X Y Z)) f;rw [h,dD,dD,Hh,Hh,Zm8 e n (dV g),Zm8 e p (Zeu _ _ (dV g)),Zm8 e q (Zeu _ _ (Zeu _ _ (dV g)))]at i;have j:Kk o X Y Z=Ma (Ma (Ma o X) Y) Z:=by show Ma o (X ++ Y ++ Z)=_;rw [Hh,Hh]
 rw [<-j]at i;generalize Ma f _=r at *;have l:Kk o X Y Z*r=Kk o X Y Z*1:=O;exact jB O l
structure Prt (q g:Zl) (G:Int):Prop where
 g0:0<G
 a0:0<=q.1.1-g.1.1
 b0:0<q.1.2.1-q.1.1
 ab:(q.1.1-g.1.1)+(q.1.2.1-q.1.1)<=g.1.2.1-g.1.1
 o:q.1.2.2*G=g.1.2.2*(g.1.2.1-g.1.1)^5
 x:∀i (t u:Rat),t*((g.1.2.1-g.1.1:Int):Rat)=((q.1.1-g.1.1:Int):Rat)+((q.1.2.1-q.1.1:Int):Rat)*u->Zg (Zu i q.2.1.2 q.2.2.1.2 q.2.2.2.2) u*(G:Rat)=((g.1.2.1-g.1.1:Int):Rat)^5*Zg (Zu i g.2.1.2 g.2.2.1.2 g.2.2.2.2) t
theorem Zy0{X:List Int}(h:∀k,(X.getD k 0/G).natAbs<=9223372036854775807):∀a∈Hx X G,Nw a:=λa e=>by
 unfold Hx at e;split at e
 .rw [bI.1 e];exact⟨O3,O3⟩
 .obtain⟨x,g,rfl⟩:=eH.1 e;obtain⟨k,f⟩:=mH.1 g;have:=h k;rw [aK,f]at this;simp only [eV]at this;exact⟨O,O⟩
theorem Zrc{a b:Int}{t u:Rat}(f:AxC c ov)(e:0<G)(g:∀x∈Qu c a b d,G∣x)(h:t*(d:Rat)=(a:Rat)+(b:Rat)*u):Zg (Hx (Qu c a b d) G) u*(G:Rat)=(d:Rat)^5*Zg c t:=by rw [Yp2 e g];exact Zda f h
theorem Yr8{fr e:Int}{g q:Zl}(hi:Gin g)(hs:seB g=true)(hp:It fr e g=true)(hk:Ze4 fr e g=true)(hu:Gr q=Zw3 fr e g):Gin q/\seB q=true/\Prt q g (cG fr e g):=by
 have W:SgG g:=Mx hi hs;obtain⟨a1,a2,a3⟩:=Zqo hs;obtain⟨M,N,P,R⟩:=Ym4 W hp;have V:=Zyv hi hs hp;obtain⟨g1,⟨s,a6⟩,S⟩:=V.g;have n:0<cG fr e g:=g1;have B:∀x∈cX fr e g g.2.1.2,cG fr e g∣x:=S 0 O3;have D:∀x∈cX fr e g g.2.2.1.2,cG fr e g∣x:=S 1 O3;have F:∀x∈cX fr e g g.2.2.2.2,cG fr e g∣x:=S 2 O3;have H:cG fr e g*s=cO g:=a6.symm;have z:cO g/cG fr e g=s:=by rw [<-H];exact jF _ O
 have f:cO g/cG fr e g<=4294967296:=cF hk;have a7:0<cO g:=V.o;have b1:0<s:=by
  by_cases h:0<s
  .exact h
  .have:=fW (dV n) (show s<=0 by omega);omega
 have p:s*cG fr e g=g.1.2.2*(g.1.2.1-g.1.1)^5:=by rw [eE];exact H
 obtain⟨x1,x2⟩:=Zz4 a1 M N P R n B p;obtain⟨y1,y2⟩:=Zz4 a2 M N P R n D p;obtain⟨z1,z2⟩:=Zz4 a3 M N P R n F p;obtain⟨⟨qf,qt,qo⟩,⟨sx,qx⟩,⟨sy,qy⟩,⟨sz,qz⟩⟩:=q;unfold Gr Zw3 at hu;rw [mdO_t f,Zhb f,Zhb f,Zhb f,z]at hu;injection hu with h1 h2;injection h1 with hf h1;injection h1 with ht Q;injection h2 with hx h2;injection h2 with hy hz;dsimp only at hf ht Q hx hy hz;subst hf ht hx hy hz;have Q:=Q.symm;subst Q;have j:=λi (hi:i<3) k=>V.fit (i:=i) f hi k;have a9:=cF hp;have b2:=W.t1;have b3:=W.t3;have a0:∀a∈Hx (cX fr e g g.2.1.2) (cG fr e g),Nw a:=Zy0 (j 0 O3);have a4:∀a∈Hx (cX fr e g g.2.2.1.2) (cG fr e g),Nw a:=Zy0 (j 1 O3);have a5:∀a∈Hx (cX fr e g g.2.2.2.2) (cG fr e g),Nw a:=Zy0 (j 2 O3);have b0:s<=4294967296:=z▸f;have a8:0<=cA fr g/\cB e g<=3600000:=by unfold cA cB;exact⟨O,O⟩
 have i1:Nw (cA fr g):=⟨O,O⟩;have i2:Nw (cB e g):=⟨O,O⟩;have i3:Nw s:=⟨O,O⟩;refine⟨⟨i1,i2,i3,a0,a4,a5⟩,?_,⟨n,M,N,by show(cA fr g-g.1.1)+(cB e g-cA fr g)<=_;exact P,p,λi t u I=>?_⟩⟩
 .show Bd (cA fr g) (cB e g) s _ _ _=true;unfold Bd Yer;simp only [aR,dA];exact⟨⟨⟨⟨⟨⟨⟨⟨O,O⟩,O⟩,O⟩,O⟩,x1.to⟩,y1.to⟩,z1.to⟩,Yrk a7 n B D F H⟩
 .have l:t*((g.1.2.1-g.1.1:Int):Rat)=((cA fr g-g.1.1:Int):Rat)+((cB e g-cA fr g:Int):Rat)*u:=I;clear I;have k0:=Zrc a1 n B l;have k1:=Zrc a2 n D l;have k2:=Zrc a3 n F l;dsimp only;generalize Hx (cX fr e g g.2.1.2) (cG fr e g)=X at *;generalize Hx (cX fr e g g.2.2.1.2) (cG fr e g)=Y at *;generalize Hx (cX fr e g g.2.2.2.2) (cG fr e g)=Z at *;generalize ((cG fr e g:Int):Rat)=GG at *;generalize ((g.1.2.1-g.1.1:Int):Rat)^5=DD at *
  match i with
  | 0=>exact k0
  | 1=>exact k1
  | i+2=>exact k2
def cgb0{M:Int}(f:0<=M)(e:-(M*1)<=(x0*1)/\(x0*1)<=M*1):(-(80*M)<=x0/\x0<=80*M):=O
theorem cgb1{M:Int}(g:0<=M)(e:-(M*1)<=(x0*1)/\(x0*1)<=M*1)(f:-(M*1)<=(x0*1+x1*1)/\(x0*1+x1*1)<=M*1):(-(80*M)<=x0/\x0<=80*M)/\(-(80*M)<=x1/\x1<=80*M):=by refine⟨⟨?_,?_⟩,⟨?_,?_⟩⟩<;>omega
theorem cgb2{M:Int}(h:0<=M)(e:-(M*1)<=(x0*1)/\(x0*1)<=M*1)(f:-(M*2)<=(x0*2+x1*1)/\(x0*2+x1*1)<=M*2)(g:-(M*1)<=(x0*1+x1*1+x2*1)/\(x0*1+x1*1+x2*1)<=M*1):(-(80*M)<=x0/\x0<=80*M)/\(-(80*M)<=x1/\x1<=80*M)/\(-(80*M)<=x2/\x2<=80*M):=by refine⟨⟨?_,?_⟩,⟨?_,?_⟩,⟨?_,?_⟩⟩<;>omega
theorem cgb3{M:Int}(i:0<=M)(e:-(M*1)<=(x0*1)/\(x0*1)<=M*1)(f:-(M*3)<=(x0*3+x1*1)/\(x0*3+x1*1)<=M*3)(g:-(M*3)<=(x0*3+x1*2+x2*1)/\(x0*3+x1*2+x2*1)<=M*3)(h:-(M*1)<=(x0*1+x1*1+x2*1+x3*1)/\(x0*1+x1*1+x2*1+x3*1)<=M*1):(-(80*M)<=x0/\x0<=80*M)/\(-(80*M)<=x1/\x1<=80*M)/\(-(80*M)<=x2/\x2<=80*M)/\(-(80*M)<=x3/\x3<=80*M):=by refine⟨⟨?_,?_⟩,⟨?_,?_⟩,⟨?_,?_⟩,⟨?_,?_⟩⟩<;>omega
theorem cgb4{M e:Int}(l:0<=M)(f:-(M*1)<=(x0*1)/\(x0*1)<=M*1)(g:-(M*4)<=(x0*4+x1*1)/\(x0*4+x1*1)<=M*4)(h:-(M*6)<=(x0*6+x1*3+x2*1)/\(x0*6+x1*3+x2*1)<=M*6)(i:-(M*4)<=(x0*4+x1*3+x2*2+x3*1)/\(x0*4+x1*3+x2*2+x3*1)<=M*4)(j:-(M*1)<=(x0*1+x1*1+x2*1+x3*1+e*1)/\(x0*1+x1*1+x2*1+x3*1+e*1)<=M*1):(-(80*M)<=x0/\x0<=80*M)/\(-(80*M)<=x1/\x1<=80*M)/\(-(80*M)<=x2/\x2<=80*M)/\(-(80*M)<=x3/\x3<=80*M)/\(-(80*M)<=e/\e<=80*M):=by refine⟨⟨?_,?_⟩,⟨?_,?_⟩,⟨?_,?_⟩,⟨?_,?_⟩,⟨?_,?_⟩⟩<;>omega
theorem cgb5{M e f:Int}(p:0<=M)(g:-(M*1)<=(x0*1)/\(x0*1)<=M*1)(h:-(M*5)<=(x0*5+x1*1)/\(x0*5+x1*1)<=M*5)(i:-(M*10)<=(x0*10+x1*4+x2*1)/\(x0*10+x1*4+x2*1)<=M*10)(j:-(M*10)<=(x0*10+x1*6+x2*3+x3*1)/\(x0*10+x1*6+x2*3+x3*1)<=M*10)(l:-(M*5)<=(x0*5+x1*4+x2*3+x3*2+e*1)/\(x0*5+x1*4+x2*3+x3*2+e*1)<=M*5)(n:-(M*1)<=(x0*1+x1*1+x2*1+x3*1+e*1+f*1)/\(x0*1+x1*1+x2*1+x3*1+e*1+f*1)<=M*1):(-(80*M)<=x0/\x0<=80*M)/\(-(80*M)<=x1/\x1<=80*M)/\(-(80*M)<=x2/\x2<=80*M)/\(-(80*M)<=x3/\x3<=80*M)/\(-(80*M)<=e/\e<=80*M)/\(-(80*M)<=f/\f<=80*M):=by refine⟨⟨?_,?_⟩,⟨?_,?_⟩,⟨?_,?_⟩,⟨?_,?_⟩,⟨?_,?_⟩,⟨?_,?_⟩⟩<;>omega
theorem cg_brS{n:Nat}(u:n<6)(B:c.length<=n+1){M:Int}(h:∀j,j<n+1->((Hi n c j).natAbs:Int)<=M*(Ot n j:Int))(k:Nat):((cf c k).natAbs:Int)<=80*M:=by
 have p:0<=M:=by have f:=h 0 O;rw [Znn]at f;omega
 by_cases z:k<n+1
 .rw [Qg]
  match n,u with
  | 0,_=>
   have f:=Qg.1 (h 0 O3);rw [bre00,show(Ot 0 0:Int)=1 from rfl]at f;have e:=cgb0 p f;obtain rfl:k=0:=O;exact e
  | 1,_=>
   have f:=Qg.1 (h 0 O3);rw [bre10,show(Ot 1 0:Int)=1 from rfl]at f;have g:=Qg.1 (h 1 O3);rw [bre11,show(Ot 1 1:Int)=1 from rfl]at g;have e:=cgb1 p f g;rcases(show k=0\/k=1 by omega)with rfl|rfl
   .exact e.1
   .exact e.2
  | 2,_=>
   have f:=Qg.1 (h 0 O3);rw [bre20,show(Ot 2 0:Int)=1 from rfl]at f;have g:=Qg.1 (h 1 O3);rw [bre21,show(Ot 2 1:Int)=2 from rfl]at g;have i:=Qg.1 (h 2 O3);rw [bre22,show(Ot 2 2:Int)=1 from rfl]at i;have e:=cgb2 p f g i;rcases(show k=0\/k=1\/k=2 by omega)with rfl|rfl|rfl
   .exact e.1
   .exact e.2.1
   .exact e.2.2
  | 3,_=>
   have f:=Qg.1 (h 0 O3);rw [bre30,show(Ot 3 0:Int)=1 from rfl]at f;have g:=Qg.1 (h 1 O3);rw [bre31,show(Ot 3 1:Int)=3 from rfl]at g;have i:=Qg.1 (h 2 O3);rw [bre32,show(Ot 3 2:Int)=3 from rfl]at i;have l:=Qg.1 (h 3 O3);rw [bre33,show(Ot 3 3:Int)=1 from rfl]at l;have e:=cgb3 p f g i l;rcases(show k=0\/k=1\/k=2\/k=3 by omega)with rfl|rfl|rfl|rfl
   .exact e.1
   .exact e.2.1
   .exact e.2.2.1
   .exact e.2.2.2
  | 4,_=>
   have f:=Qg.1 (h 0 O3);rw [bre40,show(Ot 4 0:Int)=1 from rfl]at f;have g:=Qg.1 (h 1 O3);rw [bre41,show(Ot 4 1:Int)=4 from rfl]at g;have i:=Qg.1 (h 2 O3);rw [bre42,show(Ot 4 2:Int)=6 from rfl]at i;have l:=Qg.1 (h 3 O3);rw [bre43,show(Ot 4 3:Int)=4 from rfl]at l;have q:=Qg.1 (h 4 O3);rw [bre44,show(Ot 4 4:Int)=1 from rfl]at q;have e:=cgb4 p f g i l q;rcases(show k=0\/k=1\/k=2\/k=3\/k=4 by omega)with rfl|rfl|rfl|rfl|rfl
   .exact e.1
   .exact e.2.1
   .exact e.2.2.1
   .exact e.2.2.2.1
   .exact e.2.2.2.2
  | 5,_=>
   have f:=Qg.1 (h 0 O3);rw [bre50,show(Ot 5 0:Int)=1 from rfl]at f;have g:=Qg.1 (h 1 O3);rw [bre51,show(Ot 5 1:Int)=5 from rfl]at g;have i:=Qg.1 (h 2 O3);rw [bre52,show(Ot 5 2:Int)=10 from rfl]at i;have l:=Qg.1 (h 3 O3);rw [bre53,show(Ot 5 3:Int)=10 from rfl]at l;have q:=Qg.1 (h 4 O3);rw [bre54,show(Ot 5 4:Int)=5 from rfl]at q;have s:=Qg.1 (h 5 O3);rw [bre55,show(Ot 5 5:Int)=1 from rfl]at s;have e:=cgb5 p f g i l q s;rcases(show k=0\/k=1\/k=2\/k=3\/k=4\/k=5 by omega)with rfl|rfl|rfl|rfl|rfl|rfl
   .exact e.1
   .exact e.2.1
   .exact e.2.2.1
   .exact e.2.2.2.1
   .exact e.2.2.2.2.1
   .exact e.2.2.2.2.2
 .rw [Yn O];simp;omega
theorem AxC.cg(h:AxC c ov)(k:Nat):((cf c k).natAbs:Int)<=83886080*ov:=by have f:=h.l;have:=cg_brS (n:=c.length-1) O (c:=c) O (M:=1048576*ov) (λj e=>h.b j O) k;omega
open Go.RowKit Below
variable {P:Program} {N:Nat} {sc:Nat->Prop} {env env':Pu} {H H':Hp} {Q Q':Exit->Act->World->Prop} {M:Nat->Prop}
def wcr(l:List Int)(r:List Value):Array Value:=(l.map (Value.int .i64) ++ r).toArray
theorem Zlg(l:List Int)(r:List Value):(wcr l r).size=l.length+r.length:=by simp [wcr]
theorem Yor{l:List Int}{j:Nat}(h:j<l.length):(wcr l r)[j]? = some (.int .i64 (l.getD j 0)):=by simp [wcr,fE,h,aK]
theorem Yoq{l:List Int}{j:Nat}{v:Int}(h:j<l.length):Fc (wcr l r) j [.int .i64 v]=wcr (l.set j v) r:=by unfold Fc wcr;congr 1;rw [fZ,aM h,dD,bP,List.map_take,List.map_drop];grind
theorem Zzu(l:List Int):cellsOf Yk l=l.map (Value.int .i64):=by
 induction l with
 | nil=>rfl
 | cons x l e=>rw [show cellsOf _ _=(Yk x).cells.toList ++ cellsOf _ l from rfl,e];rfl
theorem f_obox{e:TypeId}(i:Nat)(hi:lk H i=some (Of 1 e Yk v xs))(B:xs≠[]):∀a w,Sat N sc env H a w->∃y:Nat×Nat×List Value,
  v= .slice (some ⟨y.1,0,none⟩) xs.length y.2.1/\xs.length+y.2.2.length=y.2.1/\y.2.1<=maxLen/\w.heap[y.1]? = some (.cells (wcr xs y.2.2) e (0,0)):=λa w hs=>by
 have h:=hs.hold i _ hi;rcases h.2 with⟨rfl,z⟩|⟨g,j,f,rfl,s,u,q,l,p,n⟩
 .grind
 .refine⟨(g,j,f.toList.drop xs.length),rfl,?_,l,?_⟩
  .grind
  .rw [show wcr xs _=f by unfold wcr;grind [Zzu,List.take_append_drop]]
   omega
theorem s_obox {e:TypeId} {c:Nat}     (i:Nat) (hi:lk H i=some (Of 1 e Yk (.slice (some ⟨b,0,none⟩) xs.length c) xs)) (h:Nat.beq i 0=false) (f:lk H 0=some (Yx w0 M0)) (l:∀b,w0.heap.size<=b->sc b)
    (hs:Sat N sc env H a w) (g:w.heap[b]? = some (.cells (wcr xs r) e (0,0))):Sat N sc env ((i,box b e (wcr xs r))::H) a w:=
 hs.upd hi rfl (λe=>O10) (Chg.refl _ w) g (λk j=> .inl (by show some b=some k;rw [show k=b from j])) f l
theorem e_obox {g:Code} {e:TypeId}     (i:Nat) (hi:lk H i=some (Of 1 e Yk v xs)) (f:Nat.beq i 0=false) (u:xs≠[]) (j:lk H 0=some (Yx w0 M0)) (s:∀b,w0.heap.size<=b->sc b)
  (h:∀(b c:Nat) (r:List Value),v= .slice (some ⟨b,0,none⟩) xs.length c->xs.length+r.length=c->c<=maxLen->E P N sc g Q env ((i,box b e (wcr xs r))::H)):E P N sc g Q env H:=λa w hs=>by
 obtain⟨⟨b,c,r⟩,q,l,n,p⟩:=f_obox i hi u a w hs;subst q;exact h b c r rfl l n a w (s_obox i hi f j s hs p)
theorem Ypt{e:TypeId}{c:Nat}(i:Nat)(hi:lk H i=some (box b e (wcr xs r)))(h:Nat.beq i 0=false)(p:xs.length+r.length=c)(l:c<=maxLen)(f:lk H 0=some (Yx w0 M0))(n:∀b,w0.heap.size<=b->sc b) :
  ∀a w,Sat N sc env H a w->Sat N sc env ((i,Of 1 e Yk (.slice (some ⟨b,0,none⟩) xs.length c) xs)::H) a w:=λa w hs=>by
 have g:=hs.hold i _ hi;refine hs.upd hi rfl (λe=>O10) (Chg.refl _ w) ?_ (λk j=> .inl (by cases j;rfl)) f n;refine⟨by rw [Zzu,aT,lE],.inr ⟨b,c,_,rfl,bA _,g,O,l,by simp_all [Zlg,lE],?_⟩⟩;rw [Zzu];show((xs.map _) ++ r).take _=_;simp
theorem Zaw (i:Nat)   {e:TypeId} {n c:Nat}   (j:o.op= .indexAddr t x y) (p:ev env x=some (.slice (some ⟨b,off,none⟩) n c)) (q:ev env y=some (.int kd m))
  (l:P.underlying t=some (.slice e)) (h:∀w,(sizeOf e).run P w= .ok 1 w) (f:m=(i:Int)) (g:i<n):Li P N sc o env H (.pointer (some ⟨b,off+i,none⟩)):=λa w hs=>by
 subst f;simp [execOp,j,hs.ev p,hs.ev q,Instr.indexAt,asIntOf,run_underlying l,h,g,Ol]
theorem Zsv   {e:TypeId} {f:Option Addr} {n c:Nat} (g:o.op= .call { callee:= .builtin .len,args:=#[x],argTypes:=#[t] })
  (i:ev env x=some (.slice f n c)) (h:P.underlying t=some (.slice e)):Li P N sc o env H (.int .i64 (n:Int)):=λa w hs=>by
 simp [execOp,g,resolve,hs.ev i,invoke,builtin,Builtin.len_,run_underlying h,goInt]
def Zdr (i:Nat){j:Nat}{l:List Int}(g:o.op= .load t x)(n:ev env x=some (.pointer (some ⟨b,j,none⟩)))(e:lk H i=some (box b tb (wcr l r)))(h:∀w,(isAgg t).run P w= .ok false w)(f:j<l.length) :
  Li P N sc o env H (.int .i64 (l.getD j 0)):=Ygp _ g n e h (Yor f)
theorem Zt9 (i:Nat)    {j:Nat} {l:List Int}  {v:Int}   (s:o.op= .store t x y) (n:o.dst=none)
  (D:ev env x=some (.pointer (some ⟨b,j,none⟩))) (F:ev env y=some (.int .i64 v)) (g:lk H i=some (box b tb (wcr l r))) (e:i≠0) (q:∀w,(sizeOf t).run P w= .ok 1 w) (p:j<l.length)
  (f:lk H 0=some (Yx w0 M0)) (B:∀b,w0.heap.size<=b->sc b) (h:M b) :
  T P N sc M o env H (G:=Unit) (λ_=>True) (λ_=>env) (λ_=>(i,box b tb (wcr (l.set j v) r))::H):=by
 rw [<-Yoq p];exact Zjj _ s n D F g e rfl q rfl (by grind [Zlg]) (λu z=>Yd (by rw [List.mem_singleton.1 z];rfl)) rfl f B h
theorem Ymu (i:Nat)   {e:TypeId} {n c:Nat}   (q:o.op= .slice t x (some y) none none) (u:ev env x=some (.slice (some ⟨b,off,none⟩) n c)) (z:ev env y=some (.int kd m))
  (s:P.underlying t=some (.slice e)) (j:∀w,(sizeOf e).run P w= .ok 1 w) (f:m=(i:Int)) (l:i<n) (p:n<=c):Li P N sc o env H (.slice (some ⟨b,off+i,none⟩) (n-i) (c-i)):=λa w hs=>by
 subst f;have g:i<=n:=O;have h:=O;simp [execOp,q,hs.ev u,hs.ev z,Instr.sliceAt,Instr.slice,Instr.sliceBounds,Instr.sliceBound,asIntOf,run_underlying s,j,g,h,p,Ol];omega
theorem d_prew   {e:TypeId} {n c i:Nat}   (l:o.op= .slice t x none (some y) none) (q:ev env x=some (.slice (some ⟨b,0,none⟩) n c)) (s:ev env y=some (.int kd m))
  (p:P.underlying t=some (.slice e)) (j:∀w,(sizeOf e).run P w= .ok 1 w) (f:m=(i:Int)) (g:i<=n) (u:n<=c):Li P N sc o env H (.slice (some ⟨b,0,none⟩) i c):=λa w hs=>by
 subst f;have h:i<=c:=O;simp [execOp,l,hs.ev q,hs.ev s,Instr.sliceAt,Instr.slice,Instr.sliceBounds,Instr.sliceBound,asIntOf,run_underlying p,j,g,h,Ol]
theorem t_clw   {s:TypeId} {i e n F:Nat} {l:List Int}   
  (Y:o.op= .call { callee:= .builtin .clear,args:=#[x],argTypes:=#[t] }) (V:o.dst=none)
  (hx:ev env x=some (.slice (some ⟨b,e,none⟩) n F))  (z:lk H i=some (box b tb (wcr l r))) (h:i≠0)
  (hn:0<n) (W:e+n=l.length) (Z:P.underlying t=some (.slice s)) (D:∀w,(sizeOf s).run P w= .ok 1 w)
  (hz:∀w,(zeroValue s).run P w= .ok (.int .i64 0) w)
  (I:lk H 0=some (Yx w0 M0)) (hw:∀b,w0.heap.size<=b->sc b) (S:M b) :
  T P N sc M o env H (G:=Unit) (λ_=>True) (λ_=>env) (λ_=>(i,box b tb (wcr (l.take e) (List.replicate n (Value.int .i64 0) ++ r)))::H):=λa w hs K Q R=>by
 have B:=hs.hold i _ z;have p:(Builtin.zeroCells (Value.int .i64 0).cells n).toList=List.replicate n (Value.int .i64 0):=by
  apply iW
  .simp [Builtin.zeroCells,Value.cells]
  .intro i h2 h3;simp [Builtin.zeroCells,Value.cells,mI]
 have f:=run_storeCells_at P b e tb (List.replicate n (Value.int .i64 0)) 0 (wcr l r) w B (by grind [Zlg,List.length_replicate]) (λu hu=>by rw [List.eq_of_mem_replicate hu];rfl);simp only [eP,aO]at f;have g:((wcr l r).toList.take e ++ List.replicate n (Value.int .i64 0) ++ (wcr l r).toList.drop (e+n)).toArray=wcr (l.take e) (List.replicate n (Value.int .i64 0) ++ r):=by unfold wcr;grind
 rw [g]at f;obtain⟨m,rfl⟩:∃m,n=m+1:=⟨n-1,O⟩;have j:(execOp a.eval o).run P w= .ok (.value (.tuple #[])) (w.setRow b (wcr (l.take e) (List.replicate (m+1) (Value.int .i64 0) ++ r))):=by simp only [execOp,Y,resolve,invoke,builtin];simp [hs.ev hx,Builtin.clear_,run_underlying Z,hz,p,f]
 unfold Oper.wp;rw [j];show K (a.put o.dst _) _;rw [V];exact R () _ _ aA ((hs.upd z rfl h (q:=box b tb (wcr (l.take e) _)) (Ku (M:=λk=>k=b) rfl) (setRow_heap w b _ _ tb _ B) (λk D=> .inl D) I hw).put_none _) (Ku S)
theorem res0{fn:Func}(hs:Sat N sc env H a w)(e:fn.results=#[]):(results fn a.tmps).run P w= .ok (.tuple #[]) w:=by simp [results,e]
end Go.Sky
namespace Go.Sky
variable{i k:Nat}{m xs:List Int}{r:List Zl}
def Srt(l:List Int)(n:Nat):Prop:=∀p q,p<q->q<n->l.getD p 0<=l.getD q 0
def Sst(l:List Int)(n:Nat):Prop:=∀p q,p<q->q<n->l.getD p 0<l.getD q 0
def Yoe(l:List Int)(i j:Nat):Prop:=∀p q,p<q->q<=i->q≠j->l.getD p 0<=l.getD q 0
def Sam(l m:List Int):Prop:=m.length=l.length/\∀x,x∈m↔x∈l
def Sam.rfl'(l:List Int):Sam l l:=⟨rfl,λ_=>nU⟩
def Zky{l:List Int}{j:Nat}{v:Int}(hi:i<l.length):(l.set i v).getD j 0=if j=i then v else l.getD j 0:=Zi1 hi
def swp(l:List Int)(j:Nat):List Int:=(l.set j (l.getD (j-1) 0)).set (j-1) (l.getD j 0)
theorem Yce(l:List Int)(j:Nat):(swp l j).length=l.length:=by simp [swp]
theorem Zbr{l:List Int}{j:Nat}(b:j<l.length)(a:1<=j)(k:Nat):(swp l j).getD k 0=if k=j-1 then l.getD j 0 else if k=j then l.getD (j-1) 0 else l.getD k 0:=by unfold swp;grind
theorem Ez{l:List Int}{x:Int} : x∈l↔∃k,k<l.length/\l.getD k 0=x:=by
 constructor
 .intro h;obtain⟨k,a,e⟩:=cW.1 h;exact⟨k,a,O4⟩
 grind
theorem Ya4{l:List Int}{j:Nat}(c:j<l.length)(d:1<=j):Sam l (swp l j):=⟨Yce l j,λx=>by
 rw [Ez,Ez,Yce];constructor
 .rintro⟨k,f,e⟩;rw [Zbr c d]at e;grind
 .rintro⟨k,f,e⟩;by_cases a:k=j-1
  .exact⟨j,c,by rw [Zbr c d,<-a];omega⟩
  .by_cases b:k=j
   .exact⟨j-1,O,by rw [Zbr c d,<-b];omega⟩
   .exact⟨k,f,by rw [Zbr c d];omega⟩⟩
def Sam.trans{l n:List Int}(h:Sam l m)(a:Sam m n):Sam l n:=⟨a.1.trans h.1,λx=>(a.2 x).trans (h.2 x)⟩
def srtx_0{l:List Int}(h:Srt l i):Yoe l i i:=λp q a b c=>h p q a O
theorem Zug{l:List Int}{j:Nat}(h:Yoe l i j)(f:j<l.length)(e:1<=j)(o:j<=i)(s:l.getD j 0<l.getD (j-1) 0):Yoe (swp l j) i (j-1):=λp q g d n=>by
 rw [Zbr f e,Zbr f e,aG n];by_cases a:q=j
 .rw [aM a];by_cases b:p=j-1
  .omega
  .rw [aG b,aG O];exact h p _ O O O
 .rw [aG a];by_cases b:p=j-1
  .rw [aM b];exact h j q O d a
  .rw [aG b];by_cases c:p=j
   .rw [aM c];exact h _ q O d a
   .rw [aG c];exact h p q g d a
theorem Yhy{l:List Int}{j:Nat}(h:Yoe l i j)(n:j<=i)(f:j=0\/(1<=j/\¬l.getD j 0<l.getD (j-1) 0)):Srt l (i+1):=λp q e g=>by
 by_cases a:q=j
 .rcases f with b|⟨b,c⟩
  .omega
  .subst a;by_cases d:p=q-1
   .grind
   .have:=h p (q-1) O O O;omega
 .exact h p q e O a
def srt_1(l:List Int):Srt l 1:=λp q a b=>O
structure Cmp (xs zs:List Int):Prop where
 s:Sst zs zs.length
 m:∀x,x∈zs↔x∈xs
theorem Yhx{l:List Int}{n:Nat}(h:Srt l n)(c:∀q,1<=q->q<n->l.getD q 0≠l.getD (q-1) 0):Sst l n:=λp q d a=>by
 have e:=c q O a;have f:=h (q-1) q O a;rcases iE (show p<=q-1 by omega)with b|b
 .have:=h p _ b O;omega
 grind
def Ysl{l:List Int}(h:Srt l l.length)(a:∀q,1<=q->q<l.length->l.getD q 0≠l.getD (q-1) 0):Cmp l l:=⟨Yhx h a,λx=>nU⟩
structure Cml (xs l:List Int) (m k:Nat):Prop where
 k1:1<=k
 km:k<m
 ml:m<=xs.length
 ll:l.length=xs.length
 r:∀q,m<=q+1->l.getD q 0=xs.getD q 0
 s:Sst l k
 e:∀x,(∃p,p<k/\l.getD p 0=x)↔∃p,p<m/\xs.getD p 0=x
 z:l.getD (k-1) 0=xs.getD (m-1) 0
theorem cml_0(hs:Srt xs xs.length)(b:∀q,1<=q->q<k->xs.getD q 0≠xs.getD (q-1) 0)(c:1<=k)(f:k<xs.length)(e:xs.getD k 0=xs.getD (k-1) 0):Cml xs xs (k+1) k:=
 ⟨c,O5,O,rfl,λq _=>rfl,Yhx (λp q a d=>hs p q a O) b,λx=>by grind,O4⟩
theorem cml_eq{l:List Int}{m:Nat}(h:Cml xs l m k)(b:m<xs.length)(e:l.getD m 0=l.getD (m-1) 0):Cml xs l (m+1) k:=by
 have c:=h.r m O5;have d:=h.r (m-1) O;have a:=h.km;refine⟨h.k1,O,b,h.ll,λq f=>h.r q O,h.s,λx=>(h.e x).trans ⟨?_,?_⟩,?_⟩
 .grind
 .grind
 .rw [h.z,show m+1-1=m by rfl];omega
theorem cml_ne{l:List Int}{m:Nat}(hs:Srt xs xs.length)(h:Cml xs l m k)(f:m<xs.length)(u:l.getD m 0≠l.getD (m-1) 0):Cml xs (l.set k (l.getD m 0)) (m+1) (k+1):=by
 have s:=h.r m O5;have j:=h.km;have t:=h.r (m-1) O;have n:=h.ll;have b:k<l.length:=O;have o:=by have:=hs (m-1) m O f;omega
 refine⟨O5,O,f,O4,λq v=>?_,λp q e c=>?_,λx=>?_,?_⟩
 .rw [Zky b,aG O];exact h.r q O
 .rw [Zky b,Zky b,aG (show p≠k by omega)];by_cases a:q=k
  .have w:=h.z;rcases iE (show p<=k-1 by omega)with d|d
   .have:=h.s p (k-1) d O;omega
   grind
  .rw [aG a];exact h.s p q e O
 .constructor
  .rintro⟨p,e,c⟩;rw [Zky b]at c;by_cases a:p=k
   .grind
   .rw [aG a]at c;obtain⟨q,d,g⟩:=(h.e x).1 ⟨p,O,c⟩;grind
  .rintro⟨p,e,c⟩;by_cases a:p=m
   .exact⟨k,O5,O4⟩
   .obtain⟨q,d,g⟩:=(h.e x).2 ⟨p,O,c⟩;exact⟨q,O,O4⟩
 grind
theorem Ycl{l:List Int}{p:Nat}(h:p<k):(l.take k).getD p 0=l.getD p 0:=by grind
theorem cml_e{l:List Int}(h:Cml xs l xs.length k):Cmp xs (l.take k):=by
 have e:=h.km;have d:=h.ll;have c:(l.take k).length=k:=O4;refine⟨λp q b a=>?_,λx=>?_⟩
 .rw [c]at a;rw [Ycl O,Ycl a];exact h.s p q b a
 .rw [Ez,Ez,<-h.e x];grind
def Zm3(x:Int):List Int->List Int
 | []=>[x]
 | y::l=>if x<y then x::y::l else if x=y then y::l else y::Zm3 x l
def Inc:List Int->Prop
 | []=>True
 | x::l=>(∀y∈l,x<y)/\Inc l
theorem Zmu{x z:Int} : ∀{l:List Int},z∈Zm3 x l↔z=x\/z∈l
 | []=>by simp [Zm3]
 | y::l=>by
  unfold Zm3;split
  .simp
  .split
   .rename_i h;subst h;simp
   .rw [bB,Zmu,bB];constructor
    .rintro(h|h|h)
     .exact .inr (.inl h)
     .exact .inl h
     .exact .inr (.inr h)
    .rintro(h|h|h)
     .exact .inr (.inl h)
     .exact .inl h
     .exact .inr (.inr h)
theorem Zwd{x:Int} : ∀{l:List Int},Inc l->Inc (Zm3 x l)
 | [],_=>⟨λy h=>(nomatch h),aA⟩
 | y::l,h=>by
  unfold Zm3;split
  .rename_i b;exact⟨λz a=>by
    rcases bB.1 a with rfl|a
    .exact b
    .have:=h.1 z a;omega,h⟩
  .split
   .exact h
   .refine⟨λz a=>?_,Zwd h.2⟩;rcases Zmu.1 a with rfl|a
    .omega
    .exact h.1 z a
def Zuh(l:List Int):List Int:=l.foldr Zm3 []
def Zm4:∀(l:List Int),Inc (Zuh l)
 | []=>trivial
 | x::l=>Zwd (Zm4 l)
theorem Zmt{z:Int} : ∀{l:List Int},z∈Zuh l↔z∈l
 | []=>nU
 | x::l=>by show z∈Zm3 x (Zuh l)↔_;rw [Zmu,Zmt,bB]
theorem Ylk:∀{l m:List Int},Inc l->Inc m->(∀x,x∈l↔x∈m)->l=m
 | [],[],_,_,_=>rfl
 | [],y::m,_,_,h=>absurd ((h y).2 (bK ..)) (λh=>nomatch h)
 | x::l,[],_,_,h=>absurd ((h x).1 (bK ..)) (λh=>nomatch h)
 | x::l,y::m,hl,hm,h=>by
  have e:x=y:=by
   have c:=(h x).1 (bK ..);have b:=(h y).2 (bK ..);rcases bB.1 c with a|a
   .exact a
   .rcases bB.1 b with d|d
    .exact d.symm
    .have:=hm.1 x a;have:=hl.1 y d;omega
  subst e;rw [Ylk hl.2 hm.2 λz=>by
   have c:=h z;rw [bB,bB]at c;constructor
   .intro b;rcases c.1 (.inr b)with a|a
    .have:=hl.1 z b;omega
    .exact a
   .intro b;rcases c.2 (.inr b)with a|a
    .have:=hm.1 z b;omega
    .exact a]
theorem Yci:∀{l:List Int},Sst l l.length->Inc l
 | [],_=>trivial
 | x::l,h=>⟨λy a=>by obtain⟨k,d,rfl⟩:=Ez.1 a;exact h 0 (k+1) O5 O4,Yci λp q b c=>h (p+1) (q+1) O O4⟩
theorem Ynf{ys zs:List Int}(b:Sam xs ys)(a:Cmp ys zs):zs=Zuh xs:=
 Ylk (Yci a.s) (Zm4 xs) λx=>by rw [a.m,b.2,Zmt]
theorem Yao:∀{l:List Int},Inc l->Sst l l.length
 | [],_=>λp q _ h=>absurd h (bN _)
 | x::l,h=>λp q a b=>by
  match p,q,a with
  | 0,q+1,_=>
   exact h.1 _ (Zd O4)
  | p+1,q+1,a=>exact Yao h.2 p q O O4
def Yre(j:Nat):j=0\/1<=j:=O
theorem hd_s(h:∀q,1<=q->q<k->xs.getD q 0≠xs.getD (q-1) 0)(a:¬xs.getD k 0=xs.getD (k-1) 0):∀q,1<=q->q<k+1->xs.getD q 0≠xs.getD (q-1) 0:=λq b c=>by grind
theorem Ybu(c:List Int)(a:Int):∀k,plS c a 1 k=Yj (λk=>cf c k*a^k) k
 | 0=>rfl
 | k+1=>by show plS c a 1 k+plT c a 1 k=_;rw [Ym,Ybu c a k];congr 1;show c.getD k 0*(a^k*1^_)=cf c k*a^k;rw [Int.one_pow,gK];rfl
theorem Zpf(f:Nat->Int):∀n,((Yj f n:Int):Rat)=Gc (λi=>(f i:Rat)) n
 | 0=>rfl
 | n+1=>by rw [Ym,Me,<-Zpf f n];push_cast;rfl
theorem Yj7(c:List Int)(a:Int):((pl c a 1:Int):Rat)=Zg c (a:Rat):=by
 unfold pl;rw [Ybu,Zpf]
 conv=>rhs;rw [<-Zeo c]
 rw [Zko];exact Lk _ λi hi=>by rw [<-Zcp];push_cast;rfl
theorem Prt.pl{q g:Zl}{G:Int}(h:Prt q g G){a b:Int}(e:a*(g.1.2.1-g.1.1)=(q.1.1-g.1.1)+(q.1.2.1-q.1.1)*b)(i:Nat) :
  Sky.pl (Zu i q.2.1.2 q.2.2.1.2 q.2.2.2.2) b 1*G=Sky.pl (Zu i g.2.1.2 g.2.2.1.2 g.2.2.2.2) a 1*(g.1.2.1-g.1.1)^5:=by
 have c:=h.x i (a:Rat) (b:Rat) (by exact_mod_cast e);rw [<-Yj7,<-Yj7,<-Zcp]at c;have d:((Sky.pl (Zu i q.2.1.2 q.2.2.1.2 q.2.2.2.2) b 1*G:Int):Rat)=((Sky.pl (Zu i g.2.1.2 g.2.2.1.2 g.2.2.2.2) a 1*(g.1.2.1-g.1.1)^5:Int):Rat):=by rw [Rat.intCast_mul,Rat.intCast_mul,c,kQ]
 exact_mod_cast d
structure Chn (ps:List Zl):Prop where
 lt:∀g∈ps,g.1.1<g.1.2.1
 eq:∀(i:Nat) (g h:Zl),ps[i]? = some g->ps[i+1]? = some h->g.1.2.1=h.1.1
def Chn.tail{g:Zl}(h:Chn (g::r)):Chn r:=⟨λx a=>h.lt x (bE _ a),λi x y a b=>h.eq (i+1) x y a b⟩
theorem Chn.ge:∀{r:List Zl} {g:Zl},Chn (g::r)->∀x∈r,g.1.2.1<=x.1.1
 | [],_,_,_,a=>nomatch a
 | h::r,g,hc,x,a=>by
  have b:=hc.eq 0 g h rfl rfl;rcases bB.1 a with rfl|a
  .omega
  .have:=Chn.ge hc.tail x a;have:=hc.lt h O5;omega
theorem Zsb{fr l:Int} : ∀{ps:List Zl},Chn ps->∀(j:Nat) (f d:Zl),(ps.filter (It fr l))[j]? = some f->(ps.filter (It fr l))[j+1]? = some d->∃i:Nat,ps[i]? = some f/\ps[i+1]? = some d
 | [],_,j,f,d,h,_=>by simp at h
 | g::r,hc,j,f,d,h1,c=>by
  cases hp:It fr l g with
  | false=>
   rw [fO (by rw [hp];exact eI)]at h1 c;obtain⟨i,a,b⟩:=Zsb hc.tail j f d h1 c;exact⟨i+1,a,b⟩
  | true=>
   rw [eA hp]at h1 c
   match j with
   | j+1=>
    obtain⟨i,a,b⟩:=Zsb hc.tail j f d h1 c;exact⟨i+1,a,b⟩
   | 0=>
    obtain rfl:g=f:=by simpa using h1
    have c:(r.filter (It fr l))[0]? = some d:=c;have s:d∈r.filter (It fr l):=gM c;obtain⟨e,n⟩:=gE.1 s
    match r,hc,c,e with
    | h::r,hc,c,e=>
     have u:=hc.eq 0 g h rfl rfl;have v:=hc.lt h O5;have t:=cF hp;have o:=cF n;have p:It fr l h=true:=by
      refine aJ ?_;unfold cA cB at *;rcases bB.1 e with rfl|q
      .exact o
      .have:=Chn.ge hc.tail d q;omega
     rw [eA p]at c;obtain rfl:h=d:=by simpa using c
     exact⟨0,rfl,rfl⟩
theorem getD_some{α:Type}{l:List α}{x d:α}(h:l[i]? = some x):l.getD i d=x:=by rw [aK,h];rfl
theorem Zde{ps:List Zl}(hi:∀g∈ps,Gin g)(n:Xy ps=true):Chn ps/\(∀g∈ps,seB g=true)/\∀(i:Nat) (g h:Zl),ps[i]? = some g->ps[i+1]? = some h->meG g h=true:=by
 obtain⟨l,o,p⟩:=Ox n;have d:∀g∈ps,seB g=true:=λg a=>by obtain⟨i,b,e⟩:=cW.1 a;have:=Fh (l i b);rw [aK,aN b,eV,e]at this;exact this
 have c:∀(i:Nat) (g h:Zl),ps[i]? = some g->ps[i+1]? = some h->meG g h=true:=λi g h a f=>by have j:=(fF.1 f).1;have:=l (i+1) j;rw [Zit (Fh this) O,eK,getD_some a,getD_some f]at this;exact this
 refine⟨⟨λg a=>(Mx (hi g a) (d g a)).t2,λi g h a f=>?_⟩,d,c⟩;have:=c i g h a f;unfold meG Zmv at this;rw [aR,iD]at this;exact this.1
structure Pat (fr to:Int) (ps qs:List Zl):Prop where
 gin:∀q∈qs,Gin q
 pb:Xy qs=true
 len:qs.length=(ps.filter (It fr to)).length
 prt:∀(j:Nat) (q:Zl),qs[j]? = some q->∃f:Zl,(ps.filter (It fr to))[j]? = some f/\f∈ps/\Prt q f (cG fr to f)
 nxt:∀(j:Nat) (q r:Zl),qs[j]? = some q->qs[j+1]? = some r->∃(i:Nat) (f h:Zl),ps[i]? = some f/\ps[i+1]? = some h/\Prt q f (cG fr to f)/\Prt r h (cG fr to h)/\q.1.2.1=f.1.2.1/\r.1.1=h.1.1
theorem Ym3{fr b:Int} : ∀{ps:List Zl},Chn ps->ps≠[]->spF ps<=fr->fr<b->b<=spL ps->ps.filter (It fr b)≠[]
 | [],_,h,_,_,_=>absurd rfl h
 | g::r,hc,_,f,h2,a=>by
  have l:=hc.lt g O5;have f:g.1.1<=fr:=f;by_cases c:It fr b g=true
  .rw [eA c];exact List.cons_ne_nil _ _
  .have d:¬cA fr g<cB b g:=λh=>c (aJ h);have e:g.1.2.1<=fr:=by unfold cA cB at d;omega
   rw [fO c]
   match r,hc,a with
   | [],_,a=>
    have a:b<=g.1.2.1:=a;omega
   | h::r,hc,a=>
    have j:=hc.eq 0 g h rfl rfl;refine Ym3 hc.tail (List.cons_ne_nil _ _) (by show h.1.1<=fr;omega) h2 ?_;have:spL (g::h::r)=spL (h::r):=by unfold spL;simp
    rw [<-this];exact a
end Go.Sky

