/- Rules, arithmetic and contracts: part 18. No conditions but those that each theorem names. -/
import Derived.Test.YtpmihempjefadaaGreatAw16
import Derived.RangeFuncNested
set_option linter.all false
set_option maxHeartbeats 4000000
namespace Go.Sky
def exN(ps:List Ze)(t:Int)(i:Nat):Int:=exC ps t (Ye i (ps.getD (exI ps t) G0).2.1.2 (ps.getD (exI ps t) G0).2.2.1.2 (ps.getD (exI ps t) G0).2.2.2.2)
def rdN(ps:List Ze)(t:Int)(i:Nat):Int:=(exN ps t i+exN ps t i+exO ps t)/(exO ps t+exO ps t)
def rdL(ps:List Ze)(t:Int):Nat->List Int
 | 0=>[0,0,0]
 | i+1=>(rdL ps t i).set i (rdN ps t i)
structure AtB (n o:Int):Prop where
 b1:bl n.natAbs<=30000
 b2:bl o.natAbs<=30000
 n2:bl (n+n).natAbs<=30000
 o2:bl (o+o).natAbs<=30000
 s:bl (n+n+o).natAbs<=30000
 z:o+o≠0
 q:((n+n+o)/(o+o)).natAbs<=9223372036854775807
section
variable {P:Program} {N:Nat} {sc:Nat->Prop} {env:Qj} {H:Hp}
end
end Go.Sky
namespace Go.Sky
open Go.Proofs
open Go.Proofs.Tryz
set_option synthInstance.maxHeartbeats 0
set_option synthInstance.maxSize 100000
set_option maxRecDepth 20000
set_option linter.unusedSimpArgs false
open Go.RowKit Below
variable {P:Program} {N:Nat} {sc:Nat->Prop} {env env':Qj} {H H':Hp} {Q Q':Exit->Act->World->Prop} {M:Nat->Prop}
end Go.Sky
namespace Go.Sky
open Go.RowKit Below
variable{Mf0 Mf:Nat->Prop}{body y x:Code}{lbv:List Value}{pre:List Pc}{r id:Nat}{ops:List Oper}{c:Operand}{Hall:Hp}{Wb:World}
variable {P:Program} {N:Nat} {sc:Nat->Prop} {env env':Qj} {H H':Hp} {Q Q':Exit->Act->World->Prop}
theorem er_rfi {l0:Nat}  {c0:World} {g:Operand} {gf:Nat} {ps:List Nat} {assign:Code}   {α G:Type} {xs:List α} {ys:α->G->List Value} {B:α->G->List Pc} {w0:World}
  {GG GX:Type} (Z:Nat->GG->Hp) (b1:Nat->GG->Prop) (HX:GX->Hp) (b2:GX->Prop) (c1:GG) (f5:LpAt l0 Mf0 c0) (c2:lk H 92=some (Zt c0 Mf0))
  (hg:ev env g=some (.func (.func gf) #[] lbv.toArray)) (eg:∀args w,(callFunc gf args).run P w= .ok (.enter gf args) w) (hc:Zun P gf lbv pre xs ys B)
  (hp:∀p∈pre,p.own=false/\∃i,lk H i=some p) (g4:∀x D,(ys x D).length=ps.length) (g3:(ps.all λp=>Nat.blt p N)=true)
  (hw:∀b,w0.heap.size<=b->sc b) (h0:lk H 0=some (Zt w0 (λ_=>False)))
  (c9:b1 0 c1) (a5:HSub (Z 0 c1) H) (hk:∀k s,lk (Z k s) 0=some (Zt w0 (λ_=>False))/\lk (Z k s) 93=none) (g0:∀gx,lk (HX gx) 0=some (Zt w0 (λ_=>False))/\lk (HX gx) 93=none)
  (b5:∀k x D s,xs[k]? = some x->b1 k s->∀l Mf I a W,Sat N sc (renv ps (ys x D) env) ((93,Zt I Mf)::adds 100 (B x D) (Z k s)) a W->
   assign.wpIn (Fence.wide.inRound l) 0 P (RAn 93 P N sc l Mf (adds 100 (B x D) (Z k s)) body (Z (k+1)) (b1 (k+1)) HX b2 I) a W)
  (hD:∀s,b1 xs.length s->X N sc .normal Q env (Z xs.length s))
  (hX:∀gx,b2 gx->X N sc .ret Q env (HX gx)) :
  ER P N sc l0 (.rangeFunc g ps.toArray assign body) Q env H:=λa w hs=>by
 have a4:∀i p,lk H i=some p->∀b,p.fp b->b<w.heap.size:=λi p hi b n=>p.lt w b (hs.hold i p hi) n;have g7:w0.heap.size<=w.heap.size:=(hs.hold 0 _ h0).size;have e5:Chg Mf0 c0 w:=hs.hold 92 _ c2;obtain⟨⟨r0,e9⟩,e7⟩:=f5;have e8:w.heap[l0]? = some (.loop r0):=(e5.block _ (aO.1 e9).1 e7).trans e9;refine wpIn_rangeFunc ?_;intro d6 f8;obtain⟨d,f⟩:∃d:LoopState->Option Code->Loop,d=λst pe=>{ state:=st,pending:=pe,fn:=d6,tmps:=a.tmps,params:=ps.toArray,assign:=assign,body:=body,defers:=r0.defers }:=⟨_,rfl⟩;obtain⟨W1,b3⟩:∃W1,w.alloc (.loop (d .ready none))=W1:=⟨_,rfl⟩;have f6:W1.heap[w.heap.size]? = some (.loop (d .ready none)):=by rw [<-b3];exact World.alloc_heap_new w _
 have e2:Below w.heap.size w W1:=by rw [<-b3];exact(Below.refl _ w).alloc (aJ _) _
 have h7:W1.heap.size=w.heap.size+1:=by rw [<-b3];simp
 have e0:(#[.func (.yield w.heap.size) #[] #[]] ++ lbv.toArray:Array Value)=(Value.func (.yield w.heap.size) #[] #[]::lbv).toArray:=O8;refine⟨w.heap.size,[],W1,{ target:= .fn (.func gf) lbv.toArray,args:=#[.func (.yield w.heap.size) #[] #[]] },W1,gf,
  (Value.func (.yield w.heap.size) #[] #[]::lbv).toArray,W1,?_,?_,λ_ _=>trivial,?_,λh=>(by cases h),?_⟩
 .rw [<-b3,f];exact run_enterLoop_inner e8 _ _ _ _ _
 .simp only [resolve,hs.ev hg];simp [go_sem]
 .simp [invoke,go_sem,eg]
 have b0:∀(F:Hp) (r:Loop),Zef λW=>W.heap[w.heap.size]? = some (.loop r)/\W1.heap.size<=W.heap.size/\Kps sc w (w.heap.size+1) (Es (w.heap.size+1) H) F W:=λF r W W' ⟨h1,h3,h4⟩ hB=>
  ⟨(hB.block _ (aO.1 h1).1).trans h1,aB h3 hB.size,h4.stays hB⟩
 have g2:¬Es (w.heap.size+1) H w.heap.size:=λh=>by
  rcases h with⟨i,q,hq,_,hf⟩|h
  .have:=a4 i q hq _ hf;omega
  .omega
 have b4:∀(F:Hp) (W:World),Kps sc w (w.heap.size+1) (Es (w.heap.size+1) H) F W->∀(o:Obj),Kps sc w (w.heap.size+1) (Es (w.heap.size+1) H) F (W.putObj w.heap.size o):=λF W h o=>h.put a4 ⟨aJ _,O⟩;refine callsIn_wide.2 ((hc w.heap.size (λb=>(∃i q,lk H i=some q/\q.own=true/\q.fp b)\/b=w.heap.size)
  (λk W=>∃s,b1 k s/\(W.heap[w.heap.size]? = some (.loop (d .ready none))/\W1.heap.size<=W.heap.size/\Kps sc w (w.heap.size+1) (Es (w.heap.size+1) H) (Z k s) W))
  (λW=>∃gx,b2 gx/\(W.heap[w.heap.size]? = some (.loop (d .done (some .ret)))/\W1.heap.size<=W.heap.size/\Kps sc w (w.heap.size+1) (Es (w.heap.size+1) H) (HX gx) W)) W1
  ?_ ?_ ?_ ?_ ?_ ?_).mono ?_)
 .intro p u;obtain⟨ho,i,hi⟩:=hp p u;exact p.stable _ _ (hs.hold i p hi) (Chg.of_below e2)
 .rintro p u b n (⟨i,q,hq,d4,g5⟩|rfl)
  .obtain⟨ho,j,S⟩:=hp p u;exact hs.sep i j q p (λe=>by subst e;rw [hq]at S;cases S;rw [ho]at d4;cases d4) hq S d4 b g5 n
  .obtain⟨ho,j,S⟩:=hp p u;have:=a4 j p S _ n;omega
 .rintro k W W' ⟨s,c7,h⟩ hB;exact⟨s,c7,b0 _ _ W W' h hB⟩
 .rintro W W' ⟨gx,c7,h⟩ hB;exact⟨gx,c7,b0 _ _ W W' h hB⟩
 .refine⟨c1,c9,f6,aJ _,λi it hi=>it.stable _ _ (hs.hold i it (a5.lk i it hi)) (Chg.of_below e2),λi j it jt d2 hi S=>hs.sep i j it jt d2 (a5.lk i it hi) (a5.lk j jt S),
   λi it c9 hi=>hs.scope i it c9 (a5.lk i it hi),λi it hi _ b n=> .inl (a4 i it (a5.lk i it hi) b n),λi it hi ho b n=> .inl ⟨i,it,a5.lk i it hi,ho,n⟩⟩
 .rintro k x D hx W I ⟨s,M,hl,f2,V⟩ h8 hB R;have e6:I.heap[w.heap.size]? = some (.loop (d .ready none)):=(hB.block _ O).trans hl;have hy:=run_yield (P:=P) (args:=(ys x D).toArray) e6 (by rw [f];simp [g4]);have a8:∀p∈B x D,∀b,p.fp b->w.heap.size+1<=b:=λp hp b n=>by have:=(R p hp).2.2 b n;omega
  have s1:Sat N sc env (Z k s) { tmps:=a.tmps,defers:=[] } I:=(V.stays hB).sat hs.size rfl hs.env;have s2:Sat N sc env (adds 100 (B x D) (Z k s)) { tmps:=a.tmps,defers:=[] } I:=s1.adds (w1:=I) _ _ λp u=>⟨(R p u).1,(R p u).2.1,λb n=>hw b (by have:=a8 p u b n;omega),λj jt S ho b n a7=>by have h1:=(R p u).2.2 b n;have h2:=jt.lt W b (V.hold j jt S) a7;omega⟩
  have b6:∀j q,lk (adds 100 (B x D) (Z k s)) j=some q->(q∈B x D)\/lk (Z k s) j=some q:=λj q h=>Zf1 _ _ _ j q h;have u:∀j q,lk (adds 100 (B x D) (Z k s)) j=some q->∀b,q.fp b->q.own=true->Es (w.heap.size+1) H b:=λj q S b n ho=>by
   rcases b6 j q S with h|h
   .rw [(R q h).2.1]at ho;cases ho
   .exact V.mf j q h ho b n
  have b9:∀j q,lk (adds 100 (B x D) (Z k s)) j=some q->∀b,q.fp b->q.own=false->b<w.heap.size\/w.heap.size+1<=b:=λj q S b n ho=>by
   rcases b6 j q S with h|h
   .exact .inr (a8 q h b n)
   .exact V.off j q h ho b n
  have s3:=s2.rounds ps (ys x D) g3;have s4:Sat N sc (renv ps (ys x D) env) ((93,Zt I (Bz sc (w.heap.size+1) H))::adds 100 (B x D) (Z k s)) _ I:=s3.add 93 (Zt I (Bz sc (w.heap.size+1) H)) (Chg.refl _ _) (λj jt d2 S Lf b n a7=>by
   rcases Lf with h|h
   .cases h
   .exact n.2 (.inl (u j jt S b a7 h))) (λb n=>cN.1 λhn=>n.2 (.inr hn))
  have d1:¬Bz sc (w.heap.size+1) H w.heap.size:=λh=>h.elim g2 (λhn=>hn (hw _ g7));rw [f]at hy;refine⟨d6,_,assign,body,hy,roundIn_of_wpIn f8 ?_⟩;have hr:=b5 k x D s hx M w.heap.size (Bz sc (w.heap.size+1) H) I _ I s4;have e3:(ps.toArray.zip (ys x D).toArray).foldl (λt (p,v)=>t.setIfInBounds p v) a.tmps=(ps.zip (ys x D)).foldl (λt pv=>t.setIfInBounds pv.1 pv.2) a.tmps:=O8;have f0:w.heap.size+1<=I.heap.size:=by have:=hB.size;omega
  have f9:∀(F:Hp),lk F 0=some (Zt w0 (λ_=>False))/\lk F 93=none->∀q,lk F 0=some q->q.own=false:=λF h q hq=>by rw [h.1]at hq;cases hq;rfl
  rw [show(ps.toArray.zip (ys x D).toArray).foldl (λt (x:Nat×Value)=>t.setIfInBounds x.1 x.2) a.tmps=(ps.zip (ys x D)).foldl (λt pv=>t.setIfInBounds pv.1 pv.2) a.tmps from e3];refine wpIn_mono hr ?_;rintro e a1 W2 ⟨rfl,d5,H1,c2,d8,f3,Y,c6⟩;have a0:Chg (Bz sc (w.heap.size+1) H) I W2:=Y.hold 93 _ (Zm _ _ _);have g1:W2.heap[w.heap.size]? = some (.loop (d .ready none)):=(a0.block _ O d1).trans e6;have p1:=Y.ps c2 O3 d8 f0 f3 u b9 a4;have h5:I.heap.size<=W2.heap.size:=a0.size;obtain⟨m,z⟩:∃m,W2.putObj w.heap.size (.loop { d .ready none with state:= .busy })=m:=⟨_,rfl⟩;have g9:Sat N sc d5 ((93,Zt m (Bz sc (w.heap.size+1) H))::H1) a1 m:=by
   have p2:=b4 _ _ p1 (.loop { d .ready none with state:= .busy });rw [z]at p2;refine(p2.sat Y.size Y.defers Y.env).add 93 (Zt m (Bz sc (w.heap.size+1) H)) (Chg.refl _ _) (λj jt d2 S Lf b n a7=>?_) (λb n=>cN.1 λhn=>n.2 (.inr hn));rcases Lf with h|h
   .cases h
   .exact n.2 (.inl (p2.mf j jt S h b a7))
  have g6:W2.heap.size=m.heap.size:=by rw [<-z];simp
  have b8:m.heap[w.heap.size]? = some (.loop { d .ready none with state:= .busy }):=by rw [<-z];exact World.putObj_heap_same O
  refine⟨m,by rw [<-z];exact run_beginRound g1 (by rw [f]),wpIn_mono (c6 m ⟨⟨_,b8⟩,d1⟩ a1 m g9) ?_⟩;have b7:∀(F:Hp) (env':Qj) (a3:Act) (W3:World),(lk F 0=some (Zt w0 (λ_=>False))/\lk F 93=none)->FpM F (adds 100 (B x D) (Z k s))->Sat N sc env' ((93,Zt m (Bz sc (w.heap.size+1) H))::F) a3 W3->∀(r:Loop),
    W3.heap[w.heap.size]? = some (.loop { d .ready none with state:= .busy })/\(((W3.putObj w.heap.size (.loop r)).heap[w.heap.size]? = some (.loop r)/\
     W1.heap.size<=(W3.putObj w.heap.size (.loop r)).heap.size/\Kps sc w (w.heap.size+1) (Es (w.heap.size+1) H) F (W3.putObj w.heap.size (.loop r)))/\
     Chg (λb=>((∃i q,lk H i=some q/\q.own=true/\q.fp b)\/b=w.heap.size)\/W1.heap.size<=b) I (W3.putObj w.heap.size (.loop r))):=by
   intro F env' a3 W3 d0 f4 a6 r;have a2:Chg (Bz sc (w.heap.size+1) H) m W3:=a6.hold 93 _ (Zm _ _ _);have a9:=(a2.block _ O d1).trans b8;have h6:=a2.size;have p3:=a6.ps d0.2 O3 (f9 F d0) O f4 u b9 a4;refine⟨a9,⟨World.putObj_heap_same O,O9,b4 _ _ p3 _⟩,?_⟩;have k0:(Zt w0 (λ_=>False)).holds I:=V.stays hB |>.hold 0 _ (hk k s).1;have k3:(Zt w0 (λ_=>False)).holds W3:=p3.hold 0 _ d0.1;refine⟨?_,?_,?_,O9,λb n hn=>?_⟩
   .exact a2.os.trans ((by rw [<-z];rfl:m.os=W2.os).trans a0.os)
   .exact a2.tape.trans ((by rw [<-z];rfl:m.tape=W2.tape).trans a0.tape)
   .exact a2.output.trans ((by rw [<-z];rfl:m.output=W2.output).trans a0.output)
   .have e4:b≠w.heap.size:=λe=>hn (.inl (.inr e));have f7:¬Es (w.heap.size+1) H b:=λh=>by
     rcases h with h|h
     .exact hn (.inl (.inl h))
     .exact hn (.inr O)
    refine(World.putObj_heap_other e4).trans ?_;by_cases f1:sc b
    .have d9:¬Bz sc (w.heap.size+1) H b:=λh=>h.elim f7 (λh=>h f1);refine(a2.block b O d9).trans ?_;have:m.heap[b]? = W2.heap[b]?:=by rw [<-z];exact World.putObj_heap_other e4
     exact this.trans (a0.block b n d9)
    .have e1:b<w0.heap.size:=by
      rcases aX b w0.heap.size with h|h
      .exact h
      .exact absurd (hw b h) f1
     exact(k3.block b e1 (λh=>h)).trans (k0.block b e1 (λh=>h)).symm
  rintro e a3 W3 (⟨rfl,d7,c8,c4,env',a6⟩|⟨rfl,gx,c8,c4,env',a6⟩)
  .obtain⟨a9,c5,c3⟩:=b7 _ env' a3 W3 (hk (k+1) d7) c4 a6 (d .ready none);have:=run_endRound (P:=P) none a9;rw [show({ ({ d .ready none with state:= .busy } : Loop)with state:=if(none:Option Code).isNone then LoopState.ready else .done,pending:=none } : Loop)=d .ready none by rw [f];rfl]at this;exact⟨_,_,this,.inl ⟨rfl,⟨d7,c8,c5⟩,c3⟩⟩
  .obtain⟨a9,c5,c3⟩:=b7 _ env' a3 W3 (g0 gx) c4 a6 (d .done (some .ret));have:=run_endRound (P:=P) (some .ret) a9;rw [show({ ({ d .ready none with state:= .busy } : Loop)with state:=if(some Code.ret).isNone then LoopState.ready else .done,pending:=some .ret } : Loop)=d .done (some .ret) by rw [f];rfl]at this;exact⟨_,_,this,.inr ⟨rfl,⟨gx,c8,c5⟩,c3⟩⟩
 .rintro e W2 ⟨⟨v,rfl⟩,⟨s,M,hl,f2,d3⟩|⟨gx,M,hl,f2,d3⟩⟩
  .refine⟨none,_,by have:=run_endLoop (P:=P) hl (by rw [f];simp);rw [f]at this;exact this,?_⟩;have p3:=b4 _ _ d3 (.loop (d .exhausted none));rw [f]at p3;have s3:=p3.sat (a:=a) hs.size hs.defers hs.env;exact hD s M _ _ s3
  .refine⟨some .ret,_,by have:=run_endLoop (P:=P) hl (by rw [f];simp);rw [f]at this;exact this,wpIn_ret ?_⟩;have p3:=b4 _ _ d3 (.loop { d .done (some .ret)with state:= .exhausted });rw [f]at p3;exact hX gx M _ _ (p3.sat (a:=a) hs.size hs.defers hs.env)
theorem Zqp{ops:Array Oper}{r:Nat}(e:Zix ops.toList):∀(b:Nat) (d:Array Bool) (a:Act) (w:World),wpAny P .any ops (Ir Q) b d a w->wpAnyIn (Fence.wide.inRound r) 0 P .any ops Q b d a w
 | 0,_,_,_,h=>h
 | b+1,d,a,w,h=>by
  refine⟨h.1,λi hi=>?_⟩;have f:=h.2 i hi;unfold wpOp at f;unfold wpOpIn;split
  .rename_i g;simp only [g]at f;exact Zqp e b _ a w f
  .rename_i o g;simp only [g]at f;split
   .rename_i j;simp only [j,jZ]at f;exact Oper.wpIn_mono (λa w k=>Zqp e b _ a w k) (Zx4 (e o (by rw [<-Array.getElem?_toList]at g;exact dU g)) (f.resolve_right λh=>Ig h.2))
   .rename_i j;simp only [j]at f;exact⟨λ_ _=>trivial,Zqp e b _ _ w f⟩
def Xz(h:ER P N sc r y Q env H):X N sc .normal (Exit.then (λa w=>y.wpIn (Fence.wide.inRound r) 0 P Q a w) Q) env H:=λa w hs=>h a w hs
def Qw(h:X N sc .normal Q env H):X N sc .normal (Ir Q) env H:=λa w hs=>h a w hs
def Yw(a:ops.all ndB=true)(h:L P N sc ops.toArray ops (Ir Q) env H):ER P N sc r (.region id ops.toArray false) Q env H:=Zpw a h
def Xu(h:X N sc .normal Q env H):ER P N sc r .skip Q env H:=Zpu h
def Zpv(h:X N sc .ret Q env H):ER P N sc r .ret Q env H:=Zvx h
theorem Yg2(a:ev env c=some (.bool true))(h:ER P N sc r x Q env H):ER P N sc r (.cond c x y) Q env H:=Zcv a (λ_=>h) (λh=>by cases h)
theorem Qv(a:ev env c=some (.bool false))(h:ER P N sc r y Q env H):ER P N sc r (.cond c x y) Q env H:=Zcv a (λh=>by cases h) (λ_=>h)
def Kn{p:Prop}[Decidable p](a:ev env c=some (.bool (decide p)))(d:p->ER P N sc r x Q env H)(b:¬p->ER P N sc r y Q env H):ER P N sc r (.cond c x y) Q env H:=
 Zcv a (λh=>d (cD h)) (λh=>b (of_decide_eq_false h))
def Oc{n:Nat}{f h:Type}{g:f->Hp}{b:f->Prop}{i:h->Hp}{d:h->Prop}(e:f)(hi:b e)(j:FpM (g e) Hall)(k:HSub ((n,Zt Wb Mf)::g e) H):X N sc .normal (RBn n N sc Mf Hall g b i d Wb) env H:=
 λa w hs=>Or.inl ⟨rfl,e,hi,j,[],hs.weaken aA k⟩
def Yjf{n:Nat}{h e:Type}{i:h->Hp}{g:h->Prop}{f:e->Hp}{b:e->Prop}(d:e)(hi:b d)(j:FpM (f d) Hall)(k:HSub ((n,Zt Wb Mf)::f d) H):X N sc .ret (RBn n N sc Mf Hall i g f b Wb) env H:=
 λa w hs=>Or.inr ⟨rfl,d,hi,j,[],hs.weaken aA k⟩
def Ycc {n l:Nat}    {g h:Type} {i:g->Hp} {f:g->Prop} {j:h->Hp} {d:h->Prop} {k:World} (b:Qj) (e:Hp) (t:Sub b env) (u:HSub ((n,Zt k Mf)::e) H) (o:lk e n=none) (m:∀q,lk e 0=some q->q.own=false) (p:FpM e Hall)
  (s:∀Wb,LpAt l Mf Wb->ER P N sc l body (RBn n N sc Mf Hall i f j d Wb) b ((n,Zt Wb Mf)::e)):X N sc .normal (RAn n P N sc l Mf Hall body i f j d k) env H:=
 λa w hs=>⟨rfl,b,e,o,m,p,hs.weaken t u,s⟩
theorem Yg1  {l:List Oper} (M:Nat->Prop) (ts:List Nat) (d:P.follows .mixedOrders=true) (b:l.all ndB=true)
  (h:A P N sc M l.toArray ts Q l.length (Array.replicate l.length false) env H):ER P N sc r (.region id l.toArray true) Q env H:=λa w hs=>by
 refine wpIn_region_any d (Zqp (Zdn b) _ _ _ _ (Zba ts (C:=Chg M) _ _ _ _ ?_));simpa using h a _ hs.drew
theorem Ymg  {l:List Oper} (M:Nat->Prop) (a:List (Nat×Nat)) (k:P.follows .mixedOrders=true) (d:l.all ndB=true)
  (e:(Region.noSelect l.toArray && Nat.beq a.length l.length && Fe l.toArray (Bo a) a (Array.replicate l.length false) &&
   (Region.ready .any l.toArray (Fx a (Array.replicate l.length false))).isEmpty)=true)
  (h:LD P N sc M l.toArray (X N sc .normal Q) a env H):ER P N sc r (.region id l.toArray true) Q env H:=by
 simp only [aQ]at e;obtain⟨⟨⟨f,b⟩,g⟩,i⟩:=e;have b:=dL b;refine Yg1 M (Bo a) k d ?_;have:=LD.sound (n:=0) (Q:=Q) f a _ env H g h (λenv H j=>Yq j i);rw [<-b];rw [<-b]at this;simpa using this
end Go.Sky
namespace Go.Sky
open Go.RowKit Below
section
variable {P:Program} {N:Nat} {sc:Nat->Prop} {env:Qj} {H:Hp}
end
theorem rn_one{x:Int}(e:Mr x):Ho x 1=x/\Ip x 1=1:=by
 have b:Mp x 1=1:=by rw [Zpa O3,show Int.gcd x 1=1 from by simp];rfl
 have d:¬La x 1:=by unfold La;rw [b,nZ];have:=Ey e;have a:bl (1/1:Int).natAbs<=1:=O3;omega
 obtain⟨a,c,-⟩:=Zan d;rw [a,c,b];exact⟨nZ x,O3⟩
abbrev wtM (z:GpT) (u:R2):R2:=(Ho (u.1*(z.1.2-z.1.1)) (u.2*1),Ip (u.1*(z.1.2-z.1.1)) (u.2*1))
abbrev wtT (z:GpT) (u:R2):R2:=(Ho ((wtM z u).1*1+z.1.1*(wtM z u).2) ((wtM z u).2*1),Ip ((wtM z u).1*1+z.1.1*(wtM z u).2) ((wtM z u).2*1))
abbrev wtV (g:R2×Int):Value:= .tuple #[.agg #[.bool (decide (g.1.1<0)),.string (Xn (g.1.1).natAbs),.bool (decide (g.1.2<0)),.string (Xn (g.1.2).natAbs)],.int .i64 g.2]
theorem Yid{x g:Int}(h:g∣x)(a:g≠0):bl (x/g).natAbs<=bl x.natAbs:=by refine Lk ?_;obtain⟨c,rfl⟩:=h;rw [fK _ a,cH];exact mG _ O
theorem nrf{x y:Int}(i:bl x.natAbs<=65536)(j:bl y.natAbs<=65536)(b:0<y):¬La x y/\bl (Ho x y).natAbs<=bl x.natAbs/\bl (Ip x y).natAbs<=bl y.natAbs/\0<Ip x y:=by
 have c:Mp x y≠0:=Zyk O;have f:Mp x y∣x:=by rw [Zpa b];exact iJ ..
 have g:Mp x y∣y:=by rw [Zpa b];exact gD ..
 have d:=Yid f c;have e:=Yid g c;have a:¬La x y:=λh=>by unfold La at h;omega
 refine⟨a,?_,?_,Zo0 a b⟩
 .rw [(Zan a).1];exact d
 .rw [(Zan a).2.1];exact e
def WtP(D:Int)(a b:List Ze)(g:R2×Int):Prop:=
 (Ec a b≠0/\g=((0,0),Ec a b))\/(Ec a b=0/\apZ D 1 1 a b=true/\g=((0,0),9))\/
  (Ec a b=0/\apZ D 1 1 a b=false/\g.2=0/\∃z:GpT,unP z∈Gl D 1 1 a b/\∃u,Fnd z.2.2 (qv (0,1)) (qv (1,1)) u/\g.1=wtT z u)
def prow(n i:Nat):List (Nat×Nat):=(List.range (n-(i+1))).map λj=>(i,i+1+j)
def prU(n:Nat):Nat->List (Nat×Nat)
 | 0=>[]
 | i+1=>prU n i ++ prow n i
abbrev prs (n:Nat):List (Nat×Nat):=prU n n
def lx(p q:Nat×Nat):Prop:=p.1<q.1\/(p.1=q.1/\p.2<q.2)
def PrI(D:Int)(a:List PT)(k:Nat):Prop:=∀j p,j<k->(prs a.length)[j]? = some p->apZ D 1 1 (pth a p.1) (pth a p.2)=true
end Go.Sky
namespace Go.Sky
def SmP(g:Ze)(s:Rat)(h:Ze)(u:Rat):Prop:=∀i,i<3->spX g i s*(h.1.2.2:Rat)=spX h i u*(g.1.2.2:Rat)
def SmP.symm{g h:Ze}{s u:Rat}(e:SmP g s h u):SmP h u g s:=λi hi=>(e i hi).symm
def SmP.trans{g h k:Ze}{s u v:Rat}(a:(h.1.2.2:Rat)≠0)(e:SmP g s h u)(f:SmP h u k v):SmP g s k v:=λi hi=>by
 have b:=e i hi;have c:=f i hi;have:(spX g i s*(k.1.2.2:Rat)-spX k i v*(g.1.2.2:Rat))*(h.1.2.2:Rat)=0:=O4;rcases fB.1 this with q|q
 .grind
 .exact absurd q a
def sTm(g:Ze)(t:Int):Rat:=((t-g.1.1:Int):Rat)/((g.1.2.1-g.1.1:Int):Rat)
section
variable {D n d:Int} {a b:List Ze} (hpa:∀g∈a,Gin g) (hpb:∀g∈b,Gin g) (hba:Xt a=true) (hbb:Xt b=true) (hz:znB D n d=true)
include hpa hpb hba hbb hz
end
end Go.Sky
namespace Go.Sky
def NrP(a b:List Ze)(g:Int×Int):Prop:=
 (Ec a b≠0/\g=(0,Ec a b))\/(Ec a b=0/\Gl 0 1 1 a b=[]/\g=(0,9))\/
  (Ec a b=0/\Gl 0 1 1 a b≠[]/\g.2=0/\0<=g.1/\g.1<=4194304/\∀k,1<=k->k<=4194304->apZ k 1 1 a b=decide (k<=g.1))
section
variable {a b:List Ze} (hpa:∀g∈a,Gin g) (hpb:∀g∈b,Gin g) (hba:Xt a=true) (hbb:Xt b=true)
include hpa hpb hba hbb
end
def NrS(a b:List Ze)(r:Nat):Prop:=r<=4194304/\(∀k,k<r->apZ ((k:Int)+1) 1 1 a b=true)/\∀k,r<=k->k<4194304->apZ ((k:Int)+1) 1 1 a b=false
theorem ds_in{k:Int}(c:0<=k)(d:k<=4194304):dsB k=true:=by unfold dsB;rw [aI c,aI d];rfl
section
variable {a b:List Ze} (hpa:∀g∈a,Gin g) (hpb:∀g∈b,Gin g) (hba:Xt a=true) (hbb:Xt b=true)
include hpa hpb hba hbb
end
def Ylq(fr j d e f h c i k:Int)(s:SL×SL×SL):Ze:=((fr,j,1),(s.1,tmL d h k),(s.2.1,tmL e c k),(s.2.2,tmL f i k))
def gv0(s:SL×SL×SL):Ze:=Ylq 0 1000 0 0 0 1000 0 0 1 s
def gv1(s:SL×SL×SL):Ze:=Ylq 0 1000 1000 300 0 0 300 0 1 s
def gv2(s:SL×SL×SL):Ze:=Ylq 500 2000 0 700 0 0 700 0 2 s
def gvL(s:SL×SL×SL):Ze:=Ylq 1000 2000 0 0 0 1000 0 0 1 s
section
variable (s t:SL×SL×SL)
end
end Go.Sky
namespace Go.Sky
def shG(b:Int)(g:Ze):Ze:=((g.1.1+b,g.1.2.1+b,g.1.2.2),g.2)
def shK(b:Int)(ps:List Ze)(k:Nat):List Ze:=(ps.take k).map (shG b) ++ ps.drop k
abbrev shA (b:Int) (x:Ze):Ze:=((x.1.1+b,x.1.2.1,x.1.2.2),x.2)
abbrev shB (b:Int) (x:Ze):Ze:=((x.1.1,x.1.2.1+b,x.1.2.2),x.2)
def Ydc{ps:List Ze}(b:∀g∈ps,Gin g)(a:Xt ps=true):0<=spF ps/\spF ps<=3600000/\0<=spL ps/\spL ps<=3600000:=by have d:=(Oh a).2.1;have s:SgG (ps.getD 0 G0):=Iz (b _ Zi) (Cr ((Oh a).1 _ O));have t:SgG (ps.getD (ps.length-1) G0):=Iz (b _ Zi) (Cr ((Oh a).1 _ O));have c:=s.t1;have e:=s.t2;have f:=s.t3;have t1:=t.t1;have t2:=t.t2;have t3:=t.t3;unfold spF spL;exact⟨c,O,O,t3⟩
def ShR(ps:List Ze)(y:Int)(zs:List Ze)(e:Int):Prop:=(e=3/\(y < -(spF ps)\/y>3600000-spL ps))\/(e=0/\¬y < -(spF ps)/\¬y>3600000-spL ps/\zs.map Dn=(ps.map (shG y)).map Dn)
open Go.RowKit Below
variable {P:Program} {N:Nat} {sc:Nat->Prop} {env env':Qj} {H H':Hp} {Q Q':Exit->Act->World->Prop} {M:Nat->Prop}
def emp:Pc:=⟨false,λ_=>False,λ_=>True,λ_ _ _ h=>h.elim,λ_ _ _ _=>trivial⟩
def l3(z:Ze)(i:Nat):SL×List Int:=Ye i z.2.1 z.2.2.1 z.2.2.2
abbrev olz (e:TypeId) (p:SL×List Int):Pc:=Ol 1 e Xf (Xo p.1) p.2
def ol3(e:TypeId)(zs:List Ze):Pc:=
 {own:=true
  fp:=λb=>∃k i,k<zs.length/\i<3/\(olz e (l3 (zs.getD k G0) i)).fp b
  holds:=λw=>(∀k i,k<zs.length->i<3->(olz e (l3 (zs.getD k G0) i)).holds w)/\∀k i m j b,k<zs.length->i<3->m<zs.length->j<3->(olz e (l3 (zs.getD k G0) i)).fp b->(olz e (l3 (zs.getD m G0) j)).fp b->k=m/\i=j
  lt:=λw b h ⟨k,i,c,hi,d⟩=>(olz e _).lt w b (h.1 k i c hi) d
  stable:=λw n h a=>⟨λk i c hi=>(olz e _).stable w n (h.1 k i c hi) ⟨a.os,a.tape,a.output,a.size,λb d g=>a.block b d (λf=>g (λl=>f ⟨k,i,c,hi,l⟩))⟩,h.2⟩ }
def opa(e s:TypeId)(v:Value)(zs:List Ze):Pc:=
 {own:=true
  fp:=λb=>v.ownBlock=some b\/(ol3 e zs).fp b
  holds:=λw=>(Ol 6 s Pz v zs).holds w/\(ol3 e zs).holds w/\∀b,v.ownBlock=some b->(ol3 e zs).fp b->False
  lt:=λw b h c=>c.elim (λc=>(Ol 6 s Pz v zs).lt w b h.1 c) (λc=>(ol3 e zs).lt w b h.2.1 c)
  stable:=λw i h a=>⟨(Ol 6 s Pz v zs).stable w i h.1 ⟨a.os,a.tape,a.output,a.size,λb c f=>a.block b c (λd=>f (λg=>d (.inl g)))⟩,(ol3 e zs).stable w i h.2.1 ⟨a.os,a.tape,a.output,a.size,λb c f=>a.block b c (λd=>f (λg=>d (.inr g)))⟩,h.2.2⟩ }
def Sat.drop{a:Act}{w:World}(h:Sat N sc env H a w)(j:Nat):Sat N sc env ((j,emp)::H) a w:=
 h.add j emp aA (λ_ _ _ _ _ _ b=>b.elim) (λ_ b=>b.elim)
def stL(z:Ze)(i j:Nat)(u:Int):Ze:=(z.1,if i=0 then(z.2.1.1,z.2.1.2.set j u)else z.2.1,if i=1 then(z.2.2.1.1,z.2.2.1.2.set j u)else z.2.2.1,if i=2 then(z.2.2.2.1,z.2.2.2.2.set j u)else z.2.2.2)
end Go.Sky
namespace Go.Sky
abbrev S3T:=SL×SL×SL
abbrev GvT:=(S3T×S3T×S3T)×(SL×SL×SL)
def gvs(q:GvT):List PT:=[(q.2.1,[gv0 q.1.1]),(q.2.2.1,[gv1 q.1.2.1]),(q.2.2.2,[gv2 q.1.2.2])]
def NrL(a b:List Ze)(lo hi:Int):Prop:=0<=lo/\lo<=hi/\hi<=4194304/\(∀k,1<=k->k<=lo->apZ k 1 1 a b=true)/\∀k,hi<k->k<=4194304->apZ k 1 1 a b=false
section
variable {a b:List Ze} (hpa:∀g∈a,Gin g) (hpb:∀g∈b,Gin g) (hba:Xt a=true) (hbb:Xt b=true)
include hpa hpb hba hbb
end
end Go.Sky
namespace Go.Sky
def sR(g:Ze)(t:Rat):Rat:=(t-(g.1.1:Rat))/((g.1.2.1-g.1.1:Int):Rat)
def InG(g:Ze)(t:Rat):Prop:=(g.1.1:Rat)<=t/\t<=(g.1.2.1:Rat)
def pzQ(g:Ze)(i:Nat)(s:Rat):Rat:=spX g i s/(g.1.2.2:Rat)
def dQ(g h:Ze)(s u:Rat):Rat:=(pzQ g 0 s-pzQ h 0 u)*(pzQ g 0 s-pzQ h 0 u)+(pzQ g 1 s-pzQ h 1 u)*(pzQ g 1 s-pzQ h 1 u)+(pzQ g 2 s-pzQ h 2 u)*(pzQ g 2 s-pzQ h 2 u)
structure Pcs (a b:List Ze) (n:Nat) (T:Nat->Int) (ua ub:Nat->Zhs) (ja jb:Nat->Nat):Prop where
 n1:1<=n
 t0:T 0=cmF a b
 tn:T n=cmL a b
 lt:∀k,k<n->T k<T (k+1)/\cmF a b<=T k/\T (k+1)<=cmL a b
 la:∀k,k<n->ja k<a.length/\(a.getD (ja k) G0).1.1<=T k/\T (k+1)<=(a.getD (ja k) G0).1.2.1
 lb:∀k,k<n->jb k<b.length/\(b.getD (jb k) G0).1.1<=T k/\T (k+1)<=(b.getD (jb k) G0).1.2.1
 pa:∀k,k<n->SgG (mkS (ua k))/\(∃G,Prt (mkS (ua k)) (a.getD (ja k) G0) G)/\(ua k).1.1=T k/\(ua k).1.2.1=T (k+1)
 pb:∀k,k<n->SgG (mkS (ub k))/\(∃G,Prt (mkS (ub k)) (b.getD (jb k) G0) G)/\(ub k).1.1=T k/\(ub k).1.2.1=T (k+1)
 ra:It a b a=(List.range n).map ua
 rb:It a b b=(List.range n).map ub
section
variable {a b:List Ze} (hpa:∀g∈a,Gin g) (hpb:∀g∈b,Gin g) (hba:Xt a=true) (hbb:Xt b=true)
include hpa hpb hba hbb
end
end Go.Sky
namespace Go.Sky
section
variable {P:Program} {N:Nat} {sc:Nat->Prop} {env:Qj} {H:Hp} {M:Nat->Prop}
end
abbrev V3T:=Int×Int×Int
def adL(c:List Int)(d:Int):List Int:=c.set 0 (c.getD 0 0+d)
def mvG(v:V3T)(g:Ze):Ze:=(g.1,(g.2.1.1,adL g.2.1.2 (v.1*g.1.2.2)),(g.2.2.1.1,adL g.2.2.1.2 (v.2.1*g.1.2.2)),(g.2.2.2.1,adL g.2.2.2.2 (v.2.2*g.1.2.2)))
def mv1(v:V3T)(g:Ze):Ze:=(g.1,(g.2.1.1,adL g.2.1.2 (v.1*g.1.2.2)),g.2.2.1,g.2.2.2)
def mv2(v:V3T)(g:Ze):Ze:=(g.1,(g.2.1.1,adL g.2.1.2 (v.1*g.1.2.2)),(g.2.2.1.1,adL g.2.2.1.2 (v.2.1*g.1.2.2)),g.2.2.2)
def mvK(v:V3T)(ps:List Ze)(k:Nat):List Ze:=(ps.take k).map (mvG v) ++ ps.drop k
def vcB(x y z:Int):Bool:=Zmd 16777216 [x,y,z]
structure MvX (v:V3T) (g:Ze):Prop where
 x:Mr (v.1*g.1.2.2)/\Mr (g.2.1.2.getD 0 0+v.1*g.1.2.2)
 y:Mr (v.2.1*g.1.2.2)/\Mr (g.2.2.1.2.getD 0 0+v.2.1*g.1.2.2)
 z:Mr (v.2.2*g.1.2.2)/\Mr (g.2.2.2.2.getD 0 0+v.2.2*g.1.2.2)
 lx:0<g.2.1.2.length
 ly:0<g.2.2.1.2.length
 lz:0<g.2.2.2.2.length
end Go.Sky

