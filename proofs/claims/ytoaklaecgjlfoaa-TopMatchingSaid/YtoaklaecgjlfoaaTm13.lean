/- Rules, arithmetic and contracts: part 14. No conditions but those that each theorem names. -/
import Derived.Laws.Pointers
import Derived.Test.YtoaklaecgjlfoaaTm12
set_option linter.all false
namespace Go.Sky
open Go.RowKit Below
variable {P:Program} {N:Nat} {sc:Nat->Prop} {env env':Yd} {H H':Hp} {Q Q':Exit->Act->World->Prop} {ds:List Nat}
def kp(W:World)(T:Nat->Prop):Pc:=
 {own:=true,fp:=T,holds:=λw=>(∀b,T b->b<w.heap.size)/\∀b,T b->w.heap[b]? = W.heap[b]?
  lt:=λw b h a=>h.1 b a
  stable:=λw e h c=>⟨λb a=>cW (h.1 b a) c.size,λb a=>(c.block b (h.1 b a) (λd=>d a)).trans (h.2 b a)⟩ }
def YJK(P:Program)(l:Nat)(M:Nat->Prop)(J:Nat->(Nat->Prop)->World->Prop){α:Type}(xs:List α)(ys:α->List Value):Prop:=
 ∀k x T W,xs[k]? = some x->J k T W->YieldAt Fence.wide 0 P l (ys x).toArray W λe c=>e= .returned (.bool true)/\Chg (λb=>M b\/T b\/W.heap.size<=b) W c/\∃a,(∀b,T b->a b)/\(∀b,a b->T b\/W.heap.size<=b)/\J (k+1) a c
structure StK (n:Nat) (J:Nat->(Nat->Prop)->World->Prop):Prop where
 stay:∀k T W W',J k T W->Chg (λb=>n<=b/\¬T b) W W'->J k T W'
 lt:∀k T W,J k T W->n<=W.heap.size/\∀b,T b->n<=b/\b<W.heap.size
def CalK(P:Program)(f:FuncId)(c:List Value)(a:List Pc){α:Type}(xs:List α)(ys:α->List Value):Prop:=
 ∀(l:Nat) (M:Nat->Prop) (J:Nat->(Nat->Prop)->World->Prop) (w:World),
  (∀p∈a,p.holds w)->(∀p∈a,∀b,p.fp b->¬M b)->(∀b,M b->b<w.heap.size)->StK w.heap.size J->J 0 (λ_=>False) w->YJK P l M J xs ys->
  Calls P f (.func (.yield l) #[] #[]::c).toArray w λe d=>(∃v,e= .returned v)/\∃T,J xs.length T d
def FPostJ(P:Program)(a:Func)(n:Nat)(J:Nat->(Nat->Prop)->World->Prop):Exit->Act->World->Prop:=
 bodyPostM Fence.wide 0 P a λe b=>(∃v,e= .returned v)/\∃T,J n T b
abbrev kO (n:Nat) (M:Nat->Prop) (W:World):Pc:=keep W (λb=>n<=b\/M b)
abbrev kT (M T:Nat->Prop) (W:World):Pc:=kp W (λb=>M b\/T b)
abbrev noT:Nat->Prop:=λ_=>False
structure HwA:Prop where h:∀{w:World} (b:Nat),w.heap.size<=b->True
def LR(P:Program)(N:Nat)(sc:Nat->Prop)(r:Nat)(c:Array Oper)(b:List Oper)(Q:Exit->Act->World->Prop)(env:Yd)(H:Hp):Prop:=
 ∀a w,Sat N sc env H a w->wpListIn (Fence.wide.inRound r) 0 P c Q b a w
structure Kpt (sc:Nat->Prop) (w:World) (H:Hp) (T:Nat->Prop) (Hn:Hp) (W:World):Prop where
 hold:∀i it,lk Hn i=some it->it.holds W
 sep:∀i j it jt,i≠j->lk Hn i=some it->lk Hn j=some jt->it.own=true->∀b,it.fp b->jt.fp b->False
 scope:∀i it,i≠0->lk Hn i=some it->∀b,it.fp b->sc b
 off:∀i it,lk Hn i=some it->∀b,it.fp b->b<w.heap.size\/T b
 mf:∀i it,lk Hn i=some it->it.own=true->∀b,it.fp b->(∃i q,lk H i=some q/\q.own=true/\q.fp b)\/T b
theorem Kpt.chg{w:World}{T:Nat->Prop}{d:Hp}{W e:World}(h:Kpt sc w H T d W)(a:Chg (λb=>w.heap.size<=b/\¬T b) W e):Kpt sc w H T d e:=
 ⟨λi c hi=>c.stable _ _ (h.hold i c hi) ⟨a.os,a.tape,a.output,a.size,λk g j=>a.block k g (λf=>by
  rcases h.off i c hi k (eQ.1 j)with h|h
  .omega
  .exact f.2 h)⟩,h.sep,h.scope,h.off,h.mf⟩
def RBk(N:Nat)(sc:Nat->Prop)(h S:Nat->Prop){c:Type}(g:c->Hp)(b:c->Prop)(d:World):Exit->Act->World->Prop:=λe a W=>
 e= .normal/\∃f,b f/\∃env',Sat N sc env' ((92,keep d h)::(94,kp d S)::g f) a W
def RAk(P:Program)(N:Nat)(sc:Nat->Prop)(l:Nat)(f S:Nat->Prop)(c:Code){i:Type}(k:i->Hp)(h:i->Prop)(j:World):Exit->Act->World->Prop:=λe a W=>
 e= .normal/\∃b d,lk d 92=none/\lk d 94=none/\Sat N sc b ((92,keep j f)::(94,kp j S)::d) a W/\
  ∀g,∀a W,Sat N sc b ((92,keep g f)::(94,kp g S)::d) a W->c.wpIn (Fence.wide.inRound l) 0 P (RBk N sc f S k h g) a W
def JnG{G:Type}(N:Nat)(sc:Nat->Prop)(ds:List Nat)(cs:Yd)(d:Hp)(f:G->Yd)(e:G->Hp)(b:G->Prop):Act->World->Prop:=
 λa w=>∃g,b g/\∃c,a=ap ds c/\Sat N sc (f g ++ cs) (e g ++ d) c w
end Go.Sky
namespace Go.Sky
section
variable {P:Program} {N:Nat} {sc:Nat->Prop} {env:Yd} {H:Hp}
end
end Go.Sky
namespace Go.Sky
def alg(a b p:Yw):Int:=(b.1-a.1)*(p.1-a.1)+(b.2.1-a.2.1)*(p.2.1-a.2.1)
def sq2(a b:Yw):Int:=(b.1-a.1)*(b.1-a.1)+(b.2.1-a.2.1)*(b.2.1-a.2.1)
def dst(a p:Yw):Int:=(p.1-a.1)*(p.1-a.1)+(p.2.1-a.2.1)*(p.2.1-a.2.1)
def crd(a b p:Yw):Int:=(b.1-a.1)*(p.2.1-a.2.1)-(b.2.1-a.2.1)*(p.1-a.1)
abbrev rnP (x y:Int):Int×Int:=(Me x y,Nq x y)
def dqr(a b p:Yw):Int×Int:=if 0<alg a b p/\alg a b p<sq2 a b then(crd a b p*crd a b p,sq2 a b)else if sq2 a b<=alg a b p then(dst b p,1)else(dst a p,1)
def dqF(a b p:Yw):Int×Int:=rnP (dqr a b p).1 (dqr a b p).2
section
variable {a b p:Yw}
structure D2B (a b p:Yw):Prop where
 x:-2097152<=b.1-a.1/\b.1-a.1<=2097152
 y:-2097152<=b.2.1-a.2.1/\b.2.1-a.2.1<=2097152
 u:-2097152<=p.1-a.1/\p.1-a.1<=2097152
 v:-2097152<=p.2.1-a.2.1/\p.2.1-a.2.1<=2097152
 s:-2097152<=p.1-b.1/\p.1-b.1<=2097152
 t:-2097152<=p.2.1-b.2.1/\p.2.1-b.2.1<=2097152
end
def mnq(b q:Int×Int):Int×Int:=if b.2=0\/q.1*b.2-b.1*q.2<0 then q else b
def d2F(p:Yw)(c:List (Yw×Yw)):Int×Int:=c.foldl (λb e=>mnq b (dqF e.1 e.2 p)) (0,0)
structure QIn (b:Int×Int):Prop where
 n:bl b.1.natAbs<=88
 d:bl b.2.natAbs<=44
 p:0<=b.2
end Go.Sky
namespace Go.Sky
section
variable {P:Program} {N:Nat} {sc:Nat->Prop} {env:Yd} {H:Hp}
def OwV(v:Value)(n:Nat):Prop:=∃g c,v= .slice (some ⟨g,0,none⟩) n c/\n<=c
theorem Aa{α:Type}{k:Nat}{e:TypeId}{enc:α->Value}{v:Value}{xs:List α}(i:Nat)(hi:lk H i=some (Yu k e enc v xs))(m:0<xs.length):∀a w,Sat N sc env H a w->OwV v xs.length:=λa w hs=>by
 have b:w.ownsRow 0 e k v xs.length (cellsOf enc xs):=hs.hold i _ hi;rcases b.2 with⟨rfl,p⟩|⟨g,c,h,rfl,n,o,d,j,l,f⟩
 .omega
 .exact⟨g,c,rfl,d⟩
def t_evM{M:Nat->Prop}{o:Oper}{G:Type}{φ:G->Prop}{c:G->Yd}{d:G->Hp}(h:T P N sc (λ_=>True) o env H φ c d)(l:∀x,M x):T P N sc M o env H φ c d:=λa w hs K Q j=>
 h a w hs K Q λg e n f i b=>j g e n f i ⟨b.os,b.tape,b.output,b.size,λk p m=>absurd (l k) m⟩
instance hwT {a:World} : Hw a (λ_=>True):=⟨λ_ _=>trivial⟩
end
def sw2(l:List Yw)(a b:Nat):List Yw:=(l.set a (l.getD b Oa)).set b (l.getD a Oa)
def rev1(xs:List Yw):List Yw:=(List.range xs.length).map λp=>xs.getD ((xs.length-p)%xs.length) Oa
structure RvT (xs:List Yw) (i:Nat) (l:List Yw):Prop where
 len:l.length=xs.length
 at':∀p,p<xs.length->l.getD p Oa=if 1<=p/\(p<=i\/xs.length-p<=i)then xs.getD (xs.length-p) Oa else xs.getD p Oa
def orL(i:Nat)(l:List Yw):List Yw:=if(decide (0<ar2 (Dl l)) != decide ((i:Int)=0))=true then rev1 l else l
def rgE(a:List PgT)(i:Nat):List (Yw×Yw):=Dl (orL i (a.getD i Pg0).2)
def allE(a:List PgT)(n:Nat):List (Yw×Yw):=(List.range n).flatMap (rgE a)
end Go.Sky
namespace Go.Sky
open Go.RowKit Below
variable{p:Pc}{w w0:World}{k m i lo:Nat}{u v z:Value}{M0:Nat->Prop}{o:Oper}{y:Operand}{kd:IntKind}
variable {P:Program} {N:Nat} {sc:Nat->Prop} {env env':Yd} {H H':Hp} {Q Q':Exit->Act->World->Prop} {M:Nat->Prop}
def pj(p q:Pc):Pc:=
 {own:=true,fp:=λc=>p.fp c\/q.fp c,holds:=λw=>p.holds w/\q.holds w/\∀c,p.fp c->q.fp c->False
  lt:=λw c h a=>a.elim (p.lt w c h.1) (q.lt w c h.2.1)
  stable:=λw g h a=>⟨p.stable w g h.1 ⟨a.os,a.tape,a.output,a.size,λk d e=>a.block k d (λb=>e (λf=>b (.inl f)))⟩,
   q.stable w g h.2.1 ⟨a.os,a.tape,a.output,a.size,λk d e=>a.block k d (λb=>e (λf=>b (.inr f)))⟩,h.2.2⟩ }
theorem Xt{q:Pc}(i j:Nat)(hi:lk H i=some (pj p q))(I:Nat.beq i 0=false)(R:Nat.beq i j=false) :
  ∀a w,Sat N sc env H a w->Sat N sc env ((i,p)::(j,q)::drp i H) a w:=λa w hs=>by
 have a0:i≠j:=λe=>by subst e;simp at R
 have W:i≠0:=λe=>by subst e;simp at I
 obtain⟨hb,hr,Y⟩:=hs.hold i _ hi;have t:∀m r,lk ((i,p)::(j,q)::drp i H) m=some r->(m=i/\r=p)\/(m=j/\r=q)\/(m≠i/\lk H m=some r):=λm r d=>by
  by_cases x:i=m
  .subst x;rw [Zp]at d;cases d;exact .inl ⟨rfl,rfl⟩
  .rw [Zg x]at d;by_cases g:j=m
   .subst g;rw [Zp]at d;cases d;exact .inr (.inl ⟨rfl,rfl⟩)
   .rw [Zg g]at d;exact .inr (.inr (Ny _ _ _ _ d))
 refine⟨hs.size,hs.defers,hs.env,λm r d=>?_,λm B r D s d n V c f b=>?_,λm r S d c f=>?_⟩
 .rcases t m r d with⟨_,rfl⟩|⟨_,rfl⟩|⟨_,h⟩
  .exact hb
  .exact hr
  .exact hs.hold m r h
 .rcases t m r d with⟨G,rfl⟩|⟨G,rfl⟩|⟨Z,x⟩
  .rcases t B D n with⟨l,rfl⟩|⟨l,rfl⟩|⟨F,g⟩
   .exact s (G.trans l.symm)
   .exact Y c f b
   .exact hs.sep i B _ D (gQ F) hi g rfl c (.inl f) b
  .rcases t B D n with⟨l,rfl⟩|⟨l,rfl⟩|⟨F,g⟩
   .exact Y c b f
   .exact s (G.trans l.symm)
   .exact hs.sep i B _ D (gQ F) hi g rfl c (.inr f) b
  .rcases t B D n with⟨l,rfl⟩|⟨l,rfl⟩|⟨F,g⟩
   .exact hs.sep m i r _ Z x hi V c f (.inl b)
   .exact hs.sep m i r _ Z x hi V c f (.inr b)
   .exact hs.sep m B r D s x g V c f b
 .rcases t m r d with⟨_,rfl⟩|⟨_,rfl⟩|⟨_,h⟩
  .exact hs.scope i _ W hi c (.inl f)
  .exact hs.scope i _ W hi c (.inr f)
  .exact hs.scope m r S h c f
theorem Xi{q:Pc}(i j:Nat)(hi:lk H i=some p)(s:lk H j=some q)(B:p.own=true)(a0:q.own=true)(R:Nat.beq i 0=false)(S:Nat.beq i j=false)(V:Nat.beq j 0=false) :
  ∀a w,Sat N sc env H a w->Sat N sc env ((i,pj p q)::drp j (drp i H)) a w:=λa w hs=>by
 have Y:i≠j:=λe=>by subst e;simp at S
 have h0:i≠0:=λe=>by subst e;simp at R
 have I:j≠0:=λe=>by subst e;simp at V
 have n:∀m r,lk ((i,pj p q)::drp j (drp i H)) m=some r->(m=i/\r=pj p q)\/(m≠i/\m≠j/\lk H m=some r):=λm r f=>by
  by_cases g:i=m
  .subst g;rw [Zp]at f;cases f;exact .inl ⟨rfl,rfl⟩
  .rw [Zg g]at f;obtain⟨l,f⟩:=Ny _ _ _ _ f;obtain⟨h3,f⟩:=Ny _ _ _ _ f;exact .inr ⟨h3,l,f⟩
 refine⟨hs.size,hs.defers,hs.env,λm r f=>?_,λm D r G x f t Z c d b=>?_,λm r W f c d=>?_⟩
 .rcases n m r f with⟨_,rfl⟩|⟨_,_,h⟩
  .exact⟨hs.hold i _ hi,hs.hold j _ s,λc d b=>hs.sep i j _ _ Y hi s B c d b⟩
  .exact hs.hold m r h
 .rcases n m r f with⟨e1,rfl⟩|⟨n1,a1,g⟩
  .rcases n D G t with⟨e2,rfl⟩|⟨n2,F,l⟩
   .exact x (e1.trans e2.symm)
   .rcases d with d|d
    .exact hs.sep i D _ G (gQ n2) hi l B c d b
    .exact hs.sep j D _ G (gQ F) s l a0 c d b
  .rcases n D G t with⟨e2,rfl⟩|⟨n2,F,l⟩
   .rcases b with b|b
    .exact hs.sep m i r _ n1 g hi Z c d b
    .exact hs.sep m j r _ a1 g s Z c d b
   .exact hs.sep m D r G x g l Z c d b
 .rcases n m r f with⟨_,rfl⟩|⟨_,_,h⟩
  .rcases d with d|d
   .exact hs.scope i _ h0 hi c d
   .exact hs.scope j _ I s c d
  .exact hs.scope m r W h c d
theorem Zhf : (Builtin.firstCells k m (Bd u m)).run P w=(Builtin.firstCells k m u).run P w:=by
 cases u with
 | slice a l c=>cases a<;>rfl
 | _=>rfl
theorem Zht {α:Type} {a:Act}   {e t:TypeId}  {enc:α->Value} {xs ys:List α}   (hs:Sat N sc env H a w) (V:lk H i=some (Yu k e enc v xs)) (F:i≠0) (D:Enc P t k enc)
  (I:lo+ys.length<=xs.length) (hp:0<xs.length) (Z:lk H 0=some (keep w0 M0)) (hw:∀b,w0.heap.size<=b->sc b)  {n:Nat} (s:Dst v u xs.length k lo n) :
  ∃g c S,u= .slice (some ⟨g,lo*k,none⟩) n c/\(storeCells ⟨g,lo*k,none⟩ (cellsOf enc ys)).run P w= .ok () S/\Sat N sc env ((i,Yu k e enc v (spl xs lo ys))::H) a S/\Chg (Yu k e enc v xs).fp w S:=by
 have l:w.ownsRow 0 e k v xs.length (cellsOf enc xs):=hs.hold i _ V;rcases l.2 with⟨rfl,hn⟩|⟨g,d,x,rfl,hb,W,j,B,h,f⟩
 .omega
 .obtain⟨Y,s⟩:=s g d rfl j;have R:=Zz D.cells ys;have G:(lo+ys.length)*k<=d*k:=bI _ O;rw [dB]at G;have r:=run_storeCells_at P g (lo*k) e (cellsOf enc ys) 0 x w W (by rw [R,h];omega) (λu s=>by obtain⟨y,_,hy⟩:=iY.1 s;exact D.one y u hy)
  simp only [gE]at r;exact⟨g,Y,_,s,r,hs.upd V rfl F (q:=Yu k e enc (.slice (some ⟨g,0,none⟩) xs.length d) (spl xs lo ys)) (Xs (M:=λk=>(Value.slice (some ⟨g,0,none⟩) xs.length d).ownBlock=some k) rfl) (Zfo D.cells lo I W j B h f) (λk hk=> .inl hk) Z hw,Xs (M:=(Yu k e enc (.slice (some ⟨g,0,none⟩) xs.length d) xs).fp) rfl⟩
theorem t_cpm {α:Type}  {x:Operand} {t t' e S:TypeId} {j n d:Nat}  {enc:α->Value} {xs ys:List α}    (lo:Nat)
  (ho:o.op= .call { callee:= .builtin .copy,args:=#[x,y],argTypes:=#[t,t'] }) (hd:o.dst=some d) (hN:Nat.blt d N=true)
  (hx:ev env x=some u) (hy:ev env y=some z) (Y:lk H i=some (Yu k e enc v xs)) (q:i≠0) (hj:lk H j=some p) (hr:Rd p k enc z ys)
  (hu:Dst v u xs.length k lo n) (hm:m=min n ys.length) (r:lo+m<=xs.length) (hp:0<xs.length) (ht:P.underlying t=some (.slice S)) (l:Enc P S k enc)
  (V:lk H 0=some (keep w0 M0)) (hw:∀b,w0.heap.size<=b->sc b) (hM:∀b,(Yu k e enc v xs).fp b->M b) :
  T P N sc M o env H (G:=Unit) (λ_=>True) (λ_=>(d,.int .i64 (m:Int))::env) (λ_=>(i,Yu k e enc v (spl xs lo (ys.take m)))::H):=λa w hs K Q Z=>by
 have R:(ys.take m).length=m:=by rw [aI];omega
 obtain⟨g,c,w',rfl,F,D,f⟩:=Zht (ys:=ys.take m) hs Y q l (by rw [R];exact r) hp V hw hu;have h:=hr w (hs.hold j p hj);have W:=(Em l h).2;obtain⟨I,-⟩:=Em l (Es m O h);rw [R,Zhf]at I;have s:min ys.length n=m:=O;have B:(execOp a.eval o).run P w= .ok (.value (.int .i64 (m:Int))) w':=by simp [execOp,ho,resolve,invoke,builtin,hs.ev hx,hs.ev hy,Builtin.copy_,run_underlying ht,W,s,l.size,I,F,goInt]
 unfold Oper.wp;rw [B];show K (a.put o.dst _) _;rw [hd];exact Z () _ _ aB (D.put d _ hN) ⟨f.os,f.tape,f.output,f.size,λk hk hn=>f.block k hk (λe=>hn (hM k e))⟩
theorem Zm4{a:Nat}(h:lo<a):Dst v (Dr v lo k) a k lo (a-lo):=λg c b d=>by refine⟨c-lo,?_⟩;rw [b];simp only [Dr];rw [aG O];simp [Xw]
def rd_pre{α:Type}{enc:α->Value}{ys:List α}(h:Rd p k enc z ys)(a:m<=ys.length):Rd p k enc (Bd z m) (ys.take m):=λw b=>Es m a (h w b)
theorem d_sufo  {x:Operand} {t e:TypeId}    {j:Int} (l:o.op= .slice t x (some y) none none) (r:ev env x=some v) (s:ev env y=some (.int kd j)) (q:OwV v m)
  (n:P.underlying t=some (.slice e)) (f:∀w,(sizeOf e).run P w= .ok k w) (b:j=(i:Int)) (d:i<=m):Pv P N sc o env H (Dr v i k):=λa w hs=>by
 obtain⟨g,c,rfl,h⟩:=q;subst b;simp [execOp,l,hs.ev r,hs.ev s,Instr.sliceAt,Instr.slice,Instr.sliceBounds,Instr.sliceBound,asIntOf,run_underlying n,f,d,Dr]
theorem d_preo  {x:Operand} {t e:TypeId}    {j:Int} (r:o.op= .slice t x none (some y) none) (D:ev env x=some v) (F:ev env y=some (.int kd j)) (B:OwV v m)
  (s:P.underlying t=some (.slice e)) (l:∀w,(sizeOf e).run P w= .ok k w) (d:j=(i:Int)) (f:i<=m):Pv P N sc o env H (Bd v i):=λa w hs=>by
 obtain⟨g,c,rfl,h⟩:=B;subst d;have b:i<=c:=aM f h;have n:∀q:Addr,q.add 0=q:=λq=>by simp [Addr.add]
 simp [execOp,r,hs.ev D,hs.ev F,Instr.sliceAt,Instr.slice,Instr.sliceBounds,Instr.sliceBound,asIntOf,run_underlying s,l,b,Bd,n]
abbrev LT:=SL×List Int
abbrev Yt:LT:=((none,0,0),[])
abbrev qL (z:LT):Pc:=Ou 1 Zo (Qu z.1) z.2
def Nv{e:List LT}{z:LT}(j n:Nat)(g:lk H j=some (Nd 1 (Qe (α:=List Int)) qL v e))(c:Nat.beq j 0=false)(d:z∈e):∀a w,Sat N sc env H a w->Sat N sc env ((n,Ou 1 Zo (Qu z.1) z.2)::H) a w:=
 s_sub j n g c rfl (λw h=>h.2 z d) (λb f=> .inr ⟨z,d,f⟩) rfl
end Go.Sky
namespace Go.Sky
variable{k m r:Nat}{P:Nat->Nat}{a b:List Int}
theorem Bt (n:Nat)(S:Nat->Bool)(f:Nat->Nat)(u:∀i,i<n->S i=true->f i<n/\S (f i)=true)(hi:∀i j,i<n->j<n->S i=true->S j=true->f i=f j->i=j)(v:k<n)(t:S k=true):∃i,i<n/\S i=true/\f i=k:=by
 refine aP λq=>?_;have q:∀i,i<n->S i=true->f i≠k:=λi c g s=>q ⟨i,c,g,s⟩;have d:∀i,i∈(List.range n).filter S↔i<n/\S i=true:=λi=>O6;have c:(k::((List.range n).filter S).map f).Nodup:=by
  rw [eA];refine⟨λh=>?_,?_⟩
  .obtain⟨i,c,g⟩:=cQ.1 h;exact q i ((d i).1 c).1 ((d i).1 c).2 g
  .have p:((List.range n).filter S).Nodup:=eZ.filter _;generalize (List.range n).filter S=l at *;have o:∀i∈l,i<n/\S i=true:=λi h=>(d i).1 h;clear d
   induction l with
   | nil=>exact kA
   | cons a l w=>
    rw [eA]at p;rw [bK,eA];refine⟨λh=>?_,w p.2 λi h=>o i (.tail _ h)⟩;obtain⟨i,c,g⟩:=cQ.1 h;have:=hi i a (o i (.tail _ c)).1 (o a (.head _)).1 (o i (.tail _ c)).2 (o a (.head _)).2 g;subst this;exact p.1 c
 have g:(k::((List.range n).filter S).map f) ⊆ (List.range n).filter S:=λx h=>by
  rcases dA.1 h with e|h
  .subst e;exact(d x).2 ⟨v,t⟩
  .obtain⟨i,c,rfl⟩:=cQ.1 h;exact(d _).2 (u i ((d i).1 c).1 ((d i).1 c).2)
 have:=fA c g;simp at this;omega
abbrev gI (l:List Int) (i:Nat):Int:=l.getD i (-1)
structure Gr (g:List (List Int)) (R:Nat):Prop where
 r:∀i x,x∈g.getD i []->0<=x/\x<R
structure Mt (g:List (List Int)) (R:Nat) (mt bk:List Int):Prop where
 lm:mt.length=g.length
 lb:bk.length=R
 m1:∀i,i<g.length->-1<=gI mt i/\gI mt i<R
 b1:∀r,r<R->-1<=gI bk r/\gI bk r<g.length
 mb:∀i r:Nat,i<g.length->r<R->gI mt i=r->gI bk r=i
 bm:∀i r:Nat,i<g.length->r<R->gI bk r=i->gI mt i=r
 ed:∀i,i<g.length->0<=gI mt i->gI mt i∈g.getD i []
structure Lv (g:List (List Int)) (R:Nat) (mt bk lv:List Int) (re:Bool):Prop where
 ln:lv.length=g.length
 lo:∀i,i<g.length->-1<=gI lv i/\gI lv i<g.length
 fr:∀i,i<g.length->gI mt i<0->gI lv i=0
 z:∀i,i<g.length->gI lv i=0->gI mt i<0
 cl:∀i,i<g.length->0<=gI lv i->∀r:Nat,(r:Int)∈g.getD i []->gI bk r<0/\re=true\/0<=gI bk r/\0<=gI lv (gI bk r).toNat
 tr:∀k,k<g.length->0<gI lv k->∃i,∃r:Nat,i<g.length/\gI lv i=gI lv k-1/\(r:Int)∈g.getD i []/\gI bk r=k
 re:re=true->∃i,∃r:Nat,i<g.length/\0<=gI lv i/\(r:Int)∈g.getD i []/\gI bk r<0
structure Pm (g:List (List Int)) (R:Nat) (P:Nat->Nat):Prop where
 e:∀i,i<g.length->((P i:Nat):Int)∈g.getD i []
 i:∀i j,i<g.length->j<g.length->P i=P j->i=j
theorem Zmd{g:List (List Int)}{R:Nat}{mt d n:List Int}(G:Gr g R)(l:Mt g R mt d)(x:Lv g R mt d n false)(t:Pm g R P):∀i,i<g.length->0<=gI mt i:=λk w=>by
 refine lL.1 λH=>?_;have e:∀i,i<g.length->decide (0<=gI n i)=true->(gI d (P i)).toNat<g.length/\decide (0<=gI n (gI d (P i)).toNat)=true/\P i<R/\0<=gI d (P i):=λi hi h=>by
  have h:=bB h;have M:=G.r i _ (t.e i hi);have u:P i<R:=O;have I:=l.b1 _ u;rcases x.cl i hi h _ (t.e i hi)with c|c
  .cases c.2
  .exact⟨O,aQ c.2,u,c.1⟩
 obtain⟨i,hi,c,s⟩:=Bt g.length (λi=>decide (0<=gI n i)) (λi=>(gI d (P i)).toNat) (λi hi h=>⟨(e i hi h).1,(e i hi h).2.1⟩) (λi j hi v c s F=>by obtain⟨o,-,p,q⟩:=e i hi c;obtain⟨y,-,z,B⟩:=e j v s;have f:=l.bm _ _ o p (eC q).symm;have D:=l.bm _ _ y z (eC B).symm;rw [F,D]at f;exact(t.i j i v hi (by exact_mod_cast f)).symm) w (aQ (by rw [x.fr k w H];decide))
 obtain⟨o,-,p,q⟩:=e i hi c;have f:=l.bm _ _ o p (eC q).symm;rw [s]at f;omega
def Vs(d c:List Int):Prop:=c.length=d.length/\∀k,gI c k=gI d k\/gI c k=-1
def Cls(g:List (List Int))(c e d:List Int)(j:Nat):Prop:=∀r:Nat,(r:Int)∈g.getD j []->0<=gI c r/\(gI e (gI c r).toNat=gI e j+1->gI d (gI c r).toNat=-1)
structure AF (g:List (List Int)) (bk lv lv':List Int) (i:Nat):Prop where
 v:Vs lv lv'
 a:gI lv' i=-1
 c:∀j,j<g.length->0<=gI lv j->gI lv' j=-1->Cls g bk lv lv' j
structure MtX (g:List (List Int)) (R:Nat) (mt bk:List Int) (i:Nat) (x:Int):Prop where
 lm:mt.length=g.length
 lb:bk.length=R
 m1:∀i,i<g.length->-1<=gI mt i/\gI mt i<R
 b1:∀r,r<R->-1<=gI bk r/\gI bk r<g.length
 mb:∀i r:Nat,i<g.length->r<R->gI mt i=r->gI bk r=i
 bm:∀k r:Nat,k<g.length->r<R->gI bk r=k->gI mt k=r\/k=i/\(r:Int)=x
 ed:∀i,i<g.length->0<=gI mt i->gI mt i∈g.getD i []
structure AT (g:List (List Int)) (R:Nat) (mt bk lv mt' bk' lv':List Int) (i:Nat):Prop where
 v:Vs lv lv'
 x:MtX g R mt' bk' i (gI mt i)
 a:0<=gI mt' i
 o:∀k,k<g.length->k≠i->(0<=gI mt' k↔0<=gI mt k)
 s:∀k,k<g.length->k≠i->gI lv k<0->gI mt' k=gI mt k
 st:0<=gI mt i->∀j,j<g.length->gI mt' j≠gI mt i
theorem Qy (l:List Int)(i:Nat)(k:Nat)(x:Int)(hi:i<l.length):gI (l.set i x) k=if k=i then x else gI l k:=by
 unfold gI;rw [aA,aA,dY];by_cases h:i=k
 .subst h;simp [hi]
 .rw [aG h,aG (λe=>h e.symm)]
theorem gI_ge{l:List Int}{i:Nat}(hi:l.length<=i):gI l i=-1:=by unfold gI;rw [aA,bL hi];rfl
def Mt.x{g:List (List Int)}{R:Nat}{mt d:List Int}(h:Mt g R mt d)(i:Nat)(x:Int):MtX g R mt d i x:=⟨h.lm,h.lb,h.m1,h.b1,h.mb,λk r a b c=> .inl (h.bm k r a b c),h.ed⟩
def MtX.mt{g:List (List Int)}{R:Nat}{mt d:List Int}{i:Nat}{x:Int}(h:MtX g R mt d i x)(f:x<0):Mt g R mt d:=⟨h.lm,h.lb,h.m1,h.b1,h.mb,λk r a b c=>(h.bm k r a b c).elim id λe=>O,h.ed⟩
def Vs.refl(c:List Int):Vs c c:=⟨rfl,λ_=> .inl rfl⟩
theorem Vs.trans{c:List Int}(h:Vs a b)(k:Vs b c):Vs a c:=⟨k.1.trans h.1,λi=>by
 rcases k.2 i with e|e
 .rw [e];exact h.2 i
 .exact .inr e⟩
theorem Vs.set{c:List Int}{i:Nat}(hi:i<c.length):Vs c (c.set i (-1)):=⟨aS,λk=>by
 rw [Qy _ _ _ _ hi];split
 .exact .inr rfl
 .exact .inl rfl⟩
theorem Vs.neg(h:Vs a b)(c:gI a k=-1):gI b k=-1:=by
 rcases h.2 k with e|e
 .rw [e,c]
 .exact e
structure AL (g:List (List Int)) (bk lv lv':List Int) (i m:Nat):Prop where
 v:Vs lv lv'
 a:gI lv' i=-1
 c:∀j,j<g.length->j≠i->0<=gI lv j->gI lv' j=-1->Cls g bk lv lv' j
 n:∀r:Nat,(r:Int)∈(g.getD i []).take m->0<=gI bk r/\(gI lv (gI bk r).toNat=gI lv i+1->gI lv' (gI bk r).toNat=-1)
section
variable {g:List (List Int)} {R:Nat} {mt bk lv:List Int} {i:Nat}
theorem al_0(hi:i<lv.length):AL g bk lv (lv.set i (-1)) i 0:=by refine⟨.set hi,by rw [Qy _ _ _ _ hi,aK rfl],λj _ c e d=>?_,λr h=>by simp at h⟩;rw [Qy _ _ _ _ hi,aG c]at d;omega
theorem Za7{l:List Int}(c:m<l.length){r:Int}(h:r∈l.take (m+1)):r∈l.take m\/r=l.getD m 0:=by rw [iQ,bG]at h;refine h.imp id λh=>?_;rw [aF c]at h;simp at h;rw [h,aA,aF c];rfl
theorem Zn1{d:List Int}(h:AL g bk lv d i m)(l:m<(g.getD i []).length)(n:(g.getD i []).getD m 0=r)(j:0<=gI bk r)(f:gI d (gI bk r).toNat≠gI lv i+1)(o:-1<=gI lv i):AL g bk lv d i (m+1):=by
 refine⟨h.v,h.a,h.c,λs hs=>?_⟩;rcases Za7 l hs with hs|hs
 .exact h.n s hs
 .rw [n]at hs;obtain rfl:s=r:=O;refine⟨j,λe=>?_⟩;rcases h.v.2 (gI bk s).toNat with c|c
  .rw [c]at f;exact absurd e f
  .exact c
theorem Zn2{d ld:List Int}(h:AL g bk lv d i m)(u:m<(g.getD i []).length)(v:(g.getD i []).getD m 0=r)(p:gI bk r=(k:Int))(y:k<g.length)(x:0<=gI d k)(c:AF g bk d ld k):AL g bk lv ld i (m+1):=by
 refine⟨h.v.trans c.v,c.v.neg h.a,λj o f q t=>?_,λs hs=>?_⟩
 .-- visited before, or now
  by_cases n:gI d j=-1
  .intro s hs;obtain⟨a,b⟩:=h.c j o f q n s hs;exact⟨a,λe=>c.v.neg (b e)⟩
  .have e:gI d j=gI lv j:=(h.v.2 j).elim id λe=>absurd e n;intro s hs;obtain⟨a,b⟩:=c.c j o O t s hs;refine⟨a,λw=>?_⟩;rcases h.v.2 (gI bk s).toNat with l|l
   .exact b O
   .exact c.v.neg l
 .rcases Za7 u hs with hs|hs
  .obtain⟨a,b⟩:=h.n s hs;exact⟨a,λe=>c.v.neg (b e)⟩
  .rw [v]at hs;obtain rfl:s=r:=O;rw [p];exact⟨O,λ_=>by show gI ld (Int.toNat (k:Int))=-1;rw [bW];exact c.a⟩
theorem al_end{c:List Int}(h:AL g bk lv c i m)(n:(g.getD i []).length<=m):AF g bk lv c i:=by
 refine⟨h.v,h.a,λj l d f=>?_⟩;by_cases e:j=i
 .subst e;intro s hs;exact h.n s (by rw [bZ n];exact hs)
 .exact h.c j l e d f
theorem Znx{t:List Int}(v:Gr g R)(c:Mt g R mt bk)(hi:i<g.length)(s:(r:Int)∈g.getD i [])(B:gI bk r<0)(x:Vs lv t):AT g R mt bk lv (mt.set i r) (bk.set r i) t i:=by
 have p:=v.r i _ s;have p:r<R:=O;have f:=λk=>Qy mt i k (r:Int) (by rw [c.lm];exact hi);have o:=λk=>Qy bk r k (i:Int) (by rw [c.lb];exact p);refine⟨x,⟨by rw [aS,c.lm],by rw [aS,c.lb],λk d=>?_,λk d=>?_,λk q d n h=>?_,λk q d n h=>?_,λk d h=>?_⟩,by rw [f,aK rfl];omega,λk d l=>by rw [f,aG l],λk d l h=>by rw [f,aG l],λy j w e=>?_⟩
 .rw [f];split
  .omega
  .exact c.m1 k d
 .rw [o];split
  .omega
  .exact c.b1 k d
 .rw [f]at h;rw [o];split at h
  .rw [aK O];omega
  .have:=c.mb k q d n h;rw [aG (λe=>by subst e;omega)];exact this
 .rw [o]at h;rw [f];split at h
  .next e=>rw [aK O];left;omega
  .have:=c.bm k q d n h;by_cases e:k=i
   .right;exact⟨e,by rw [<-e];exact this.symm⟩
   .rw [aG e];exact .inl this
 .rw [f]at h ⊢;split
  .next e=>subst e;exact s
  .next e=>rw [aG e]at h;exact c.ed k d h
 .have z:=(c.m1 i hi).2;have u:=c.mb i (gI mt i).toNat hi O (eC y).symm;rw [f]at e;split at e
  .rw [<-e,bW]at u;omega
  .have D:=c.mb j (gI mt i).toNat w O O;omega
theorem at_rec{u ld f n:List Int}(N:Gr g R)(v:Mt g R mt bk)(hi:i<g.length)(H:(r:Int)∈g.getD i [])(I:gI bk r=(k:Int))(s:k<g.length)(x:k≠i)(F:Vs lv u)(Q:gI u i=-1)(S:0<=gI u k)(p:AT g R mt bk u f n ld k):AT g R mt bk lv (f.set i r) (n.set r i) ld i:=by
 have w:=N.r i _ H;have w:r<R:=O;have y:=v.bm k r s w I;have d:=p.x;have l:=λk=>Qy f i k (r:Int) (by rw [d.lm];exact hi);have G:=λk=>Qy n r k (i:Int) (by rw [d.lb];exact w);have z:gI f i=gI mt i:=p.s i hi (λe=>x e.symm) O;have t:=p.st O;rw [y]at t;refine⟨F.trans p.v,⟨by rw [aS,d.lm],by rw [aS,d.lb],λk s=>?_,λk s=>?_,λj q c D h=>?_,λj q c D h=>?_,λj c h=>?_⟩,by rw [l,aK rfl];omega,λj c B=>?_,λj c B h=>?_,λV j c e=>?_⟩
 .rw [l];split
  .omega
  .exact d.m1 k s
 .rw [G];split
  .omega
  .exact d.b1 k s
 .rw [l]at h;rw [G];split at h
  .rw [aK O];omega
  .rw [aG (λe=>t j c O)];exact d.mb j q c D h
 .rw [G]at h;rw [l];split at h
  .rw [aK O];left;omega
  .next hq2=>
   rcases d.bm j q c D h with e|e
   .by_cases o:j=i
    .right;exact⟨o,by rw [<-z,<-o,e]⟩
    .rw [aG o];exact .inl e
   .omega
 .rw [l]at h ⊢;split
  .next e=>subst e;exact H
  .next e=>rw [aG e]at h;exact d.ed j c h
 .rw [l,aG B];by_cases e:j=k
  .subst e;exact⟨λ_=>O,λ_=>p.a⟩
  .exact p.o j c e
 .rw [l,aG B];by_cases e:j=k
  .subst e;rcases F.2 j with o|o<;>omega
  .exact p.s j c e (by rcases F.2 j with o|o<;>omega)
 .have W:=(v.m1 i hi).2;have M:=v.mb i (gI mt i).toNat hi O (eC V).symm;rw [l]at e;split at e
  .rw [<-e,bW]at M;omega
  .have Y:=d.mb j (gI mt i).toNat c O O;have Z:=d.mb i (gI mt i).toNat hi O O;omega
end
end Go.Sky
namespace Go.Sky
variable{m:Nat}
def Ni(mt:List Int):Nat:=(mt.filter λx=>decide (0<=x)).length
def Af(mt:List Int):Ni mt<=mt.length:=jP _ _
theorem Zka(mt:List Int)(x:Int):Ni (mt ++ [x])=Ni mt+if 0<=x then 1 else 0:=by unfold Ni;rw [iG,aJ];by_cases h:0<=x<;>simp [h]
theorem Zj9{mt:List Int}{i:Nat}(h:i<mt.length):Ni (mt.take (i+1))=Ni (mt.take i)+if 0<=gI mt i then 1 else 0:=by
 have e:mt.take (i+1)=mt.take i ++ [gI mt i]:=by rw [iQ,aF h];unfold gI;rw [aA,aF h];rfl
 rw [e,Zka]
theorem Znf{mt:List Int}(h:Ni mt=mt.length):∀i,i<mt.length->0<=gI mt i:=by intro i hi;unfold Ni at h;have:=gK.1 h (gI mt i) (by unfold gI;rw [aA,aF hi];exact gO hi);exact bB this
theorem Zkb{mt:List Int}(h:∀i,i<mt.length->0<=gI mt i):Ni mt=mt.length:=by unfold Ni;refine gK.2 λx a=>aQ ?_;obtain⟨i,hi,rfl⟩:=eW a;have:=h i hi;unfold gI at this;rwa [aA,aF hi]at this
theorem Eb:∀{a b:List Int},a.length=b.length->(∀k,k<a.length->0<=gI a k->0<=gI b k)->Ni a<=Ni b/\∀k,k<a.length->gI a k<0->0<=gI b k->Ni a<Ni b
 | [],[],_,_=>⟨aH _,λk d=>absurd d (aZ k)⟩
 | x::a,y::b,g,h=>by
  have g:a.length=b.length:=Nat.succ.inj g;obtain⟨o,n⟩:=Eb g λk d i=>h (k+1) (Nat.succ_lt_succ d) i;have c:∀(z:Int) (l:List Int),Ni (z::l)=Ni l+if 0<=z then 1 else 0:=λz l=>by unfold Ni;rw [List.filter_cons];by_cases j:0<=z<;>simp [j]
  have i:0<=x->0<=y:=h 0 (jD _);rw [c,c];refine⟨by split<;>split<;>omega,λk d f e=>?_⟩
  match k with
  | 0=>
   have f:x<0:=f;have e:0<=y:=e;rw [aG O,aK e];omega
  | k+1=>
   have:=n k (Nat.lt_of_succ_lt_succ d) f e;split<;>split<;>omega
structure RdN (g:List (List Int)) (bk lv lv':List Int) (mt:List Int) (m:Nat):Prop where
 v:Vs lv lv'
 d:∀i,i<m->i<g.length->gI mt i<0->gI lv' i=-1
 c:∀j,j<g.length->0<=gI lv j->gI lv' j=-1->Cls g bk lv lv' j
section
variable {g:List (List Int)} {R:Nat} {mt bk lv:List Int}
def rdN_0:RdN g bk lv lv mt 0:=⟨.refl lv,λi h=>absurd h (aZ i),λj c a b=>O⟩
theorem rdN_s{d ld:List Int}(h:RdN g bk lv d mt m)(c:AF g bk d ld m):RdN g bk lv ld mt (m+1):=by
 refine⟨h.v.trans c.v,λi hi q n=>?_,λj l o p=>?_⟩
 .by_cases e:i=m
  .subst e;exact c.a
  .exact c.v.neg (h.d i O q n)
 .by_cases k:gI d j=-1
  .intro s hs;obtain⟨a,b⟩:=h.c j l o k s hs;exact⟨a,λe=>c.v.neg (b e)⟩
  .have e:gI d j=gI lv j:=(h.v.2 j).elim id λe=>absurd e k;intro s hs;obtain⟨a,b⟩:=c.c j l O p s hs;refine⟨a,λr=>?_⟩;rcases h.v.2 (gI bk s).toNat with f|f
   .exact b O
   .exact c.v.neg f
theorem rdN_k{a:List Int}(h:RdN g bk lv a mt m)(d:0<=gI mt m):RdN g bk lv a mt (m+1):=
 ⟨h.v,λi hi c b=>h.d i (by rcases bE.1 hi with e|e;exact e;subst e;omega) c b,h.c⟩
theorem Zly{o:List Int}(u:g.length<=m)(t:Gr g R)(s:Mt g R mt bk)(c:Lv g R mt bk lv true)(h:RdN g bk lv o mt m):False:=by
 have d:∀n:Nat,∀k,k<g.length->gI lv k=(n:Int)->gI o k=-1:=λn=>by
  induction n with
  | zero=>intro k a b;exact h.d k O a (c.z k a O)
  | succ n p=>
   intro k a b;obtain⟨i,r,hi,f,j,q⟩:=c.tr k a O;obtain⟨-,l⟩:=h.c i hi O (p i hi O) r j;have e:(gI bk r).toNat=k:=O;rw [e]at l;exact l O
 obtain⟨i,r,hi,b,f,j⟩:=c.re rfl;have:=(h.c i hi b (d (gI lv i).toNat i hi O) r f).1;omega
def lvN(lv:List Int)(i:Nat):Nat:=((List.range lv.length).filter λk=>decide (0<=gI lv k) && decide (k≠i)).length
end
end Go.Sky
namespace Go.Sky
variable{P Q:Nat->Nat}{i k:Nat}{d:List Nat}
theorem Iw(f:Nat->Int):∀n,Zc f n=((List.range n).map f).sum
 | 0=>rfl
 | n+1=>by rw [Zf,Iw f n,gX];simp
theorem Zgz{l m:List Int}(h:l.Perm m):l.sum=m.sum:=by
 induction h with
 | nil=>rfl
 | cons x _ c=>simp [c]
 | swap x y l=>simp;omega
 | trans _ _ a b=>exact a.trans b
theorem Zc0{n:Nat}(p:∀i,i<n->P i<n)(hi:∀i j,i<n->j<n->P i=P j->i=j)(f:Nat->Int):Zc (λr=>f (P r)) n=Zc f n:=by
 have e:((List.range n).map P).Nodup:=by
  have g:(List.range n).Nodup:=eZ;have o:∀i∈List.range n,i<n:=λi h=>bR.1 h;generalize List.range n=l at *
  induction l with
  | nil=>exact kA
  | cons a l t=>
   rw [eA]at g;rw [bK,eA];refine⟨λh=>?_,t g.2 λi h=>o i (.tail _ h)⟩;obtain⟨i,e,m⟩:=cQ.1 h;have:=hi i a (o i (.tail _ e)) (o a (.head _)) m;subst this;exact g.1 e
 have s:((List.range n).map P).Perm (List.range n):=by
  rw [List.perm_ext_iff_of_nodup e eZ];intro k;constructor
  .intro h;obtain⟨i,e,rfl⟩:=cQ.1 h;exact bR.2 (p i (bR.1 e))
  .intro h;obtain⟨i,m,-,q⟩:=Bt n (λ_=>true) P (λi hi _=>⟨p i hi,rfl⟩) (λi j a b _ _ c=>hi i j a b c) (bR.1 h) rfl;exact cQ.2 ⟨i,bR.2 m,q⟩
 rw [Iw,Iw,show(λr=>f (P r))=f∘P from rfl,<-gJ];exact Zgz (s.map f)
theorem Cv{f g:Nat->Int} : ∀n,(∀i,i<n->f i<=g i)->Zc f n<=Zc g n
 | 0,_=>cL _
 | n+1,h=>by have:=Cv n λi hi=>h i O;have:=h n O;rw [Zf,Zf];omega
abbrev cU (u:List Int) (r:Nat):Int:=u.getD r 0
abbrev cC (C:List (List Int)) (r k:Nat):Int:=(C.getD r []).getD k 0
theorem Hg (l:List Int)(i:Nat)(k:Nat){x:Int}(hi:i<l.length):cU (l.set i x) k=if k=i then x else cU l k:=by
 unfold cU;rw [aA,aA,dY];by_cases h:i=k
 .subst h;simp [hi]
 .rw [aG h,aG (λe=>h e.symm)]
theorem Ze7{l:List Int}{n:Nat}{x:Int}(hi:i<l.length)(c:i<n):Zc (cU (l.set i x)) n=Zc (cU l) n-cU l i+x:=by
 induction n with
 | zero=>omega
 | succ n a=>
  rw [Zf,Zf,Hg _ _ _ hi];by_cases h:n=i
  .subst h;rw [aK rfl,Zj (f:=cU (l.set n x)) (g:=cU l) λk b=>by rw [Hg _ _ _ hi,aG O]];omega
  .rw [aG h,a O];omega
structure Hu (C:List (List Int)) (n:Nat) (most:Int) (u v:List Int) (S:Int):Prop where
 lu:u.length=n
 lv:v.length=n+1
 fe:∀r k,r<n->k<n->cC C r k<=most->cU u r+cU v k<=cC C r k
 un:∀r,r<n->0<=cU u r/\cU u r<=S
 vn:∀k,k<n->-S<=cU v k/\cU v k<=0
 sm:Zc (cU u) n+Zc (cU v) n=S
structure Pa (C:List (List Int)) (n:Nat) (most:Int) (P:Nat->Nat):Prop where
 lt:∀i,i<n->P i<n
 i:∀i j,i<n->j<n->P i=P j->i=j
 c:∀i,i<n->cC C i (P i)<=most
def asS(C:List (List Int))(P:Nat->Nat)(n:Nat):Int:=Zc (λr=>cC C r (P r)) n
theorem dual{C:List (List Int)}{n:Nat}{a:Int}{u v:List Int}(e:∀r k,r<n->k<n->cC C r k<=a->cU u r+cU v k<=cC C r k)(b:Pa C n a P):Zc (cU u) n+Zc (cU v) n<=asS C P n:=by rw [<-Zc0 b.lt b.i (cU v),<-Po];exact Cv n λr c=>e r (P r) c (b.lt r c) (b.c r c)
theorem Zm3{C:List (List Int)}{n:Nat}{a:Int}{u v:List Int}(b:Pa C n a Q)(e:∀r,r<n->cU u r+cU v (Q r)=cC C r (Q r)):Zc (cU u) n+Zc (cU v) n=asS C Q n:=by rw [<-Zc0 b.lt b.i (cU v),<-Po];exact Zj λr c=>e r c
def Hu.le{C:List (List Int)}{n:Nat}{a:Int}{u v:List Int}{S:Int}(h:Hu C n a u v S)(b:Pa C n a P):S<=asS C P n:=h.sm▸dual h.fe b
abbrev Mm:Int:=1152921504606846976
abbrev Hz (C:List (List Int)) (u v:List Int) (r k:Nat):Int:=cC C r k-cU u r-cU v k
structure Rw (C:List (List Int)) (n:Nat) (most:Int) (u v rows:List Int) (i:Nat):Prop where
 lr:rows.length=n+1
 hn:gI rows n=(i:Int)
 lt:∀k,k<n->-1<=gI rows k/\gI rows k<(i:Int)
 inj:∀k l,k<n->l<n->0<=gI rows k->gI rows k=gI rows l->k=l
 on:∀r,r<i->∃k,k<n/\gI rows k=(r:Int)
 ti:∀k,k<n->0<=gI rows k->cC C (gI rows k).toNat k<=most/\Hz C u v (gI rows k).toNat k=0
structure Tw (C:List (List Int)) (n:Nat) (most:Int) (u v rows bf:List Int) (d:List Nat):Prop where
 nd:d.Nodup
 le:∀k∈d,k<=n
 hd:d.head? = some n
 rw:∀k∈d.dropLast,0<=gI rows k
 ed:∀j k,0<j->d[j]? = some k->∃b∈d.take j,gI bf k=(b:Int)/\cC C (gI rows b).toNat k<=most/\Hz C u v (gI rows b).toNat k=0
structure Ds (C:List (List Int)) (most:Int) (u v rows bf ds:List Int) (d:List Nat) (k:Nat):Prop where
 nn:0<=cU ds k/\cU ds k<=Mm
 ex:cU ds k<Mm->∃b∈d,gI bf k=(b:Int)/\cC C (gI rows b).toNat k<=most/\cU ds k=Hz C u v (gI rows b).toNat k
 le:∀b∈d,cC C (gI rows b).toNat k<=most->cU ds k<=Hz C u v (gI rows b).toNat k
theorem Zl6{C:List (List Int)}{n:Nat}{g:Int}{u v a:List Int}(hi:i<n)(l:Rw C n g u v a i)(F:d.Nodup)(o:∀k∈d,k<=n)(H:n∈d)(y:∀k∈d,0<=gI a k)(q:Pa C n g P):∃b∈d,∃k,k<n/\k ∉ d/\cC C (gI a b).toNat k<=g:=by
 refine aP λw=>?_;have w:∀b∈d,∀k,k<n->cC C (gI a b).toNat k<=g->k∈d:=λb f k s h=>aP λF=>w ⟨b,f,k,s,F,h⟩;have p:∀k∈d,(gI a k).toNat<n:=λk s=>by
  have M:=o k s;have D:=y k s;by_cases e:k=n
  .subst e;rw [l.hn];omega
  .have:=l.lt k O;omega
 have m:∀b∈d,P (gI a b).toNat∈d/\P (gI a b).toNat<n:=λb f=>⟨w b f _ (q.lt _ (p b f)) (q.c _ (p b f)),q.lt _ (p b f)⟩;have z:∀b∈d,∀c∈d,P (gI a b).toNat=P (gI a c).toNat->b=c:=λb f c r e=>by
  have e:=q.i _ _ (p b f) (p c r) e;have t:=y b f;have I:=y c r;have e:gI a b=gI a c:=O;by_cases G:b=n
  .by_cases B:c=n
   .omega
   .rw [G,l.hn]at e;have:=(l.lt c (by have:=o c r;omega)).2;omega
  .by_cases B:c=n
   .rw [B,l.hn]at e;have:=(l.lt b (by have:=o b f;omega)).2;omega
   .exact l.inj b c (by have:=o b f;omega) (by have:=o c r;omega) t e
 obtain⟨j,-,D,N⟩:=Bt (n+1) (λk=>decide (k∈d)) (λb=>P (gI a b).toNat) (λb _ f=>⟨by have:=(m b (bB f)).2;omega,aQ (m b (bB f)).1⟩) (λb c _ _ f x e=>z b (bB f) c (bB x) e) (eF n) (aQ H);have:=(m j (bB D)).2;omega
section
variable {C:List (List Int)} {n:Nat} {most:Int} {u v rows:List Int}
theorem Ds.cg{e f a b:List Int}(h:Ds C most u v rows e f d k)(g:gI a k=gI e k)(c:cU b k=cU f k):Ds C most u v rows a b d k:=
 ⟨by rw [c];exact h.nn,by rw [g,c];exact h.ex,by rw [c];exact h.le⟩
theorem Ds.keep{f e:List Int}{dl:List Nat}{a:Nat}(h:Ds C most u v rows f e dl k)(m:cC C (gI rows a).toNat k<=most->¬Hz C u v (gI rows a).toNat k<cU e k):Ds C most u v rows f e (dl ++ [a]) k:=
 ⟨h.nn,λl=>by
  obtain⟨b,c,j⟩:=h.ex l;exact⟨b,eT _ c,j⟩,λb c g=>by
  rcases bG.1 c with c|c
  .exact h.le b c g
  .obtain rfl:=aY.1 c;exact lL.1 (m g)⟩
theorem Ds.upd{f e:List Int}{dl:List Nat}{a:Nat}(h:Ds C most u v rows f e dl k)(o:k<e.length)(m:k<f.length)(l:cC C (gI rows a).toNat k<=most)(r:Hz C u v (gI rows a).toNat k<cU e k)(q:0<=Hz C u v (gI rows a).toNat k):Ds C most u v rows (f.set k a) (e.set k (Hz C u v (gI rows a).toNat k)) (dl ++ [a]) k:=by
 have g:cU (e.set k (Hz C u v (gI rows a).toNat k)) k=Hz C u v (gI rows a).toNat k:=by rw [Hg _ _ _ o,aK rfl]
 have p:=h.nn;refine⟨by rw [g];omega,λ_=>⟨a,O6,by rw [Qy _ _ _ _ m,aK rfl],l,g⟩,λb c j=>?_⟩;rw [g];rcases bG.1 c with c|c
 .have:=h.le b c j;omega
 .obtain rfl:=aY.1 c;exact cL _
structure Sc (C:List (List Int)) (n:Nat) (most:Int) (u v rows:List Int) (dl:List Nat) (col:Nat) (bf0 bf ds:List Int) (ma mn:Nat) (nx ls:Int):Prop where
 lb:bf.length=n
 ld:ds.length=n
 a:∀k,k<ma->k<n->k ∉ dl ++ [col]->Ds C most u v rows bf ds (dl ++ [col]) k
 b:∀k,ma<=k->k<n->k ∉ dl ++ [col]->Ds C most u v rows bf ds dl k
 t:∀k∈dl ++ [col],gI bf k=gI bf0 k
 nx:nx=-1/\ls=Mm/\(∀k,k<mn->k<n->k ∉ dl ++ [col]->cU ds k=Mm)\/∃q:Nat,nx=(q:Int)/\q<mn/\q<n/\q ∉ dl ++ [col]/\ls=cU ds q/\ls<Mm/\∀k,k<mn->k<n->k ∉ dl ++ [col]->ls<=cU ds k
variable {dl:List Nat} {col:Nat} {bf0 bf ds:List Int} {m:Nat} {nx ls:Int}
def sc_0(a:bf.length=n)(b:ds.length=n)(h:∀k,k<n->k ∉ dl ++ [col]->Ds C most u v rows bf ds dl k):Sc C n most u v rows dl col bf bf ds 0 0 (-1) Mm:=
 ⟨a,b,λk h=>absurd h (aZ k),λk _=>h k,λk _=>rfl,.inl ⟨rfl,rfl,λk h=>absurd h (aZ k)⟩⟩
theorem Zlo(h:Sc C n most u v rows dl col bf0 bf ds m m nx ls)(w:m∈dl ++ [col]):Sc C n most u v rows dl col bf0 bf ds (m+1) (m+1) nx ls:=by
 have j:∀k,k ∉ dl ++ [col]->k≠m:=λk t e=>t (e▸w);refine⟨h.lb,h.ld,λk g b a=>h.a k (by have:=j k a;omega) b a,λk g b a=>h.b k O b a,h.t,?_⟩;rcases h.nx with⟨c,l,f⟩|⟨q,c,l,f,o,p,r,s⟩
 .exact .inl ⟨c,l,λk g b a=>f k (by have:=j k a;omega) b a⟩
 .exact .inr ⟨q,c,O,f,o,p,r,λk g b a=>s k (by have:=j k a;omega) b a⟩
theorem Zln(h:Sc C n most u v rows dl col bf0 bf ds m m nx ls)(f:cC C (gI rows col).toNat m<=most->¬Hz C u v (gI rows col).toNat m<cU ds m):Sc C n most u v rows dl col bf0 bf ds (m+1) m nx ls:=
 ⟨h.lb,h.ld,λk c a b=>by
  by_cases e:k=m
  .subst e;exact(h.b k (aH _) a b).keep f
  .exact h.a k O a b,λk c a b=>h.b k O a b,h.t,h.nx⟩
theorem sc_upd(h:Sc C n most u v rows dl col bf0 bf ds m m nx ls)(r:m<n)(D:m ∉ dl ++ [col])(B:cC C (gI rows col).toNat m<=most)(F:Hz C u v (gI rows col).toNat m<cU ds m)(z:0<=Hz C u v (gI rows col).toNat m):Sc C n most u v rows dl col bf0 (bf.set m col) (ds.set m (Hz C u v (gI rows col).toNat m)) (m+1) m nx ls:=by
 have o:=λk=>Qy bf m k (col:Int) (by rw [h.lb];exact r);have f:=λk=>Hg ds m k (x:=Hz C u v (gI rows col).toNat m) (by rw [h.ld];exact r);refine⟨by rw [aS,h.lb],by rw [aS,h.ld],λk c a b=>?_,λk c a b=>?_,λk p=>?_,?_⟩
 .by_cases e:k=m
  .subst e;exact(h.b k (aH _) a b).upd (by rw [h.ld];exact a) (by rw [h.lb];exact a) B F z
  .exact(h.a k O a b).cg (by rw [o,aG e]) (by rw [f,aG e])
 .exact(h.b k O a b).cg (by rw [o,aG O]) (by rw [f,aG O])
 .rw [o,aG (show k≠m from λe=>D (e▸p))];exact h.t k p
 .rcases h.nx with⟨g,j,l⟩|⟨q,g,j,l,s,t,w,y⟩
  .exact .inl ⟨g,j,λk c a b=>by rw [f,aG O];exact l k c a b⟩
  .exact .inr ⟨q,g,j,l,s,by rw [f,aG O];exact t,w,λk c a b=>by rw [f,aG O];exact y k c a b⟩
theorem Zbc(h:Sc C n most u v rows dl col bf0 bf ds (m+1) m nx ls)(s:m<n)(r:m ∉ dl ++ [col])(w:cU ds m<ls):Sc C n most u v rows dl col bf0 bf ds (m+1) (m+1) (m:Int) (cU ds m):=by
 refine⟨h.lb,h.ld,h.a,h.b,h.t,.inr ⟨m,rfl,O,s,r,rfl,?_,λk t g j=>?_⟩⟩
 .rcases h.nx with⟨b,c,a⟩|⟨q,b,c,a,l,o,p,f⟩<;>omega
 .by_cases e:k=m
  .subst e;exact cL _
  .rcases h.nx with⟨b,c,a⟩|⟨q,b,c,a,l,o,p,f⟩
   .rw [a k O g j];omega
   .have:=f k O g j;omega
theorem Zbb(h:Sc C n most u v rows dl col bf0 bf ds (m+1) m nx ls)(t:m<n)(s:m ∉ dl ++ [col])(x:¬cU ds m<ls):Sc C n most u v rows dl col bf0 bf ds (m+1) (m+1) nx ls:=by
 refine⟨h.lb,h.ld,h.a,h.b,h.t,?_⟩;have w:=(h.a m (eF m) t s).nn;rcases h.nx with⟨a,g,b⟩|⟨q,a,g,b,j,l,o,p⟩
 .refine .inl ⟨a,g,λk r c f=>?_⟩;by_cases e:k=m
  .subst e;omega
  .exact b k O c f
 .refine .inr ⟨q,a,O,b,j,l,o,λk r c f=>?_⟩;by_cases e:k=m
  .subst e;omega
  .exact p k O c f
end
end Go.Sky
namespace Go.Sky
structure Up (n:Nat) (rows:List Int) (d:List Nat) (u v ds u' v' ds':List Int) (S ls:Int) (m:Nat):Prop where
 lu:u'.length=n
 lv:v'.length=n+1
 ld:ds'.length=n
 u1:∀r,r<n->∀k∈d,k<m->gI rows k=(r:Int)->cU u' r=cU u r+ls
 u0:∀r,r<n->(∀k∈d,k<m->gI rows k≠(r:Int))->cU u' r=cU u r
 v1:∀k∈d,k<m->cU v' k=cU v k-ls
 v0:∀k,k ∉ d\/m<=k->cU v' k=cU v k
 d1:∀k,k<n->k ∉ d->k<m->cU ds k<Mm->cU ds' k=cU ds k-ls
 d0:∀k,k<n->k∈d\/m<=k\/Mm<=cU ds k->cU ds' k=cU ds k
 sm:Zc (cU u') n+Zc (cU v') n=S+if n<m then ls else 0
section
variable {n:Nat} {rows:List Int} {d:List Nat} {u v ds u' v' ds':List Int} {S ls:Int} {m:Nat}
theorem up_0(b:u.length=n)(c:v.length=n+1)(a:ds.length=n)(hs:Zc (cU u) n+Zc (cU v) n=S):Up n rows d u v ds u v ds S ls 0:=
 ⟨b,c,a,λr _ k _ h=>absurd h (aZ k),λr _ _=>rfl,λk _ h=>absurd h (aZ k),λk _=>rfl,λk _ _ h=>absurd h (aZ k),λk _ _=>rfl,by rw [aG (aZ n),fG];exact hs⟩
theorem Zla(h:Up n rows d u v ds u' v' ds' S ls m)(I:m<=n)(o:m∈d){r:Nat}(B:gI rows m=(r:Int))(i:r<n)(hi:∀k∈d,k<m->gI rows k≠gI rows m) :
  Up n rows d u v ds (u'.set r (cU u' r+ls)) (v'.set m (cU v' m-ls)) ds' S ls (m+1):=by
 have D:=λk=>Hg u' r k (x:=cU u' r+ls) (by rw [h.lu];exact i);have y:=λk=>Hg v' m k (x:=cU v' m-ls) (by rw [h.lv];omega);have t:cU u' r=cU u r:=h.u0 r i λk a c=>by rw [<-B];exact hi k a c
 have w:cU v' m=cU v m:=h.v0 m (.inr (aH _));refine⟨by rw [aS,h.lu],by rw [aS,h.lv],h.ld,λq p k a c e=>?_,λq p z=>?_,λk a c=>?_,λk a=>?_,λk l b H G=>h.d1 k l b (by have:k≠m:=λe=>b (e▸o);omega) G,λk l b=>h.d0 k l (by rcases b with b|b|b;exact .inl b;exact .inr (.inl O);exact .inr (.inr b)),?_⟩
 .rw [D];by_cases j:q=r
  .rw [aK j,t,j]
  .rw [aG j];exact h.u1 q p k a (by have:k≠m:=λF=>(by subst F;omega);omega) e
 .have s:q≠r:=λe=>z m o (eF m) (e▸B);rw [D,aG s];exact h.u0 q p λk a c=>z k a O
 .rw [y];by_cases e:k=m
  .subst e;rw [aK rfl,w]
  .rw [aG e];exact h.v1 k a O
 .have e:k≠m:=λe=>by rcases a with a|a;exact a (e▸o);omega
  rw [y,aG e];exact h.v0 k (a.imp id λa=>O)
 .have hs:=h.sm;rw [aG O]at hs;rw [Ze7 (by rw [h.lu];exact i) i];by_cases e:m=n
  .subst e;rw [aK O,Zj (f:=cU (v'.set m (cU v' m-ls))) (g:=cU v') λk a=>by rw [y,aG O]];omega
  .rw [aG O,Ze7 (by rw [h.lv];omega) O];omega
theorem Zk9(h:Up n rows d u v ds u' v' ds' S ls m)(j:m<n)(g:m ∉ d)(w:cU ds' m<Mm):Up n rows d u v ds u' v' (ds'.set m (cU ds' m-ls)) S ls (m+1):=by
 have o:=λk=>Hg ds' m k (x:=cU ds' m-ls) (by rw [h.ld];exact j);have p:cU ds' m=cU ds m:=h.d0 m j (.inr (.inl (aH _)));have l:∀k∈d,k≠m:=λk b e=>g (e▸b);refine⟨h.lu,h.lv,by rw [aS,h.ld],λr i k b c e=>h.u1 r i k b (by have:=l k b;omega) e,λr i s=>h.u0 r i λk b c=>s k b O,λk b c=>h.v1 k b (by have:=l k b;omega),λk b=>?_,λk f a t q=>?_,λk f a=>?_,by rw [h.sm,aG O,aG O]⟩
 .by_cases e:k=m
  .subst e;exact h.v0 k (.inl g)
  .exact h.v0 k (b.imp id λb=>O)
 .rw [o];by_cases e:k=m
  .subst e;rw [aK rfl,p]
  .rw [aG e];exact h.d1 k f a O q
 .have e:k≠m:=λe=>by
   subst e;rcases a with a|a|a
   .exact g a
   .omega
   .omega
  rw [o,aG e];exact h.d0 k f (by rcases a with a|a|a;exact .inl a;exact .inr (.inl O);exact .inr (.inr a))
theorem up_far(h:Up n rows d u v ds u' v' ds' S ls m)(q:m<n)(i:m ∉ d)(t:¬cU ds' m<Mm):Up n rows d u v ds u' v' ds' S ls (m+1):=by
 have l:cU ds' m=cU ds m:=h.d0 m q (.inr (.inl (aH _)));have j:∀k∈d,k≠m:=λk a e=>i (e▸a);refine⟨h.lu,h.lv,h.ld,λr g k a c e=>h.u1 r g k a (by have:=j k a;omega) e,λr g p=>h.u0 r g λk a c=>p k a O,λk a c=>h.v1 k a (by have:=j k a;omega),λk a=>?_,λk f b s o=>?_,λk f b=>?_,by rw [h.sm,aG O,aG O]⟩
 .by_cases e:k=m
  .subst e;exact h.v0 k (.inl i)
  .exact h.v0 k (a.imp id λa=>O)
 .exact h.d1 k f b (by have:k≠m:=λe=>(by subst e;omega);omega) o
 .by_cases e:k=m
  .subst e;exact l
  .exact h.d0 k f (by rcases b with b|b|b;exact .inl b;exact .inr (.inl O);exact .inr (.inr b))
end
end Go.Sky
namespace Go.Sky
section
variable {C:List (List Int)} {n i:Nat} {most:Int} {u v rows u' v' bf0 bf ds ds':List Int} {dl:List Nat} {col q:Nat} {S ls:Int}
theorem Er(hi:i<n)(a:Rw C n most u v rows i){k:Nat}(c:k<=n)(b:0<=gI rows k):∃r:Nat,gI rows k=(r:Int)/\r<n:=by
 refine⟨(gI rows k).toNat,(eC b).symm,?_⟩;by_cases e:k=n
 .subst e;rw [a.hn];omega
 .have:=a.lt k O;omega
theorem Cf(a:Rw C n most u v rows i){k l:Nat}(f:k<=n)(g:l<=n)(d:0<=gI rows k)(e:gI rows k=gI rows l):k=l:=by
 by_cases c:k=n
 .by_cases b:l=n
  .omega
  .rw [c,a.hn]at e;have:=(a.lt l O).2;omega
 .by_cases b:l=n
  .rw [b,a.hn]at e;have:=(a.lt k O).2;omega
  .exact a.inj k l O O d e
structure Nx (C:List (List Int)) (n i:Nat) (most:Int) (u v rows bf ds:List Int) (d:List Nat) (q:Nat) (S:Int):Prop where
 hu:Hu C n most u v S
 rw:Rw C n most u v rows i
 tw:Tw C n most u v rows bf (d ++ [q])
 dk:∀k,k<n->k ∉ d ++ [q]->Ds C most u v rows bf ds d k
 lb:bf.length=n
 ld:ds.length=n
theorem up_end(hi:i<n)(hS:most+S<Mm)(H:Hu C n most u v S)(t:Rw C n most u v rows i)(z:Tw C n most u v rows bf0 (dl ++ [col]))(R:∀k∈dl ++ [col],0<=gI rows k){nx:Int}(Q:Sc C n most u v rows dl col bf0 bf ds n n nx ls)(hq:nx=(q:Int))(h:Up n rows (dl ++ [col]) u v ds u' v' ds' S ls (n+1)) :
  Nx C n i most u' v' rows bf ds' (dl ++ [col]) q (S+ls)/\q<n:=by
 obtain⟨x,B,q1,q3,V,q5,q6,q7⟩:∃x:Nat,nx=(x:Int)/\x<n/\x<n/\x ∉ dl ++ [col]/\ls=cU ds x/\ls<Mm/\∀k,k<n->k<n->k ∉ dl ++ [col]->ls<=cU ds k:=by
  rcases Q.nx with⟨B,-,-⟩|h
  .omega
  .exact h
 obtain rfl:x=q:=O;generalize hd:dl ++ [col]=d at *;have F:=λk (y:k<n)=>Q.a k y y;rw [hd]at F;have a3:0<=ls:=by rw [q5];exact(F x q3 V).nn.1
 have W:∀b∈d,∀r:Nat,r<n->gI rows b=(r:Int)->cU u' r=cU u r+ls:=λb f r m e=>h.u1 r m b f (by have:=z.le b f;omega) e;have Y:∀k∈d,cU v' k=cU v k-ls:=λk c=>h.v1 k c (by have:=z.le k c;omega);have M:∀k,k ∉ d->cU v' k=cU v k:=λk c=>h.v0 k (.inl c);have I:∀b∈d,∀k∈d,Hz C u' v' (gI rows b).toNat k=Hz C u v (gI rows b).toNat k:=λb f k c=>by obtain⟨r,e,p⟩:=Er hi t (z.le b f) (R b f);unfold Hz;rw [e,bW,W b f r p e,Y k c];omega
 have rdN:∀b∈d,∀k,k ∉ d->Hz C u' v' (gI rows b).toNat k=Hz C u v (gI rows b).toNat k-ls:=λb f k c=>by obtain⟨r,e,p⟩:=Er hi t (z.le b f) (R b f);unfold Hz;rw [e,bW,W b f r p e,M k c];omega
 have G:∀b∈d,∀k,k<n->cC C (gI rows b).toNat k<=most->Hz C u v (gI rows b).toNat k<Mm:=λb f k c l=>by obtain⟨r,e,p⟩:=Er hi t (z.le b f) (R b f);rw [e,bW]at l ⊢;have:=H.un r p;have:=H.vn k c;unfold Hz;omega
 refine⟨⟨⟨h.lu,h.lv,λr k m c l=>?_,λr m=>?_,λk c=>?_,?_⟩,⟨t.lr,t.hn,t.lt,t.inj,t.on,λk c N=>⟨(t.ti k c N).1,?_⟩⟩,⟨?_,λk c=>?_,?_,λk c=>?_,λj k hj c=>?_⟩,λk c g=>?_,Q.lb,h.ld⟩,q3⟩
 .-- the potentials fit
  have a1:=H.fe r k m c l;by_cases w:∃b∈d,gI rows b=(r:Int)
  .obtain⟨b,f,e⟩:=w;rw [W b f r m e];by_cases g:k∈d
   .rw [Y k g];omega
   .rw [M k g];have y:=(F k c g).le b f (by rw [e,bW];exact l);have h2:=q7 k c c g;rw [e,bW]at y;unfold Hz at y;omega
  .rw [h.u0 r m λb f _ e=>w ⟨b,f,e⟩];by_cases g:k∈d
   .rw [Y k g];omega
   .rw [M k g];exact a1
 .have:=H.un r m;by_cases w:∃b∈d,gI rows b=(r:Int)
  .obtain⟨b,f,e⟩:=w;rw [W b f r m e];omega
  .rw [h.u0 r m λb f _ e=>w ⟨b,f,e⟩];omega
 .have:=H.vn k c;by_cases g:k∈d
  .rw [Y k g];omega
  .rw [M k g];omega
 .rw [h.sm,aK (eF n)]
 .-- what is matched stays tight
  obtain⟨r,e,p⟩:=Er hi t (bP c) N;have y:=(t.ti k c N).2;by_cases g:k∈d
  .rw [I k g k g];exact y
  .rw [e,bW]at y ⊢;unfold Hz at y ⊢;rw [h.u0 r p λb f _ D=>g (by rw [Cf t (bP c) (z.le b f) N (by rw [e,D])];exact f),M k g];exact y
 .exact iR.2 ⟨z.nd,O6,λa F b f e=>V (by rw [<-aY.1 f,<-e];exact F)⟩
 .rcases bG.1 c with c|c
  .exact z.le k c
  .rw [aY.1 c];omega
 .rw [List.head?_append,z.hd];rfl
 .rw [List.dropLast_concat]at c;exact R k c
 .rcases lD j d.length with s|s|s
  .rw [aV s]at c;obtain⟨b,f,B,D,Z⟩:=z.ed j k hj c;have a0:b∈d:=eR f;have g:k∈d:=fP c;refine⟨b,by rw [fC (bP s)];exact f,?_,D,by rw [I b a0 k g];exact Z⟩;rw [Q.t k (by rw [hd];exact g)];exact B
  .rw [s,aR (aH _),eP]at c;obtain rfl:x=k:=by simpa using c
   obtain⟨b,f,B,D,Z⟩:=(F x q3 V).ex (by rw [<-q5];exact q6);refine⟨b,by rw [s,fC (aH _),eE];exact f,B,D,?_⟩;rw [rdN b f x V];omega
  .rw [bL (by rw [aJ];simp;omega)]at c;cases c
 .-- the distances
  have o:k ∉ d:=λh=>g (eT _ h);have P:=F k c o;have a2:=P.nn;have h7:=q7 k c c o;by_cases hf:cU ds k<Mm
  .have e:=h.d1 k c o O hf;refine⟨by rw [e];omega,λ_=>?_,λb f l=>?_⟩
   .obtain⟨b,f,B,D,Z⟩:=P.ex hf;exact⟨b,f,B,D,by rw [e,rdN b f k o];omega⟩
   .have:=P.le b f l;rw [e,rdN b f k o];omega
  .have e:=h.d0 k c (.inr (.inr (lL.1 hf)));refine⟨by rw [e];exact a2,λh=>by rw [e]at h;omega,λb f l=>?_⟩;have:=P.le b f l;have:=G b f k c l;omega
end
end Go.Sky
namespace Go.Sky
structure Fl (C:List (List Int)) (n i:Nat) (most:Int) (u v rows0 rows:List Int) (D:List Nat) (j c:Nat):Prop where
 lr:rows.length=n+1
 jc:D[j]? = some c
 sm:∀k∈D.take (j+1),gI rows k=gI rows0 k
 lt:∀k,k<=n->-1<=gI rows k/\gI rows k<=(i:Int)
 on:∀r,r<=i->∃k,k<=n/\k≠c/\gI rows k=(r:Int)
 inj:∀k l,k<=n->l<=n->k≠c->l≠c->0<=gI rows k->gI rows k=gI rows l->k=l
 ti:∀k,k<n->k≠c->0<=gI rows k->cC C (gI rows k).toNat k<=most/\Hz C u v (gI rows k).toNat k=0
structure Mw (C:List (List Int)) (n i:Nat) (most:Int) (u v rows:List Int):Prop where
 lr:rows.length=n+1
 lt:∀k,k<n->-1<=gI rows k/\gI rows k<(i:Int)
 inj:∀k l,k<n->l<n->0<=gI rows k->gI rows k=gI rows l->k=l
 on:∀r,r<i->∃k,k<n/\gI rows k=(r:Int)
 ti:∀k,k<n->0<=gI rows k->cC C (gI rows k).toNat k<=most/\Hz C u v (gI rows k).toNat k=0
section
variable {C:List (List Int)} {n i:Nat} {most:Int} {u v rows0 rows bf:List Int} {d D:List Nat} {q j c:Nat}
theorem fl_0(a:Rw C n most u v rows i)(s:Tw C n most u v rows bf (d ++ [q]))(o:gI rows q<0):Fl C n i most u v rows rows (d ++ [q]) d.length q:=by
 have f:n≠q:=λe=>by rw [<-e,a.hn]at o;omega
 refine⟨a.lr,by rw [aR (aH _),eP];rfl,λk _=>rfl,λk b=>?_,λr t=>?_,λk l b p _ _ h e=>Cf a b p h e,λk b _ h=>a.ti k b h⟩
 .by_cases e:k=n
  .subst e;rw [a.hn];omega
  .have:=a.lt k O;omega
 .by_cases e:r=i
  .subst e;exact⟨n,aH _,f,a.hn⟩
  .obtain⟨k,b,g⟩:=a.on r O;exact⟨k,bP b,λm=>by rw [m]at g;omega,g⟩
theorem Zmr(w:Tw C n most u v rows0 bf D)(h:Fl C n i most u v rows0 rows D j c)(Z:c≠n):∃b x:Nat,gI bf c=(b:Int)/\b<=n/\x<j/\Fl C n i most u v rows0 (rows.set c (gI rows b)) D x b:=by
 have hj:0<j:=by
  rcases cE j with e|e
  .have g:=h.jc;rw [e,<-List.head?_eq_getElem?,w.hd]at g;exact absurd (Option.some.inj g).symm Z
  .exact e
 have H:c<=n:=w.le c (fP h.jc);obtain⟨b,F,S,V,W⟩:=w.ed j c hj h.jc;obtain⟨x,I,P⟩:=dV.1 F;rw [aI]at I;rw [iP]at P;have y:D[x]? = some b:=by rw [aF O,P]
 have m:b<=n:=w.le b (eR F);have p:b≠c:=λe=>by have g:=h.jc;rw [<-e,<-y]at g;have:=(lE O w.nd).1 g.symm;omega
 have s:=λk=>Qy rows c k (gI rows b) (by rw [h.lr];omega);have G:gI rows b=gI rows0 b:=h.sm b (eR (i:=j) (by rw [jV,dZ (Nat.le_succ j)];exact F));refine⟨b,x,S,m,O,by rw [aS,h.lr],y,λk o=>?_,λk o=>?_,λr hr=>?_,λk l o B z N a e=>?_,λk o z a=>?_⟩
 .-- those ahead of b are as they were
  have M:k∈D.take (j+1):=eR (i:=x+1) (by rw [jV,dZ O];exact o);rw [s,aG (show k≠c from λe=>?_)]
  .exact h.sm k M
  .subst e;obtain⟨l,B,Q⟩:=dV.1 o;rw [aI]at B;rw [iP]at Q;have g:D[l]? = D[j]?:=by rw [h.jc,aF O,Q]
   have:=(lE O w.nd).1 g;omega
 .rw [s];split
  .exact h.lt b m
  .exact h.lt k o
 .obtain⟨k,g,Y,R⟩:=h.on r hr;by_cases e:k=b
  .subst e;exact⟨c,H,λe=>p e.symm,by rw [s,aK rfl];exact R⟩
  .exact⟨k,g,e,by rw [s,aG Y];exact R⟩
 .rw [s]at a e;rw [s]at e;by_cases f:k=c
  .rw [aK f]at e a;by_cases t:l=c
   .omega
   .rw [aG t]at e;exact absurd (h.inj b l m B p t a e).symm N
  .rw [aG f]at e a;by_cases t:l=c
   .rw [aK t]at e;exact absurd (h.inj k b o m f p a e) z
   .rw [aG t]at e;exact h.inj k l o B f t a e
 .rw [s]at a ⊢;by_cases f:k=c
  .rw [aK f]at a ⊢;rw [f,G];exact⟨V,W⟩
  .rw [aG f]at a ⊢;exact h.ti k o f a
theorem fl_end(h:Fl C n i most u v rows0 rows D j n):Mw C n (i+1) most u v rows:=
 ⟨h.lr,λk b=>by have:=h.lt k O;omega,λk l b o a e=>h.inj k l O O O O a e,λr p=>by obtain⟨k,g,m,f⟩:=h.on r O;exact⟨k,O,f⟩,λk b a=>h.ti k b O a⟩
theorem Mw.rw(h:Mw C n i most u v rows):Rw C n most u v (rows.set n (i:Int)) i:=by
 have o:=λk=>Qy rows n k (i:Int) (by rw [h.lr];omega);have f:∀k,k<n->gI (rows.set n (i:Int)) k=gI rows k:=λk a=>by rw [o,aG O]
 refine⟨by rw [aS,h.lr],by rw [o,aK rfl],λk a=>by rw [f k a];exact h.lt k a,λk l a m b e=>?_,λr s=>?_,λk a b=>?_⟩
 .rw [f k a]at b e;rw [f l m]at e;exact h.inj k l a m b e
 .obtain⟨k,g,p⟩:=h.on r s;exact⟨k,g,by rw [f k g];exact p⟩
 .rw [f k a]at b ⊢;exact h.ti k a b
end
end Go.Sky
namespace Go.Sky
variable{k:Nat}{d:List Nat}{P:Nat->Nat}
structure Ph (C:List (List Int)) (n i:Nat) (most:Int) (u v rows:List Int) (S:Int):Prop where
 hu:Hu C n most u v S
 mw:Mw C n i most u v rows
structure Tp (C:List (List Int)) (n i:Nat) (most:Int) (u v rows bf ds:List Int) (dl:List Nat) (col:Nat) (S:Int):Prop where
 nx:Nx C n i most u v rows bf ds dl col S
 hr:∀k∈dl ++ [col],0<=gI rows k
theorem Zey{n:Nat}{x:Int} : cU (List.replicate n x) k=if k<n then x else 0:=by unfold cU;rw [aA,cT];split<;>rfl
theorem Zjk{n:Nat}{x:Int} : gI (List.replicate n x) k=if k<n then x else -1:=by unfold gI;rw [aA,cT];split<;>rfl
section
variable {C:List (List Int)} {n i:Nat} {most:Int}
theorem ph_0(a:∀r k,r<n->k<n->0<=cC C r k):Ph C n 0 most (List.replicate n 0) (List.replicate (n+1) 0) (List.replicate (n+1) (-1)) 0:=by
 have z:∀m k:Nat,cU (List.replicate m 0) k=0:=λm k=>by rw [Zey];split<;>rfl
 have w:∀m k:Nat,gI (List.replicate m (-1)) k=-1:=λm k=>by rw [Zjk];split<;>rfl
 refine⟨⟨O6,O6,λr k c b _=>by rw [z,z];exact a r k c b,λr _=>by rw [z];omega,λk _=>by rw [z];omega,?_⟩,⟨O6,λk _=>by rw [w];omega,λk l _ _ h=>by rw [w]at h;omega,λr h=>absurd h (aZ r),λk _ h=>by rw [w]at h;omega⟩⟩;rw [Pn λk _=>z n k,Pn λk _=>z (n+1) k];rfl
theorem tp_0{u v c:List Int}{S:Int}(h:Ph C n i most u v c S):Tp C n i most u v (c.set n (i:Int)) (List.replicate n 0) (List.replicate n Mm) [] n S:=by
 have f:=h.mw.rw;refine⟨⟨h.hu,f,⟨O6,λk a=>by simp at a;omega,rfl,λk a=>by simp at a,λj k l a=>?_⟩,λk a _=>?_,O6,O6⟩,λk a=>by simp at a;subst a;rw [f.hn];omega⟩
 .rw [bL (by simp;omega)]at a;cases a
 .have e:cU (List.replicate n Mm) k=Mm:=by rw [Zey,aK a]
  exact⟨by rw [e];decide,λh=>by rw [e]at h;exact absurd h (Int.lt_irrefl _),λb g=>by cases g⟩
variable {u v rows bf ds:List Int} {dl:List Nat} {col q:Nat} {S ls:Int}
theorem Zle(h:Nx C n i most u v rows bf ds d q S)(b:∀k∈d,0<=gI rows k)(c:0<=gI rows q):Tp C n i most u v rows bf ds d q S:=
 ⟨h,λk a=>by
  rcases bG.1 a with a|a
  .exact b k a
  .rw [aY.1 a];exact c⟩
theorem tp_len(h:Tp C n i most u v rows bf ds dl col S):dl.length<n+1:=by have:=fA (l₁:=dl ++ [col]) (l₂:=List.range (n+1)) h.nx.tw.nd λk a=>bR.2 (iS (h.nx.tw.le k a));simp at this;omega
theorem Zlm(hi:i<n)(H:most+S<Mm)(h:Tp C n i most u v rows bf ds dl col S){l a:List Int}{y:Int}(p:Sc C n most u v rows dl col bf l a n n y ls)(F:Pa C n most P):∃q:Nat,y=(q:Int)/\q<n/\q ∉ dl ++ [col]/\ls=cU a q/\0<=ls/\ls<Mm:=by
 rcases p.nx with⟨t,z,c⟩|⟨q,t,z,c,w,x,B,G⟩
 .exfalso;have D:n∈dl ++ [col]:=jQ h.nx.tw.hd;obtain⟨b,o,k,g,j,f⟩:=Zl6 hi h.nx.rw h.nx.tw.nd h.nx.tw.le D h.hr F;have m:=(p.a k g g j).le b o f;rw [c k g g j]at m;obtain⟨r,e,s⟩:=Er hi h.nx.rw (h.nx.tw.le b o) (h.hr b o);rw [e,bW]at m f;have:=h.nx.hu.un r s;have:=h.nx.hu.vn k g;unfold Hz at m;omega
 .exact⟨q,t,c,w,x,by rw [x];exact(p.a q c c w).nn.1,B⟩
theorem Zim(h:Ph C n n most u v rows S):∃Q:Nat->Nat,Pa C n most Q/\(∀r,r<n->gI rows (Q r)=(r:Int))/\asS C Q n=S:=by
 have o:∀r,∃k,r<n->k<n/\gI rows k=(r:Int):=λr=>by
  by_cases c:r<n
  .obtain⟨k,f,g⟩:=h.mw.on r c;exact⟨k,λ_=>⟨f,g⟩⟩
  .exact⟨0,λh=>absurd h c⟩
 obtain⟨Q,j⟩:=Classical.axiomOfChoice o;have m:∀r,r<n->cC C r (Q r)<=most/\Hz C u v r (Q r)=0:=λr c=>by obtain⟨f,g⟩:=j r c;have:=h.mw.ti (Q r) f O;rwa [g,bW]at this
 have l:Pa C n most Q:=⟨λr c=>(j r c).1,λa b p s e=>by have f:=(j a p).2;have g:=(j b s).2;rw [e,g]at f;omega,λr c=>(m r c).1⟩
 exact⟨Q,l,λr c=>(j r c).2,by
  have:=Zm3 (u:=u) (v:=v) l λr c=>by have:=(m r c).2;unfold Hz at this;omega
  rw [h.hu.sm]at this;exact this.symm⟩
def Zl2(h:Ph C n n most u v rows S)(a:Pa C n most P):S<=asS C P n:=h.hu.le a
end
end Go.Sky
namespace Go.Sky
variable{c:Int}{k:Nat}
def Lj(a b:List Yw):Bool:=decide (0<a.length) && (decide (a.length=b.length) && (a.all ptT && b.all ptT))
section
variable {a b:List Yw}
theorem Zfi(h:¬0<a.length):Lj a b=false:=by unfold Lj;rw [aO h];rfl
theorem Zfh(h:a.length≠b.length):Lj a b=false:=by unfold Lj;rw [aO h];simp
theorem Zfg(h:a.all ptT=false):Lj a b=false:=by unfold Lj;rw [h];simp
theorem Zff(d:0<a.length)(h:a.length=b.length)(e:a.all ptT=true):Lj a b=b.all ptT:=by unfold Lj;rw [aQ d,aQ h,e];rfl
theorem Zcw(h:Lj a b=true):0<a.length/\a.length=b.length/\(∀i,i<a.length->ptT (a.getD i Oa)=true)/\∀i,i<b.length->ptT (b.getD i Oa)=true:=by unfold Lj at h;simp only [bH,cD,dG]at h;exact⟨h.1,h.2.1,λi hi=>h.2.2.1 _ (Ym _ hi),λi hi=>h.2.2.2 _ (Ym _ hi)⟩
end
def rpL(c:Int)(n k:Nat):List Int:=List.replicate k c ++ List.replicate (n-k) 0
theorem Ku{n:Nat}(h:k<=n):(rpL c n k).length=n:=by unfold rpL;simp;omega
theorem rpL_1{n:Nat}(h:1<=n):spl (List.replicate n (0:Int)) 0 [c]=rpL c n 1:=by obtain⟨m,rfl⟩:∃m,n=m+1:=⟨n-1,O⟩;rfl
theorem rpL_n(c:Int)(n:Nat):rpL c n n=List.replicate n c:=by unfold rpL;simp
theorem Zie{n m:Nat}(h:m<=k):(rpL c n k).take m=List.replicate m c:=by unfold rpL;rw [fC (by simpa using h),kG,dZ h]
theorem rpL_s{n m:Nat}(h:m=min (n-k) k)(g:k<=n):spl (rpL c n k) k ((List.replicate k c).take m)=rpL c n (k+m):=by
 rw [kG,dZ O];unfold spl rpL;rw [List.take_left' O6,bJ];have e:(List.replicate k c ++ List.replicate (n-k) 0).drop (k+m)=List.replicate (n-(k+m)) 0:=by
  rw [List.drop_append,kH,kH];have d:k-(k+m)=0:=O;have f:n-k-(k+m-(List.replicate k c).length)=n-(k+m):=by rw [bJ];omega
  rw [d,f];rfl
 rw [e,List.replicate_append_replicate]
end Go.Sky
namespace Go.Sky
open Go.Proofs
def pPt:Enc Try.prog 38 3 Qt:=Enc.agg O3 Try.sizeOf38 Try.isAgg38 (λx=>⟨[.int .i64 x.1,.int .i64 x.2.1,.int .i64 x.2.2],rfl,rfl,by simp [Value.oneCell']⟩)
@[reducible,instance] def encPtI:EncT Try.prog 38 3 Qt:=⟨pPt⟩
end Go.Sky

