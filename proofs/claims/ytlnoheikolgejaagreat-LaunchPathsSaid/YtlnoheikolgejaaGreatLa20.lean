/- Rules, arithmetic and contracts: part 21. No conditions but those that each theorem names. -/
import Derived.Laws.Pointers
import Derived.Test.YtlnoheikolgejaaGreatLa19
set_option linter.all false
set_option maxHeartbeats 4000000
namespace Go.Sky
open Go.RowKit Below
variable{w W:World}{Hn:Hp}
variable {P:Program} {N:Nat} {sc:Nat->Prop} {env env':Xz} {H H':Hp} {Q Q':Exit->Act->World->Prop} {ds:List Nat}
def kp(W:World)(T:Nat->Prop):Pc:=
 {own:=true,fp:=T,holds:=λw=>(∀b,T b->b<w.heap.size)/\∀b,T b->w.heap[b]? = W.heap[b]?
  lt:=λw b h a=>h.1 b a
  stable:=λw e h c=>⟨λb a=>cZ (h.1 b a) c.size,λb a=>(c.block b (h.1 b a) (λd=>d a)).trans (h.2 b a)⟩ }
def YJK(P:Program)(l:Nat)(M:Nat->Prop)(J:Nat->(Nat->Prop)->World->Prop){α:Type}(xs:List α)(ys:α->List Value):Prop:=
 ∀k x T W,xs[k]? = some x->J k T W->YieldAt Fence.wide 0 P l (ys x).toArray W λe c=>e= .returned (.bool true)/\Chg (λb=>M b\/T b\/W.heap.size<=b) W c/\∃a,(∀b,T b->a b)/\(∀b,a b->T b\/W.heap.size<=b)/\J (k+1) a c
structure StK (n:Nat) (J:Nat->(Nat->Prop)->World->Prop):Prop where
 stay:∀k T W W',J k T W->Chg (λb=>n<=b/\¬T b) W W'->J k T W'
 lt:∀k T W,J k T W->n<=W.heap.size/\∀b,T b->n<=b/\b<W.heap.size
def CalK(P:Program)(f:FuncId)(c:List Value)(a:List Pc){α:Type}(xs:List α)(ys:α->List Value):Prop:=
 ∀(l:Nat) (M:Nat->Prop) (J:Nat->(Nat->Prop)->World->Prop) (w:World),
  (∀p∈a,p.holds w)->(∀p∈a,∀b,p.fp b->¬M b)->(∀b,M b->b<w.heap.size)->StK w.heap.size J->J 0 (λ_=>False) w->YJK P l M J xs ys->
  Calls P f (.func (.yield l) #[] #[]::c).toArray w λe d=>(∃v,e= .returned v)/\∃T,J xs.length T d
def FPostJ(P:Program)(fn:Func)(n:Nat)(J:Nat->(Nat->Prop)->World->Prop):Exit->Act->World->Prop:=
 bodyPostM Fence.wide 0 P fn λe a=>(∃v,e= .returned v)/\∃T,J n T a
abbrev kO (n:Nat) (M:Nat->Prop) (W:World):Pc:=Yt W (λb=>n<=b\/M b)
abbrev kT (M T:Nat->Prop) (W:World):Pc:=kp W (λb=>M b\/T b)
abbrev noT:Nat->Prop:=λ_=>False
structure HwA:Prop where h:∀{w:World} (b:Nat),w.heap.size<=b->True
def LR(P:Program)(N:Nat)(sc:Nat->Prop)(r:Nat)(ops:Array Oper)(b:List Oper)(Q:Exit->Act->World->Prop)(env:Xz)(H:Hp):Prop:=
 ∀a w,Sat N sc env H a w->wpListIn (Fence.wide.inRound r) 0 P ops Q b a w
structure Kpt (sc:Nat->Prop) (w:World) (H:Hp) (T:Nat->Prop) (Hn:Hp) (W:World):Prop where
 hold:∀i it,lk Hn i=some it->it.holds W
 sep:∀i j it jt,i≠j->lk Hn i=some it->lk Hn j=some jt->it.own=true->∀b,it.fp b->jt.fp b->False
 scope:∀i it,i≠0->lk Hn i=some it->∀b,it.fp b->sc b
 off:∀i it,lk Hn i=some it->∀b,it.fp b->b<w.heap.size\/T b
 mf:∀i it,lk Hn i=some it->it.own=true->∀b,it.fp b->(∃i q,lk H i=some q/\q.own=true/\q.fp b)\/T b
theorem Kpt.chg{T:Nat->Prop}{d:World}(h:Kpt sc w H T Hn W)(a:Chg (λb=>w.heap.size<=b/\¬T b) W d):Kpt sc w H T Hn d:=
 ⟨λi c hi=>c.stable _ _ (h.hold i c hi) ⟨a.os,a.tape,a.output,a.size,λk f g=>a.block k f (λe=>by
  rcases h.off i c hi k (fO.1 g)with h|h
  .omega
  .exact e.2 h)⟩,h.sep,h.scope,h.off,h.mf⟩
def Kpt.sat{T:Nat->Prop}{a:Act}(h:Kpt sc w H T Hn W)(b:a.tmps.size=N)(c:a.defers=[])(d:∀t v,lk env t=some v->a.tmps.getD t undef=v):Sat N sc env Hn a W:=⟨b,c,d,h.hold,h.sep,h.scope⟩
def RBk(N:Nat)(sc:Nat->Prop)(h S:Nat->Prop){c:Type}(g:c->Hp)(b:c->Prop)(d:World):Exit->Act->World->Prop:=λe a W=>
 e= .normal/\∃f,b f/\∃env',Sat N sc env' ((92,Yt d h)::(94,kp d S)::g f) a W
def RAk(P:Program)(N:Nat)(sc:Nat->Prop)(l:Nat)(d S:Nat->Prop)(body:Code){h:Type}(j:h->Hp)(g:h->Prop)(i:World):Exit->Act->World->Prop:=λe a W=>
 e= .normal/\∃b c,lk c 92=none/\lk c 94=none/\Sat N sc b ((92,Yt i d)::(94,kp i S)::c) a W/\
  ∀f,∀a W,Sat N sc b ((92,Yt f d)::(94,kp f S)::c) a W->body.wpIn (Fence.wide.inRound l) 0 P (RBk N sc d S j g f) a W
def JnG{G:Type}(N:Nat)(sc:Nat->Prop)(ds:List Nat)(cs:Xz)(d:Hp)(f:G->Xz)(e:G->Hp)(b:G->Prop):Act->World->Prop:=
 λa w=>∃g,b g/\∃c,a=ap ds c/\Sat N sc (f g ++ cs) (e g ++ d) c w
end Go.Sky
namespace Go.Sky
section
variable {P:Program} {N:Nat} {sc:Nat->Prop} {env:Xz} {H:Hp}
end
end Go.Sky
namespace Go.Sky
abbrev PgT:=SL×List Pf
abbrev qPg (z:PgT):Pc:=Yg 3 Ll (Xw z.1) z.2
abbrev Pg0:PgT:=((none,0,0),[])
def nmB(e:Pf×Pf)(a:List Pf):Bool:=(Zgg a).all λc=>!mtlB e.1 e.2 c.1 c.2
def ekB(o:List Pf)(a:List (List Pf))(e:Pf×Pf):Bool:=decide (0<=atL o e.1) && a.all (nmB e)
def holeB(o:List Pf)(hs:List PgT)(i:Nat):Bool:=smpB (hs.getD i Pg0).2 && (Zgg (hs.getD i Pg0).2).all (ekB o (o::(hs.take i).map Prod.snd))
def farB(hs:List PgT)(i k:Nat):Bool:=decide (i=k) || decide (atL (hs.getD k Pg0).2 ((hs.getD i Pg0).2.getD 0 Fr)<0)
def fncB(o:List Pf)(hs:List PgT)(lo hi:Int):Bool:=
 smpB o && (decide (hs.length<=16/\-1048576<=lo/\hi<=1048576/\lo<=hi) && ((List.range hs.length).all (holeB o hs) && (List.range hs.length).all λi=>(List.range hs.length).all (farB hs i)))
section
variable {o:List Pf} {hs:List PgT} {lo hi:Int} {so:SL} {i k:Nat} {e:Pf×Pf}
def EkI(o:List Pf)(a:List (List Pf))(b:List (Pf×Pf))(k:Nat):Prop:=∀j e,j<k->b[j]? = some e->ekB o a e=true
def NmI(e:Pf×Pf)(a:List (Pf×Pf))(k:Nat):Prop:=∀j c,j<k->a[j]? = some c->mtlB e.1 e.2 c.1 c.2=false
end
def inB(b:List Pf)(a:List PgT)(q:Pf):Bool:=decide (atL b q>=0) && !(a.any λz=>decide (atL z.2 q>0))
def insF(c:List Pf)(b:List PgT)(fl a:Int)(q:Pf):Bool:=decide (q.2.2>=fl) && (decide (q.2.2<=a) && inB c b q)
section
variable {po:List Pf} {ph:List PgT} {fl fu:Int} {q:Pf}
end
end Go.Sky
namespace Go.Sky
def alg(a b p:Pf):Int:=(b.1-a.1)*(p.1-a.1)+(b.2.1-a.2.1)*(p.2.1-a.2.1)
def sq2(a b:Pf):Int:=(b.1-a.1)*(b.1-a.1)+(b.2.1-a.2.1)*(b.2.1-a.2.1)
def dst(a p:Pf):Int:=(p.1-a.1)*(p.1-a.1)+(p.2.1-a.2.1)*(p.2.1-a.2.1)
def crd(a b p:Pf):Int:=(b.1-a.1)*(p.2.1-a.2.1)-(b.2.1-a.2.1)*(p.1-a.1)
abbrev rnP (x y:Int):Int×Int:=(Hi x y,Ij x y)
def dqr(a b p:Pf):Int×Int:=if 0<alg a b p/\alg a b p<sq2 a b then(crd a b p*crd a b p,sq2 a b)else if sq2 a b<=alg a b p then(dst b p,1)else(dst a p,1)
def dqF(a b p:Pf):Int×Int:=rnP (dqr a b p).1 (dqr a b p).2
section
variable {a b p:Pf}
structure D2B (a b p:Pf):Prop where
 x:-2097152<=b.1-a.1/\b.1-a.1<=2097152
 y:-2097152<=b.2.1-a.2.1/\b.2.1-a.2.1<=2097152
 u:-2097152<=p.1-a.1/\p.1-a.1<=2097152
 v:-2097152<=p.2.1-a.2.1/\p.2.1-a.2.1<=2097152
 s:-2097152<=p.1-b.1/\p.1-b.1<=2097152
 t:-2097152<=p.2.1-b.2.1/\p.2.1-b.2.1<=2097152
end
def mnq(b q:Int×Int):Int×Int:=if b.2=0\/q.1*b.2-b.1*q.2<0 then q else b
def d2F(p:Pf)(c:List (Pf×Pf)):Int×Int:=c.foldl (λb e=>mnq b (dqF e.1 e.2 p)) (0,0)
structure QIn (b:Int×Int):Prop where
 n:bl b.1.natAbs<=88
 d:bl b.2.natAbs<=44
 p:0<=b.2
end Go.Sky
namespace Go.Sky
section
variable {P:Program} {N:Nat} {sc:Nat->Prop} {env:Xz} {H:Hp}
def OwV(v:Value)(n:Nat):Prop:=∃g c,v= .slice (some ⟨g,0,none⟩) n c/\n<=c
instance hwT {a:World} : Hw a (λ_=>True):=⟨λ_ _=>trivial⟩
end
def sw2(l:List Pf)(a b:Nat):List Pf:=(l.set a (l.getD b Fr)).set b (l.getD a Fr)
def rev1(xs:List Pf):List Pf:=(List.range xs.length).map λp=>xs.getD ((xs.length-p)%xs.length) Fr
structure RvT (xs:List Pf) (i:Nat) (l:List Pf):Prop where
 len:l.length=xs.length
 at':∀p,p<xs.length->l.getD p Fr=if 1<=p/\(p<=i\/xs.length-p<=i)then xs.getD (xs.length-p) Fr else xs.getD p Fr
def orL(i:Nat)(l:List Pf):List Pf:=if(decide (0<ar2 (Zgg l)) != decide ((i:Int)=0))=true then rev1 l else l
def rgE(a:List PgT)(i:Nat):List (Pf×Pf):=Zgg (orL i (a.getD i Pg0).2)
def allE(a:List PgT)(n:Nat):List (Pf×Pf):=(List.range n).flatMap (rgE a)
end Go.Sky
namespace Go.Sky
open Go.RowKit Below
variable {P:Program} {N:Nat} {sc:Nat->Prop} {env env':Xz} {H H':Hp} {Q Q':Exit->Act->World->Prop} {M:Nat->Prop}
def pj(p q:Pc):Pc:=
 {own:=true,fp:=λc=>p.fp c\/q.fp c,holds:=λw=>p.holds w/\q.holds w/\∀c,p.fp c->q.fp c->False
  lt:=λw c h a=>a.elim (p.lt w c h.1) (q.lt w c h.2.1)
  stable:=λw g h a=>⟨p.stable w g h.1 ⟨a.os,a.tape,a.output,a.size,λk d e=>a.block k d (λb=>e (λf=>b (.inl f)))⟩,
   q.stable w g h.2.1 ⟨a.os,a.tape,a.output,a.size,λk d e=>a.block k d (λb=>e (λf=>b (.inr f)))⟩,h.2.2⟩ }
theorem Bk{p q:Pc}(i j:Nat)(hi:lk H i=some (pj p q))(y:Nat.beq i 0=false)(z:Nat.beq i j=false) :
  ∀a w,Sat N sc env H a w->Sat N sc env ((i,p)::(j,q)::drp i H) a w:=λa w hs=>by
 have S:i≠j:=λe=>by subst e;simp at z
 have F:i≠0:=λe=>by subst e;simp at y
 obtain⟨R,V,G⟩:=hs.hold i _ hi;have o:∀m r,lk ((i,p)::(j,q)::drp i H) m=some r->(m=i/\r=p)\/(m=j/\r=q)\/(m≠i/\lk H m=some r):=λm r d=>by
  by_cases s:i=m
  .subst s;rw [Zv]at d;cases d;exact .inl ⟨rfl,rfl⟩
  .rw [Zm s]at d;by_cases g:j=m
   .subst g;rw [Zv]at d;cases d;exact .inr (.inl ⟨rfl,rfl⟩)
   .rw [Zm g]at d;exact .inr (.inr (Ih _ _ _ _ d))
 refine⟨hs.size,hs.defers,hs.env,λm r d=>?_,λm t r u n d l D c f b=>?_,λm r B d c f=>?_⟩
 .rcases o m r d with⟨_,rfl⟩|⟨_,rfl⟩|⟨_,h⟩
  .exact R
  .exact V
  .exact hs.hold m r h
 .rcases o m r d with⟨x,rfl⟩|⟨x,rfl⟩|⟨I,s⟩
  .rcases o t u l with⟨k,rfl⟩|⟨k,rfl⟩|⟨v,g⟩
   .exact n (x.trans k.symm)
   .exact G c f b
   .exact hs.sep i t _ u (gR v) hi g rfl c (.inl f) b
  .rcases o t u l with⟨k,rfl⟩|⟨k,rfl⟩|⟨v,g⟩
   .exact G c b f
   .exact n (x.trans k.symm)
   .exact hs.sep i t _ u (gR v) hi g rfl c (.inr f) b
  .rcases o t u l with⟨k,rfl⟩|⟨k,rfl⟩|⟨v,g⟩
   .exact hs.sep m i r _ I s hi D c f (.inl b)
   .exact hs.sep m i r _ I s hi D c f (.inr b)
   .exact hs.sep m t r u n s g D c f b
 .rcases o m r d with⟨_,rfl⟩|⟨_,rfl⟩|⟨_,h⟩
  .exact hs.scope i _ F hi c (.inl f)
  .exact hs.scope i _ F hi c (.inr f)
  .exact hs.scope m r B h c f
theorem My{p q:Pc}(i j:Nat)(hi:lk H i=some p)(n:lk H j=some q)(t:p.own=true)(R:q.own=true)(z:Nat.beq i 0=false)(B:Nat.beq i j=false)(D:Nat.beq j 0=false) :
  ∀a w,Sat N sc env H a w->Sat N sc env ((i,pj p q)::drp j (drp i H)) a w:=λa w hs=>by
 have G:i≠j:=λe=>by subst e;simp at B
 have Z:i≠0:=λe=>by subst e;simp at z
 have y:j≠0:=λe=>by subst e;simp at D
 have l:∀m r,lk ((i,pj p q)::drp j (drp i H)) m=some r->(m=i/\r=pj p q)\/(m≠i/\m≠j/\lk H m=some r):=λm r f=>by
  by_cases g:i=m
  .subst g;rw [Zv]at f;cases f;exact .inl ⟨rfl,rfl⟩
  .rw [Zm g]at f;obtain⟨k,f⟩:=Ih _ _ _ _ f;obtain⟨h3,f⟩:=Ih _ _ _ _ f;exact .inr ⟨h3,k,f⟩
 refine⟨hs.size,hs.defers,hs.env,λm r f=>?_,λm u r x s f o I c d b=>?_,λm r F f c d=>?_⟩
 .rcases l m r f with⟨_,rfl⟩|⟨_,_,h⟩
  .exact⟨hs.hold i _ hi,hs.hold j _ n,λc d b=>hs.sep i j _ _ G hi n t c d b⟩
  .exact hs.hold m r h
 .rcases l m r f with⟨Y,rfl⟩|⟨n1,S,g⟩
  .rcases l u x o with⟨V,rfl⟩|⟨W,v,k⟩
   .exact s (Y.trans V.symm)
   .rcases d with d|d
    .exact hs.sep i u _ x (gR W) hi k t c d b
    .exact hs.sep j u _ x (gR v) n k R c d b
  .rcases l u x o with⟨V,rfl⟩|⟨W,v,k⟩
   .rcases b with b|b
    .exact hs.sep m i r _ n1 g hi I c d b
    .exact hs.sep m j r _ S g n I c d b
   .exact hs.sep m u r x s g k I c d b
 .rcases l m r f with⟨_,rfl⟩|⟨_,_,h⟩
  .rcases d with d|d
   .exact hs.scope i _ Z hi c d
   .exact hs.scope j _ y n c d
  .exact hs.scope m r F h c d
abbrev LT:=SL×List Int
abbrev LT0:LT:=((none,0,0),[])
abbrev qL (z:LT):Pc:=Yg 1 Zz (Xw z.1) z.2
end Go.Sky
namespace Go.Sky
open Go.Proofs
set_option synthInstance.maxHeartbeats 0
set_option synthInstance.maxSize 100000
set_option maxRecDepth 20000
set_option linter.unusedSimpArgs false
variable{v:Value}{r:SL×SL×SL}{x:Int}
theorem Ybt(b t:Nat)(y:SL)(d:List PPT)(z:ZnT)(u:List (LkT×Value))(n:OkL d z)(m:CkI d z u)(a i c k:Nat)(o:a<d.length)(hi:i<(d.getD a Fy).2.length)(p:c<d.length)(q:k<(d.getD c Fy).2.length):Zth Tryz.prog 207 #[.pointer (some ⟨b,0,none⟩),.agg #[.int .i64 (a:Int),.int .i64 (i:Int),.int .i64 (c:Int),.int .i64 (k:Int)]] [Qh 1 Zes qPP (Xw y) d] (pj (box b 130 #[Xw y,.int .i64 z.1,.int .i64 z.2.1,.int .i64 z.2.2.1,.int .i64 z.2.2.2,.map (some t)]) (mpk t u)) (G:=List (LkT×Value)) (λg=>CkI d z g) (λg=> .tuple #[.bool (apO d z a i c k).1,.int .i64 (apO d z a i c k).2]) (λg=>pj (box b 130 #[Xw y,.int .i64 z.1,.int .i64 z.2.1,.int .i64 z.2.2.1,.int .i64 z.2.2.2,.map (some t)]) (mpk t g)):=by
 refine Ze1 Tryz.func207 rfl Tryz.ntmps207 rfl ⟨rfl,aA⟩ ?_;intro Q P s h;have s:=Hw.mk s;simp only [Qd,Yr];refine Zl (Bk 1 62 rfl rfl rfl) ?_;refine Zl (env':=[(0,_),(1,_)]) (H':=[(1,_),(62,_),(0,_),(2,_)]) (λa w hs=>hs.weaken ⟨rfl,rfl,aA⟩ ⟨rfl,rfl,rfl,rfl,aA⟩) ?_;refine go 2 ?_;refine Ym (Yj 3) λM _=>?_;refine go 6 ?_;rcases Ybi m a i c k with⟨H,B⟩|B
 .refine Oj [1,3,62] [11] ?_;refine Ya 0 [(0,0),(1,0),(2,0),(3,0),(4,0),(5,0),(6,0),(7,0),(8,0),(9,1),(10,1),(11,3)] ?_;refine go 5 ?_;refine Xp rfl rfl (Eo (Zy ( .tuple #[.agg #[.bool false,.int .i64 0],.bool false]) (d_mlk 62 ((a:Int),(i:Int),(c:Int),(k:Int)) rfl rfl rfl rfl rfl Tryz.underlying128 k4L zvSn) B) ⟨rfl,rfl,rfl,aA⟩) ?_;refine go 3 ?_;refine Xq (Ii 4) λD N=>?_;refine go 3 ?_;refine Yu ?_;refine go 10 ?_;refine Zl (Ht 2 41 (d.getD a Fy) rfl rfl (Zk o) rfl) ?_;refine Zl (Ht 2 42 (d.getD c Fy) rfl rfl (Zk p) rfl) ?_;refine Zl (Ht 41 51 ((d.getD a Fy).2.getD i PT0) rfl rfl (Zk hi) rfl) ?_;refine Zl (Ht 42 52 ((d.getD c Fy).2.getD k PT0) rfl rfl (Zk q) rfl) ?_;have j:=n.at o hi;have l:=n.at p q;refine Qj (λ_=>False) [(0,0),(1,0),(2,0),(3,0),(4,0),(5,0),(6,0),(7,0),(8,0),(9,0),(10,0),(11,0),(12,0),(13,0),(14,0),(15,0),(16,0),(17,0),(18,0),(19,0),(20,0),(21,0),(22,0),(23,0),(24,0),(25,3)] ?_;refine go 6 ?_;refine Xp rfl rfl (Qv (Yh 2 a rfl rfl rfl rfl Zp Tryz.underlying38 Tryz.sizeOf27 rfl o)) ?_;refine Xp rfl rfl (Qv (Po 2 Fy rfl rfl rfl Zp pPPq o)) ?_;refine go 2 ?_;refine Xp rfl rfl (Qv (Yh 41 i rfl rfl rfl rfl Zp Tryz.underlying27 Tryz.sizeOf36 rfl hi)) ?_;refine Xp rfl rfl (Qv (Po 41 PT0 rfl rfl rfl Zp pPq hi)) ?_;refine go 6 ?_;refine Xp rfl rfl (Qv (Yh 2 c rfl rfl rfl rfl Zp Tryz.underlying38 Tryz.sizeOf27 rfl p)) ?_;refine Xp rfl rfl (Qv (Po 2 Fy rfl rfl rfl Zp pPPq p)) ?_;refine go 2 ?_;refine Xp rfl rfl (Qv (Yh 42 k rfl rfl rfl rfl Zp Tryz.underlying27 Tryz.sizeOf36 rfl q)) ?_;refine Xp rfl rfl (Qv (Po 42 PT0 rfl rfl rfl Zp pPq q)) ?_;refine go 12 ?_;refine cl 4 [51,52] (Zz4 (opt d a i) (opt d c k) z.1 j.1 l.1 j.2.1 l.2.1 j.2.2 l.2.2 n.d) λ_ _=>?_;refine go 13 ?_;refine Pr rfl (λe=>?_) (λe=>?_)
  .have e:=e;refine go 7 ?_;refine cl 4 [51,52] (Ydd (opt d a i) (opt d c k) z.2.1 z.2.2.1 z.2.2.2 j.1 l.1 j.2.1 l.2.1 j.2.2 l.2.2 n.z) λ_ _=>?_;refine go 8 ?_;refine Qj (λ_=>False) [(0,0),(1,0),(2,0),(3,0),(4,0),(5,0),(6,0),(7,0),(8,3)] ?_;refine go 7 ?_;refine Xp rfl rfl (Qv (Xv [(0,_),(1,_)] rfl ⟨rfl,rfl,rfl,rfl,aA⟩ (λa w hs=>Zwi ((Ze rfl) a w hs) ((Ze rfl) a w hs)))) ?_;refine r3' rfl (t_muk 62 ((a:Int),(i:Int),(c:Int),(k:Int)) rfl rfl rfl rfl rfl rfl rfl H Tryz.underlying128 k4L rfl s.h aA) (λ_ _=>?_);refine go 11 ?_;have f:apO d z a i c k=_:=apA_t e;refine Zr (My 1 62 rfl rfl rfl rfl rfl rfl rfl) ?_;refine Zr (env':=[(0,_),(1,_),(3,_),(4,_),(5,_),(13,_),(14,_),(15,_),(16,_),(17,_),(18,_),(12,_),(19,_),(20,_),(6,_),(7,_),(21,_),(26,_),(27,_),(28,_),(29,_),(30,_),(31,_),(32,_),(33,_),(34,_),(35,_),(36,_),(37,_),(38,_),(39,_),(40,_),(41,_),(42,_),(43,_),(44,_),(45,_),(46,_),(47,_),(48,_),(49,_),(8,_),(9,_),(51,_),(52,_),(53,_),(54,_),(55,_),(56,_),(57,_),(50,_),(58,_),(59,_),(10,_),(11,_),(60,_),(62,_),(63,_),(64,_),(65,_),(66,_),(67,_),(68,_),(61,_),(69,_),(70,_),(71,_),(72,_),(73,_),(74,_),(75,_),(76,_),(77,_),(78,_),(79,_),(80,_)]) (H':=[(1,_),(0,_),(2,_),(3,_),(4,_),(41,_),(42,_),(51,_),(52,_)]) (λa w hs=>hs.weaken ⟨rfl,rfl,rfl,rfl,rfl,rfl,rfl,rfl,rfl,rfl,rfl,rfl,rfl,rfl,rfl,rfl,rfl,rfl,rfl,rfl,rfl,rfl,rfl,rfl,rfl,rfl,rfl,rfl,rfl,rfl,rfl,rfl,rfl,rfl,rfl,rfl,rfl,rfl,rfl,rfl,rfl,rfl,rfl,rfl,rfl,rfl,rfl,rfl,rfl,rfl,rfl,rfl,rfl,rfl,rfl,rfl,rfl,rfl,rfl,rfl,rfl,rfl,rfl,rfl,rfl,rfl,rfl,rfl,rfl,rfl,rfl,rfl,rfl,rfl,rfl,rfl,aA⟩ ⟨rfl,rfl,rfl,rfl,rfl,rfl,rfl,rfl,rfl,aA⟩) ?_;exact Dj (.inl rfl) h _ (λa w hs=>Zh9 hs Tryz.results207 rfl rfl) (by rw [f]) (Yd8 m (by rw [f])) 1 rfl rfl rfl rfl (Zx 2 rfl rfl rfl Zu)
  .have e:=e;refine go 3 ?_;refine Qj (λ_=>False) [(0,0),(1,0),(2,0),(3,0),(4,0),(5,0),(6,0),(7,0),(8,3)] ?_;refine go 7 ?_;refine Xp rfl rfl (Qv (Xv [(0,_),(1,_)] rfl ⟨rfl,rfl,rfl,rfl,aA⟩ (λa w hs=>Zwi ((Ze rfl) a w hs) ((Ze rfl) a w hs)))) ?_;refine r3' rfl (t_muk 62 ((a:Int),(i:Int),(c:Int),(k:Int)) rfl rfl rfl rfl rfl rfl rfl H Tryz.underlying128 k4L rfl s.h aA) (λ_ _=>?_);refine go 11 ?_;have f:apO d z a i c k=_:=apA_f e;refine Zr (My 1 62 rfl rfl rfl rfl rfl rfl rfl) ?_;refine Zr (env':=[(0,_),(1,_),(3,_),(4,_),(5,_),(13,_),(14,_),(15,_),(16,_),(17,_),(18,_),(12,_),(19,_),(20,_),(6,_),(7,_),(21,_),(26,_),(27,_),(28,_),(29,_),(30,_),(31,_),(32,_),(33,_),(34,_),(35,_),(36,_),(37,_),(38,_),(39,_),(40,_),(41,_),(42,_),(43,_),(44,_),(45,_),(46,_),(47,_),(48,_),(49,_),(8,_),(9,_),(51,_),(52,_),(53,_),(54,_),(55,_),(56,_),(57,_),(50,_),(58,_),(59,_),(10,_),(11,_),(60,_),(71,_),(72,_),(73,_),(74,_),(75,_),(76,_),(77,_),(78,_),(79,_),(80,_)]) (H':=[(1,_),(0,_),(2,_),(3,_),(4,_),(41,_),(42,_),(51,_),(52,_)]) (λa w hs=>hs.weaken ⟨rfl,rfl,rfl,rfl,rfl,rfl,rfl,rfl,rfl,rfl,rfl,rfl,rfl,rfl,rfl,rfl,rfl,rfl,rfl,rfl,rfl,rfl,rfl,rfl,rfl,rfl,rfl,rfl,rfl,rfl,rfl,rfl,rfl,rfl,rfl,rfl,rfl,rfl,rfl,rfl,rfl,rfl,rfl,rfl,rfl,rfl,rfl,rfl,rfl,rfl,rfl,rfl,rfl,rfl,rfl,rfl,rfl,rfl,rfl,rfl,rfl,rfl,rfl,rfl,rfl,rfl,aA⟩ ⟨rfl,rfl,rfl,rfl,rfl,rfl,rfl,rfl,rfl,aA⟩) ?_;exact Dj (.inl rfl) h _ (λa w hs=>Zh9 hs Tryz.results207 rfl rfl) (by rw [f,e]) (Yd8 m (by rw [f,e])) 1 rfl rfl rfl rfl (Zx 2 rfl rfl rfl Zu)
 .refine Oj [1,3,62] [11] ?_;refine Ya 0 [(0,0),(1,0),(2,0),(3,0),(4,0),(5,0),(6,0),(7,0),(8,0),(9,1),(10,1),(11,3)] ?_;refine go 5 ?_;refine Xp rfl rfl (Eo (Zy ( .tuple #[.agg #[.bool (apO d z a i c k).1,.int .i64 (apO d z a i c k).2],.bool true]) (d_mlk 62 ((a:Int),(i:Int),(c:Int),(k:Int)) rfl rfl rfl rfl rfl Tryz.underlying128 k4L zvSn) B) ⟨rfl,rfl,rfl,aA⟩) ?_;refine go 3 ?_;refine Xq (Ii 5) λF I=>?_;refine go 3 ?_;refine Yu ?_;refine go 8 ?_;refine Qj (λ_=>False) [(0,0),(1,0),(2,0),(3,0),(4,0),(5,3)] ?_;refine go 10 ?_;refine Zr (My 1 62 rfl rfl rfl rfl rfl rfl rfl) ?_;refine Zr (env':=[(0,_),(1,_),(3,_),(4,_),(5,_),(13,_),(14,_),(15,_),(16,_),(17,_),(18,_),(12,_),(19,_),(20,_),(6,_),(7,_),(21,_),(22,_),(23,_),(24,_),(25,_)]) (H':=[(1,_),(0,_),(2,_),(3,_),(5,_)]) (λa w hs=>hs.weaken ⟨rfl,rfl,rfl,rfl,rfl,rfl,rfl,rfl,rfl,rfl,rfl,rfl,rfl,rfl,rfl,rfl,rfl,rfl,rfl,rfl,rfl,aA⟩ ⟨rfl,rfl,rfl,rfl,rfl,aA⟩) ?_;exact Dj (.inl rfl) h u (λa w hs=>Zh9 hs Tryz.results207 rfl rfl) rfl m 1 rfl rfl rfl rfl (Zx 2 rfl rfl rfl Zu)
theorem Yhj(b l:Nat)(p:SL)(e:List PPT)(z:ZnT)(k:List (LkT×Value))(I:OkL e z)(H:CkI e z k)(F:e.length<=64)(c:List Nat)(i:Nat)(N:c.length<e.length)(u:ChO e c)(hi:i<(e.getD c.length Fy).2.length):Zth Tryz.prog 136 #[.pointer (some ⟨b,0,none⟩),v,.int .i64 (i:Int)] [Qh 1 Zes qPP (Xw p) e,Yg 1 Zz v (nI c)] (pj (box b 130 #[Xw p,.int .i64 z.1,.int .i64 z.2.1,.int .i64 z.2.2.1,.int .i64 z.2.2.2,.map (some l)]) (mpk l k)) (G:=List (LkT×Value)) (λg=>CkI e z g) (λg=> .tuple #[.bool (Ez (apO e z) c.length i c 0).1,.int .i64 (Ez (apO e z) c.length i c 0).2]) (λg=>pj (box b 130 #[Xw p,.int .i64 z.1,.int .i64 z.2.1,.int .i64 z.2.2.1,.int .i64 z.2.2.2,.map (some l)]) (mpk l g)):=by
 refine Ze1 Tryz.func136 rfl Tryz.ntmps136 rfl ⟨rfl,rfl,aA⟩ ?_;intro Q P B o;have B:=Hw.mk B;simp only [Qd,Yr];have y:=Za5 c;refine Zl (Bk 1 62 rfl rfl rfl) ?_;refine Zl (env':=[(0,_),(1,_),(2,_)]) (H':=[(1,_),(62,_),(0,_),(2,_),(3,_)]) (λa w hs=>hs.weaken ⟨rfl,rfl,rfl,aA⟩ ⟨rfl,rfl,rfl,rfl,rfl,aA⟩) ?_;refine go 15 ?_;refine lp (G:=Nat×List (LkT×Value)) [0,1,2,12,13] [0,1,2,3] (λq=>[(14,.int .i64 (q.1:Int))]) (λq=>[(62,mpk l q.2)]) (λq=>(q.1<=c.length)/\(Ez (apO e z) c.length i (c.drop q.1) q.1=(Ez (apO e z) c.length i c 0))/\(CkI e z q.2)) (λq=>c.length-q.1) (0,k) ⟨O1,rfl,H⟩ ⟨rfl,aA⟩ ⟨rfl,aA⟩ ?_;rintro⟨j,D⟩ ⟨M,s,f⟩;dsimp only at M s f;dsimp only;refine go 6 ?_;refine Zc rfl (λt=>?_) (λt=>?_)
 .have h:j<c.length:=O;refine go 7 ?_;refine dt (Yh 3 j rfl rfl rfl rfl Zh Tryz.underlying25 Tryz.sizeOf3 rfl) ?_;refine dt (Zy ( .int .i64 (c.getD j 0:Nat)) (Po 3 0 rfl rfl rfl Zh pZ) (aL (Value.int .i64) (Zur c j))) ?_;refine go 10 ?_;refine dt (Zy ( .int .i64 (c.length:Int)) (d_len rfl rfl (i:=3) rfl Zh Tryz.underlying25) (aL (λn:Nat=>Value.int .i64 (n:Int)) y)) ?_;refine go 1 ?_;refine dt (Xv [(0,_),(1,_),(2,_),(3,_)] rfl ⟨rfl,rfl,rfl,rfl,rfl,rfl,rfl,rfl,aA⟩ (λa w hs=>Zyh ((Ze rfl) a w hs) ((Ze rfl) a w hs) ((Ze rfl) a w hs) ((Ze rfl) a w hs))) ?_;refine Zo (My 1 62 rfl rfl rfl rfl rfl rfl rfl) ?_;refine Zo (env':=[(0,_),(1,_),(2,_),(12,_),(13,_),(14,_),(15,_),(16,_),(17,_),(18,_),(8,_),(9,_),(20,_),(21,_),(22,_),(23,_),(24,_),(25,_),(26,_)]) (H':=[(1,_),(0,_),(2,_),(3,_)]) (λa w hs=>hs.weaken ⟨rfl,rfl,rfl,rfl,rfl,rfl,rfl,rfl,rfl,rfl,rfl,rfl,rfl,rfl,rfl,rfl,rfl,rfl,rfl,aA⟩ ⟨rfl,rfl,rfl,rfl,aA⟩) ?_;refine tt (Zdu 1 [] [_,_] [] (Ybt b l p e z D I f j (c.getD j 0) c.length i O (u j h) N hi) rfl rfl rfl rfl ⟨rfl,rfl,aA⟩ Tryz.call207 rfl rfl O3 (Zx 2 rfl rfl rfl Zu) rfl B.h (λ_ _=>trivial)) (λk m=>?_);refine Zo (Bk 1 62 rfl rfl rfl) ?_;refine Zo (env':=[(0,_),(1,_),(2,_),(12,_),(13,_),(14,_),(15,_),(16,_),(17,_),(18,_),(8,_),(9,_),(20,_),(21,_),(22,_),(23,_),(24,_),(25,_),(26,_),(27,_)]) (H':=[(1,_),(62,_),(0,_),(2,_),(3,_)]) (λa w hs=>hs.weaken ⟨rfl,rfl,rfl,rfl,rfl,rfl,rfl,rfl,rfl,rfl,rfl,rfl,rfl,rfl,rfl,rfl,rfl,rfl,rfl,rfl,aA⟩ ⟨rfl,rfl,rfl,rfl,rfl,aA⟩) ?_;refine go 13 ?_;refine Pr rfl (λd=>?_) (λd=>?_)
  .have d:=Bc d;refine go 13 ?_;refine Zr (My 1 62 rfl rfl rfl rfl rfl rfl rfl) ?_;refine Zr (env':=[(0,_),(1,_),(2,_),(12,_),(13,_),(14,_),(15,_),(16,_),(17,_),(18,_),(8,_),(9,_),(20,_),(21,_),(22,_),(23,_),(24,_),(25,_),(26,_),(27,_),(19,_),(28,_),(29,_),(10,_),(11,_),(30,_),(31,_),(32,_),(6,_),(7,_)]) (H':=[(1,_),(0,_),(2,_),(3,_)]) (λa w hs=>hs.weaken ⟨rfl,rfl,rfl,rfl,rfl,rfl,rfl,rfl,rfl,rfl,rfl,rfl,rfl,rfl,rfl,rfl,rfl,rfl,rfl,rfl,rfl,rfl,rfl,rfl,rfl,rfl,rfl,rfl,rfl,rfl,aA⟩ ⟨rfl,rfl,rfl,rfl,aA⟩) ?_;exact Dj (.inl rfl) o k (λa w hs=>Zh9 hs Tryz.results136 rfl rfl) (by rw [<-s,Ycu c j h,aD (by rw [d];decide)]) m 1 rfl rfl rfl rfl (Zx 2 rfl rfl rfl (Zx 3 rfl rfl rfl Zu))
  .have d:=Dx d;refine go 7 ⟨O,?_⟩;exact Yv (j+1,k) ⟨O1,(aF d).symm.trans ((Ycu c j h).symm.trans s),m⟩ O1 ⟨rfl,aA⟩ ⟨rfl,aA⟩
 .obtain rfl:j=c.length:=O;refine go 12 ?_;refine Zr (My 1 62 rfl rfl rfl rfl rfl rfl rfl) ?_;refine Zr (env':=[(0,_),(1,_),(2,_),(12,_),(13,_),(14,_),(15,_),(6,_),(7,_)]) (H':=[(1,_),(0,_),(2,_),(3,_)]) (λa w hs=>hs.weaken ⟨rfl,rfl,rfl,rfl,rfl,rfl,rfl,rfl,rfl,aA⟩ ⟨rfl,rfl,rfl,rfl,aA⟩) ?_;exact Dj (.inl rfl) o D (λa w hs=>Zh9 hs Tryz.results136 rfl rfl) (by rw [<-s,Yia c (aK _)]) f 1 rfl rfl rfl rfl (Zx 2 rfl rfl rfl (Zx 3 rfl rfl rfl Zu))
theorem ls_run{b N:Nat}(W:SL)(c:List PPT)(z:ZnT)(F:List (LkT×Value))(hO:OkL c z)(hC:CkI c z F)(Q:c.length<=64)(t:Nat)(a3:t<=100000):Zth Tryz.prog 74 #[.pointer (some ⟨b,0,none⟩),.int .i64 (t:Int)] [Qh 1 Zes qPP (Xw W) c] (pj (box b 130 #[Xw W,.int .i64 z.1,.int .i64 z.2.1,.int .i64 z.2.2.1,.int .i64 z.2.2.2,.map (some N)]) (mpk N F)) (G:=Value×List (LkT×Value)) (λg=>CkI c z g.2) (λg=> .tuple #[g.1,.int .i64 (rnA (apO c z) (nsL c) t).2.1,.int .i64 (rnA (apO c z) (nsL c) t).2.2]) (λg=>pj (pj (box b 130 #[Xw W,.int .i64 z.1,.int .i64 z.2.1,.int .i64 z.2.2.1,.int .i64 z.2.2.2,.map (some N)]) (mpk N g.2)) (Pt 1 3 Zz g.1 (nI (rnA (apO c z) (nsL c) t).1))):=by
 refine Ze1 Tryz.func74 rfl Tryz.ntmps74 rfl ⟨rfl,aA⟩ ?_;intro w0 sc P B;have P:=Hw.mk P;simp only [Qd,Yr];refine Qf (Py (i:=2) rfl Zp) (λa9=>?_);refine Zl (Bk 1 62 rfl rfl rfl) ?_;refine Zl (env':=[(0,_),(1,_)]) (H':=[(1,_),(62,_),(0,_),(2,_)]) (λa w hs=>hs.weaken ⟨rfl,rfl,aA⟩ ⟨rfl,rfl,rfl,rfl,aA⟩) ?_;refine go 7 ?_;refine Yih ?_;refine go 2 ?_;refine tt (Zy6 70 (enc:=Zz) rfl rfl rfl Tryz.underlying25 pZ rfl P.h) (λv _=>?_);refine go 9 ?_;refine Yii ?_;refine go 3 ?_;refine lp (G:=Value×List Nat×Nat×Nat×Nat×List (LkT×Value)) [0] [0,1,2] (λq=>[(7,q.1),(8,.int .i64 (q.2.2.1:Int)),(1,.int .i64 (q.2.2.2.1:Int))]) (λq=>[(70,Pt 1 3 Zz q.1 (nI q.2.1)),(62,mpk N q.2.2.2.2.2)]) (λq=>(rnF (apO c z) (nsL c) q.2.2.2.2.1 q.2.1 q.2.2.1 q.2.2.2.1=(rnA (apO c z) (nsL c) t))/\(2*q.2.2.2.1+q.2.1.length+1<=q.2.2.2.2.1)/\(ChO c q.2.1)/\(q.2.2.2.1<=100000)/\(q.2.1.length<=c.length)/\(q.2.2.1<=100000)/\(CkI c z q.2.2.2.2.2)) (λq=>2*q.2.2.2.1+q.2.1.length) (_,[],0,t,2*t+1,F) ⟨rfl,O7,λj h=>absurd h (cN j),a3,bB _,bB _,hC⟩ ⟨rfl,rfl,rfl,aA⟩ ⟨rfl,rfl,aA⟩ ?_;rintro⟨vc,k,nx,b1,f,e1⟩ ⟨hR,hf,y,a1,a4,a6,I⟩;dsimp only at hR hf y a1 a4 a6 I;dsimp only;have b0:=Za5 k;refine go 13 ?_;refine Zc rfl (λY=>?_) (λY=>?_)
 .have e:k.length<c.length:=O;refine go 5 ?_;refine lp (G:=Nat×Nat×Nat×List (LkT×Value)) [0] [0,70,1,2] (λq=>[(7,vc),(8,.int .i64 (q.1:Int)),(1,.int .i64 (q.2.1:Int))]) (λq=>[(62,mpk N q.2.2.2)]) (λq=>(rnF (apO c z) (nsL c) q.2.2.1 k q.1 q.2.1=(rnA (apO c z) (nsL c) t))/\(2*q.2.1+k.length+1<=q.2.2.1)/\(q.2.1<=b1)/\(q.1<=200000-q.2.1)/\(CkI c z q.2.2.2)) (λq=>q.2.1) (nx,b1,f,e1) ⟨hR,hf,aK _,O1,I⟩ ⟨rfl,rfl,rfl,aA⟩ ⟨rfl,aA⟩ ?_;rintro⟨s,S,f2,V⟩ ⟨o,p,a2,R,u⟩;dsimp only at o p a2 R u;dsimp only;refine go 2 ?_;refine Zl (Ht 2 41 (c.getD k.length Fy) rfl rfl (Zk e) rfl) ?_;refine go 8 ?_;refine dt (Yh 2 k.length rfl rfl rfl rfl Zp Tryz.underlying38 Tryz.sizeOf27 (by rw [Za5]) e) ?_;refine dt (Po 2 Fy rfl rfl rfl Zp pPPq e) ?_;refine go 4 ?_;refine Zc rfl (λZ=>?_) (λZ=>?_)
  .have d:s<(nsL c).getD k.length 0:=by rw [Zui];omega
   refine go 17 ⟨O,?_⟩;refine Zc rfl (λa0=>?_) (λa0=>?_)
   .refine go 17 ?_;refine Zti ?_;have l:rnA (apO c z) (nsL c) t=_:=(Ygl o p O e d);refine Zr (Nn 71 1 3 Zz) ?_;refine Zr (My 1 62 rfl rfl rfl rfl rfl rfl rfl) ?_;refine Zr (env':=[(0,_),(7,_),(8,_),(1,_),(21,_),(22,_),(23,_),(24,_),(25,_),(26,_),(27,_),(28,_),(29,_),(30,_),(31,_),(32,_),(33,_),(34,_),(35,_),(4,_),(5,_),(6,_)]) (H':=[(1,_),(0,_),(2,_),(41,_),(71,_)]) (λa w hs=>hs.weaken ⟨rfl,rfl,rfl,rfl,rfl,rfl,rfl,rfl,rfl,rfl,rfl,rfl,rfl,rfl,rfl,rfl,rfl,rfl,rfl,rfl,rfl,rfl,aA⟩ ⟨rfl,rfl,rfl,rfl,rfl,aA⟩) ?_;refine Zr (My 1 71 rfl rfl rfl rfl rfl rfl rfl) ?_;exact Dj (.inl rfl) B (_,V) (λa w hs=>Yan hs Tryz.results74 rfl rfl rfl) (by rw [l]) u 1 (by rw [l];rfl) rfl rfl rfl (Zx 2 rfl rfl rfl Zu)
   .have D:0<S:=O;refine go 7 ?_;refine Zo (My 1 62 rfl rfl rfl rfl rfl rfl rfl) ?_;refine Zo (env':=[(0,_),(7,_),(8,_),(1,_),(21,_),(22,_),(23,_),(24,_),(25,_),(26,_),(27,_),(28,_),(29,_),(30,_),(31,_),(32,_),(33,_),(34,_),(35,_),(37,_),(38,_),(39,_)]) (H':=[(1,_),(0,_),(70,_),(2,_),(41,_)]) (λa w hs=>hs.weaken ⟨rfl,rfl,rfl,rfl,rfl,rfl,rfl,rfl,rfl,rfl,rfl,rfl,rfl,rfl,rfl,rfl,rfl,rfl,rfl,rfl,rfl,rfl,aA⟩ ⟨rfl,rfl,rfl,rfl,rfl,aA⟩) ?_;refine tt (Zdu 1 [] [_,_,_] [] (Yhj b N W c z V hO u Q k s e y (by rw [<-Zui];exact d)) rfl rfl rfl rfl ⟨rfl,rfl,rfl,aA⟩ Tryz.call136 rfl rfl O3 (Zx 2 rfl rfl rfl (Zo6 70 rfl rfl pZ Zu)) rfl P.h (λ_ _=>trivial)) (λF M=>?_);refine Zo (Bk 1 62 rfl rfl rfl) ?_;refine Zo (env':=[(0,_),(7,_),(8,_),(1,_),(21,_),(22,_),(23,_),(24,_),(25,_),(26,_),(27,_),(28,_),(29,_),(30,_),(31,_),(32,_),(33,_),(34,_),(35,_),(37,_),(38,_),(39,_),(40,_)]) (H':=[(1,_),(62,_),(0,_),(70,_),(2,_),(41,_)]) (λa w hs=>hs.weaken ⟨rfl,rfl,rfl,rfl,rfl,rfl,rfl,rfl,rfl,rfl,rfl,rfl,rfl,rfl,rfl,rfl,rfl,rfl,rfl,rfl,rfl,rfl,rfl,aA⟩ ⟨rfl,rfl,rfl,rfl,rfl,rfl,aA⟩) ?_;refine go 14 ?_;refine Zc rfl (λm=>?_) (λm=>?_)
    .have m:=m;refine go 18 ?_;refine Zti ?_;have l:rnA (apO c z) (nsL c) t=_:=(Ygq o p O e d m);refine Zr (Nn 71 1 3 Zz) ?_;refine Zr (My 1 62 rfl rfl rfl rfl rfl rfl rfl) ?_;refine Zr (env':=[(0,_),(7,_),(8,_),(1,_),(21,_),(22,_),(23,_),(24,_),(25,_),(26,_),(27,_),(28,_),(29,_),(30,_),(31,_),(32,_),(33,_),(34,_),(35,_),(37,_),(38,_),(39,_),(40,_),(36,_),(41,_),(42,_),(9,_),(10,_),(43,_),(44,_),(45,_),(4,_),(5,_),(6,_)]) (H':=[(1,_),(0,_),(2,_),(41,_),(71,_)]) (λa w hs=>hs.weaken ⟨rfl,rfl,rfl,rfl,rfl,rfl,rfl,rfl,rfl,rfl,rfl,rfl,rfl,rfl,rfl,rfl,rfl,rfl,rfl,rfl,rfl,rfl,rfl,rfl,rfl,rfl,rfl,rfl,rfl,rfl,rfl,rfl,rfl,rfl,aA⟩ ⟨rfl,rfl,rfl,rfl,rfl,aA⟩) ?_;refine Zr (My 1 71 rfl rfl rfl rfl rfl rfl rfl) ?_;exact Dj (.inl rfl) B (_,F) (λa w hs=>Yan hs Tryz.results74 rfl rfl rfl) (by rw [l]) M 1 (by rw [l];rfl) rfl rfl rfl (Zx 2 rfl rfl rfl Zu)
    .have m:=fB.1 m;refine go 8 ?_;refine Pr rfl (λn=>?_) (λn=>?_)
     .have n:=n;refine go 4 ?_;refine tt (Xm [(0,_)] 3 (enc:=Zz) [(s:Int)] rfl rfl ⟨rfl,rfl,aA⟩ Tryz.underlying25 Tryz.ti3 rfl rfl rfl rfl rfl pZ.cells rfl rfl P.h) (λb3 _=>?_);refine tt (Lc 70 3 8 rfl rfl rfl rfl rfl rfl O3 rfl (Yc pZ) Tryz.underlying25 Tryz.ti3 rfl pZ rfl rfl rfl (by rw [Za5];simp only [cD,eH];omega) O3 rfl P.h) (λb4 _=>?_);refine go 11 ?_;exact Yv (_,k ++ [s],0,S-1,f2-1,F) ⟨(Yag o p O e d n),(by rw [aS];simp only [cD,eH];omega),(chO_s y (by rw [<-Zui];exact d)),O1,(by rw [aS];simp only [cD,eH];omega),bB _,M⟩ (by rw [aS];simp only [cD,eH];omega) ⟨rfl,rfl,aL (λx=>some (Value.int .i64 x)) (Zze D),aA⟩ ⟨aL (λx=>some (Pt 1 3 Zz _ x)) (Yhc k s).symm,rfl,aA⟩
     .have n:=n;refine go 8 ⟨O,?_⟩;exact Yv (s+1,S-1,f2-1,F) ⟨(Yai o p O e d n m),O1,O1,O1,M⟩ O1 ⟨rfl,rfl,aL (λx=>some (Value.int .i64 x)) (Zze D),aA⟩ ⟨rfl,aA⟩
  .have d:¬s<(nsL c).getD k.length 0:=by rw [Zui];omega
   refine go 13 ?_;refine Zc rfl (λH=>?_) (λH=>?_)
   .have H:k=[]:=aE O;refine go 13 ?_;refine Zti ?_;have l:rnA (apO c z) (nsL c) t=_:=(Yah o p e d H);refine Zr (Nn 71 1 3 Zz) ?_;refine Zr (My 1 62 rfl rfl rfl rfl rfl rfl rfl) ?_;refine Zr (env':=[(0,_),(7,_),(8,_),(1,_),(21,_),(22,_),(23,_),(24,_),(25,_),(26,_),(27,_),(28,_),(29,_),(30,_),(31,_),(53,_),(54,_),(55,_),(4,_),(5,_),(6,_)]) (H':=[(1,_),(0,_),(2,_),(41,_),(71,_)]) (λa w hs=>hs.weaken ⟨rfl,rfl,rfl,rfl,rfl,rfl,rfl,rfl,rfl,rfl,rfl,rfl,rfl,rfl,rfl,rfl,rfl,rfl,rfl,rfl,rfl,aA⟩ ⟨rfl,rfl,rfl,rfl,rfl,aA⟩) ?_;refine Zr (My 1 71 rfl rfl rfl rfl rfl rfl rfl) ?_;exact Dj (.inl rfl) B (_,V) (λa w hs=>Yan hs Tryz.results74 rfl rfl rfl) (by rw [l]) u 1 (by rw [l];rfl) rfl rfl rfl (Zx 2 rfl rfl rfl Zu)
   .refine go 10 ⟨O,?_⟩;have a8:0<k.length:=O;have a5:=y (k.length-1) O;rw [Zge]at a5;have a7:=hO.k (a:=k.length-1) O;refine Qj (λ_=>False) [(0,0),(1,0),(2,0),(3,0),(4,0),(5,0),(6,0),(7,0),(8,0),(9,3)] ?_;refine go 2 ?_;refine Xp rfl rfl (Qv (Ydp 70 (k.length-1) rfl rfl rfl rfl (Yc pZ) Tryz.underlying25 Tryz.sizeOf3 O (by rw [Za5];omega))) ?_;refine go 2 ?_;refine Xp rfl rfl (Qv (Yh 70 (k.length-1) rfl rfl rfl rfl (Yc pZ) Tryz.underlying25 Tryz.sizeOf3 O (by rw [Za5];omega))) ?_;refine Xp rfl rfl (Qv (Zy ( .int .i64 ((k.getLastD 0:Nat):Int)) (Po 70 0 rfl rfl rfl (Yc pZ) pZ (by rw [Za5];omega)) (aL (Value.int .i64) (Yhd k O)))) ?_;refine go 5 ⟨O,?_⟩;refine Zr (Zz7 70 (k.length-1) rfl rfl pZ (by rw [Za5];omega)) ?_;exact Yv (_,k.dropLast,k.getLastD 0+1,S,f2-1,V) ⟨(Ygn o p e d O),(by dsimp only;rw [jA];omega),chO_d y,O1,(by dsimp only;rw [jA];omega),(by dsimp only;omega),u⟩ (by dsimp only;rw [jA];omega) ⟨rfl,rfl,rfl,aA⟩ ⟨aL (λx=>some (Pt 1 3 Zz _ x)) (Yhe k).symm,rfl,aA⟩
 .have e:¬k.length<c.length:=O;refine go 14 ?_;refine Zti ?_;have l:rnA (apO c z) (nsL c) t=_:=(Yaj hR hf e);refine Zr (My 1 62 rfl rfl rfl rfl rfl rfl rfl) ?_;refine Zr (env':=[(0,_),(7,_),(8,_),(1,_),(13,_),(14,_),(15,_),(16,_),(17,_),(18,_),(19,_),(20,_),(67,_),(4,_),(5,_),(6,_)]) (H':=[(1,_),(0,_),(70,_),(2,_)]) (λa w hs=>hs.weaken ⟨rfl,rfl,rfl,rfl,rfl,rfl,rfl,rfl,rfl,rfl,rfl,rfl,rfl,rfl,rfl,rfl,aA⟩ ⟨rfl,rfl,rfl,rfl,aA⟩) ?_;refine Zr (My 1 70 rfl rfl rfl rfl rfl rfl rfl) ?_;exact Dj (.inl rfl) B (_,e1) (λa w hs=>Yan hs Tryz.results74 rfl rfl rfl) (by rw [l]) I 1 (by rw [l];rfl) rfl rfl rfl (Zx 2 rfl rfl rfl Zu)
theorem Zr9(ps:List Zj)(b:∀g∈ps,Gin g):Cal Tryz.prog 71 #[v] [Qh 6 Qu qG v ps] false (G:=Unit) (λ_=>True) (λ_=> .bool (!Xk ps)) (λ_=>[]):=by refine Zf Tryz.func71 Tryz.ntmps71 λe d c a=>?_;refine go 8 ?_;refine cl 1 [1] (Ho b) λ_ _=>?_;refine go 5 ?_;exact Xc a () Tryz.results71 rfl aA Za
theorem Yhy(l:List PT)(n:∀x∈l,∀g∈x.2,Gin g):Cal Tryz.prog 133 #[v,.func (.func 71) #[] #[]] [Qh 1 Eb qP v l] false (G:=Int) (λr=>decide (r>=0)=!Ee l) (λr=> .int .i64 r) (λr=>[]):=by
 refine Zf Tryz.func133 Tryz.ntmps133 λs q p d=>?_;refine Qf (Py (i:=1) rfl Zp) (λf=>?_);refine go 14 ?_;refine lp (G:=Nat) [0,1,7] [0,1] (λi=>[(8,.int .i64 (i:Int))]) (λi=>[]) (λi=>(i<=l.length)/\(∀j,j<i->Xk (pth l j)=true)) (λi=>l.length-i) 0 ⟨O1,λj h=>absurd h (cN j)⟩ ⟨rfl,aA⟩ aA ?_;rintro i ⟨hi,m⟩;refine go 6 ?_;refine Zc rfl (λc=>?_) (λc=>?_)
 .refine go 11 ?_;refine Zl (Ht 1 51 (l.getD i PT0) rfl rfl Zk rfl) ?_;refine go 4 ?_;refine dt (Yh 1 i rfl rfl rfl rfl Zp Tryz.underlying27 Tryz.sizeOf36 rfl) ?_;refine dt (Po 1 PT0 rfl rfl rfl Zp pPq) ?_;refine tt (Cf 1 [] [_] [] (Zr9 (l.getD i PT0).2 (n _ Zk)) rfl rfl rfl rfl ⟨rfl,aA⟩ Tryz.call71 (Zx 51 rfl rfl rfl Zu) rfl p.h) (λ_ _=>?_);refine go 2 ?_;refine Pr rfl (λa=>?_) (λa=>?_)
  .have b:=a;refine go 12 ?_;exact Xc d (i:Int) Tryz.results133 rfl (by rw [Yfp Zk (Bc b)];exact aN (jO i)) Za
  .have b:=a;refine go 7 ⟨O,?_⟩;exact Yv (i+1) ⟨O1,λj o=>by rcases bL.1 o with e|e;exact m j e;subst e;exact Dx b⟩ O1 ⟨rfl,aA⟩ aA
 .obtain rfl:i=l.length:=O;refine go 11 ?_;exact Xc d (-1) Tryz.results133 rfl (by rw [Zyy (aK _) (λk h _=>m k h)];rfl) Za
theorem Yjh(l:List PT)(c:∀x∈l,∀g∈x.2,Gin g):Cal Tryz.prog 70 #[v,.func (.func 71) #[] #[]] [Qh 1 Eb qP v l] false (G:=Unit) (λ_=>True) (λ_=> .bool (!Ee l)) (λ_=>[]):=by refine Zf Tryz.func70 Tryz.ntmps70 λh f d b=>?_;refine go 9 ?_;refine cl 1 [1] (Yhy l c) λe a=>?_;refine go 5 ?_;exact Xc b () Tryz.results70 (by rw [a]) aA Za
theorem Ybu(h g j i f:Int):Cal Tryz.prog 73 #[.int .i64 h,.agg #[.int .i64 g,.int .i64 j,.int .i64 i],.int .i64 f] [] false (G:=Unit) (λ_=>True) (λ_=> .bool (okZ (h,g,j,i) f)) (λ_=>[]):=by
 refine Zf Tryz.func73 Tryz.ntmps73 λn m l a=>?_;refine go 2 ?_;refine Ym (Yj 1) λk _=>?_;refine go 8 ?_;refine Yn 9 rfl (λe=>?_) (λe=>?_)
 .refine go 4 ?_;refine Yn 13 rfl (λb=>?_) (λb=>?_)
  .refine go 1 ?_;refine It 1 [] Zqf λ_ _=>?_;refine go 2 ?_;refine Nv 17 rfl (λc=>?_) (λc=>?_)
   .refine go 4 ?_;refine Yn 21 rfl (λd=>?_) (λd=>?_)
    .refine go 7 ?_;exact Xc a () Tryz.results73 (by unfold okZ dsB;first|(simp_all;done)|(simp_all;omega)) aA Za
    .refine go 7 ?_;exact Xc a () Tryz.results73 (by unfold okZ dsB;first|(simp_all;done)|(simp_all;omega)) aA Za
   .refine go 11 ?_;exact Xc a () Tryz.results73 (by unfold okZ dsB;first|(simp_all;done)|(simp_all;omega)) aA Za
  .refine go 15 ?_;exact Xc a () Tryz.results73 (by unfold okZ dsB;first|(simp_all;done)|(simp_all;omega)) aA Za
 .refine go 19 ?_;exact Xc a () Tryz.results73 (by unfold okZ dsB;first|(simp_all;done)|(simp_all;omega)) aA Za
theorem Zfo(d:List PPT)(l k o m p:Int)(W:∀x∈d,∀y∈x.2,∀g∈y.2,Gin g)(hL:∀x∈d,∀y∈x.2,y.2.length<=5):Cal Tryz.prog 20 #[v,.int .i64 l,.agg #[.int .i64 k,.int .i64 o,.int .i64 m],.int .i64 p] [Qh 1 Zes qPP v d] true (G:=Value) (λr=>True) (λr=> .tuple #[r,.int .i64 (chR d (l,k,o,m) p).2.1,.int .i64 (chR d (l,k,o,m) p).2.2]) (λr=>[Yg 1 Zz r (nI (chR d (l,k,o,m) p).1)]):=by
 refine Zf Tryz.func20 Tryz.ntmps20 λw0 sc Z t=>?_;refine Qf (Py (i:=1) rfl Zp) (λY=>?_);refine Zqe (Xl 1 rfl Zp) (λfo Q=>?_);subst Q;refine go 2 ?_;refine Ym (Yj 2) λbz _=>?_;refine go 19 ?_;refine lp (G:=Nat×Bool) [0,1,3,6,15,16] [0,1,2] (λq=>[(17,.int .i64 (q.1:Int)),(11,.bool q.2)]) (λq=>[]) (λq=>(q.1<=d.length)/\(∀j,j<q.1->Ee (d.getD j Fy).2=true)/\(q.2=(d.take q.1).any λx=>decide (64<x.2.length))) (λq=>d.length-q.1) (0,false) ⟨O1,λj h=>absurd h (cN j),rfl⟩ ⟨rfl,rfl,aA⟩ aA ?_;rintro⟨i,bl⟩ ⟨hi,N,f⟩;dsimp only at hi N f;dsimp only;refine go 6 ?_;refine Zc rfl (λP=>?_) (λP=>?_)
 .refine go 5 ?_;refine Zl (Ht 1 41 (d.getD i Fy) rfl rfl Zk rfl) ?_;refine go 1 ?_;refine dt (Yh 1 i rfl rfl rfl rfl Zp Tryz.underlying38 Tryz.sizeOf27 rfl) ?_;refine dt (Po 1 Fy rfl rfl rfl Zp pPPq) ?_;refine go 7 ?_;refine cl 2 [41] (Yjh (d.getD i Fy).2 (W _ Zk)) λ_ _=>?_;refine go 2 ?_;refine Pr rfl (λe=>?_) (λe=>?_)
  .have e:=e;refine go 14 ?_;have c:chR d (l,k,o,m) p=_:=(chR_2 (chv_no O (Bc e)));exact xe3 t (.slice none 0 0) Tryz.results20 (by rw [c]) aA (Pj (by rw [c];rfl) Za)
  .have e:=e;refine go 5 ?_;refine Nv 24 rfl (λI=>?_) (λI=>?_)
   .have H:=I;refine go 12 ⟨O,?_⟩;exact Yv (i+1,true) ⟨O1,λj R=>by rcases bL.1 R with F|F;exact N j F;subst F;exact Dx e,(lg_s f O (.inl ⟨H,rfl⟩))⟩ O1 ⟨rfl,rfl,aA⟩ aA
   .have H:=I;refine go 12 ⟨O,?_⟩;exact Yv (i+1,decide ((64:Int)<(((d.getD i Fy).2.length:Nat):Int))) ⟨O1,λj R=>by rcases bL.1 R with F|F;exact N j F;subst F;exact Dx e,(lg_s f O (.inr ⟨H,dD.2 O⟩))⟩ O1 ⟨rfl,rfl,aA⟩ aA
 .obtain rfl:i=d.length:=O;rw [bM]at f;have D:=Yjb N;refine go 12 ?_;refine cl 2 [] (Ybu l k o m p) λ_ _=>?_;refine go 4 ?_;refine Pr rfl (λb=>?_) (λb=>?_)
  .have b:=Bc b;refine go 10 ?_;have c:chR d (l,k,o,m) p=_:=(chR_2z b);exact xe3 t (.slice none 0 0) Tryz.results20 (by rw [c]) aA (Pj (by rw [c];rfl) Za)
  .have b:=Dx b;refine go 4 ?_;refine Nv 38 rfl (λu=>?_) (λu=>?_)
   .have B:=u;refine go 18 ?_;have c:chR d (l,k,o,m) p=_:=(chR_7 D b (by left;rw [<-f];exact B));exact xe3 t (.slice none 0 0) Tryz.results20 (by rw [c]) aA (Pj (by rw [c];rfl) Za)
   .have B:=u;refine go 7 ?_;refine Zc rfl (λs=>?_) (λs=>?_)
    .have M:=s;refine go 10 ?_;have c:chR d (l,k,o,m) p=_:=(chR_7 D b (by right;omega));exact xe3 t (.slice none 0 0) Tryz.results20 (by rw [c]) aA (Pj (by rw [c];rfl) Za)
    .have M:=s;have hO:=ok_L (z:=(l,k,o,m)) W hL D b (by rw [<-f];exact B);obtain⟨S,rfl⟩:∃n:Nat,p=(n:Int):=⟨p.toNat,by have:=okZ_b b;omega⟩;have a0:=okZ_b b;refine go 8 ?_;refine tt (t_mmk (i:=62) rfl rfl rfl rfl Z.h) (λmb _=>?_);refine dt (Xv [(0,_),(1,_),(2,_),(3,_)] rfl ⟨rfl,rfl,rfl,rfl,rfl,rfl,rfl,rfl,aA⟩ (λa w hs=>Zyj ((Qm 1 rfl Zp) a w hs) ((Ze rfl) a w hs) ((Ze rfl) a w hs))) ?_;refine Ym (Yj 3) λV _=>?_;refine go 7 ?_;refine Zo (My 3 62 rfl rfl rfl rfl rfl rfl rfl) ?_;refine Zo (env':=[(0,_),(1,_),(3,_),(6,_),(15,_),(16,_),(17,_),(11,_),(18,_),(31,_),(32,_),(33,_),(34,_),(35,_),(30,_),(37,_),(38,_),(39,_),(40,_),(41,_),(42,_),(36,_),(43,_),(44,_),(45,_),(46,_),(47,_),(48,_),(14,_),(49,_),(50,_)]) (H':=[(3,_),(0,_),(1,_),(2,_)]) (λa w hs=>hs.weaken ⟨rfl,rfl,rfl,rfl,rfl,rfl,rfl,rfl,rfl,rfl,rfl,rfl,rfl,rfl,rfl,rfl,rfl,rfl,rfl,rfl,rfl,rfl,rfl,rfl,rfl,rfl,rfl,rfl,rfl,rfl,rfl,aA⟩ ⟨rfl,rfl,rfl,rfl,aA⟩) ?_;refine tt (Zdu 3 [] [_,_] [] (ls_run fo d (l,k,o,m) [] hO ck_nil O S O) rfl rfl rfl rfl ⟨rfl,rfl,aA⟩ Tryz.call74 rfl rfl O3 (Zx 1 rfl rfl rfl Zu) rfl Z.h (λ_ _=>trivial)) (λ⟨rv,es⟩ a1=>?_);refine Zo (Bk 3 70 rfl rfl rfl) ?_;refine Zo (env':=[(0,_),(1,_),(3,_),(6,_),(15,_),(16,_),(17,_),(11,_),(18,_),(31,_),(32,_),(33,_),(34,_),(35,_),(30,_),(37,_),(38,_),(39,_),(40,_),(41,_),(42,_),(36,_),(43,_),(44,_),(45,_),(46,_),(47,_),(48,_),(14,_),(49,_),(50,_),(51,_)]) (H':=[(3,_),(70,_),(0,_),(1,_),(2,_)]) (λa w hs=>hs.weaken ⟨rfl,rfl,rfl,rfl,rfl,rfl,rfl,rfl,rfl,rfl,rfl,rfl,rfl,rfl,rfl,rfl,rfl,rfl,rfl,rfl,rfl,rfl,rfl,rfl,rfl,rfl,rfl,rfl,rfl,rfl,rfl,rfl,aA⟩ ⟨rfl,rfl,rfl,rfl,rfl,aA⟩) ?_;refine go 9 ?_;have c:chR d (l,k,o,m) (S:Int)=_:=chR_r D b (by rw [<-f];exact B) O;refine Zr (Xj 70 rfl rfl pZ) ?_;exact xe3 t _ Tryz.results20 (by rw [c];rfl) aA (Oz 70 Za (by first|(rw [c];done)|(rw [c];rfl)))
abbrev Mm (x:Int) (r:SL×SL×SL):Zj:=Gq (x,0,0) (x,0,0) 0 1000 2 r
theorem lg_in{p q:Pf}{fr c:Int}{k:Int}(j:Bd p=true)(h:Me fr)(m:Me c)(l:p=q):Gin (Gq p q fr c k r):=by
 subst l;obtain⟨d,f,g⟩:=Yas j;have e:∀x:Int,tmL x x k=[x]:=λx=>by unfold tmL;rw [aF (.inl O)]
 have i:∀x:Int,-1048576<=x/\x<=1048576->∀a∈tmL x x k,Me a:=λx n a b=>by rw [e]at b;rw [bZ.1 b];exact⟨O,O⟩
 exact⟨h,m,show Me (1:Int)from⟨O3,O3⟩,i _ d,i _ f,i _ g⟩
theorem pt_x(h:-1048576<=x/\x<=1048576):Bd (x,0,0)=true:=by show ptB x 0 0=true;rw [Zl9];simp;omega
theorem Zzf(h:-1048576<=x/\x<=1048576):∀g∈[Mm x r],Gin g:=λg a=>by rw [bZ.1 a];exact lg_in (pt_x h) ⟨O3,O3⟩ ⟨O3,O3⟩ rfl
def kxL(d e f a b c:SL)(r1 r2 r3:SL×SL×SL):List PPT:=
 [(d,[(a,[Mm 0 r1]),(c,[Mm 1000 r3])]),(e,[(b,[Mm 100 r2]),(a,[Mm 0 r1])]),(f,[(b,[Mm 100 r2]),(c,[Mm 1000 r3])])]
section
variable (s1 s2 s3 va vb vc:SL) (r1 r2 r3:SL×SL×SL)
theorem ky_g:∀x∈kxL s1 s2 s3 va vb vc r1 r2 r3,∀y∈x.2,∀g∈y.2,Gin g:=by have a:∀g∈[Mm 0 r1],Gin g:=Zzf O3;have b:∀g∈[Mm 100 r2],Gin g:=Zzf O3;have c:∀g∈[Mm 1000 r3],Gin g:=Zzf O3;intro x d y e;unfold kxL at d;simp only [bG,dU,iD]at d;rcases d with rfl|rfl|rfl<;>simp only [bG,dU,iD]at e<;>rcases e with rfl|rfl<;>assumption
theorem ky_l:∀x∈kxL s1 s2 s3 va vb vc r1 r2 r3,∀y∈x.2,y.2.length<=5:=by intro x a y b;unfold kxL at a;simp only [bG,dU,iD]at a;rcases a with rfl|rfl|rfl<;>simp only [bG,dU,iD]at b<;>rcases b with rfl|rfl<;>exact(by decide:1<=5)
def ky_f:chR (kxL s1 s2 s3 va vb vc r1 r2 r3) (50,50,1,1) 100=([0,0,1],1,0):=O5
def ky_n:chR (kxL s1 s2 s3 va vb vc r1 r2 r3) (150,50,1,1) 100=([],2,0):=O5
def ky_u:chR (kxL s1 s2 s3 va vb vc r1 r2 r3) (50,50,1,1) 3=([],0,0):=O5
end
abbrev wyP:List Pf:=[(0,0,0)]
abbrev wyQ:List Pf:=[(0,0,100)]
def wy_e:lkE wyP wyQ (500,1000,3) 0 (pbB wyP [1] 3)=0:=O6
section
variable {ls:List PT} (h:Zao ls=lPr wyP wyQ (500,1000,3) 0 [1])
include h
theorem Yfh:ls.length=1:=by have:=aL List.length h;rw [show lPr wyP wyQ (500,1000,3) 0 [1]=lPs wyP wyQ (500,1000,3) 0 [1] 1 from aF wy_e]at this;simpa [Zao,lPs]using this
theorem wy_s(r1 r2 r3:SL×SL×SL):(ls.getD 0 PT0).2.map Mb=[Gq (0,0,0) (0,0,0) 0 500 2 r1,Gq (0,0,0) (0,0,100) 500 1500 0 r2,Gq (0,0,100) (0,0,100) 1500 2000 2 r3].map Mb:=by
 have e:=aL (λl=>l.head?) h;rw [show lPr wyP wyQ (500,1000,3) 0 [1]=lPs wyP wyQ (500,1000,3) 0 [1] 1 from aF wy_e]at e;cases ls with
 | nil=>cases e
 | cons x t=>
  simp only [Zao,bN,List.head?_cons]at e;have a:=Option.some.inj e;exact a.trans O5
end
def wy_p:lkE wyP wyQ (500,1000,3) 0 (pbB wyP [1] 3)≠0->False:=λh=>h wy_e
end Go.Sky

