/- Rules, arithmetic and contracts: part 14. No conditions but those that each theorem names. -/
import Derived.Test.YtpmihempjefadaaGreatGa12
import Derived.RangeFuncFrom
import Derived.RangeFuncLeaves
import Derived.OrdersIn
import Derived.TacticsIn
import Derived.RangeFuncCalls
set_option linter.all false
set_option maxHeartbeats 4000000
namespace Go.Sky
variable{a:Act}{b:Bool}{M:Nat->Prop}{rest:List (Nat×Nat)}{o:Oper}{i:Nat}{v:Value}{args:Array Value}{w:World}{R:Value->World->Prop}{K:Act->World->Prop}{listed:Array Bool}{ts:List Nat}
abbrev PTs:=Int×R2×R2
abbrev P0:PTs:=(0,(0,0),(0,0))
abbrev encP9 (z:PTs):Value:= .agg #[.int .i64 z.1,.bool (decide (z.2.1.1<0)),.string (Yw z.2.1.1.natAbs),.bool (decide (z.2.1.2<0)),.string (Yw z.2.1.2.natAbs),.bool (decide (z.2.2.1<0)),.string (Yw z.2.2.1.natAbs),.bool (decide (z.2.2.2<0)),.string (Yw z.2.2.2.natAbs)]
def shw(xs:List Int)(z:PTs):Bool:=if z.1=1 then plainB xs z.2.1 z.2.2 else if xs.length=0\/cmp z.2.1 z.2.2=0 then decide (0<=vlu (Qz xs) z.2.1)else decide (0<aft (Qz xs) z.2.1) && !crb (chx xs) z.2.1 z.2.2
def okpB(xs:List Int)(l:R2)(z:PTs):Bool:=decide (cmp l z.2.1=0) && decide (¬0<cmp z.2.1 z.2.2) && shw xs z
def lst(a:R2)(ps:List PTs)(i:Nat):R2:=if i=0 then a else(ps.getD (i-1) P0).2.2
def chkP(xs:List Int)(ps:List PTs)(a b:R2):Bool:=decide (0<ps.length) && (List.range ps.length).all (λk=>okpB xs (lst a ps k) (ps.getD k P0)) && decide (cmp (lst a ps ps.length) b=0)
def ValP(ps:List PTs):Prop:=∀z∈ps,(z.1=1\/z.1=2)/\Ef z.2.1/\Ef z.2.2
theorem Ef.efit{a:R2}(h:Ef a):Go.Sky.efit a=true:=by have:=h.b1;have:=h.b2;unfold Go.Sky.efit;exact aO O
theorem Ybq(h:(!b)=true):b=false:=by cases b<;>simp_all
theorem Ybr(h:(!b)=false):b=true:=by cases b<;>simp_all
theorem r2u {P:Program} {N:Nat} {sc:Nat->Prop} {env:Xu} {H:Hp}  {ops:Array Oper} {F:Xu->Hp->Prop}   {d j e:Nat}  (n:ops[i]? = some o) (l:o.guard=some (j,b)) (m:(ops[j]?).bind (·.dst)=some e) (k:lk env e=some undef) (g:o.dst=some d) 
  (h:LD P N sc M ops F rest ((d,undef)::env) H) (f:Nat.blt d N=true:=by rfl):LD P N sc M ops F ((i,2)::rest) env H:=⟨o,d,n,g,f,λa w c=>by simp [Region.wanted,l,c.yieldedu m k],h⟩
open Go.Proofs.Tryz
open Go.Proofs
set_option synthInstance.maxHeartbeats 0
set_option synthInstance.maxSize 100000
set_option maxRecDepth 20000
set_option linter.unusedSimpArgs false
theorem Zxk{fr g n c h e:Int}{u B D j k l:Value}{x y z p q r:List Int}(F:Sgo fr g n x y z)(m:Sgo c h e p q r):Yx prog 110 #[.agg #[.int .i64 fr,.int .i64 g,.int .i64 n,u,B,D],.agg #[.int .i64 c,.int .i64 h,.int .i64 e,j,k,l]] [Ym 1 Ys u x,Ym 1 Ys B y,Ym 1 Ys D z,Ym 1 Ys j p,Ym 1 Ys k q,Ym 1 Ys l r] (.bool (Zsz g n x y z c e p q r)):=by
 refine Zd func110 ntmps110 λI H t f=>go 2 ?_;refine Zw (Zu 7) λG _=>Zw (Zu 8) λs _=>go 4 ?_;rcases(show g=c\/g≠c by omega)with d|d
 .refine Qg (λ_=>False) [(0,0),(1,0),(2,0),(3,0),(4,0),(5,0),(6,0),(8,0),(7,1),(9,1),(10,0),(11,0),(12,3)]<|go 4 ?_;refine Pe J J (Pz (dT (Ya9 J J J) (vB (aO d))))<|go 3 ?_;refine Zm9 J J J J J (Lg 8 (Zmt 1 1 F ⟨O3,O3⟩ ⟨O3,O3⟩) J J J K3 call175 (Zn 1 J J J (Zn 2 J J J (Zn 3 J J J Yb))) J t.h) (λ_ _=>?_);refine Zm9 J J J J J (Lg 8 (Zmt 0 1 m ⟨O3,O3⟩ ⟨O3,O3⟩) J J J K3 call175 (Zn 4 J J J (Zn 5 J J J (Zn 6 J J J Yb))) J t.h) (λ_ _=>?_);refine r0g (Pz (Zhp J J J eg179 (λw=>eqlP w))) J J J J J<|go 5 ?_;exact Xg f () results110 (by unfold Zsz;rw [aO d];rfl) aA Za
 .refine Qg (λ_=>False) [(0,0),(1,0),(2,0),(3,0),(4,0),(5,0),(6,2),(8,2),(7,2),(9,2),(10,2),(11,0),(12,3)]<|go 4 ?_;refine Pe J J (Pz (dF (Ya9 J J J) (vB (aM d))))<|go 11 ?_;exact Xg f () results110 (by unfold Zsz;rw [aM d];rfl) aA Za
theorem Zcf{ps:List Zl}(s:∀g∈ps,Gin g):Yx prog 43 #[v] [Nv 6 Ee qG v ps] (.bool (Ok ps)):=by
 refine Zd func43 ntmps43 λy x t h=>?_;refine Oo (It (i:=1) J Yz) λr=>go 14 ?_;refine lp (G:=Nat) [0,5,6] [0,1] (λi=>[(7,.int .i64 (i:Int))]) (λi=>[]) (λi=>(i<=ps.length)/\(∀k,k<i->Za4 ps k=true)) (λi=>ps.length-i) 0 ⟨O1,λk l=>absurd l (dC k)⟩ K1 aA ?_;rintro i ⟨hi,l⟩;refine go 6<|Zc J (λm=>?_) (λm=>?_)
 .refine go 5 ?_;have e:=s _ (Zo (d:=G0) (show i<ps.length by omega));refine Zg (Qu (ps.getD i G0) ((ps.getD i G0).2.1) 1 51 J J Zo O7)<|Zg (Qu (ps.getD i G0) ((ps.getD i G0).2.2.1) 1 52 J J Zo O7)<|Zg (Qu (ps.getD i G0) ((ps.getD i G0).2.2.2) 1 53 J J Zo O7)<|go 3 ⟨O2,?_⟩;refine dt (Mh 1 G0 J J J Yz pG O2)<|Zw (Zr 2) λu _=>go 5 ?_;rcases Zu6 (ps.getD i G0) i with c|⟨c,f⟩|⟨c,f⟩
  .refine Qg (λ_=>False) [(0,0),(1,1),(2,0),(3,0),(4,2),(5,2),(6,2),(7,2),(8,2),(9,2),(10,2),(11,2),(12,2),(13,2),(14,2),(15,2),(16,0)]<|go 1<|Xs (Zm 2 [51,52,53] (Dh e.f e.t e.o e.x e.y e.z)) λ_ _=>?_;refine Pe J J (Pz (dT (Xn J J) (vB (by rw [show Ea _ _ _ _ _ _=_ from c];rfl))))<|go 4 ?_;refine r2u J J J J J<|r2u J J J J J<|r2u J J J J J<|r2u J J J J J<|r2u J J J J J<|r2u J J J J J<|r2u J J J J J<|r2u J J J J J<|go 16 ?_;exact Xg h () results43 (by rw [Zsm i O (okAt_s c)]) aA Za
  .refine Qg (λ_=>False) [(0,0),(1,1),(2,0),(3,0),(4,0),(5,0),(6,0),(7,2),(8,2),(9,2),(10,2),(11,2),(12,2),(13,2),(14,2),(15,0),(16,0)]<|go 1<|Xs (Zm 2 [51,52,53] (Dh e.f e.t e.o e.x e.y e.z)) λ_ _=>?_;refine Pe J J (Pz (dF (Xn J J) (vB (by rw [show Ea _ _ _ _ _ _=_ from c];rfl))))<|go 2 ?_;refine r0g (Pz (dF (Ya8 J J J) (vB (aM O)))) J J J J J<|go 21 ⟨O,?_⟩;exact Xe (i+1) ⟨O1,λk q=>by rcases cK.1 q with j|j;exact l k j;subst j;exact Zyz c f⟩ O1 K1 aA
  .refine Zg (Qu (ps.getD (i-1) G0) ((ps.getD (i-1) G0).2.1) 1 54 J J Zo O7)<|Zg (Qu (ps.getD (i-1) G0) ((ps.getD (i-1) G0).2.2.1) 1 55 J J Zo O7)<|Zg (Qu (ps.getD (i-1) G0) ((ps.getD (i-1) G0).2.2.2) 1 56 J J Zo O7)<|Qg (λ_=>False) [(0,0),(1,1),(2,0),(3,0),(4,0),(5,0),(6,0),(7,0),(8,0),(9,0),(10,0),(11,0),(12,0),(13,1),(14,0),(15,0),(16,0)]<|go 1<|Xs (Zm 2 [51,52,53] (Dh e.f e.t e.o e.x e.y e.z)) λ_ _=>?_;refine Pe J J (Pz (dF (Xn J J) (vB (by rw [show Ea _ _ _ _ _ _=_ from c];rfl))))<|go 2 ?_;refine r0g (Pz (dT (Ya8 J J J) (vB (aO O)))) J J J J J<|go 4 ⟨O,?_⟩;refine r0g (Pz (Yu 1 (i-1) J J J J Yz Zuw Zrf)) J J J J J<|r0g (Pz (Mh 1 G0 J J J Yz pG)) J J J J J<|go 1 ?_;refine Zm9 J J J J J (Lg 2 (Zxk (Zj4 (s _ Zo) (Zsq (l (i-1) O))) (Zj4 e c)) J J J K2 call110 (Zn 54 J J J (Zn 55 J J J (Zn 56 J J J (Zn 51 J J J (Zn 52 J J J (Zn 53 J J J Yb)))))) J t.h) λ_ _=>go 5 ?_;refine Ow J (λn=>?_) (λn=>?_)
   .refine go 11 ?_;exact Xg h () results43 (by rw [Zsm i O ((Zyy c f).trans (Ybq ‹_›))]) aA Za
   .refine go 7 ⟨O,?_⟩;exact Xe (i+1) ⟨O1,λk q=>by rcases cK.1 q with j|j;exact l k j;subst j;exact(Zyy c f).trans (Ybr ‹_›)⟩ O1 K1 aA
 .obtain rfl:i=ps.length:=O;refine go 11<|Yq 33 J (λp=>?_) (λp=>?_)
  .refine go 8 ?_;exact Xg h () results43 (by rw [Zsn l];first|exact vB (cE.2 O)|exact vB (aM O)) aA Za
  .refine go 8 ?_;exact Xg h () results43 (by rw [Zsn l];first|exact vB (cE.2 O)|exact vB (aM O)) aA Za
def cmpP(c:List Int)(a b d:Int):List Int:=Yc (Zyr (tzl c) a b d) (d^(6-c.length))
def pad3(zs:List (SL×List Int)):List (SL×List Int):=zs ++ List.replicate (3-zs.length) ((none,0,0),[])
open Go.RowKit Below
variable {P:Program} {N:Nat} {sc:Nat->Prop} {env env':Xu} {H H':Hp} {Q Q':Exit->Act->World->Prop}
def Zm4{n:Nat}{d:String}(h:Rows P d args w R):RowsIn Fence.wide n P d args w R:=λc e _=>
 let ⟨v,w',r,s⟩:=h c e;⟨v,w',r,stepsIn_wide.2 s⟩
def noQ:Exit->Act->World->Prop:=λ_ _ _=>False
def Zg5:¬LetsOut noQ:=λ⟨_,_,h⟩=>h
theorem Ydp(h:o.wp P a w K noQ):o.wpIn Fence.wide 0 P a w K Q:=by
 refine⟨λ_ _=>trivial,?_⟩;unfold Oper.wp at h;show o.uponIn Fence.wide 0 P a K Q ((execOp a.eval o).run P w);generalize (execOp a.eval o).run P w=r at *;cases r with
 | ok n g=>
  cases n<;>simp only [Oper.upon,Oper.uponIn]at h ⊢
  case value=>exact h
  case skip=>exact h
  case defer=>exact h
  case enter f args=>
   refine⟨λh=>(by cases h),callsIn_wide.2 (h.mono λe j d=>?_)⟩;cases e with
   | returned v=>exact d
   | panicked c=>exact d.elim
   | outgrown=>exact absurd d Zg5
  case row row args=>exact⟨λh=>(by cases h),Zm4 h⟩
 | halt x g=>
  cases x<;>simp only [Oper.upon]at h
  case panic u=>exact h.elim
theorem Ycf{ops:Array Oper}(h:wpOp P ops noQ i K a w):wpOpIn Fence.wide 0 P ops Q i K a w:=by
 unfold wpOp at h;unfold wpOpIn;cases ho:ops[i]? with
 | none=>simp only [ho]at h ⊢;exact h
 | some o=>
  simp only [ho]at h ⊢;split
  .rename_i c;simp only [c,gP]at h;exact Ydp (h.resolve_right λh=>Zg5 h.2)
  .rename_i c;simp only [c]at h;exact⟨λ_ _=>trivial,h⟩
section
variable {ops:Array Oper} {C:World->World->Prop}
def Kr(P:Program)(ops:Array Oper)(ts:List Nat)(C:World->World->Prop)(Q:Exit->Act->World->Prop):Nat->Array Bool->Act->World->Prop
 | 0,_,_,_=>False
 | c+1,listed,a,w=>if Mz ops ts listed=true then wpAnyIn Fence.wide 0 P .any ops Q (c+1) listed a w else
  (Region.ready .any ops listed=[]->False)/\
  ∀i∈Region.ready .any ops listed,wpOp P ops noQ i (λe d=>C w d/\Kr P ops ts C Q c (listed.setIfInBounds i true) e d) a w
theorem Zb0{ts:List Nat} : ∀(c:Nat) (listed:Array Bool) (a:Act) (w:World),Kr P ops ts C Q c listed a w->wpAnyIn Fence.wide 0 P .any ops Q c listed a w
 | 0,_,_,_,h=>h.elim
 | c+1,listed,_,_,h=>by
  unfold Kr at h;split at h
  .exact h
  .exact⟨λd=>(h.1 d).elim,λi hi=>Ycf (wpOp_mono (λ_ _ e=>Zb0 c _ _ _ e.2) (h.2 i hi))⟩
inductive Dep (ops:Array Oper) (i:Nat):Nat->Prop
 | base {j:Nat} {o:Oper} {e:Edge} : ops[j]? = some o->e∈o.after->Region.binds .any e=true->e.on=i->Dep ops i j
 | step {j:Nat} {o:Oper} {e:Edge} : ops[j]? = some o->e∈o.after->Region.binds .any e=true->Dep ops i e.on->Dep ops i j
def Zor(ops:Array Oper)(i:Nat):Nat->List Nat
 | 0=>[]
 | k+1=>match ops[k]? with
  | some o=>if o.after.any (λe=>Region.binds .any e && (e.on == i || (Zor ops i k).contains e.on))then k::Zor ops i k else Zor ops i k
  | none=>Zor ops i k
theorem Av{i:Nat} : ∀(n j:Nat),j∈Zor ops i n->Dep ops i j
 | 0,_,h=>by cases h
 | k+1,j,h=>by
  unfold Zor at h;cases ho:ops[k]? with
  | none=>simp only [ho]at h;exact Av k j h
  | some o=>
   simp only [ho]at h;split at h
   .rename_i l;rcases bO.1 h with g|h
    .rw [g];obtain⟨e,f,c⟩:=mM.1 l;simp only [aL,jR,gW]at c;rcases c.2 with d|d
     .exact .base ho f c.1 d
     .exact .step ho f c.1 (Av k _ (by simpa using d))
    .exact Av k j h
   .exact Av k j h
def Clo(ops:Array Oper)(listed:Array Bool):Prop:=∀k o,ops[k]? = some o->listed.getD k true=true->∀e∈o.after,Region.binds .any e=true->listed.getD e.on true=true
theorem Zk1{l:Array Bool}{x:Nat}(h:l.getD x false=true):l.getD x true=true:=by rcases bJ x l.size with c|c<;>simp_all
theorem Clo.un{j:Nat}(h:Clo ops listed)(hi:listed.getD i true=false)(l:Dep ops i j):listed.getD j true=false:=by
 induction l with
 | @base k o e f d c g=>
  cases hl:listed.getD k true with
  | false=>rfl
  | true=>have:=h _ _ f hl _ d c;rw [g,hi]at this;cases this
 | @step k o e f d c _ m=>
  cases hl:listed.getD k true with
  | false=>rfl
  | true=>have:=h _ _ f hl _ d c;rw [m]at this;cases this
theorem Clo.not_ready{j:Nat}(m:Clo ops listed)(hi:listed.getD i true=false)(g:Dep ops i j):j ∉ Region.ready .any ops listed:=λn=>by
 obtain⟨_,p,e,c⟩:=mem_ready.1 n;cases g with
 | base d h f k=>
  rw [e]at d;cases d;have:=Zk1 (c _ h f);rw [k,hi]at this;cases this
 | step d h f g=>
  rw [e]at d;cases d;have l:=Zk1 (c _ h f);rw [m.un hi g]at l;cases l
theorem Clo.set{j:Nat}(q:Clo ops listed)(r:j∈Region.ready .any ops listed):Clo ops (listed.setIfInBounds j true):=λk o g p e n m=>by
 obtain⟨s,t,h,c⟩:=mem_ready.1 r;have l:listed.getD e.on true=true:=by
  by_cases f:j=k
  .subst f;rw [h]at g;cases g;exact Zk1 (c _ n m)
  .rw [getD_set_ne true f]at p;exact q k o g p e n m
 by_cases d:j=e.on
 .subst d;by_cases hs:e.on<listed.size<;>simp_all
 .rw [getD_set_ne true d];exact l
theorem Cc   {x:Oper}  (hi:ops[i]? = some x) (s:∀(j:Nat) (o:Oper) z b,ops[j]? = some o->o.op≠ .select z b)
  (a4:i ∉ ts) (B:∀j∈ts,Dep ops i j)
  (m:∀w,C w w) (q:∀a b c,C a b->C b c->C a c) :
  ∀(d:Nat) (listed:Array Bool) (a:Act) (w:World),Clo ops listed->
   (∀j y,ops[j]? = some y->j≠i->listed.getD j true=false->(∀e∈y.after,Region.binds .any e=true->e.on≠i)->x.apart ops y=true)->
   i∈Region.ready .any ops listed->YieldsC P ops C x v a w->
   Kr P ops ts C Q d (listed.setIfInBounds i true) (a.put x.dst v) w->Kr P ops ts C Q (d+1) listed a w:=by
 intro d
 induction d with
 | zero=>intro listed a w _ _ u W H;exact H.elim
 | succ d ih=>
  intro listed a w r g u W H;have a3:=Fk hi a4 (mem_ready.1 u).1;unfold Kr;rw [aE (by rw [a3];exact dI)];refine⟨λh=>(by rw [h]at u;cases u),λj hj=>?_⟩;by_cases f:j=i
  .subst f;exact W.wpOp hi (m w) ⟨m w,H⟩
  .obtain⟨l,y,p,D⟩:=mem_ready.1 hj;have I:∀e∈y.after,Region.binds .any e=true->e.on≠i:=λe he hb a0=>by
    have t:=D e he hb;have h0:=(mem_ready.1 u).1;rw [a0]at t;rcases bJ i listed.size with h'|h'
    .simp [h']at h0 t;rw [h0]at t;cases t
    .simp [kX h']at t
   have G:j ∉ ts:=λhm=>r.not_ready (mem_ready.1 u).1 (B j hm) hj;have S:Mz ops ts (listed.setIfInBounds i true)=false:=Fk p G (by rw [getD_set_ne true (fS f)];exact l);unfold Kr at H;rw [aE (by rw [S];exact dI)]at H;have t:=H.2 j (ready_mono hj f);have h2:=Zic (Y:=λa=>YieldsC P ops C x v a w) p (g j y p f l I) (λz b=>s i x z b hi) (λz b=>s j y z b p) (λ_ _ _ h=>h)
    (λa a' W he hw=>YieldsC.of_same W he hw) W t
   have n:∀k Z,ops[k]? = some Z->k≠i->(listed.setIfInBounds j true).getD k true=false->
     (∀e∈Z.after,Region.binds .any e=true->e.on≠i)->x.apart ops Z=true:=λk Z hk a1 V a2=>by
    refine g k Z hk a1 ?_ a2;by_cases F:j=k
    .subst F;exact l
    .rw [getD_set_ne true F]at V;exact V
   refine wpOp_mono (λa' w' h3=>⟨h3.2.1,ih (listed.setIfInBounds j true) a' w' (r.set hj) n (ready_mono u (fS f)) (h3.1.later q h3.2.1) ?_⟩) h2;rw [kP _ _ f];exact h3.2.2
end
def Em(ops:Array Oper)(ts:List Nat):List (Nat×Nat)->Array Bool->Bool
 | [],_=>true
 | (i,1)::rest,listed=>(Region.ready .any ops listed == [i]) && !(Mz ops ts listed) && Em ops ts rest (listed.setIfInBounds i true)
 | (i,3)::rest,listed=>false
 | (i,_)::rest,listed=>(Region.ready .any ops listed).contains i && Region.free .any ops listed i && !(ts.contains i) && ts.all (λj=>(Zor ops i ops.size).contains j) && Em ops ts rest (listed.setIfInBounds i true)
theorem depZ{ops:Array Oper}(h:ts.all (λj=>(Zor ops i ops.size).contains j)=true):∀j∈ts,Dep ops i j:=λj c=>by rw [bR]at h;exact Av _ _ (by simpa using h j c)
theorem LD.soundZ{M:Nat->Prop}{ops:Array Oper}{ts:List Nat}{F:Xu->Hp->Prop}{k:Nat}(e:Region.noSelect ops=true):∀(l:List (Nat×Nat)) (listed:Array Bool) (env:Xu) (H:Hp),Clo ops listed->Em ops ts l listed=true->
  LD P N sc M ops F l env H->(∀env H a w,F env H->Sat N sc env H a w->wpAnyIn Fence.wide 0 P .any ops Q (k+1) (Mg l listed) a w)->Mz ops ts (Mg l listed)=true->
  ∀a w,Sat N sc env H a w->Kr P ops ts (Chg M) Q (l.length+(k+1)) listed a w
 | [],listed,env,H,n,f,h,s,u,a,w,hs=>by show Kr P ops ts (Chg M) Q (0+k+1) listed a w;rw [cP];unfold Kr;rw [aG (by simpa [Mg]using u)];exact s _ _ a w h hs
 | (i,0)::rest,listed,env,H,n,f,h,s,u,a,w,hs=>by simp only [Em,aL]at f;obtain⟨⟨⟨⟨p,B⟩,r⟩,q⟩,f⟩:=f;obtain⟨o,d,v,t,z,y,x,c⟩:=h;obtain⟨Y,x⟩:=x a w hs;have D:=LD.soundZ e rest (listed.setIfInBounds i true) _ _ (n.set (by simpa using p)) f c s u _ w (hs.put d v y);show Kr P ops ts (Chg M) Q ((rest.length+1)+(k+1)) listed a w;rw [eA];refine Cc t (Region.noSelect_spec e) (by simpa using r) (depZ q) (Chg.refl M) (λ_ _ _=>Chg.trans) (rest.length+(k+1)) listed a w n (Region.free_spec t B) (by simpa using p) (.inl ⟨Y,x⟩) ?_;rw [z];exact D
 | (i,1)::rest,listed,env,H,n,f,h,s,htt,a,w,hs=>by simp only [Em,aL,gW,eU]at f;obtain⟨⟨p,W⟩,f⟩:=f;obtain⟨o,G,φ,Z,gH,t,Y,u,c⟩:=h;show Kr P ops ts (Chg M) Q ((rest.length+1)+(k+1)) listed a w;rw [eA];unfold Kr;rw [aE (by rw [W];exact dI)];refine⟨λh0=>(by rw [p]at h0;cases h0),λj I=>?_⟩;rw [p]at I;have I:=aK.1 I;subst I;unfold wpOp;simp only [t,Y a w hs,gP];exact .inl (u a w hs _ _ λg a' w' hg V S=>⟨S,LD.soundZ e rest _ _ _ (n.set (by rw [p];exact aK.2 rfl)) f (c g hg) s htt a' w' V⟩)
 | (i,3)::rest,listed,env,H,n,f,h,s,u,a,w,hs=>by cases f
 | (i,2)::rest,listed,env,H,n,f,h,s,u,a,w,hs=>by simp only [Em,aL]at f;obtain⟨⟨⟨⟨p,B⟩,r⟩,q⟩,f⟩:=f;obtain⟨o,d,t,z,y,x,c⟩:=h;have D:=LD.soundZ e rest (listed.setIfInBounds i true) _ _ (n.set (by simpa using p)) f c s u _ w (hs.put d undef y);show Kr P ops ts (Chg M) Q ((rest.length+1)+(k+1)) listed a w;rw [eA];refine Cc t (Region.noSelect_spec e) (by simpa using r) (depZ q) (Chg.refl M) (λ_ _ _=>Chg.trans) (rest.length+(k+1)) listed a w n (Region.free_spec t B) (by simpa using p) (.inr ⟨x a w hs,rfl⟩) ?_;rw [z];exact D
 | (i,(m+4))::rest,listed,env,H,n,f,h,s,u,a,w,hs=>by simp only [Em,aL]at f;obtain⟨⟨⟨⟨p,B⟩,r⟩,q⟩,f⟩:=f;obtain⟨o,d,t,z,y,x,c⟩:=h;have D:=LD.soundZ e rest (listed.setIfInBounds i true) _ _ (n.set (by simpa using p)) f c s u _ w (hs.put d undef y);show Kr P ops ts (Chg M) Q ((rest.length+1)+(k+1)) listed a w;rw [eA];refine Cc t (Region.noSelect_spec e) (by simpa using r) (depZ q) (Chg.refl M) (λ_ _ _=>Chg.trans) (rest.length+(k+1)) listed a w n (Region.free_spec t B) (by simpa using p) (.inr ⟨x a w hs,rfl⟩) ?_;rw [z];exact D
theorem clo0{l:List Oper}:Clo l.toArray (Array.replicate l.length false):=λk o d c=>by have:=(aR.1 d).1;simp at this;simp [this]at c
def YL(P:Program)(N:Nat)(sc:Nat->Prop)(ops:Array Oper)(Q:Exit->Act->World->Prop)(k:Nat)(listed:Array Bool)(env:Xu)(H:Hp):Prop:=
 ∀a w,Sat N sc env H a w->wpAnyIn Fence.wide 0 P .any ops Q (k+1) listed a w
theorem Zlh {id:Nat} {l:List Oper} (c:List (Nat×Nat)) (ts:List Nat) (k:Nat) 
  
  (h:LD P N sc (λ_=>False) l.toArray (YL P N sc l.toArray Q k (Mg c (Array.replicate l.length false))) c env H) (p:P.follows .mixedOrders=true:=by kernel_rfl) (e:(Region.noSelect l.toArray && Nat.beq (c.length+(k+1)) l.length && Em l.toArray ts c (Array.replicate l.length false) &&
   Mz l.toArray ts (Mg c (Array.replicate l.length false)))=true:=by kernel_rfl):E P N sc (.region id l.toArray true) Q env H:=λa w hs=>by
 simp only [aL]at e;obtain⟨⟨⟨f,d⟩,g⟩,j⟩:=e;have d:=cQ d;refine(wpIn_wide (n:=0)).1 (wpIn_region_any p (Zb0 (C:=Chg (λ_=>False)) (ts:=ts) _ _ _ _ ?_));have:=LD.soundZ (Q:=Q) f c _ env H clo0 g h (λenv H a w m hs=>m a w hs) j a _ hs.drew;rw [d]at this;simpa using this
end Go.Sky
namespace Go.Sky
open Go.RowKit Below
variable{M:Nat->Prop}{ops:Array Oper}{rest:List (Nat×Nat)}{listed:Array Bool}{tys:Array TypeId}{f:FuncId}{fn:Func}{lb:List Value}{pre:List Pc}{φ0:Prop}{tmps:Array Value}{w w0:World}
variable {P:Program} {N:Nat} {sc:Nat->Prop} {env env':Xu} {H H':Hp} {Q Q':Exit->Act->World->Prop}
theorem Zvd   {F:Xu->Hp->Prop} {i:Nat}  {o:Oper} {d j e:Nat} {b:Bool} {v:Value} (n:ops[i]? = some o) (l:o.guard=some (j,b)) (m:(ops[j]?).bind (·.dst)=some e) (k:lk env e=some (.bool b)) (g:o.dst=some d) 
  (hs:Stb P N sc M o env H v) (h:LD P N sc M ops F rest ((d,v)::env) H) (a:Nat.blt e N=true:=by rfl) (c:Nat.blt d N=true:=by rfl):LD P N sc M ops F ((i,0)::rest) env H:=r0g hs n l m k g h a c
theorem Zpk (i:Nat)(d3:Nat)   {o b:Nat} {m:Oper} {x y:Operand}  {xv:Value} {j e:Nat} {bv:Bool} {J:World->Prop}
  (hr:(Region.ready .any ops listed == [i] && Region.ready .any ops (listed.setIfInBounds i true) == [i+1] && Region.ready .any ops ((listed.setIfInBounds i true).setIfInBounds (i+1) true) == [i+2] &&
   (Region.ready .any ops (((listed.setIfInBounds i true).setIfInBounds (i+1) true).setIfInBounds (i+2) true)).isEmpty)=true)
  (h1:ops[i]? = some m) (ho:m.op= .call { callee:= .value x,args:=#[y],argTypes:=tys }) (hd:m.dst=some o) (hN:Nat.blt o N=true)
  (hg:m.guard=some (j,bv)) (hj:(ops[j]?).bind (·.dst)=some e) (he:lk env e=some (.bool bv)) (I:Nat.blt e N=true)
  (hx:ev env x=some (.func (.yield b) #[] #[])) (hy:ev env y=some xv)
  (hJ:∀a w,Sat N sc env H a w->YieldAt Fence.wide 0 P b #[xv] w λe c=>e= .returned (.bool false)/\J c)
  (hl:LD P N sc (λ_=>False) ops (λenv' _=>lk env' d3=some (.bool true)) [(i+1,0),(i+2,0)] ((o,.bool false)::env) [])
  (hF:∀a w,a.eval (.tmp d3)= .bool true->a.defers=[]->J w->Q .normal a w):YL P N sc ops Q 2 listed env H:=λa w hs=>by
 simp only [aL,gW]at hr;obtain⟨⟨⟨r1,r2⟩,r3⟩,r4⟩:=hr;obtain⟨fn,tmps,d,n,p,g⟩:=hJ a w hs;have V:(m.semAt Fence.wide.round a.eval).run P w= .ok (.round b fn tmps d n) w:=by show(execOp a.eval m).run P w=_;simp [execOp,ho,resolve,invoke,Deferred.ofValue,hs.ev hx,hs.ev hy,p,Sem.run_bind]
 unfold wpAnyIn;refine⟨λh=>(by rw [r1]at h;cases h),λk l=>?_⟩;rw [r1]at l;obtain rfl:=aK.1 l;have Z:=hs.yielded hj he I;have hw:Region.wanted m (yielded ops a.tmps)=true:=by simp [Region.wanted,hg,Z]
 unfold wpOpIn;simp only [h1,hw,gP];refine⟨λ_ _=>trivial,?_⟩;rw [V];refine⟨λh=>(by cases h),g.mono ?_⟩;rintro e c ⟨rfl,z⟩;have q:Sat N sc ((o,.bool false)::env) [] (a.put m.dst (.bool false)) c:=by rw [hd];have h0:Sat N sc env [] a c:=⟨hs.size,hs.defers,hs.env,λi it h=>(by cases h),λi j it jt _ h=>(by cases h),λi it _ h=>(by cases h)⟩;exact h0.put o _ hN
 show wpAnyIn Fence.wide 0 P .any ops Q (1+1) _ _ c;obtain⟨o2,d2,v2,R,F,B,W,o3,t,v3,S,G,D,Y,hf⟩:=hl;obtain⟨w2,u⟩:=W _ _ q;have u:=u _ (Chg.refl _ _);have r:=q.put d2 v2 B;obtain⟨w3,v⟩:=Y _ _ r;have v:=v _ (Chg.refl _ _);have s:=r.put t v3 D;unfold wpAnyIn;refine⟨λh=>(by rw [r2]at h;cases h),λk l=>?_⟩;rw [r2]at l;obtain rfl:=aK.1 l;unfold wpOpIn;simp only [R,w2,gP];refine⟨λ_ _=>trivial,?_⟩;show o2.uponIn Fence.wide 0 P _ _ Q ((execOp _ o2).run P c);rw [u];show wpAnyIn Fence.wide 0 P .any ops Q (0+1) _ _ c;rw [F];unfold wpAnyIn;refine⟨λh=>(by rw [r3]at h;cases h),λk l=>?_⟩;rw [r3]at l;obtain rfl:=aK.1 l;unfold wpOpIn;simp only [S,w3,gP];refine⟨λ_ _=>trivial,?_⟩;show o3.uponIn Fence.wide 0 P _ _ Q ((execOp _ o3).run P c);rw [v];show wpAnyIn Fence.wide 0 P .any ops Q 0 _ _ c;rw [G];exact⟨by simpa using r4,hF _ _ (s.ev hf) s.defers z⟩
def Yfs(P:Program)(f:FuncId)(lb:List Value)(pre:List Pc)(φ0:Prop){G:Type}(φ1:G->Prop)(xv:G->Value):Prop:=
 ∀(l:Nat) (J:World->Prop) (w:World),(∀p∈pre,p.holds w)->
  (∀g,φ1 g->∀a,Below w.heap.size w a->YieldAt Fence.wide 0 P l #[xv g] a λe c=>e= .returned (.bool false)/\J c)->
  Calls P f (.func (.yield l) #[] #[]::lb).toArray w λe b=>(∃v,e= .returned v)/\((φ0/\Below w.heap.size w b)\/J b)
def Zre(P:Program)(fn:Func)(w0:World)(φ0:Prop)(J:World->Prop):Exit->Act->World->Prop:=
 bodyPost P fn λe a=>(∃v,e= .returned v)/\((φ0/\Below w0.heap.size w0 a)\/J a)
def YJ(P:Program)(w0:World)(l:Nat){G:Type}(φ1:G->Prop)(xv:G->Value)(J:World->Prop):Prop:=
 ∀g,φ1 g->∀a,Below w0.heap.size w0 a->YieldAt Fence.wide 0 P l #[xv g] a λe b=>e= .returned (.bool false)/\J b
theorem Yfi   {c:Code}    {G:Type} {φ1:G->Prop} {xv:G->Value} {N:Nat}
  (z:P.funcs[f]? = some fn) (a:fn.body=some c) (x:fn.ntmps=N) (m:Nat.ble (lb.length+1) N=true) (r:AllRo pre)
  (h:∀(l:Nat) (J:World->Prop) w0 (sc:Nat->Prop),(∀b,w0.heap.size<=b->sc b)->YJ P w0 l φ1 xv J->
   E P N sc c (Zre P fn w0 φ0 J) (Pa 0 (.func (.yield l) #[] #[]::lb)) ((0,Xm w0 (λ_=>False))::Qc 1 pre)) :
  Yfs P f lb pre φ0 φ1 xv:=λl J w D u=>by
 refine calls_of_wp z a (h l J w (λb=>w.heap.size<=b\/∃q∈pre,q.fp b) (λb a=> .inl a) u _ w ?_);have s:lb.length+1<=N:=by simpa using m
 refine⟨by simp [x];omega,rfl,λt v F=>?_,λi p hi=>?_,λi j p q B hi I o b a y=>?_,λi p k hi b a=>?_⟩
 .have g:=(Kw (.func (.yield l) #[] #[]::lb) 0 t v F).2;have g:(Value.func (.yield l) #[] #[]::lb).toArray[t]? = some v:=by simpa using g
  have n:=(aR.1 g).1;rw [bF,eD n,g];rfl
 .by_cases d:0=i
  .subst d;rw [Zz]at hi;cases hi;exact Chg.refl _ w
  .rw [Zj d]at hi;exact D p (Pt pre 1 i p hi).2
 .by_cases d:0=i
  .subst d;rw [Zz]at hi;cases hi;cases o
  .rw [Zj d]at hi;rw [r.mem p (Pt pre 1 i p hi).2]at o;cases o
 .rw [Zj (λe=>k e.symm)]at hi;exact .inr ⟨p,(Pt pre 1 i p hi).2,a⟩
theorem Zm7(a:fn.results=#[]):(results fn tmps).run P w= .ok (.tuple #[]) w:=by rw [Zgj,a];simp
theorem x_endy{J:World->Prop}{e:Exit}(d:e= .ret\/e= .normal)(g:fn.results=#[])(c:lk H 0=some (Xm w0 (λ_=>False)))(h:φ0):X N sc e (Zre P fn w0 φ0 J) env H:=λa w hs=>by
 have b:a.defers=[]/\∃v,(results fn a.tmps).run P w= .ok v w/\((∃u,Ending.returned v= .returned u)/\((φ0/\Below w0.heap.size w0 w)\/J w)):=
  ⟨hs.defers,_,Zm7 g,⟨_,rfl⟩,.inl ⟨h,Nw (hs.hold 0 _ c)⟩⟩
 rcases d with rfl|rfl<;>exact b
def r_y{k:Nat}(h:YL P N sc ops Q k listed env H):LD P N sc M ops (YL P N sc ops Q k listed) [] env H:=h
def Zbo{J:World->Prop}{a:Act}(b:a.defers=[])(c:fn.results=#[])(h:J w):Zre P fn w0 φ0 J .ret a w:=
 ⟨b,_,Zm7 c,⟨_,rfl⟩,.inr h⟩
end Go.Sky
namespace Go.Sky
open Go.RowKit Below
variable {P:Program} {N:Nat} {sc:Nat->Prop} {env env':Xu} {H H':Hp} {Q Q':Exit->Act->World->Prop}
theorem Ycg {g:Operand} {ps:Array Tmp} {assign body:Code} {a:Act} {w:World} {s:Nat} {y:List Value} {pre:List Pc} {φ0:Prop} {G:Type} {φ1:G->Prop} {xv:G->Value}
  (hg:a.eval g= .func (.func s) #[] y.toArray) (eg:∀args w,(callFunc s args).run P w= .ok (.enter s args) w) (hc:Yfs P s y pre φ0 φ1 xv) (hp:∀p∈pre,p.holds w) (a6:ps.size=1)
  (z:G->World->Prop) (B:∀g W l o',w.heap.size<=l->z g W->z g (W.putObj l o'))
  (j:∀g,φ1 g->∀(l D:Nat) (W:World) (o1 o2 od:Obj),Below w.heap.size w W->w.heap.size<=l->w.heap.size<=D->l≠D->W.heap[l]? = some o1->W.heap[D]? = some od->
   assign.wpIn (Fence.wide.inRound l) 0 P (Exit.then (λa1 f=>f.heap[l]? = some o1/\f.heap[D]? = some od/\body.wpIn (Fence.wide.inRound l) 0 P (λe _ V=>e= .ret/\V.heap[l]? = some o2/\V.heap[D]? = some od/\z g V) a1 (f.putObj l o2)) (λ_ _ _=>False))
    {tmps:=(ps.zip #[xv g]).foldl (λt (p,v)=>t.setIfInBounds p v) a.tmps,defers:=[] } W)
  (o:∀(D:Nat) (W:World),w.heap.size<=D->φ0->Below w.heap.size w W->W.heap[D]? = some (.deferred (some []))->Q .normal { a with defers:={ target:= .collected D,args:=#[] }::a.defers } W)
  (r:∀g (D:Nat) (W:World),w.heap.size<=D->φ1 g->z g W->W.heap[D]? = some (.deferred (some []))->Q .ret { a with defers:={ target:= .collected D,args:=#[] }::a.defers } W) :
  (Code.rangeFunc g ps assign body).wpIn Fence.wide 0 P Q a w:=by
 refine wpIn_rangeFunc ?_;intro fn a2;obtain⟨d,b⟩:∃d:LoopState->Option Code->Loop,d=λst pe=>{ state:=st,pending:=pe,fn:=fn,tmps:=a.tmps,params:=ps,assign:=assign,body:=body,defers:=w.heap.size }:=⟨_,rfl⟩;obtain⟨f,i⟩:∃f,(w.alloc (.deferred (some []))).alloc (.loop (d .ready none))=f:=⟨_,rfl⟩;have I:f.heap[w.heap.size+1]? = some (.loop (d .ready none)):=by rw [<-i];have:=World.alloc_heap_new (w.alloc (.deferred (some []))) (.loop (d .ready none));rwa [World.size_alloc]at this
 have F:f.heap[w.heap.size]? = some (.deferred (some [])):=by rw [<-i];exact(Below.heap_alloc _ _ _ O7).trans (World.alloc_heap_new w _)
 have m:Below w.heap.size w f:=by rw [<-i];exact((Below.refl _ w).alloc (aH _) _).alloc O7 _
 have a8:f.heap.size=w.heap.size+2:=by rw [<-i];simp
 have e0:(#[.func (.yield (w.heap.size+1)) #[] #[]] ++ y.toArray:Array Value)=(Value.func (.yield (w.heap.size+1)) #[] #[]::y).toArray:=O7;refine⟨w.heap.size+1,[{ target:= .collected w.heap.size,args:=#[] }],f,{ target:= .fn (.func s) y.toArray,args:=#[.func (.yield (w.heap.size+1)) #[] #[]] },f,s,
  (Value.func (.yield (w.heap.size+1)) #[] #[]::y).toArray,f,?_,?_,λ_ _=>trivial,?_,λh=>(by cases h),?_⟩
 .rw [<-i,b];exact run_enterLoop_outer _ _ _ _ _
 .simp only [resolve,hg];simp [go_sem]
 .simp [invoke,go_sem,eg]
 .refine callsIn_wide.2 ((hc (w.heap.size+1) (λW=>W.heap[w.heap.size+1]? = some (.loop (d .done (some .ret)))/\W.heap[w.heap.size]? = some (.deferred (some []))/\∃g,φ1 g/\z g W) f
   (λp a5=>p.stable _ _ (hp p a5) (Chg.of_below m)) ?_).mono ?_)
  .intro x Y W k;have q:W.heap[w.heap.size+1]? = some (.loop (d .ready none)):=(k.block _ O).trans I;have hk:W.heap[w.heap.size]? = some (.deferred (some [])):=(k.block _ O).trans F;have hy:=run_yield (P:=P) (args:=#[xv x]) q (by rw [b];simp [a6]);have hr:=j x Y (w.heap.size+1) w.heap.size W (.loop (d .ready none)) (.loop { d .ready none with state:= .busy }) (.deferred (some [])) (m.trans (k.mono O)) O (aH _) O q hk;rw [b]at hy;refine⟨fn,_,assign,body,hy,roundIn_of_wpIn a2 ?_⟩;refine wpIn_mono hr ?_;intro e a1 S u;cases e with
   | normal=>
    obtain⟨a4,a7,n⟩:=u;refine⟨_,run_beginRound a4 (by rw [b]),wpIn_mono n ?_⟩;rintro e a3 V ⟨rfl,M,a0,hj⟩;have:=run_endRound (P:=P) (some .ret) M;have R:=(aR.1 M).1;refine⟨_,_,this,rfl,?_,(World.putObj_heap_other O).trans a0,x,Y,B _ _ _ _ O hj⟩;rw [World.putObj_heap_same R,b];rfl
   | exit id=>exact u.elim
   | goto t=>exact u.elim
   | ret=>exact u.elim
   | panic c=>exact u.elim
   | outgrown=>exact u.elim
  .rintro e S ⟨⟨v,rfl⟩,⟨h0,Z⟩|⟨q,hd,x,Y,hj⟩⟩
   .have q:S.heap[w.heap.size+1]? = some (.loop (d .ready none)):=(Z.block _ O).trans I;have hk:S.heap[w.heap.size]? = some (.deferred (some [])):=(Z.block _ O).trans F;refine⟨none,_,by have:=run_endLoop (P:=P) q (by rw [b];simp);rw [b]at this;exact this,?_⟩;refine o _ _ (aH _) h0 ?_ ((World.putObj_heap_other O).trans hk);exact(m.trans (Z.mono O)).trans (belowK_b (w:=w) (aH _) S _ _ _ O q rfl rfl)
   .refine⟨some .ret,_,by have:=run_endLoop (P:=P) q (by rw [b];simp);rw [b]at this;exact this,wpIn_ret ?_⟩;exact r x _ _ (aH _) Y (B _ _ _ _ O hj) ((World.putObj_heap_other O).trans hd)
end Go.Sky
namespace Go.Sky
open Go.RowKit Below
variable{f:FuncId}{vs:List Value}{pre:List Pc}{o:Oper}{a:Act}{w:World}{K K':Act->World->Prop}{r:Nat}{ρ:Operand->Value}{Q1:Exit->Act->World->Prop}
variable {P:Program} {N:Nat} {sc:Nat->Prop} {env env':Xu} {H H':Hp} {Q Q':Exit->Act->World->Prop}
def Zek(P:Program)(fn:Func)(w0:World)(pre:List Pc)(al:Bool){G:Type}(φ:G->Prop)(val:G->Value)(c:G->List Pc):Exit->Act->World->Prop:=
  bodyPostM Fence.wide 0 P fn λe d => ∃ g, e = .returned (val g) /\ φ g /\ Below w0.heap.size w0 d /\
        ∀p∈c g,p.holds d/\p.own=false/\∀b,p.fp b->w0.heap.size<=b\/(al=true/\∃q∈pre,q.fp b)
theorem Yfj  {fn:Func} {c:Code}   {al:Bool} {G:Type} {φ:G->Prop} {val:G->Value} {k:G->List Pc} {N:Nat}
    (F:P.funcs[f]? = some fn) (d:fn.body=some c) (B:fn.ntmps=N) (s:Nat.ble vs.length N=true) (y:AllRo pre)
    (h:∀w0 (sc:Nat->Prop),(∀b,w0.heap.size<=b->sc b)->(∀b,sc b->w0.heap.size<=b\/∃q∈pre,q.fp b)->
      E P N sc c (Zek P fn w0 pre al φ val k) (Pa 0 vs) ((0,Xm w0 (λ_=>False))::Qc 1 pre)) :
    Cal P f vs.toArray pre al φ val k:=λw M=>by
  refine(callsIn_wide (n:=0)).1 (callsIn_of_wp_marks F d aA (wpIn_wide.2 (h w (λb=>w.heap.size<=b\/∃q∈pre,q.fp b) (λb d=> .inl d) (λb d=>d) _ w ?_)));have z:vs.length<=N:=by simpa using s
  refine⟨by simp [B];omega,rfl,λt v R=>?_,λi p hi=>?_,λi j p q I hi S x b d D=>?_,λi p m hi b d=>?_⟩
  . have l:=(Kw vs 0 t v R).2;have l:vs.toArray[t]? = some v:=by simpa using l
    have u:=(aR.1 l).1;rw [bF,eD u,l];rfl
  . by_cases g:0=i
    . subst g;rw [Zz]at hi;cases hi;exact Chg.refl _ w
    . rw [Zj g]at hi;exact M p (Pt pre 1 i p hi).2
  . by_cases g:0=i
    . subst g;rw [Zz]at hi;cases hi;cases x
    . rw [Zj g]at hi;rw [y.mem p (Pt pre 1 i p hi).2]at x;cases x
  . rw [Zj (λe=>m e.symm)]at hi;exact .inr ⟨p,(Pt pre 1 i p hi).2,d⟩
def onlyR(Q:Exit->Act->World->Prop):Exit->Act->World->Prop:=Gn Q
def Gz:¬LetsOut (Gn Q):=λ⟨_,_,h⟩=>h
theorem Ydo(d:∀c,o.op≠ .defer c)(h:o.wp P a w K (Gn Q)):o.wpIn (Fence.wide.inRound r) 0 P a w K Q:=by
  refine⟨λ_ _=>trivial,?_⟩;unfold Oper.wp at h;show o.uponIn (Fence.wide.inRound r) 0 P a K Q ((o.semAt (some r) a.eval).run P w);rw [Oper.semAt_some r _ o d];generalize (execOp a.eval o).run P w=x at *;cases x with
  | ok n g=>
    cases n<;>simp only [Oper.upon,Oper.uponIn]at h ⊢
    case value=>exact h
    case skip=>exact h
    case defer=>exact h
    case enter f args=>
      refine⟨λh=>(by cases h),CallsIn.inRound r (callsIn_wide.2 (h.mono λe i b=>?_))⟩;cases e with
      | returned v=>exact b
      | panicked c=>exact b.elim
      | outgrown=>exact absurd b Gz
    case row row args=>exact⟨λh=>(by cases h),Zm4 (n:=0) h⟩
  | halt x g=>
    cases x<;>simp only [Oper.upon]at h
    case panic u=>exact h.elim
def Zkn(l:List Oper):Prop:=∀o∈l,∀c,o.op≠ .defer c
theorem Zkt{ops:Array Oper}{r:Nat} : ∀(l:List Oper) (a:Act) (w:World),Zkn l->wpList P ops (Gn Q) l a w->wpListIn (Fence.wide.inRound r) 0 P ops Q l a w
  | [],_,_,_,h=>h
  | o::l,a,w,hnd,h=>by
    unfold wpList at h;unfold wpListIn;split
    . rename_i c;simp only [c,gP]at h;exact Oper.wpIn_mono (λa w d=>Zkt l a w (λo b=>hnd o (aT _ b)) d) (Ydo (hnd o (bM ..)) (h.resolve_right λh=>Gz h.2))
    . rename_i c;simp only [c]at h;exact⟨λ_ _=>trivial,Zkt l _ w (λo b=>hnd o (aT _ b)) h⟩
def Zya{id:Nat}{l:List Oper}(b:Zkn l)(h:L P N sc l.toArray l (Gn Q) env H)(hs:Sat N sc env H a w):(Code.region id l.toArray false).wpIn (Fence.wide.inRound r) 0 P Q a w:=
  wpIn_region_lit (Zkt l a w b (h a w hs))
def fx(l:Nat)(o:Obj):Pc:=
  { own:=false,fp:=λb=>b=l,holds:=λw=>w.heap[l]? = some o
    lt:=λw b h c=>by subst c;exact(aR.1 h).1
    stable:=λw g h d=>(d.block l (aR.1 h).1 (λe=>e rfl)).trans h }
def Hs(o:Oper):Bool:=match o.op with
  | .build ..=>true
  | .store ..=>true
  | .load ..=>true
  | .alloc ..=>true
  | _=>false
theorem Zym(h:Hs o=true){w':World}{d:Deferred} : (execOp ρ o).run P w≠ .ok (.defer d) w':=λb=>by
  unfold Hs at h;cases ho:o.op<;>simp only [ho]at h<;>try (cases h;done)
  all_goals
    simp only [execOp,ho,Sem.run_bind]at b;revert b;generalize Sem.run P _ w=r;cases r<;>simp [Result.andThen,Sem.run_pure]
theorem Zvk(h:Hs o=true):∀c,o.op≠ .defer c:=λc b=>by unfold Hs at h;rw [b]at h;cases h
theorem Zgl(a:Act)(ds:List Deferred)(d:Option Tmp)(v:Value):({ a with defers:=ds } : Act).put d v={ a.put d v with defers:=ds }:=by cases d<;>rfl
theorem Ydq    {ds:List Deferred}   (i:Hs o=true) (g:∀a w,K a w->K' { a with defers:=ds } w)
    (k:∀e a w,¬Q1 e a w) (h:o.wp P a w K Q1):o.wp P { a with defers:=ds } w K' Q:=by
  unfold Oper.wp at h ⊢;have j:=λd w'=>Zym (P:=P) i (ρ:=a.eval) (w:=w) (w':=w') (d:=d);show o.upon P _ K' Q ((execOp a.eval o).run P w);generalize (execOp a.eval o).run P w=x at *;cases x with
  | ok n w'=>
    cases n<;>simp only [Oper.upon]at h ⊢
    case value=>rw [Zgl];exact g _ _ h
    case skip=>rw [Zgl];exact g _ _ h
    case defer d=>exact absurd rfl (j d w')
    case enter f args=>
      refine h.mono λe l b=>?_;cases e with
      | returned v=>show K' (({ a with defers:=ds } : Act).put o.dst v) l;rw [Zgl];exact g _ _ b
      | panicked c=>exact(k _ _ _ b).elim
      | outgrown=>obtain⟨_,_,h⟩:=b;exact(k _ _ _ h).elim
    case row row args=>exact h.mono λ_ _ b=>by rw [Zgl];exact g _ _ b
  | halt x w'=>
    cases x<;>simp only [Oper.upon]at h
    case panic u=>exact(k _ _ _ h).elim
theorem Zku{ops:Array Oper}{ds:List Deferred} : ∀(l:List Oper) (a:Act) (w:World),l.all Hs=true->wpList P ops (Gn λe a w=>Q e { a with defers:=ds } w) l a w->wpList P ops Q l { a with defers:=ds } w
  | [],_,_,_,h=>h
  | o::l,a,w,hnd,h=>by
    simp only [kR,aL]at hnd;unfold wpList at h ⊢;split
    . rename_i d;simp only [d,gP]at h;have h:=h.resolve_right λh=>Gz h.2;refine .inl (Ydq (Q1:=noQ) hnd.1 (λa w g=>Zku l a w hnd.2 g) (λ_ _ _ h=>h) ?_);unfold Oper.wp at h ⊢;revert h;generalize (execOp a.eval o).run P w=x;intro h;cases x with
      | ok n i=>
        cases n<;>simp only [Oper.upon]at h ⊢
        case value=>exact h
        case skip=>exact h
        case defer=>exact h
        case enter f args=>
          refine h.mono λe j b=>?_;cases e with
          | returned v=>exact b
          | panicked c=>exact b
          | outgrown=>exact absurd b Gz
        case row row args=>exact h
      | halt x i=>
        cases x<;>simp only [Oper.upon]at h ⊢
        case panic u=>exact h
    . rename_i d;rw [aE d]at h;rw [Zgl];exact Zku l _ w hnd.2 h
def Zgv{l:List Oper}(h:l.all Hs=true):Zkn l:=λo b=>Zvk (bR.1 h o b)
end Go.Sky
namespace Go.Sky
open Go.RowKit Below
variable{a:Act}{w:World}{i:Nat}{lbv:List Value}
variable {P:Program} {N:Nat} {sc:Nat->Prop} {env env':Xu} {H H':Hp} {Q Q':Exit->Act->World->Prop}
abbrev ALL:Nat->Prop:=λ_=>True
def FpSub:Hp->Hp->Prop
 | [],_=>True
 | (i,p)::r,H=>(∃q,lk H i=some q/\p.own=q.own/\∀b,p.fp b->q.fp b)/\FpSub r H
theorem FpSub.lk:∀{H' H:Hp},FpSub H' H->∀i p,lk H' i=some p->∃q,lk H i=some q/\p.own=q.own/\∀b,p.fp b->q.fp b
 | [],_,_,_,_,h=>by cases h
 | (k,u)::r,H,h,i,p,hi=>by
  by_cases c:k=i
  .subst c;rw [Zz]at hi;cases hi;exact h.1
  .rw [Zj c]at hi;exact FpSub.lk h.2 i p hi
theorem Sat.re{w':World}(hs:Sat N sc env H a w)(l:∀i p,lk H' i=some p->∃q,lk H i=some q/\p.own=q.own/\∀b,p.fp b->q.fp b)(n:∀i p,lk H' i=some p->p.holds w'):Sat N ALL env H' a w':=
 ⟨hs.size,hs.defers,hs.env,n,λi j p q f hi o r b m c=>by obtain⟨s,h,g,d⟩:=l i p hi;obtain⟨t,k,_,e⟩:=l j q o;exact hs.sep i j s t f h k (g▸r) b (d b m) (e b c),λ_ _ _ _ _ _=>trivial⟩
theorem Sat.fx2{a:Act}{w w':World}{l D:Nat}{o k:Obj}(hs:Sat N sc env H a w')(f:∀i p,lk H i=some p->∀b,p.fp b->b<w.heap.size)(s:w.heap.size<=l)(t:w.heap.size<=D)(r:w'.heap[l]? = some o)(n:w'.heap[D]? = some k) :
  Sat N ALL env ((90,fx l o)::(91,fx D k)::H) a w':=by
 have hs:Sat N ALL env H a w':=⟨hs.size,hs.defers,hs.env,hs.hold,hs.sep,λ_ _ _ _ _ _=>trivial⟩;refine Sat.add (Sat.add hs 91 (fx D k) n (λj g _ d _ b e c=>?_) (λ_ _=>trivial)) 90 (fx l o) r (λj g q d My b e c=>?_) (λ_ _=>trivial)
 .have:=f j g d b c;have e:b=D:=e;omega
 .have e:b=l:=e;by_cases m:91=j
  .subst m;rw [Zz]at d;cases d;rcases My with h|h<;>cases h
  .rw [Zj m]at d;have:=f j g d b c;omega
def FpN:Hp->Hp->Prop
 | [],_=>True
 | (i,p)::r,H=>(p.own=true\/∃q,lk H i=some q/\∀b,p.fp b->q.fp b)/\FpN r H
theorem FpN.lk:∀{H' H:Hp},FpN H' H->∀i p,lk H' i=some p->p.own=true\/∃q,lk H i=some q/\∀b,p.fp b->q.fp b
 | [],_,_,_,_,h=>by cases h
 | (k,u)::r,H,h,i,p,hi=>by
  by_cases c:k=i
  .subst c;rw [Zz]at hi;cases hi;exact h.1
  .rw [Zj c]at hi;exact FpN.lk h.2 i p hi
theorem lk3{p q:Pc}{r:Pc}(h:lk ((90,p)::(91,q)::H) i=some r):(i=90/\r=p)\/(i=91/\r=q)\/(i≠90/\i≠91/\lk H i=some r):=by
 by_cases b:90=i
 .subst b;rw [Zz]at h;cases h;exact .inl ⟨rfl,rfl⟩
 .rw [Zj b]at h;by_cases c:91=i
  .subst c;rw [Zz]at h;cases h;exact .inr (.inl ⟨rfl,rfl⟩)
  .rw [Zj c]at h;exact .inr (.inr ⟨λe=>b e.symm,λe=>c e.symm,h⟩)
theorem Zqd{p q:Pc}(b:i≠90)(c:i≠91):lk ((90,p)::(91,q)::H) i=lk H i:=by rw [Zj (λe=>b e.symm),Zj (λe=>c e.symm)]
theorem Sat.turn{l D:Nat}{o o2 g:Obj}(hs:Sat N ALL env ((90,fx l o)::(91,fx D g)::H) a w)(f:l≠D)(q:∀i p,i≠90->i≠91->lk H i=some p->¬p.fp l) :
  Sat N ALL env ((90,fx l o2)::(91,fx D g)::H) a (w.putObj l o2):=by
 have n:w.heap[l]? = some o:=hs.hold 90 _ rfl;have m:w.heap[D]? = some g:=hs.hold 91 _ rfl;refine hs.re (λi p hi=>?_) (λi p hi=>?_)
 .rcases lk3 hi with⟨rfl,rfl⟩|⟨rfl,rfl⟩|⟨b,c,hi⟩
  .exact⟨_,rfl,rfl,λ_ h=>h⟩
  .exact⟨_,rfl,rfl,λ_ h=>h⟩
  .exact⟨p,by rw [Zqd b c];exact hi,rfl,λ_ h=>h⟩
 .rcases lk3 hi with⟨rfl,rfl⟩|⟨rfl,rfl⟩|⟨b,c,j⟩
  .exact World.putObj_heap_same (aR.1 n).1
  .exact(World.putObj_heap_other (λe=>f e.symm)).trans m
  .refine p.stable _ _ (hs.hold i p (by rw [Zqd b c];exact j)) ⟨rfl,rfl,rfl,O7,λk r d=>World.putObj_heap_other (λe=>d ?_)⟩;subst e;exact q i p b c j
theorem Sat.round(hs:Sat N sc env H a w)(d:Nat)(v:Value)(b:Nat.blt d N=true):Sat N sc ((d,v)::env) H { tmps:=(#[d].zip #[v]).foldl (λt (p,v)=>t.setIfInBounds p v) a.tmps,defers:=[] } w:=by
 have h:=hs.put d v b;have e:(a.put (some d) v)={ tmps:=(#[d].zip #[v]).foldl (λt (p,v)=>t.setIfInBounds p v) a.tmps,defers:=[] }:=by show({ a with tmps:=a.tmps.setIfInBounds d v } : Act)=_;rw [<-hs.defers];simp
 rw [<-e];exact h
theorem Mm{ops:Array Oper}{Q1 k:Exit->Act->World->Prop}(b:∀e a w,Q1 e a w->k e a w):∀(l:List Oper) (a:Act) (w:World),wpList P ops Q1 l a w->wpList P ops k l a w
 | [],_,_,h=>b _ _ _ h
 | o::l,a,w,h=>by
  unfold wpList at h ⊢;split
  .rename_i g;rw [aG g]at h;rcases h with h|⟨p,m,j,q⟩
   .refine .inl ?_;unfold Oper.wp at h ⊢;revert h;generalize (execOp a.eval o).run P w=x;intro h;cases x with
    | ok n j=>
     cases n<;>simp only [Oper.upon]at h ⊢
     case value=>exact Mm b l _ _ h
     case skip=>exact Mm b l _ _ h
     case defer=>exact Mm b l _ _ h
     case enter f args=>
      refine h.mono λe r d=>?_;cases e with
      | returned v=>exact Mm b l _ _ d
      | panicked c=>exact b _ _ _ d
      | outgrown=>obtain⟨a,w,h⟩:=d;exact⟨a,w,b _ _ _ h⟩
     case row row args=>exact h.mono λ_ _ d=>Mm b l _ _ d
    | halt x j=>
     cases x<;>simp only [Oper.upon]at h ⊢
     case panic u=>exact b _ _ _ h
   .exact .inr ⟨p,m,j,b _ _ _ q⟩
  .rename_i g;rw [aE g]at h;exact Mm b l _ _ h
theorem e_rf {g:Operand} {gf d b6 b7 b8 bk a5:Nat}  {pre f:List Pc} {φ0:Prop} {G:Type} {φ1:G->Prop} {xv:G->Value} {la lb lc:List Oper} {fn:Func} {w0:World} {v:Value}
  {Hn:Hp} {Hr:G->Hp} {env1:G->Nat->Xu} {H1:G->Nat->Hp}
  (hg:ev env g=some (.func (.func gf) #[] lbv.toArray)) (eg:∀args w,(callFunc gf args).run P w= .ok (.enter gf args) w) (hc:Yfs P gf lbv pre φ0 φ1 xv)
  (hp:∀p∈pre,∃i,lk H i=some p) (hd:Nat.blt d N=true) (h0:lk H 0=some (Xm w0 (λ_=>False)))
  (b0:la.all Hs=true) (b1:lb.all Hs=true) (b2:lc.all Hs=true)
  (hA:∀x,φ1 x->∀l o D u,L P N ALL la.toArray la (Gn λe a w=>e= .normal/\∃b,Sat N ALL (env1 x b) ((90,fx l o)::(91,fx D u)::H1 x b) a w) ((d,xv x)::env) ((90,fx l o)::(91,fx D u)::H))
  (hB:∀x b,φ1 x->∀l o D u,L P N ALL lb.toArray lb (Gn λe a w=>e= .normal/\Sat N ALL [] ((90,fx l o)::(91,fx D u)::Hr x) a w) (env1 x b) ((90,fx l o)::(91,fx D u)::H1 x b))
  (hC:φ0->∀l o D u,L P N ALL lc.toArray lc (Gn λe a w=>e= .normal/\Sat N ALL env ((90,fx l o)::(91,fx D u)::Hn) a w) env ((90,fx l o)::(91,fx D u)::H))
  (a6:∀x b,FpN (H1 x b) H) (h9:∀x,lk (Hr x) 90=none/\lk (Hr x) 91=none) (m:lk Hn 90=none/\lk Hn 91=none)
  (S:∀x,FpSub (Hr x) H) (a7:FpSub Hn H) (a8:∀x,lk (Hr x) 0=some (Xm w0 (λ_=>False))) (a9:lk Hn 0=some (Xm w0 (λ_=>False)))
  (Z:∀x,φ1 x->∀a w,Sat N ALL env (Hr x) a w->(results fn a.tmps).run P w= .ok v w)
  (Y:φ0->∀a w,Sat N ALL env Hn a w->(results fn a.tmps).run P w= .ok v w) :
  E P N sc (.rangeFunc g #[d] (.region b6 la.toArray false) (.block bk (.seq (.region b7 lb.toArray false) .ret)))
   (Exit.inBlock a5 (Exit.then ((Code.seq (.region b8 lc.toArray false) .ret).wp P (Zek P fn w0 f false (G:=Unit) (λ_=>True) (λ_=>v) (λ_=>[]))) (Zek P fn w0 f false (G:=Unit) (λ_=>True) (λ_=>v) (λ_=>[])))) env H:=λa w hs=>by
 have t:∀i p,lk H i=some p->∀b,p.fp b->b<w.heap.size:=λi p hi b hb=>p.lt w b (hs.hold i p hi) hb;have a4:∀W,Below w.heap.size w W->Sat N ALL env H a W:=λW hB=>⟨hs.size,hs.defers,hs.env,λi p hi=>p.stable _ _ (hs.hold i p hi) (Chg.of_below hB),hs.sep,λ_ _ _ _ _ _=>trivial⟩;have F:∀(I:Act) (W:World) (D:Nat) (Hx:Hp),lk Hx 0=some (Xm w0 (λ_=>False))->FpSub Hx H->(∀a w,Sat N ALL env Hx a w->(results fn a.tmps).run P w= .ok v w)->w.heap.size<=D->W.heap[D]? = some (.deferred (some []))->
   Sat N ALL env Hx I W->Zek P fn w0 f false (G:=Unit) (λ_=>True) (λ_=>v) (λ_=>[]) .ret { I with defers:={ target:= .collected D,args:=#[] }::[] } W:=by
  intro I W D Hx hk hf a2 B r c;refine⟨O7,.inl ⟨_,_,rfl,run_takeDeferred r,?_⟩⟩;have z:Sat N ALL env Hx I (W.putObj D (.deferred none)):=⟨c.size,c.defers,c.env,λi p hi=>p.stable _ _ (c.hold i p hi) ⟨rfl,rfl,rfl,O7,λk hk hn=>by refine World.putObj_heap_other (λe=>hn ?_);subst e;intro s;obtain⟨q,hq,_,R⟩:=hf.lk i p hi;have:=t i q hq _ (R _ s);omega⟩,c.sep,c.scope⟩
  exact⟨_,a2 I _ z,(),rfl,aA,Nw (z.hold 0 _ hk),λp hp=>by cases hp⟩
 refine(wpIn_wide (n:=0)).1 (Ycg (hs.ev hg) eg hc (λp b5=>by obtain⟨i,hi⟩:=hp p b5;exact hs.hold i p hi) rfl (λx W=>∀i p,lk (Hr x) i=some p->p.holds W) ?_ ?_ ?_ ?_)
 .intro x W l o' hl hJ i p hi;refine p.stable _ _ (hJ i p hi) ⟨rfl,rfl,rfl,O7,λk hk hn=>World.putObj_heap_other (λe=>hn ?_)⟩;subst e;intro s;obtain⟨q,hq,_,R⟩:=(S x).lk i p hi;have:=t i q hq _ (R _ s);omega
 .intro x hx l D W o1 o2 u M hl B V b4 b3;have s1:=((a4 W M).round d (xv x) hd).fx2 (w:=w) t hl B b4 b3;refine wpIn_mono (Zya (Zgv b0) (hA x hx l o1 D u) s1) ?_;rintro e a1 W1 ⟨rfl,b,y⟩;refine⟨y.hold 90 _ rfl,y.hold 91 _ rfl,?_⟩;have z:=y.turn (o2:=o2) V (λi p h1 h2 hi s=>by
   rcases(a6 x b).lk i p hi with ho|⟨q,hq,hf⟩
   .exact y.sep i 90 p (fx l o1) h1 (by rw [Zqd h1 h2];exact hi) rfl ho l s rfl
   .have:=t i q hq _ (hf _ s);omega)
  refine wpIn_block (wpIn_seq (wpIn_mono (Zya (Zgv b1) (hB x b hx l o2 D u) z) ?_));rintro e a3 W3 ⟨rfl,a0⟩;refine wpIn_ret ?_;refine⟨rfl,a0.hold 90 _ rfl,a0.hold 91 _ rfl,λi p hi=>a0.hold i p ?_⟩;rw [Zqd (λe=>by subst e;rw [(h9 x).1]at hi;cases hi) (λe=>by subst e;rw [(h9 x).2]at hi;cases hi)];exact hi
 .intro D W B hφ M r;obtain⟨l,hl⟩:∃l,W.heap[l]? = some (.deferred (some []))/\w.heap.size<=l:=⟨D,r,B⟩;have s1:=(a4 W M).fx2 (w:=w) t hl.2 B hl.1 r;have hL:=Zku (P:=P) (ops:=lc.toArray) (Q:=Exit.then (Code.ret.wp P (Zek P fn w0 f false (G:=Unit) (λ_=>True) (λ_=>v) (λ_=>[]))) (Zek P fn w0 f false (G:=Unit) (λ_=>True) (λ_=>v) (λ_=>[]))) (ds:={ target:= .collected D,args:=#[] }::[]) lc a W b2 ?_
  .rw [hs.defers];exact wp_seq (wp_region_lit hL)
  refine Mm (λe I W' h=>?_) lc a W (hC hφ l _ D _ a W s1);cases e with
  | normal=>
   obtain⟨-,c⟩:=h;refine wp_ret (F I W' D Hn a9 a7 (Y hφ) B (c.hold 91 _ rfl) ⟨c.size,c.defers,c.env,λi p hi=>c.hold i p ?_,?_,λ_ _ _ _ _ _=>trivial⟩)
   .rw [Zqd (λe=>by subst e;rw [m.1]at hi;cases hi) (λe=>by subst e;rw [m.2]at hi;cases hi)];exact hi
   .intro i j p q V hi hj;refine c.sep i j p q V ?_ ?_
    .rw [Zqd (λe=>by subst e;rw [m.1]at hi;cases hi) (λe=>by subst e;rw [m.2]at hi;cases hi)];exact hi
    .rw [Zqd (λe=>by subst e;rw [m.1]at hj;cases hj) (λe=>by subst e;rw [m.2]at hj;cases hj)];exact hj
  | _=>exact h.elim
 .intro x D W B hx hJ r;have c:Sat N ALL env (Hr x) a W:=hs.re (S x).lk hJ;have:=F a W D (Hr x) (a8 x) (S x) (Z x hx) B r c;rw [hs.defers];exact this
end Go.Sky
namespace Go.Sky
open Go.RowKit Below
variable {P:Program} {N:Nat} {sc:Nat->Prop} {env env':Xu} {H H':Hp} {Q Q':Exit->Act->World->Prop}
def YJI(P:Program)(w0:World)(l:Nat)(M:Nat->Prop)(J:Nat->World->Prop)(f:World->Prop){α G:Type}(xs:List α)(ys:α->G->List Value)(d:α->G->List Pc):Prop:=
 ∀k x g,xs[k]? = some x->∀W a,J k W->w0.heap.size<=W.heap.size->Below W.heap.size W a->(∀p∈d x g,p.holds a/\p.own=false/\∀b,p.fp b->W.heap.size<=b)->
  YieldAt Fence.wide 0 P l (ys x g).toArray a λe c=>(e= .returned (.bool true)/\J (k+1) c/\Chg (λb=>M b\/w0.heap.size<=b) a c)\/(e= .returned (.bool false)/\f c/\Chg (λb=>M b\/w0.heap.size<=b) a c)
def Stays(J:World->Prop):Prop:=∀W a,J W->Below W.heap.size W a->J a
def CalI(P:Program)(f:FuncId)(g:List Value)(pre:List Pc){α G:Type}(xs:List α)(ys:α->G->List Value)(c:α->G->List Pc):Prop:=
 ∀(l:Nat) (M:Nat->Prop) (J:Nat->World->Prop) (a:World->Prop) (w:World),
  (∀p∈pre,p.holds w)->(∀p∈pre,∀b,p.fp b->¬M b)->(∀k,Stays (J k))->Stays a->J 0 w->YJI P w l M J a xs ys c->
  Calls P f (.func (.yield l) #[] #[]::g).toArray w λe d=>(∃v,e= .returned v)/\(J xs.length d\/a d)
def FPostI(P:Program)(fn:Func)(n:Nat)(J:Nat->World->Prop)(b:World->Prop):Exit->Act->World->Prop:=
 bodyPost P fn λe a=>(∃v,e= .returned v)/\(J n a\/b a)
def LI(P:Program)(N:Nat)(sc:Nat->Prop)(ops:Array Oper)(b:List Oper)(Q:Exit->Act->World->Prop)(env:Xu)(H:Hp):Prop:=
 ∀a w,Sat N sc env H a w->wpListIn Fence.wide 0 P ops Q b a w
theorem Sat.base {w0 r m:World} {M:Nat->Prop} {pre:List Pc} {a:Act} (hs:Sat N sc env H a r) (l:∀p∈pre,∀b,p.fp b->b<w0.heap.size/\¬M b) (o:AllRo pre) (c:HSub (Qc 1 pre) H)
  (f:Chg (λb=>M b\/w0.heap.size<=b) r m):Sat N sc env ((0,Xm m (λ_=>False))::Qc 1 pre) a m:=by
 refine⟨hs.size,hs.defers,hs.env,λi p hi=>?_,λi j p q x hi z n b s t=>?_,λi p g hi b s=>?_⟩
 .by_cases d:0=i
  .subst d;rw [Zz]at hi;cases hi;exact Chg.refl _ _
  .rw [Zj d]at hi;have y:=(Pt pre 1 i p hi).2;refine p.stable _ _ (hs.hold i p (c.lk i p hi)) ⟨f.os,f.tape,f.output,f.size,λk v w=>f.block k v (λu=>?_)⟩;have:=l p y k (jA.1 w);rcases u with h|h
   .exact this.2 h
   .omega
 .by_cases d:0=i
  .subst d;rw [Zz]at hi;cases hi;cases n
  .rw [Zj d]at hi;rw [o.mem p (Pt pre 1 i p hi).2]at n;cases n
 .rw [Zj (λe=>g e.symm)]at hi;exact hs.scope i p g (c.lk i p hi) b s
end Go.Sky
namespace Go.Sky
open Go.RowKit Below
variable{w W W':World}{m:Nat}{Mf:Nat->Prop}{Hn:Hp}
variable {P:Program} {N:Nat} {sc:Nat->Prop} {env env':Xu} {H H':Hp} {Q Q':Exit->Act->World->Prop}
def FpM:Hp->Hp->Prop
 | [],_=>True
 | (i,p)::r,H=>(p.own=true\/∀b,p.fp b->∃j q,lk H j=some q/\q.fp b)/\FpM r H
theorem FpM.lk:∀{H' H:Hp},FpM H' H->∀i p,lk H' i=some p->p.own=true\/∀b,p.fp b->∃j q,lk H j=some q/\q.fp b
 | [],_,_,_,_,h=>by cases h
 | (k,u)::r,H,h,i,p,hi=>by
  by_cases a:k=i
  .subst a;rw [Zz]at hi;cases hi;exact h.1
  .rw [Zj a]at hi;exact FpM.lk h.2 i p hi
structure Kps (sc:Nat->Prop) (w:World) (m:Nat) (Mf:Nat->Prop) (Hn:Hp) (W:World):Prop where
 hold:∀i it,lk Hn i=some it->it.holds W
 sep:∀i j it jt,i≠j->lk Hn i=some it->lk Hn j=some jt->it.own=true->∀b,it.fp b->jt.fp b->False
 scope:∀i it,i≠0->lk Hn i=some it->∀b,it.fp b->sc b
 off:∀i it,lk Hn i=some it->it.own=false->∀b,it.fp b->b<w.heap.size\/m<=b
 mf:∀i it,lk Hn i=some it->it.own=true->∀b,it.fp b->Mf b
def Mof(m:Nat)(H:Hp)(b:Nat):Prop:=(∃i q,lk H i=some q/\q.own=true/\q.fp b)\/m<=b
def Kps.chg(h:Kps sc w m Mf Hn W)(c:∀i a,lk Hn i=some a->Chg (λb=>¬a.fp b) W W'):Kps sc w m Mf Hn W':=
 ⟨λi a hi=>a.stable _ _ (h.hold i a hi) (c i a hi),h.sep,h.scope,h.off,h.mf⟩
def Kps.stays(h:Kps sc w m Mf Hn W)(a:Below W.heap.size W W'):Kps sc w m Mf Hn W':=h.chg λ_ _ _=>Chg.of_below a
theorem Kps.put{d:Nat}{o:Obj}(h:Kps sc w m (Mof m H) Hn W)(a:∀i q,lk H i=some q->∀b,q.fp b->b<w.heap.size)(p:w.heap.size<=d/\d<m):Kps sc w m (Mof m H) Hn (W.putObj d o):=
 h.chg λi f hi=>⟨rfl,rfl,rfl,O7,λk r l=>World.putObj_heap_other (λe=>l λg=>by
  subst e;cases ho:f.own with
  | false=>rcases h.off i f hi ho _ g with h|h<;>omega
  | true=>
   rcases h.mf i f hi ho _ g with⟨j,q,n,_,c⟩|h
   .have:=a j q n _ c;omega
   .omega)⟩
def keepAt(H:Hp)(w0:World):Prop:=lk H 0=some (Xm w0 (λ_=>False))/\lk H 92=none
def Mfs(sc:Nat->Prop)(m:Nat)(H:Hp)(b:Nat):Prop:=Mof m H b\/¬sc b
theorem Sat.ps {t M:World} {n:Nat} {d:Hp} {a:Act} (hs:Sat N sc env ((n,Xm t (Mfs sc m H))::Hn) a M) (o:lk Hn n=none) (a0:n≠0) (V:∀q,lk Hn 0=some q->q.own=false) (hb:m<=t.heap.size)
  (Y:FpM Hn d) (F:∀j q,lk d j=some q->∀b,q.fp b->q.own=true->Mof m H b) (r:∀j q,lk d j=some q->∀b,q.fp b->q.own=false->b<w.heap.size\/m<=b) (z:∀i q,lk H i=some q->∀b,q.fp b->b<w.heap.size):Kps sc w m (Mof m H) Hn M:=by
 have g:∀i c,lk Hn i=some c->lk ((n,Xm t (Mfs sc m H))::Hn) i=some c:=λi c hi=>by
  by_cases R:n=i
  .subst R;rw [o]at hi;cases hi
  .rw [Zj R];exact hi
 have B:∀i c,lk Hn i=some c->c.own=true->∀b,c.fp b->Mof m H b:=λi c hi p b f=>by
  have k:i≠n:=λe=>by subst e;rw [o]at hi;cases hi
  have v:i≠0:=λe=>by subst e;rw [V c hi]at p;cases p
  have I:=hs.scope i c v (g i c hi) b f;have:=hs.sep i n c _ k (g i c hi) (Zz _ _ _) p b f;by_cases l:b<t.heap.size
  .rcases(jA.1 λu=>this ⟨l,u⟩:Mfs sc m H b)with h|h
   .exact h
   .exact absurd I h
  .exact .inr O
 refine⟨λi c hi=>hs.hold i c (g i c hi),λi j c S D hi Z=>hs.sep i j c S D (g i c hi) (g j S Z),λi c y hi=>hs.scope i c y (g i c hi),λi c hi p b f=>?_,B⟩;rcases Y.lk i c hi with h|h
 .rw [p]at h;cases h
 .obtain⟨j,q,u,s⟩:=h b f;cases hqo:q.own with
  | false=>exact r j q u b s hqo
  | true=>
   rcases F j q u b s hqo with⟨i',q',G,_,x⟩|h
   .exact .inl (z i' q' G b x)
   .exact .inr h
def LpAt(l:Nat)(Mf:Nat->Prop)(W:World):Prop:=(∃r,W.heap[l]? = some (.loop r))/\¬Mf l
def RBn(n:Nat)(N:Nat)(sc:Nat->Prop)(Mf:Nat->Prop)(b:Hp){h i:Type}(j:h->Hp)(g:h->Prop)(k:i->Hp)(c:i->Prop)(l:World):Exit->Act->World->Prop:=λe a W=>
 (e= .normal/\∃d,g d/\FpM (j d) b/\∃env',Sat N sc env' ((n,Xm l Mf)::j d) a W)\/(e= .ret/\∃f,c f/\FpM (k f) b/\∃env',Sat N sc env' ((n,Xm l Mf)::k f) a W)
def RAn(n:Nat)(P:Program)(N:Nat)(sc:Nat->Prop)(l:Nat)(Mf:Nat->Prop)(b:Hp)(body:Code){i j:Type}(k:i->Hp)(h:i->Prop)(o:j->Hp)(f:j->Prop)(p:World):Exit->Act->World->Prop:=λe a W=>
 e= .normal/\∃c d,lk d n=none/\(∀q,lk d 0=some q->q.own=false)/\FpM d b/\Sat N sc c ((n,Xm p Mf)::d) a W/\
  ∀g,LpAt l Mf g->∀a W,Sat N sc c ((n,Xm g Mf)::d) a W->body.wpIn (Fence.wide.inRound l) 0 P (RBn n N sc Mf b k h o f g) a W
@[reducible] def renv:List Nat->List Value->Xu->Xu
 | p::ps,v::vs,env=>renv ps vs ((p,v)::env)
 | _,_,env=>env
theorem Sat.rounds{w:World} : ∀(ps:List Nat) (vs:List Value) {env:Xu} {a:Array Value},(ps.all λp=>Nat.blt p N)=true->Sat N sc env H { tmps:=a,defers:=[] } w->
  Sat N sc (renv ps vs env) H { tmps:=(ps.zip vs).foldl (λt b=>t.setIfInBounds b.1 b.2) a,defers:=[] } w
 | [],_,_,_,_,h=>h
 | _::_,[],_,_,_,h=>h
 | p::ps,v::vs,env,a,hp,h=>by simp only [kR,aL]at hp;exact Sat.rounds ps vs (env:=(p,v)::env) hp.2 (h.put p v hp.1)
end Go.Sky
namespace Go.Sky
open Go.Proofs.Tryz
open Go.Proofs
set_option synthInstance.maxHeartbeats 0
set_option synthInstance.maxSize 100000
set_option maxRecDepth 20000
set_option linter.unusedSimpArgs false
variable{o i f:Nat}{m ov:Int}{p:Nat->Bool}{x y z:List Int}
abbrev Ip (o:Nat) (m:Int) (g:Zl):List Int:=Im o m g.1.2.2 (g.1.2.1-g.1.1) g.2.1.2 g.2.2.1.2 g.2.2.2.2
def Zc6(o:Nat)(ps:List Zl)(m:Int):Bool:=ps.all λg=>!Gx (Ip o m g)
theorem Yea{ps:List Zl}(hi:i<ps.length)(h:Gx (Ip o m (ps.getD i G0))=true):Zc6 o ps m=false:=by
 cases hb:Zc6 o ps m with
 | false=>rfl
 | true=>
  have:=bR.1 hb _ (Zo (d:=G0) hi);rw [h]at this;cases this
theorem Yd9{ps:List Zl}(h:∀i,i<ps.length->Gx (Ip o m (ps.getD i G0))=false):Zc6 o ps m=true:=by unfold Zc6;rw [bR];intro g a;obtain⟨i,hi,rfl⟩:=fV.1 a;have:=h i hi;rw [aX,bB hi]at this;simp only [fZ]at this;rw [this];rfl
def Zdv(p:Nat->Bool):Nat->Nat->Nat->Nat
 | 0,i,_=>i
 | f+1,i,j=>if i<j then(if p ((i+j)/2)then Zdv p f i ((i+j)/2)else Zdv p f ((i+j)/2+1) j)else i
theorem Zu1{j:Nat}(h:¬i<j):Zdv p f i j=i:=by
 cases f with
 | zero=>rfl
 | succ f=>unfold Zdv;rw [aE h]
theorem srch_t{j:Nat}(h:i<j)(a:p ((i+j)/2)=true):Zdv p (f+1) i j=Zdv p f i ((i+j)/2):=by
 conv=>lhs;unfold Zdv
 rw [aG h,aG a]
theorem srch_f{j:Nat}(h:i<j)(a:p ((i+j)/2)=false):Zdv p (f+1) i j=Zdv p f ((i+j)/2+1) j:=by
 conv=>lhs;unfold Zdv
 rw [aG h,aE (by rw [a];exact dI)]
theorem sr_pos{j:Nat}(h:i<j)(a:j-i<2^f):∃g,f=g+1/\2^(g+1)=2*2^g:=by
 cases f with
 | zero=>rw [fC]at a;omega
 | succ g=>exact⟨g,rfl,by rw [bL,aJ]⟩
def Zcb(o:Nat)(ps:List Zl):Nat:=Zdv (λn=>Zc6 o ps (n:Int)) 14 0 10001
def joG(g h:Zl):Bool:=Zn3 g.1.1 g.1.2.1 g.1.2.2 g.2.1.2 g.2.2.1.2 g.2.2.2.2 h.1.1 h.1.2.1 h.1.2.2 h.2.1.2 h.2.2.1.2 h.2.2.2.2
def Zhb(ps:List Zl):Bool:=(List.range ps.length).all λi=>decide (i=0) || joG (ps.getD (i-1) G0) (ps.getD i G0)
theorem Yeb{ps:List Zl}(h:∀k,1<=k->k<ps.length->joG (ps.getD (k-1) G0) (ps.getD k G0)=true):Zhb ps=true:=by
 unfold Zhb;rw [bR];intro i hi;have hi:=eN.1 hi;rcases aU i with a|a
 .rw [aO a];rfl
 .rw [h i a hi,Bool.or_true]
theorem Yec{ps:List Zl}{k:Nat}(b:1<=k)(a:k<ps.length)(h:joG (ps.getD (k-1) G0) (ps.getD k G0)=false):Zhb ps=false:=by
 cases hb:Zhb ps with
 | false=>rfl
 | true=>
  have:=bR.1 hb k (eN.2 a);rw [h,aM O]at this;cases this
def Zca(ps:List Zl):Int×Int×Int:=
 if 10000<Zcb 1 ps\/10000<Zcb 2 ps then(0,0,3)else if Zhb ps then((Zcb 1 ps:Int),(Zcb 2 ps:Int),0)else(0,0,10)
def Zwz{ps:List Zl}(h:10000<Zcb 1 ps\/10000<Zcb 2 ps):Zca ps=(0,0,3):=aG h
theorem Ycs{ps:List Zl}(h:¬10000<Zcb 1 ps)(b:¬10000<Zcb 2 ps)(a:Zhb ps=false):Zca ps=(0,0,10):=by unfold Zca;rw [aE O,a];rfl
theorem topV_0{ps:List Zl}(h:¬10000<Zcb 1 ps)(b:¬10000<Zcb 2 ps)(a:Zhb ps=true):Zca ps=((Zcb 1 ps:Int),(Zcb 2 ps:Int),0):=by unfold Zca;rw [aE O,a];rfl
theorem Zsl{ps:List Zl}(d:∀g∈ps,Gin g)(c:Ok ps=true):∀g∈ps,SgG g:=λg b=>by obtain⟨i,hi,e⟩:=fV.1 b;have a:=Zsq ((Zvl c).1 i hi);rw [aX,bB hi,fZ,e]at a;exact Zj4 (d g b) a
def g8(g:Zl):Bool:=decide (g.2.1.2.length<=8) && decide (g.2.2.1.2.length<=8) && decide (g.2.2.2.2.length<=8)
def fewB(ps:List Zl)(m:Nat):Bool:=(List.range ps.length).all (λi=>decide (m<i) || g8 (ps.getD i G0)) && decide (ps.length<=m)
def axc(c:List Int):Bool:=!(decide (1<=c.length) && decide (c.length<=6) && !(decide (1<c.length) && decide (c.getD (c.length-1) 0=0)))
variable {P:Program} {N:Nat} {sc:Nat->Prop} {env env':Xu} {H H':Hp}
def dvL(c:List Int)(g:Int):List Int:=if c.length=0 then [0]else c.map (· / g)
def mdO(ov g:Int):Int:=if ov/g<=4294967296 then ov/g else 0
def mdL(ov g:Int)(c:List Int):List Int:=if ov/g<=4294967296 then dvL c g else []
def gcA(ov:Int)(x y z:List Int):Int:=Il ov (Lp 3 x y z)
structure Mdh (ov:Int) (x y z:List Int):Prop where
 o:0<ov
 b:bl ov.natAbs<=1000
 s:∀i,Sz 1000 (Yg i x y z)
 l:∀i,(Yg i x y z).length<=6
 c:∀i k,(cf (Yg i x y z) k).natAbs<=ov.natAbs*2146435072
def Ztd:∀(l:List Int) (g:Int),0<=g->0<=Il g l
 | [],_,h=>h
 | x::l,g,h=>Ztd l _ (mQ _)
theorem Zte:∀(l:List Int) (g:Int),Il g l∣g/\∀x∈l,Il g l∣x
 | [],g=>⟨Int.dvd_refl _,λx h=>nomatch h⟩
 | x::l,g=>by
  obtain⟨b,c⟩:=Zte l ((Int.gcd g x:Nat):Int);exact⟨fX b (jG ..),λy a=>by
   rcases bO.1 a with rfl|a
   .exact fX b (gT ..)
   .exact c y a⟩
theorem Zqb{a:Int}(hi:i<3)(h:a∈Yg i x y z):a∈Lp 3 x y z:=by
 match i,hi with
 | 0,_=>exact dH.2 (.inl (dH.2 (.inl h)))
 | 1,_=>exact dH.2 (.inl (dH.2 (.inr h)))
 | 2,_=>exact dH.2 (.inr h)
theorem Mdh.g(h:Mdh ov x y z):0<gcA ov x y z/\gcA ov x y z∣ov/\∀i,i<3->∀a∈Yg i x y z,gcA ov x y z∣a:=by
 obtain⟨b,c⟩:=Zte (Lp 3 x y z) ov;have d:=Ztd (Lp 3 x y z) ov (iV h.o);have g:=h.o;refine⟨?_,b,λi hi a e=>c a (Zqb hi e)⟩;rcases Int.lt_or_eq_of_le d with q|q
 .exact q
 .exact absurd (Int.zero_dvd.1 (q▸b)) O
theorem Mdh.fc(h:Mdh ov x y z)(i k:Nat):bl (Il (Il ov (Lp i x y z)) ((Yg i x y z).take k)).natAbs<=1000:=by
 have d:∀i,∀a∈Yg i x y z,bl a.natAbs<=1000:=λi a b=>by obtain⟨j,n⟩:=List.mem_iff_getElem?.1 b;have:=h.s i j;unfold cf at this;rw [aX,n]at this;exact this
 have l:∀a∈Lp i x y z,bl a.natAbs<=1000:=λa b=>by
  unfold Lp at b;have c:=d 0;have e:=d 1;have g:=d 2;simp only [Yg]at c e g;split at b
  .cases b
  .exact c a b
  .rcases dH.1 b with q|q
   .exact c a q
   .exact e a q
  .rcases dH.1 b with q|q
   .rcases dH.1 q with q|q
    .exact c a q
    .exact e a q
   .exact g a q
 exact Zdj (λa b=>d i a (dX b)) (Zdj l h.b)
abbrev C6 (a b c:Value) (f:Nat->Value):Array Value:=#[a,b,c,f 0,f 1,f 2]
def upd(f:Nat->Value)(i:Nat)(v:Value)(j:Nat):Value:=if j=i then v else f j
def fz(zs:List (SL×List Int))(j:Nat):Value:=Lh (zs.getD j ((none,0,0),[])).1
end Go.Sky
namespace Go.Sky
open Go.RowKit Below
variable {P:Program} {N:Nat} {sc:Nat->Prop} {env env':Xu} {H H':Hp} {Q Q':Exit->Act->World->Prop} {M:Nat->Prop}
section
variable {f:FuncId} {xs:List Operand} {ats:Array TypeId} {d:Nat} {vs:List Value} {pre:List Pc} {G:Type} {φ:G->Prop} {val:G->Value} {its:G->List Pc} {w0:World} {M0:Nat->Prop} {ty:TypeId} {pos:String} {af:Array Edge} {g:Option (Nat×Bool)}
end
end Go.Sky

