/- Rules, arithmetic and contracts: part 2. No conditions but those that each theorem names. -/
import Derived.Test.YteikicbnfbgpnaaGreatEa200
import Derived.Laws.Externs
import Derived.Lib.SliceRun
import Derived.Great.BuildSlice
import Derived.Laws.Small
import Derived.Laws.StructEq
set_option linter.all false
namespace Go.Sky
open Go.RowKit Below
variable{f:FuncId}{vs:List Value}{pre r:List Pc}{args cs:Array Value}{o:Oper}{x y:Operand}{t tb:TypeId}{k d:Nat}{v:Value}{w0:World}{M0:Nat->Prop}{ops:Array Oper}{rest:List Oper}{parts:Array (Nat×Operand)}
variable {P:Program} {N:Nat} {sc:Nat->Prop} {env env':Pw} {H H':Hp} {Q Q':Exit->Act->World->Prop} {M:Nat->Prop}
def Qz:Nat->List Value->Pw
  | _,[]=>[]
  | n,v::r=>(n,v)::Qz (n+1) r
def Xd:Nat->List Pc->Hp
  | _,[]=>[]
  | n,p::r=>(n,p)::Xd (n+1) r
def AllRo:List Pc->Prop
  | []=>True
  | p::r=>p.own=false/\AllRo r
theorem AllRo.mem:∀{l:List Pc},AllRo l->∀p∈l,p.own=false
  | p::r,h,q,a=>by
    cases a with
    | head=>exact h.1
    | tail _ a=>exact AllRo.mem h.2 q a
theorem Ft:∀(l:List Value) (n t:Nat) (v:Value),lk (Qz n l) t=some v->n<=t/\l[t-n]? = some v
  | [],_,_,_,h=>by cases h
  | u::r,n,t,v,h=>by
    simp only [Qz]at h;by_cases a:n=t
    . grind [Ys]
    . rw [Zx _ _ a]at h;obtain⟨b,c⟩:=Ft r _ t v h;grind
theorem Mp:∀(l:List Pc) (n t:Nat) (v:Pc),lk (Xd n l) t=some v->n<=t/\v∈l
  | [],_,_,_,h=>by cases h
  | u::r,n,t,v,h=>by
    simp only [Xd]at h;by_cases a:n=t
    . grind [Ys]
    . rw [Zx _ _ a]at h;obtain⟨b,c⟩:=Mp r _ t v h;grind
theorem cal_in  {fn:Func} {c:Code}   {al:Bool} {G:Type} {φ:G->Prop} {Yt:G->Value} {a:G->List Pc} {N:Nat}
    (s:P.funcs[f]? = some fn) (n:fn.body=some c) (m:fn.ntmps=N) (u:Nat.ble vs.length N=true) (g:AllRo pre)
    (h:∀w0 (sc:Nat->Prop),(∀b,w0.heap.size<=b->sc b)->(∀b,sc b->w0.heap.size<=b\/∃q∈pre,q.fp b)->
      E P N sc c (Zc6 P fn w0 pre al φ Yt a) (Qz 0 vs) ((0,Yy w0 (λ_=>False))::Xd 1 pre)) :
    Cal P f vs.toArray pre al φ Yt a:=
  Yhi s n m (λt v z=>by simpa using(Ft vs 0 t v z).2) O11
    (λw i p hi=>by
      by_cases j:0=i
      . grind [Ys]
      . rw [Zx _ _ j]at hi;obtain⟨_,l⟩:=Mp pre 1 i p hi;exact .inr ⟨λe=>j e.symm,l,g.mem p l⟩) h
def Cal.bare{al a:Bool}{G:Type}{φ:G->Prop}{Yt:G->Value}{b:G->List Pc}(h:Cal P f args pre al φ Yt b):Cal P f args pre a φ Yt (λ_=>[]):=
  λw c=>(h w c).mono λe m ⟨g,j,l,i,_⟩=>⟨g,j,l,i,λp c=>O5⟩
def Ones(N:Nat)(sc:Nat->Prop)(env:Pw)(H:Hp):List Value->Prop
  | []=>True
  | v::r=>One N sc env H v/\Ones N sc env H r
theorem Ones.mem:∀{l:List Value},Ones N sc env H l->∀u∈l,One N sc env H u
  | v::r,h,u,a=>by
    cases a with
    | head=>exact h.1
    | tail _ a=>exact Ones.mem h.2 u a
def t_stp    {i b j:Nat} {cs':Array Value}     (q:o.op= .store t x y) (n:o.dst=none)
    (z:ev env x=some (.pointer (some ⟨b,j,none⟩))) (B:ev env y=some v) (l:lk H i=some (box b tb cs)) (e:i≠0) (s:v.cells=vs.toArray) (p:∀w,(sizeOf t).run P w= .ok k w) (c:vs.length=k)
    (a:Nat.ble (j+vs.length) cs.size=true) (h:Ones N sc env H vs)
    (g:lk H 0=some (Yy w0 M0)) (u:∀b,w0.heap.size<=b->sc b) (m:M b) :
    T P N sc M o env H (G:=Unit) (λ_=>True) (λ_=>env) (λ_=>(i,box b tb (Fe cs j vs))::H):=
  Zjt q n z B l e s p c (iD a) h.mem rfl g u m
theorem t_stw (i:Nat)    {b:Nat}      (n:o.op= .store t x y) (l:o.dst=none)
    (u:ev env x=some (.pointer (some ⟨b,0,none⟩))) (z:ev env y=some v) (h:lk H i=some (box b tb cs)) (q:v.cells=vs.toArray) (m:∀w,(sizeOf t).run P w= .ok k w) (a:vs.length=k)
    (p:cs.size=k) (g:Ones N sc env H vs)
    (e:lk H 0=some (Yy w0 M0)) (s:∀b,w0.heap.size<=b->sc b) (j:M b) (c:i≠0:=by decide) :
    T P N sc M o env H (G:=Unit) (λ_=>True) (λ_=>env) (λ_=>(i,box b tb vs.toArray)::H):=
  Zjt n l u z h c q m a O1 g.mem (by unfold Fe;grind) e s j
theorem Yg2{al:Bool}{α:Type}{e:TypeId}{enc:α->Value}{xs ys:List α}(i:Nat)(hi:lk H i=some (Oe k e enc v xs))(b:Nat.beq i 0=false)(c:Enc P t k enc)(a:xs=ys)(h:Give H al r) :
    Give H al (Yx k enc v ys::r):=by grind [Ymo]
theorem Znk{p q:Pc}(i:Nat)(hi:lk H i=some p)(b:Nat.beq i 0=false)(c:p.own=false)(a:p=q)(h:Give H true r) :
    Give H true (q::r):=by grind [Gt]
theorem Zaa (d:Nat)    {b:Bool} (g:lk env d=some (.bool b))
    (i:b=true->L P N sc ops rest Q ((d,.bool true)::env) H) (h:b=false->L P N sc ops rest Q ((d,.bool false)::env) H):L P N sc ops rest Q env H:=by
  cases b with
  | true=>
    refine λa w hs=>i rfl a w ⟨hs.size,hs.defers,λt v c=>?_,hs.hold,hs.sep,hs.scope⟩;by_cases e:d=t
    . subst e;rw [Ys]at c;cases c;exact hs.env _ _ g
    . rw [Zx _ _ e]at c;exact hs.env _ _ c
  | false=>
    refine λa w hs=>h rfl a w ⟨hs.size,hs.defers,λt v c=>?_,hs.hold,hs.sep,hs.scope⟩;by_cases e:d=t
    . subst e;rw [Ys]at c;cases c;exact hs.env _ _ g
    . rw [Zx _ _ e]at c;exact hs.env _ _ c
theorem Hl (i:Nat)(n:Nat)(c:Nat) {α:Type}  {e:TypeId}    {m:Int}   {enc:α->Value} {ti:TypeInfo} (q:α)
    (V:o.op= .makeSlice t x y) (I:o.dst=some d) (Z:ev env x=some (.int .i64 m)) (hy:ev env y=some (.int .i64 m)) 
    (W:P.underlying t=some (.slice e)) (hi:P.info? e=some ti) (hz:ti.zero=some (enc q)) (R:∀x,(enc x).cells.size=k) (h:0<k) (l:ti.size=k) (j:ti.bytes=c)
     
    (u:lk H 0=some (Yy w0 M0)) (Y:∀b,w0.heap.size<=b->sc b) (B:Nat.blt d N=true:=by rfl) (S:m=(n:Int):=by omega) (D:c*n<=281474976710656:=by omega) (g:0<c:=by decide) :
    T P N sc M o env H (G:=Value) (λ_=>True) (λv=>(d,v)::env) (λv=>(i,Oe k e enc v (List.replicate n q))::H):=λa w hs K Q z=>
  t_mk q V I B Z hy S W hi hz R h l j D g u Y a w hs K Q λb s w' _ p F=>z _ s w' aA p F
def t_bsn {α:Type}  {e:TypeId} {n:Nat}  {i:Nat}    {enc:α->Value} (xs:List α)
    (B:o.op= .buildSlice t n parts) (q:o.dst=some d) (m:Nat.blt d N=true)
    (D:∀a w,Sat N sc env H a w->(Instr.buildSlice t n (parts.map λ(i,x)=>(i,a.eval x))).run P w= .ok (.slice (some ⟨w.heap.size,0,none⟩) n n) (w.alloc (.cells cs e)))
    (c:cs.toList=cellsOf enc xs) (z:xs.length=n) (s:∀x,(enc x).cells.size=k) (u:n<=maxLen)
    (j:lk H 0=some (Yy w0 M0)) (F:∀b,w0.heap.size<=b->sc b) :
    T P N sc M o env H (G:=Value) (λ_=>True) (λv=>(d,v)::env) (λv=>(i,Oe k e enc v xs)::H):=λa w hs K Q l=>
  t_bs xs B q m D c z s u j F a w hs K Q λb h I _ g p=>l _ h I aA g p
end Go.Sky
namespace Go.Sky
open Go.RowKit Below
variable{a b m:Nat}{o:Oper}{f:FuncId}{xs:List Operand}{ats:Array TypeId}{vs:List Value}{x y z:Operand}{t t':TypeId}{k:IntKind}{v:Value}{p:Pc}
variable {P:Program} {N:Nat} {sc:Nat->Prop} {env env':Pw} {H H':Hp} {Q Q':Exit->Act->World->Prop} {M:Nat->Prop}
def Zfp:Array Value->Sem Value:=λc=>do
 let (x, y, b) ← Extern.MathBitsCarry.three "Sub64" c
 pure (Extern.MathBitsCarry.pair ((x+Extern.MathBitsCarry.m64-y-b)%Extern.MathBitsCarry.m64) (if x<y+b then 1 else 0))
theorem Yf2{P:Program}(x y c:Nat)(d:c<=1)(w:World) :
  (Zfp #[.int .u64 x,.int .u64 y,.int .u64 c]).run P w =
   .ok (.tuple #[.int .u64 (((x+U-y-c)%U:Nat):Int),.int .u64 ((if x<y+c then 1 else 0:Nat):Int)]) w:=by
 have:c=0\/c=1:=O1;rcases this with rfl|rfl<;>rfl
theorem Gm {a:Act} {w:World} (hs:Sat N sc env H a w)      (e:o.op= .call { callee:= .value (.func f),args:=xs.toArray,argTypes:=ats })
  (c:EvL env xs vs):(execOp a.eval o).run P w=(callFunc f vs.toArray).run P w:=by
 have d:=c.map hs;simp [execOp,e,resolve,invoke,Act.eval,Deferred.ofValue,d]
theorem Zti (c:Nat)      (e:o.op= .call { callee:= .value (.func f),args:=#[x,y,z],argTypes:=ats })
  (g:ev env x=some (.int .u64 (a:Int))) (i:ev env y=some (.int .u64 (b:Int))) (j:ev env z=some (.int .u64 (c:Int))) (l:c<=1)
  (d:∀args w,(callFunc f args).run P w=((add64Entry args).run P w).andThen λv w'=> .ok (.value v) w') :
  Lk P N sc o env H (.tuple #[.int .u64 (((a+b+c)%U:Nat):Int),.int .u64 (((a+b+c)/U:Nat):Int)]):=λs w hs=>by
 have h:=run_add64 (P:=P) a b c O6 O6 O6 O1 w;rw [Gm hs (vs:=[_,_,_]) e ⟨g,i,j,aA⟩,d,h];rfl
def brw(a b c:Nat):Nat:=if a<b+c then 1 else 0
theorem Yop{c:Nat}:brw a b c<=1:=by unfold brw;split<;>omega
theorem Ys7     {c:Nat} (g:o.op= .call { callee:= .value (.func f),args:=#[x,y,z],argTypes:=ats })
  (i:ev env x=some (.int .u64 (a:Int))) (j:ev env y=some (.int .u64 (b:Int))) (l:ev env z=some (.int .u64 (c:Int))) (e:c<=1)
  (d:∀args w,(callFunc f args).run P w=((Zfp args).run P w).andThen λv w'=> .ok (.value v) w') :
  Lk P N sc o env H (.tuple #[.int .u64 (((a+U-b-c)%U:Nat):Int),.int .u64 (brw a b c:Int)]):=λs w hs=>by
 have h:=Yf2 (P:=P) a b c e w;rw [Gm hs (vs:=[_,_,_]) g ⟨i,j,l,aA⟩,d,h];rfl
theorem Zfg{ds:TypeDesc}(d:o.op= .convert t t' x)(g:ev env x=some (.int k (m:Int)))(c:P.underlying t=some ds)(e:P.underlying t'=some (.int .u8)) :
  Lk P N sc o env H (.int .u8 ((m%256:Nat):Int)):=Zil d g c e (by rfl)
def Ztj{ds:TypeDesc}(e:o.op= .convert t t' x)(h:ev env x=some (.int k (m:Int)))(c:P.underlying t=some ds)(g:P.underlying t'=some (.int .u64))(d:m<U) :
  Lk P N sc o env H (.int .u64 (m:Int)):=Zil e h c g (Zea d)
def Zbe{m:Int}{ds:TypeDesc}(e:o.op= .convert t t' x)(h:ev env x=some (.int k m))(c:P.underlying t=some ds)(g:P.underlying t'=some (.int .i64))(d:Nc m) :
  Lk P N sc o env H (.int .i64 m):=Zil e h c g (Zb8 d)
theorem Kn(t:Nat){v':Value}(e:lk env t=some v)(h:v=v'):∀a w,Sat N sc env H a w->Sat N sc ((t,v')::env) H a w:=λa w hs=>by
 subst h;refine⟨hs.size,hs.defers,λs u c=>?_,hs.hold,hs.sep,hs.scope⟩;by_cases d:t=s
 .subst d;rw [Ys]at c;cases c;exact hs.env _ _ e
 .rw [Zx _ _ d]at c;exact hs.env _ _ c
theorem Xs(i j:Nat)(hi:lk H i=some p)(l:Nat.beq i 0=false)(r:p.own=false):∀a w,Sat N sc env H a w->Sat N sc env ((j,p)::H) a w:=λa w hs=>
 hs.add j p (hs.hold i p hi) (λh q _ n Ff b c d=>by
  rcases Ff with Ff|Ff
  .grind
  .by_cases g:h=i
   .grind
   .exact hs.sep h i q p g n hi Ff b d c) (λb c=>hs.scope i p (λe=>O11) hi b c)
theorem Yaw{P:Program}(w:World)(f:Value->ByteArray->Sem (ForInStep ByteArray))(c:∀(n:Nat) (r:ByteArray),f (.int .u8 (n:Int)) r=pure (.yield (r.push (UInt8.ofNat n)))):∀(l:List Nat) (s:ByteArray),
  (forIn (m:=Sem) (l.map λn:Nat=>Value.int .u8 (n:Int)) s f).run P w= .ok (l.foldl (λs n=>s.push (UInt8.ofNat n)) s) w
 | [],s=>rfl
 | n::r,s=>by simp_all
theorem Znp:∀(l:List Nat) (s:ByteArray),l.foldl (λs n=>s.push (UInt8.ofNat n)) s=⟨s.data ++ (l.map UInt8.ofNat).toArray⟩
 | [],s=>by rfl
 | n::r,s=>by rw [iA,Znp r];simp [ByteArray.push]
theorem d_b2s  {e:TypeId}   {i:Nat}  {xs:List Nat} (V:o.op= .convert t t' x) (r:ev env x=some v) (R:lk H i=some p) (W:Rd p 1 (λn:Nat=>Value.int .u8 (n:Int)) v xs)
  (Y:P.underlying t=some (.slice e)) (B:P.underlying t'=some .string) (S:P.underlying e=some (.int .u8)):Lk P N sc o env H (.string ⟨(xs.map UInt8.ofNat).toArray⟩):=λa w hs=>by
 obtain⟨s,c,rfl,Z,h2,F⟩:=W w (hs.hold i p R);have l:(Conv.bytesToString (.slice s xs.length c)).run P w= .ok (.string ⟨(xs.map UInt8.ofNat).toArray⟩) w:=by
  cases s with
  | none=>
   rcases F with rfl|⟨g,D,h,_⟩
   .rfl
   grind
  | some q=>
   have d:(loadCells q xs.length).run P w= .ok (xs.map λn:Nat=>Value.int .u8 n).toArray w:=by
    have:=run_loadCells_list (P:=P) w q (xs.map λn:Nat=>Value.int .u8 n) (λj u G=>by
     rcases F with rfl|⟨g,D,h,I⟩
     .grind
     .rw [iJ]at G;cases r:xs[j]? with
      | none=>grind
      | some y=>
       rw [r]at G;have:=I j y r 0 _ rfl;grind [Ov])
    grind
   simp only [Conv.bytesToString,Sem.run_bind,d,Result.andThen_ok];simp [List.forIn_toArray,Yaw,Znp]
 have:(convert t t' (.slice s xs.length c)).run P w= .ok (.string ⟨(xs.map UInt8.ofNat).toArray⟩) w:=by simp only [convert,Sem.run_bind,run_underlying Y,run_underlying B,Result.andThen_ok,run_underlying S,l]
 simp only [execOp,V,hs.ev r];simp_all
end Go.Sky
namespace Go.Sky
open Go.RowKit Below
variable{o:Oper}{f:FuncId}{xs:List Operand}{ats:Array TypeId}{d k:Nat}{vs:List Value}{pre:List Pc}{w0:World}{M0:Nat->Prop}{fn:Func}{v:Value}{x y:Operand}{t:TypeId}{p:Pc}{kd:IntKind}
variable {P:Program} {N:Nat} {sc:Nat->Prop} {env env':Pw} {H H':Hp} {Q Q':Exit->Act->World->Prop} {M:Nat->Prop}
def Yhm(P:Program)(f:FuncId)(args:Array Value)(pre:List Pc){G:Type}(φ:G->Prop)(Yt:G->Value)(a:G->Pc):Prop:=
 ∀w,(∀p∈pre,p.holds w)->Calls P f args w λe c=>∃g,e= .returned (Yt g)/\φ g/\Below w.heap.size w c/\(a g).holds c/\∀b,(a g).fp b->w.heap.size<=b
theorem Zcd (n:Nat)        {G:Type} {φ:G->Prop} {Yt:G->Value} {m:G->Pc}  
  (V:Yhm P f vs.toArray pre φ Yt m)
  (ho:o.op= .call { callee:= .value (.func f),args:=xs.toArray,argTypes:=ats }) (W:o.dst=some d) (S:Nat.blt d N=true)
  (q:EvL env xs vs) (s:∀args w,(callFunc f args).run P w= .ok (.enter f args) w) (l:PreOk H false pre)
  (I:lk H 0=some (Yy w0 M0)) (hw:∀b,w0.heap.size<=b->sc b) :
  T P N sc M o env H φ (λg=>(d,Yt g)::env) (λg=>(n,m g)::H):=λa w hs K Q R=>by
 have hr:(execOp a.eval o).run P w= .ok (.enter f vs.toArray) w:=by grind [Gm]
 unfold Oper.wp;rw [hr];refine(V w (λp hp=>by obtain⟨i,m,_,hi,h,_,_⟩:=l.mem p hp;exact h w (hs.hold i m hi))).mono ?_
 rintro e w' ⟨g,rfl,Y,c,z,u⟩;rw [W];have B:=hs.chg0 (Chg.of_below c);refine R g _ _ Y (Sat.put (B.add n _ z (λj F _ Z _ b D r=>?_) (λb D=>hw b (aB (hs.hold 0 _ I).size (u b D)))) d _ S) (Chg.of_below c);have:=F.lt w b (hs.hold j F Z) r;grind
def Yph(P:Program)(fn:Func)(w0:World){G:Type}(φ:G->Prop)(Yt:G->Value)(a:G->Pc):Exit->Act->World->Prop:=
 bodyPost P fn λe c=>∃g,e= .returned (Yt g)/\φ g/\Below w0.heap.size w0 c/\(a g).holds c/\∀b,(a g).fp b->w0.heap.size<=b
theorem Zls   {c:Code}   {G:Type} {φ:G->Prop} {Yt:G->Value} {u:G->Pc} {N:Nat}
  (D:P.funcs[f]? = some fn) (g:fn.body=some c) (W:fn.ntmps=N) (m:Nat.ble vs.length N=true) (n:AllRo pre)
  (h:∀w0 (sc:Nat->Prop),(∀b,w0.heap.size<=b->sc b)->(∀b,sc b->w0.heap.size<=b\/∃q∈pre,q.fp b)->
   E P N sc c (Yph P fn w0 φ Yt u) (Qz 0 vs) ((0,Yy w0 (λ_=>False))::Xd 1 pre)) :
  Yhm P f vs.toArray pre φ Yt u:=λw Z=>by
 refine calls_of_wp D g (h w _ (λb g=> .inl g) (λb g=>g) _ w ?_);have m:vs.length<=N:=O11;have a:∀i p,lk ((0,Yy w (λ_=>False))::Xd 1 pre) i=some p->(i=0/\p=Yy w (λ_=>False))\/(i≠0/\p∈pre/\p.own=false):=λi p hi=>by
   by_cases r:0=i
   .grind [Ys]
   .rw [Zx _ _ r]at hi;obtain⟨_,l⟩:=Mp pre 1 i p hi;exact .inr ⟨λe=>r e.symm,l,n.mem p l⟩
 refine⟨O5,rfl,λt v V=>?_,λi p hi=>?_,λi j p q R hi Y S b g B=>?_,λi p F hi b g=>?_⟩
 .have z:vs.toArray[t]? = some v:=by simpa using(Ft vs 0 t v V).2
  have I:=(aS.1 z).1;simp_all [bM,eF]
 .rcases a i p hi with⟨_,rfl⟩|⟨_,l,_⟩
  .exact Chg.refl _ w
  grind
 .rcases a i p hi with⟨_,rfl⟩|⟨_,l,s⟩
  .cases S
  grind
 grind
theorem Zfk  {G:Type} {φ:G->Prop} {Yt:G->Value} {m:G->Pc}  {e:Exit} (s:e= .ret\/e= .normal)
  (g:G)  (l:∀a w,Sat N sc env H a w->(results fn a.tmps).run P w= .ok v w) (I:Yt g=v) (u:φ g) (q:lk H 0=some (Yy w0 (λ_=>False)))
  (i:Nat) (B:Nat.beq i 0=false) (hi:lk H i=some (m g)) (j:(m g).own=true) :
  X N sc e (Yph P fn w0 φ Yt m) env H:=λa w hs=>by
 have c:i≠0:=λe=>O11;have F:a.defers=[]/\∃v,(results fn a.tmps).run P w= .ok v w/\(∃g,Ending.returned v= .returned (Yt g)/\φ g/\Below w0.heap.size w0 w/\(m g).holds w/\∀b,(m g).fp b->w0.heap.size<=b):=by
  refine⟨hs.defers,v,l a w hs,g,O5,u,Hx (hs.hold 0 _ q),hs.hold i _ hi,λb r=>?_⟩;have D:=hs.sep i 0 _ _ c hi q j b r;rcases aW b _ with n|z
  .exact absurd ⟨n,λh=>h⟩ D
  omega
 rcases s with rfl|rfl
 all_goals assumption
theorem Zth{α:Type}{s e:TypeId}{i:Nat}{enc:α->Value}{xs:List α}(g:o.op= .binOp .eql t x y s)(j:ev env x=some v)(l:ev env y=some (.slice none 0 0))(m:lk H i=some p)(n:Rd p k enc v xs)(r:P.underlying t=some (.slice e)) :
  Lk P N sc o env H (.bool (v.ownBlock.isNone)):=λa w hs=>by
 obtain⟨b,c,rfl,_⟩:=n w (hs.hold i p m);have h:=Lib.run_eql_slice_nil w t e b xs.length c 0 0 r;cases b with
 | none=>simp [execOp,g,hs.ev j,hs.ev l,eqGuard,h,Value.ownBlock]
 | some q=>simp [execOp,g,hs.ev j,hs.ev l,eqGuard,h,Value.ownBlock]
theorem Oa (i:Nat)(j:Nat)(m:Nat) {α:Type}   {e:TypeId}  {u:Value} {enc:α->Value} {xs ys:List α}  {ti:TypeInfo} {z:Value}  
  (ho:o.op= .call { callee:= .builtin .append,args:=#[x,y],argTypes:=#[t,t] }) (hd:o.dst=some d) (hN:Nat.blt d N=true)
  (hx:ev env x=some v) (hy:ev env y=some u) (W:lk H i=some (Oe k e enc v xs)) (F:i≠0) (hj:lk H j=some p) (hr:Rd p k enc u ys)
  (ht:P.underlying t=some (.slice e)) (hi:P.info? e=some ti) (hz:ti.zero=some z) (he:Enc P e k enc) (a1:ti.size=k) (Z:ti.bytes=m) (a3:z.cells.size=k)
  (Y:(xs.length+ys.length)*m<=140737488355328) (B:0<m)
  (h0:lk H 0=some (Yy w0 M0)) (hw:∀b,w0.heap.size<=b->sc b) :
  T P N sc (λ_=>True) o env H (G:=Value) (λ_=>True) (λv'=>(d,v')::env) (λv'=>(i,Oe k e enc v' (xs ++ ys))::H):=by
 by_cases S:ys=[]
 .subst S;intro a w hs K Q hK;have h:w.ownsRow 0 e k v xs.length (cellsOf enc xs):=hs.hold i _ W;obtain⟨V,c,rfl,h1,h2,h3⟩:=hr w (hs.hold j p hj);have I:∃l n r,v= .slice l n r/\n=xs.length/\n<=r:=by
   rcases h.2 with⟨rfl,hn⟩|⟨g,a4,a5,rfl,_,_,s,_⟩
   all_goals grind
  obtain⟨l,n,r,rfl,rfl,s⟩:=I;have R:(Builtin.append_ #[t,t] o.type #[.slice l xs.length r,.slice V ([]:List α).length c]).run P w= .ok (.slice l xs.length r) w:=by
   have D:(Builtin.firstCells ti.size 0 (.slice V 0 c)).run P w= .ok #[] w:=by
    cases V with
    | none=>rfl
    | some q=>simp [Builtin.firstCells,loadCells,loadCellsFrom]
   cases l with
   | none=>simp [Builtin.append_,run_underlying ht,sizeOf,typeInfo,hi,Builtin.lenOf,D,s]
   | some q=>simp [Builtin.append_,run_underlying ht,sizeOf,typeInfo,hi,Builtin.lenOf,D,s,storeCells]
  have a2:(execOp a.eval o).run P w= .ok (.value (.slice l xs.length r)) w:=by simp only [execOp,ho,resolve,invoke,builtin,Sem.run_bind,Sem.run_pure,Result.andThen_ok,fS,bZ,gV,hs.ev hx,hs.ev hy,R]
  unfold Oper.wp;rw [a2];show K (a.put o.dst _) _;rw [hd];refine hK _ _ _ aA ((Sat.upd hs W rfl F (q:=Oe k e enc (.slice l xs.length r) (xs ++ [])) (Chg.refl _ w) ?_ (λb Y=> .inl Y) h0 hw).put d _ hN) (Chg.refl _ w);rw [jA];exact h
 .exact t_app (i2:=0) ho hd hN hx hy W F hj hr S ht hi hz he a1 Z a3 Y B h0 hw
def Zfo(v:Value)(n k:Nat):Value:=match v with
 | .slice a l c=> .slice (if c=n then a else a.map (·.add (n*k))) (l-n) (c-n)
 | u=>u
theorem Zfd(v:Value)(n k:Nat):(Zfo v n k).ownBlock=v.ownBlock:=by
 cases v with
 | slice a l c=>
  cases a with
  | none=>simp only [Zfo];split<;>rfl
  | some q=>
   simp only [Zfo];split
   .rfl
   .simp only [Option.map_some,Value.ownBlock,Addr.add];split<;>rfl
 | _=>rfl
theorem d_suf {α:Type}   {e:TypeId}  {ii i:Nat}  {m:Int}  {enc:α->Value} {xs:List α} (l:o.op= .slice t x (some y) none none)
  (r:ev env x=some v) (s:ev env y=some (.int kd m)) (j:lk H ii=some p) (n:Rd p k enc v xs) (q:P.underlying t=some (.slice e)) (h:∀w,(sizeOf e).run P w= .ok k w)
  (b:m=(i:Int)) (g:i<=xs.length):Lk P N sc o env H (Zfo v i k):=λa w hs=>by
 obtain⟨u,c,rfl,z,B,D⟩:=n w (hs.hold ii p j);subst b;simp [execOp,l,hs.ev r,hs.ev s,Instr.sliceAt,Instr.slice,Instr.sliceBounds,Instr.sliceBound,asIntOf,run_underlying q,h,g,Zfo]
theorem Zpk{α:Type}{w:World}{enc:α->Value}{xs:List α}(n:Nat)(z:n<=xs.length)(h:RowAt w k enc v xs):RowAt w k enc (Zfo v n k) (xs.drop n):=by
 obtain⟨a,c,rfl,q,r,e⟩:=h;refine⟨if c=n then a else a.map (·.add (n*k)),c-n,by simp only [Zfo,iR],O5,O1,?_⟩;by_cases l:xs.drop n=[]
 .grind
 .have m:n<xs.length:=by grind
  rcases e with rfl|⟨g,b,rfl,e⟩
  .simp
  .refine .inr ⟨g,b+n*k,?_,λi x hi j u s=>?_⟩
   .simp [aK,Ov]<;>omega
   grind
theorem Zz4{α:Type}{xs:List α}{n b:Nat}(h:xs.drop n≠[]/\(Zfo v n k).ownBlock=some b):xs≠[]/\v.ownBlock=some b:=
 ⟨λe=>h.1 O5,by grind [Zfd]⟩
theorem s_suf{α:Type}{enc:α->Value}{xs:List α}(i j n:Nat)(hi:lk H i=some (Yx k enc v xs))(r:Nat.beq i 0=false)(s:n<=xs.length):∀a w,Sat N sc env H a w->Sat N sc env ((j,Yx k enc (Zfo v n k) (xs.drop n))::H) a w:=
 λa w hs=>hs.add j _ ⟨Zpk n s (hs.hold i _ hi).1,λb c=>(hs.hold i _ hi).2 b (Zz4 c)⟩
  (λm z u l Ff b c h=>by
   rcases Ff with Ff|Ff
   .cases Ff
   .have q:=Zz4 c;by_cases g:m=i
    .subst g;rw [hi]at l;cases l;cases Ff
    .exact hs.sep m i z _ g l hi Ff b h q)
  (λb c=>hs.scope i _ (λe=>O11) hi b (Zz4 c))
end Go.Sky
namespace Go.Sky
open Go.RowKit Below
variable{o:Oper}{t:TypeId}{parts:List (Nat×Operand)}{cells cs:Array Value}{z:Value}{k d:Nat}{w0:World}{M0:Nat->Prop}
variable {P:Program} {N:Nat} {sc:Nat->Prop} {env env':Pw} {H H':Hp} {Q Q':Exit->Act->World->Prop} {M:Nat->Prop}
def EvP(e:Pw):List (Nat×Operand)->List (Nat×Value)->Prop
 | [],[]=>True
 | (i,x)::r,(j,v)::vs=>i=j/\ev e x=some v/\EvP e r vs
 | _,_=>False
theorem EvP.map{a:Act}{w:World}(h:Sat N sc env H a w):∀{xs:List (Nat×Operand)} {vs:List (Nat×Value)},EvP env xs vs->xs.map (λ(i,x)=>(i,a.eval x))=vs
 | [],[],_=>rfl
 | (i,x)::r,(j,v)::vs,hh=>by obtain⟨rfl,b,c⟩:=hh;simp only [bZ,h.ev b,EvP.map h c]
 | [],_::_,hh=>hh.elim
 | _::_,[],hh=>hh.elim
theorem Xy (b:List (Nat×Value))      (e:o.op= .build t parts.toArray) (f:EvP env parts b)
  (c:∀a w,Sat N sc env H a w->P.built t b=some cells):Lk P N sc o env H (.agg cells):=λa w hs=>by
 have h:=run_build (P:=P) w t (parts.toArray.map λ(i,x)=>(i,a.eval x)) cells (by rw [fS,f.map hs];exact c a w hs);simp only [execOp,e,Sem.run_bind,h,Result.andThen_ok,Sem.run_pure]
 try rfl
theorem Pm  {b:TypeInfo} {a:Array Field}  {pl:List (Nat×Nat)} {parts:List (Nat×Value)}  (hi:P.info? t=some b) (g:P.underlying t=some (.struct a)) (h:b.zero=some z)
  (e:a.toList.mapM (λf=>(P.info? f.type).map λi=>(f.offset,i.size))=some pl) (c:Instr.fill (pl.toArray[·]?) z.cells parts=some cells):P.built t parts=some cells:=by
 unfold Program.built;simp only [hi,g,h,e,c]
theorem Zkh(w:World)(t e:TypeId)(a:P.underlying t=some (.slice e))(hs:∀w,(sizeOf e).run P w= .ok k w) :
  (Instr.buildSlice t 0 #[]).run P w= .ok (.slice (some ⟨w.heap.size,0,none⟩) 0 0) (w.alloc (.cells #[] e)):=by
 simp [Instr.buildSlice,run_underlying a,hs,Instr.fill,newRow];rw [show(Array.range 0)=#[] by decide,Array.map_empty]
theorem Xx (c:List (Nat×Value))(i:Nat) {α:Type}  {e:TypeId} {n:Nat}       {enc:α->Value} {ti:TypeInfo}  (xs:List α)
  (u:o.op= .buildSlice t n parts.toArray) (m:o.dst=some d) (B:EvP env parts c)
  (y:P.underlying t=some (.slice e)) (hi:P.info? e=some ti) (F:ti.zero=some z) (h:Nat.ble (n*ti.size) 16777216=true) 
  (p:Instr.fill (λi=>some (i*ti.size,ti.size)) ((List.range (n*ti.size)).map (z.cells[· % z.cells.size]!)).toArray c=some cs)
  (g:cs.toList=cellsOf enc xs) (s:xs.length=n) (q:∀x,(enc x).cells.size=k) (r:Nat.ble n 16777216=true)
  (j:lk H 0=some (Yy w0 M0)) (D:∀b,w0.heap.size<=b->sc b) (l:Nat.blt d N=true:=by rfl) (f:Nat.blt 0 (n*ti.size)=true:=by rfl) :
  T P N sc M o env H (G:=Value) (λ_=>True) (λv=>(d,v)::env) (λv=>(i,Oe k e enc v xs)::H):=
 t_bsn xs u m l (λa w hs=>run_buildSlice w t e n _ cs ti z y hi F (by have:=iD h;omega) (by have:=Nat.blt_eq▸f;simp at f;omega) (by rw [show(parts.toArray.map λ(i,x)=>(i,a.eval x)).toList=c by rw [fS,B.map hs],show(Array.range (n*ti.size)).map (z.cells[· % z.cells.size]!)=((List.range (n*ti.size)).map (z.cells[· % z.cells.size]!)).toArray by rw [<-fS,<-Array.toList_range,Array.toArray_toList]];exact p)) g s q (by have:=iD r;simp only [maxLen];omega) j D
theorem Yh8 (i:Nat) {α:Type}  {e:TypeId}     {enc:α->Value} 
  (j:o.op= .buildSlice t 0 #[]) (h:o.dst=some d) (g:Nat.blt d N=true) (l:P.underlying t=some (.slice e)) (c:Enc P e k enc)
  (f:lk H 0=some (Yy w0 M0)) (m:∀b,w0.heap.size<=b->sc b) :
  T P N sc M o env H (G:=Value) (λ_=>True) (λv=>(d,v)::env) (λv=>(i,Oe k e enc v [])::H):=
 t_bsn (n:=0) (cs:=#[]) (parts:=#[]) [] j h g (λa w hs=>by rw [Array.map_empty];exact Zkh w t e l c.size) rfl rfl c.cells (by simp [maxLen]) f m
theorem Qt{α:Type}(i k:Nat)(e:TypeId)(enc:α->Value):∀a w,Sat N sc env H a w->Sat N sc env ((i,Oe k e enc (.slice none 0 0) [])::H) a w:=λa w hs=>
 hs.add i _ ⟨by simp [cellsOf],.inl ⟨rfl,rfl⟩⟩ (λj l g h Ff b c f=>by cases c) (λb c=>by cases c)
theorem Ym6{α:Type}{enc:α->Value}{v:Value}{xs:List α}{p:Pc}(i:Nat)(hi:lk H i=some p)(e:Rd p k enc v xs):∀a w,Sat N sc env H a w->(v.ownBlock=none->xs=[]):=λa w hs h=>by
 obtain⟨j,c,rfl,l,m,b⟩:=e w (hs.hold i p hi);rcases b with b|⟨g,f,rfl,_⟩
 .exact b
 .cases h
end Go.Sky
namespace Go.Sky
variable{t te:TypeId}{k i lo:Nat}{v u:Value}{xs:List Nat}{o:Oper}{x y:Operand}{p:Pc}{r:List Pc}{w w0:World}{cur:Array Value}{M0:Nat->Prop}
abbrev Lj (n:Nat):Value:= .int .u64 (n:Int)
abbrev Zkq (n:Nat):Value:= .int .u8 (n:Int)
abbrev Ij (n:Nat):Value:= .int .i64 (n:Int)
abbrev Yj (n:Int):Value:= .int .i64 n
theorem Zec(xs:List Nat):(tz xs).length<=xs.length/\xs.take (tz xs).length=tz xs:=by
 induction hn:xs.length generalizing xs with
 | zero=>
   have:xs=[]:=aC hn;subst this;simp [tz]
 | succ n d=>
  rcases Zcf xs with rfl|⟨b,y,rfl⟩
  .simp at hn
  .by_cases a:y=0
   .subst a;rw [Hb];obtain⟨e,c⟩:=d b (by simpa using hn);have f:b.length=n:=by simpa using hn
    exact⟨O1,by rw [List.take_append_of_le_length O1];exact c⟩
   .rw [Cq _ _ a];exact⟨O1,bL⟩
theorem Zbp{P:Program}{N:Nat}{sc:Nat->Prop}{env:Pw}{H:Hp}{enc:Nat->Value}{e:TypeId}(i:Nat)(hi:lk H i=some (Oe k e enc v xs))(b:Nat.beq i 0=false)(c:Enc P t k enc) :
  ∀a w,Sat N sc env H a w->Sat N sc env ((i,Oe k e enc (Ic v (tz xs).length) (tz xs))::H) a w:=by
 have h:=s_opre (N:=N) (sc:=sc) (env:=env) i (tz xs).length hi b c (Zec xs).1;rwa [(Zec xs).2]at h
abbrev Dm (v:Value) (x:Nat):Pc:=Yx 1 Lj v (dg U x)
theorem Qh:2<=U:=by simp [U]
def Qp(x:Nat):ByteArray:=⟨((dg 256 x).reverse.map UInt8.ofNat).toArray⟩
theorem Ej(x:Nat):(Qp x).size=(dg 256 x).length:=by simp [Qp,ByteArray.size]
theorem Zoa(x i:Nat)(h:i<(dg 256 x).length):((Qp x).data.toList.getD i 0).toNat=x/256^((dg 256 x).length-1-i)%256:=by
 have c:i<((dg 256 x).reverse.map UInt8.ofNat).length:=by simpa using h
 have d:(Qp x).data.toList=(dg 256 x).reverse.map UInt8.ofNat:=by simp [Qp]
 rw [d];simp only [List.getD,aO c,fD,List.getElem_map,List.getElem_reverse];have a:=Hz (b:=256) O1 ((dg 256 x).length-1-i) x;have e:(dg 256 x).length-1-i<(dg 256 x).length:=O1;rw [show(dg 256 x).getD ((dg 256 x).length-1-i) 0=(dg 256 x)[(dg 256 x).length-1-i] by simp [List.getD,e]]at a;rw [a];simp
open Go.RowKit Below
variable {P:Program} {N:Nat} {sc:Nat->Prop} {env env':Pw} {H H':Hp} {Q Q':Exit->Act->World->Prop} {M:Nat->Prop}
theorem d_mid {α:Type}  {z:Operand} {e:TypeId}  {ii j:Nat} {S l:IntKind} {m n:Int}  {enc:α->Value} {xs:List α} (B:o.op= .slice t x (some y) (some z) none)
  (G:ev env x=some v) (I:ev env y=some (.int S m)) (R:ev env z=some (.int l n)) (s:lk H ii=some p) (D:Rd p k enc v xs) (F:P.underlying t=some (.slice e)) (h:∀w,(sizeOf e).run P w= .ok k w)
  (d:m=(i:Int)) (f:n=(j:Int)) (b:i<=j) (g:j<=xs.length):Lk P N sc o env H (Ic (Zfo v i k) (j-i)):=λa w hs=>by
 obtain⟨V,c,rfl,W,Y,Z⟩:=D w (hs.hold ii p s);subst d f;have q:j<=c:=O1;simp [execOp,B,hs.ev G,hs.ev I,hs.ev R,Instr.sliceAt,Instr.slice,Instr.sliceBounds,Instr.sliceBound,asIntOf,run_underlying F,h,g,b,q,Zfo,Ic]
def Zem {α:Type}  {e:TypeId} {enc:α->Value}  {xs ys:List α}   (i:Nat) (hi:lk H i=some (Oe k e enc v xs)) (j:Nat.beq i 0=false) (g:Enc P t k enc)
  (c:∀w,RowAt w k enc v xs->RowAt w k enc u ys) (a:u.ownBlock=v.ownBlock) (h:PreOk H false r):PreOk H false (Yx k enc u ys::r):=
 ⟨⟨i,_,λe=>O11,hi,λw f=>⟨c w (Dw g.cells f),λb d=>(f.lt b O5).2⟩,λb d=>a.symm.trans d.2,λh=>O5⟩,h⟩
theorem Zk5{α:Type}{enc:α->Value}{xs:List α}(lo hi:Nat)(a:lo<=hi:=by omega)(b:hi<=xs.length:=by omega):∀w,RowAt w k enc v xs->RowAt w k enc (Ic (Zfo v lo k) (hi-lo)) ((xs.drop lo).take (hi-lo)):=
 λw h=>Zej _ O5 (Zpk lo O1 h)
theorem Zlt{n:Nat}:(Ic (Zfo v lo k) n).ownBlock=v.ownBlock:=by rw [Fb,Zfd]
theorem Yju{enc:Nat->Value}{ys zs:List Nat}{n:Nat}(c:tz ys=zs)(a:n=zs.length)(h:∀w,RowAt w k enc v xs->RowAt w k enc u ys):∀w,RowAt w k enc v xs->RowAt w k enc (Ic u n) zs:=λw b=>by grind [Zej,Zec]
theorem Ztx{α:Type}{enc:α->Value}(a:∀x,(enc x).cells.size=k)(xs:List α)(n:Nat)(b:n<=xs.length):cellsOf enc (xs.take n)=(cellsOf enc xs).take (n*k):=by have h:=Iw enc (xs.take n) (xs.drop n);simp_all [gC,Xm,cL,dP,List.take_left]
def spl{α:Type}(xs:List α)(lo:Nat)(ys:List α):List α:=xs.take lo ++ ys ++ xs.drop (lo+ys.length)
theorem He{α:Type}(xs:List α)(lo:Nat)(ys:List α)(h:lo+ys.length<=xs.length):(spl xs lo ys).length=xs.length:=by simp [spl];omega
theorem Yrr {α:Type}  {g a:Nat}   {e:TypeId} {enc:α->Value} {xs ys:List α} (f:∀x,(enc x).cells.size=k) (lo:Nat) (c:lo+ys.length<=xs.length)
  (D:w.heap[g]? = some (.cells cur e (0,0))) (m:xs.length<=a) (d:a<=maxLen) (B:cur.size=a*k) (b:cur.toList.take (xs.length*k)=cellsOf enc xs) :
  (w.setRow g (cur.toList.take (lo*k) ++ cellsOf enc ys ++ cur.toList.drop (lo*k+(cellsOf enc ys).length)).toArray).ownsRow 0 e k (.slice (some ⟨g,0,none⟩) xs.length a) (spl xs lo ys).length (cellsOf enc (spl xs lo ys)):=by
 have l:=Xm f ys;have j:(lo+ys.length)*k<=xs.length*k:=aJ _ c;have n:xs.length*k<=a*k:=aJ _ m;rw [cN]at j;refine⟨by rw [Xm f],.inr ⟨g,a,_,by grind [He],Nat.zero_le _,setRow_heap w g cur _ e _ D,by grind [He],d,?_,?_⟩⟩
 .grind
 .rw [He _ _ _ c];have s:cellsOf enc (xs.take lo)=cur.toList.take (lo*k):=by rw [Ztx f xs lo O1,<-b,iM,dP O1]
  have z:cellsOf enc (xs.drop (lo+ys.length))=(cur.toList.take (xs.length*k)).drop ((lo+ys.length)*k):=by have h:=Iw enc (xs.take (lo+ys.length)) (xs.drop (lo+ys.length));rw [gC,<-b]at h;grind [List.drop_left',Xm,List.length_take,Nat.min_eq_left]
  rw [spl,Iw,Iw,s,z,l,cN];apply iG;intro q;have F:(cur.toList.take (lo*k)).length=lo*k:=O5;grind
def Dst(v u:Value)(a k lo n:Nat):Prop:=∀g c,v= .slice (some ⟨g,0,none⟩) a c->a<=c->∃b,u= .slice (some ⟨g,lo*k,none⟩) n b
def Ynh{a:Nat}:Dst v v a k 0 a:=λg c h _=>⟨c,O5⟩
theorem Yd2{a:Nat}{n:Nat}(h:lo<a):Dst v (Ic (Zfo v lo k) n) a k lo n:=λg c b d=>by rw [b];simp only [Zfo,Ic];simp [aK,Ov]<;>omega
theorem Yf3{α:Type}{enc:α->Value}{ys:List α}(a:Enc P t k enc)(h:RowAt w k enc u ys):(Builtin.firstCells k ys.length u).run P w= .ok (cellsOf enc ys).toArray w/\(Builtin.lenOf u).run P w= .ok ys.length w:=by
 obtain⟨s,c,rfl,D,F,m⟩:=h;refine⟨?_,by rfl⟩;rcases m with rfl|⟨g,l,rfl,m⟩
 .cases s with
  | none=>rfl
  | some q=>simp [Builtin.firstCells,cellsOf,loadCells,loadCellsFrom]
 .have f:∀q u,(cellsOf enc ys)[q]? = some u->w.cell? ((⟨g,l,none⟩:Addr).add q)=some u:=λq u S=>by
   have z:q<ys.length*k:=by rw [<-Xm a.cells ys];grind
   have n:=a.pos;have d:q/k<ys.length:=iL O5;have b:=aO d;have e:q%k<(enc ys[q/k]).cells.toList.length:=by rw [eY,a.cells];simp_all [bI]
   have B:=aO e;have G:=Gh a.cells ys _ _ b _ _ B;grind [Nat.mul_comm,Nat.div_add_mod,Nat.add_assoc,Ov]
  have R:=Xm a.cells ys;have:=run_loadCells (P:=P) (w:=w) _ (ys.length*k) (λj=>(cellsOf enc ys).getD j undef) (λj I=>f j _ O5);rw [show(List.range _).map _=cellsOf enc ys by
   apply jR
   all_goals grind]at this
  exact this
theorem Ybc {α:Type} {a:Act}   {e:TypeId}  {enc:α->Value} {xs ys:List α}   (hs:Sat N sc env H a w) (G:lk H i=some (Oe k e enc v xs)) (z:i≠0) (s:Enc P t k enc)
  (D:lo+ys.length<=xs.length) (hp:0<xs.length) (S:lk H 0=some (Yy w0 M0)) (Y:∀b,w0.heap.size<=b->sc b)  {n:Nat} (l:Dst v u xs.length k lo n) :
  ∃g c w',u= .slice (some ⟨g,lo*k,none⟩) n c/\(storeCells ⟨g,lo*k,none⟩ (cellsOf enc ys)).run P w= .ok () w'/\Sat N sc env ((i,Oe k e enc v (spl xs lo ys))::H) a w'/\Chg (λ_=>True) w w':=by
 have j:=hs.hold i _ G;rcases j.2 with⟨rfl,hn⟩|⟨g,f,cur,rfl,hb,I,h,m,q,d⟩
 .omega
 .obtain⟨R,l⟩:=l g f rfl h;have W:=Xm s.cells ys;have B:(lo+ys.length)*k<=f*k:=aJ _ O1;rw [cN]at B;have F:=run_storeCells_at P g (lo*k) e (cellsOf enc ys) 0 cur w I O1 (λu l=>by obtain⟨y,_,Z⟩:=jQ.1 l;exact s.one y u Z)
  exact⟨g,R,_,l,F,hs.upd G rfl z (Ib rfl) (Yrr s.cells lo D I h m q d) (λk V=> .inl V) S Y,Ib aA⟩
theorem t_cpy (i:Nat)(j:Nat) {α:Type}   {t' e:TypeId} {n d:Nat} {z:Value} {enc:α->Value} {xs ys:List α}    (lo:Nat)
  (ho:o.op= .call { callee:= .builtin .copy,args:=#[x,y],argTypes:=#[t,t'] }) (W:o.dst=some d) (S:Nat.blt d N=true)
  (hx:ev env x=some u) (hy:ev env y=some z) (I:lk H i=some (Oe k e enc v xs)) (h:i≠0) (Y:lk H j=some p) (hr:Rd p k enc z ys)
  (hu:Dst v u xs.length k lo n) (Z:ys.length<=n) (l:lo+ys.length<=xs.length) (hp:0<xs.length) (ht:P.underlying t=some (.slice te)) (f:Enc P te k enc)
  (B:lk H 0=some (Yy w0 M0)) (hw:∀b,w0.heap.size<=b->sc b) :
  T P N sc (λ_=>True) o env H (G:=Unit) (λ_=>True) (λ_=>(d,.int .i64 (ys.length:Int))::env) (λ_=>(i,Oe k e enc v (spl xs lo ys))::H):=λa w hs K Q R=>by
 obtain⟨g,c,w',rfl,s,q,V⟩:=Ybc hs I h f l hp B hw hu;obtain⟨D,F⟩:=Yf3 f (hr w (hs.hold j p Y));have m:(execOp a.eval o).run P w= .ok (.value (.int .i64 (ys.length))) w':=by simp [execOp,ho,resolve,invoke,builtin,hs.ev hx,hs.ev hy,Builtin.copy_,run_underlying ht,F,dP Z,f.size,D,s,goInt]
 unfold Oper.wp;rw [m];show K _ _;rw [W];exact R () _ _ aA (q.put d _ S) V
theorem t_clr {α:Type}   {e:TypeId} {n:Nat} {zv:Value} {enc:α->Value} {xs:List α} {z:α}   (lo:Nat)
  (ho:o.op= .call { callee:= .builtin .clear,args:=#[x],argTypes:=#[t] }) (Y:o.dst=none)
  (hx:ev env x=some u) (S:lk H i=some (Oe k e enc v xs)) (l:i≠0)
  (hu:Dst v u xs.length k lo n) (hn:0<n) (Z:lo+n<=xs.length) (ht:P.underlying t=some (.slice te)) (h:Enc P te k enc)
  (hz:∀w,(zeroValue te).run P w= .ok (enc z) w) (I:k=1)
  (R:lk H 0=some (Yy w0 M0)) (hw:∀b,w0.heap.size<=b->sc b) :
  T P N sc (λ_=>True) o env H (G:=Unit) (λ_=>True) (λ_=>env) (λ_=>(i,Oe k e enc v (spl xs lo (List.replicate n z)))::H):=λa w hs K Q V=>by
 obtain⟨g,c,w',rfl,D,B,W⟩:=Ybc (ys:=List.replicate n z) hs S l h O5 O1 R hw hu;obtain⟨m,rfl⟩:∃m,n=m+1:=⟨n-1,O1⟩;have d:(enc z).cells.toList=[(enc z).cells[0]'(by rw [h.cells];omega)]:=by
  have j:(enc z).cells.size=1:=by rw [h.cells,I]
  apply jR
  all_goals grind
 have F:(Builtin.zeroCells (enc z).cells (m+1)).toList=cellsOf enc (List.replicate (m+1) z):=by
  have j:(enc z).cells.size=1:=by rw [h.cells,I]
  have f:∀q,cellsOf enc (List.replicate q z)=List.replicate q ((enc z).cells[0]' O1):=by
   intro q
   induction q with
   | zero=>rfl
   | succ q ih=>rw [iV,iV,<-ih];simp [cellsOf,d]
  rw [f];apply jR
  .simp [Builtin.zeroCells,j]
  .simp [Builtin.zeroCells,j,lO]
 have s:(execOp a.eval o).run P w= .ok (.value (.tuple #[])) w':=by simp [execOp,ho,resolve,invoke,builtin,hs.ev hx,Builtin.clear_,run_underlying ht,hz,F,D]
 unfold Oper.wp;rw [s];show K _ _;rw [Y];exact V () _ _ aA (B.put_none _) W
end Go.Sky
namespace Go.Sky
variable{listed:Array Bool}{m i:Nat}{ts:List Nat}{ops:Array Oper}{o:Oper}{rest:List (Nat×Nat)}
variable {P:Program} {N:Nat} {sc:Nat->Prop} {env env':Pw} {H H':Hp} {Q Q':Exit->Act->World->Prop} {M:Nat->Prop}
theorem Zj (n:Nat) {l : List Oper}    (a : List (Nat × Nat))
     (h:LD P N sc M l.toArray (A P N sc M l.toArray ts Q n (Ez a listed)) a env H) (b:(Region.noSelect l.toArray && Fs l.toArray ts a listed && Nat.beq (a.length+n) m)=true:=by kernel_rfl):A P N sc M l.toArray ts Q m listed env H:=
  a_lin a b h (λ_ _ h=>h)
def aact   {n:Nat}   {G:Type} {φ:G->Prop} {a:G->Pw} {b:G->Hp} (e:T P N sc M o env H φ a b) (d:ops[i]? = some o) (c:o.guard=none)
    (h:∀g,φ g->A P N sc M ops ts Q n (listed.setIfInBounds i true) (a g) (b g)):Zga P N sc M ops ts Q n listed env H i:=⟨o,G,φ,a,b,d,c,e,h⟩
theorem Qq (n:Nat)     (i j:Nat) 
    (c:Zga P N sc M ops ts Q n listed env H i) (d:Zga P N sc M ops ts Q n listed env H j) (a:((Region.ready .any ops listed == [i,j]) && !(Fn ops ts listed) && !([i,j]:List Nat).isEmpty && Nat.beq (n+1) m)=true:=by kernel_rfl):A P N sc M ops ts Q m listed env H:=by
  rw [aN]at a;have e:=dZ a.2;subst e;exact Ypb [i,j] a.1 (λq b=>by
    simp only [aX,cM,fO]at b;rcases b with rfl|rfl
    . exact c
    . exact d)
theorem Kp{F:Pw->Hp->Prop}{G:Type}{φ:G->Prop}{a:G->Pw}{b:G->Hp}(d:ops[i]? = some o)(e:T P N sc M o env H φ a b)(h:∀g,φ g->LD P N sc M ops F rest (a g) (b g))(c:o.guard=none:=by rfl):LD P N sc M ops F ((i,1)::rest) env H:=r1 e d c h
theorem r3'{F:Pw->Hp->Prop}{G:Type}{φ:G->Prop}{a:G->Pw}{b:G->Hp}(d:ops[i]? = some o)(e:T P N sc (λ_=>True) o env H φ a b)(h:∀g,φ g->LD P N sc M ops F rest (a g) (b g))(c:o.guard=none:=by rfl):LD P N sc M ops F ((i,3)::rest) env H:=r3 e d c h
def Lq   {n:Nat}   {G:Type} {φ:G->Prop} {a:G->Pw} {b:G->Hp} (d:ops[i]? = some o) (c:o.guard=none) (e:T P N sc M o env H φ a b)
    (h:∀g,φ g->A P N sc M ops ts Q n (listed.setIfInBounds i true) (a g) (b g)):Zga P N sc M ops ts Q n listed env H i:=aact e d c h
end Go.Sky
namespace Go.Sky
variable{o:Oper}{t t':TypeId}{x y:Operand}{a b:Bool}{ops:Array Oper}{rest:List (Nat×Nat)}
variable {P:Program} {N:Nat} {sc:Nat->Prop} {env env':Pw} {H H':Hp} {Q Q':Exit->Act->World->Prop} {M:Nat->Prop}
theorem d_eqb(c:o.op= .binOp .eql t x y t')(e:ev env x=some (.bool a))(f:ev env y=some (.bool b))(d:P.underlying t=some .bool):Lk P N sc o env H (.bool (a == b)):=λg w hs=>by simp [execOp,c,hs.ev e,hs.ev f,eqGuard,run_eql_bool w t a b d]
theorem d_neb(c:o.op= .binOp .neq t x y t')(e:ev env x=some (.bool a))(f:ev env y=some (.bool b))(d:P.underlying t=some .bool):Lk P N sc o env H (.bool (a != b)):=λg w hs=>by simp [execOp,c,hs.ev e,hs.ev f,eqGuard,run_neq_bool w t a b d,bne]
theorem Xc  {F:Pw->Hp->Prop} {i:Nat}   {d:Nat} {v:Value} (g:ops[i]? = some o) (e:o.dst=some d) (hs:Stb P N sc M o env H v)
  (h:LD P N sc M ops F rest ((d,v)::env) H) (f:o.guard=none:=by rfl) (c:Nat.blt d N=true:=by rfl):LD P N sc M ops F ((i,0)::rest) env H:=r0 hs g f e c h
end Go.Sky
namespace Go.Sky
open Go.RowKit Below
variable{b:Nat}{t:TypeId}{cs:Array Value}{o:Oper}{x:Operand}{v:Value}{f:FuncId}{xs:List Operand}{ats:Array TypeId}{vs:List Value}{pre:List Pc}{w0:World}{M0:Nat->Prop}{fn:Func}
variable {P:Program} {N:Nat} {sc:Nat->Prop} {env env':Pw} {H H':Hp} {Q Q':Exit->Act->World->Prop} {M:Nat->Prop}
def Ku(b:Nat)(t:TypeId)(cs:Array Value):Pc:=
  { own:=false,fp:=λk=>k=b,holds:=λw=>w.heap[b]? = some (.cells cs t (0,0))
    lt:=λw k h c=>by subst c;exact(aS.1 h).1
    stable:=λw e h a=>by rw [<-h];exact a.block b (aS.1 h).1 (λd=>d rfl) }
theorem Zfr(i:Nat)(hi:lk H i=some (box b t cs))(z:Nat.beq i 0=false):∀a w,Sat N sc env H a w->Sat N sc env ((i,Ku b t cs)::H) a w:=λa w hs=>by
    have u:i≠0:=λe=>O11;refine⟨hs.size,hs.defers,hs.env,λj h c=>?_,λj s h r n c d q b k l=>?_,λj h p c b k=>?_⟩
    . by_cases g:i=j
      . subst g;rw [Ys]at c;cases c;have y:=hs.hold i _ hi;exact y
      . rw [Zx _ _ g]at c;exact hs.hold j h c
    . by_cases g:i=j
      . subst g;rw [Ys]at c;cases c;cases q
      . rw [Zx _ _ g]at c;by_cases m:i=s
        . subst m;rw [Ys]at d;cases d;exact hs.sep j i h _ n c hi q b k l
        . rw [Zx _ _ m]at d;exact hs.sep j s h r n c d q b k l
    . by_cases g:i=j
      . subst g;rw [Ys]at c;cases c;exact hs.scope i _ u hi b k
      . rw [Zx _ _ g]at c;exact hs.scope j h p c b k
theorem d_lr   {m:TypeId} {i j:Nat}   (e:o.op= .load t x)
    (l:ev env x=some (.pointer (some ⟨b,j,none⟩))) (d:lk H i=some (Ku b m cs)) (g:∀w,(isAgg t).run P w= .ok false w) (k:cs[j]? = some v):Lk P N sc o env H v:=λa w hs=>by
  have c:w.heap[b]? = some _:=hs.hold i _ d;have h:w.cell? ⟨b,j,none⟩=cs[j]?:=by simp [World.cell?,c]
  rw [k]at h;simp [execOp,e,hs.ev l,Instr.loadAt,Instr.sureAddr,loadVar,g,load,Sem.run,h]
def Zd9(P:Program)(f:FuncId)(args:Array Value)(pre:List Pc)(al:Bool)(b:Nat)(t:TypeId)(cs:Array Value){G:Type}(φ:G->Prop)(Yt:G->Value)(cs':G->Array Value)(a:G->List Pc):Prop:=
  ∀w,(∀p∈pre,p.holds w/\¬p.fp b)->(box b t cs).holds w->Calls P f args w λe c=>∃g,e= .returned (Yt g)/\φ g/\Chg (λk=>k=b) w c/\(box b t (cs' g)).holds c/\
    ∀p∈a g,p.holds c/\p.own=false/\∀k,p.fp k->w.heap.size<=k\/(al=true/\∃q∈pre,q.fp k)
theorem Pb (n:Nat)(i:Nat)     {d:Nat}     {al:Bool} {G:Type} {φ:G->Prop} {Yt:G->Value} {cs':G->Array Value} {Z:G->List Pc}  
    (hc:Zd9 P f vs.toArray pre al b t cs φ Yt cs' Z)
    (ho:o.op= .call { callee:= .value (.func f),args:=xs.toArray,argTypes:=ats }) (hd:o.dst=some d) (hN:Nat.blt d N=true)
    (a1:EvL env xs vs) (a2:∀args w,(callFunc f args).run P w= .ok (.enter f args) w) (hH:lk H i=some (box b t cs)) (a3:i≠0) (s:PreOk (drp i H) al pre)
    (h0:lk H 0=some (Yy w0 M0)) (hw:∀b,w0.heap.size<=b->sc b) (hM:M b) :
    T P N sc M o env H φ (λg=>(d,Yt g)::env) (λg=>adds n (Z g) ((i,box b t (cs' g))::H)):=λa w hs K Q hK=>by
  have hr:(execOp a.eval o).run P w= .ok (.enter f vs.toArray) w:=by grind [Gm]
  unfold Oper.wp;rw [hr];have B:=hs.hold i _ hH;refine(hc w (λp hp=>by obtain⟨j,R,_,l,S,m,_⟩:=s.mem p hp;obtain⟨I,l⟩:=Cb _ _ _ _ l;exact⟨S w (hs.hold j R l),λhb=>hs.sep i j _ R (iH I) hH l rfl b rfl (m b hb)⟩) B).mono ?_
  rintro e w' ⟨g,rfl,hg,c,D,V⟩;rw [hd];have a5:=hs.upd hH rfl a3 c D (λk F=> .inl F) h0 hw;have a0:Chg M w w':=⟨c.os,c.tape,c.output,c.size,λk F hn=>c.block k F (λe=>hn O5)⟩;refine hK g _ _ hg (Sat.put (a5.adds (w1:=w) _ n ?_) d _ hN) a0;intro p hp;obtain⟨h1,h2,h3⟩:=V p hp;refine⟨h1,h2,λk F=>?_,λj jt l Y k F y=>?_⟩
  . rcases h3 k F with h|⟨_,q,hq,z⟩
    . exact hw k (aB (hs.hold 0 _ h0).size h)
    . obtain⟨j,R,W,l,_,m,_⟩:=s.mem q hq;exact hs.scope j R W (Cb _ _ _ _ l).2 k (m k z)
  . have a7:k<w.heap.size:=by
      by_cases r:i=j
      . subst r;rw [Ys]at l;cases l;have:=y;subst this;exact(aS.1 B).1
      . rw [Zx _ _ r]at l;exact jt.lt w k (hs.hold j jt l) y
    rcases h3 k F with h|⟨a6,q,hq,z⟩
    . omega
    . obtain⟨j',R,W,u,_,m,a8⟩:=s.mem q hq;obtain⟨I,u⟩:=Cb _ _ _ _ u;by_cases r:i=j
      . subst r;rw [Ys]at l;cases l;exact hs.sep i j' _ R (iH I) hH u rfl k y (m k z)
      . rw [Zx _ _ r]at l;by_cases a4:j=j'
        . grind
        . exact hs.sep j j' jt R a4 l u Y k y (m k z)
def Ypj(P:Program)(fn:Func)(w0:World)(pre:List Pc)(al:Bool)(b:Nat)(t:TypeId){G:Type}(φ:G->Prop)(Yt:G->Value)(cs':G->Array Value)(a:G->List Pc):Exit->Act->World->Prop:=
  bodyPost P fn λe c => ∃ g, e = .returned (Yt g) /\ φ g /\ Chg (λk => k = b) w0 c /\ (box b t (cs' g)).holds c /\
        ∀p∈a g,p.holds c/\p.own=false/\∀k,p.fp k->w0.heap.size<=k\/(al=true/\∃q∈pre,q.fp k)
theorem Dk   {c:Code}   {al:Bool}    {G:Type} {φ:G->Prop} {Yt:G->Value} {cs':G->Array Value} {m:G->List Pc} {N:Nat}
    (F:P.funcs[f]? = some fn) (B:fn.body=some c) (hN:fn.ntmps=N) (u:Nat.ble vs.length N=true) (y:AllRo pre)
    (h:∀w0 (sc:Nat->Prop),(∀k,w0.heap.size<=k->sc k)->(∀k,sc k->w0.heap.size<=k\/k=b\/∃q∈pre,q.fp k)->
      E P N sc c (Ypj P fn w0 pre al b t φ Yt cs' m) (Qz 0 vs) ((0,Yy w0 (λk=>k=b))::(1,box b t cs)::Xd 2 pre)) :
    Zd9 P f vs.toArray pre al b t cs φ Yt cs' m:=λw hp D=>by
  refine calls_of_wp F B (h w _ (λk d=> .inl d) (λk d=>d) _ w ?_);have u:vs.length<=N:=O11;have a:∀i p,lk ((0,Yy w (λk=>k=b))::(1,box b t cs)::Xd 2 pre) i=some p->(i=0/\p=Yy w (λk=>k=b))\/(i=1/\p=box b t cs)\/(i≠0/\i≠1/\p∈pre/\p.own=false):=λi p hi=>by
      by_cases n:0=i
      . grind [Ys]
      . rw [Zx _ _ n]at hi;by_cases l:1=i
        . grind [Ys]
        . rw [Zx _ _ l]at hi;obtain⟨_,g⟩:=Mp pre 2 i p hi;exact .inr (.inr ⟨λe=>n e.symm,λe=>l e.symm,g,y.mem p g⟩)
  refine⟨O5,rfl,λt v Y=>?_,λi p hi=>?_,λi j p q V hi R W k d r=>?_,λi p I hi k d=>?_⟩
  . have l:vs.toArray[t]? = some v:=by simpa using(Ft vs 0 t v Y).2
    have S:=(aS.1 l).1;simp_all [bM,eF]
  . rcases a i p hi with⟨_,rfl⟩|⟨_,rfl⟩|⟨_,_,g,_⟩
    . exact Chg.refl _ w
    all_goals grind
  . rcases a i p hi with⟨_,rfl⟩|⟨l,rfl⟩|⟨_,_,g,z⟩
    . cases W
    . have s:k=b:=d;subst s;rcases a j q R with⟨_,rfl⟩|⟨Z,rfl⟩|⟨_,_,g,_⟩
      . exact r.2 rfl
      all_goals grind
    grind
  . rcases a i p hi with⟨n,_⟩|⟨_,rfl⟩|⟨_,_,g,_⟩
    . omega
    . exact .inr (.inl d)
    grind
theorem Dt   {al:Bool}    {G:Type} {φ:G->Prop} {Yt:G->Value} {cs':G->Array Value} {l:G->List Pc}  {e:Exit} (W:e= .ret\/e= .normal) (S:∀k,sc k->w0.heap.size<=k\/k=b\/∃q∈pre,q.fp k)
    (g:G)  (u:∀a w,Sat N sc env H a w->(results fn a.tmps).run P w= .ok v w) (hv:Yt g=v) (Y:φ g) (i:Nat) (hi:lk H i=some (box b t cs)) (B:cs' g=cs) (a0:Nat.beq i 0=false) (V:lk H 0=some (Yy w0 (λk=>k=b))) (c:Give (drp i H) al (l g)) :
    X N sc e (Ypj P fn w0 pre al b t φ Yt cs' l) env H:=λa w hs=>by
  have a1 : a.defers = [] /\ ∃ v, (results fn a.tmps).run P w = .ok v w /\ (∃ g, Ending.returned v = .returned (Yt g) /\ φ g /\ Chg (λk => k = b) w0 w /\ (box b t (cs' g)).holds w /\
        ∀p∈l g,p.holds w/\p.own=false/\∀k,p.fp k->w0.heap.size<=k\/(al=true/\∃q∈pre,q.fp k)):=by
    refine⟨hs.defers,v,u a w hs,g,O5,Y,hs.hold 0 _ V,by rw [B];exact hs.hold i _ hi,λp hp=>?_⟩;obtain⟨ho,h|⟨h1,h2⟩⟩:=c.mem p hp
    case inr=>grind
    obtain⟨j,y,r,m,n,D,z⟩:=h;obtain⟨R,m⟩:=Cb _ _ _ _ m;refine⟨n w (hs.hold j y m),ho,λk hk=>?_⟩;have d:=D k hk;have F:k≠b:=λe=>by subst e;exact hs.sep i j _ y (iH R) hi m rfl k rfl d
    cases al with
    | true=>
      rcases S k (hs.scope j y r m k d)with h|h|h
      all_goals grind
    | false=>
      have s:=z rfl;have hn:=hs.sep j 0 y _ r m V s k d;rcases aW k _ with I|Z
      . exact absurd ⟨I,F⟩ hn
      omega
  rcases W with rfl|rfl
  all_goals assumption
end Go.Sky
namespace Go.Sky
open Go.RowKit Below
variable{o:Oper}{f:FuncId}{xs:List Operand}{c x y:Operand}{ats:Array TypeId}{t t':TypeId}{cs:Array Value}{pre:List Pc}{M0:Nat->Prop}{ops:Array Oper}{ts:List Nat}{listed:Array Bool}{v:Value}{k:Nat}{p:Pc}{rest:List Oper}
variable {P:Program} {N:Nat} {sc:Nat->Prop} {env env':Pw} {H H':Hp} {Q Q':Exit->Act->World->Prop} {M:Nat->Prop}
theorem d_mkf (vs:List Value)(d:o.op= .makeFunc (.func f) xs.toArray #[])(e:EvL env xs vs):Lk P N sc o env H (.func (.func f) vs.toArray #[]):=λa w hs=>by have b:=e.map hs;simp [execOp,d,Instr.makeFunc,b]
theorem Zou {a:Act} {w:World} (hs:Sat N sc env H a w)      {d vs:List Value} (h:o.op= .call { callee:= .value c,args:=xs.toArray,argTypes:=ats })
  (e:ev env c=some (.func (.func f) d.toArray #[])) (b:EvL env xs vs):(execOp a.eval o).run P w=(callFunc f (d ++ vs).toArray).run P w:=by
 have g:=b.map hs;simp [execOp,h,resolve,invoke,hs.ev e,Deferred.ofValue,g]
theorem Zus (n:Nat)(i:Nat)(h:List Value)(vs:List Value)      {d b:Nat}     {al:Bool} {G:Type} {φ:G->Prop} {Yt:G->Value} {cs':G->Array Value} {m:G->List Pc} {w0:World} 
  (V:Zd9 P f (h ++ vs).toArray pre al b t cs φ Yt cs' m)
  (ho:o.op= .call { callee:= .value c,args:=xs.toArray,argTypes:=ats }) (W:ev env c=some (.func (.func f) h.toArray #[])) (Y:o.dst=some d) (S:Nat.blt d N=true)
  (s:EvL env xs vs) (e:∀args w,(callFunc f args).run P w= .ok (.enter f args) w) (F:lk H i=some (box b t cs)) (z:i≠0) (j:PreOk (drp i H) al pre)
  (D:lk H 0=some (Yy w0 M0)) (hw:∀b,w0.heap.size<=b->sc b) (R:M b) :
  T P N sc M o env H φ (λg=>(d,Yt g)::env) (λg=>adds n (m g) ((i,box b t (cs' g))::H)):=λa w hs K Q I=>by
 have Z:(execOp a.eval o).run P w= .ok (.enter f (h ++ vs).toArray) w:=by grind [Zou]
 let o2:={ o with op:= .call { callee:= .value (.func f),args:=((h ++ vs).map Operand.const).toArray,argTypes:=ats } };have u:∀l,EvL env (l.map Operand.const) l:=λl=>by
  induction l with
  | nil=>trivial
  | cons v r ih=>exact⟨rfl,ih⟩
 have B:(execOp a.eval o2).run P w= .ok (.enter f (h ++ vs).toArray) w:=by grind [Gm]
 have q:=Pb _ _ V (o:=o2) rfl Y S (u _) e F z j D hw R a w hs K Q I;unfold Oper.wp at q ⊢;rw [B]at q;rw [Z];exact q
theorem Zd7 (n:Nat)    {m:Nat} (i j k:Nat) 
  (d:Zga P N sc M ops ts Q n listed env H i) (e:Zga P N sc M ops ts Q n listed env H j) (g:Zga P N sc M ops ts Q n listed env H k) (a:((Region.ready .any ops listed == [i,j,k]) && !(Fn ops ts listed) && !([i,j,k]:List Nat).isEmpty && Nat.beq (n+1) m)=true:=by kernel_rfl):A P N sc M ops ts Q m listed env H:=by
 rw [aN]at a;have b:=dZ a.2;subst b;exact Ypb _ a.1 (λq h=>by grind)
theorem d_fld    {f:Nat} {d:Array Field} {b:Field}   (h:o.op= .field t x f)
  (l:ev env x=some (.agg cs)) (i:P.underlying t=some (.struct d)) (g:d[f]? = some b) (e:∀w,(isAgg b.type).run P w= .ok false w) (j:cs[b.offset]? = some v):Lk P N sc o env H v:=λa w hs=>by
 simp [execOp,h,hs.ev l,Instr.field,run_underlying i,g,asAgg,part,e,j]
theorem Yaj{s b:ByteArray}(e:o.op= .binOp .eql t x y t')(g:ev env x=some (.string s))(h:ev env y=some (.string b))(i:b.data.toList=[]) :
  Lk P N sc o env H (.bool (decide (s.size=0))):=λa w hs=>by
 have d:(s.toList == b.toList)=decide (s.size=0):=by rw [ByteArray.toList_eq,ByteArray.toList_eq];have:s.size=s.data.toList.length:=rfl;grind
 simp [execOp,e,hs.ev g,hs.ev h,eqGuard,binOp_string_eql,d]
theorem Zdy  {b:BinOp}   {xs ys:Array Value} {r:Value} (g:o.op= .binOp b t x y t') (i:ev env x=some (.agg xs)) (j:ev env y=some (.agg ys))
  (e:P.eqGuardType P.depth t=false) (h:∀w,(binOp b t (.agg xs) (.agg ys)).run P w= .ok r w):Lk P N sc o env H r:=λa w hs=>by
 have d:=run_eqGuard_agg w b t x y xs ys e;simp only [execOp,g,hs.ev i,hs.ev j,Sem.run_bind,d,h w,Result.andThen_ok,Sem.run_pure]
abbrev SL:=Option Addr×Nat×Nat
abbrev Xk (s:SL):Value:= .slice s.1 s.2.1 s.2.2
theorem Xp{α:Type}{enc:α->Value}{xs:List α}(i:Nat)(hi:lk H i=some p)(b:Rd p k enc v xs):∀a w,Sat N sc env H a w->∃s:SL,v=Xk s:=λa w hs=>by obtain⟨d,c,rfl,_⟩:=b w (hs.hold i p hi);simp
theorem Zby{c:Code}{α:Type}{p:α->Prop}(b:∀a w,Sat N sc env H a w->∃x,p x)(h:∀x,p x->E P N sc c Q env H):E P N sc c Q env H:=λa w hs=>by obtain⟨x,d⟩:=b a w hs;exact h x d a w hs
theorem Zud{e:Exit}{α:Type}{p:α->Prop}(b:∀a w,Sat N sc env H a w->∃x,p x)(h:∀x,p x->X N sc e Q env H):X N sc e Q env H:=λa w hs=>by obtain⟨x,d⟩:=b a w hs;exact h x d a w hs
theorem Zkj{α:Type}{p:α->Prop}(b:∀a w,Sat N sc env H a w->∃x,p x)(h:∀x,p x->L P N sc ops rest Q env H):L P N sc ops rest Q env H:=λa w hs=>by obtain⟨x,d⟩:=b a w hs;exact h x d a w hs
def Nf{β:Type}(q:β->Pc)(zs:List β):Pc:=
 {own:=false,fp:=λb=>∃z∈zs,(q z).fp b,holds:=λw=>∀z∈zs,(q z).holds w
  lt:=λw b h e=>by obtain⟨z,d,e⟩:=e;exact(q z).lt w b (h z d) e
  stable:=λw m h a z d=>(q z).stable w m (h z d) ⟨a.os,a.tape,a.output,a.size,λk i j=>a.block k i (λg=>j (λl=>g ⟨z,d,l⟩))⟩ }
def Xn{β:Type}(k:Nat)(enc:β->Value)(q:β->Pc)(v:Value)(zs:List β):Pc:=
 {own:=false,fp:=λb=>(zs≠[]/\v.ownBlock=some b)\/∃z∈zs,(q z).fp b,holds:=λw=>(Yx k enc v zs).holds w/\(Nf q zs).holds w
  lt:=λw b h d=>by
   rcases d with d|d
   .exact(Yx k enc v zs).lt w b h.1 d
   .exact(Nf q zs).lt w b h.2 d
  stable:=λw l h a=>⟨(Yx k enc v zs).stable w l h.1 ⟨a.os,a.tape,a.output,a.size,λk g i=>a.block k g (λe=>i (λj=>e (.inl j)))⟩,
   (Nf q zs).stable w l h.2 ⟨a.os,a.tape,a.output,a.size,λk g i=>a.block k g (λe=>i (λj=>e (.inr j)))⟩⟩ }
def Zc{β:Type}{enc:β->Value}{q:β->Pc}{zs:List β} : Rd (Xn k enc q v zs) k enc v zs:=λw h=>h.1.1
theorem Zcz{q:Pc}(i j:Nat)(hi:lk H i=some p)(r:Nat.beq i 0=false)(z:p.own=false)(n:∀w,p.holds w->q.holds w)(l:∀b,q.fp b->p.fp b)(B:q.own=false):∀a w,Sat N sc env H a w->Sat N sc env ((j,q)::H) a w:=λa w hs=>
 hs.add j q (n w (hs.hold i p hi)) (λm u _ s Ff b d g=>by
  rcases Ff with Ff|Ff
  .grind
  .by_cases h:m=i
   .grind
   .exact hs.sep m i u p h s hi Ff b g (l b d)) (λb d=>hs.scope i p (λe=>O11) hi b (l b d))
def Za8{β:Type}{q:β->Pc}{zs:List β}(i j:Nat)(z:β)(hi:lk H i=some (Nf q zs))(d:Nat.beq i 0=false)(e:z∈zs)(l:(q z).own=false):∀a w,Sat N sc env H a w->Sat N sc env ((j,q z)::H) a w:=
 Zcz i j hi d rfl (λw h=>h z e) (λb g=>⟨z,e,g⟩) l
def Nd{β:Type}{enc:β->Value}{q:β->Pc}{zs:List β}(i j:Nat)(z:β)(hi:lk H i=some (Xn k enc q v zs))(d:Nat.beq i 0=false)(e:z∈zs)(l:(q z).own=false):∀a w,Sat N sc env H a w->Sat N sc env ((j,q z)::H) a w:=
 Zcz i j hi d rfl (λw h=>h.2 z e) (λb g=> .inr ⟨z,e,g⟩) l
def Zch{β:Type}{enc:β->Value}{q:β->Pc}{zs:List β}(i j:Nat)(hi:lk H i=some (Xn k enc q v zs))(d:Nat.beq i 0=false):∀a w,Sat N sc env H a w->Sat N sc env ((j,Nf q zs)::H) a w:=
 Zcz i j hi d rfl (λw h=>h.2) (λb e=> .inr e) rfl
theorem Zd{β:Type}{zs:List β}{i:Nat}{d:β}(h:i<zs.length):zs.getD i d∈zs:=by grind
theorem Zy1{q r:Pc}(i j n:Nat)(hi:lk H i=some p)(u:lk H j=some q)(F:Nat.beq i 0=false)(G:Nat.beq j 0=false)(R:p.own=false)(I:q.own=false)(D:∀w,p.holds w->q.holds w->r.holds w)(z:∀b,r.fp b->p.fp b\/q.fp b)(S:r.own=false) :
  ∀a w,Sat N sc env H a w->Sat N sc env ((n,r)::H) a w:=λa w hs=>
 hs.add n r (D w (hs.hold i p hi) (hs.hold j q u)) (λm B _ l Ff b s g=>by
  rcases Ff with Ff|Ff
  .grind
  .rcases z b s with h|h
   .by_cases d:m=i
    .grind
    .exact hs.sep m i B p d l hi Ff b g h
   .by_cases d:m=j
    .grind
    .exact hs.sep m j B q d l u Ff b g h) (λb s=>by
  rcases z b s with h|h
  .exact hs.scope i p (λe=>O11) hi b h
  .exact hs.scope j q (λe=>O11) u b h)
def Xq{β:Type}{enc:β->Value}{q:β->Pc}{zs:List β}(i j n:Nat)(hi:lk H i=some (Yx k enc v zs))(m:lk H j=some (Nf q zs))(d:Nat.beq i 0=false)(e:Nat.beq j 0=false) :
  ∀a w,Sat N sc env H a w->Sat N sc env ((n,Xn k enc q v zs)::H) a w:=
 Zy1 i j n hi m d e rfl rfl (λw g h=>⟨g,h⟩) (λb l=>l) rfl
theorem Yi{β:Type}(q:β->Pc)(n:Nat):∀a w,Sat N sc env H a w->Sat N sc env ((n,Nf q ([]:List β))::H) a w:=λa w hs=>
 hs.add n _ (λz e=>O5) (λh i _ _ Ff b d g=>by obtain⟨z,e,_⟩:=d;grind) (λb d=>by obtain⟨z,e,_⟩:=d;grind)
theorem Zq{β:Type}{q:β->Pc}{zs:List β}{z:β}(i j n:Nat)(hi:lk H i=some (Nf q zs))(r:lk H j=some (q z))(e:Nat.beq i 0=false)(g:Nat.beq j 0=false)(s:(q z).own=false) :
  ∀a w,Sat N sc env H a w->Sat N sc env ((n,Nf q (zs ++ [z]))::H) a w:=
 Zy1 i j n hi r e g rfl s (λw m u y l=>by
  rcases cW.1 l with h|h
  .exact m y h
  grind) (λb d=>by
  obtain⟨y,l,d⟩:=d;rcases cW.1 l with h|h
  .exact .inl ⟨y,h,d⟩
  grind) rfl
theorem Zy0{β:Type}{q:β->Pc}{zs ys:List β}(i n:Nat)(hi:lk H i=some (Nf q zs))(e:Nat.beq i 0=false)(hs:∀y∈ys,y∈zs) :
  ∀a w,Sat N sc env H a w->Sat N sc env ((n,Nf q ys)::H) a w:=
 Zcz i n hi e rfl (λw h y g=>h y (hs y g)) (λb d=>by obtain⟨y,g,d⟩:=d;exact⟨y,hs y g,d⟩) rfl
end Go.Sky
namespace Go.Sky
open Go.RowKit Below
variable{o:Oper}{H0:Hp}{ks ts:List Nat}{t ty:TypeId}{d:Nat}{cs:Array Value}{M0:Nat->Prop}{p:Pc}{ops:Array Oper}{listed:Array Bool}{x:Operand}{m:Int}{k:IntKind}{rest:List Oper}{pos:String}
variable {P:Program} {N:Nat} {sc:Nat->Prop} {env env':Pw} {H H':Hp} {Q Q':Exit->Act->World->Prop} {M:Nat->Prop}
def Off(H:Hp)(ks:List Nat):Nat->Prop:=λx=>∀k∈ks,∀p,lk H k=some p->¬p.fp x
def Agr(H0 H:Hp):List Nat->Prop
 | []=>True
 | k::r=>lk H k=lk H0 k/\Agr H0 H r
theorem Agr.mem{H0 H:Hp} : ∀{ks:List Nat},Agr H0 H ks->∀k∈ks,lk H k=lk H0 k
 | k::r,h,j,a=>by
  cases a with
  | head=>exact h.1
  | tail _ a=>exact Agr.mem h.2 j a
def rst(ks:List Nat):Hp->Hp
 | []=>[]
 | (i,p)::r=>cond (ks.any (Nat.beq i)) ((i,p)::rst ks r) (rst ks r)
theorem Zjb(ks:List Nat):∀(H:Hp) (i:Nat) (p:Pc),lk (rst ks H) i=some p->i∈ks/\lk H i=some p
 | [],_,_,h=>by cases h
 | (j,q)::r,i,p,h=>by
  unfold rst at h;cases hb:ks.any _ with
  | true=>
   rw [hb]at h;simp only [cond_true]at h;by_cases a:j=i
   .subst a;rw [Ys]at h ⊢;obtain⟨x,c,b⟩:=List.any_eq_true.1 hb;have:=dZ b;subst this;exact⟨c,h⟩
   .rw [Zx _ _ a]at h ⊢;exact Zjb ks r i p h
  | false=>
   rw [hb]at h;obtain⟨e,f⟩:=Zjb ks r i p h;simp_all [List.any_eq_true,Zx]
theorem Pj {id:Nat} {l:List Oper} (ks:List Nat) (ts:List Nat) 
  (h:A P N sc (Off H ks) l.toArray ts Q l.length (Array.replicate l.length false) env H) (a:P.follows .mixedOrders=true:=by kernel_rfl):E P N sc (.region id l.toArray true) Q env H:=Lo _ ts h a
theorem Ga{v:Value}(B:Lk P N sc o env (rst ks H) v)(n:Agr H0 H ks):Stb P N sc (Off H0 ks) o env H v:=λa w hs h c=>by refine B a h ⟨hs.size,hs.defers,hs.env,λi b hi=>?_,λi j b D f hi s=>hs.sep i j b D f (Zjb _ _ _ _ hi).2 (Zjb _ _ _ _ s).2,λi b l hi=>hs.scope i b l (Zjb _ _ _ _ hi).2⟩;obtain⟨g,e⟩:=Zjb _ _ _ _ hi;refine b.stable w h (hs.hold i b e) ⟨c.os,c.tape,c.output,c.size,λq z u=>c.block q z (λy=>u (λr=>?_))⟩;exact y i g b (by rw [<-n.mem i g];omega) r
theorem Yh9   {i:Nat} {z:Value}  {w0:World}    (s:o.op= .alloc t) (n:o.dst=some d) (g:Nat.blt d N=true)
  (y:∀w,(zeroValue t).run P w= .ok z w) (l:z.cells=cs) (e:lk H 0=some (Yy w0 M0)) (v:∀b,w0.heap.size<=b->sc b) (h:Agr H0 H ks) :
  T P N sc (Off H0 ks) o env H (G:=Nat) (λb=>Off H0 ks b) (λb=>(d,.pointer (some ⟨b,0,none⟩))::env) (λb=>(i,box b t cs)::H):=λa w hs K Q f=>by
 subst l;have u:(execOp a.eval o).run P w= .ok (.value (.pointer (some ⟨w.heap.size,0,none⟩))) (w.alloc (.cells z.cells t)):=by simp [execOp,s,Instr.alloc,y,newVar,newRow]
 unfold Oper.wp;rw [u];show K _ _;rw [n];exact f _ _ _ (λk r p c q=>by rw [<-h.mem k r]at c;exact absurd (p.lt w _ (hs.hold k p c) q) (Nat.lt_irrefl _)) ((hs.new e v i _ _ (heap_alloc_new w _) (λb j=>j)).put d _ g) (Chg.alloc _ _ _)
theorem Np{q:Pc}(i:Nat)(h:p=q)(hi:lk H i=some p)(b:Nat.beq i 0=false):∀a w,Sat N sc env H a w->Sat N sc env ((i,q)::H) a w:=λa w hs=>by grind [Zq4]
def Zfh{n:Nat}(hi:∀a w,Sat N sc env H a w->Sat N sc env' H' a w)(h:A P N sc M ops ts Q n listed env' H'):A P N sc M ops ts Q n listed env H:=λa w hs=>h a w (hi a w hs)
theorem Yh1 (r:Int)(b:o.op= .unOp .neg t x)(e:ev env x=some (.int .u64 m))(c:(-m)%18446744073709551616=r):Lk P N sc o env H (.int .u64 r):=λa w hs=>by rw [<-c,<-wrap_u];simp [execOp,b,hs.ev e,Op.unary,Op.intArith]
def Ys9{b:TypeId}{r:Int}{ds:TypeDesc}(c:o.op= .convert t b x)(f:ev env x=some (.int k m))(a:P.underlying t=some ds)(e:P.underlying b=some (.int .u64))(g:m%18446744073709551616=r) :
  Lk P N sc o env H (.int .u64 r):=Zil c f a e ‹_›
theorem Sat.yieldedu{a:Act}{w:World}(h:Sat N sc env H a w){j:Nat}(e:(ops[j]?).bind (·.dst)=some d)(c:lk env d=some undef):Go.yielded ops a.tmps j=none:=by
 have b:=h.env d _ c;unfold Go.yielded;rw [e];simp only [Option.bind_some];rw [bM]at b;cases hx:a.tmps[d]? with
 | none=>rfl
 | some v=>rw [hx]at b;subst b;rfl
theorem gsku      {c:Array Edge} {f:Op} {j e:Nat} {b:Bool} (n:(ops[j]?).bind (·.dst)=some e) (l:lk env e=some undef) (i:Nat.blt d N=true)
  (h:L P N sc ops rest Q ((d,undef)::env) H):L P N sc ops (⟨some d,f,ty,pos,c,some (j,b)⟩::rest) Q env H:=λa w hs=>
 wpList_step λK g=>by
  have r:=hs.yieldedu n l;have q:Region.wanted ⟨some d,f,ty,pos,c,some (j,b)⟩ (yielded ops a.tmps)=false:=by simp [Region.wanted,r]
  rw [q];exact g _ _ (h _ _ (hs.put d _ i))
def nop:Pc:={ own:=false,fp:=λ_=>False,holds:=λ_=>True,lt:=λ_ _ _ h=>h.elim,stable:=λ_ _ _ _=>trivial }
theorem s_move(i j:Nat)(hi:lk H i=some p)(q:Nat.beq i 0=false)(F:Nat.beq j 0=false)(D:Nat.beq i j=false):∀a w,Sat N sc env H a w->Sat N sc env ((j,p)::(i,nop)::H) a w:=λa w hs=>by
 have q:i≠0:=λe=>O11;refine⟨hs.size,hs.defers,hs.env,λk kt f=>?_,λk s kt u r f c v b n h=>?_,λk kt y f b n=>?_⟩
 .by_cases l:j=k
  .subst l;rw [Ys]at f;cases f;exact hs.hold i p hi
  .rw [Zx _ _ l]at f;by_cases g:i=k
   .subst g;rw [Ys]at f;cases f;trivial
   .rw [Zx _ _ g]at f;exact hs.hold k kt f
 .by_cases l:j=k
  .subst l;rw [Ys]at f;cases f;rw [Zx _ _ r]at c;by_cases g:i=s
   .subst g;rw [Ys]at c;cases c;exact h
   .rw [Zx _ _ g]at c;exact hs.sep i s p u g hi c v b n h
  .rw [Zx _ _ l]at f;by_cases g:i=k
   .subst g;rw [Ys]at f;cases f;cases v
   .rw [Zx _ _ g]at f;by_cases z:j=s
    .subst z;rw [Ys]at c;cases c;exact hs.sep k i kt p (iH g) f hi v b n h
    .rw [Zx _ _ z]at c;by_cases B:i=s
     .subst B;rw [Ys]at c;cases c;exact h
     .rw [Zx _ _ B]at c;exact hs.sep k s kt u r f c v b n h
 .by_cases l:j=k
  .subst l;rw [Ys]at f;cases f;exact hs.scope i p q hi b n
  .rw [Zx _ _ l]at f;by_cases g:i=k
   .subst g;rw [Ys]at f;cases f;exact n.elim
   .rw [Zx _ _ g]at f;exact hs.scope k kt y f b n
theorem fill3{h j a b c e f g:Value}:Instr.fill (λi=>some (i*2,2)) ((List.range (3*2)).map ((Value.agg #[h,j]).cells[· % (Value.agg #[h,j]).cells.size]!)).toArray [(0,.agg #[a,b]),(1,.agg #[c,e]),(2,.agg #[f,g])]=some #[a,b,c,e,f,g]:=by simp [Instr.fill,Value.cells,List.range,List.range.loop]
end Go.Sky
namespace Go.Sky
variable{o xs ys:List Nat}{k c b x y i m w a s h:Nat}{P:Program}{sc:Nat->Prop}{t:TypeId}{kd:IntKind}
theorem Zyh(k:Nat):U^k=256^(8*k):=by grind [Nat.pow_mul]
theorem Zd8(k:Nat):U^k=2^(64*k):=by grind [Nat.pow_mul]
def Qk:0<U:=O6
theorem Yo6(h:Yt U (o.take k)+c*U^k=Yt U (xs.take k)+Yt U (ys.take k))(d:k<o.length) :
  Yt U ((o.set k ((xs.getD k 0+ys.getD k 0+c)%U)).take (k+1))+(xs.getD k 0+ys.getD k 0+c)/U*U^(k+1)=Yt U (xs.take (k+1))+Yt U (ys.take (k+1)):=by
 rw [Bp _ _ _ d,Qw,Qw,cJ];grind [Nat.mod_add_div,Nat.add_mul,Nat.mul_comm,Nat.mul_assoc]
theorem Yif(f:c<=1)(j:xs.getD k 0<U)(l:ys.getD k 0<U)(h:Yt U (o.take k)+Yt U (ys.take k)=Yt U (xs.take k)+c*U^k)(e:k<o.length) :
  Yt U ((o.set k ((xs.getD k 0+U-ys.getD k 0-c)%U)).take (k+1))+Yt U (ys.take (k+1))=Yt U (xs.take (k+1))+brw (xs.getD k 0) (ys.getD k 0) c*U^(k+1):=by
 unfold brw;rw [Bp _ _ _ e,Qw,Qw];generalize xs.getD k 0=a at *;generalize ys.getD k 0=b at *;by_cases g:a<b+c
 .have d:(a+U-b-c)%U+b+c=a+U:=O5;grind
 .have d:(a+U-b-c)%U+b+c=a:=by grind
  grind
theorem Zo2(b:Nat)(xs:List Nat)(k:Nat)(d:k<xs.length):Yt b xs=Yt b (xs.take k)+xs.getD k 0*b^k+b^(k+1)*Yt b (xs.drop (k+1)):=by
 conv=>lhs;rw [<-gC (k+1) xs]
 grind [Mm,Qw,List.length_take,Nat.min_eq_left]
theorem Ztq(l:0<b)(p:∀d∈xs,d<b)(e:k<xs.length)(f:k<ys.length)(n:xs.drop (k+1)=ys.drop (k+1))(h:xs.getD k 0<ys.getD k 0):Yt b xs<Yt b ys:=by
 rw [Zo2 b xs k e,Zo2 b ys k f];have g:Yt b (xs.take k)<b^k:=by grind [Zik,List.mem_of_mem_take,List.length_take,Nat.min_eq_left]
 have j:(xs.getD k 0+1)*b^k<=ys.getD k 0*b^k:=aJ _ h;grind
theorem Zhz (xs:List Nat)(ys:List Nat)(e:k<xs.length)(f:k<ys.length)(d:xs.drop (k+1)=ys.drop (k+1))(h:xs.getD k 0=ys.getD k 0):xs.drop k=ys.drop k:=by grind [List.drop_eq_getElem_cons]
theorem Zbz(d:2<=b)(h:(dg b x).length<(dg b y).length):x<y:=by have e:=(Xw d _ x).1 (aF _);grind [La]
theorem Ybo(h:0<x):bl x=(dg U x).length*64-(64-bl ((dg U x).getD ((dg U x).length-1) 0))/\bl ((dg U x).getD ((dg U x).length-1) 0)<=64/\0<(dg U x).length/\0<bl ((dg U x).getD ((dg U x).length-1) 0):=by
 have d:0<(dg U x).length:=by rw [La Qh,gG];omega
 have f:U^((dg U x).length-1)<=x:=(La Qh _ x).1 O1;have g:=(Xw Qh _ x).1 (aF _);have e:x/U^((dg U x).length-1)<U:=by rw [bP (cD Qk),bQ,<-cJ,show((dg U x).length-1).succ=(dg U x).length by omega];omega
 rw [Hz Qh,bJ e,Zd8,Gk];have j:64*((dg U x).length-1)<bl x:=by simp_all [Zc4,Zd8]
 have l:bl x<=64*(dg U x).length:=by simp_all [Qs,Zd8]
 refine⟨?_,?_,d,?_⟩<;>omega
theorem Zjc(x:Nat):(dg 256 x).length=(bl x+7)/8:=by
 have d:∀k,(dg 256 x).length<=k↔(bl x+7)/8<=k:=λk=>by rw [Xw O6,show 256^k=2^(8*k) by grind [Nat.pow_mul],<-Qs];omega
 have e:=(d _).1 (aF _);have f:=(d _).2 (aF _);omega
theorem lenU(x:Nat):(dg U x).length=((dg 256 x).length+7)/8:=by
 have d:∀k,(dg U x).length<=k↔((dg 256 x).length+7)/8<=k:=λk=>by rw [Xw Qh,Zyh,<-Xw O6];omega
 have e:=(d _).1 (aF _);have f:=(d _).2 (aF _);omega
theorem Zf1(d:xs.length=ys.length)(h:∀i,i<xs.length->xs.getD i 0=ys.getD i 0):xs=ys:=by grind [List.ext_getElem]
theorem Nj{α:Type}{o:List α}{j:Nat}{d z:α}(hi:i<o.length):(o.set i d).getD j z=if i=j then d else o.getD j z:=by grind
theorem Iv(n i:Nat):(List.replicate n 0).getD i 0=0:=by grind
theorem Ztz(x k:Nat):x/U^(k/8)%U/2^(k%8*8)%256=x/256^k%256:=by
 have g:=cP k 8;have d:U=256^(k%8)*256^(8-k%8):=by rw [<-bW,show k%8+(8-k%8)=8 by omega]
 have e:(2)^(k%8*8)=256^(k%8):=by grind [Nat.pow_mul,Nat.mul_comm]
 have f:x/U^(k/8)/256^(k%8)=x/256^k:=by grind [Nat.div_div_eq_div_mul,Zyh,Nat.pow_add]
 rw [e]
 conv=>lhs;rw [d]
 rw [Nat.mod_mul_right_div_self,<-d,f,show 8-k%8=(8-k%8-1)+1 by omega,cJ,Nat.mod_mul_left_mod]
def hi(x m w:Nat):Nat:=x/256^m*256^m/U^w%U
theorem hi_ge(h:m<=8*w):hi x m w=x/U^w%U:=by unfold hi;rw [Zyh,show 8*w=m+(8*w-m) by omega,bW,<-aQ,mL _ (cD O6),aQ]
theorem hi_lt(h:8*w+8<=m):hi x m w=0:=by unfold hi;rw [Zyh,show m=8*w+(8+(m-8*w-8)) by omega,bW 256 _,bQ (256^(8*w)),<-eH,mL _ (cD O6),bW 256 8];grind
theorem Yml{r:Nat}(h:m=8*w+r)(d:r<=8):hi x m w=x/256^m*256^r%U:=by unfold hi;grind [Zyh,Nat.pow_add,Nat.mul_comm,Nat.mul_assoc,Nat.mul_div_cancel,Nat.pow_pos]
theorem Ysi(x k:Nat):hi x (k+1) (k/8) ||| (x/256^k%256*2^(k%8*8))%U=hi x k (k/8):=by
 have u:=cP k 8;rw [Yml (r:=k%8+1) O1 O1,Yml (r:=k%8) O1 O1];have f:(2:Nat)^(k%8*8)=256^(k%8):=by grind [Nat.pow_mul,Nat.mul_comm]
 rw [f];generalize k%8=r at *;have q:x/256^(k+1)=x/256^k/256:=by rw [cJ,aQ]
 rw [q];generalize x/256^k=z;have p:U=256^(r+1)*256^(7-r):=by rw [<-bW,show r+1+(7-r)=8 by omega]
 have d:z%256*256^r<256^(r+1):=by simp [cJ,bQ,lP,cD,bI]
 have e:256^(r+1)<=U:=by simp_all [dJ,cD]
 rw [bJ (dX d e)];have n:z/256*256^(r+1)%U=256^(r+1)*(z/256%256^(7-r)):=by grind [Nat.mul_comm,Nat.mul_mod_mul_left]
 rw [n];have g:(256)^(r+1)=2^(8*(r+1)):=O5;have Ff:=jW (b:=z%256*256^r) (i:=8*(r+1)) O1 (z/256%256^(7-r));rw [<-g]at Ff;have v:=(cP z 256).symm;have j:z*256^r=256^(r+1)*(z/256)+z%256*256^r:=by grind
 rw [j,p];have l:256^(r+1)*(z/256)+z%256*256^r=z%256*256^r+256^(r+1)*(z/256):=O1;rw [l,mY,iT,bJ d,Nat.add_mul_div_left _ _ (cD O6),cT d,cH];omega
theorem Mv(x:Nat):(dg U x).length=(bl x+63)/64:=by
 have d:∀k,(dg U x).length<=k↔(bl x+63)/64<=k:=λk=>by rw [Xw Qh,Zd8,<-Qs];omega
 have e:=(d _).1 (aF _);have f:=(d _).2 (aF _);omega
theorem bl_add:bl (x+y)<=max (bl x) (bl y)+1:=by rw [Qs];have d:=Ac x;have e:=Ac y;have f:2^bl x<=2^max (bl x) (bl y):=cY O6 O1;have g:2^bl y<=2^max (bl x) (bl y):=cY O6 O1;omega
theorem Zof(x y:Nat):bl (x*y)<=bl x+bl y:=by
 rw [Qs,bW]
 all_goals simp [gW,iK,cD,iN,Ac,dH]
theorem Zkv(b:Nat)(o:List Nat)(n p r:Nat)(d:p<o.length)(e:p<n):Yt b ((o.set p r).take n)+o.getD p 0*b^p=Yt b (o.take n)+r*b^p:=by
 induction n with
 | zero=>omega
 | succ n f=>
  rw [Qw b _ n,Qw b o n,Nj d];by_cases h:p=n
  .subst h;rw [aM rfl,Zor];omega
  grind
theorem Ygl(f:x<U)(g:y<U)(d:a<U)(e:c<U) :
  ((x*y%U+a+0)%U+c+0)%U+U*(((x*y/U+(x*y%U+a+0)/U)%U+((x*y%U+a+0)%U+c+0)/U)%U)=x*y+a+c/\
  ((x*y/U+(x*y%U+a+0)/U)%U+((x*y%U+a+0)%U+c+0)/U)%U<U:=by
 have h:x*y<=18446744073709551615*18446744073709551615:=aP O5 O5;grind
theorem Yls  {V r d n:Nat} (l:Yt U (o.take n)+c*U^(i+k)=V+xs.getD i 0*U^i*Yt U (ys.take k)) (f:i+k<o.length) (e:i+k<n)
  (j:r+U*d=xs.getD i 0*ys.getD k 0+o.getD (i+k) 0+c):Yt U ((o.set (i+k) r).take n)+d*U^(i+(k+1))=V+xs.getD i 0*U^i*Yt U (ys.take (k+1)):=by
 have g:=Zkv U o n _ r f e;rw [Qw];grind
theorem Zkb  {N:Nat}  {env:Pw} {H:Hp} {o:Oper} {x y:Operand}  {s:ByteArray}  {m:Int}  (g:o.op= .index t x y)
  (l:ev env x=some (.string s)) (n:ev env y=some (.int kd m)) (j:P.underlying t=some .string)
  (e:m=(i:Int)) (f:i<256) (hs:s.size=256) (d:∀i,i<256->(s.data.toList.getD i 0).toNat=bl i):Lk P N sc o env H (.int .u8 (bl i:Int)):=by
 grind [Zxt]
theorem Ylt  (B:x<U) (D:y<U) {hi r:Nat}
  (p:hi=(((x/4294967296)*(y/4294967296)%U+(((x/4294967296)*(y &&& 4294967295)%U+((x &&& 4294967295)*(y &&& 4294967295)%U)/4294967296)%U)/4294967296)%U +
   (((((x/4294967296)*(y &&& 4294967295)%U+((x &&& 4294967295)*(y &&& 4294967295)%U)/4294967296)%U &&& 4294967295)+(x &&& 4294967295)*(y/4294967296)%U)%U)/4294967296)%U)
  (z:r=x*y%U):hi=x*y/U:=by
 have q:=λn=>jS n 32;subst p;simp only [q];have j:=cP x 4294967296;have l:=cP y 4294967296;have v:=bI x (show 4294967296>0 by simp);have u:=bI y (show 4294967296>0 by simp);have f:x/4294967296<=4294967295:=O5;have g:y/4294967296<=4294967295:=O5;generalize x/4294967296=a at *;generalize x%4294967296=b at *;generalize y/4294967296=c at *;generalize y%4294967296=d at *;subst j;subst l;have e:(4294967296*a+b)*(4294967296*c+d)=18446744073709551616*(a*c)+4294967296*(a*d)+4294967296*(b*c)+b*d:=by grind
 have F:=aP f g;have G:a*d<=4294967295*4294967295:=aP f O1;have H:b*c<=4294967295*4294967295:=aP O1 g;have I:b*d<=4294967295*4294967295:=aP O1 O1;simp only [U];omega
def Zlv(m:Nat):bl (m%256)<=8:=(Qs 8 _).2 (bI _ O6)
theorem Zaw:Nc ((bl (m%256):Nat):Int):=by have:=Zlv m;exact⟨O6,O1⟩
theorem Bb{c:Int}(d:0<=c)(e:c<=1000):Nc (c+((bl (m%256):Nat):Int)):=by have:=Zlv m;exact⟨O1,O1⟩
theorem Zav (n:Nat){c:Int}(d:m<256)(h:c+(bl m:Int)=(bl n:Int)):Value.int .i64 (c+((bl (m%256):Nat):Int))=Value.int .i64 (bl n:Int):=by grind
theorem Zst{α:Type}{xs:List α}{d:α}(h:i<xs.length):xs.reverse.getD i d=xs.getD (xs.length-1-i) d:=by grind
theorem hi_top(h:(dg 256 x).length<=m):hi x m w=0:=by have:=(Xw O6 m x).1 h;unfold hi;grind [Nat.div_eq_of_lt]
theorem Ymk(h:k/8≠w):hi x (k+1) w=hi x k w:=by grind [hi_ge,hi_lt]
set_option maxRecDepth 20000
def Ypc:U=2^64:=rfl
theorem Yk9(d:b<2^s):a*2^s ||| b=a*2^s+b:=by rw [bQ,jW d]
theorem Zf3{l:Nat}(hs:s<=64)(d:l<U):l/2^(64-s)<2^s:=by rw [bP (dK _),<-bW,show s+(64-s)=64 by omega];omega
theorem Zj6{l:Nat}(hs:s<=64):l*2^s/U=l/2^(64-s):=by rw [Ypc,show(2)^64=2^(64-s)*2^s by rw [<-bW,show 64-s+s=64 by omega],lL _ _ (dK s)]
theorem Yk8{l:Nat}(hs:s<=64)(d:h*2^s<U)(e:l<U):(h*2^s%U) ||| (l/2^(64-s))=(h*U+l)*2^s/U:=by rw [bJ d,Yk9 (Zf3 hs e),cN,show h*U*2^s=U*(h*2^s) by grind,Nat.mul_add_div Qk,Zj6 hs]
theorem Ygn(h l s:Nat):l*2^s%U=(h*U+l)*2^s%U:=by grind
def Zyd(x:Nat):x &&& 4294967295=x%4294967296:=jS x 32
def dvI(u v d e q r:Nat):Prop:=q*d+r=u/\q<=4294967297/\(u*4294967296+v)/(d*4294967296+e)<=q
section
variable {u v y1 y0 q r:Nat}
theorem dv_Q(e:v<4294967296)(d:u<y1*4294967296+y0):(u*4294967296+v)/(y1*4294967296+y0)<4294967296:=by rw [bP O1];omega
theorem dv0(f:2147483648<=y1)(g:y1<4294967296)(e:y0<4294967296)(p:v<4294967296)(n:u<y1*4294967296+y0):dvI u v y1 y0 (u/y1) (u%y1):=by
 refine⟨by grind [Nat.mul_comm,Nat.div_add_mod],?_,?_⟩
 .rw [<-Nat.lt_succ_iff,bP O1];omega
 .have d:0<y1*4294967296+y0:=O1;refine mT ((bP d).2 ?_);have j:=cP u y1;have l:=bI u (show 0<y1 by omega);grind
theorem dv_mul(hi:q*y1+r=u):q*(y1*4294967296+y0)+r*4294967296=u*4294967296+q*y0:=by grind
theorem Ztd(j:0<y1)(hi:dvI u v y1 y0 q r)(d:q*y0<=4294967296*r+v):q=(u*4294967296+v)/(y1*4294967296+y0):=by obtain⟨e,f,g⟩:=hi;grind [Nat.le_antisymm,Nat.le_div_iff_mul_le,dv_mul]
theorem Zlm(B:0<y1)(hi:dvI u v y1 y0 q r)(j:v<4294967296)(g:u<y1*4294967296+y0)(e:4294967296<=q\/4294967296*r+v<q*y0) :
  1<=q/\dvI u v y1 y0 (q-1) (r+y1):=by
 obtain⟨l,n,z⟩:=hi;have d:(u*4294967296+v)/(y1*4294967296+y0)<q:=by
  rcases e with e|e
  .exact dX (dv_Q j g) e
  .rw [bP O1];grind
 have f:=aV (bE _) d;refine⟨f,?_,O1,Nat.le_sub_one_of_lt d⟩;obtain⟨p,rfl⟩:∃p,q=p+1:=⟨q-1,O1⟩;grind
theorem Zhw(d:0<y1)(f:y0<4294967296)(hi:dvI u v y1 y0 q r)(e:q<=4294967296)(j:4294967296<=r):q=(u*4294967296+v)/(y1*4294967296+y0):=by refine Ztd d hi ?_;have g:q*y0<=4294967296*y0:=aJ _ e;omega
theorem Zwg(f:q<4294967296)(d:y0<4294967296):q*y0<18446744073709551616:=by have e:q*y0<=4294967295*y0:=aJ _ O1;omega
end
theorem wsub(e:a%U=c%U)(f:b%U=m%U)(g:m<=c)(d:c-m<U):(a+(U-b%U))%U=c-m:=by grind
theorem Yd1{u v:Nat}(d:0<y)(g:y<U):((u*4294967296%U+v)%U+(U-((u*4294967296+v)/y*y)%U))%U=(u*4294967296+v)%y:=by have e:=cP (u*4294967296+v) y;have f:=bI (u*4294967296+v) d;grind
theorem Ys0{A D:Nat}(g:0<y)(d:D=A*4294967296+b):D/y=A/y*4294967296+(A%y*4294967296+b)/y/\D%y=(A%y*4294967296+b)%y:=by
 have e:=cP A y;have f:D=y*(A/y*4294967296)+(A%y*4294967296+b):=by grind
 grind [Nat.mul_add_div,Nat.mul_add_mod]
def dv_two{D u v d e:Nat}(f:0<y)(l:u=D/U)(n:v=D%U)(j:d=v/4294967296)(g:e=v%4294967296) :
  D/y=(u*4294967296+d)/y*4294967296+((u*4294967296+d)%y*4294967296+e)/y/\D%y=((u*4294967296+d)%y*4294967296+e)%y:=
 Ys0 f O5
def Zpf(n y s:Nat):n*2^s/(y*2^s)=n/y:=lL _ _ (dK s)
theorem Zpe(n y s:Nat):n*2^s%(y*2^s)/2^s=n%y:=by grind [Nat.mul_mod_mul_right,Nat.mul_div_cancel,Nat.two_pow_pos]
theorem Yll(f:0<y)(g:y<U)(hs:s=64-bl y):9223372036854775808<=y*2^s/\y*2^s<U:=by
 have j:=(Qs 64 y).2 g;have d:=Ac y;have e:=(Zt2 f).1;have l:(2)^bl y*2^s=U:=by rw [<-bW,show bl y+s=64 by omega]
 have n:=dM d (dK s);have p:2^(bl y-1)*2^s<=y*2^s:=aJ _ e;have z:2^(bl y-1)*2^s=9223372036854775808:=by
  have:1<=bl y:=by grind
  rw [<-bW,show bl y-1+s=63 by omega]
 omega
theorem rsub{u:Nat}(d:0<y)(e:u<U):(u+(U-(u/y*y)%U))%U=u%y:=by grind [Nat.div_add_mod,Nat.mul_comm,wsub]
def Zcb{n:Nat}(h:m=n):Value.int .u64 (m:Int)= .int .u64 (n:Int):=O5
def Zcs{m n:Int}(h:m=n):Value.int .i64 m= .int .i64 n:=O5
theorem Zxn(d:1<=a)(h:a<U):(a+(U-1))%U=a-1:=by grind
def shl_lt(e:h<y)(d:y*2^s<U):h*2^s<U:=aV (aJ _ (dH e)) d
theorem top_lt{l:Nat}(f:l<U)(e:h<y):(h*U+l)*2^s/U<y*2^s:=by rw [bP Qk];have d:h*U+l<y*U:=O5;rw [kC];simp_all [dM,dK]
end Go.Sky
namespace Go.Sky
set_option maxRecDepth 20000
variable{b r w k i D:Nat}{s t:Bool}{x y:Int}{o R ys:List Nat}{xs p:List Int}{v:Value}{f:FuncId}{args:Array Value}{pre:List Pc}
theorem Zr2{a s:Nat}(c:b<2^s):b ||| a*2^s=a*2^s+b:=by rw [Nat.or_comm,Yk9 c]
theorem Zgs{Y t:Nat}(a:t<=64):Y*2^t%U=Y%2^(64-t)*2^t:=by rw [Ypc,show(2:Nat)^64=2^(64-t)*2^t by rw [<-bW,show 64-t+t=64 by omega],Nat.mul_mod_mul_right]
theorem Znw(c:b<=64)(a:r<U):r/2^b<2^(64-b):=by have:=Zf3 (l:=r) (s:=64-b) O1 a;rwa [show 64-(64-b)=b by omega]at this
theorem Zu2(Y b:Nat)(a:b<=64):Y%U/2^b ||| (Y/U%U)*2^(64-b)%U=Y/2^b%U:=by
 have e:Y%U<U:=bI _ Qk;rw [Zgs O1,Zr2 (Znw a e),show 64-(64-b)=b by omega];have g:Y/U%U%2^b=Y/U%2^b:=by rw [Ypc];exact Nat.mod_mod_of_dvd _ (Nat.pow_dvd_pow 2 a)
 rw [g];have c:U=2^b*2^(64-b):=by rw [<-bW,show b+(64-b)=64 by omega]
 have h:=cP Y U;have j:Y/2^b=2^(64-b)*(Y/U)+Y%U/2^b:=by
  conv=>lhs;rw [<-h]
  conv=>lhs;rw [show U*(Y/U)=2^b*(2^(64-b)*(Y/U)) by rw [<-eH,<-c]]
  rw [iB (dK b)]
 rw [j];have d:=Znw a e;generalize Y/U=q at *;generalize Y%U=r at *
 conv=>rhs;rw [c,bQ (2^b)]
 rw [mY,iB (dK _),jB,bJ d,cT d,eJ,jH,bQ]
theorem Yfv{Y:Nat}(c:b<=64)(a:Y/U=0):Y%U/2^b=Y/2^b%U:=by have:=Zu2 Y b c;rw [a]at this;simpa using this
theorem Yhb{α:Type}(xs:List α)(w j:Nat)(d:α):(xs.drop w).getD j d=xs.getD (w+j) d:=by simp [List.getD,List.getElem?_drop]
theorem Zbm{x s:Nat}(c:w=s/64)(a:b=s%64):x/2^s=x/U^w/2^b:=by rw [Zd8,aQ,<-bW,show 64*w+b=s by omega]
theorem Zxh(x b i:Nat):x/2^b/U^i=x/U^i/2^b:=by rw [aQ,bQ,<-aQ]
theorem Yd4(x w j:Nat):((dg U x).drop w).getD j 0=x/U^w/U^j%U:=by rw [Yhb,Hz Qh,bW,aQ]
theorem Ydb{x n:Nat}(h:(dg U x).length<=w+n):x/U^w<U^n:=by rw [bP (cD Qk),<-bW,jH];exact(Xw Qh _ _).1 h
theorem drop_set{α:Type}{o:List α}{d:α}(h:k<o.length):(o.set k d).drop k=d::o.drop (k+1):=by rw [List.drop_set,aK O1,fE,eO h];rfl
theorem Zdu{α:Type}(z:α)(o:List α)(k:Nat)(h:k<o.length):o.drop k=o.getD k z::o.drop (k+1):=by rw [eO h];simp [List.getD,aO h]
theorem Zyr{xs:List Nat}{d:Nat}(h:0<d)(j:k+1<=o.length)(l:k+1<=xs.length)(a:Yt U (o.drop (k+1))*d+r=Yt U (xs.drop (k+1))) :
  Yt U ((o.set k ((r*U+xs.getD k 0)/d)).drop k)*d+(r*U+xs.getD k 0)%d=Yt U (xs.drop k):=by
 rw [drop_set O1,Zdu 0 xs k O1];simp only [Yt];have c:=cP (r*U+xs.getD k 0) d;rw [<-a];generalize (r*U+xs.getD k 0)/d=q at *;generalize (r*U+xs.getD k 0)%d=m at *;generalize Yt U (o.drop (k+1))=V at *;rw [cN,Nat.mul_add,bQ q d];have e:U*V*d=U*(V*d):=eH _ _ _;have g:U*r=r*U:=bQ _ _;omega
theorem Yi2 {xs:List Nat} {n:Nat} (l:b<=63) (m:n=o.length) (q:w+i+1<n) (d:o.getD (w+i) 0<2^b) (j:o.getD (w+i+1) 0=0) (u:xs.getD i 0<U)
  (h:Yt U (o.take n)=Yt U (xs.take i)*2^b*U^w) :
  Yt U (((o.set (w+i) (o.getD (w+i) 0 ||| xs.getD i 0*2^b%U)).set (w+i+1) (xs.getD i 0/2^(64-b))).take n)=Yt U (xs.take (i+1))*2^b*U^w:=by
 have a:=Zkv U (o.set (w+i) (o.getD (w+i) 0 ||| xs.getD i 0*2^b%U)) n (w+i+1) (xs.getD i 0/2^(64-b)) O9 O1;have c:=Zkv U o n (w+i) (o.getD (w+i) 0 ||| xs.getD i 0*2^b%U) O1 O1;rw [Nj O1,aK O1,j]at a;rw [Zgs O1,Zr2 d,<-Zgs O1]at c ;rw [Zgs O1,Zr2 d,<-Zgs O1]at a ⊢;rw [<-Zj6 (by omega:b<=64)]at a ⊢;rw [Qw];generalize xs.getD i 0=X at *;generalize o.getD (w+i) 0=C at *;have e:X*2^b*U^(w+i)=(X*2^b%U)*U^(w+i)+X*2^b/U*U^(w+i+1):=by
  conv=>lhs;rw [<-cP (X*2^b) U]
  rw [cN,cJ U (w+i),bQ U,eH (X*2^b/U),bQ U];omega
 have g:(Yt U (xs.take i)+X*U^i)*2^b*U^w=Yt U (xs.take i)*2^b*U^w+X*2^b*U^(w+i):=by rw [cN,cN,bW];congr 1;rw [kC X,eH,eH,bQ (U^i)];simp only [eH]
 rw [g,<-h,e];rw [cN]at c;omega
theorem Zot(o:List Nat)(j:Nat)(h:o.getD j 0=0):o.set j 0=o:=by
 rcases aW j o.length with a|a
 .refine Zf1 O6 (λi _=>?_);rw [Nj a];split
  .rename_i e;rw [<-e,h]
  .rfl
 .exact List.set_eq_of_length_le a
theorem Zxe{d n:Nat}(c:n<U)(a:r<d):(r*U+n)/d<U:=by rw [bP O1];have:(r+1)*U<=d*U:=aJ _ a;rw [bQ U];rw [cN]at this;omega
theorem Zin{n:Nat}(h:n<U):tz [n]=dg U n:=by rw [<-Ih Qh [n] O5];rfl
theorem Ze8{N:Nat}{sc:Nat->Prop}{env:Pw}{H:Hp}{α:Type}{e:TypeId}{enc:α->Value}{xs ys:List α}(i:Nat)(h:xs=ys)(hi:lk H i=some (Oe k e enc v xs))(c:Nat.beq i 0=false) :
  ∀a w,Sat N sc env H a w->Sat N sc env ((i,Oe k e enc v ys)::H) a w:=by
 grind [Zq4]
theorem Zop(R:List Nat)(j:Nat)(a:j<=R.length):Yt U R=Yt U (R.take j)+U^j*Yt U (R.drop j):=by grind [Mm,List.take_append_drop,List.length_take,Nat.min_eq_left]
theorem Zl3(a:∀d∈R,d<U)(j:Nat)(e:j<=R.length):Yt U (R.take j)=Yt U R%U^j/\Yt U (R.drop j)=Yt U R/U^j:=by have g:=Zop R j e;have h:=Zik Qk (R.take j) (λd c=>a d (fG c));have l:0<U^j:=cD Qk;simp_all [jH,jB,bJ,iB,cT,eJ]
theorem Zgh(a:∀d∈R,d<U){n:Nat}(c:n<=R.length)(h:Yt U R<U^n):Yt U (R.drop n)=0/\Yt U (R.take n)=Yt U R:=by grind [Zl3,Nat.mod_eq_of_lt,Nat.div_eq_of_lt]
theorem Ypm(c:∀d∈R,d<U){j n:Nat}(g:j+n<=R.length)(h:Yt U R<U^(j+n)):tz ((R.drop j).take n)=dg U (Yt U R/U^j):=by have a:∀d∈R.drop j,d<U:=λd a=>c d (lQ a);rw [<-(Zl3 c j O1).2,<-Ih Qh _ (λd e=>a d (fG e))];congr 1;refine(Zgh a O5 ?_).2;rw [(Zl3 c j O1).2,bP (cD Qk),<-bW,jH];omega
theorem Zua(e:∀d∈R,d<U)(g:∀d∈ys,d<U)(c:Nat):∀d∈spl R c ys,d<U:=λd a=>by simp only [spl,cW]at a;grind
theorem Zul(L:Nat)(ys:List Nat):Yt U (spl (List.replicate L 0) 0 ys)=Yt U ys:=by simp [spl,Mm,mA,Gy]
theorem Yps(a:∀d∈R,d<U){j n:Nat}(g:j+n<=R.length)(h:Yt U R<U^(j+n))(l:ys.length<=n) :
  Yt U (spl (spl R j (List.replicate n 0)) j ys)=Yt U R%U^j+U^j*Yt U ys:=by
 have c:(spl R j (List.replicate n 0)).take j=R.take j:=by simp only [spl,eC];grind
 have e:(spl R j (List.replicate n 0)).drop (j+ys.length)=List.replicate (n-ys.length) 0 ++ R.drop (j+n):=by simp only [spl,eC,aR];rw [<-List.drop_drop,List.drop_left' O5,List.drop_append_of_le_length O5,mA]
 rw [spl,c,e,Mm,Mm,Mm,Gy,(Zgh a g h).1,(Zl3 a j O1).1,cL,dP O1];rfl
theorem Yry{y:Nat}(d:0<y)(j:k=(dg U y).length)(B:b=64-bl ((dg U y).getD (k-1) 0)):(dg U (y*2^b)).length=k/\2^b*U^k<=y*2^b*U*2^b/\1<=k/\y*2^b<U^k/\b<=63/\U^(k-1)*9223372036854775808<=y*2^b:=by
 obtain⟨l,m,g,n⟩:=Ybo d;rw [<-j]at l m g n;obtain⟨q,u⟩:=Zt2 d;have z:=Ac y;have e:bl y+b=64*k:=O1;have a:y*2^b<U^k:=by rw [Zd8,<-e,bW];simp_all [dM,dK]
 have c:U^(k-1)*9223372036854775808<=y*2^b:=by
  have:U^(k-1)*9223372036854775808=2^(bl y-1)*2^b:=by rw [Zd8,<-bW,show 9223372036854775808=2^63 from rfl,<-bW];grind
  simp_all [aJ]
 have h:U^k=U^(k-1)*U:=by simp_all [cJ]
 refine⟨?_,?_,g,a,O1,c⟩
 .refine jT ((Xw Qh _ _).2 a) ?_;have:=(La Qh _ _).2 (aB (dJ _ O6) c);omega
 .rw [h,bQ _];refine aJ _ ?_;grind
theorem Ymm{W w1 w0 t:Nat}(c:t*U^k<=D)(e:0<t)(a:W/U^k=w1*U+w0):W/D<=(w1*U+w0)/t:=by have d:0<U^k:=cD Qk;rw [<-a,aQ,bQ];simp_all [mB,iK]
theorem Ypz(c:∀d∈R,d<U){j:Nat}(m:1<=k)(h:Yt U R<U^(j+k+1))(n:j+k+1<=R.length):Yt U R/U^j/U^(k-1)=R.getD (j+k) 0*U+R.getD (j+k-1) 0:=by
 have e:∀i,R.getD i 0=Yt U R/U^i%U:=λi=>by
  rcases aW i R.length with hi|hi
  .have a:=(Zl3 c i O1).2;rw [Zdu 0 R i hi]at a;simp only [Yt]at a;rw [<-a,iT,bJ (Qg Qk c i)]
  .rw [show R.getD i 0=0 by grind,Nat.div_eq_of_lt (Nat.lt_of_lt_of_le (Zik Qk R c) (Nat.pow_le_pow_right Qk hi))];rfl
 rw [aQ,<-bW];have g:Yt U R/U^(j+k)<U:=by simp_all [bP,cD,Qk,mH,jH]
 have l:Yt U R/U^(j+k)=Yt U R/U^(j+k-1)/U:=by rw [aQ,<-cJ];grind
 grind
theorem Ynl{x lx:Nat}(e:x<U^lx)(c:b<=63)(m:1<=k)(d:k<=lx+1)(a:U^(k-1)*9223372036854775808<=D):x*2^b<D*U^(lx+1-k):=by
 have g:=dM e (dK b);have h:U^lx*2^b<=U^lx*9223372036854775808:=bC _ (by exact cY O6 c)
 have j:U^lx*9223372036854775808=U^(k-1)*9223372036854775808*U^(lx+1-k):=by rw [kC,<-bW];grind
 have l:U^(k-1)*9223372036854775808*U^(lx+1-k)<=D*U^(lx+1-k):=aJ _ a;omega
theorem Ynj{V j Q Vq N:Nat}(c:0<D)(q:Q=V/U^j/D)(n:Vq*U^(j+1)*D+V=N) :
  V%U^j+U^j*(V/U^j-D*Q)<D*U^j/\(Q+U*Vq)*U^j*D+(V%U^j+U^j*(V/U^j-D*Q))=N:=by
 have d:0<U^j:=cD Qk;have e:=bI V d;have g:=cP V (U^j);have h:=cP (V/U^j) D;have a:=bI (V/U^j) c;have l:V/U^j-D*Q=V/U^j%D:=O5;constructor
 .have m:U^j*(V/U^j%D+1)<=U^j*D:=bC _ a;grind
 grind
def sg(s:Bool)(x:Int):Prop:=(s=true->x<=0)/\(s=false->0<=x)
theorem Yi6(h:sg s x):sg (!s) (-x):=by cases s<;>simp [sg]at*<;>omega
theorem Yi7(hs:sg s x)(a:sg t y):sg (s != t) (x*y):=by
 cases s<;>cases t<;>simp [sg]at *
 all_goals simp_all [dU,fU,fV,Int.mul_nonneg_of_nonpos_of_nonpos]
theorem Yfu(h:(((dg U x.natAbs).length:Nat):Int)=0):Value.int .i64 x.sign= .int .i64 0:=by have a:=(Om Qh x.natAbs).1 O1;grind
theorem Yi1(hs:sg s x)(a:s=true)(h:¬(((dg U x.natAbs).length:Nat):Int)=0):Value.int .i64 x.sign= .int .i64 (-1):=by have c:=λe=>h (by rw [(Om Qh _).2 e];rfl);have d:=hs.1 a;grind
theorem Yi0(hs:sg s x)(a:s=false)(h:¬(((dg U x.natAbs).length:Nat):Int)=0):Value.int .i64 x.sign= .int .i64 1:=by have c:=λe=>h (by rw [(Om Qh _).2 e];rfl);have d:=hs.2 a;grind
theorem Ybu(hs:sg s x)(a:sg s y):sg s (x+y):=by cases s<;>simp [sg]at*<;>omega
theorem Zii(hs:sg s x)(a:sg s y):(x+y).natAbs=x.natAbs+y.natAbs:=by cases s<;>simp [sg]at*<;>omega
theorem Zk1(hs:sg s x)(c:sg t y)(h:s≠t)(a:y.natAbs<=x.natAbs):sg s (x+y):=by cases s<;>cases t<;>simp [sg]at*<;>omega
theorem Zb6(hs:sg s x)(c:sg t y)(h:s≠t)(a:y.natAbs<=x.natAbs):(x+y).natAbs=x.natAbs-y.natAbs:=by cases s<;>cases t<;>simp [sg]at*<;>omega
abbrev wv (x:Int):Value:= .agg #[.bool (decide (x<0)),.string (Qp x.natAbs)]
def Zb2(x:Int):Int:=if 65536<bl x.natAbs then 0 else x
def Zkn(x:Int):Int:=if 65536<bl x.natAbs then 7 else 0
theorem Yto:bl (Zb2 x).natAbs<=65536:=by
 unfold Zb2;split
 .decide
 omega
theorem Hj(h:bl x.natAbs<=65536):Zb2 x=x:=by unfold Zb2;omega
theorem Zsv(h:bl x.natAbs<=65536):Zkn x=0:=by unfold Zkn;omega
theorem Ytn(h:65536<bl x.natAbs):Zb2 x=0:=by unfold Zb2;omega
theorem Ysn(h:65536<bl x.natAbs):Zkn x=7:=by unfold Zkn;omega
abbrev Ze6 (x:Int):Value:= .tuple #[wv (Zb2 x),.int .i64 (Zkn x)]
theorem Yff(h:((65536:Int)<((bl x.natAbs:Nat):Int))):Ze6 x= .tuple #[.agg #[.bool false,.string ⟨#[]⟩],.int .i64 7]:=by unfold Ze6;rw [Ytn O1,Ysn O1];rfl
theorem Yba(h:¬((65536:Int)<((bl x.natAbs:Nat):Int))):Ze6 x= .tuple #[wv x,.int .i64 0]:=by grind [Hj,Zsv]
theorem Zug(hs:sg false x)(h:¬((65536:Int)<((bl x.natAbs:Nat):Int))):Ze6 x= .tuple #[.agg #[.bool false,.string (Qp x.natAbs)],.int .i64 0]:=by rw [Yba h,wv,aI (by have:=hs.2 rfl;omega)]
theorem Zuf(hs:sg true x)(h:¬((65536:Int)<((bl x.natAbs:Nat):Int))):Ze6 x= .tuple #[.agg #[.bool (decide ((0:Int)<(((dg U x.natAbs).length:Nat):Int))),.string (Qp x.natAbs)],.int .i64 0]:=by have a:=hs.1 rfl;have c:=Om Qh x.natAbs;rw [Yba h,wv,show decide _=decide ((0:Int)<(((dg U x.natAbs).length)))from bF.2 ⟨λh=>O1,λh=>O1⟩]
theorem Ze0{q r:Int}(c:y≠0)(h:x=y*q+r)(j:0<=r)(l:r<(y.natAbs:Int)):x/y=q/\x%y=r:=by
 have e:=Int.mul_ediv_add_emod x y;have d:=lG x c;have g:=Int.emod_lt x c;have n:x/y=q:=by
  have m:y*(x/y-q)=r-x%y:=O5;have a:(y*(x/y-q)).natAbs<y.natAbs:=O1;rw [bT]at a;rcases aU (x/y-q).natAbs with h|h
  .omega
  .exact absurd (dJ y.natAbs h) O1
 grind
theorem Zyw(h:sg s x):x=if s then -(x.natAbs:Int)else(x.natAbs:Int):=by cases s<;>simp [sg]at*<;>omega
theorem Yd6(hs:sg s x)(c:sg t y)(d:y≠0){Q R:Nat}(g:R<y.natAbs)(h:x=(if s then -1 else 1)*((y.natAbs:Int)*Q)+R) :
  sg (s != t) (x/y)/\(x/y).natAbs=Q/\(x%y).natAbs=R:=by
 have e:=Zyw c;have a:x/y=(if s != t then -(Q:Int)else Q)/\x%y=R:=by refine Ze0 d ?_ O6 O1;grind
 rw [a.1,a.2];cases s<;>cases t<;>simp [sg]
theorem divB(hs:sg s x)(g:sg t y)(h:y≠0)(d:s=false\/x.natAbs%y.natAbs=0):sg (s != t) (x/y)/\(x/y).natAbs=x.natAbs/y.natAbs/\(x%y).natAbs=x.natAbs%y.natAbs:=by
 have j:=Zyw hs;have e:=cP x.natAbs y.natAbs;refine Yd6 hs g h (bI _ O1) ?_;have a:((y.natAbs:Int)*((x.natAbs/y.natAbs:Nat)))+((x.natAbs%y.natAbs:Nat))=x.natAbs:=O1;rcases d with rfl|c
 .grind
 .rw [c]at a ⊢
  all_goals grind
theorem divA(hs:sg true x)(a:sg t y)(c:y≠0)(d:0<x.natAbs%y.natAbs):sg (true != t) (x/y)/\(x/y).natAbs=x.natAbs/y.natAbs+1/\(x%y).natAbs=y.natAbs-x.natAbs%y.natAbs:=by have h:=Zyw hs;have e:=cP x.natAbs y.natAbs;have g:=bI x.natAbs (show 0<y.natAbs by omega);refine Yd6 hs a c O1 ?_;grind
def okW(b:Bool)(s:ByteArray):Bool:=if s.size=0 then !b else decide ((s.data.toList.getD 0 0).toNat≠0) && decide (s.size<=8192)
theorem bl256{n:Nat} : (dg 256 n).length<=k↔bl n<=8*k:=by grind [Zjc]
theorem Zdm(h:bl x.natAbs<=65536):okW (decide (x<0)) (Qp x.natAbs)=true:=by
 unfold okW;rw [Ej];split
 .grind [Om]
 .have c:0<x.natAbs:=by grind [Nat.eq_zero_or_pos,Gu]
  have d:=Zoa x.natAbs 0 O1;have a:=dg_top (by simp:2<=256) c;rw [Hz O6]at a;simp_all [bl256,aN,aG]
theorem Zqk{a b:ByteArray}(h:a.data.toList=b.data.toList):a=b:=by cases a;simp_all
theorem Yt0{s:ByteArray}(e:s.size≠0)(h:(s.data.toList.getD 0 0).toNat≠0):s=Qp (Yt 256 (s.data.toList.reverse.map UInt8.toNat)):=by
 have a:∀d∈s.data.toList.reverse.map UInt8.toNat,d<256:=λd c=>by obtain⟨u,_,rfl⟩:=dI.1 c;exact u.toNat_lt
 unfold Qp;rw [Ih O6 _ a,tz_eq]
 .simp [List.map_reverse,Function.comp_def]
 grind
theorem Zr3{b:Bool}{s:ByteArray}(h:okW b s=true):∃x:Int,bl x.natAbs<=65536/\b=decide (x<0)/\s=Qp x.natAbs:=by
 unfold okW at h;split at h
 .rename_i a;refine⟨0,O4,?_,?_⟩
  .all_goals grind
  .refine Zqk ?_;have:=a;rw [aC this];rfl
 .rename_i a;rw [aN]at h;have c:=cC h.1;have hs:=Yt0 a c;generalize Yt 256 _=n at hs;have e:(dg 256 n).length=s.size:=by grind [Ej]
  have g:0<n:=by grind [Nat.eq_zero_or_pos,Gu]
  have d:bl n<=65536:=by grind [bl256]
  cases b with
  | true=>exact⟨-(n),O5,O5,O5⟩
  | false=>exact⟨n,O5,by rfl,O5⟩
def eqW(a:Bool)(s:ByteArray)(b:Bool)(t:ByteArray):Bool:=(a == b) && (s.toList == t.toList)
theorem Yhr(h:decide (x<0)=decide (y<0))(a:Qp x.natAbs=Qp y.natAbs):x=y:=by
 have e:x.natAbs=y.natAbs:=by
  have g:(dg 256 x.natAbs).reverse.map UInt8.ofNat=(dg 256 y.natAbs).reverse.map UInt8.ofNat:=by have:=aD (λb=>b.data.toList) a;assumption
  have j:∀n,((dg 256 n).reverse.map UInt8.ofNat).map UInt8.toNat=(dg 256 n).reverse:=λn=>by
   rw [kW]
   conv=>rhs;rw [<-mZ (dg 256 n).reverse]
   refine mC λd c=>?_;have:=Me O6 n d (List.mem_reverse.1 c);simp_all
  grind [Zji,List.reverse_inj]
 grind
theorem Zta{a b:Bool}{s t:ByteArray} : eqW a s b t=true↔a=b/\s=t:=by unfold eqW;rw [ByteArray.toList_eq,ByteArray.toList_eq];grind [Zqk]
theorem Ynb(x y:Int):eqW (decide (x<0)) (Qp x.natAbs) (decide (y<0)) (Qp y.natAbs)=decide (x=y):=by rw [Bool.eq_iff_iff,Zta];grind [Yhr]
theorem Qv(x:Int):sg (decide (x<0)) x:=by unfold sg;simp;omega
theorem Lp(x y:Int):bl (x+y).natAbs<=max (bl x.natAbs) (bl y.natAbs)+1:=
 aB (Pz (Int.natAbs_add_le x y)) bl_add
theorem Zy(x y:Int):bl (x*y).natAbs<=bl x.natAbs+bl y.natAbs:=by rw [bT];exact Zof _ _
theorem Cn(x y:Int):bl (x-y).natAbs<=max (bl x.natAbs) (bl y.natAbs)+1:=by have:=Lp x (-y);rwa [dL,<-eT]at this
theorem Zoe(x:Int):bl (-x).natAbs=bl x.natAbs:=by rw [dL]
theorem Zlw(x y:Int):bl (x/y).natAbs<=bl x.natAbs+1:=by have h:(x/y).natAbs<=x.natAbs:=fB x y;have:=Pz h;omega
theorem Zt4(x y:Int)(a:y≠0):bl (x%y).natAbs<=bl y.natAbs:=by have c:=lG x a;have d:=Int.emod_lt x a;exact Pz O1
theorem Zog(x y:Nat):bl (Nat.gcd x y)<=max (bl x) (bl y):=by
 rcases aU x with h|h
 .subst h;rw [Nat.gcd_zero_left];omega
 .have:=Pz (kR h (Nat.gcd_dvd_left x y));omega
def Yqo(x:Int)(h:y≠0):sg false (x%y):=⟨λa=>Bool.noConfusion a,λ_=>lG x h⟩
def Qi(x y:Int):Int:=if y<0 then -(Int.gcd x y:Int)else(Int.gcd x y:Int)
theorem Zdp(x y:Int):(Qi x y).natAbs=Nat.gcd x.natAbs y.natAbs:=by unfold Qi;split<;>simp [Int.gcd]
theorem Zsk(h:y≠0):Qi x y≠0:=λe=>by have a:=Zdp x y;rw [e]at a;have:=(Nat.gcd_eq_zero_iff.1 a.symm).2;omega
theorem Yqm(a:sg t y)(c:y≠0):sg t (Qi x y):=by
 unfold Qi sg at *;refine⟨λh=>?_,λh=>?_⟩
 .rw [aM (by have:=a.1 h;omega)];omega
 .rw [aK (by have:=a.2 h;omega)];omega
theorem Yc9(x y:Int):Dm v (Nat.gcd x.natAbs y.natAbs)=Dm v (Qi x y).natAbs:=by rw [Zdp]
def Kc(x y:Int):Prop:=65536<bl (x/Qi x y).natAbs\/65536<bl (y/Qi x y).natAbs
instance (x y:Int):Decidable (Kc x y):=by unfold Kc;infer_instance
def Et(x y:Int):Int:=if Kc x y then 0 else x/Qi x y
def Gn(x y:Int):Int:=if Kc x y then 0 else y/Qi x y
def Yj1(x y:Int):Int:=if Kc x y then 7 else 0
abbrev Zcl (x y:Int):Value:= .tuple #[.agg #[.bool (decide (Et x y<0)),.string (Qp (Et x y).natAbs),.bool (decide (Gn x y<0)),.string (Qp (Gn x y).natAbs)],.int .i64 (Yj1 x y)]
theorem Zck(h:Kc x y):Zcl x y= .tuple #[.agg #[.bool false,.string ⟨#[]⟩,.bool false,.string ⟨#[]⟩],.int .i64 7]:=by unfold Zcl Et Gn Yj1;rw [aM h,aM h,aM h];rfl
theorem Zax(h:Zkn x≠0):65536<bl x.natAbs:=by
 unfold Zkn at h;split at h
 .assumption
 .exact absurd rfl h
theorem Zli(h:Zkn x=0):bl x.natAbs<=65536:=by
 unfold Zkn at h;split at h
 .omega
 .omega
theorem Zvr(c:Zkn (x/Qi x y)=0)(d:Zkn (y/Qi x y)=0):Zcl x y= .tuple #[.agg #[.bool (decide (Zb2 (x/Qi x y)<0)),.string (Qp (Zb2 (x/Qi x y)).natAbs),.bool (decide (Zb2 (y/Qi x y)<0)),.string (Qp (Zb2 (y/Qi x y)).natAbs)],.int .i64 0]:=by
 have a:¬Kc x y:=λh=>by have:=Zli c;have:=Zli d;unfold Kc at h;omega
 unfold Zcl Et Gn Yj1;rw [aK a,aK a,aK a,Hj (Zli c),Hj (Zli d)]
def okR(b:Bool)(s:ByteArray)(c:Bool)(t:ByteArray):Bool:=okW b s && okW c t && (!c && decide (0<t.size))
theorem Zru(z:Int):(!decide (z<0) && decide (0<(Qp z.natAbs).size))=decide (0<z):=by rw [Bool.eq_iff_iff,aN,Ej,fW,fW];have:=Om (by omega:2<=256) z.natAbs;simp only [fI,fJ];omega
theorem sign_pos_iff(z:Int):decide (0<z.sign)=decide (0<z):=by
 rw [bF];rcases mU z 0 with h|h|h
 .rw [iO h];omega
 .subst h;simp
 .rw [jI h];omega
theorem Zwb{b:Bool}{s:ByteArray}{z:Int}(a:okW b s=true)(c:bl z.natAbs<=65536):okR b s (decide (z<0)) (Qp z.natAbs)=decide (0<z.sign):=by unfold okR;rw [a,Zdm c,Zru,sign_pos_iff];rfl
theorem Ylc(c:bl x.natAbs<=65536)(d:bl y.natAbs<=65536)(a:0<y):okR (decide (x<0)) (Qp x.natAbs) (decide (y<0)) (Qp y.natAbs)=true:=by unfold okR;rw [Zdm c,Zdm d,Zru];simp [a]
theorem Yld{b c:Bool}{s t:ByteArray}(h:okR b s c t=true):∃x y:Int,bl x.natAbs<=65536/\bl y.natAbs<=65536/\0<y/\b=decide (x<0)/\s=Qp x.natAbs/\c=decide (y<0)/\t=Qp y.natAbs:=by unfold okR at h;rw [aN,aN]at h;obtain⟨⟨d,e⟩,a⟩:=h;obtain⟨x,g,rfl,rfl⟩:=Zr3 d;obtain⟨y,j,rfl,rfl⟩:=Zr3 e;rw [Zru]at a;exact⟨x,y,g,j,cC a,rfl,rfl,rfl,rfl⟩
open Go.RowKit Below
def Sz(n:Nat)(p:List Int):Prop:=∀i,bl (cf p i).natAbs<=n
def Sz.getD{n:Nat}(h:Sz n p)(i:Nat):bl (p.getD i 0).natAbs<=n:=h i
def Sz.mono{n m:Nat}(h:Sz n p)(a:n<=m):Sz m p:=λi=>aB (h i) a
theorem Sz.tzl{n:Nat}(h:Sz n p):Sz n (tzl p):=λi=>by rw [Ly];exact h i
theorem Sz.nil(n:Nat):Sz n []:=λi=>by simp [cf,Ip]
theorem Sz.take{n:Nat}(h:Sz n p)(k:Nat):Sz n (p.take k):=λi=>by
 rw [Dg];split
 .exact h i
 grind [Ip]
theorem Sz.mem{n:Nat}(h:Sz n p)(a:x∈p):bl x.natAbs<=n:=by obtain⟨i,hi,rfl⟩:=cQ.1 a;have:=h i;grind [Zkd]
theorem Sz.of_mem{n:Nat}(h:∀x∈p,bl x.natAbs<=n):Sz n p:=λi=>by grind [Nat.lt_or_ge,Zkd,List.getElem_mem,Yr,Ip]
structure Vp (p:List Int):Prop where
 sz:Sz 65536 p
 tr:Tr p
 len:p.length<=25
def wr(x:Int):Bool×ByteArray:=(decide (x<0),Qp x.natAbs)
def okP(r:List (Bool×ByteArray)):Bool:=r.all (λw=>okW w.1 w.2) && (decide (r.length<=25) && (decide (r.length=0) || decide ((r.getD (r.length-1) (false,⟨#[]⟩)).2.size≠0)))
theorem Zf8 : (Qp x.natAbs).size=0↔x=0:=by grind [Ej,Om]
theorem Zdr(h:i<xs.length):(xs.map wr).getD i (false,⟨#[]⟩)=wr (cf xs i):=by grind [Zkd]
theorem okP_wr(h:Vp xs):okP (xs.map wr)=true:=by
 unfold okP;rw [aN,aN,lH];refine⟨cI.2 λw d=>?_,by simpa using h.len,?_⟩
 .obtain⟨x,e,rfl⟩:=dI.1 d;exact Zdm (h.sz.mem e)
 .rcases h.tr with a|a
  .grind
  .right;have g:0<xs.length:=by grind [Nat.eq_zero_or_pos,Yr]
   rw [bA,Zdr O1];refine aG λc=>a (Zf8.1 c)
theorem Zwa{r:List (Bool×ByteArray)}(h:∀w∈r,okW w.1 w.2=true):∃xs:List Int,(∀x∈xs,bl x.natAbs<=65536)/\r=xs.map wr:=by
 induction r with
 | nil=>simp
 | cons w r g=>
  obtain⟨xs,j,a⟩:=g λu e=>h u (bH _ e);obtain⟨x,l,c,d⟩:=Zr3 (h w (bR ..));refine⟨x::xs,λy m=>?_,?_⟩
  .grind
  .rw [bZ,<-a,wr,<-c,<-d]
theorem okP_ex{r:List (Bool×ByteArray)}(h:okP r=true):∃xs:List Int,Vp xs/\r=xs.map wr:=by
 unfold okP at h;rw [aN,aN,lH]at h;obtain⟨c,j,a⟩:=h;obtain⟨xs,d,rfl⟩:=Zwa (cI.1 c);refine⟨xs,⟨Sz.of_mem d,?_,O5⟩,rfl⟩;rcases a with a|a
 .left;grind
 .rcases aU xs.length with e|e
  .left;grind
  .right;rw [bA,Zdr O1]at a;exact λg=>cC a (Zf8.2 g)
theorem Zl8 (k:Nat){j:Nat}(h:j<k)(a:(xs.take k).getD j 0=0):cf xs j=0:=by rw [Zjd _ _ _ h]at a;exact a
theorem Zgl (k:Nat){j:Nat}(h:j<k)(a:¬((xs.take k).getD j 0).sign=0):cf xs j≠0:=λe=>a (by rw [Zjd _ _ _ h];rw [show xs.getD j 0=0 from e];rfl)
theorem Yru{r:List (Bool×ByteArray)}{w:Bool×ByteArray}(a:w∈r)(h:okW w.1 w.2=false):okP r=false:=by unfold okP;grind
theorem Zr4(h:∀x∈xs,bl x.natAbs<=65536):okP (xs.map wr)=(decide (xs.length<=25) && (decide (xs.length=0) || decide (¬(xs.getD (xs.length-1) 0).sign=0))):=by
 unfold okP;rw [show(xs.map wr).all _=true from cI.2 λw c=>by obtain⟨x,d,rfl⟩:=dI.1 c;exact Zdm (h x d)]
 rw [bA,mI];congr 1;by_cases a:xs.length=0
 .grind
 .rw [aI a,Bool.false_or,Bool.false_or,Zdr O1];rw [bF,dW];exact not_congr Zf8
def err(e x:Int):Int:=if e=0 then Zkn x else e
theorem Yab(h:bl x.natAbs<=65536):err 0 x=0:=by unfold err;rw [aM rfl,Zsv h]
def Qc:List Int->Nat
 | []=>0
 | x::r=>max (bl x.natAbs) (Qc r)
theorem Pd(p:List Int):Sz (Qc p) p:=by
 refine Sz.of_mem λx a=>?_
 induction p with
 | nil=>grind
 | cons y r c=>
  rcases aX.1 a with rfl|h
  .simp only [Qc];omega
  .have:=c h;simp only [Qc];omega
theorem Qy{n:Nat}(h:Sz n p):Qc p<=n:=by
 have c:∀x∈p,bl _<=n:=λx a=>h.mem a;clear h
 induction p with
 | nil=>exact bE _
 | cons y r d=>
  have:=c y (bR ..);have:=d λx a=>c x (bH _ a);simp only [Qc];omega
theorem Ylw(p:List Int)(x:Int):Qc (p ++ [x])=max (Qc p) (bl x.natAbs):=by
 induction p with
 | nil=>simp [Qc]
 | cons y r a=>simp only [iQ,Qc,a];simp
variable {P:Program} {N:Nat} {sc:Nat->Prop} {env env':Pw} {H H':Hp} {Q Q':Exit->Act->World->Prop} {M:Nat->Prop}
def fpm{α β:Type}{f:α->β}{xs:List α}{p:Prop}(h:xs.map f≠[]/\p):xs≠[]/\p:=⟨λe=>h.1 O5,h.2⟩
def fpn{α β:Type}{f:α->β}{xs:List α}{p:Prop}(h:xs≠[]/\p):xs.map f≠[]/\p:=⟨λe=>h.1 (List.map_eq_nil_iff.1 e),h.2⟩
theorem Zyt(v:Value)(xs:List Int)(w:World)(h:(Yx 2 wv v xs).holds w):(Yx 2 (λw:Bool×ByteArray=>Value.agg #[.bool w.1,.string w.2]) v (xs.map wr)).holds w:=by
 obtain⟨⟨a,c,z,B,l,d⟩,n⟩:=h;refine⟨⟨a,c,O5,O5,l,?_⟩,λb h=>n b (fpm h)⟩;rcases d with d|⟨g,e,d,m⟩
 .grind
 .right;refine⟨g,e,d,λi x hi j u q=>?_⟩;rw [iJ]at hi;cases hx:xs[i]? with
  | none=>grind
  | some y=>rw [hx]at hi;cases hi;exact m i y hx j u q
theorem Yqf(v:Value)(xs:List Int)(w:World)(h:(Yx 2 (λw:Bool×ByteArray=>Value.agg #[.bool w.1,.string w.2]) v (xs.map wr)).holds w):(Yx 2 wv v xs).holds w:=by
 obtain⟨⟨a,c,l,m,n,d⟩,z⟩:=h;rw [bA]at l m;refine⟨⟨a,c,l,m,n,?_⟩,λb h=>z b (fpn h)⟩;rcases d with d|⟨g,e,d,q⟩
 .simp_all
 .right;refine⟨g,e,d,λi x hi j u B=>?_⟩;exact q i (wr x) O5 j u B
theorem Cal.imp{p q:Pc}{al:Bool}{G:Type}{φ:G->Prop}{Yt:G->Value}{a:G->List Pc}(h:Cal P f args (p::pre) al φ Yt a)(d:∀w,q.holds w->p.holds w)(c:∀b,p.fp b->q.fp b) :
  Cal P f args (q::pre) al φ Yt a:=λw e=>by
 refine(h w λr g=>?_).mono ?_
 all_goals grind
end Go.Sky
namespace Go.Sky
variable{k m:Nat}{f:Nat->Int}{xs:List Int}
def fill(n k:Nat)(f:Nat->Int):List Int:=mk n λi=>if i<k then f i else 0
theorem Od(n k:Nat)(f:Nat->Int):(fill n k f).length=n:=Xa _ _
theorem Zdt{n:Nat}(h:k<n):(fill n k f).set k (f k)=fill n (k+1) f:=Iu (by simp [Od]) λi hi=>by rw [Zn8 _ _ _ _ (by grind [Od])];unfold fill;rw [Ml,Ml];grind
theorem Ai(n:Nat)(f:Nat->Int):List.replicate n 0=fill n 0 f:=Iu (by simp [Od]) λi hi=>by unfold fill;simp_all [Ml,aM,aK,Zkd]
def Dd(n:Nat)(f:Nat->Int):fill n n f=mk n f:=Ba λi hi=>O1
theorem Zsc(xs:List Int)(g:Int->Int):mk xs.length (λi=>g (cf xs i))=xs.map g:=Iu (by simp [Xa]) λi hi=>by rw [Xa]at hi;simp_all [Ml,aM,Zkd]
theorem Bm{n:Nat}(h:∀i,i<n->bl (f i).natAbs<=m):Sz m (mk n f):=λi=>by grind [Ml,Ip]
theorem Nt{p:List Int}(h:Tr p):Tr (Xi p):=by
 unfold Xi;rcases aW 1 p.length with a|a
 .right;rw [Xa,Ml];have b:=h.mem O5;grind [Int.mul_eq_zero]
 .left;simp_all [aC,Xa]
theorem Yga(xs:List Int)(c:Int):tzl (fill xs.length xs.length λi=>cf xs i*c)=Zt xs c:=by rw [Dd,Zsc xs (· * c)];rfl
theorem Yrp(h:Tr xs):tzl (fill (xs.length-1) (xs.length-1) λi=>cf xs (i+1)*((i:Int)+1))=Xi xs:=by rw [Dd];exact Ao (Nt h)
theorem Yk5{p:List Int}(h:p.length=0):Xi p=[]:=aC (by unfold Xi;grind [Xa])
theorem Zmz(p:List Int)(x:Int):Yv (p ++ [x])=(Int.gcd (Yv p) x:Int):=by unfold Yv;simp
theorem Nw(p:List Int):0<=Yv p:=by
 rcases Zkz p with rfl|⟨a,y,rfl⟩
 .decide
 grind [Zmz]
theorem Lu{p:List Int}(h:k<p.length):Yv (p.take (k+1))=(Int.gcd (Yv (p.take k)) (p.getD k 0):Int):=by grind [Ps,Zmz]
theorem Zbt{n:Nat} : ∀(p:List Int),Sz n p->bl (Yv p).natAbs<=n:=λp=>by
 have a:∀k,k<=p.length->Sz n p->bl (Yv (p.take k)).natAbs<=n:=by
  intro k
  induction k with
  | zero=>intro _ _;exact bE _
  | succ k d=>
   intro c hs;rw [Lu c];have e:=d O1 hs;have b:=hs k;have:=Zog (Yv (p.take k)).natAbs (p.getD k 0).natAbs;have g:bl (p.getD k 0).natAbs<=n:=b;show bl (Nat.gcd _ _)<=n;omega
 intro hs;have:=a _ (aF _) hs;grind
theorem Kr(p:List Int):∀i,Yv p∣cf p i:=by
 have b:∀k,k<=p.length->∀i,i<k->Yv (p.take k)∣cf p i:=by
  intro k
  induction k with
  | zero=>omega
  | succ k c=>
   intro a i hi;rw [Lu a];rcases aW i k with h|h
   .grind [Int.dvd_trans,Int.gcd_dvd_left]
   .have:i=k:=O1;subst this;exact jJ ..
 intro i;rcases aW i p.length with h|h
 .grind
 grind [Yr,Int.dvd_zero]
theorem Zdl(p:List Int):Yv p=0↔∀i,cf p i=0:=by
 refine⟨λh i=>by have:=Kr p i;simp_all,λh=>?_⟩;have a:∀k,k<=p.length->Yv (p.take k)=0:=by
  intro k
  induction k with
  | zero=>intro _;rfl
  | succ k c=>
   intro b;rw [Lu b,c O1];have:=h k;rw [show p.getD k 0=0 from this];rfl
 have:=a _ (aF _);grind
theorem Eg{p:List Int}{d:Int}(h:∀i,d∣cf p i):d∣Yv p:=by
 have a:∀k,k<=p.length->d∣Yv (p.take k):=by
  intro k
  induction k with
  | zero=>intro _;exact jX _
  | succ k c=>
   intro b;rw [Lu b];exact Int.dvd_coe_gcd (c O1) (h k)
 have:=a _ (aF _);grind
theorem Zd2(p:List Int)(i:Nat):cf (Yb p) i=cf p i/Yv p:=by unfold Yb;simp [Zf7]
theorem Yc(p:List Int):(Yb p).length=p.length:=by simp [Yb]
theorem Hi{x y:Int}{n:Nat}(h:y∣x)(b:bl x.natAbs<=n):bl (x/y).natAbs<=n:=by have a:=fB x y;exact aB (Pz a) b
theorem Yu{p:List Int}(h:Tr p):Tr (Yb p):=by
 rcases h with rfl|h
 .left;rfl
 .right;rw [Zd2,Yc];have a:=Kr p (p.length-1);have:=lS a;grind
theorem Gf{n:Nat}{p:List Int}(h:Sz n p):Sz n (Yb p):=λi=>by rw [Zd2];exact Hi (Kr p i) (h i)
theorem Kf{p:List Int}(h:Vp p):Vp (Yb p):=⟨Gf h.sz,Yu h.tr,by rw [Yc];exact h.len⟩
def Vp.ne{p:List Int}(h:Vp p)(a:p≠[]):Yv p≠0:=λe=>h.tr.mem a ((Zdl p).1 e _)
def Ff(p:List Int)(n d:Int)(i:Nat):Int:=Yl (λm=>cf p (i+m)*(n^m*d^(p.length-1-(i+m)))) (p.length-i)
theorem Zw4(p:List Int)(n d:Int):Ff p n d 0=pev p n d:=by unfold Ff pev;simp
theorem Ysh{p:List Int}(n d:Int)(h:0<p.length):Ff p n d (p.length-1)=cf p (p.length-1):=by unfold Ff;rw [show p.length-(p.length-1)=0+1 by omega,Yp,Fo];simp
theorem Ymj{p:List Int}(n d:Int){i:Nat}(h:i<p.length):Ff p n d i=Ff p n d (i+1)*n+cf p i*d^(p.length-1-i):=by unfold Ff;rw [show p.length-i=p.length-(i+1)+1 by omega,Ld];rw [<-Zl9];grind
theorem Ya0{K:Nat}{f:Nat->Int} : ∀{n:Nat},(∀i,i<n->bl (f i).natAbs<=K)->(Yl f n).natAbs<=n*(2^K-1)
 | 0,_=>by simp [Yl]
 | n+1,h=>by have a:=Ya0 (n:=n) λi hi=>h i O1;grind [Qs,Yp,Nat.add_mul,Int.natAbs_add_le]
theorem Zlu{K:Nat}{n:Nat}(h:∀i,i<n->bl (f i).natAbs<=K)(a:n<=31):bl (Yl f n).natAbs<=K+5:=by rw [Qs];have b:=Ya0 h;have c:n*(2^K-1)<=31*(2^K-1):=aJ _ a;grind
theorem Fl(x:Int){m:Nat}(h:bl x.natAbs<=m):∀k,0<k->bl (x^k).natAbs<=k*m
 | 0,a=>O1
 | 1,_=>O5
 | k+2,_=>by have b:=Fl x h (k+1) O6;grind [Int.pow_succ,Nat.add_mul,Zy]
theorem Yor:bl 1=1:=by rfl
theorem Zia (i:Nat)(j:Nat){a n d:Int}{A:Nat}(l:bl a.natAbs<=A)(h:bl n.natAbs<=m)(g:bl d.natAbs<=m):bl (a*(n^i*d^j)).natAbs<=A+(i+j)*m:=by
 rcases aU i with rfl|hi
 .rcases aU j with rfl|b
  .grind
  .have c:=Fl d g j b;have e:=Zy a (n^0*d^j);grind
 .rcases aU j with rfl|b
  .have c:=Fl n h i hi;have e:=Zy a (n^i*d^0);grind
  .have c:=Fl n h i hi;have e:=Fl d g j b;grind [Zy,Nat.add_mul]
theorem Yos{p:List Int}{n d:Int}{A:Nat}(c:Sz A p)(b:bl n.natAbs<=m)(a:bl d.natAbs<=m)(h:p.length<=31)(i:Nat):bl (Ff p n d i).natAbs<=A+(p.length-1-i)*m+5:=by refine Zlu (λk g=>?_) O1;have e:=Zia k (p.length-1-(i+k)) (c (i+k)) b a;grind
def Ig(p:List Int)(n d:Int):Prop:=p≠[]/\65536<Qc p+(p.length-1)*Qc [n,d]+8
instance (p:List Int) (n d:Int):Decidable (Ig p n d):=by unfold Ig;infer_instance
def evv(p:List Int)(n d:Int):Int:=if Ig p n d then 0 else pev p n d
def eve(p:List Int)(n d:Int):Int:=if Ig p n d then 7 else 0
abbrev wc (x:Int):Array Value:=#[.bool (decide (x<0)),.string (Qp x.natAbs)]
section
variable {p:List Int} {n d:Int} (hF:Qc p+(p.length-1)*Qc [n,d]+8<=65536) (hl:p.length<=25)
include hF
theorem Zj8:bl n.natAbs<=Qc [n,d]/\bl d.natAbs<=Qc [n,d]:=by simp only [Qc];omega
theorem Zs5 : bl (d^(p.length-1-k)).natAbs<=65536:=by
 rcases aU (p.length-1-k)with h|h
 .rw [h,dC];decide
 .have a:=Fl d (Zj8 hF).2 _ h;have b:(p.length-1-k)*Qc _<=(p.length-1)*Qc [n,d]:=aJ _ O6;omega
theorem Zs4 : bl (cf p k*d^(p.length-1-k)).natAbs<=65536:=by have a:=Zia 0 (p.length-1-k) (Pd p k) (Zj8 hF).1 (Zj8 hF).2;have b:(0+(p.length-1-k))*Qc _<=(p.length-1)*Qc [n,d]:=aJ _ O6;grind
include hl
theorem Zs6(k:Nat):bl (Ff p n d k).natAbs<=65536:=by have a:=Yos (Pd p) (Zj8 hF).1 (Zj8 hF).2 O1 k;have b:(p.length-1-k)*Qc _<=(p.length-1)*Qc [n,d]:=aJ _ O6;omega
theorem Zz9(a:1<=k)(b:k<=p.length-1):bl (Ff p n d k*n).natAbs<=65536:=by
 have c:=Yos (Pd p) (Zj8 hF).1 (Zj8 hF).2 O1 k;have e:=Zy (Ff p n d k) n;have g:=(Zj8 hF).1;have h:(p.length-1-k)*Qc [n,d]+Qc [n,d]<=(p.length-1)*Qc [n,d]:=by rw [<-dG];exact aJ _ O1
 omega
end
theorem evv_bl{p:List Int}{n d:Int}(hl:p.length<=25):bl (evv p n d).natAbs<=65536:=by
 unfold evv;split
 .decide
 .rename_i h;rcases aU p.length with c|c
  .rw [aC c,show pev [] n d=0 from rfl];decide
  .rw [<-Zw4];have b:p≠[]:=λe=>O5;exact Zs6 (Nat.le_of_not_lt λa=>h ⟨b,a⟩) hl 0
theorem Ykv(d:Int){L:Nat}(a:1<=k)(b:k<=L):d^(L-k)*d=d^(L-(k-1)):=by rw [show L-(k-1)=L-k+1 by omega,dD]
theorem Yg0{p:List Int}(n d:Int)(a:1<=k)(b:k<=p.length-1):Ff p n d k*n+cf p (k-1)*d^(p.length-1-(k-1))=Ff p n d (k-1):=by grind [Ymj]
end Go.Sky

