/- Rules, arithmetic and contracts: part 2. No conditions but those that each theorem names. -/
import Derived.Test.YtlnoheikolgejaaGreatLc00
import Derived.Laws.Externs
import Derived.Lib.SliceRun
import Derived.Great.BuildSlice
import Derived.Laws.Small
import Derived.Laws.StructEq
set_option linter.all false
namespace Go.Sky
open Go.RowKit Below
variable{f:FuncId}{vs:List Value}{pre r:List Pc}{args cs:Array Value}{o:Oper}{x y:Operand}{t tb:TypeId}{b d:Nat}{v:Value}{w0:World}{M0:Nat->Prop}{ops:Array Oper}{rest:List Oper}{parts:Array (Nat×Operand)}
variable {P:Program} {N:Nat} {sc:Nat->Prop} {env env':Px} {H H':Hp} {Q Q':Exit->Act->World->Prop} {M:Nat->Prop}
def Pv:Nat->List Value->Px
  | _,[]=>[]
  | n,v::r=>(n,v)::Pv (n+1) r
def Xk:Nat->List Pc->Hp
  | _,[]=>[]
  | n,p::r=>(n,p)::Xk (n+1) r
def AllRo:List Pc->Prop
  | []=>True
  | p::r=>p.own=false/\AllRo r
theorem AllRo.mem:∀{l:List Pc},AllRo l->∀p∈l,p.own=false
  | p::r,h,q,a=>by
    cases a with
    | head=>exact h.1
    | tail _ a=>exact AllRo.mem h.2 q a
theorem Ft:∀(l:List Value) (n t:Nat) (v:Value),lk (Pv n l) t=some v->n<=t/\l[t-n]? = some v
  | [],_,_,_,h=>by cases h
  | u::r,n,t,v,h=>by
    simp only [Pv]at h;by_cases a:n=t
    . grind [Yv]
    . rw [Yc _ _ a]at h;obtain⟨c,e⟩:=Ft r _ t v h;grind
theorem Mk:∀(l:List Pc) (n t:Nat) (v:Pc),lk (Xk n l) t=some v->n<=t/\v∈l
  | [],_,_,_,h=>by cases h
  | u::r,n,t,v,h=>by
    simp only [Xk]at h;by_cases a:n=t
    . grind [Yv]
    . rw [Yc _ _ a]at h;obtain⟨c,e⟩:=Mk r _ t v h;grind
theorem cal_in  {fn:Func} {c:Code}   {al:Bool} {G:Type} {φ:G->Prop} {val:G->Value} {a:G->List Pc} {N:Nat}
    (n:P.funcs[f]? = some fn) (m:fn.body=some c) (l:fn.ntmps=N) (s:Nat.ble vs.length N=true) (g:AllRo pre)
    (h:∀w0 (sc:Nat->Prop),(∀b,w0.heap.size<=b->sc b)->(∀b,sc b->w0.heap.size<=b\/∃q∈pre,q.fp b)->
      E P N sc c (Zcu P fn w0 pre al φ val a) (Pv 0 vs) ((0,Xu w0 (λ_=>False))::Xk 1 pre)) :
    Cal P f vs.toArray pre al φ val a:=
  Ygi n m l (λt v u=>by simpa using(Ft vs 0 t v u).2) O10
    (λw i p hi=>by
      by_cases j:0=i
      . grind [Yv]
      . rw [Yc _ _ j]at hi;obtain⟨_,k⟩:=Mk pre 1 i p hi;exact .inr ⟨λe=>j e.symm,k,g.mem p k⟩) h
def Cal.bare{al a:Bool}{G:Type}{φ:G->Prop}{val:G->Value}{c:G->List Pc}(h:Cal P f args pre al φ val c):Cal P f args pre a φ val (λ_=>[]):=
  λw i=>(h w i).mono λe m ⟨g,k,l,j,_⟩=>⟨g,k,l,j,λp i=>O4⟩
def Ones(N:Nat)(sc:Nat->Prop)(env:Px)(H:Hp):List Value->Prop
  | []=>True
  | v::r=>One N sc env H v/\Ones N sc env H r
theorem Ones.mem:∀{l:List Value},Ones N sc env H l->∀u∈l,One N sc env H u
  | v::r,h,u,a=>by
    cases a with
    | head=>exact h.1
    | tail _ a=>exact Ones.mem h.2 u a
theorem t_stp    {i j k:Nat} {cs':Array Value}     (q:o.op= .store t x y) (n:o.dst=none)
    (z:ev env x=some (.pointer (some ⟨b,j,none⟩))) (B:ev env y=some v) (l:lk H i=some (box b tb cs)) (s:v.cells=vs.toArray) (p:∀w,(sizeOf t).run P w= .ok k w) (c:vs.length=k)
    (a:Nat.ble (j+vs.length) cs.size=true) (h:Ones N sc env H vs)
    (g:lk H 0=some (Xu w0 M0)) (u:∀b,w0.heap.size<=b->sc b) (m:M b) (e:i≠0:=by decide) :
    T P N sc M o env H (G:=Unit) (λ_=>True) (λ_=>env) (λ_=>(i,box b tb (Fj cs j vs))::H):=
  Zji q n z B l e s p c (iW a) h.mem rfl g u m
theorem Zo1 (i:Nat)    {k:Nat}      (n:o.op= .store t x y) (l:o.dst=none)
    (u:ev env x=some (.pointer (some ⟨b,0,none⟩))) (z:ev env y=some v) (h:lk H i=some (box b tb cs)) (q:v.cells=vs.toArray) (m:∀w,(sizeOf t).run P w= .ok k w) (a:vs.length=k)
    (p:cs.size=k) (g:Ones N sc env H vs)
    (e:lk H 0=some (Xu w0 M0)) (s:∀b,w0.heap.size<=b->sc b) (j:M b) (c:i≠0:=by decide) :
    T P N sc M o env H (G:=Unit) (λ_=>True) (λ_=>env) (λ_=>(i,box b tb vs.toArray)::H):=
  Zji n l u z h c q m a O g.mem (by unfold Fj;grind) e s j
theorem Yf4{al:Bool}{α:Type}{k:Nat}{e:TypeId}{enc:α->Value}{xs ys:List α}(i:Nat)(hi:lk H i=some (Oe k e enc v xs))(c:Nat.beq i 0=false)(g:Enc P t k enc)(a:xs=ys)(h:Give H al r) :
    Give H al (Yl k enc v ys::r):=by grind [Yl6]
theorem Znf{p q:Pc}(i:Nat)(hi:lk H i=some p)(c:Nat.beq i 0=false)(e:p.own=false)(a:p=q)(h:Give H true r) :
    Give H true (q::r):=by grind [Gt]
theorem Ly (d:Nat)    {b:Bool} (g:lk env d=some (.bool b))
    (i:b=true->L P N sc ops rest Q ((d,.bool true)::env) H) (h:b=false->L P N sc ops rest Q ((d,.bool false)::env) H):L P N sc ops rest Q env H:=by
  cases b with
  | true=>
    refine λa w hs=>i rfl a w ⟨hs.size,hs.defers,λt v c=>?_,hs.hold,hs.sep,hs.scope⟩;by_cases e:d=t
    . subst e;rw [Yv]at c;cases c;exact hs.env _ _ g
    . rw [Yc _ _ e]at c;exact hs.env _ _ c
  | false=>
    refine λa w hs=>h rfl a w ⟨hs.size,hs.defers,λt v c=>?_,hs.hold,hs.sep,hs.scope⟩;by_cases e:d=t
    . subst e;rw [Yv]at c;cases c;exact hs.env _ _ g
    . rw [Yc _ _ e]at c;exact hs.env _ _ c
theorem Il (i:Nat)(n:Nat)(c:Nat) {α:Type}  {e:TypeId} {k:Nat}   {m:Int}   {enc:α->Value} {ti:TypeInfo} (q:α)
    (V:o.op= .makeSlice t x y) (I:o.dst=some d) (Z:ev env x=some (.int .i64 m)) (hy:ev env y=some (.int .i64 m)) 
    (W:P.underlying t=some (.slice e)) (hi:P.info? e=some ti) (hz:ti.zero=some (enc q)) (R:∀x,(enc x).cells.size=k) (h:0<k) (l:ti.size=k) (j:ti.bytes=c)
     
    (u:lk H 0=some (Xu w0 M0)) (Y:∀b,w0.heap.size<=b->sc b) (B:Nat.blt d N=true:=by rfl) (S:m=(n:Int):=by omega) (D:c*n<=281474976710656:=by omega) (g:0<c:=by decide) :
    T P N sc M o env H (G:=Value) (λ_=>True) (λv=>(d,v)::env) (λv=>(i,Oe k e enc v (List.replicate n q))::H):=λa w hs K Q z=>
  t_mk q V I B Z hy S W hi hz R h l j D g u Y a w hs K Q λb s w' _ p F=>z _ s w' aA p F
def t_bsn {α:Type}  {e:TypeId} {k n:Nat}  {i:Nat}    {enc:α->Value} (xs:List α)
    (B:o.op= .buildSlice t n parts) (q:o.dst=some d) (m:Nat.blt d N=true)
    (D:∀a w,Sat N sc env H a w->(Instr.buildSlice t n (parts.map λ(i,x)=>(i,a.eval x))).run P w= .ok (.slice (some ⟨w.heap.size,0,none⟩) n n) (w.alloc (.cells cs e)))
    (c:cs.toList=cellsOf enc xs) (z:xs.length=n) (s:∀x,(enc x).cells.size=k) (u:n<=maxLen)
    (j:lk H 0=some (Xu w0 M0)) (F:∀b,w0.heap.size<=b->sc b) :
    T P N sc M o env H (G:=Value) (λ_=>True) (λv=>(d,v)::env) (λv=>(i,Oe k e enc v xs)::H):=λa w hs K Q l=>
  t_bs xs B q m D c z s u j F a w hs K Q λb h I _ g p=>l _ h I aA g p
end Go.Sky
namespace Go.Sky
open Go.RowKit Below
variable{a b m:Nat}{o:Oper}{f:FuncId}{xs:List Operand}{ats:Array TypeId}{vs:List Value}{x y z:Operand}{t t':TypeId}{v:Value}{p:Pc}
variable {P:Program} {N:Nat} {sc:Nat->Prop} {env env':Px} {H H':Hp} {Q Q':Exit->Act->World->Prop} {M:Nat->Prop}
def Zfl:Array Value->Sem Value:=λc=>do
 let (x, y, b) ← Extern.MathBitsCarry.three "Sub64" c
 pure (Extern.MathBitsCarry.pair ((x+Extern.MathBitsCarry.m64-y-b)%Extern.MathBitsCarry.m64) (if x<y+b then 1 else 0))
theorem Yez{P:Program}(x y c:Nat)(d:c<=1)(w:World) :
  (Zfl #[.int .u64 x,.int .u64 y,.int .u64 c]).run P w =
   .ok (.tuple #[.int .u64 (((x+U-y-c)%U:Nat):Int),.int .u64 ((if x<y+c then 1 else 0:Nat):Int)]) w:=by
 have:c=0\/c=1:=O;rcases this with rfl|rfl<;>rfl
theorem Gm {a:Act} {w:World} (hs:Sat N sc env H a w)      (e:o.op= .call { callee:= .value (.func f),args:=xs.toArray,argTypes:=ats })
  (c:EvL env xs vs):(execOp a.eval o).run P w=(callFunc f vs.toArray).run P w:=by
 have d:=c.map hs;simp [execOp,e,resolve,invoke,Act.eval,Deferred.ofValue,d]
theorem Zsu (c:Nat)      (e:o.op= .call { callee:= .value (.func f),args:=#[x,y,z],argTypes:=ats })
  (g:ev env x=some (.int .u64 (a:Int))) (i:ev env y=some (.int .u64 (b:Int))) (j:ev env z=some (.int .u64 (c:Int))) (k:c<=1)
  (d:∀args w,(callFunc f args).run P w=((add64Entry args).run P w).andThen λv w'=> .ok (.value v) w') :
  Mr P N sc o env H (.tuple #[.int .u64 (((a+b+c)%U:Nat):Int),.int .u64 (((a+b+c)/U:Nat):Int)]):=λs w hs=>by
 have h:=run_add64 (P:=P) a b c O5 O5 O5 O w;rw [Gm hs (vs:=[_,_,_]) e ⟨g,i,j,aA⟩,d,h];rfl
def brw(a b c:Nat):Nat:=if a<b+c then 1 else 0
theorem Yn3{c:Nat}:brw a b c<=1:=by unfold brw;split<;>omega
theorem Ysx     {c:Nat} (g:o.op= .call { callee:= .value (.func f),args:=#[x,y,z],argTypes:=ats })
  (i:ev env x=some (.int .u64 (a:Int))) (j:ev env y=some (.int .u64 (b:Int))) (k:ev env z=some (.int .u64 (c:Int))) (e:c<=1)
  (d:∀args w,(callFunc f args).run P w=((Zfl args).run P w).andThen λv w'=> .ok (.value v) w') :
  Mr P N sc o env H (.tuple #[.int .u64 (((a+U-b-c)%U:Nat):Int),.int .u64 (brw a b c:Int)]):=λs w hs=>by
 have h:=Yez (P:=P) a b c e w;rw [Gm hs (vs:=[_,_,_]) g ⟨i,j,k,aA⟩,d,h];rfl
theorem Zfc{k:IntKind}{ds:TypeDesc}(d:o.op= .convert t t' x)(g:ev env x=some (.int k (m:Int)))(c:P.underlying t=some ds)(e:P.underlying t'=some (.int .u8)) :
  Mr P N sc o env H (.int .u8 ((m%256:Nat):Int)):=Zic d g c e (by rfl)
def Zzg{k:IntKind}{ds:TypeDesc}(e:o.op= .convert t t' x)(h:ev env x=some (.int k (m:Int)))(c:P.underlying t=some ds)(g:P.underlying t'=some (.int .u64))(d:m<U) :
  Mr P N sc o env H (.int .u64 (m:Int)):=Zic e h c g (Zd1 d)
def Zcl{k:IntKind}{m:Int}{ds:TypeDesc}(e:o.op= .convert t t' x)(h:ev env x=some (.int k m))(c:P.underlying t=some ds)(g:P.underlying t'=some (.int .i64))(d:Lo m) :
  Mr P N sc o env H (.int .i64 m):=Zic e h c g (Zbw d)
theorem Kg(t:Nat){v':Value}(e:lk env t=some v)(h:v=v'):∀a w,Sat N sc env H a w->Sat N sc ((t,v')::env) H a w:=λa w hs=>by
 subst h;refine⟨hs.size,hs.defers,λs u c=>?_,hs.hold,hs.sep,hs.scope⟩;by_cases d:t=s
 .subst d;rw [Yv]at c;cases c;exact hs.env _ _ e
 .rw [Yc _ _ d]at c;exact hs.env _ _ c
theorem Xm(i j:Nat)(hi:lk H i=some p)(k:Nat.beq i 0=false)(q:p.own=false):∀a w,Sat N sc env H a w->Sat N sc env ((j,p)::H) a w:=λa w hs=>
 hs.add j p (hs.hold i p hi) (λh n _ l Ej b c d=>by
  rcases Ej with Ej|Ej
  .grind
  .by_cases g:h=i
   .grind
   .exact hs.sep h i n p g l hi Ej b d c) (λb c=>hs.scope i p (λe=>O10) hi b c)
theorem Zzs{P:Program}(w:World)(f:Value->ByteArray->Sem (ForInStep ByteArray))(c:∀(n:Nat) (r:ByteArray),f (.int .u8 (n:Int)) r=pure (.yield (r.push (UInt8.ofNat n)))):∀(l:List Nat) (s:ByteArray),
  (forIn (m:=Sem) (l.map λn:Nat=>Value.int .u8 (n:Int)) s f).run P w= .ok (l.foldl (λs n=>s.push (UInt8.ofNat n)) s) w
 | [],s=>rfl
 | n::r,s=>by simp_all
theorem Znj:∀(l:List Nat) (s:ByteArray),l.foldl (λs n=>s.push (UInt8.ofNat n)) s=⟨s.data ++ (l.map UInt8.ofNat).toArray⟩
 | [],s=>by rfl
 | n::r,s=>by rw [gG,Znj r];simp [ByteArray.push]
theorem d_b2s  {e:TypeId}   {i:Nat}  {xs:List Nat} (S:o.op= .convert t t' x) (l:ev env x=some v) (I:lk H i=some p) (V:Rd p 1 (λn:Nat=>Value.int .u8 (n:Int)) v xs)
  (W:P.underlying t=some (.slice e)) (s:P.underlying t'=some .string) (R:P.underlying e=some (.int .u8)):Mr P N sc o env H (.string ⟨(xs.map UInt8.ofNat).toArray⟩):=λa w hs=>by
 obtain⟨r,c,rfl,Y,Z,D⟩:=V w (hs.hold i p I);have k:(Conv.bytesToString (.slice r xs.length c)).run P w= .ok (.string ⟨(xs.map UInt8.ofNat).toArray⟩) w:=by
  cases r with
  | none=>
   rcases D with rfl|⟨g,B,h,_⟩
   .rfl
   grind
  | some q=>
   have d:(loadCells q xs.length).run P w= .ok (xs.map λn:Nat=>Value.int .u8 n).toArray w:=by
    have:=run_loadCells_list (P:=P) w q (xs.map λn:Nat=>Value.int .u8 n) (λj u F=>by
     rcases D with rfl|⟨g,B,h,G⟩
     .grind
     .rw [fG]at F;cases l:xs[j]? with
      | none=>grind
      | some y=>
       rw [l]at F;have:=G j y l 0 _ rfl;grind [Ol])
    grind
   simp only [Conv.bytesToString,Sem.run_bind,d,Result.andThen_ok];simp [List.forIn_toArray,Zzs,Znj]
 have:(convert t t' (.slice r xs.length c)).run P w= .ok (.string ⟨(xs.map UInt8.ofNat).toArray⟩) w:=by simp only [convert,Sem.run_bind,run_underlying W,run_underlying s,Result.andThen_ok,run_underlying R,k]
 simp only [execOp,S,hs.ev l];simp_all
end Go.Sky
namespace Go.Sky
open Go.RowKit Below
variable{o:Oper}{f:FuncId}{xs:List Operand}{ats:Array TypeId}{d i:Nat}{vs:List Value}{pre:List Pc}{w0:World}{M0:Nat->Prop}{fn:Func}{v:Value}{x y:Operand}{t:TypeId}{p:Pc}{kd:IntKind}
variable {P:Program} {N:Nat} {sc:Nat->Prop} {env env':Px} {H H':Hp} {Q Q':Exit->Act->World->Prop} {M:Nat->Prop}
def Yub(P:Program)(f:FuncId)(args:Array Value)(pre:List Pc){G:Type}(φ:G->Prop)(val:G->Value)(a:G->Pc):Prop:=
 ∀w,(∀p∈pre,p.holds w)->Calls P f args w λe c=>∃g,e= .returned (val g)/\φ g/\Below w.heap.size w c/\(a g).holds c/\∀b,(a g).fp b->w.heap.size<=b
theorem Zqk (n:Nat)        {G:Type} {φ:G->Prop} {val:G->Value} {l:G->Pc}  
  (S:Yub P f vs.toArray pre φ val l)
  (ho:o.op= .call { callee:= .value (.func f),args:=xs.toArray,argTypes:=ats }) (V:o.dst=some d) (R:Nat.blt d N=true)
  (m:EvL env xs vs) (r:∀args w,(callFunc f args).run P w= .ok (.enter f args) w) (k:PreOk H false pre)
  (F:lk H 0=some (Xu w0 M0)) (hw:∀b,w0.heap.size<=b->sc b) :
  T P N sc M o env H φ (λg=>(d,val g)::env) (λg=>(n,l g)::H):=λa w hs K Q I=>by
 have hr:(execOp a.eval o).run P w= .ok (.enter f vs.toArray) w:=by grind [Gm]
 unfold Oper.wp;rw [hr];refine(S w (λp Z=>by obtain⟨i,l,_,hi,h,_,_⟩:=k.mem p Z;exact h w (hs.hold i l hi))).mono ?_
 rintro e w' ⟨g,rfl,W,c,u,s⟩;rw [V];have z:=hs.chg0 (Chg.of_below c);refine I g _ _ W (Sat.put (z.add n _ u (λj D _ Y _ b B q=>?_) (λb B=>hw b (aB (hs.hold 0 _ F).size (s b B)))) d _ R) (Chg.of_below c);have:=D.lt w b (hs.hold j D Y) q;grind
def Yox(P:Program)(fn:Func)(w0:World){G:Type}(φ:G->Prop)(val:G->Value)(a:G->Pc):Exit->Act->World->Prop:=
 bodyPost P fn λe c=>∃g,e= .returned (val g)/\φ g/\Below w0.heap.size w0 c/\(a g).holds c/\∀b,(a g).fp b->w0.heap.size<=b
theorem Yds   {c:Code}   {G:Type} {φ:G->Prop} {val:G->Value} {s:G->Pc} {N:Nat}
  (B:P.funcs[f]? = some fn) (g:fn.body=some c) (V:fn.ntmps=N) (l:Nat.ble vs.length N=true) (m:AllRo pre)
  (h:∀w0 (sc:Nat->Prop),(∀b,w0.heap.size<=b->sc b)->(∀b,sc b->w0.heap.size<=b\/∃q∈pre,q.fp b)->
   E P N sc c (Yox P fn w0 φ val s) (Pv 0 vs) ((0,Xu w0 (λ_=>False))::Xk 1 pre)) :
  Yub P f vs.toArray pre φ val s:=λw Y=>by
 refine calls_of_wp B g (h w _ (λb g=> .inl g) (λb g=>g) _ w ?_);have l:vs.length<=N:=O10;have a:∀i p,lk ((0,Xu w (λ_=>False))::Xk 1 pre) i=some p->(i=0/\p=Xu w (λ_=>False))\/(i≠0/\p∈pre/\p.own=false):=λi p hi=>by
   by_cases n:0=i
   .grind [Yv]
   .rw [Yc _ _ n]at hi;obtain⟨_,k⟩:=Mk pre 1 i p hi;exact .inr ⟨λe=>n e.symm,k,m.mem p k⟩
 refine⟨O4,rfl,λt v S=>?_,λi p hi=>?_,λi j p q I hi W R b g z=>?_,λi p D hi b g=>?_⟩
 .have u:vs.toArray[t]? = some v:=by simpa using(Ft vs 0 t v S).2
  have F:=(aT.1 u).1;simp_all [bL,eA]
 .rcases a i p hi with⟨_,rfl⟩|⟨_,k,_⟩
  .exact Chg.refl _ w
  grind
 .rcases a i p hi with⟨_,rfl⟩|⟨_,k,r⟩
  .cases R
  grind
 grind
theorem Zqf  {G:Type} {φ:G->Prop} {val:G->Value} {l:G->Pc}  {e:Exit} (r:e= .ret\/e= .normal)
  (g:G)  (k:∀a w,Sat N sc env H a w->(results fn a.tmps).run P w= .ok v w) (F:val g=v) (s:φ g) (n:lk H 0=some (Xu w0 (λ_=>False)))
  (i:Nat) (z:Nat.beq i 0=false) (hi:lk H i=some (l g)) (j:(l g).own=true) :
  X N sc e (Yox P fn w0 φ val l) env H:=λa w hs=>by
 have c:i≠0:=λe=>O10;have D:a.defers=[]/\∃v,(results fn a.tmps).run P w= .ok v w/\(∃g,Ending.returned v= .returned (val g)/\φ g/\Below w0.heap.size w0 w/\(l g).holds w/\∀b,(l g).fp b->w0.heap.size<=b):=by
  refine⟨hs.defers,v,k a w hs,g,O4,s,Hl (hs.hold 0 _ n),hs.hold i _ hi,λb q=>?_⟩;have B:=hs.sep i 0 _ _ c hi n j b q;rcases bA b _ with m|u
  .exact absurd ⟨m,λh=>h⟩ B
  omega
 rcases r with rfl|rfl
 all_goals assumption
theorem Yc6{α:Type}{s e:TypeId}{k:Nat}{enc:α->Value}{xs:List α}(g:o.op= .binOp .eql t x y s)(j:ev env x=some v)(l:ev env y=some (.slice none 0 0))(m:lk H i=some p)(n:Rd p k enc v xs)(r:P.underlying t=some (.slice e)) :
  Mr P N sc o env H (.bool (v.ownBlock.isNone)):=λa w hs=>by
 obtain⟨b,c,rfl,_⟩:=n w (hs.hold i p m);have h:=Lib.run_eql_slice_nil w t e b xs.length c 0 0 r;cases b with
 | none=>simp [execOp,g,hs.ev j,hs.ev l,eqGuard,h,Value.ownBlock]
 | some q=>simp [execOp,g,hs.ev j,hs.ev l,eqGuard,h,Value.ownBlock]
theorem Pk (i:Nat)(j:Nat)(m:Nat) {α:Type}   {e:TypeId} {k:Nat} {u:Value} {enc:α->Value} {xs ys:List α}  {ti:TypeInfo} {z:Value}  
  (ho:o.op= .call { callee:= .builtin .append,args:=#[x,y],argTypes:=#[t,t] }) (hd:o.dst=some d) (hN:Nat.blt d N=true)
  (hx:ev env x=some v) (hy:ev env y=some u) (W:lk H i=some (Oe k e enc v xs)) (F:i≠0) (hj:lk H j=some p) (hr:Rd p k enc u ys)
  (ht:P.underlying t=some (.slice e)) (hi:P.info? e=some ti) (hz:ti.zero=some z) (he:Enc P e k enc) (a1:ti.size=k) (Z:ti.bytes=m) (a3:z.cells.size=k)
  (Y:(xs.length+ys.length)*m<=140737488355328) (B:0<m)
  (h0:lk H 0=some (Xu w0 M0)) (hw:∀b,w0.heap.size<=b->sc b) :
  T P N sc (λ_=>True) o env H (G:=Value) (λ_=>True) (λv'=>(d,v')::env) (λv'=>(i,Oe k e enc v' (xs ++ ys))::H):=by
 by_cases S:ys=[]
 .subst S;intro a w hs K Q hK;have h:w.ownsRow 0 e k v xs.length (cellsOf enc xs):=hs.hold i _ W;obtain⟨V,c,rfl,h1,h2,h3⟩:=hr w (hs.hold j p hj);have I:∃l n r,v= .slice l n r/\n=xs.length/\n<=r:=by
   rcases h.2 with⟨rfl,hn⟩|⟨g,a4,a5,rfl,_,_,s,_⟩
   all_goals grind
  obtain⟨l,n,r,rfl,rfl,s⟩:=I;have R:(Builtin.append_ #[t,t] o.type #[.slice l xs.length r,.slice V ([]:List α).length c]).run P w= .ok (.slice l xs.length r) w:=by
   have D:(Builtin.firstCells ti.size 0 (.slice V 0 c)).run P w= .ok #[] w:=by
    cases V with
    | none=>rfl
    | some q=>simp [Builtin.firstCells,loadCells,loadCellsFrom]
   cases l with
   | none=>simp [Builtin.append_,run_underlying ht,sizeOf,typeInfo,hi,Builtin.lenOf,D,s]
   | some q=>simp [Builtin.append_,run_underlying ht,sizeOf,typeInfo,hi,Builtin.lenOf,D,s,storeCells]
  have a2:(execOp a.eval o).run P w= .ok (.value (.slice l xs.length r)) w:=by simp only [execOp,ho,resolve,invoke,builtin,Sem.run_bind,Sem.run_pure,Result.andThen_ok,iE,bQ,iF,hs.ev hx,hs.ev hy,R]
  unfold Oper.wp;rw [a2];show K (a.put o.dst _) _;rw [hd];refine hK _ _ _ aA ((Sat.upd hs W rfl F (q:=Oe k e enc (.slice l xs.length r) (xs ++ [])) (Chg.refl _ w) ?_ (λb Y=> .inl Y) h0 hw).put d _ hN) (Chg.refl _ w);rw [eU];exact h
 .exact t_app (i2:=0) ho hd hN hx hy W F hj hr S ht hi hz he a1 Z a3 Y B h0 hw
def Zfk(v:Value)(n k:Nat):Value:=match v with
 | .slice a l c=> .slice (if c=n then a else a.map (·.add (n*k))) (l-n) (c-n)
 | u=>u
theorem Ze6(v:Value)(n k:Nat):(Zfk v n k).ownBlock=v.ownBlock:=by
 cases v with
 | slice a l c=>
  cases a with
  | none=>simp only [Zfk];split<;>rfl
  | some q=>
   simp only [Zfk];split
   .rfl
   .simp only [Option.map_some,Value.ownBlock,Addr.add];split<;>rfl
 | _=>rfl
theorem d_suf {α:Type}   {e:TypeId}  {ii k:Nat}  {m:Int}  {enc:α->Value} {xs:List α} (l:o.op= .slice t x (some y) none none)
  (r:ev env x=some v) (s:ev env y=some (.int kd m)) (j:lk H ii=some p) (n:Rd p k enc v xs) (q:P.underlying t=some (.slice e)) (h:∀w,(sizeOf e).run P w= .ok k w)
  (b:m=(i:Int)) (g:i<=xs.length):Mr P N sc o env H (Zfk v i k):=λa w hs=>by
 obtain⟨u,c,rfl,z,B,D⟩:=n w (hs.hold ii p j);subst b;simp [execOp,l,hs.ev r,hs.ev s,Instr.sliceAt,Instr.slice,Instr.sliceBounds,Instr.sliceBound,asIntOf,run_underlying q,h,g,Zfk]
theorem Zpe{α:Type}{w:World}{k:Nat}{enc:α->Value}{xs:List α}(n:Nat)(z:n<=xs.length)(h:RowAt w k enc v xs):RowAt w k enc (Zfk v n k) (xs.drop n):=by
 obtain⟨a,c,rfl,q,r,e⟩:=h;refine⟨if c=n then a else a.map (·.add (n*k)),c-n,by simp only [Zfk,iY],O4,O,?_⟩;by_cases l:xs.drop n=[]
 .grind
 .have m:n<xs.length:=by grind
  rcases e with rfl|⟨g,b,rfl,e⟩
  .simp
  .refine .inr ⟨g,b+n*k,?_,λi x hi j u s=>?_⟩
   .simp [aJ,Ol]<;>omega
   grind
theorem Zy2{α:Type}{xs:List α}{n k b:Nat}(h:xs.drop n≠[]/\(Zfk v n k).ownBlock=some b):xs≠[]/\v.ownBlock=some b:=
 ⟨λe=>h.1 O4,by grind [Ze6]⟩
theorem s_suf{α:Type}{k:Nat}{enc:α->Value}{xs:List α}(i j n:Nat)(hi:lk H i=some (Yl k enc v xs))(r:Nat.beq i 0=false)(s:n<=xs.length):∀a w,Sat N sc env H a w->Sat N sc env ((j,Yl k enc (Zfk v n k) (xs.drop n))::H) a w:=
 λa w hs=>hs.add j _ ⟨Zpe n s (hs.hold i _ hi).1,λb c=>(hs.hold i _ hi).2 b (Zy2 c)⟩
  (λm z u l Ej b c h=>by
   rcases Ej with Ej|Ej
   .cases Ej
   .have q:=Zy2 c;by_cases g:m=i
    .subst g;rw [hi]at l;cases l;cases Ej
    .exact hs.sep m i z _ g l hi Ej b h q)
  (λb c=>hs.scope i _ (λe=>O10) hi b (Zy2 c))
end Go.Sky
namespace Go.Sky
open Go.RowKit Below
variable{o:Oper}{t:TypeId}{parts:List (Nat×Operand)}{cells cs:Array Value}{z:Value}{d:Nat}{w0:World}{M0:Nat->Prop}
variable {P:Program} {N:Nat} {sc:Nat->Prop} {env env':Px} {H H':Hp} {Q Q':Exit->Act->World->Prop} {M:Nat->Prop}
def EvP(e:Px):List (Nat×Operand)->List (Nat×Value)->Prop
 | [],[]=>True
 | (i,x)::r,(j,v)::vs=>i=j/\ev e x=some v/\EvP e r vs
 | _,_=>False
theorem EvP.map{a:Act}{w:World}(h:Sat N sc env H a w):∀{xs:List (Nat×Operand)} {vs:List (Nat×Value)},EvP env xs vs->xs.map (λ(i,x)=>(i,a.eval x))=vs
 | [],[],_=>rfl
 | (i,x)::r,(j,v)::vs,hh=>by obtain⟨rfl,b,c⟩:=hh;simp only [bQ,h.ev b,EvP.map h c]
 | [],_::_,hh=>hh.elim
 | _::_,[],hh=>hh.elim
theorem Qe (b:List (Nat×Value))      (c:o.op= .build t parts.toArray) (e:EvP env parts b)
  (f:∀a w,Sat N sc env H a w->P.built t b=some cells):Mr P N sc o env H (.agg cells):=λa w hs=>by
 have h:=run_build (P:=P) w t (parts.toArray.map λ(i,x)=>(i,a.eval x)) cells (by rw [iE,e.map hs];grind);simp only [execOp,c,Sem.run_bind,h,Result.andThen_ok,Sem.run_pure]
theorem Qd  {b:TypeInfo} {a:Array Field}  {pl:List (Nat×Nat)} {parts:List (Nat×Value)}  (hi:P.info? t=some b) (g:P.underlying t=some (.struct a)) (h:b.zero=some z)
  (e:a.toList.mapM (λf=>(P.info? f.type).map λi=>(f.offset,i.size))=some pl) (c:Instr.fill (pl.toArray[·]?) z.cells parts=some cells):P.built t parts=some cells:=by
 unfold Program.built;grind
theorem Zj2(w:World)(t e:TypeId)(a:P.underlying t=some (.slice e)){k:Nat}(hs:∀w,(sizeOf e).run P w= .ok k w) :
  (Instr.buildSlice t 0 #[]).run P w= .ok (.slice (some ⟨w.heap.size,0,none⟩) 0 0) (w.alloc (.cells #[] e)):=by
 simp [Instr.buildSlice,run_underlying a,hs,Instr.fill,newRow];grind
theorem Xc (c:List (Nat×Value))(i:Nat) {α:Type}  {e:TypeId} {k n:Nat}       {enc:α->Value} {ti:TypeInfo}  (xs:List α)
  (q:o.op= .buildSlice t n parts.toArray) (j:o.dst=some d) (y:EvP env parts c)
  (u:P.underlying t=some (.slice e)) (hi:P.info? e=some ti) (D:ti.zero=some z) (s:Nat.ble (n*ti.size) 16777216=true) 
  (F:Instr.fill (λi=>some (i*ti.size,ti.size)) ((List.range (n*ti.size)).map (z.cells[· % z.cells.size]!)).toArray c=some cs)
  (f:cs.toList=cellsOf enc xs) (p:xs.length=n) (l:∀x,(enc x).cells.size=k) (m:Nat.ble n 16777216=true)
  (g:lk H 0=some (Xu w0 M0)) (B:∀b,w0.heap.size<=b->sc b) (h:Nat.blt d N=true:=by rfl) (r:Nat.blt 0 (n*ti.size)=true:=by rfl) :
  T P N sc M o env H (G:=Value) (λ_=>True) (λv=>(d,v)::env) (λv=>(i,Oe k e enc v xs)::H):=
 t_bsn xs q j h (λa w hs=>run_buildSlice w t e n _ cs ti z u hi D O10 (by grind [Nat.blt_eq]) (by rw [show(parts.toArray.map λ(i,x)=>(i,a.eval x)).toList=c by rw [List.map_toArray,y.map hs],show(Array.range _).map _=((List.range (n*ti.size)).map (z.cells[· % z.cells.size]!)).toArray by grind];omega)) f p l (by have:=iW m;simp only [maxLen];omega) g B
theorem Yhe (i:Nat) {α:Type}  {e:TypeId} {k:Nat}    {enc:α->Value} 
  (j:o.op= .buildSlice t 0 #[]) (h:o.dst=some d) (g:Nat.blt d N=true) (l:P.underlying t=some (.slice e)) (c:Enc P e k enc)
  (f:lk H 0=some (Xu w0 M0)) (m:∀b,w0.heap.size<=b->sc b) :
  T P N sc M o env H (G:=Value) (λ_=>True) (λv=>(d,v)::env) (λv=>(i,Oe k e enc v [])::H):=
 t_bsn [] j h g (λa w hs=>by rw [Array.map_empty];exact Zj2 w t e l c.size) rfl rfl c.cells O f m
theorem Qp{α:Type}(i k:Nat)(e:TypeId)(enc:α->Value):∀a w,Sat N sc env H a w->Sat N sc env ((i,Oe k e enc (.slice none 0 0) [])::H) a w:=λa w hs=>
 hs.add i _ ⟨by simp [cellsOf],.inl ⟨rfl,rfl⟩⟩ (λj l g h Ej b c f=>by cases c) (λb c=>by cases c)
theorem f_nil{α:Type}{k:Nat}{enc:α->Value}{v:Value}{xs:List α}{p:Pc}(i:Nat)(hi:lk H i=some p)(e:Rd p k enc v xs):∀a w,Sat N sc env H a w->(v.ownBlock=none->xs=[]):=λa w hs h=>by
 obtain⟨j,c,rfl,l,m,b⟩:=e w (hs.hold i p hi);rcases b with b|⟨g,f,rfl,_⟩
 .omega
 .cases h
end Go.Sky
namespace Go.Sky
variable{t te:TypeId}{v u:Value}{xs:List Nat}{o:Oper}{x y:Operand}{i lo:Nat}{p:Pc}{r:List Pc}{w w0:World}{cur:Array Value}{M0:Nat->Prop}
abbrev My (n:Nat):Value:= .int .u64 (n:Int)
abbrev Zj7 (n:Nat):Value:= .int .u8 (n:Int)
abbrev Ig (n:Nat):Value:= .int .i64 (n:Int)
abbrev Zz (n:Int):Value:= .int .i64 n
theorem Zd3(xs:List Nat):(tz xs).length<=xs.length/\xs.take (tz xs).length=tz xs:=by
 induction hn:xs.length generalizing xs with
 | zero=>
   have:xs=[]:=aC hn;subst this;simp [tz]
 | succ n d=>
  rcases Zb2 xs with rfl|⟨b,y,rfl⟩
  .simp at hn
  .by_cases a:y=0
   .subst a;rw [It];obtain⟨e,c⟩:=d b (by simpa using hn);have f:b.length=n:=by simpa using hn
    exact⟨O,by rw [List.take_append_of_le_length O];exact c⟩
   .rw [Cn _ _ a];exact⟨O,bS⟩
theorem Zbc{P:Program}{N:Nat}{sc:Nat->Prop}{env:Px}{H:Hp}{enc:Nat->Value}{k:Nat}{e:TypeId}(i:Nat)(hi:lk H i=some (Oe k e enc v xs))(b:Nat.beq i 0=false)(c:Enc P t k enc) :
  ∀a w,Sat N sc env H a w->Sat N sc env ((i,Oe k e enc (Kp v (tz xs).length) (tz xs))::H) a w:=by
 have h:=Yip (N:=N) (sc:=sc) (env:=env) i (tz xs).length hi b c (Zd3 xs).1;rwa [(Zd3 xs).2]at h
abbrev Dj (v:Value) (x:Nat):Pc:=Yl 1 My v (dg U x)
theorem Qc:2<=U:=by simp [U]
def Qy(x:Nat):ByteArray:=⟨((dg 256 x).reverse.map UInt8.ofNat).toArray⟩
theorem Ei(x:Nat):(Qy x).size=(dg 256 x).length:=by simp [Qy,ByteArray.size]
theorem Zn2(x i:Nat)(h:i<(dg 256 x).length):((Qy x).data.toList.getD i 0).toNat=x/256^((dg 256 x).length-1-i)%256:=by
 have c:i<((dg 256 x).reverse.map UInt8.ofNat).length:=by simpa using h
 have d:(Qy x).data.toList=(dg 256 x).reverse.map UInt8.ofNat:=by simp [Qy]
 rw [d];simp only [List.getD,aL c,eN,List.getElem_map,List.getElem_reverse];have a:=Hs (b:=256) O ((dg 256 x).length-1-i) x;have e:(dg 256 x).length-1-i<(dg 256 x).length:=O;rw [show(dg 256 x).getD ((dg 256 x).length-1-i) 0=(dg 256 x)[(dg 256 x).length-1-i] by simp [List.getD,e]]at a;rw [a];simp
open Go.RowKit Below
variable {P:Program} {N:Nat} {sc:Nat->Prop} {env env':Px} {H H':Hp} {Q Q':Exit->Act->World->Prop} {M:Nat->Prop}
theorem d_mid {α:Type}  {z:Operand} {e:TypeId}  {ii k j:Nat} {S l:IntKind} {m n:Int}  {enc:α->Value} {xs:List α} (B:o.op= .slice t x (some y) (some z) none)
  (G:ev env x=some v) (I:ev env y=some (.int S m)) (R:ev env z=some (.int l n)) (s:lk H ii=some p) (D:Rd p k enc v xs) (F:P.underlying t=some (.slice e)) (h:∀w,(sizeOf e).run P w= .ok k w)
  (d:m=(i:Int)) (f:n=(j:Int)) (b:i<=j) (g:j<=xs.length):Mr P N sc o env H (Kp (Zfk v i k) (j-i)):=λa w hs=>by
 obtain⟨V,c,rfl,W,Y,Z⟩:=D w (hs.hold ii p s);subst d f;have q:j<=c:=O;simp [execOp,B,hs.ev G,hs.ev I,hs.ev R,Instr.sliceAt,Instr.slice,Instr.sliceBounds,Instr.sliceBound,asIntOf,run_underlying F,h,g,b,q,Zfk,Kp]
def Zed {α:Type} {k:Nat} {e:TypeId} {enc:α->Value}  {xs ys:List α}   (i:Nat) (hi:lk H i=some (Oe k e enc v xs)) (j:Nat.beq i 0=false) (g:Enc P t k enc)
  (c:∀w,RowAt w k enc v xs->RowAt w k enc u ys) (a:u.ownBlock=v.ownBlock) (h:PreOk H false r):PreOk H false (Yl k enc u ys::r):=
 ⟨⟨i,_,λe=>O10,hi,λw f=>⟨c w (Au g.cells f),λb d=>(f.lt b O4).2⟩,λb d=>a.symm.trans d.2,λh=>O4⟩,h⟩
theorem Zkh{α:Type}{k:Nat}{enc:α->Value}{xs:List α}(lo hi:Nat)(a:lo<=hi:=by omega)(b:hi<=xs.length:=by omega):∀w,RowAt w k enc v xs->RowAt w k enc (Kp (Zfk v lo k) (hi-lo)) ((xs.drop lo).take (hi-lo)):=
 λw h=>Zea _ O4 (Zpe lo O h)
theorem Zk9{n k:Nat}:(Kp (Zfk v lo k) n).ownBlock=v.ownBlock:=by rw [Fg,Ze6]
theorem Yi0{k:Nat}{enc:Nat->Value}{ys zs:List Nat}{n:Nat}(c:tz ys=zs)(a:n=zs.length)(h:∀w,RowAt w k enc v xs->RowAt w k enc u ys):∀w,RowAt w k enc v xs->RowAt w k enc (Kp u n) zs:=λw b=>by grind [Zea,Zd3]
theorem Zs6{α:Type}{enc:α->Value}{k:Nat}(a:∀x,(enc x).cells.size=k)(xs:List α)(n:Nat)(b:n<=xs.length):cellsOf enc (xs.take n)=(cellsOf enc xs).take (n*k):=by have h:=Ii enc (xs.take n) (xs.drop n);simp_all [fC,Xo,cQ,dK,List.take_left]
def spl{α:Type}(xs:List α)(lo:Nat)(ys:List α):List α:=xs.take lo ++ ys ++ xs.drop (lo+ys.length)
theorem Iy{α:Type}(xs:List α)(lo:Nat)(ys:List α)(h:lo+ys.length<=xs.length):(spl xs lo ys).length=xs.length:=by simp [spl];omega
theorem Yq4 {α:Type}  {g a:Nat}  {k:Nat} {e:TypeId} {enc:α->Value} {xs ys:List α} (f:∀x,(enc x).cells.size=k) (lo:Nat) (c:lo+ys.length<=xs.length)
  (D:w.heap[g]? = some (.cells cur e (0,0))) (m:xs.length<=a) (d:a<=maxLen) (B:cur.size=a*k) (b:cur.toList.take (xs.length*k)=cellsOf enc xs) :
  (w.setRow g (cur.toList.take (lo*k) ++ cellsOf enc ys ++ cur.toList.drop (lo*k+(cellsOf enc ys).length)).toArray).ownsRow 0 e k (.slice (some ⟨g,0,none⟩) xs.length a) (spl xs lo ys).length (cellsOf enc (spl xs lo ys)):=by
 have l:=Xo f ys;have j:(lo+ys.length)*k<=xs.length*k:=aM _ c;have n:xs.length*k<=a*k:=aM _ m;rw [cL]at j;refine⟨by rw [Xo f],.inr ⟨g,a,_,by grind [Iy],Nat.zero_le _,setRow_heap w g cur _ e _ D,by grind [Iy],d,?_,?_⟩⟩
 .grind
 .rw [Iy _ _ _ c];have s:cellsOf enc (xs.take lo)=cur.toList.take (lo*k):=by rw [Zs6 f xs lo O,<-b,gX,dK O]
  have z:cellsOf enc (xs.drop (lo+ys.length))=(cur.toList.take (xs.length*k)).drop ((lo+ys.length)*k):=by have h:=Ii enc (xs.take (lo+ys.length)) (xs.drop (lo+ys.length));rw [fC,<-b]at h;grind [List.drop_left',Xo,List.length_take,Nat.min_eq_left]
  rw [spl,Ii,Ii,s,z,l,cL];apply gR;intro q;have F:(cur.toList.take (lo*k)).length=lo*k:=O4;grind
def Dst(v u:Value)(a k lo n:Nat):Prop:=∀g c,v= .slice (some ⟨g,0,none⟩) a c->a<=c->∃b,u= .slice (some ⟨g,lo*k,none⟩) n b
def Ymx{a k:Nat}:Dst v v a k 0 a:=λg c h _=>⟨c,O4⟩
theorem Ycw{a k:Nat}{n:Nat}(h:lo<a):Dst v (Kp (Zfk v lo k) n) a k lo n:=λg c b d=>by rw [b];simp only [Zfk,Kp];simp [aJ,Ol]<;>omega
theorem Ye0{α:Type}{k:Nat}{enc:α->Value}{ys:List α}(a:Enc P t k enc)(h:RowAt w k enc u ys):(Builtin.firstCells k ys.length u).run P w= .ok (cellsOf enc ys).toArray w/\(Builtin.lenOf u).run P w= .ok ys.length w:=by
 obtain⟨s,c,rfl,D,F,m⟩:=h;refine⟨?_,by rfl⟩;rcases m with rfl|⟨g,l,rfl,m⟩
 .cases s with
  | none=>rfl
  | some q=>simp [Builtin.firstCells,cellsOf,loadCells,loadCellsFrom]
 .have f:∀q u,(cellsOf enc ys)[q]? = some u->w.cell? ((⟨g,l,none⟩:Addr).add q)=some u:=λq u S=>by
   have z:q<ys.length*k:=by rw [<-Xo a.cells ys];grind
   have n:=a.pos;have d:q/k<ys.length:=gW O4;have b:=aL d;have e:q%k<(enc ys[q/k]).cells.toList.length:=by rw [fJ,a.cells];simp_all [bG]
   have B:=aL e;have G:=Gf a.cells ys _ _ b _ _ B;grind [Nat.mul_comm,Nat.div_add_mod,Nat.add_assoc,Ol]
  have R:=Xo a.cells ys;have:=run_loadCells (P:=P) (w:=w) _ (ys.length*k) (λj=>(cellsOf enc ys).getD j undef) (λj I=>f j _ O4);rw [show(List.range _).map _=cellsOf enc ys by
   apply iG
   all_goals grind]at this
  exact this
theorem Zz9 {α:Type} {a:Act}  {k:Nat} {e:TypeId}  {enc:α->Value} {xs ys:List α}   (hs:Sat N sc env H a w) (G:lk H i=some (Oe k e enc v xs)) (z:i≠0) (s:Enc P t k enc)
  (D:lo+ys.length<=xs.length) (hp:0<xs.length) (S:lk H 0=some (Xu w0 M0)) (Y:∀b,w0.heap.size<=b->sc b)  {n:Nat} (l:Dst v u xs.length k lo n) :
  ∃g c w',u= .slice (some ⟨g,lo*k,none⟩) n c/\(storeCells ⟨g,lo*k,none⟩ (cellsOf enc ys)).run P w= .ok () w'/\Sat N sc env ((i,Oe k e enc v (spl xs lo ys))::H) a w'/\Chg (λ_=>True) w w':=by
 have j:=hs.hold i _ G;rcases j.2 with⟨rfl,hn⟩|⟨g,f,cur,rfl,hb,I,h,m,q,d⟩
 .omega
 .obtain⟨R,l⟩:=l g f rfl h;have W:=Xo s.cells ys;have B:(lo+ys.length)*k<=f*k:=aM _ O;rw [cL]at B;have F:=run_storeCells_at P g (lo*k) e (cellsOf enc ys) 0 cur w I O (λu l=>by obtain⟨y,_,Z⟩:=iX.1 l;exact s.one y u Z)
  exact⟨g,R,_,l,F,hs.upd G rfl z (Gb rfl) (Yq4 s.cells lo D I h m q d) (λk V=> .inl V) S Y,Gb aA⟩
theorem t_cpy (i:Nat)(j:Nat) {α:Type}   {t' e:TypeId} {k n d:Nat} {z:Value} {enc:α->Value} {xs ys:List α}    (lo:Nat)
  (ho:o.op= .call { callee:= .builtin .copy,args:=#[x,y],argTypes:=#[t,t'] }) (W:o.dst=some d) (S:Nat.blt d N=true)
  (hx:ev env x=some u) (hy:ev env y=some z) (I:lk H i=some (Oe k e enc v xs)) (h:i≠0) (Y:lk H j=some p) (hr:Rd p k enc z ys)
  (hu:Dst v u xs.length k lo n) (Z:ys.length<=n) (l:lo+ys.length<=xs.length) (hp:0<xs.length) (ht:P.underlying t=some (.slice te)) (f:Enc P te k enc)
  (B:lk H 0=some (Xu w0 M0)) (hw:∀b,w0.heap.size<=b->sc b) :
  T P N sc (λ_=>True) o env H (G:=Unit) (λ_=>True) (λ_=>(d,.int .i64 (ys.length:Int))::env) (λ_=>(i,Oe k e enc v (spl xs lo ys))::H):=λa w hs K Q R=>by
 obtain⟨g,c,w',rfl,s,q,V⟩:=Zz9 hs I h f l hp B hw hu;obtain⟨D,F⟩:=Ye0 f (hr w (hs.hold j p Y));have m:(execOp a.eval o).run P w= .ok (.value (.int .i64 (ys.length))) w':=by simp [execOp,ho,resolve,invoke,builtin,hs.ev hx,hs.ev hy,Builtin.copy_,run_underlying ht,F,dK Z,f.size,D,s,goInt]
 unfold Oper.wp;rw [m];show K _ _;rw [W];exact R () _ _ aA (q.put d _ S) V
theorem t_clr {α:Type}   {e:TypeId} {k n:Nat} {zv:Value} {enc:α->Value} {xs:List α} {z:α}   (lo:Nat)
  (ho:o.op= .call { callee:= .builtin .clear,args:=#[x],argTypes:=#[t] }) (Y:o.dst=none)
  (hx:ev env x=some u) (S:lk H i=some (Oe k e enc v xs)) (l:i≠0)
  (hu:Dst v u xs.length k lo n) (hn:0<n) (Z:lo+n<=xs.length) (ht:P.underlying t=some (.slice te)) (h:Enc P te k enc)
  (hz:∀w,(zeroValue te).run P w= .ok (enc z) w) (I:k=1)
  (R:lk H 0=some (Xu w0 M0)) (hw:∀b,w0.heap.size<=b->sc b) :
  T P N sc (λ_=>True) o env H (G:=Unit) (λ_=>True) (λ_=>env) (λ_=>(i,Oe k e enc v (spl xs lo (List.replicate n z)))::H):=λa w hs K Q V=>by
 obtain⟨g,c,w',rfl,D,B,W⟩:=Zz9 (ys:=List.replicate n z) hs S l h O4 O R hw hu;obtain⟨m,rfl⟩:∃m,n=m+1:=⟨n-1,O⟩;have d:(enc z).cells.toList=[(enc z).cells[0]'(by rw [h.cells];omega)]:=by
  have j:(enc z).cells.size=1:=by rw [h.cells,I]
  apply iG
  all_goals grind
 have F:(Builtin.zeroCells (enc z).cells (m+1)).toList=cellsOf enc (List.replicate (m+1) z):=by
  have j:(enc z).cells.size=1:=by rw [h.cells,I]
  have f:∀q,cellsOf enc (List.replicate q z)=List.replicate q ((enc z).cells[0]' O):=by
   intro q
   induction q with
   | zero=>rfl
   | succ q ih=>rw [iK,iK,<-ih];simp [cellsOf,d]
  rw [f];apply iG
  .simp [Builtin.zeroCells,j]
  .simp [Builtin.zeroCells,j,lB]
 have s:(execOp a.eval o).run P w= .ok (.value (.tuple #[])) w':=by simp [execOp,ho,resolve,invoke,builtin,hs.ev hx,Builtin.clear_,run_underlying ht,hz,F,D]
 unfold Oper.wp;rw [s];show K _ _;rw [Y];exact V () _ _ aA (B.put_none _) W
end Go.Sky
namespace Go.Sky
variable{listed:Array Bool}{m i:Nat}{ts:List Nat}{ops:Array Oper}{o:Oper}{rest:List (Nat×Nat)}
variable {P:Program} {N:Nat} {sc:Nat->Prop} {env env':Px} {H H':Hp} {Q Q':Exit->Act->World->Prop} {M:Nat->Prop}
theorem Zi (n:Nat) {l : List Oper}    (a : List (Nat × Nat))
     (h:LD P N sc M l.toArray (A P N sc M l.toArray ts Q n (Cu a listed)) a env H) (b:(Region.noSelect l.toArray && Ew l.toArray ts a listed && Nat.beq (a.length+n) m)=true:=by kernel_rfl):A P N sc M l.toArray ts Q m listed env H:=
  a_lin a b h (λ_ _ h=>h)
def aact   {n:Nat}   {G:Type} {φ:G->Prop} {a:G->Px} {b:G->Hp} (e:T P N sc M o env H φ a b) (d:ops[i]? = some o) (c:o.guard=none)
    (h:∀g,φ g->A P N sc M ops ts Q n (listed.setIfInBounds i true) (a g) (b g)):Zf6 P N sc M ops ts Q n listed env H i:=⟨o,G,φ,a,b,d,c,e,h⟩
theorem Pa (n:Nat)     (i j:Nat) 
    (c:Zf6 P N sc M ops ts Q n listed env H i) (d:Zf6 P N sc M ops ts Q n listed env H j) (a:((Region.ready .any ops listed == [i,j]) && !(Dr ops ts listed) && !([i,j]:List Nat).isEmpty && Nat.beq (n+1) m)=true:=by kernel_rfl):A P N sc M ops ts Q m listed env H:=by
  rw [aY]at a;have e:=eF a.2;subst e;exact Yos [i,j] a.1 (λq b=>by
    simp only [bI,dA,fL]at b;rcases b with rfl|rfl
    . exact c
    . exact d)
theorem Kd{F:Px->Hp->Prop}{G:Type}{φ:G->Prop}{a:G->Px}{b:G->Hp}(d:ops[i]? = some o)(e:T P N sc M o env H φ a b)(h:∀g,φ g->LD P N sc M ops F rest (a g) (b g))(c:o.guard=none:=by rfl):LD P N sc M ops F ((i,1)::rest) env H:=r1 e d c h
theorem r3'{F:Px->Hp->Prop}{G:Type}{φ:G->Prop}{a:G->Px}{b:G->Hp}(d:ops[i]? = some o)(e:T P N sc (λ_=>True) o env H φ a b)(h:∀g,φ g->LD P N sc M ops F rest (a g) (b g))(c:o.guard=none:=by rfl):LD P N sc M ops F ((i,3)::rest) env H:=r3 e d c h
def Kh   {n:Nat}   {G:Type} {φ:G->Prop} {a:G->Px} {b:G->Hp} (d:ops[i]? = some o) (c:o.guard=none) (e:T P N sc M o env H φ a b)
    (h:∀g,φ g->A P N sc M ops ts Q n (listed.setIfInBounds i true) (a g) (b g)):Zf6 P N sc M ops ts Q n listed env H i:=aact e d c h
end Go.Sky
namespace Go.Sky
variable{o:Oper}{t t':TypeId}{x y:Operand}{a b:Bool}{ops:Array Oper}{rest:List (Nat×Nat)}
variable {P:Program} {N:Nat} {sc:Nat->Prop} {env env':Px} {H H':Hp} {Q Q':Exit->Act->World->Prop} {M:Nat->Prop}
theorem d_eqb(c:o.op= .binOp .eql t x y t')(e:ev env x=some (.bool a))(f:ev env y=some (.bool b))(d:P.underlying t=some .bool):Mr P N sc o env H (.bool (a == b)):=λg w hs=>by simp [execOp,c,hs.ev e,hs.ev f,eqGuard,run_eql_bool w t a b d]
theorem d_neb(c:o.op= .binOp .neq t x y t')(e:ev env x=some (.bool a))(f:ev env y=some (.bool b))(d:P.underlying t=some .bool):Mr P N sc o env H (.bool (a != b)):=λg w hs=>by simp [execOp,c,hs.ev e,hs.ev f,eqGuard,run_neq_bool w t a b d,bne]
theorem Yz  {F:Px->Hp->Prop} {i:Nat}   {d:Nat} {v:Value} (g:ops[i]? = some o) (e:o.dst=some d) (hs:Stb P N sc M o env H v)
  (h:LD P N sc M ops F rest ((d,v)::env) H) (f:o.guard=none:=by rfl) (c:Nat.blt d N=true:=by rfl):LD P N sc M ops F ((i,0)::rest) env H:=r0 hs g f e c h
end Go.Sky
namespace Go.Sky
open Go.RowKit Below
variable{b:Nat}{t:TypeId}{cs:Array Value}{o:Oper}{x:Operand}{v:Value}{f:FuncId}{xs:List Operand}{ats:Array TypeId}{vs:List Value}{pre:List Pc}{w0:World}{M0:Nat->Prop}{fn:Func}
variable {P:Program} {N:Nat} {sc:Nat->Prop} {env env':Px} {H H':Hp} {Q Q':Exit->Act->World->Prop} {M:Nat->Prop}
def Hm(b:Nat)(t:TypeId)(cs:Array Value):Pc:=
  { own:=false,fp:=λk=>k=b,holds:=λw=>w.heap[b]? = some (.cells cs t (0,0))
    lt:=λw k h c=>by subst c;exact(aT.1 h).1
    stable:=λw e h a=>by rw [<-h];exact a.block b (aT.1 h).1 (λd=>d rfl) }
theorem Zij(i:Nat)(hi:lk H i=some (box b t cs))(z:Nat.beq i 0=false):∀a w,Sat N sc env H a w->Sat N sc env ((i,Hm b t cs)::H) a w:=λa w hs=>by
    have u:i≠0:=λe=>O10;refine⟨hs.size,hs.defers,hs.env,λj h c=>?_,λj s h r n c d q b k l=>?_,λj h p c b k=>?_⟩
    . by_cases g:i=j
      . subst g;rw [Yv]at c;cases c;have y:=hs.hold i _ hi;exact y
      . rw [Yc _ _ g]at c;exact hs.hold j h c
    . by_cases g:i=j
      . subst g;rw [Yv]at c;cases c;cases q
      . rw [Yc _ _ g]at c;by_cases m:i=s
        . subst m;rw [Yv]at d;cases d;exact hs.sep j i h _ n c hi q b k l
        . rw [Yc _ _ m]at d;exact hs.sep j s h r n c d q b k l
    . by_cases g:i=j
      . subst g;rw [Yv]at c;cases c;exact hs.scope i _ u hi b k
      . rw [Yc _ _ g]at c;exact hs.scope j h p c b k
theorem d_lr   {m:TypeId} {i j:Nat}   (e:o.op= .load t x)
    (l:ev env x=some (.pointer (some ⟨b,j,none⟩))) (d:lk H i=some (Hm b m cs)) (g:∀w,(isAgg t).run P w= .ok false w) (k:cs[j]? = some v):Mr P N sc o env H v:=λa w hs=>by
  have c:w.heap[b]? = some _:=hs.hold i _ d;have h:w.cell? ⟨b,j,none⟩=cs[j]?:=by simp [World.cell?,c]
  rw [k]at h;simp [execOp,e,hs.ev l,Instr.loadAt,Instr.sureAddr,loadVar,g,load,Sem.run,h]
def Zd0(P:Program)(f:FuncId)(args:Array Value)(pre:List Pc)(al:Bool)(b:Nat)(t:TypeId)(cs:Array Value){G:Type}(φ:G->Prop)(val:G->Value)(cs':G->Array Value)(a:G->List Pc):Prop:=
  ∀w,(∀p∈pre,p.holds w/\¬p.fp b)->(box b t cs).holds w->Calls P f args w λe c=>∃g,e= .returned (val g)/\φ g/\Chg (λk=>k=b) w c/\(box b t (cs' g)).holds c/\
    ∀p∈a g,p.holds c/\p.own=false/\∀k,p.fp k->w.heap.size<=k\/(al=true/\∃q∈pre,q.fp k)
theorem Pd (n:Nat)(i:Nat)     {d:Nat}     {al:Bool} {G:Type} {φ:G->Prop} {val:G->Value} {cs':G->Array Value} {Z:G->List Pc}  
    (hc:Zd0 P f vs.toArray pre al b t cs φ val cs' Z)
    (ho:o.op= .call { callee:= .value (.func f),args:=xs.toArray,argTypes:=ats }) (hd:o.dst=some d) (hN:Nat.blt d N=true)
    (a1:EvL env xs vs) (a2:∀args w,(callFunc f args).run P w= .ok (.enter f args) w) (hH:lk H i=some (box b t cs)) (a3:i≠0) (s:PreOk (drp i H) al pre)
    (h0:lk H 0=some (Xu w0 M0)) (hw:∀b,w0.heap.size<=b->sc b) (hM:M b) :
    T P N sc M o env H φ (λg=>(d,val g)::env) (λg=>adds n (Z g) ((i,box b t (cs' g))::H)):=λa w hs K Q hK=>by
  have hr:(execOp a.eval o).run P w= .ok (.enter f vs.toArray) w:=by grind [Gm]
  unfold Oper.wp;rw [hr];have B:=hs.hold i _ hH;refine(hc w (λp hp=>by obtain⟨j,R,_,l,S,m,_⟩:=s.mem p hp;obtain⟨I,l⟩:=Fu _ _ _ _ l;exact⟨S w (hs.hold j R l),λhb=>hs.sep i j _ R (fB I) hH l rfl b rfl (m b hb)⟩) B).mono ?_
  rintro e w' ⟨g,rfl,hg,c,D,V⟩;rw [hd];have a5:=hs.upd hH rfl a3 c D (λk F=> .inl F) h0 hw;have a0:Chg M w w':=⟨c.os,c.tape,c.output,c.size,λk F hn=>c.block k F (λe=>hn O4)⟩;refine hK g _ _ hg (Sat.put (a5.adds (w1:=w) _ n ?_) d _ hN) a0;intro p hp;obtain⟨h1,h2,h3⟩:=V p hp;refine⟨h1,h2,λk F=>?_,λj jt l Y k F y=>?_⟩
  . rcases h3 k F with h|⟨_,q,hq,z⟩
    . exact hw k (aB (hs.hold 0 _ h0).size h)
    . obtain⟨j,R,W,l,_,m,_⟩:=s.mem q hq;exact hs.scope j R W (Fu _ _ _ _ l).2 k (m k z)
  . have a7:k<w.heap.size:=by
      by_cases r:i=j
      . subst r;rw [Yv]at l;cases l;have:=y;subst this;exact(aT.1 B).1
      . rw [Yc _ _ r]at l;exact jt.lt w k (hs.hold j jt l) y
    rcases h3 k F with h|⟨a6,q,hq,z⟩
    . omega
    . obtain⟨j',R,W,u,_,m,a8⟩:=s.mem q hq;obtain⟨I,u⟩:=Fu _ _ _ _ u;by_cases r:i=j
      . subst r;rw [Yv]at l;cases l;exact hs.sep i j' _ R (fB I) hH u rfl k y (m k z)
      . rw [Yc _ _ r]at l;by_cases a4:j=j'
        . grind
        . exact hs.sep j j' jt R a4 l u Y k y (m k z)
def Yoz(P:Program)(fn:Func)(w0:World)(pre:List Pc)(al:Bool)(b:Nat)(t:TypeId){G:Type}(φ:G->Prop)(val:G->Value)(cs':G->Array Value)(a:G->List Pc):Exit->Act->World->Prop:=
  bodyPost P fn λe c => ∃ g, e = .returned (val g) /\ φ g /\ Chg (λk => k = b) w0 c /\ (box b t (cs' g)).holds c /\
        ∀p∈a g,p.holds c/\p.own=false/\∀k,p.fp k->w0.heap.size<=k\/(al=true/\∃q∈pre,q.fp k)
theorem De   {c:Code}   {al:Bool}    {G:Type} {φ:G->Prop} {val:G->Value} {cs':G->Array Value} {m:G->List Pc} {N:Nat}
    (F:P.funcs[f]? = some fn) (B:fn.body=some c) (hN:fn.ntmps=N) (u:Nat.ble vs.length N=true) (y:AllRo pre)
    (h:∀w0 (sc:Nat->Prop),(∀k,w0.heap.size<=k->sc k)->(∀k,sc k->w0.heap.size<=k\/k=b\/∃q∈pre,q.fp k)->
      E P N sc c (Yoz P fn w0 pre al b t φ val cs' m) (Pv 0 vs) ((0,Xu w0 (λk=>k=b))::(1,box b t cs)::Xk 2 pre)) :
    Zd0 P f vs.toArray pre al b t cs φ val cs' m:=λw hp D=>by
  refine calls_of_wp F B (h w _ (λk d=> .inl d) (λk d=>d) _ w ?_);have u:vs.length<=N:=O10;have a:∀i p,lk ((0,Xu w (λk=>k=b))::(1,box b t cs)::Xk 2 pre) i=some p->(i=0/\p=Xu w (λk=>k=b))\/(i=1/\p=box b t cs)\/(i≠0/\i≠1/\p∈pre/\p.own=false):=λi p hi=>by
      by_cases n:0=i
      . grind [Yv]
      . rw [Yc _ _ n]at hi;by_cases l:1=i
        . grind [Yv]
        . rw [Yc _ _ l]at hi;obtain⟨_,g⟩:=Mk pre 2 i p hi;exact .inr (.inr ⟨λe=>n e.symm,λe=>l e.symm,g,y.mem p g⟩)
  refine⟨O4,rfl,λt v Y=>?_,λi p hi=>?_,λi j p q V hi R W k d r=>?_,λi p I hi k d=>?_⟩
  . have l:vs.toArray[t]? = some v:=by simpa using(Ft vs 0 t v Y).2
    have S:=(aT.1 l).1;simp_all [bL,eA]
  . rcases a i p hi with⟨_,rfl⟩|⟨_,rfl⟩|⟨_,_,g,_⟩
    . exact Chg.refl _ w
    all_goals grind
  . rcases a i p hi with⟨_,rfl⟩|⟨l,rfl⟩|⟨_,_,g,z⟩
    . cases W
    . have s:k=b:=d;subst s;rcases a j q R with⟨_,rfl⟩|⟨Z,rfl⟩|⟨_,_,g,_⟩
      . exact r.2 rfl
      all_goals grind
    grind
  . rcases a i p hi with⟨n,_⟩|⟨_,rfl⟩|⟨_,_,g,_⟩
    . omega
    . exact .inr (.inl d)
    grind
theorem Dq   {al:Bool}    {G:Type} {φ:G->Prop} {val:G->Value} {cs':G->Array Value} {l:G->List Pc}  {e:Exit} (W:e= .ret\/e= .normal) (S:∀k,sc k->w0.heap.size<=k\/k=b\/∃q∈pre,q.fp k)
    (g:G)  (u:∀a w,Sat N sc env H a w->(results fn a.tmps).run P w= .ok v w) (hv:val g=v) (Y:φ g) (i:Nat) (hi:lk H i=some (box b t cs)) (B:cs' g=cs) (a0:Nat.beq i 0=false) (V:lk H 0=some (Xu w0 (λk=>k=b))) (c:Give (drp i H) al (l g)) :
    X N sc e (Yoz P fn w0 pre al b t φ val cs' l) env H:=λa w hs=>by
  have a1 : a.defers = [] /\ ∃ v, (results fn a.tmps).run P w = .ok v w /\ (∃ g, Ending.returned v = .returned (val g) /\ φ g /\ Chg (λk => k = b) w0 w /\ (box b t (cs' g)).holds w /\
        ∀p∈l g,p.holds w/\p.own=false/\∀k,p.fp k->w0.heap.size<=k\/(al=true/\∃q∈pre,q.fp k)):=by
    refine⟨hs.defers,v,u a w hs,g,O4,Y,hs.hold 0 _ V,by rw [B];exact hs.hold i _ hi,λp hp=>?_⟩;obtain⟨ho,h|⟨h1,h2⟩⟩:=c.mem p hp
    case inr=>grind
    obtain⟨j,y,r,m,n,D,z⟩:=h;obtain⟨R,m⟩:=Fu _ _ _ _ m;refine⟨n w (hs.hold j y m),ho,λk hk=>?_⟩;have d:=D k hk;have F:k≠b:=λe=>by subst e;exact hs.sep i j _ y (fB R) hi m rfl k rfl d
    cases al with
    | true=>
      rcases S k (hs.scope j y r m k d)with h|h|h
      all_goals grind
    | false=>
      have s:=z rfl;have hn:=hs.sep j 0 y _ r m V s k d;rcases bA k _ with I|Z
      . exact absurd ⟨I,F⟩ hn
      omega
  rcases W with rfl|rfl
  all_goals assumption
end Go.Sky
namespace Go.Sky
open Go.RowKit Below
variable{o:Oper}{f:FuncId}{xs:List Operand}{c x y:Operand}{ats:Array TypeId}{t t':TypeId}{cs:Array Value}{pre:List Pc}{M0:Nat->Prop}{ops:Array Oper}{ts:List Nat}{listed:Array Bool}{v:Value}{p:Pc}{rest:List Oper}
variable {P:Program} {N:Nat} {sc:Nat->Prop} {env env':Px} {H H':Hp} {Q Q':Exit->Act->World->Prop} {M:Nat->Prop}
theorem d_mkf (vs:List Value)(d:o.op= .makeFunc (.func f) xs.toArray #[])(e:EvL env xs vs):Mr P N sc o env H (.func (.func f) vs.toArray #[]):=λa w hs=>by have b:=e.map hs;simp [execOp,d,Instr.makeFunc,b]
theorem Zom {a:Act} {w:World} (hs:Sat N sc env H a w)      {d vs:List Value} (h:o.op= .call { callee:= .value c,args:=xs.toArray,argTypes:=ats })
  (e:ev env c=some (.func (.func f) d.toArray #[])) (b:EvL env xs vs):(execOp a.eval o).run P w=(callFunc f (d ++ vs).toArray).run P w:=by
 have g:=b.map hs;simp [execOp,h,resolve,invoke,hs.ev e,Deferred.ofValue,g]
theorem Zt2 (n:Nat)(i:Nat)(h:List Value)(vs:List Value)      {d b:Nat}     {al:Bool} {G:Type} {φ:G->Prop} {val:G->Value} {cs':G->Array Value} {k:G->List Pc} {B:World} 
  (V:Zd0 P f (h ++ vs).toArray pre al b t cs φ val cs' k)
  (ho:o.op= .call { callee:= .value c,args:=xs.toArray,argTypes:=ats }) (W:ev env c=some (.func (.func f) h.toArray #[])) (Y:o.dst=some d) (S:Nat.blt d N=true)
  (q:EvL env xs vs) (e:∀args w,(callFunc f args).run P w= .ok (.enter f args) w) (F:lk H i=some (box b t cs)) (u:i≠0) (j:PreOk (drp i H) al pre)
  (D:lk H 0=some (Xu B M0)) (hw:∀b,B.heap.size<=b->sc b) (R:M b) :
  T P N sc M o env H φ (λg=>(d,val g)::env) (λg=>adds n (k g) ((i,box b t (cs' g))::H)):=λa w hs K Q I=>by
 have Z:(execOp a.eval o).run P w= .ok (.enter f (h ++ vs).toArray) w:=by grind [Zom]
 let o2:={ o with op:= .call { callee:= .value (.func f),args:=((h ++ vs).map Operand.const).toArray,argTypes:=ats } };have s:∀l,EvL env (l.map Operand.const) l:=λl=>by
  induction l with
  | nil=>trivial
  | cons v r ih=>exact⟨rfl,ih⟩
 have z:(execOp a.eval o2).run P w= .ok (.enter f (h ++ vs).toArray) w:=by grind [Gm]
 have m:=Pd _ _ V (o:=o2) rfl Y S (s _) e F u j D hw R a w hs K Q I;unfold Oper.wp at m ⊢;rw [z]at m;rw [Z];exact m
theorem Zdy (n:Nat)    {m:Nat} (i j k:Nat) 
  (d:Zf6 P N sc M ops ts Q n listed env H i) (e:Zf6 P N sc M ops ts Q n listed env H j) (g:Zf6 P N sc M ops ts Q n listed env H k) (a:((Region.ready .any ops listed == [i,j,k]) && !(Dr ops ts listed) && !([i,j,k]:List Nat).isEmpty && Nat.beq (n+1) m)=true:=by kernel_rfl):A P N sc M ops ts Q m listed env H:=by
 rw [aY]at a;have b:=eF a.2;subst b;exact Yos _ a.1 (λq h=>by grind)
theorem d_fld    {f:Nat} {d:Array Field} {b:Field}   (h:o.op= .field t x f)
  (k:ev env x=some (.agg cs)) (i:P.underlying t=some (.struct d)) (g:d[f]? = some b) (e:∀w,(isAgg b.type).run P w= .ok false w) (j:cs[b.offset]? = some v):Mr P N sc o env H v:=λa w hs=>by
 simp [execOp,h,hs.ev k,Instr.field,run_underlying i,g,asAgg,part,e,j]
theorem Zzf{s b:ByteArray}(e:o.op= .binOp .eql t x y t')(g:ev env x=some (.string s))(h:ev env y=some (.string b))(i:b.data.toList=[]) :
  Mr P N sc o env H (.bool (decide (s.size=0))):=λa w hs=>by
 have d:(s.toList == b.toList)=decide (s.size=0):=by rw [ByteArray.toList_eq,ByteArray.toList_eq];have:s.size=s.data.toList.length:=rfl;grind
 simp [execOp,e,hs.ev g,hs.ev h,eqGuard,binOp_string_eql,d]
theorem Ym9  {b:BinOp}   {xs ys:Array Value} {r:Value} (g:o.op= .binOp b t x y t') (i:ev env x=some (.agg xs)) (j:ev env y=some (.agg ys))
  (e:P.eqGuardType P.depth t=false) (h:∀w,(binOp b t (.agg xs) (.agg ys)).run P w= .ok r w):Mr P N sc o env H r:=λa w hs=>by
 have d:=run_eqGuard_agg w b t x y xs ys e;simp only [execOp,g,hs.ev i,hs.ev j,Sem.run_bind,d,h w,Result.andThen_ok,Sem.run_pure]
abbrev SL:=Option Addr×Nat×Nat
abbrev Xd (s:SL):Value:= .slice s.1 s.2.1 s.2.2
theorem Xj{α:Type}{k:Nat}{enc:α->Value}{xs:List α}(i:Nat)(hi:lk H i=some p)(b:Rd p k enc v xs):∀a w,Sat N sc env H a w->∃s:SL,v=Xd s:=λa w hs=>by obtain⟨d,c,rfl,_⟩:=b w (hs.hold i p hi);simp
theorem Zcw{c:Code}{α:Type}{p:α->Prop}(b:∀a w,Sat N sc env H a w->∃x,p x)(h:∀x,p x->E P N sc c Q env H):E P N sc c Q env H:=λa w hs=>by obtain⟨x,d⟩:=b a w hs;exact h x d a w hs
theorem Zfd{e:Exit}{α:Type}{p:α->Prop}(b:∀a w,Sat N sc env H a w->∃x,p x)(h:∀x,p x->X N sc e Q env H):X N sc e Q env H:=λa w hs=>by obtain⟨x,d⟩:=b a w hs;exact h x d a w hs
theorem Zm9{α:Type}{p:α->Prop}(b:∀a w,Sat N sc env H a w->∃x,p x)(h:∀x,p x->L P N sc ops rest Q env H):L P N sc ops rest Q env H:=λa w hs=>by obtain⟨x,d⟩:=b a w hs;exact h x d a w hs
def Nw{β:Type}(q:β->Pc)(zs:List β):Pc:=
 {own:=false,fp:=λb=>∃z∈zs,(q z).fp b,holds:=λw=>∀z∈zs,(q z).holds w
  lt:=λw b h e=>by obtain⟨z,d,e⟩:=e;exact(q z).lt w b (h z d) e
  stable:=λw m h a z d=>(q z).stable w m (h z d) ⟨a.os,a.tape,a.output,a.size,λk i j=>a.block k i (λg=>j (λl=>g ⟨z,d,l⟩))⟩ }
def Xv{β:Type}(k:Nat)(enc:β->Value)(q:β->Pc)(v:Value)(zs:List β):Pc:=
 {own:=false,fp:=λb=>(zs≠[]/\v.ownBlock=some b)\/∃z∈zs,(q z).fp b,holds:=λw=>(Yl k enc v zs).holds w/\(Nw q zs).holds w
  lt:=λw b h d=>by
   rcases d with d|d
   .exact(Yl k enc v zs).lt w b h.1 d
   .exact(Nw q zs).lt w b h.2 d
  stable:=λw l h a=>⟨(Yl k enc v zs).stable w l h.1 ⟨a.os,a.tape,a.output,a.size,λk g i=>a.block k g (λe=>i (λj=>e (.inl j)))⟩,
   (Nw q zs).stable w l h.2 ⟨a.os,a.tape,a.output,a.size,λk g i=>a.block k g (λe=>i (λj=>e (.inr j)))⟩⟩ }
def Zc{β:Type}{k:Nat}{enc:β->Value}{q:β->Pc}{zs:List β} : Rd (Xv k enc q v zs) k enc v zs:=λw h=>h.1.1
theorem Zbd{q:Pc}(i j:Nat)(hi:lk H i=some p)(n:Nat.beq i 0=false)(u:p.own=false)(m:∀w,p.holds w->q.holds w)(k:∀b,q.fp b->p.fp b)(z:q.own=false):∀a w,Sat N sc env H a w->Sat N sc env ((j,q)::H) a w:=λa w hs=>
 hs.add j q (m w (hs.hold i p hi)) (λl s _ r Ej b d g=>by
  rcases Ej with Ej|Ej
  .grind
  .by_cases h:l=i
   .grind
   .exact hs.sep l i s p h r hi Ej b g (k b d)) (λb d=>hs.scope i p (λe=>O10) hi b (k b d))
def Za1{β:Type}{q:β->Pc}{zs:List β}(i j:Nat)(z:β)(hi:lk H i=some (Nw q zs))(d:Nat.beq i 0=false)(e:z∈zs)(k:(q z).own=false):∀a w,Sat N sc env H a w->Sat N sc env ((j,q z)::H) a w:=
 Zbd i j hi d rfl (λw h=>h z e) (λb g=>⟨z,e,g⟩) k
def Po{β:Type}{k:Nat}{enc:β->Value}{q:β->Pc}{zs:List β}(i j:Nat)(z:β)(hi:lk H i=some (Xv k enc q v zs))(d:Nat.beq i 0=false)(e:z∈zs)(l:(q z).own=false):∀a w,Sat N sc env H a w->Sat N sc env ((j,q z)::H) a w:=
 Zbd i j hi d rfl (λw h=>h.2 z e) (λb g=> .inr ⟨z,e,g⟩) l
def Iv{β:Type}{k:Nat}{enc:β->Value}{q:β->Pc}{zs:List β}(i j:Nat)(hi:lk H i=some (Xv k enc q v zs))(d:Nat.beq i 0=false):∀a w,Sat N sc env H a w->Sat N sc env ((j,Nw q zs)::H) a w:=
 Zbd i j hi d rfl (λw h=>h.2) (λb e=> .inr e) rfl
theorem Zd{β:Type}{zs:List β}{i:Nat}{d:β}(h:i<zs.length):zs.getD i d∈zs:=by grind
theorem Zx2{q r:Pc}(i j n:Nat)(hi:lk H i=some p)(s:lk H j=some q)(D:Nat.beq i 0=false)(F:Nat.beq j 0=false)(I:p.own=false)(G:q.own=false)(B:∀w,p.holds w->q.holds w->r.holds w)(u:∀b,r.fp b->p.fp b\/q.fp b)(R:r.own=false) :
  ∀a w,Sat N sc env H a w->Sat N sc env ((n,r)::H) a w:=λa w hs=>
 hs.add n r (B w (hs.hold i p hi) (hs.hold j q s)) (λl z _ k Ej b m g=>by
  rcases Ej with Ej|Ej
  .grind
  .rcases u b m with h|h
   .by_cases d:l=i
    .grind
    .exact hs.sep l i z p d k hi Ej b g h
   .by_cases d:l=j
    .grind
    .exact hs.sep l j z q d k s Ej b g h) (λb m=>by
  rcases u b m with h|h
  .exact hs.scope i p (λe=>O10) hi b h
  .exact hs.scope j q (λe=>O10) s b h)
def Xe{β:Type}{k:Nat}{enc:β->Value}{q:β->Pc}{zs:List β}(i j n:Nat)(hi:lk H i=some (Yl k enc v zs))(m:lk H j=some (Nw q zs))(d:Nat.beq i 0=false)(e:Nat.beq j 0=false) :
  ∀a w,Sat N sc env H a w->Sat N sc env ((n,Xv k enc q v zs)::H) a w:=
 Zx2 i j n hi m d e rfl rfl (λw g h=>⟨g,h⟩) (λb l=>l) rfl
theorem Yh{β:Type}(q:β->Pc)(n:Nat):∀a w,Sat N sc env H a w->Sat N sc env ((n,Nw q ([]:List β))::H) a w:=λa w hs=>
 hs.add n _ (λz e=>O4) (λh i _ _ Ej b d g=>by obtain⟨z,e,_⟩:=d;grind) (λb d=>by obtain⟨z,e,_⟩:=d;grind)
theorem Zm{β:Type}{q:β->Pc}{zs:List β}{z:β}(i j n:Nat)(hi:lk H i=some (Nw q zs))(m:lk H j=some (q z))(e:Nat.beq i 0=false)(g:Nat.beq j 0=false)(r:(q z).own=false) :
  ∀a w,Sat N sc env H a w->Sat N sc env ((n,Nw q (zs ++ [z]))::H) a w:=
 Zx2 i j n hi m e g rfl r (λw l s y k=>by
  rcases cW.1 k with h|h
  .exact l y h
  grind) (λb d=>by
  obtain⟨y,k,d⟩:=d;rcases cW.1 k with h|h
  .exact .inl ⟨y,h,d⟩
  grind) rfl
theorem Zx1{β:Type}{q:β->Pc}{zs ys:List β}(i n:Nat)(hi:lk H i=some (Nw q zs))(e:Nat.beq i 0=false)(hs:∀y∈ys,y∈zs) :
  ∀a w,Sat N sc env H a w->Sat N sc env ((n,Nw q ys)::H) a w:=
 Zbd i n hi e rfl (λw h y g=>h y (hs y g)) (λb d=>by obtain⟨y,g,d⟩:=d;exact⟨y,hs y g,d⟩) rfl
end Go.Sky
namespace Go.Sky
open Go.RowKit Below
variable{o:Oper}{H0:Hp}{ks ts:List Nat}{t ty:TypeId}{d:Nat}{cs:Array Value}{M0:Nat->Prop}{p:Pc}{ops:Array Oper}{listed:Array Bool}{x:Operand}{m:Int}{rest:List Oper}{pos:String}
variable {P:Program} {N:Nat} {sc:Nat->Prop} {env env':Px} {H H':Hp} {Q Q':Exit->Act->World->Prop} {M:Nat->Prop}
def Off(H:Hp)(ks:List Nat):Nat->Prop:=λx=>∀k∈ks,∀p,lk H k=some p->¬p.fp x
def Agr(H0 H:Hp):List Nat->Prop
 | []=>True
 | k::r=>lk H k=lk H0 k/\Agr H0 H r
theorem Agr.mem{H0 H:Hp} : ∀{ks:List Nat},Agr H0 H ks->∀k∈ks,lk H k=lk H0 k
 | k::r,h,j,a=>by
  cases a with
  | head=>exact h.1
  | tail _ a=>exact Agr.mem h.2 j a
def rst(ks:List Nat):Hp->Hp
 | []=>[]
 | (i,p)::r=>cond (ks.any (Nat.beq i)) ((i,p)::rst ks r) (rst ks r)
theorem Ziz(ks:List Nat):∀(H:Hp) (i:Nat) (p:Pc),lk (rst ks H) i=some p->i∈ks/\lk H i=some p
 | [],_,_,h=>by cases h
 | (j,q)::r,i,p,h=>by
  unfold rst at h;cases hb:ks.any _ with
  | true=>
   rw [hb]at h;simp only [cond_true]at h;by_cases a:j=i
   .subst a;rw [Yv]at h ⊢;obtain⟨x,c,b⟩:=kG.1 hb;have:=eF b;subst this;exact⟨c,h⟩
   .rw [Yc _ _ a]at h ⊢;exact Ziz ks r i p h
  | false=>
   rw [hb]at h;obtain⟨e,f⟩:=Ziz ks r i p h;simp_all [kG,Yc]
theorem Qw {id:Nat} {l:List Oper} (ks:List Nat) (ts:List Nat) 
  (h:A P N sc (Off H ks) l.toArray ts Q l.length (Array.replicate l.length false) env H) (a:P.follows .mixedOrders=true:=by kernel_rfl):E P N sc (.region id l.toArray true) Q env H:=Lk _ ts h a
theorem Ko{v:Value}(z:Mr P N sc o env (rst ks H) v)(l:Agr H0 H ks):Stb P N sc (Off H0 ks) o env H v:=λa w hs h c=>by refine z a h ⟨hs.size,hs.defers,hs.env,λi b hi=>?_,λi j b B f hi r=>hs.sep i j b B f (Ziz _ _ _ _ hi).2 (Ziz _ _ _ _ r).2,λi b k hi=>hs.scope i b k (Ziz _ _ _ _ hi).2⟩;obtain⟨g,e⟩:=Ziz _ _ _ _ hi;refine b.stable w h (hs.hold i b e) ⟨c.os,c.tape,c.output,c.size,λq y s=>c.block q y (λu=>s (λn=>?_))⟩;exact u i g b (by rw [<-l.mem i g];omega) n
theorem Yhf   {i:Nat} {z:Value}  {e:World}    (u:o.op= .alloc t) (q:o.dst=some d) (h:Nat.blt d N=true)
  (B:∀w,(zeroValue t).run P w= .ok z w) (n:z.cells=cs) (f:lk H 0=some (Xu e M0)) (y:∀b,e.heap.size<=b->sc b) (j:Agr H0 H ks) :
  T P N sc (Off H0 ks) o env H (G:=Nat) (λb=>Off H0 ks b) (λb=>(d,.pointer (some ⟨b,0,none⟩))::env) (λb=>(i,box b t cs)::H):=λa w hs K Q g=>by
 subst n;have v:(execOp a.eval o).run P w= .ok (.value (.pointer (some ⟨w.heap.size,0,none⟩))) (w.alloc (.cells z.cells t)):=by simp [execOp,u,Instr.alloc,B,newVar,newRow]
 unfold Oper.wp;rw [v];show K _ _;rw [q];exact g _ _ _ (λk s p c r=>by rw [<-j.mem k s]at c;exact absurd (p.lt w _ (hs.hold k p c) r) (Nat.lt_irrefl _)) ((hs.new f y i _ _ (heap_alloc_new w _) (λb l=>l)).put d _ h) (Chg.alloc _ _ _)
theorem Oy{q:Pc}(i:Nat)(h:p=q)(hi:lk H i=some p)(b:Nat.beq i 0=false):∀a w,Sat N sc env H a w->Sat N sc env ((i,q)::H) a w:=λa w hs=>by grind [Zqs]
def Kb{n:Nat}(hi:∀a w,Sat N sc env H a w->Sat N sc env' H' a w)(h:A P N sc M ops ts Q n listed env' H'):A P N sc M ops ts Q n listed env H:=λa w hs=>h a w (hi a w hs)
theorem Yg3 (r:Int)(b:o.op= .unOp .neg t x)(e:ev env x=some (.int .u64 m))(c:(-m)%18446744073709551616=r):Mr P N sc o env H (.int .u64 r):=λa w hs=>by rw [<-c,<-wrap_u];simp [execOp,b,hs.ev e,Op.unary,Op.intArith]
def Ysz{b:TypeId}{k:IntKind}{r:Int}{ds:TypeDesc}(c:o.op= .convert t b x)(f:ev env x=some (.int k m))(a:P.underlying t=some ds)(e:P.underlying b=some (.int .u64))(g:m%18446744073709551616=r) :
  Mr P N sc o env H (.int .u64 r):=Zic c f a e ‹_›
theorem Sat.yieldedu{a:Act}{w:World}(h:Sat N sc env H a w){j:Nat}(e:(ops[j]?).bind (·.dst)=some d)(c:lk env d=some undef):Go.yielded ops a.tmps j=none:=by
 have b:=h.env d _ c;unfold Go.yielded;rw [e];simp only [Option.bind_some];rw [bL]at b;cases hx:a.tmps[d]? with
 | none=>rfl
 | some v=>rw [hx]at b;subst b;rfl
theorem gsku      {c:Array Edge} {f:Op} {j e:Nat} {b:Bool} (l:(ops[j]?).bind (·.dst)=some e) (k:lk env e=some undef) (i:Nat.blt d N=true)
  (h:L P N sc ops rest Q ((d,undef)::env) H):L P N sc ops (⟨some d,f,ty,pos,c,some (j,b)⟩::rest) Q env H:=λa w hs=>
 wpList_step λK g=>by
  have q:=hs.yieldedu l k;have n:Region.wanted ⟨some d,f,ty,pos,c,some (j,b)⟩ (yielded ops a.tmps)=false:=by simp [Region.wanted,q]
  rw [n];exact g _ _ (h _ _ (hs.put d _ i))
def nop:Pc:={ own:=false,fp:=λ_=>False,holds:=λ_=>True,lt:=λ_ _ _ h=>h.elim,stable:=λ_ _ _ _=>trivial }
theorem s_move(i j:Nat)(hi:lk H i=some p)(q:Nat.beq i 0=false)(F:Nat.beq j 0=false)(D:Nat.beq i j=false):∀a w,Sat N sc env H a w->Sat N sc env ((j,p)::(i,nop)::H) a w:=λa w hs=>by
 have q:i≠0:=λe=>O10;refine⟨hs.size,hs.defers,hs.env,λk kt f=>?_,λk s kt u r f c v b n h=>?_,λk kt y f b n=>?_⟩
 .by_cases l:j=k
  .subst l;rw [Yv]at f;cases f;exact hs.hold i p hi
  .rw [Yc _ _ l]at f;by_cases g:i=k
   .subst g;rw [Yv]at f;cases f;trivial
   .rw [Yc _ _ g]at f;exact hs.hold k kt f
 .by_cases l:j=k
  .subst l;rw [Yv]at f;cases f;rw [Yc _ _ r]at c;by_cases g:i=s
   .subst g;rw [Yv]at c;cases c;exact h
   .rw [Yc _ _ g]at c;exact hs.sep i s p u g hi c v b n h
  .rw [Yc _ _ l]at f;by_cases g:i=k
   .subst g;rw [Yv]at f;cases f;cases v
   .rw [Yc _ _ g]at f;by_cases z:j=s
    .subst z;rw [Yv]at c;cases c;exact hs.sep k i kt p (fB g) f hi v b n h
    .rw [Yc _ _ z]at c;by_cases B:i=s
     .subst B;rw [Yv]at c;cases c;exact h
     .rw [Yc _ _ B]at c;exact hs.sep k s kt u r f c v b n h
 .by_cases l:j=k
  .subst l;rw [Yv]at f;cases f;exact hs.scope i p q hi b n
  .rw [Yc _ _ l]at f;by_cases g:i=k
   .subst g;rw [Yv]at f;cases f;exact n.elim
   .rw [Yc _ _ g]at f;exact hs.scope k kt y f b n
theorem fill3{h j a b c e f g:Value}:Instr.fill (λi=>some (i*2,2)) ((List.range (3*2)).map ((Value.agg #[h,j]).cells[· % (Value.agg #[h,j]).cells.size]!)).toArray [(0,.agg #[a,b]),(1,.agg #[c,e]),(2,.agg #[f,g])]=some #[a,b,c,e,f,g]:=by simp [Instr.fill,Value.cells,List.range,List.range.loop]
end Go.Sky
namespace Go.Sky
variable{o xs ys:List Nat}{c b x y i m w a s h:Nat}{P:Program}{sc:Nat->Prop}{t:TypeId}{kd:IntKind}
theorem Zxm(k:Nat):U^k=256^(8*k):=by grind [Nat.pow_mul]
theorem Zdz(k:Nat):U^k=2^(64*k):=by grind [Nat.pow_mul]
def Qj:0<U:=O5
theorem Yon{k:Nat}(h:val U (o.take k)+c*U^k=val U (xs.take k)+val U (ys.take k))(d:k<o.length) :
  val U ((o.set k ((xs.getD k 0+ys.getD k 0+c)%U)).take (k+1))+(xs.getD k 0+ys.getD k 0+c)/U*U^(k+1)=val U (xs.take (k+1))+val U (ys.take (k+1)):=by
 rw [Bp _ _ _ d,Qt,Qt,cH];grind [Nat.mod_add_div,Nat.add_mul,Nat.mul_comm,Nat.mul_assoc]
theorem Yhm{k:Nat}(f:c<=1)(j:xs.getD k 0<U)(l:ys.getD k 0<U)(h:val U (o.take k)+val U (ys.take k)=val U (xs.take k)+c*U^k)(e:k<o.length) :
  val U ((o.set k ((xs.getD k 0+U-ys.getD k 0-c)%U)).take (k+1))+val U (ys.take (k+1))=val U (xs.take (k+1))+brw (xs.getD k 0) (ys.getD k 0) c*U^(k+1):=by
 unfold brw;rw [Bp _ _ _ e,Qt,Qt];generalize xs.getD k 0=a at *;generalize ys.getD k 0=b at *;by_cases g:a<b+c
 .have d:(a+U-b-c)%U+b+c=a+U:=O4;grind
 .have d:(a+U-b-c)%U+b+c=a:=by grind
  grind
theorem Zou(b:Nat)(xs:List Nat)(k:Nat)(d:k<xs.length):val b xs=val b (xs.take k)+xs.getD k 0*b^k+b^(k+1)*val b (xs.drop (k+1)):=by
 conv=>lhs;rw [<-fC (k+1) xs]
 grind [Me,Qt,List.length_take,Nat.min_eq_left]
theorem Zsz(l:0<b)(p:∀d∈xs,d<b){k:Nat}(e:k<xs.length)(f:k<ys.length)(n:xs.drop (k+1)=ys.drop (k+1))(h:xs.getD k 0<ys.getD k 0):val b xs<val b ys:=by
 rw [Zou b xs k e,Zou b ys k f];have g:val b (xs.take k)<b^k:=by grind [Zib,List.mem_of_mem_take,List.length_take,Nat.min_eq_left]
 have j:(xs.getD k 0+1)*b^k<=ys.getD k 0*b^k:=aM _ h;grind
theorem Zhp (xs:List Nat)(ys:List Nat){k:Nat}(e:k<xs.length)(f:k<ys.length)(d:xs.drop (k+1)=ys.drop (k+1))(h:xs.getD k 0=ys.getD k 0):xs.drop k=ys.drop k:=by grind [List.drop_eq_getElem_cons]
theorem Zbo(d:2<=b)(h:(dg b x).length<(dg b y).length):x<y:=by have e:=(Xq d _ x).1 (aF _);grind [Mp]
theorem Yaj(h:0<x):bl x=(dg U x).length*64-(64-bl ((dg U x).getD ((dg U x).length-1) 0))/\bl ((dg U x).getD ((dg U x).length-1) 0)<=64/\0<(dg U x).length/\0<bl ((dg U x).getD ((dg U x).length-1) 0):=by
 have d:0<(dg U x).length:=by rw [Mp Qc,fU];omega
 have f:U^((dg U x).length-1)<=x:=(Mp Qc _ x).1 O;have g:=(Xq Qc _ x).1 (aF _);have e:x/U^((dg U x).length-1)<U:=by rw [bN (bZ Qj),bO,<-cH,show((dg U x).length-1).succ=(dg U x).length by omega];omega
 rw [Hs Qc,bH e,Zdz,Gk];have j:64*((dg U x).length-1)<bl x:=by simp_all [Zct,Zdz]
 have k:bl x<=64*(dg U x).length:=by simp_all [Qo,Zdz]
 refine⟨?_,?_,d,?_⟩<;>omega
theorem Zi0(x:Nat):(dg 256 x).length=(bl x+7)/8:=by
 have d:∀k,(dg 256 x).length<=k↔(bl x+7)/8<=k:=λk=>by rw [Xq O5,show 256^k=2^(8*k) by grind [Nat.pow_mul],<-Qo];omega
 have e:=(d _).1 (aF _);have f:=(d _).2 (aF _);omega
theorem lenU(x:Nat):(dg U x).length=((dg 256 x).length+7)/8:=by
 have d:∀k,(dg U x).length<=k↔((dg 256 x).length+7)/8<=k:=λk=>by rw [Xq Qc,Zxm,<-Xq O5];omega
 have e:=(d _).1 (aF _);have f:=(d _).2 (aF _);omega
theorem Zfy(d:xs.length=ys.length)(h:∀i,i<xs.length->xs.getD i 0=ys.getD i 0):xs=ys:=by grind [List.ext_getElem]
theorem Nj{α:Type}{o:List α}{j:Nat}{d z:α}(hi:i<o.length):(o.set i d).getD j z=if i=j then d else o.getD j z:=by grind
theorem Ic(n i:Nat):(List.replicate n 0).getD i 0=0:=by grind
theorem Zs7(x k:Nat):x/U^(k/8)%U/2^(k%8*8)%256=x/256^k%256:=by
 have g:=cM k 8;have d:U=256^(k%8)*256^(8-k%8):=by rw [<-bP,show k%8+(8-k%8)=8 by omega]
 have e:(2)^(k%8*8)=256^(k%8):=by grind [Nat.pow_mul,Nat.mul_comm]
 have f:x/U^(k/8)/256^(k%8)=x/256^k:=by grind [Nat.div_div_eq_div_mul,Zxm,Nat.pow_add]
 rw [e]
 conv=>lhs;rw [d]
 rw [Nat.mod_mul_right_div_self,<-d,f,show 8-k%8=(8-k%8-1)+1 by omega,cH,Nat.mod_mul_left_mod]
def hi(x m w:Nat):Nat:=x/256^m*256^m/U^w%U
theorem hi_ge(h:m<=8*w):hi x m w=x/U^w%U:=by unfold hi;rw [Zxm,show 8*w=m+(8*w-m) by omega,bP,<-aS,lZ _ (bZ O5),aS]
theorem hi_lt(h:8*w+8<=m):hi x m w=0:=by unfold hi;rw [Zxm,show m=8*w+(8+(m-8*w-8)) by omega,bP 256 _,bO (256^(8*w)),<-eC,lZ _ (bZ O5),bP 256 8];grind
theorem Yl1{r:Nat}(h:m=8*w+r)(d:r<=8):hi x m w=x/256^m*256^r%U:=by unfold hi;grind [Zxm,Nat.pow_add,Nat.mul_comm,Nat.mul_assoc,Nat.mul_div_cancel,Nat.pow_pos]
theorem Yr4(x k:Nat):hi x (k+1) (k/8) ||| (x/256^k%256*2^(k%8*8))%U=hi x k (k/8):=by
 have u:=cM k 8;rw [Yl1 (r:=k%8+1) O O,Yl1 (r:=k%8) O O];have f:(2:Nat)^(k%8*8)=256^(k%8):=by grind [Nat.pow_mul,Nat.mul_comm]
 rw [f];generalize k%8=r at *;have q:x/256^(k+1)=x/256^k/256:=by rw [cH,aS]
 rw [q];generalize x/256^k=z;have p:U=256^(r+1)*256^(7-r):=by rw [<-bP,show r+1+(7-r)=8 by omega]
 have d:z%256*256^r<256^(r+1):=by simp [cH,bO,lC,bZ,bG]
 have e:256^(r+1)<=U:=by simp_all [dG,bZ]
 rw [bH (dP d e)];have n:z/256*256^(r+1)%U=256^(r+1)*(z/256%256^(7-r)):=by grind [Nat.mul_comm,Nat.mul_mod_mul_left]
 rw [n];have g:(256)^(r+1)=2^(8*(r+1)):=O4;have Ej:=jG (b:=z%256*256^r) (i:=8*(r+1)) O (z/256%256^(7-r));rw [<-g]at Ej;have v:=(cM z 256).symm;have j:z*256^r=256^(r+1)*(z/256)+z%256*256^r:=by grind
 rw [j,p];have l:256^(r+1)*(z/256)+z%256*256^r=z%256*256^r+256^(r+1)*(z/256):=O;rw [l,mM,iH,bH d,Nat.add_mul_div_left _ _ (bZ O5),cS d,cD];omega
theorem Mo(x:Nat):(dg U x).length=(bl x+63)/64:=by
 have d:∀k,(dg U x).length<=k↔(bl x+63)/64<=k:=λk=>by rw [Xq Qc,Zdz,<-Qo];omega
 have e:=(d _).1 (aF _);have f:=(d _).2 (aF _);omega
theorem bl_add:bl (x+y)<=max (bl x) (bl y)+1:=by rw [Qo];have d:=Ac x;have e:=Ac y;have f:2^bl x<=2^max (bl x) (bl y):=cY O5 O;have g:2^bl y<=2^max (bl x) (bl y):=cY O5 O;omega
theorem Zn7(x y:Nat):bl (x*y)<=bl x+bl y:=by
 rw [Qo,bP]
 all_goals simp [fX,gV,bZ,gY,Ac,dC]
theorem Zka(b:Nat)(o:List Nat)(n p r:Nat)(d:p<o.length)(e:p<n):val b ((o.set p r).take n)+o.getD p 0*b^p=val b (o.take n)+r*b^p:=by
 induction n with
 | zero=>omega
 | succ n f=>
  rw [Qt b _ n,Qt b o n,Nj d];by_cases h:p=n
  .subst h;rw [aP rfl,Zoj];omega
  grind
theorem Yfm(f:x<U)(g:y<U)(d:a<U)(e:c<U) :
  ((x*y%U+a+0)%U+c+0)%U+U*(((x*y/U+(x*y%U+a+0)/U)%U+((x*y%U+a+0)%U+c+0)/U)%U)=x*y+a+c/\
  ((x*y/U+(x*y%U+a+0)/U)%U+((x*y%U+a+0)%U+c+0)/U)%U<U:=by
 have h:x*y<=18446744073709551615*18446744073709551615:=aQ O4 O4;grind
theorem Yk2  {k V r d n:Nat} (l:val U (o.take n)+c*U^(i+k)=V+xs.getD i 0*U^i*val U (ys.take k)) (f:i+k<o.length) (e:i+k<n)
  (j:r+U*d=xs.getD i 0*ys.getD k 0+o.getD (i+k) 0+c):val U ((o.set (i+k) r).take n)+d*U^(i+(k+1))=V+xs.getD i 0*U^i*val U (ys.take (k+1)):=by
 have g:=Zka U o n _ r f e;rw [Qt];grind
theorem Zjz  {N:Nat}  {env:Px} {H:Hp} {o:Oper} {x y:Operand}  {s:ByteArray}  {m:Int}  (g:o.op= .index t x y)
  (k:ev env x=some (.string s)) (l:ev env y=some (.int kd m)) (j:P.underlying t=some .string)
  (e:m=(i:Int)) (f:i<256) (hs:s.size=256) (d:∀i,i<256->(s.data.toList.getD i 0).toNat=bl i):Mr P N sc o env H (.int .u8 (bl i:Int)):=by
 grind [Yc5]
theorem Yk3  (z:x<U) (B:y<U) {hi q:Nat}
  (l:hi=(((x/4294967296)*(y/4294967296)%U+(((x/4294967296)*(y &&& 4294967295)%U+((x &&& 4294967295)*(y &&& 4294967295)%U)/4294967296)%U)/4294967296)%U +
   (((((x/4294967296)*(y &&& 4294967295)%U+((x &&& 4294967295)*(y &&& 4294967295)%U)/4294967296)%U &&& 4294967295)+(x &&& 4294967295)*(y/4294967296)%U)%U)/4294967296)%U)
  (v:q=x*y%U):hi=x*y/U:=by
 have p:=λn=>iZ n 32;subst l;simp only [p];have j:=cM x 4294967296;have k:=cM y 4294967296;have u:=bG x (show 4294967296>0 by simp);have r:=bG y (show 4294967296>0 by simp);have f:x/4294967296<=4294967295:=O4;have g:y/4294967296<=4294967295:=O4;generalize x/4294967296=a at *;generalize x%4294967296=b at *;generalize y/4294967296=c at *;generalize y%4294967296=d at *;subst j;subst k;have e:(4294967296*a+b)*(4294967296*c+d)=18446744073709551616*(a*c)+4294967296*(a*d)+4294967296*(b*c)+b*d:=by grind
 have D:=aQ f g;have F:a*d<=4294967295*4294967295:=aQ f O;have p3:b*c<=4294967295*4294967295:=aQ O g;have G:b*d<=4294967295*4294967295:=aQ O O;simp only [U];omega
def Zlb(m:Nat):bl (m%256)<=8:=(Qo 8 _).2 (bG _ O5)
theorem Zar:Lo ((bl (m%256):Nat):Int):=by have:=Zlb m;exact⟨O5,O⟩
theorem Cz{c:Int}(d:0<=c)(e:c<=1000):Lo (c+((bl (m%256):Nat):Int)):=by have:=Zlb m;exact⟨O,O⟩
theorem Zaq (n:Nat){c:Int}(d:m<256)(h:c+(bl m:Int)=(bl n:Int)):Value.int .i64 (c+((bl (m%256):Nat):Int))=Value.int .i64 (bl n:Int):=by grind
theorem Zr5{α:Type}{xs:List α}{d:α}(h:i<xs.length):xs.reverse.getD i d=xs.getD (xs.length-1-i) d:=by grind
theorem hi_top(h:(dg 256 x).length<=m):hi x m w=0:=by have:=(Xq O5 m x).1 h;unfold hi;grind [Nat.div_eq_of_lt]
theorem Yl0{k:Nat}(h:k/8≠w):hi x (k+1) w=hi x k w:=by grind [hi_ge,hi_lt]
set_option maxRecDepth 20000
def Yot:U=2^64:=rfl
theorem Ykj(d:b<2^s):a*2^s ||| b=a*2^s+b:=by rw [bO,jG d]
theorem Zf0{l:Nat}(hs:s<=64)(d:l<U):l/2^(64-s)<2^s:=by rw [bN (dH _),<-bP,show s+(64-s)=64 by omega];omega
theorem Zjt{l:Nat}(hs:s<=64):l*2^s/U=l/2^(64-s):=by rw [Yot,show(2)^64=2^(64-s)*2^s by rw [<-bP,show 64-s+s=64 by omega],kV _ _ (dH s)]
theorem Yki{l:Nat}(hs:s<=64)(d:h*2^s<U)(e:l<U):(h*2^s%U) ||| (l/2^(64-s))=(h*U+l)*2^s/U:=by rw [bH d,Ykj (Zf0 hs e),cL,show h*U*2^s=U*(h*2^s) by grind,Nat.mul_add_div Qj,Zjt hs]
theorem Yfo(h l s:Nat):l*2^s%U=(h*U+l)*2^s%U:=by grind
def Zxi(x:Nat):x &&& 4294967295=x%4294967296:=iZ x 32
def dvI(u v d e q r:Nat):Prop:=q*d+r=u/\q<=4294967297/\(u*4294967296+v)/(d*4294967296+e)<=q
section
variable {u v y1 y0 q r:Nat}
theorem dv_Q(e:v<4294967296)(d:u<y1*4294967296+y0):(u*4294967296+v)/(y1*4294967296+y0)<4294967296:=by rw [bN O];omega
theorem dv0(f:2147483648<=y1)(g:y1<4294967296)(e:y0<4294967296)(n:v<4294967296)(l:u<y1*4294967296+y0):dvI u v y1 y0 (u/y1) (u%y1):=by
 refine⟨by grind [Nat.mul_comm,Nat.div_add_mod],?_,?_⟩
 .rw [<-Nat.lt_succ_iff,bN O];omega
 .have d:0<y1*4294967296+y0:=O;refine mI ((bN d).2 ?_);have j:=cM u y1;have k:=bG u (show 0<y1 by omega);grind
theorem dv_mul(hi:q*y1+r=u):q*(y1*4294967296+y0)+r*4294967296=u*4294967296+q*y0:=by grind
theorem Zsr(j:0<y1)(hi:dvI u v y1 y0 q r)(d:q*y0<=4294967296*r+v):q=(u*4294967296+v)/(y1*4294967296+y0):=by obtain⟨e,f,g⟩:=hi;grind [Nat.le_antisymm,Nat.le_div_iff_mul_le,dv_mul]
theorem Zk4(z:0<y1)(hi:dvI u v y1 y0 q r)(j:v<4294967296)(g:u<y1*4294967296+y0)(e:4294967296<=q\/4294967296*r+v<q*y0) :
  1<=q/\dvI u v y1 y0 (q-1) (r+y1):=by
 obtain⟨k,l,n⟩:=hi;have d:(u*4294967296+v)/(y1*4294967296+y0)<q:=by
  rcases e with e|e
  .exact dP (dv_Q j g) e
  .rw [bN O];grind
 have f:=aV (aX _) d;refine⟨f,?_,O,Nat.le_sub_one_of_lt d⟩;obtain⟨p,rfl⟩:∃p,q=p+1:=⟨q-1,O⟩;grind
theorem Zhm(d:0<y1)(f:y0<4294967296)(hi:dvI u v y1 y0 q r)(e:q<=4294967296)(j:4294967296<=r):q=(u*4294967296+v)/(y1*4294967296+y0):=by refine Zsr d hi ?_;have g:q*y0<=4294967296*y0:=aM _ e;omega
theorem Zvn(f:q<4294967296)(d:y0<4294967296):q*y0<18446744073709551616:=by have e:q*y0<=4294967295*y0:=aM _ O;omega
end
theorem wsub(e:a%U=c%U)(f:b%U=m%U)(g:m<=c)(d:c-m<U):(a+(U-b%U))%U=c-m:=by grind
theorem Ycv{u v:Nat}(d:0<y)(g:y<U):((u*4294967296%U+v)%U+(U-((u*4294967296+v)/y*y)%U))%U=(u*4294967296+v)%y:=by have e:=cM (u*4294967296+v) y;have f:=bG (u*4294967296+v) d;grind
theorem Ysr{A D:Nat}(g:0<y)(d:D=A*4294967296+b):D/y=A/y*4294967296+(A%y*4294967296+b)/y/\D%y=(A%y*4294967296+b)%y:=by
 have e:=cM A y;have f:D=y*(A/y*4294967296)+(A%y*4294967296+b):=by grind
 grind [Nat.mul_add_div,Nat.mul_add_mod]
def dv_two{D u v d e:Nat}(f:0<y)(k:u=D/U)(l:v=D%U)(j:d=v/4294967296)(g:e=v%4294967296) :
  D/y=(u*4294967296+d)/y*4294967296+((u*4294967296+d)%y*4294967296+e)/y/\D%y=((u*4294967296+d)%y*4294967296+e)%y:=
 Ysr f O4
def Zo9(n y s:Nat):n*2^s/(y*2^s)=n/y:=kV _ _ (dH s)
theorem Zo8(n y s:Nat):n*2^s%(y*2^s)/2^s=n%y:=by grind [Nat.mul_mod_mul_right,Nat.mul_div_cancel,Nat.two_pow_pos]
theorem Ykw(f:0<y)(g:y<U)(hs:s=64-bl y):9223372036854775808<=y*2^s/\y*2^s<U:=by
 have j:=(Qo 64 y).2 g;have d:=Ac y;have e:=(Zs9 f).1;have k:(2)^bl y*2^s=U:=by rw [<-bP,show bl y+s=64 by omega]
 have l:=dJ d (dH s);have n:2^(bl y-1)*2^s<=y*2^s:=aM _ e;have p:2^(bl y-1)*2^s=9223372036854775808:=by
  have:1<=bl y:=by grind
  rw [<-bP,show bl y-1+s=63 by omega]
 omega
theorem rsub{u:Nat}(d:0<y)(e:u<U):(u+(U-(u/y*y)%U))%U=u%y:=by grind [Nat.div_add_mod,Nat.mul_comm,wsub]
def Zbz{n:Nat}(h:m=n):Value.int .u64 (m:Int)= .int .u64 (n:Int):=O4
def Zcg{m n:Int}(h:m=n):Value.int .i64 m= .int .i64 n:=O4
theorem Zwv(d:1<=a)(h:a<U):(a+(U-1))%U=a-1:=by grind
def shl_lt(e:h<y)(d:y*2^s<U):h*2^s<U:=aV (aM _ (dC e)) d
theorem top_lt{l:Nat}(f:l<U)(e:h<y):(h*U+l)*2^s/U<y*2^s:=by rw [bN Qj];have d:h*U+l<y*U:=O4;rw [jL];simp_all [dJ,dH]
end Go.Sky
namespace Go.Sky
set_option maxRecDepth 20000
variable{b r w i D:Nat}{s t:Bool}{x y:Int}{o R ys:List Nat}{xs p:List Int}{v:Value}{f:FuncId}{args:Array Value}{pre:List Pc}
theorem Zrj{a s:Nat}(c:b<2^s):b ||| a*2^s=a*2^s+b:=by rw [Nat.or_comm,Ykj c]
theorem Zgp{Y t:Nat}(a:t<=64):Y*2^t%U=Y%2^(64-t)*2^t:=by rw [Yot,show(2:Nat)^64=2^(64-t)*2^t by rw [<-bP,show 64-t+t=64 by omega],Nat.mul_mod_mul_right]
theorem Znp(c:b<=64)(a:r<U):r/2^b<2^(64-b):=by have:=Zf0 (l:=r) (s:=64-b) O a;rwa [show 64-(64-b)=b by omega]at this
theorem Zuc(Y b:Nat)(a:b<=64):Y%U/2^b ||| (Y/U%U)*2^(64-b)%U=Y/2^b%U:=by
 have e:Y%U<U:=bG _ Qj;rw [Zgp O,Zrj (Znp a e),show 64-(64-b)=b by omega];have g:Y/U%U%2^b=Y/U%2^b:=by rw [Yot];exact Nat.mod_mod_of_dvd _ (Nat.pow_dvd_pow 2 a)
 rw [g];have c:U=2^b*2^(64-b):=by rw [<-bP,show b+(64-b)=64 by omega]
 have h:=cM Y U;have j:Y/2^b=2^(64-b)*(Y/U)+Y%U/2^b:=by
  conv=>lhs;rw [<-h]
  conv=>lhs;rw [show U*(Y/U)=2^b*(2^(64-b)*(Y/U)) by rw [<-eC,<-c]]
  rw [gI (dH b)]
 rw [j];have d:=Znp a e;generalize Y/U=q at *;generalize Y%U=r at *
 conv=>rhs;rw [c,bO (2^b)]
 rw [mM,gI (dH _),iO,bH d,cS d,eJ,fY,bO]
theorem Yeu{Y:Nat}(c:b<=64)(a:Y/U=0):Y%U/2^b=Y/2^b%U:=by have:=Zuc Y b c;rw [a]at this;simpa using this
theorem Ygb{α:Type}(xs:List α)(w j:Nat)(d:α):(xs.drop w).getD j d=xs.getD (w+j) d:=by simp [List.getD,List.getElem?_drop]
theorem Zbb{x s:Nat}(c:w=s/64)(a:b=s%64):x/2^s=x/U^w/2^b:=by rw [Zdz,aS,<-bP,show 64*w+b=s by omega]
theorem Zwp(x b i:Nat):x/2^b/U^i=x/U^i/2^b:=by rw [aS,bO,<-aS]
theorem Ycy(x w j:Nat):((dg U x).drop w).getD j 0=x/U^w/U^j%U:=by rw [Ygb,Hs Qc,bP,aS]
theorem Yb4{x n:Nat}(h:(dg U x).length<=w+n):x/U^w<U^n:=by rw [bN (bZ Qj),<-bP,fY];exact(Xq Qc _ _).1 h
theorem drop_set{α:Type}{o:List α}{k:Nat}{d:α}(h:k<o.length):(o.set k d).drop k=d::o.drop (k+1):=by rw [List.drop_set,aJ O,fZ,eE h];rfl
theorem Zdj{α:Type}(z:α)(o:List α)(k:Nat)(h:k<o.length):o.drop k=o.getD k z::o.drop (k+1):=by rw [eE h];simp [List.getD,aL h]
theorem Zxu{xs:List Nat}{d k:Nat}(h:0<d)(j:k+1<=o.length)(l:k+1<=xs.length)(a:val U (o.drop (k+1))*d+r=val U (xs.drop (k+1))) :
  val U ((o.set k ((r*U+xs.getD k 0)/d)).drop k)*d+(r*U+xs.getD k 0)%d=val U (xs.drop k):=by
 rw [drop_set O,Zdj 0 xs k O];simp only [val];have c:=cM (r*U+xs.getD k 0) d;rw [<-a];generalize (r*U+xs.getD k 0)/d=q at *;generalize (r*U+xs.getD k 0)%d=m at *;generalize val U (o.drop (k+1))=V at *;rw [cL,Nat.mul_add,bO q d];have e:U*V*d=U*(V*d):=eC _ _ _;have g:U*r=r*U:=bO _ _;omega
theorem Yia {xs:List Nat} {n:Nat} (k:b<=63) (l:n=o.length) (m:w+i+1<n) (d:o.getD (w+i) 0<2^b) (j:o.getD (w+i+1) 0=0) (q:xs.getD i 0<U)
  (h:val U (o.take n)=val U (xs.take i)*2^b*U^w) :
  val U (((o.set (w+i) (o.getD (w+i) 0 ||| xs.getD i 0*2^b%U)).set (w+i+1) (xs.getD i 0/2^(64-b))).take n)=val U (xs.take (i+1))*2^b*U^w:=by
 have a:=Zka U (o.set (w+i) (o.getD (w+i) 0 ||| xs.getD i 0*2^b%U)) n (w+i+1) (xs.getD i 0/2^(64-b)) O8 O;have c:=Zka U o n (w+i) (o.getD (w+i) 0 ||| xs.getD i 0*2^b%U) O O;rw [Nj O,aJ O,j]at a;rw [Zgp O,Zrj d,<-Zgp O]at c ;rw [Zgp O,Zrj d,<-Zgp O]at a ⊢;rw [<-Zjt (by omega:b<=64)]at a ⊢;rw [Qt];generalize xs.getD i 0=X at *;generalize o.getD (w+i) 0=C at *;have e:X*2^b*U^(w+i)=(X*2^b%U)*U^(w+i)+X*2^b/U*U^(w+i+1):=by
  conv=>lhs;rw [<-cM (X*2^b) U]
  rw [cL,cH U (w+i),bO U,eC (X*2^b/U),bO U];omega
 have g:(val U (xs.take i)+X*U^i)*2^b*U^w=val U (xs.take i)*2^b*U^w+X*2^b*U^(w+i):=by rw [cL,cL,bP];congr 1;rw [jL X,eC,eC,bO (U^i)];simp only [eC]
 rw [g,<-h,e];rw [cL]at c;omega
theorem Zol(o:List Nat)(j:Nat)(h:o.getD j 0=0):o.set j 0=o:=by
 rcases bA j o.length with a|a
 .refine Zfy O5 (λi _=>?_);rw [Nj a];split
  .rename_i e;rw [<-e,h]
  .rfl
 .exact List.set_eq_of_length_le a
theorem Zwm{d n:Nat}(c:n<U)(a:r<d):(r*U+n)/d<U:=by rw [bN O];have:(r+1)*U<=d*U:=aM _ a;rw [bO U];rw [cL]at this;omega
theorem Zid{n:Nat}(h:n<U):tz [n]=dg U n:=by rw [<-Kr Qc [n] O4];rfl
theorem Ze1{N:Nat}{sc:Nat->Prop}{env:Px}{H:Hp}{α:Type}{k:Nat}{e:TypeId}{enc:α->Value}{xs ys:List α}(i:Nat)(h:xs=ys)(hi:lk H i=some (Oe k e enc v xs))(c:Nat.beq i 0=false) :
  ∀a w,Sat N sc env H a w->Sat N sc env ((i,Oe k e enc v ys)::H) a w:=by
 grind [Zqs]
theorem Zoh(R:List Nat)(j:Nat)(a:j<=R.length):val U R=val U (R.take j)+U^j*val U (R.drop j):=by grind [Me,List.take_append_drop,List.length_take,Nat.min_eq_left]
theorem Zlk(a:∀d∈R,d<U)(j:Nat)(e:j<=R.length):val U (R.take j)=val U R%U^j/\val U (R.drop j)=val U R/U^j:=by have g:=Zoh R j e;have h:=Zib Qj (R.take j) (λd c=>a d (eR c));have k:0<U^j:=bZ Qj;simp_all [fY,iO,bH,gI,cS,eJ]
theorem Zgb(a:∀d∈R,d<U){n:Nat}(c:n<=R.length)(h:val U R<U^n):val U (R.drop n)=0/\val U (R.take n)=val U R:=by grind [Zlk,Nat.mod_eq_of_lt,Nat.div_eq_of_lt]
theorem Yo8(c:∀d∈R,d<U){j n:Nat}(g:j+n<=R.length)(h:val U R<U^(j+n)):tz ((R.drop j).take n)=dg U (val U R/U^j):=by have a:∀d∈R.drop j,d<U:=λd a=>c d (lD a);rw [<-(Zlk c j O).2,<-Kr Qc _ (λd e=>a d (eR e))];congr 1;refine(Zgb a O4 ?_).2;rw [(Zlk c j O).2,bN (bZ Qj),<-bP,fY];omega
theorem Zti(e:∀d∈R,d<U)(g:∀d∈ys,d<U)(c:Nat):∀d∈spl R c ys,d<U:=λd a=>by simp only [spl,cW]at a;grind
theorem Ztv(L:Nat)(ys:List Nat):val U (spl (List.replicate L 0) 0 ys)=val U ys:=by simp [spl,Me,lJ,Fd]
theorem Ype(a:∀d∈R,d<U){j n:Nat}(g:j+n<=R.length)(h:val U R<U^(j+n))(k:ys.length<=n) :
  val U (spl (spl R j (List.replicate n 0)) j ys)=val U R%U^j+U^j*val U ys:=by
 have c:(spl R j (List.replicate n 0)).take j=R.take j:=by simp only [spl,gU];grind
 have e:(spl R j (List.replicate n 0)).drop (j+ys.length)=List.replicate (n-ys.length) 0 ++ R.drop (j+n):=by simp only [spl,gU,aU];rw [<-List.drop_drop,List.drop_left' O4,List.drop_append_of_le_length O4,lJ]
 rw [spl,c,e,Me,Me,Me,Fd,(Zgb a g h).1,(Zlk a j O).1,cQ,dK O];rfl
theorem Yra{y k:Nat}(d:0<y)(j:k=(dg U y).length)(B:b=64-bl ((dg U y).getD (k-1) 0)):(dg U (y*2^b)).length=k/\2^b*U^k<=y*2^b*U*2^b/\1<=k/\y*2^b<U^k/\b<=63/\U^(k-1)*9223372036854775808<=y*2^b:=by
 obtain⟨l,m,g,n⟩:=Yaj d;rw [<-j]at l m g n;obtain⟨q,u⟩:=Zs9 d;have z:=Ac y;have e:bl y+b=64*k:=O;have a:y*2^b<U^k:=by rw [Zdz,<-e,bP];simp_all [dJ,dH]
 have c:U^(k-1)*9223372036854775808<=y*2^b:=by
  have:U^(k-1)*9223372036854775808=2^(bl y-1)*2^b:=by rw [Zdz,<-bP,show 9223372036854775808=2^63 from rfl,<-bP];grind
  simp_all [aM]
 have h:U^k=U^(k-1)*U:=by simp_all [cH]
 refine⟨?_,?_,g,a,O,c⟩
 .refine gF ((Xq Qc _ _).2 a) ?_;have:=(Mp Qc _ _).2 (aB (dG _ O5) c);omega
 .rw [h,bO _];refine aM _ ?_;grind
theorem Yl2{W k w1 a t:Nat}(d:t*U^k<=D)(g:0<t)(c:W/U^k=w1*U+a):W/D<=(w1*U+a)/t:=by have e:0<U^k:=bZ Qj;rw [<-c,aS,bO];simp_all [lK,gV]
theorem Ypk(c:∀d∈R,d<U){j k:Nat}(m:1<=k)(h:val U R<U^(j+k+1))(n:j+k+1<=R.length):val U R/U^j/U^(k-1)=R.getD (j+k) 0*U+R.getD (j+k-1) 0:=by
 have e:∀i,R.getD i 0=val U R/U^i%U:=λi=>by
  rcases bA i R.length with hi|hi
  .have a:=(Zlk c i O).2;rw [Zdj 0 R i hi]at a;simp only [val]at a;rw [<-a,iH,bH (Qb Qj c i)]
  .rw [show R.getD i 0=0 by grind,Nat.div_eq_of_lt (Nat.lt_of_lt_of_le (Zib Qj R c) (Nat.pow_le_pow_right Qj hi))];rfl
 rw [aS,<-bP];have g:val U R/U^(j+k)<U:=by simp_all [bN,bZ,Qj,lS,fY]
 have l:val U R/U^(j+k)=val U R/U^(j+k-1)/U:=by rw [aS,<-cH];grind
 grind
theorem Ym1{x k lx:Nat}(e:x<U^lx)(c:b<=63)(m:1<=k)(d:k<=lx+1)(a:U^(k-1)*9223372036854775808<=D):x*2^b<D*U^(lx+1-k):=by
 have g:=dJ e (dH b);have h:U^lx*2^b<=U^lx*9223372036854775808:=aZ _ (by exact cY O5 c)
 have j:U^lx*9223372036854775808=U^(k-1)*9223372036854775808*U^(lx+1-k):=by rw [jL,<-bP];grind
 have l:U^(k-1)*9223372036854775808*U^(lx+1-k)<=D*U^(lx+1-k):=aM _ a;omega
theorem Ymz{V j Q Vq N:Nat}(c:0<D)(n:Q=V/U^j/D)(m:Vq*U^(j+1)*D+V=N) :
  V%U^j+U^j*(V/U^j-D*Q)<D*U^j/\(Q+U*Vq)*U^j*D+(V%U^j+U^j*(V/U^j-D*Q))=N:=by
 have d:0<U^j:=bZ Qj;have e:=bG V d;have g:=cM V (U^j);have h:=cM (V/U^j) D;have a:=bG (V/U^j) c;have k:V/U^j-D*Q=V/U^j%D:=O4;constructor
 .have l:U^j*(V/U^j%D+1)<=U^j*D:=aZ _ a;grind
 grind
def sg(s:Bool)(x:Int):Prop:=(s=true->x<=0)/\(s=false->0<=x)
theorem Yie(h:sg s x):sg (!s) (-x):=by cases s<;>simp [sg]at*<;>omega
theorem Yif(hs:sg s x)(a:sg t y):sg (s != t) (x*y):=by
 cases s<;>cases t<;>simp [sg]at *
 all_goals simp_all [cP,eY,eZ,Int.mul_nonneg_of_nonpos_of_nonpos]
theorem Yet(h:(((dg U x.natAbs).length:Nat):Int)=0):Value.int .i64 x.sign= .int .i64 0:=by have a:=(Ok Qc x.natAbs).1 O;grind
theorem Yh9(hs:sg s x)(a:s=true)(h:¬(((dg U x.natAbs).length:Nat):Int)=0):Value.int .i64 x.sign= .int .i64 (-1):=by have c:=λe=>h (by rw [(Ok Qc _).2 e];rfl);have d:=hs.1 a;grind
theorem Yh8(hs:sg s x)(a:s=false)(h:¬(((dg U x.natAbs).length:Nat):Int)=0):Value.int .i64 x.sign= .int .i64 1:=by have c:=λe=>h (by rw [(Ok Qc _).2 e];rfl);have d:=hs.2 a;grind
theorem Yap(hs:sg s x)(a:sg s y):sg s (x+y):=by cases s<;>simp [sg]at*<;>omega
theorem Zh8(hs:sg s x)(a:sg s y):(x+y).natAbs=x.natAbs+y.natAbs:=by cases s<;>simp [sg]at*<;>omega
theorem Zke(hs:sg s x)(c:sg t y)(h:s≠t)(a:y.natAbs<=x.natAbs):sg s (x+y):=by cases s<;>cases t<;>simp [sg]at*<;>omega
theorem Zbv(hs:sg s x)(c:sg t y)(h:s≠t)(a:y.natAbs<=x.natAbs):(x+y).natAbs=x.natAbs-y.natAbs:=by cases s<;>cases t<;>simp [sg]at*<;>omega
abbrev wv (x:Int):Value:= .agg #[.bool (decide (x<0)),.string (Qy x.natAbs)]
def Zbr(x:Int):Int:=if 65536<bl x.natAbs then 0 else x
def Zj5(x:Int):Int:=if 65536<bl x.natAbs then 7 else 0
theorem Yte:bl (Zbr x).natAbs<=65536:=by
 unfold Zbr;split
 .decide
 omega
theorem Ht(h:bl x.natAbs<=65536):Zbr x=x:=by unfold Zbr;omega
theorem Zr9(h:bl x.natAbs<=65536):Zj5 x=0:=by unfold Zj5;omega
theorem Ytd(h:65536<bl x.natAbs):Zbr x=0:=by unfold Zbr;omega
theorem Ysb(h:65536<bl x.natAbs):Zj5 x=7:=by unfold Zj5;omega
abbrev Zex (x:Int):Value:= .tuple #[wv (Zbr x),.int .i64 (Zj5 x)]
theorem Yef(h:((65536:Int)<((bl x.natAbs:Nat):Int))):Zex x= .tuple #[.agg #[.bool false,.string ⟨#[]⟩],.int .i64 7]:=by unfold Zex;rw [Ytd O,Ysb O];rfl
theorem Zz6(h:¬((65536:Int)<((bl x.natAbs:Nat):Int))):Zex x= .tuple #[wv x,.int .i64 0]:=by grind [Ht,Zr9]
theorem Ztp(hs:sg false x)(h:¬((65536:Int)<((bl x.natAbs:Nat):Int))):Zex x= .tuple #[.agg #[.bool false,.string (Qy x.natAbs)],.int .i64 0]:=by rw [Zz6 h,wv,aE (by have:=hs.2 rfl;omega)]
theorem Zto(hs:sg true x)(h:¬((65536:Int)<((bl x.natAbs:Nat):Int))):Zex x= .tuple #[.agg #[.bool (decide ((0:Int)<(((dg U x.natAbs).length:Nat):Int))),.string (Qy x.natAbs)],.int .i64 0]:=by have a:=hs.1 rfl;have c:=Ok Qc x.natAbs;rw [Zz6 h,wv,show decide _=decide ((0:Int)<(((dg U x.natAbs).length)))from bB.2 ⟨λh=>O,λh=>O⟩]
theorem Zep{q r:Int}(c:y≠0)(h:x=y*q+r)(j:0<=r)(k:r<(y.natAbs:Int)):x/y=q/\x%y=r:=by
 have e:=Int.mul_ediv_add_emod x y;have d:=kS x c;have g:=Int.emod_lt x c;have m:x/y=q:=by
  have l:y*(x/y-q)=r-x%y:=O4;have a:(y*(x/y-q)).natAbs<y.natAbs:=O;rw [cE]at a;rcases bD (x/y-q).natAbs with h|h
  .omega
  .exact absurd (dG y.natAbs h) O
 grind
theorem Zxy(h:sg s x):x=if s then -(x.natAbs:Int)else(x.natAbs:Int):=by cases s<;>simp [sg]at*<;>omega
theorem Yc0(hs:sg s x)(c:sg t y)(d:y≠0){Q R:Nat}(g:R<y.natAbs)(h:x=(if s then -1 else 1)*((y.natAbs:Int)*Q)+R) :
  sg (s != t) (x/y)/\(x/y).natAbs=Q/\(x%y).natAbs=R:=by
 have e:=Zxy c;have a:x/y=(if s != t then -(Q:Int)else Q)/\x%y=R:=by refine Zep d ?_ O5 O;grind
 rw [a.1,a.2];cases s<;>cases t<;>simp [sg]
theorem divB(hs:sg s x)(g:sg t y)(h:y≠0)(d:s=false\/x.natAbs%y.natAbs=0):sg (s != t) (x/y)/\(x/y).natAbs=x.natAbs/y.natAbs/\(x%y).natAbs=x.natAbs%y.natAbs:=by
 have j:=Zxy hs;have e:=cM x.natAbs y.natAbs;refine Yc0 hs g h (bG _ O) ?_;have a:((y.natAbs:Int)*((x.natAbs/y.natAbs:Nat)))+((x.natAbs%y.natAbs:Nat))=x.natAbs:=O;rcases d with rfl|c
 .grind
 .rw [c]at a ⊢
  all_goals grind
theorem divA(hs:sg true x)(a:sg t y)(c:y≠0)(d:0<x.natAbs%y.natAbs):sg (true != t) (x/y)/\(x/y).natAbs=x.natAbs/y.natAbs+1/\(x%y).natAbs=y.natAbs-x.natAbs%y.natAbs:=by have h:=Zxy hs;have e:=cM x.natAbs y.natAbs;have g:=bG x.natAbs (show 0<y.natAbs by omega);refine Yc0 hs a c O ?_;grind
def okW(b:Bool)(s:ByteArray):Bool:=if s.size=0 then !b else decide ((s.data.toList.getD 0 0).toNat≠0) && decide (s.size<=8192)
theorem bl256{n k:Nat} : (dg 256 n).length<=k↔bl n<=8*k:=by grind [Zi0]
theorem Zft(h:bl x.natAbs<=65536):okW (decide (x<0)) (Qy x.natAbs)=true:=by
 unfold okW;rw [Ei];split
 .grind [Ok]
 .have c:0<x.natAbs:=by grind [Nat.eq_zero_or_pos,Gv]
  have d:=Zn2 x.natAbs 0 O;have a:=dg_top (by simp:2<=256) c;rw [Hs O5]at a;simp_all [bl256,aY,aH]
theorem Zqb{a b:ByteArray}(h:a.data.toList=b.data.toList):a=b:=by cases a;simp_all
theorem Yts{s:ByteArray}(e:s.size≠0)(h:(s.data.toList.getD 0 0).toNat≠0):s=Qy (val 256 (s.data.toList.reverse.map UInt8.toNat)):=by
 have a:∀d∈s.data.toList.reverse.map UInt8.toNat,d<256:=λd c=>by obtain⟨u,_,rfl⟩:=eK.1 c;exact u.toNat_lt
 unfold Qy;rw [Kr O5 _ a,tz_eq]
 .simp [List.map_reverse,Function.comp_def]
 grind
theorem Zrk{b:Bool}{s:ByteArray}(h:okW b s=true):∃x:Int,bl x.natAbs<=65536/\b=decide (x<0)/\s=Qy x.natAbs:=by
 unfold okW at h;split at h
 .rename_i a;refine⟨0,O3,?_,?_⟩
  .all_goals grind
  .refine Zqb ?_;have:=a;rw [aC this];rfl
 .rename_i a;rw [aY]at h;have c:=bW h.1;have hs:=Yts a c;generalize val 256 _=n at hs;have e:(dg 256 n).length=s.size:=by grind [Ei]
  have g:0<n:=by grind [Nat.eq_zero_or_pos,Gv]
  have d:bl n<=65536:=by grind [bl256]
  cases b with
  | true=>exact⟨-(n),O4,O4,O4⟩
  | false=>exact⟨n,O4,by rfl,O4⟩
def eqW(a:Bool)(s:ByteArray)(b:Bool)(t:ByteArray):Bool:=(a == b) && (s.toList == t.toList)
theorem wv_inj(h:decide (x<0)=decide (y<0))(a:Qy x.natAbs=Qy y.natAbs):x=y:=by
 have e:x.natAbs=y.natAbs:=by
  have g:(dg 256 x.natAbs).reverse.map UInt8.ofNat=(dg 256 y.natAbs).reverse.map UInt8.ofNat:=by have:=aD (λb=>b.data.toList) a;assumption
  have j:∀n,((dg 256 n).reverse.map UInt8.ofNat).map UInt8.toNat=(dg 256 n).reverse:=λn=>by
   rw [kJ]
   conv=>rhs;rw [<-mN (dg 256 n).reverse]
   refine lL λd c=>?_;have:=Nx O5 n d (List.mem_reverse.1 c);simp_all
  grind [Zi7,List.reverse_inj]
 grind
theorem Ysg{a b:Bool}{s t:ByteArray} : eqW a s b t=true↔a=b/\s=t:=by unfold eqW;rw [ByteArray.toList_eq,ByteArray.toList_eq];grind [Zqb]
theorem Ymq(x y:Int):eqW (decide (x<0)) (Qy x.natAbs) (decide (y<0)) (Qy y.natAbs)=decide (x=y):=by rw [Bool.eq_iff_iff,Ysg];grind [wv_inj]
theorem Qs(x:Int):sg (decide (x<0)) x:=by unfold sg;grind
theorem He(x y:Int):bl (x+y).natAbs<=max (bl x.natAbs) (bl y.natAbs)+1:=
 aB (Oh (Int.natAbs_add_le x y)) bl_add
theorem Yu(x y:Int):bl (x*y).natAbs<=bl x.natAbs+bl y.natAbs:=by grind [Int.natAbs_mul,Zn7]
theorem Ad(x y:Int):bl (x-y).natAbs<=max (bl x.natAbs) (bl y.natAbs)+1:=by grind [He,Int.natAbs_neg,Int.sub_eq_add_neg]
def Zn6(x:Int):bl (-x).natAbs=bl x.natAbs:=O5
theorem Zld(x y:Int):bl (x/y).natAbs<=bl x.natAbs+1:=by have h:=iI x y;have:=Oh h;omega
theorem Ztb(x y:Int)(a:y≠0):bl (x%y).natAbs<=bl y.natAbs:=by have c:=kS x a;have d:=Int.emod_lt x a;exact Oh O
theorem Ztc(x y:Nat):bl (Nat.gcd x y)<=max (bl x) (bl y):=by
 rcases bD x with h|h
 .grind
 .have:=Oh (kB h (Nat.gcd_dvd_left x y));omega
def Yp1(x:Int)(h:y≠0):sg false (x%y):=⟨λa=>Bool.noConfusion a,λ_=>kS x h⟩
def Kl(x y:Int):Int:=if y<0 then -(Int.gcd x y:Int)else(Int.gcd x y:Int)
theorem Zhb(x y:Int):(Kl x y).natAbs=Nat.gcd x.natAbs y.natAbs:=by unfold Kl;split<;>simp [Int.gcd]
theorem Yro(h:y≠0):Kl x y≠0:=λe=>by grind [Zhb,Nat.gcd_eq_zero_iff]
theorem Ypz(a:sg t y)(c:y≠0):sg t (Kl x y):=by unfold Kl sg at *;grind
theorem Yb3(x y:Int):Dj v (Nat.gcd x.natAbs y.natAbs)=Dj v (Kl x y).natAbs:=by rw [Zhb]
def Hh(x y:Int):Prop:=65536<bl (x/Kl x y).natAbs\/65536<bl (y/Kl x y).natAbs
instance (x y:Int):Decidable (Hh x y):=by unfold Hh;infer_instance
def Av(x y:Int):Int:=if Hh x y then 0 else x/Kl x y
def Du(x y:Int):Int:=if Hh x y then 0 else y/Kl x y
def Yjb(x y:Int):Int:=if Hh x y then 7 else 0
abbrev Zb5 (x y:Int):Value:= .tuple #[.agg #[.bool (decide (Av x y<0)),.string (Qy (Av x y).natAbs),.bool (decide (Du x y<0)),.string (Qy (Du x y).natAbs)],.int .i64 (Yjb x y)]
theorem Zb4(h:Hh x y):Zb5 x y= .tuple #[.agg #[.bool false,.string ⟨#[]⟩,.bool false,.string ⟨#[]⟩],.int .i64 7]:=by unfold Zb5 Av Du Yjb;rw [aP h,aP h,aP h];rfl
theorem Zas(h:Zj5 x≠0):65536<bl x.natAbs:=by unfold Zj5 at h;omega
theorem Zsa(h:Zj5 x=0):bl x.natAbs<=65536:=by unfold Zj5 at h;omega
theorem Zuy(a:Zj5 (x/Kl x y)=0)(c:Zj5 (y/Kl x y)=0):Zb5 x y= .tuple #[.agg #[.bool (decide (Zbr (x/Kl x y)<0)),.string (Qy (Zbr (x/Kl x y)).natAbs),.bool (decide (Zbr (y/Kl x y)<0)),.string (Qy (Zbr (y/Kl x y)).natAbs)],.int .i64 0]:=by
 have d:¬Hh x y:=λh=>by have:=Zsa a;have:=Zsa c;unfold Hh at h;omega
 unfold Zb5 Av Du Yjb;simp_all [aJ,Ht,Zsa]
def okR(b:Bool)(s:ByteArray)(c:Bool)(t:ByteArray):Bool:=okW b s && okW c t && (!c && decide (0<t.size))
theorem Zrc(z:Int):(!decide (z<0) && decide (0<(Qy z.natAbs).size))=decide (0<z):=by rw [Ei];grind [Ok,Bool.not_eq_true',decide_eq_false_iff_not]
theorem Eo(z:Int):decide (0<z.sign)=decide (0<z):=by simp
theorem Zvj{b:Bool}{s:ByteArray}{z:Int}(a:okW b s=true)(c:bl z.natAbs<=65536):okR b s (decide (z<0)) (Qy z.natAbs)=decide (0<z.sign):=by unfold okR;grind [Zft,Zrc,Eo]
theorem okR_wv(c:bl x.natAbs<=65536)(d:bl y.natAbs<=65536)(a:0<y):okR (decide (x<0)) (Qy x.natAbs) (decide (y<0)) (Qy y.natAbs)=true:=by unfold okR;grind [Zft,Zrc]
theorem Yko{b c:Bool}{s t:ByteArray}(h:okR b s c t=true):∃x y:Int,bl x.natAbs<=65536/\bl y.natAbs<=65536/\0<y/\b=decide (x<0)/\s=Qy x.natAbs/\c=decide (y<0)/\t=Qy y.natAbs:=by unfold okR at h;rw [aY,aY]at h;obtain⟨⟨a,d⟩,e⟩:=h;obtain⟨x,g,rfl,rfl⟩:=Zrk a;obtain⟨y,j,rfl,rfl⟩:=Zrk d;rw [Zrc]at e;grind
open Go.RowKit Below
def Sz(n:Nat)(p:List Int):Prop:=∀i,bl (cf p i).natAbs<=n
def Sz.getD{n:Nat}(h:Sz n p)(i:Nat):bl (p.getD i 0).natAbs<=n:=h i
def Sz.mono{n m:Nat}(h:Sz n p)(a:n<=m):Sz m p:=λi=>aB (h i) a
theorem Sz.tzl{n:Nat}(h:Sz n p):Sz n (tzl p):=λi=>by rw [Lg];exact h i
theorem Sz.nil(n:Nat):Sz n []:=λi=>by simp [cf,Ky]
theorem Sz.take{n:Nat}(h:Sz n p)(k:Nat):Sz n (p.take k):=λi=>by
 rw [Db];split
 .exact h i
 grind [Ky]
theorem Sz.mem{n:Nat}(h:Sz n p)(a:x∈p):bl x.natAbs<=n:=by obtain⟨i,hi,rfl⟩:=cN.1 a;have:=h i;grind [Zj0]
theorem Sz.of_mem{n:Nat}(h:∀x∈p,bl x.natAbs<=n):Sz n p:=λi=>by grind [Nat.lt_or_ge,Zj0,List.getElem_mem,Yt,Ky]
structure Vp (p:List Int):Prop where
 sz:Sz 65536 p
 tr:Tr p
 len:p.length<=25
def wr(x:Int):Bool×ByteArray:=(decide (x<0),Qy x.natAbs)
def okP(r:List (Bool×ByteArray)):Bool:=r.all (λw=>okW w.1 w.2) && (decide (r.length<=25) && (decide (r.length=0) || decide ((r.getD (r.length-1) (false,⟨#[]⟩)).2.size≠0)))
theorem Zn1 : (Qy x.natAbs).size=0↔x=0:=by grind [Ei,Ok]
theorem Zjx(h:i<xs.length):(xs.map wr).getD i (false,⟨#[]⟩)=wr (cf xs i):=by grind [Zj0]
theorem okP_wr(h:Vp xs):okP (xs.map wr)=true:=by
 unfold okP;rw [aY,aY,Bool.or_eq_true];refine⟨bK.2 λw d=>?_,by simpa using h.len,?_⟩
 .obtain⟨x,e,rfl⟩:=eK.1 d;exact Zft (h.sz.mem e)
 .rcases h.tr with a|a
  .grind
  .right;have g:0<xs.length:=by grind [Nat.eq_zero_or_pos,Yt]
   rw [aW,Zjx O];refine aH λc=>a (Zn1.1 c)
theorem Ykn{r:List (Bool×ByteArray)}(h:∀w∈r,okW w.1 w.2=true):∃xs:List Int,(∀x∈xs,bl x.natAbs<=65536)/\r=xs.map wr:=by
 induction r with
 | nil=>simp
 | cons w r g=>
  obtain⟨xs,j,a⟩:=g λu e=>h u (bT _ e);obtain⟨x,k,c,d⟩:=Zrk (h w (cC ..));refine⟨x::xs,λy l=>?_,?_⟩
  .grind
  .rw [bQ,<-a,wr,<-c,<-d]
theorem Zlq (k:Nat){j:Nat}(h:j<k)(a:(xs.take k).getD j 0=0):cf xs j=0:=by rw [Zi2 _ _ _ h]at a;exact a
theorem Zgh (k:Nat){j:Nat}(h:j<k)(a:¬((xs.take k).getD j 0).sign=0):cf xs j≠0:=λe=>a (by rw [Zi2 _ _ _ h];rw [show xs.getD j 0=0 from e];rfl)
theorem Yq8{r:List (Bool×ByteArray)}{w:Bool×ByteArray}(a:w∈r)(h:okW w.1 w.2=false):okP r=false:=by unfold okP;grind
theorem Zrl(h:∀x∈xs,bl x.natAbs<=65536):okP (xs.map wr)=(decide (xs.length<=25) && (decide (xs.length=0) || decide (¬(xs.getD (xs.length-1) 0).sign=0))):=by
 unfold okP;rw [show(xs.map wr).all _=true from bK.2 λw c=>by obtain⟨x,d,rfl⟩:=eK.1 c;exact Zft (h x d)]
 rw [aW,lT];congr 1;by_cases a:xs.length=0
 .grind
 .rw [aE a,Bool.false_or,Bool.false_or,Zjx O];rw [bB,dO];exact not_congr Zn1
def err(e x:Int):Int:=if e=0 then Zj5 x else e
theorem Zy9(h:bl x.natAbs<=65536):err 0 x=0:=by unfold err;rw [aP rfl,Zr9 h]
def Xx:List Int->Nat
 | []=>0
 | x::r=>max (bl x.natAbs) (Xx r)
theorem Pg(p:List Int):Sz (Xx p) p:=by
 refine Sz.of_mem λx a=>?_
 induction p with
 | nil=>grind
 | cons y r c=>
  rcases bI.1 a with rfl|h
  .simp only [Xx];omega
  .have:=c h;simp only [Xx];omega
theorem Qu{n:Nat}(h:Sz n p):Xx p<=n:=by
 have c:∀x∈p,bl _<=n:=λx a=>h.mem a;clear h
 induction p with
 | nil=>exact aX _
 | cons y r d=>
  have:=c y (cC ..);have:=d λx a=>c x (bT _ a);simp only [Xx];omega
theorem Yk6(p:List Int)(x:Int):Xx (p ++ [x])=max (Xx p) (bl x.natAbs):=by
 induction p with
 | nil=>simp [Xx]
 | cons y r a=>simp only [iD,Xx,a];simp
variable {P:Program} {N:Nat} {sc:Nat->Prop} {env env':Px} {H H':Hp} {Q Q':Exit->Act->World->Prop} {M:Nat->Prop}
def fpm{α β:Type}{f:α->β}{xs:List α}{p:Prop}(h:xs.map f≠[]/\p):xs≠[]/\p:=⟨λe=>h.1 O4,h.2⟩
def fpn{α β:Type}{f:α->β}{xs:List α}{p:Prop}(h:xs≠[]/\p):xs.map f≠[]/\p:=⟨λe=>h.1 (List.map_eq_nil_iff.1 e),h.2⟩
theorem slp_wr(v:Value)(xs:List Int)(w:World)(h:(Yl 2 wv v xs).holds w):(Yl 2 (λw:Bool×ByteArray=>Value.agg #[.bool w.1,.string w.2]) v (xs.map wr)).holds w:=by
 obtain⟨⟨a,c,q,z,k,d⟩,m⟩:=h;refine⟨⟨a,c,O4,O4,k,?_⟩,λb h=>m b (fpm h)⟩;rcases d with d|⟨g,e,d,l⟩
 .grind
 .right;refine⟨g,e,d,λi x hi j u n=>?_⟩;rw [fG]at hi;cases hx:xs[i]? with
  | none=>grind
  | some y=>rw [hx]at hi;cases hi;exact l i y hx j u n
theorem Ypv(v:Value)(xs:List Int)(w:World)(h:(Yl 2 (λw:Bool×ByteArray=>Value.agg #[.bool w.1,.string w.2]) v (xs.map wr)).holds w):(Yl 2 wv v xs).holds w:=by
 obtain⟨⟨a,c,k,l,m,d⟩,q⟩:=h;rw [aW]at k l;refine⟨⟨a,c,k,l,m,?_⟩,λb h=>q b (fpn h)⟩;rcases d with d|⟨g,e,d,n⟩
 .simp_all
 .right;refine⟨g,e,d,λi x hi j u z=>?_⟩;exact n i (wr x) O4 j u z
theorem Cal.imp{p q:Pc}{al:Bool}{G:Type}{φ:G->Prop}{val:G->Value}{a:G->List Pc}(h:Cal P f args (p::pre) al φ val a)(d:∀w,q.holds w->p.holds w)(c:∀b,p.fp b->q.fp b) :
  Cal P f args (q::pre) al φ val a:=λw e=>by
 refine(h w λr g=>?_).mono ?_
 all_goals grind
end Go.Sky
namespace Go.Sky
variable{f:Nat->Int}{m:Nat}{xs:List Int}
def fill(n k:Nat)(f:Nat->Int):List Int:=mk n λi=>if i<k then f i else 0
theorem Oc(n k:Nat)(f:Nat->Int):(fill n k f).length=n:=Yy _ _
theorem Zdh{n k:Nat}(h:k<n):(fill n k f).set k (f k)=fill n (k+1) f:=Ib (by simp [Oc]) λi hi=>by rw [Zny _ _ _ _ (by grind [Oc])];unfold fill;rw [Md,Md];grind
theorem Ai(n:Nat)(f:Nat->Int):List.replicate n 0=fill n 0 f:=Ib (by simp [Oc]) λi hi=>by unfold fill;simp_all [Md,aP,aJ,Zj0]
def Ez(n:Nat)(f:Nat->Int):fill n n f=mk n f:=Cx λi hi=>O
theorem Zrs(xs:List Int)(g:Int->Int):mk xs.length (λi=>g (cf xs i))=xs.map g:=Ib (by simp [Yy]) λi hi=>by rw [Yy]at hi;simp_all [Md,aP,Zj0]
theorem Bn{n:Nat}(h:∀i,i<n->bl (f i).natAbs<=m):Sz m (mk n f):=λi=>by grind [Md,Ky]
theorem Np{p:List Int}(h:Tr p):Tr (Xh p):=by
 unfold Xh;rcases bA 1 p.length with a|a
 .right;rw [Yy,Md];have b:=h.mem O4;grind [Int.mul_eq_zero]
 .left;simp_all [aC,Yy]
theorem Yfa(xs:List Int)(c:Int):tzl (fill xs.length xs.length λi=>cf xs i*c)=Zw xs c:=by rw [Ez,Zrs xs (· * c)];rfl
theorem Yq2(h:Tr xs):tzl (fill (xs.length-1) (xs.length-1) λi=>cf xs (i+1)*((i:Int)+1))=Xh xs:=by rw [Ez];exact An (Np h)
theorem Ykf{p:List Int}(h:p.length=0):Xh p=[]:=aC (by unfold Xh;grind [Yy])
theorem Zmn(p:List Int)(x:Int):Yx (p ++ [x])=(Int.gcd (Yx p) x:Int):=by unfold Yx;simp
theorem Ns(p:List Int):0<=Yx p:=by
 rcases Zkd p with rfl|⟨a,y,rfl⟩
 .decide
 grind [Zmn]
theorem Lf{p:List Int}{k:Nat}(h:k<p.length):Yx (p.take (k+1))=(Int.gcd (Yx (p.take k)) (p.getD k 0):Int):=by grind [Qz,Zmn]
theorem Zbj{n:Nat} : ∀(p:List Int),Sz n p->bl (Yx p).natAbs<=n:=λp=>by
 have a:∀k,k<=p.length->Sz n p->bl (Yx (p.take k)).natAbs<=n:=by
  intro k
  induction k with
  | zero=>intro _ _;exact aX _
  | succ k d=>
   intro c hs;rw [Lf c];have e:=d O hs;have b:=hs k;have:=Ztc (Yx (p.take k)).natAbs (p.getD k 0).natAbs;have g:bl (p.getD k 0).natAbs<=n:=b;show bl (Nat.gcd _ _)<=n;omega
 intro hs;have:=a _ (aF _) hs;grind
theorem Ki(p:List Int):∀i,Yx p∣cf p i:=by
 have b:∀k,k<=p.length->∀i,i<k->Yx (p.take k)∣cf p i:=by
  intro k
  induction k with
  | zero=>omega
  | succ k c=>
   intro a i hi;rw [Lf a];rcases bA i k with h|h
   .grind [Int.dvd_trans,Int.gcd_dvd_left]
   .have:i=k:=O;subst this;exact jU ..
 intro i;rcases bA i p.length with h|h
 .grind
 grind [Yt,Int.dvd_zero]
theorem Zdc(p:List Int):Yx p=0↔∀i,cf p i=0:=by
 refine⟨λh i=>by have:=Ki p i;simp_all,λh=>?_⟩;have a:∀k,k<=p.length->Yx (p.take k)=0:=by
  intro k
  induction k with
  | zero=>intro _;rfl
  | succ k c=>
   intro b;rw [Lf b,c O];have:=h k;rw [show p.getD k 0=0 from this];rfl
 have:=a _ (aF _);grind
theorem Eg{p:List Int}{d:Int}(h:∀i,d∣cf p i):d∣Yx p:=by
 have a:∀k,k<=p.length->d∣Yx (p.take k):=by
  intro k
  induction k with
  | zero=>intro _;exact jH _
  | succ k c=>
   intro b;rw [Lf b];exact Int.dvd_coe_gcd (c O) (h k)
 have:=a _ (aF _);grind
theorem Zdr(p:List Int)(i:Nat):cf (Yf p) i=cf p i/Yx p:=by unfold Yf;simp [Zf2]
theorem Yi(p:List Int):(Yf p).length=p.length:=by simp [Yf]
theorem Hb{x y:Int}{n:Nat}(h:y∣x)(b:bl x.natAbs<=n):bl (x/y).natAbs<=n:=by have a:=iI x y;exact aB (Oh a) b
theorem Yw{p:List Int}(h:Tr p):Tr (Yf p):=by
 rcases h with rfl|h
 .left;rfl
 .right;rw [Zdr,Yi];have a:=Ki p (p.length-1);have:=lE a;grind
theorem Hz{n:Nat}{p:List Int}(h:Sz n p):Sz n (Yf p):=λi=>by rw [Zdr];exact Hb (Ki p i) (h i)
theorem Lu{p:List Int}(h:Vp p):Vp (Yf p):=⟨Hz h.sz,Yw h.tr,by rw [Yi];exact h.len⟩
def Vp.ne{p:List Int}(h:Vp p)(a:p≠[]):Yx p≠0:=λe=>h.tr.mem a ((Zdc p).1 e _)
def Ej(p:List Int)(n d:Int)(i:Nat):Int:=Yo (λm=>cf p (i+m)*(n^m*d^(p.length-1-(i+m)))) (p.length-i)
theorem Zv8(p:List Int)(n d:Int):Ej p n d 0=pev p n d:=by unfold Ej pev;simp
theorem Yr3{p:List Int}(n d:Int)(h:0<p.length):Ej p n d (p.length-1)=cf p (p.length-1):=by unfold Ej;rw [show p.length-(p.length-1)=0+1 by omega,Ys,Ds];simp
theorem Ylz{p:List Int}(n d:Int){i:Nat}(h:i<p.length):Ej p n d i=Ej p n d (i+1)*n+cf p i*d^(p.length-1-i):=by unfold Ej;rw [show p.length-i=p.length-(i+1)+1 by omega,Ms];rw [<-Zlr];grind
theorem Zzw{K:Nat}{f:Nat->Int} : ∀{n:Nat},(∀i,i<n->bl (f i).natAbs<=K)->(Yo f n).natAbs<=n*(2^K-1)
 | 0,_=>by simp [Yo]
 | n+1,h=>by have a:=Zzw (n:=n) λi hi=>h i O;grind [Qo,Ys,Nat.add_mul,Int.natAbs_add_le]
theorem Zla{K:Nat}{n:Nat}(h:∀i,i<n->bl (f i).natAbs<=K)(a:n<=31):bl (Yo f n).natAbs<=K+5:=by rw [Qo];have b:=Zzw h;have c:n*(2^K-1)<=31*(2^K-1):=aM _ a;grind
theorem Fp(x:Int){m:Nat}(h:bl x.natAbs<=m):∀k,0<k->bl (x^k).natAbs<=k*m
 | 0,a=>O
 | 1,_=>O4
 | k+2,_=>by have b:=Fp x h (k+1) O5;grind [Int.pow_succ,Nat.add_mul,Yu]
theorem Yn5:bl 1=1:=by rfl
theorem Zh2 (i:Nat)(j:Nat){a n d:Int}{A:Nat}(k:bl a.natAbs<=A)(h:bl n.natAbs<=m)(g:bl d.natAbs<=m):bl (a*(n^i*d^j)).natAbs<=A+(i+j)*m:=by
 rcases bD i with rfl|hi
 .rcases bD j with rfl|b
  .grind
  .have c:=Fp d g j b;have e:=Yu a (n^0*d^j);grind
 .rcases bD j with rfl|b
  .have c:=Fp n h i hi;have e:=Yu a (n^i*d^0);grind
  .have c:=Fp n h i hi;have e:=Fp d g j b;grind [Yu,Nat.add_mul]
theorem Yn6{p:List Int}{n d:Int}{A:Nat}(c:Sz A p)(b:bl n.natAbs<=m)(a:bl d.natAbs<=m)(h:p.length<=31)(i:Nat):bl (Ej p n d i).natAbs<=A+(p.length-1-i)*m+5:=by refine Zla (λk g=>?_) O;have e:=Zh2 k (p.length-1-(i+k)) (c (i+k)) b a;grind
def Ha(p:List Int)(n d:Int):Prop:=p≠[]/\65536<Xx p+(p.length-1)*Xx [n,d]+8
instance (p:List Int) (n d:Int):Decidable (Ha p n d):=by unfold Ha;infer_instance
def evv(p:List Int)(n d:Int):Int:=if Ha p n d then 0 else pev p n d
def eve(p:List Int)(n d:Int):Int:=if Ha p n d then 7 else 0
abbrev wc (x:Int):Array Value:=#[.bool (decide (x<0)),.string (Qy x.natAbs)]
section
variable {p:List Int} {n d:Int} (hF:Xx p+(p.length-1)*Xx [n,d]+8<=65536) (hl:p.length<=25)
include hF
theorem Zjy:bl n.natAbs<=Xx [n,d]/\bl d.natAbs<=Xx [n,d]:=by simp only [Xx];omega
theorem Zsm{k:Nat} : bl (d^(p.length-1-k)).natAbs<=65536:=by
 rcases bD (p.length-1-k)with h|h
 .rw [h,dD];decide
 .have a:=Fp d (Zjy hF).2 _ h;have b:(p.length-1-k)*Xx _<=(p.length-1)*Xx [n,d]:=aM _ O5;omega
theorem Zsl{k:Nat} : bl (cf p k*d^(p.length-1-k)).natAbs<=65536:=by have a:=Zh2 0 (p.length-1-k) (Pg p k) (Zjy hF).1 (Zjy hF).2;have b:(0+(p.length-1-k))*Xx _<=(p.length-1)*Xx [n,d]:=aM _ O5;grind
include hl
theorem Zsn(k:Nat):bl (Ej p n d k).natAbs<=65536:=by have a:=Yn6 (Pg p) (Zjy hF).1 (Zjy hF).2 O k;have b:(p.length-1-k)*Xx _<=(p.length-1)*Xx [n,d]:=aM _ O5;omega
theorem Zy7{k:Nat}(a:1<=k)(b:k<=p.length-1):bl (Ej p n d k*n).natAbs<=65536:=by
 have c:=Yn6 (Pg p) (Zjy hF).1 (Zjy hF).2 O k;have e:=Yu (Ej p n d k) n;have g:=(Zjy hF).1;have h:(p.length-1-k)*Xx [n,d]+Xx [n,d]<=(p.length-1)*Xx [n,d]:=by rw [<-dR];exact aM _ O
 omega
end
theorem evv_bl{p:List Int}{n d:Int}(hl:p.length<=25):bl (evv p n d).natAbs<=65536:=by
 unfold evv;split
 .decide
 .rename_i h;rcases bD p.length with c|c
  .rw [aC c,show pev [] n d=0 from rfl];decide
  .rw [<-Zv8];have b:p≠[]:=λe=>O4;exact Zsn (Nat.le_of_not_lt λa=>h ⟨b,a⟩) hl 0
theorem Yj7(d:Int){L k:Nat}(a:1<=k)(b:k<=L):d^(L-k)*d=d^(L-(k-1)):=by rw [show L-(k-1)=L-k+1 by omega,dE]
theorem Yf3{p:List Int}(n d:Int){k:Nat}(a:1<=k)(b:k<=p.length-1):Ej p n d k*n+cf p (k-1)*d^(p.length-1-(k-1))=Ej p n d (k-1):=by grind [Ylz]
end Go.Sky

