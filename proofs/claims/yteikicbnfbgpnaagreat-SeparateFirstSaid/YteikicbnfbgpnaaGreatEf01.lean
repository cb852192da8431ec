/- Rules, arithmetic and contracts: part 2. No conditions but those that each theorem names. -/
import Derived.Test.YteikicbnfbgpnaaGreatEf00
import Derived.Laws.Externs
import Derived.Lib.SliceRun
import Derived.Great.BuildSlice
import Derived.Laws.Small
import Derived.Laws.StructEq
set_option linter.all false
namespace Go.Sky
open Go.RowKit Below
variable{f:FuncId}{vs:List Value}{pre r:List Pc}{args cs:Array Value}{o:Oper}{x y:Operand}{t tb:TypeId}{i k d:Nat}{v:Value}{w0:World}{M0:Nat->Prop}{ops:Array Oper}{rest:List Oper}{parts:Array (Nat×Operand)}
variable {P:Program} {N:Nat} {sc:Nat->Prop} {env env':Pu} {H H':Hp} {Q Q':Exit->Act->World->Prop} {M:Nat->Prop}
def Qv:Nat->List Value->Pu
  | _,[]=>[]
  | n,v::r=>(n,v)::Qv (n+1) r
def Yz:Nat->List Pc->Hp
  | _,[]=>[]
  | n,p::r=>(n,p)::Yz (n+1) r
def AllRo:List Pc->Prop
  | []=>True
  | p::r=>p.own=false/\AllRo r
theorem AllRo.mem:∀{l:List Pc},AllRo l->∀p∈l,p.own=false
  | p::r,h,q,a=>by
    cases a with
    | head=>exact h.1
    | tail _ a=>exact AllRo.mem h.2 q a
theorem Ge:∀(l:List Value) (n t:Nat) (v:Value),lk (Qv n l) t=some v->n<=t/\l[t-n]? = some v
  | [],_,_,_,h=>by cases h
  | u::r,n,t,v,h=>by
    simp only [Qv]at h;by_cases a:n=t
    . subst a;rw [Yl]at h;cases h;simp
    . rw [Zx _ _ a]at h;obtain⟨c,b⟩:=Ge r (n+1) t v h;refine⟨O,?_⟩;rw [show t-n=(t-(n+1))+1 by omega];simpa using b
theorem Nt:∀(l:List Pc) (n t:Nat) (v:Pc),lk (Yz n l) t=some v->n<=t/\v∈l
  | [],_,_,_,h=>by cases h
  | u::r,n,t,v,h=>by
    simp only [Yz]at h;by_cases a:n=t
    . subst a;rw [Yl]at h;cases h;simp
    . rw [Zx _ _ a]at h;obtain⟨c,b⟩:=Nt r (n+1) t v h;exact⟨O,bE _ b⟩
theorem cal_in  {fn:Func} {c:Code}   {al:Bool} {G:Type} {φ:G->Prop} {Yq:G->Value} {a:G->List Pc} {N:Nat}
    (u:P.funcs[f]? = some fn) (s:fn.body=some c) (n:fn.ntmps=N) (j:Nat.ble vs.length N=true) (l:AllRo pre)
    (h:∀w0 (sc:Nat->Prop),(∀b,w0.heap.size<=b->sc b)->(∀b,sc b->w0.heap.size<=b\/∃q∈pre,q.fp b)->
      E P N sc c (Zcx P fn w0 pre al φ Yq a) (Qv 0 vs) ((0,Yx w0 (λ_=>False))::Yz 1 pre)) :
    Cal P f vs.toArray pre al φ Yq a:=
  Ygt (λw0=>(0,Yx w0 (λ_=>False))::Yz 1 pre) u s n (env0:=Qv 0 vs) (λt v z=>by simpa using(Ge vs 0 t v z).2) (by simpa using j)
    (λw i p hi=>by
      by_cases g:0=i
      . subst g;rw [Yl]at hi;cases hi;exact .inl ⟨rfl,rfl⟩
      . rw [Zx _ _ g]at hi;obtain⟨_,m⟩:=Nt pre 1 i p hi;exact .inr ⟨λe=>g e.symm,m,l.mem p m⟩) h
theorem Cal.bare{al a:Bool}{G:Type}{φ:G->Prop}{Yq:G->Value}{c:G->List Pc}(h:Cal P f args pre al φ Yq c):Cal P f args pre a φ Yq (λ_=>[]):=
  λw b=>(h w b).mono λe n ⟨g,l,m,j,_⟩=>⟨g,l,m,j,λp b=>by cases b⟩
def Ones(N:Nat)(sc:Nat->Prop)(env:Pu)(H:Hp):List Value->Prop
  | []=>True
  | v::r=>One N sc env H v/\Ones N sc env H r
theorem Ones.mem:∀{l:List Value},Ones N sc env H l->∀u∈l,One N sc env H u
  | v::r,h,u,a=>by
    cases a with
    | head=>exact h.1
    | tail _ a=>exact Ones.mem h.2 u a
def t_stp    {b j:Nat} {cs':Array Value}     (q:o.op= .store t x y) (n:o.dst=none)
    (z:ev env x=some (.pointer (some ⟨b,j,none⟩))) (B:ev env y=some v) (l:lk H i=some (box b tb cs)) (e:i≠0) (s:v.cells=vs.toArray) (p:∀w,(sizeOf t).run P w= .ok k w) (c:vs.length=k)
    (a:Nat.ble (j+vs.length) cs.size=true) (h:Ones N sc env H vs)
    (g:lk H 0=some (Yx w0 M0)) (u:∀b,w0.heap.size<=b->sc b) (m:M b) :
    T P N sc M o env H (G:=Unit) (λ_=>True) (λ_=>env) (λ_=>(i,box b tb (Fc cs j vs))::H):=
  Zjj _ q n z B l e s p c (iK a) h.mem rfl g u m
theorem t_stw    {b:Nat}      (n:o.op= .store t x y) (l:o.dst=none)
    (u:ev env x=some (.pointer (some ⟨b,0,none⟩))) (z:ev env y=some v) (h:lk H i=some (box b tb cs)) (c:i≠0) (q:v.cells=vs.toArray) (m:∀w,(sizeOf t).run P w= .ok k w) (a:vs.length=k)
    (p:cs.size=k) (g:Ones N sc env H vs)
    (e:lk H 0=some (Yx w0 M0)) (s:∀b,w0.heap.size<=b->sc b) (j:M b) :
    T P N sc M o env H (G:=Unit) (λ_=>True) (λ_=>env) (λ_=>(i,box b tb vs.toArray)::H):=
  Zjj _ n l u z h c q m a O g.mem (by unfold Fc;rw [dQ,lO (by rw [eR];omega)];simp) e s j
theorem Ygc{al:Bool}{α:Type}{e:TypeId}{enc:α->Value}{xs ys:List α}(i:Nat)(hi:lk H i=some (Of k e enc v xs))(b:Nat.beq i 0=false)(c:Enc P t k enc)(a:xs=ys)(h:Give H al r) :
    Give H al (Yy k enc v ys::r):=by subst a;exact Ylr i hi b c h
theorem Zm6{p q:Pc}(i:Nat)(hi:lk H i=some p)(b:Nat.beq i 0=false)(c:p.own=false)(a:p=q)(h:Give H true r) :
    Give H true (q::r):=by subst a;exact Gp i hi b c h
theorem Zhg (d:Nat)    {b:Bool} (g:lk env d=some (.bool b))
    (j:b=true->L P N sc ops rest Q ((d,.bool true)::env) H) (h:b=false->L P N sc ops rest Q ((d,.bool false)::env) H):L P N sc ops rest Q env H:=by
  cases b with
  | true=>
    refine λa w hs=>j rfl a w ⟨hs.size,hs.defers,λt v c=>?_,hs.hold,hs.sep,hs.scope⟩;by_cases e:d=t
    . subst e;rw [Yl]at c;cases c;exact hs.env _ _ g
    . rw [Zx _ _ e]at c;exact hs.env _ _ c
  | false=>
    refine λa w hs=>h rfl a w ⟨hs.size,hs.defers,λt v c=>?_,hs.hold,hs.sep,hs.scope⟩;by_cases e:d=t
    . subst e;rw [Yl]at c;cases c;exact hs.env _ _ g
    . rw [Zx _ _ e]at c;exact hs.env _ _ c
theorem Hg (i:Nat)(n:Nat)(c:Nat) {α:Type}  {e:TypeId}    {m:Int}   {enc:α->Value} {ti:TypeInfo} (q:α)
    (V:o.op= .makeSlice t x y) (I:o.dst=some d) (Z:ev env x=some (.int .i64 m)) (hy:ev env y=some (.int .i64 m)) 
    (W:P.underlying t=some (.slice e)) (hi:P.info? e=some ti) (hz:ti.zero=some (enc q)) (R:∀x,(enc x).cells.size=k) (h:0<k) (l:ti.size=k) (j:ti.bytes=c)
     
    (u:lk H 0=some (Yx w0 M0)) (Y:∀b,w0.heap.size<=b->sc b) (B:Nat.blt d N=true:=by rfl) (S:m=(n:Int):=by omega) (D:c*n<=281474976710656:=by omega) (g:0<c:=by decide) :
    T P N sc M o env H (G:=Value) (λ_=>True) (λv=>(d,v)::env) (λv=>(i,Of k e enc v (List.replicate n q))::H):=λa w hs K Q z=>
  t_mk q V I B Z hy S W hi hz R h l j D g u Y a w hs K Q λb s w' _ p F=>z (.slice (some ⟨b,0,none⟩) n n) s w' aA p F
def t_bsn {α:Type}  {e:TypeId} {n:Nat}      {enc:α->Value} (xs:List α)
    (B:o.op= .buildSlice t n parts) (q:o.dst=some d) (m:Nat.blt d N=true)
    (D:∀a w,Sat N sc env H a w->(Instr.buildSlice t n (parts.map λ(i,x)=>(i,a.eval x))).run P w= .ok (.slice (some ⟨w.heap.size,0,none⟩) n n) (w.alloc (.cells cs e)))
    (c:cs.toList=cellsOf enc xs) (z:xs.length=n) (s:∀x,(enc x).cells.size=k) (u:n<=maxLen)
    (j:lk H 0=some (Yx w0 M0)) (F:∀b,w0.heap.size<=b->sc b) :
    T P N sc M o env H (G:=Value) (λ_=>True) (λv=>(d,v)::env) (λv=>(i,Of k e enc v xs)::H):=λa w hs K Q l=>
  t_bs xs B q m D c z s u j F a w hs K Q λb h I _ g p=>l (.slice (some ⟨b,0,none⟩) n n) h I aA g p
end Go.Sky
namespace Go.Sky
open Go.RowKit Below
variable{a b m:Nat}{o:Oper}{f:FuncId}{xs:List Operand}{ats:Array TypeId}{vs:List Value}{x y z:Operand}{t t':TypeId}{k:IntKind}{v:Value}{p:Pc}
variable {P:Program} {N:Nat} {sc:Nat->Prop} {env env':Pu} {H H':Hp} {Q Q':Exit->Act->World->Prop} {M:Nat->Prop}
def Zfp:Array Value->Sem Value:=λc=>do
 let (x, y, b) ← Extern.MathBitsCarry.three "Sub64" c
 pure (Extern.MathBitsCarry.pair ((x+Extern.MathBitsCarry.m64-y-b)%Extern.MathBitsCarry.m64) (if x<y+b then 1 else 0))
theorem Ye8{P:Program}(x y c:Nat)(d:c<=1)(w:World) :
  (Zfp #[.int .u64 x,.int .u64 y,.int .u64 c]).run P w =
   .ok (.tuple #[.int .u64 (((x+U-y-c)%U:Nat):Int),.int .u64 ((if x<y+c then 1 else 0:Nat):Int)]) w:=by
 have:c=0\/c=1:=O;rcases this with rfl|rfl<;>rfl
theorem Ix {a:Act} {w:World} (hs:Sat N sc env H a w)      (e:o.op= .call { callee:= .value (.func f),args:=xs.toArray,argTypes:=ats })
  (c:EvL env xs vs):(execOp a.eval o).run P w=(callFunc f vs.toArray).run P w:=by
 have d:=c.map hs;simp [execOp,e,resolve,invoke,Act.eval,Deferred.ofValue,d]
theorem Zsx (c:Nat)      (i:o.op= .call { callee:= .value (.func f),args:=#[x,y,z],argTypes:=ats })
  (j:ev env x=some (.int .u64 (a:Int))) (l:ev env y=some (.int .u64 (b:Int))) (n:ev env z=some (.int .u64 (c:Int))) (q:c<=1)
  (d:∀args w,(callFunc f args).run P w=((add64Entry args).run P w).andThen λv w'=> .ok (.value v) w') :
  Li P N sc o env H (.tuple #[.int .u64 (((a+b+c)%U:Nat):Int),.int .u64 (((a+b+c)/U:Nat):Int)]):=λs w hs=>by
 have h:=run_add64 (P:=P) (a:Int) b c O O O O w;have e:(((a:Int)+b+c)%18446744073709551616)=(((a+b+c)%U:Nat):Int):=by simp only [U];omega
 have g:(((a:Int)+b+c)/18446744073709551616)=(((a+b+c)/U:Nat):Int):=by simp only [U];omega
 rw [e,g]at h;rw [Ix hs (xs:=[x,y,z]) (vs:=[_,_,_]) i ⟨j,l,n,aA⟩,d,h];rfl
def brw(a b c:Nat):Nat:=if a<b+c then 1 else 0
theorem Ynr{c:Nat}:brw a b c<=1:=by unfold brw;split<;>omega
theorem Yr5     {c:Nat} (g:o.op= .call { callee:= .value (.func f),args:=#[x,y,z],argTypes:=ats })
  (i:ev env x=some (.int .u64 (a:Int))) (j:ev env y=some (.int .u64 (b:Int))) (l:ev env z=some (.int .u64 (c:Int))) (e:c<=1)
  (d:∀args w,(callFunc f args).run P w=((Zfp args).run P w).andThen λv w'=> .ok (.value v) w') :
  Li P N sc o env H (.tuple #[.int .u64 (((a+U-b-c)%U:Nat):Int),.int .u64 (brw a b c:Int)]):=λs w hs=>by
 have h:=Ye8 (P:=P) a b c e w;rw [Ix hs (xs:=[x,y,z]) (vs:=[_,_,_]) g ⟨i,j,l,aA⟩,d,h];rfl
theorem Zfi{ds:TypeDesc}(d:o.op= .convert t t' x)(g:ev env x=some (.int k (m:Int)))(c:P.underlying t=some ds)(e:P.underlying t'=some (.int .u8)) :
  Li P N sc o env H (.int .u8 ((m%256:Nat):Int)):=Zh9 d g c e (by simp [IntKind.wrap,IntKind.bits,IntKind.signed])
def Zsz{ds:TypeDesc}(e:o.op= .convert t t' x)(h:ev env x=some (.int k (m:Int)))(c:P.underlying t=some ds)(g:P.underlying t'=some (.int .u64))(d:m<U) :
  Li P N sc o env H (.int .u64 (m:Int)):=Zh9 e h c g (Zd4 d)
def Za9{m:Int}{ds:TypeDesc}(e:o.op= .convert t t' x)(h:ev env x=some (.int k m))(c:P.underlying t=some ds)(g:P.underlying t'=some (.int .i64))(d:Nw m) :
  Li P N sc o env H (.int .i64 m):=Zh9 e h c g (Zb1 d)
theorem Kf(t:Nat){v':Value}(e:lk env t=some v)(h:v=v'):∀a w,Sat N sc env H a w->Sat N sc ((t,v')::env) H a w:=λa w hs=>by
 subst h;refine⟨hs.size,hs.defers,λs u c=>?_,hs.hold,hs.sep,hs.scope⟩;by_cases d:t=s
 .subst d;rw [Yl]at c;cases c;exact hs.env _ _ e
 .rw [Zx _ _ d]at c;exact hs.env _ _ c
theorem Xu(i j:Nat)(hi:lk H i=some p)(h:Nat.beq i 0=false)(n:p.own=false):∀a w,Sat N sc env H a w->Sat N sc env ((j,p)::H) a w:=λa w hs=>
 hs.add j p (hs.hold i p hi) (λq r _ l Hf b d g=>by
  rcases Hf with Hf|Hf
  .rw [n]at Hf;cases Hf
  .by_cases c:q=i
   .subst c;rw [hi]at l;cases l;rw [n]at Hf;cases Hf
   .exact hs.sep q i r p c l hi Hf b g d) (λb d=>hs.scope i p (λe=>by subst e;simp at h) hi b d)
theorem Zns (P:Program)(w:World)(f:Value->ByteArray->Sem (ForInStep ByteArray))(c:∀(n:Nat) (r:ByteArray),f (.int .u8 (n:Int)) r=pure (.yield (r.push (UInt8.ofNat n)))):∀(l:List Nat) (s:ByteArray),
  (forIn (m:=Sem) (l.map λn:Nat=>Value.int .u8 (n:Int)) s f).run P w= .ok (l.foldl (λs n=>s.push (UInt8.ofNat n)) s) w
 | [],s=>rfl
 | n::r,s=>by have d:=Zns P w f c r (s.push (UInt8.ofNat n));simp only [bP,List.forIn_cons,c,Sem.run_bind,Sem.run_pure,Result.andThen_ok,gC];exact d
theorem Zna:∀(l:List Nat) (s:ByteArray),l.foldl (λs n=>s.push (UInt8.ofNat n)) s=⟨s.data ++ (l.map UInt8.ofNat).toArray⟩
 | [],s=>O5
 | n::r,s=>by rw [gC,Zna r];simp [ByteArray.push]
theorem d_b2s  {e:TypeId}   {i:Nat}  {xs:List Nat} (W:o.op= .convert t t' x) (B:ev env x=some v) (S:lk H i=some p) (Y:Rd p 1 (λn:Nat=>Value.int .u8 (n:Int)) v xs)
  (Z:P.underlying t=some (.slice e)) (F:P.underlying t'=some .string) (V:P.underlying e=some (.int .u8)):Li P N sc o env H (.string ⟨(xs.map UInt8.ofNat).toArray⟩):=λa w hs=>by
 obtain⟨D,c,rfl,h1,h2,I⟩:=Y w (hs.hold i p S);have s:(Conv.bytesToString (.slice D xs.length c)).run P w= .ok (.string ⟨(xs.map UInt8.ofNat).toArray⟩) w:=by
  cases D with
  | none=>
   rcases I with rfl|⟨g,G,h,_⟩
   .rfl
   .cases h
  | some q=>
   have d:(loadCells q xs.length).run P w= .ok (xs.map λn:Nat=>Value.int .u8 (n:Int)).toArray w:=by
    have:=run_loadCells_list (P:=P) w q (xs.map λn:Nat=>Value.int .u8 (n:Int)) (λj u l=>by
     rcases I with rfl|⟨g,G,h,R⟩
     .simp at l
     .cases h;rw [fC]at l;cases B:xs[j]? with
      | none=>rw [B]at l;cases l
      | some y=>
       rw [B]at l;cases l;have:=R j y B 0 (.int .u8 (y:Int)) rfl;rw [Ol];simpa using this)
    simpa using this
   simp only [Conv.bytesToString,Sem.run_bind,d,Result.andThen_ok];simp only [List.forIn_toArray];rw [Zns P w _ (λn r=>rfl) xs ByteArray.empty,Zna];simp [ByteArray.empty,ByteArray.emptyWithCapacity];rfl
 have:(convert t t' (.slice D xs.length c)).run P w= .ok (.string ⟨(xs.map UInt8.ofNat).toArray⟩) w:=by simp only [convert,Sem.run_bind,run_underlying Z,run_underlying F,Result.andThen_ok,run_underlying V,s]
 simp only [execOp,W,hs.ev B];simp [this]
end Go.Sky
namespace Go.Sky
open Go.RowKit Below
variable{o:Oper}{f:FuncId}{xs:List Operand}{ats:Array TypeId}{d k:Nat}{vs:List Value}{pre:List Pc}{w0:World}{M0:Nat->Prop}{fn:Func}{v:Value}{x y:Operand}{t:TypeId}{p:Pc}{kd:IntKind}
variable {P:Program} {N:Nat} {sc:Nat->Prop} {env env':Pu} {H H':Hp} {Q Q':Exit->Act->World->Prop} {M:Nat->Prop}
def Yol(P:Program)(f:FuncId)(args:Array Value)(pre:List Pc){G:Type}(φ:G->Prop)(Yq:G->Value)(a:G->Pc):Prop:=
 ∀w,(∀p∈pre,p.holds w)->Calls P f args w λe c=>∃g,e= .returned (Yq g)/\φ g/\Below w.heap.size w c/\(a g).holds c/\∀b,(a g).fp b->w.heap.size<=b
theorem Zd9 (n:Nat)        {G:Type} {φ:G->Prop} {Yq:G->Value} {m:G->Pc}  
  (V:Yol P f vs.toArray pre φ Yq m)
  (ho:o.op= .call { callee:= .value (.func f),args:=xs.toArray,argTypes:=ats }) (W:o.dst=some d) (S:Nat.blt d N=true)
  (q:EvL env xs vs) (s:∀args w,(callFunc f args).run P w= .ok (.enter f args) w) (l:PreOk H false pre)
  (I:lk H 0=some (Yx w0 M0)) (hw:∀b,w0.heap.size<=b->sc b) :
  T P N sc M o env H φ (λg=>(d,Yq g)::env) (λg=>(n,m g)::H):=λa w hs K Q R=>by
 have hr:(execOp a.eval o).run P w= .ok (.enter f vs.toArray) w:=by grind [Ix]
 unfold Oper.wp;rw [hr];refine(V w (λp hp=>by obtain⟨i,m,_,hi,h,_,_⟩:=l.mem p hp;exact h w (hs.hold i m hi))).mono ?_
 rintro e w' ⟨g,rfl,Y,c,z,u⟩;rw [W];have B:=hs.chg0 (Chg.of_below c);refine R g _ _ Y (Sat.put (B.add n _ z (λj F _ Z _ b D r=>?_) (λb D=>hw b (aB (hs.hold 0 _ I).size (u b D)))) d _ S) (Chg.of_below c);have:=F.lt w b (hs.hold j F Z) r;grind
def Yoh(P:Program)(fn:Func)(w0:World){G:Type}(φ:G->Prop)(Yq:G->Value)(a:G->Pc):Exit->Act->World->Prop:=
 bodyPost P fn λe c=>∃g,e= .returned (Yq g)/\φ g/\Below w0.heap.size w0 c/\(a g).holds c/\∀b,(a g).fp b->w0.heap.size<=b
theorem Ztd   {c:Code}   {G:Type} {φ:G->Prop} {Yq:G->Value} {u:G->Pc} {N:Nat}
  (D:P.funcs[f]? = some fn) (g:fn.body=some c) (W:fn.ntmps=N) (m:Nat.ble vs.length N=true) (n:AllRo pre)
  (h:∀w0 (sc:Nat->Prop),(∀b,w0.heap.size<=b->sc b)->(∀b,sc b->w0.heap.size<=b\/∃q∈pre,q.fp b)->
   E P N sc c (Yoh P fn w0 φ Yq u) (Qv 0 vs) ((0,Yx w0 (λ_=>False))::Yz 1 pre)) :
  Yol P f vs.toArray pre φ Yq u:=λw Z=>by
 refine calls_of_wp D g (h w _ (λb g=> .inl g) (λb g=>g) _ w ?_);have m:vs.length<=N:=O10;have a:∀i p,lk ((0,Yx w (λ_=>False))::Yz 1 pre) i=some p->(i=0/\p=Yx w (λ_=>False))\/(i≠0/\p∈pre/\p.own=false):=λi p hi=>by
   by_cases r:0=i
   .grind [Yl]
   .rw [Zx _ _ r]at hi;obtain⟨_,l⟩:=Nt pre 1 i p hi;exact .inr ⟨λe=>r e.symm,l,n.mem p l⟩
 refine⟨O4,rfl,λt v V=>?_,λi p hi=>?_,λi j p q R hi Y S b g B=>?_,λi p F hi b g=>?_⟩
 .have z:vs.toArray[t]? = some v:=by simpa using(Ge vs 0 t v V).2
  have I:=(aS.1 z).1;simp_all [bO,dY]
 .rcases a i p hi with⟨_,rfl⟩|⟨_,l,_⟩
  .exact Chg.refl _ w
  grind
 .rcases a i p hi with⟨_,rfl⟩|⟨_,l,s⟩
  .cases S
  grind
 grind
theorem Zh6  {G:Type} {φ:G->Prop} {Yq:G->Value} {m:G->Pc}  {e:Exit} (s:e= .ret\/e= .normal)
  (g:G)  (l:∀a w,Sat N sc env H a w->(results fn a.tmps).run P w= .ok v w) (I:Yq g=v) (u:φ g) (q:lk H 0=some (Yx w0 (λ_=>False)))
  (i:Nat) (B:Nat.beq i 0=false) (hi:lk H i=some (m g)) (j:(m g).own=true) :
  X N sc e (Yoh P fn w0 φ Yq m) env H:=λa w hs=>by
 have c:i≠0:=λe=>O10;have F:a.defers=[]/\∃v,(results fn a.tmps).run P w= .ok v w/\(∃g,Ending.returned v= .returned (Yq g)/\φ g/\Below w0.heap.size w0 w/\(m g).holds w/\∀b,(m g).fp b->w0.heap.size<=b):=by
  refine⟨hs.defers,v,l a w hs,g,O4,u,Ib (hs.hold 0 _ q),hs.hold i _ hi,λb r=>?_⟩;have D:=hs.sep i 0 _ _ c hi q j b r;rcases aX b _ with n|z
  .exact absurd ⟨n,λh=>h⟩ D
  omega
 rcases s with rfl|rfl
 all_goals assumption
theorem Zsw{α:Type}{s e:TypeId}{i:Nat}{enc:α->Value}{xs:List α}(g:o.op= .binOp .eql t x y s)(j:ev env x=some v)(l:ev env y=some (.slice none 0 0))(m:lk H i=some p)(n:Rd p k enc v xs)(r:P.underlying t=some (.slice e)) :
  Li P N sc o env H (.bool (v.ownBlock.isNone)):=λa w hs=>by
 obtain⟨b,c,rfl,_⟩:=n w (hs.hold i p m);have h:=Lib.run_eql_slice_nil w t e b xs.length c 0 0 r;cases b with
 | none=>simp [execOp,g,hs.ev j,hs.ev l,eqGuard,h,Value.ownBlock]
 | some q=>simp [execOp,g,hs.ev j,hs.ev l,eqGuard,h,Value.ownBlock]
theorem Pt (i:Nat)(j:Nat)(m:Nat) {α:Type}   {e:TypeId}  {u:Value} {enc:α->Value} {xs ys:List α}  {ti:TypeInfo} {z:Value}  
  (ho:o.op= .call { callee:= .builtin .append,args:=#[x,y],argTypes:=#[t,t] }) (hd:o.dst=some d) (hN:Nat.blt d N=true)
  (hx:ev env x=some v) (hy:ev env y=some u) (W:lk H i=some (Of k e enc v xs)) (F:i≠0) (hj:lk H j=some p) (hr:Rd p k enc u ys)
  (ht:P.underlying t=some (.slice e)) (hi:P.info? e=some ti) (hz:ti.zero=some z) (he:Enc P e k enc) (a1:ti.size=k) (Z:ti.bytes=m) (a3:z.cells.size=k)
  (Y:(xs.length+ys.length)*m<=140737488355328) (B:0<m)
  (h0:lk H 0=some (Yx w0 M0)) (hw:∀b,w0.heap.size<=b->sc b) :
  T P N sc (λ_=>True) o env H (G:=Value) (λ_=>True) (λv'=>(d,v')::env) (λv'=>(i,Of k e enc v' (xs ++ ys))::H):=by
 by_cases S:ys=[]
 .subst S;intro a w hs K Q hK;have h:w.ownsRow 0 e k v xs.length (cellsOf enc xs):=hs.hold i _ W;obtain⟨V,c,rfl,h1,h2,h3⟩:=hr w (hs.hold j p hj);have I:∃l n r,v= .slice l n r/\n=xs.length/\n<=r:=by
   rcases h.2 with⟨rfl,hn⟩|⟨g,a4,a5,rfl,_,_,s,_⟩
   all_goals grind
  obtain⟨l,n,r,rfl,rfl,s⟩:=I;have R:(Builtin.append_ #[t,t] o.type #[.slice l xs.length r,.slice V ([]:List α).length c]).run P w= .ok (.slice l xs.length r) w:=by
   have D:(Builtin.firstCells ti.size 0 (.slice V 0 c)).run P w= .ok #[] w:=by
    cases V with
    | none=>rfl
    | some q=>simp [Builtin.firstCells,loadCells,loadCellsFrom]
   cases l with
   | none=>simp [Builtin.append_,run_underlying ht,sizeOf,typeInfo,hi,Builtin.lenOf,D,s]
   | some q=>simp [Builtin.append_,run_underlying ht,sizeOf,typeInfo,hi,Builtin.lenOf,D,s,storeCells]
  have a2:(execOp a.eval o).run P w= .ok (.value (.slice l xs.length r)) w:=by simp only [execOp,ho,resolve,invoke,builtin,Sem.run_bind,Sem.run_pure,Result.andThen_ok,fV,bP,iA,hs.ev hx,hs.ev hy,R]
  unfold Oper.wp;rw [a2];show K (a.put o.dst _) _;rw [hd];refine hK _ _ _ aA ((Sat.upd hs W rfl F (q:=Of k e enc (.slice l xs.length r) (xs ++ [])) (Chg.refl _ w) ?_ (λb Y=> .inl Y) h0 hw).put d _ hN) (Chg.refl _ w);rw [iG];exact h
 .exact t_app (i2:=0) ho hd hN hx hy W F hj hr S ht hi hz he a1 Z a3 Y B h0 hw
def Zfo(v:Value)(n k:Nat):Value:=match v with
 | .slice a l c=> .slice (if c=n then a else a.map (·.add (n*k))) (l-n) (c-n)
 | u=>u
theorem Zfe(v:Value)(n k:Nat):(Zfo v n k).ownBlock=v.ownBlock:=by
 cases v with
 | slice a l c=>
  cases a with
  | none=>simp only [Zfo];split<;>rfl
  | some q=>
   simp only [Zfo];split
   .rfl
   .simp only [Option.map_some,Value.ownBlock,Addr.add];split<;>rfl
 | _=>rfl
theorem d_suf {α:Type}   {e:TypeId}  {ii i:Nat}  {m:Int}  {enc:α->Value} {xs:List α} (l:o.op= .slice t x (some y) none none)
  (r:ev env x=some v) (s:ev env y=some (.int kd m)) (j:lk H ii=some p) (n:Rd p k enc v xs) (q:P.underlying t=some (.slice e)) (h:∀w,(sizeOf e).run P w= .ok k w)
   (b:m=(i:Int):=by omega) (g:i<=xs.length:=by omega):Li P N sc o env H (Zfo v i k):=λa w hs=>by
 obtain⟨u,c,rfl,z,B,D⟩:=n w (hs.hold ii p j);subst b;simp [execOp,l,hs.ev r,hs.ev s,Instr.sliceAt,Instr.slice,Instr.sliceBounds,Instr.sliceBound,asIntOf,run_underlying q,h,g,Zfo]
theorem Zo9{α:Type}{w:World}{enc:α->Value}{xs:List α}(n:Nat)(z:n<=xs.length)(h:RowAt w k enc v xs):RowAt w k enc (Zfo v n k) (xs.drop n):=by
 obtain⟨a,c,rfl,q,r,e⟩:=h;refine⟨if c=n then a else a.map (·.add (n*k)),c-n,by simp only [Zfo,gQ],O4,O,?_⟩;by_cases l:xs.drop n=[]
 .grind
 .have m:n<xs.length:=by grind
  rcases e with rfl|⟨g,b,rfl,e⟩
  .simp
  .refine .inr ⟨g,b+n*k,?_,λi x hi j u s=>?_⟩
   .simp [aG,Ol]<;>omega
   grind
theorem Zy4{α:Type}{xs:List α}{n b:Nat}(h:xs.drop n≠[]/\(Zfo v n k).ownBlock=some b):xs≠[]/\v.ownBlock=some b:=
 ⟨λe=>h.1 O4,by grind [Zfe]⟩
theorem s_suf{α:Type}{enc:α->Value}{xs:List α}(i j n:Nat)(hi:lk H i=some (Yy k enc v xs))(r:Nat.beq i 0=false)(s:n<=xs.length:=by omega):∀a w,Sat N sc env H a w->Sat N sc env ((j,Yy k enc (Zfo v n k) (xs.drop n))::H) a w:=
 λa w hs=>hs.add j _ ⟨Zo9 n s (hs.hold i _ hi).1,λb c=>(hs.hold i _ hi).2 b (Zy4 c)⟩
  (λm z u l Hf b c h=>by
   rcases Hf with Hf|Hf
   .cases Hf
   .have q:=Zy4 c;by_cases g:m=i
    .subst g;rw [hi]at l;cases l;cases Hf
    .exact hs.sep m i z _ g l hi Hf b h q)
  (λb c=>hs.scope i _ (λe=>O10) hi b (Zy4 c))
end Go.Sky
namespace Go.Sky
open Go.RowKit Below
variable{o:Oper}{t:TypeId}{parts:List (Nat×Operand)}{cells cs:Array Value}{z:Value}{k d:Nat}{w0:World}{M0:Nat->Prop}
variable {P:Program} {N:Nat} {sc:Nat->Prop} {env env':Pu} {H H':Hp} {Q Q':Exit->Act->World->Prop} {M:Nat->Prop}
def EvP(e:Pu):List (Nat×Operand)->List (Nat×Value)->Prop
 | [],[]=>True
 | (i,x)::r,(j,v)::vs=>i=j/\ev e x=some v/\EvP e r vs
 | _,_=>False
theorem EvP.map{a:Act}{w:World}(h:Sat N sc env H a w):∀{xs:List (Nat×Operand)} {vs:List (Nat×Value)},EvP env xs vs->xs.map (λ(i,x)=>(i,a.eval x))=vs
 | [],[],_=>rfl
 | (i,x)::r,(j,v)::vs,hh=>by obtain⟨rfl,b,c⟩:=hh;simp only [bP,h.ev b,EvP.map h c]
 | [],_::_,hh=>hh.elim
 | _::_,[],hh=>hh.elim
theorem Qf (b:List (Nat×Value))      (e:o.op= .build t parts.toArray) (f:EvP env parts b)
  (c:∀a w,Sat N sc env H a w->P.built t b=some cells):Li P N sc o env H (.agg cells):=λa w hs=>by
 have h:=run_build (P:=P) w t (parts.toArray.map λ(i,x)=>(i,a.eval x)) cells (by rw [fV,f.map hs];exact c a w hs);simp only [execOp,e,Sem.run_bind,h,Result.andThen_ok,Sem.run_pure]
 try rfl
theorem Pf  {b:TypeInfo} {a:Array Field}  {pl:List (Nat×Nat)} {parts:List (Nat×Value)}  (hi:P.info? t=some b) (g:P.underlying t=some (.struct a)) (h:b.zero=some z)
  (e:a.toList.mapM (λf=>(P.info? f.type).map λi=>(f.offset,i.size))=some pl) (c:Instr.fill (pl.toArray[·]?) z.cells parts=some cells):P.built t parts=some cells:=by
 unfold Program.built;simp only [hi,g,h,e,c]
theorem Zj3(w:World)(t e:TypeId)(a:P.underlying t=some (.slice e))(hs:∀w,(sizeOf e).run P w= .ok k w) :
  (Instr.buildSlice t 0 #[]).run P w= .ok (.slice (some ⟨w.heap.size,0,none⟩) 0 0) (w.alloc (.cells #[] e)):=by
 simp [Instr.buildSlice,run_underlying a,hs,Instr.fill,newRow];rw [show(Array.range 0)=#[] by decide,Array.map_empty]
theorem Xs (c:List (Nat×Value))(i:Nat) {α:Type}  {e:TypeId} {n:Nat}       {enc:α->Value} {ti:TypeInfo}  (xs:List α)
  (u:o.op= .buildSlice t n parts.toArray) (m:o.dst=some d) (B:EvP env parts c)
  (y:P.underlying t=some (.slice e)) (hi:P.info? e=some ti) (F:ti.zero=some z) (h:Nat.ble (n*ti.size) 16777216=true) 
  (p:Instr.fill (λi=>some (i*ti.size,ti.size)) ((List.range (n*ti.size)).map (z.cells[· % z.cells.size]!)).toArray c=some cs)
  (g:cs.toList=cellsOf enc xs) (s:xs.length=n) (q:∀x,(enc x).cells.size=k) (r:Nat.ble n 16777216=true)
  (j:lk H 0=some (Yx w0 M0)) (D:∀b,w0.heap.size<=b->sc b) (l:Nat.blt d N=true:=by rfl) (f:Nat.blt 0 (n*ti.size)=true:=by rfl) :
  T P N sc M o env H (G:=Value) (λ_=>True) (λv=>(d,v)::env) (λv=>(i,Of k e enc v xs)::H):=
 t_bsn xs u m l (λa w hs=>run_buildSlice w t e n _ cs ti z y hi F (by have:=iK h;omega) (by have:=Nat.blt_eq▸f;simp at f;omega) (by rw [show(parts.toArray.map λ(i,x)=>(i,a.eval x)).toList=c by rw [fV,B.map hs],show(Array.range (n*ti.size)).map (z.cells[· % z.cells.size]!)=((List.range (n*ti.size)).map (z.cells[· % z.cells.size]!)).toArray by rw [<-fV,<-Array.toList_range,Array.toArray_toList]];exact p)) g s q (by have:=iK r;simp only [maxLen];omega) j D
theorem Yhm (i:Nat) {α:Type}  {e:TypeId}     {enc:α->Value} 
  (j:o.op= .buildSlice t 0 #[]) (h:o.dst=some d) (g:Nat.blt d N=true) (l:P.underlying t=some (.slice e)) (c:Enc P e k enc)
  (f:lk H 0=some (Yx w0 M0)) (m:∀b,w0.heap.size<=b->sc b) :
  T P N sc M o env H (G:=Value) (λ_=>True) (λv=>(d,v)::env) (λv=>(i,Of k e enc v [])::H):=
 t_bsn (n:=0) (cs:=#[]) (parts:=#[]) [] j h g (λa w hs=>by rw [Array.map_empty];exact Zj3 w t e l c.size) rfl rfl c.cells (by simp [maxLen]) f m
theorem Qw{α:Type}(i k:Nat)(e:TypeId)(enc:α->Value):∀a w,Sat N sc env H a w->Sat N sc env ((i,Of k e enc (.slice none 0 0) [])::H) a w:=λa w hs=>
 hs.add i _ ⟨by simp [cellsOf],.inl ⟨rfl,rfl⟩⟩ (λj l g h Hf b c f=>by cases c) (λb c=>by cases c)
theorem Yma{α:Type}{enc:α->Value}{v:Value}{xs:List α}{p:Pc}(i:Nat)(hi:lk H i=some p)(e:Rd p k enc v xs):∀a w,Sat N sc env H a w->(v.ownBlock=none->xs=[]):=λa w hs h=>by
 obtain⟨j,c,rfl,l,m,b⟩:=e w (hs.hold i p hi);rcases b with b|⟨g,f,rfl,_⟩
 .exact b
 .cases h
end Go.Sky
namespace Go.Sky
variable{t te:TypeId}{k i lo:Nat}{v u:Value}{xs:List Nat}{o:Oper}{x y:Operand}{p:Pc}{r:List Pc}{w w0:World}{cur:Array Value}{M0:Nat->Prop}
abbrev Lc (n:Nat):Value:= .int .u64 (n:Int)
abbrev Zka (n:Nat):Value:= .int .u8 (n:Int)
abbrev Im (n:Nat):Value:= .int .i64 (n:Int)
abbrev Yk (n:Int):Value:= .int .i64 n
theorem Zd6(xs:List Nat):(tz xs).length<=xs.length/\xs.take (tz xs).length=tz xs:=by
 induction hn:xs.length generalizing xs with
 | zero=>
   have:xs=[]:=aC hn;subst this;simp [tz]
 | succ n d=>
  rcases Zb9 xs with rfl|⟨b,y,rfl⟩
  .simp at hn
  .by_cases a:y=0
   .subst a;rw [Iw];obtain⟨e,c⟩:=d b (by simpa using hn);have f:b.length=n:=by simpa using hn
    exact⟨O,by rw [kF O];exact c⟩
   .rw [Ct _ _ a];exact⟨O,bQ⟩
theorem Zbh{P:Program}{N:Nat}{sc:Nat->Prop}{env:Pu}{H:Hp}{enc:Nat->Value}{e:TypeId}(i:Nat)(hi:lk H i=some (Of k e enc v xs))(b:Nat.beq i 0=false)(c:Enc P t k enc) :
  ∀a w,Sat N sc env H a w->Sat N sc env ((i,Of k e enc (Kw v (tz xs).length) (tz xs))::H) a w:=by
 have h:=s_opre (N:=N) (sc:=sc) (env:=env) i (tz xs).length hi b c (Zd6 xs).1;rwa [(Zd6 xs).2]at h
abbrev Dr (v:Value) (x:Nat):Pc:=Yy 1 Lc v (dg U x)
theorem Qc:2<=U:=by simp [U]
def Qq(x:Nat):ByteArray:=⟨((dg 256 x).reverse.map UInt8.ofNat).toArray⟩
theorem Ee(x:Nat):(Qq x).size=(dg 256 x).length:=by simp [Qq,ByteArray.size]
theorem Znt(x i:Nat)(h:i<(dg 256 x).length):((Qq x).data.toList.getD i 0).toNat=x/256^((dg 256 x).length-1-i)%256:=by
 have c:i<((dg 256 x).reverse.map UInt8.ofNat).length:=by simpa using h
 have d:(Qq x).data.toList=(dg 256 x).reverse.map UInt8.ofNat:=by simp [Qq]
 rw [d];simp only [List.getD,aN c,eV,List.getElem_map,List.getElem_reverse];have a:=Hr (b:=256) O ((dg 256 x).length-1-i) x;have e:(dg 256 x).length-1-i<(dg 256 x).length:=O;rw [show(dg 256 x).getD ((dg 256 x).length-1-i) 0=(dg 256 x)[(dg 256 x).length-1-i] by simp [List.getD,e]]at a;rw [a];simp
open Go.RowKit Below
variable {P:Program} {N:Nat} {sc:Nat->Prop} {env env':Pu} {H H':Hp} {Q Q':Exit->Act->World->Prop} {M:Nat->Prop}
theorem d_mid {α:Type}  {z:Operand} {e:TypeId}  {ii j:Nat} {S l:IntKind} {m n:Int}  {enc:α->Value} {xs:List α} (B:o.op= .slice t x (some y) (some z) none)
  (G:ev env x=some v) (I:ev env y=some (.int S m)) (R:ev env z=some (.int l n)) (s:lk H ii=some p) (D:Rd p k enc v xs) (F:P.underlying t=some (.slice e)) (h:∀w,(sizeOf e).run P w= .ok k w)
  (d:m=(i:Int)) (f:n=(j:Int)) (b:i<=j) (g:j<=xs.length):Li P N sc o env H (Kw (Zfo v i k) (j-i)):=λa w hs=>by
 obtain⟨V,c,rfl,W,Y,Z⟩:=D w (hs.hold ii p s);subst d f;have q:j<=c:=O;simp [execOp,B,hs.ev G,hs.ev I,hs.ev R,Instr.sliceAt,Instr.slice,Instr.sliceBounds,Instr.sliceBound,asIntOf,run_underlying F,h,g,b,q,Zfo,Kw]
def Zei {α:Type}  {e:TypeId} {enc:α->Value}  {xs ys:List α}   (i:Nat) (hi:lk H i=some (Of k e enc v xs)) (j:Nat.beq i 0=false) (g:Enc P t k enc)
  (c:∀w,RowAt w k enc v xs->RowAt w k enc u ys) (a:u.ownBlock=v.ownBlock) (h:PreOk H false r):PreOk H false (Yy k enc u ys::r):=
 ⟨⟨i,_,λe=>O10,hi,λw f=>⟨c w (Ar g.cells f),λb d=>(f.lt b O4).2⟩,λb d=>a.symm.trans d.2,λh=>O4⟩,h⟩
theorem Zkm{α:Type}{enc:α->Value}{xs:List α}(lo hi:Nat)(a:lo<=hi:=by omega)(b:hi<=xs.length:=by omega):∀w,RowAt w k enc v xs->RowAt w k enc (Kw (Zfo v lo k) (hi-lo)) ((xs.drop lo).take (hi-lo)):=
 λw h=>Zee _ O4 (Zo9 lo O h)
theorem Zk9{n:Nat}:(Kw (Zfo v lo k) n).ownBlock=v.ownBlock:=by rw [Gz,Zfe]
theorem Yi2{enc:Nat->Value}{ys zs:List Nat}{n:Nat}(c:tz ys=zs)(a:n=zs.length)(h:∀w,RowAt w k enc v xs->RowAt w k enc u ys):∀w,RowAt w k enc v xs->RowAt w k enc (Kw u n) zs:=λw b=>by grind [Zee,Zd6]
theorem Ztc{α:Type}{enc:α->Value}(a:∀x,(enc x).cells.size=k)(xs:List α)(n:Nat)(b:n<=xs.length):cellsOf enc (xs.take n)=(cellsOf enc xs).take (n*k):=by have h:=Ip enc (xs.take n) (xs.drop n);simp_all [fG,Xk,cD,dJ,List.take_left]
def spl{α:Type}(xs:List α)(lo:Nat)(ys:List α):List α:=xs.take lo ++ ys ++ xs.drop (lo+ys.length)
theorem Ha{α:Type}(xs:List α)(lo:Nat)(ys:List α)(h:lo+ys.length<=xs.length):(spl xs lo ys).length=xs.length:=by simp [spl];omega
theorem Yqq {α:Type}  {g a:Nat}   {e:TypeId} {enc:α->Value} {xs ys:List α} (f:∀x,(enc x).cells.size=k) (lo:Nat) (c:lo+ys.length<=xs.length)
  (D:w.heap[g]? = some (.cells cur e (0,0))) (m:xs.length<=a) (d:a<=maxLen) (B:cur.size=a*k) (b:cur.toList.take (xs.length*k)=cellsOf enc xs) :
  (w.setRow g (cur.toList.take (lo*k) ++ cellsOf enc ys ++ cur.toList.drop (lo*k+(cellsOf enc ys).length)).toArray).ownsRow 0 e k (.slice (some ⟨g,0,none⟩) xs.length a) (spl xs lo ys).length (cellsOf enc (spl xs lo ys)):=by
 have l:=Xk f ys;have j:(lo+ys.length)*k<=xs.length*k:=aL _ c;have n:xs.length*k<=a*k:=aL _ m;rw [cK]at j;refine⟨by rw [Xk f],.inr ⟨g,a,_,by grind [Ha],Nat.zero_le _,setRow_heap w g cur _ e _ D,by grind [Ha],d,?_,?_⟩⟩
 .grind
 .rw [Ha _ _ _ c];have s:cellsOf enc (xs.take lo)=cur.toList.take (lo*k):=by rw [Ztc f xs lo O,<-b,gP,dJ O]
  have z:cellsOf enc (xs.drop (lo+ys.length))=(cur.toList.take (xs.length*k)).drop ((lo+ys.length)*k):=by have h:=Ip enc (xs.take (lo+ys.length)) (xs.drop (lo+ys.length));rw [fG,<-b]at h;grind [List.drop_left',Xk,List.length_take,Nat.min_eq_left]
  rw [spl,Ip,Ip,s,z,l,cK];apply iN;intro q;have F:(cur.toList.take (lo*k)).length=lo*k:=O4;grind
def Dst(v u:Value)(a k lo n:Nat):Prop:=∀g c,v= .slice (some ⟨g,0,none⟩) a c->a<=c->∃b,u= .slice (some ⟨g,lo*k,none⟩) n b
def Yml{a:Nat}:Dst v v a k 0 a:=λg c h _=>⟨c,O4⟩
theorem Yc6{a:Nat}{n:Nat}(h:lo<a):Dst v (Kw (Zfo v lo k) n) a k lo n:=λg c b d=>by rw [b];simp only [Zfo,Kw];simp [aG,Ol]<;>omega
theorem Ye9{α:Type}{enc:α->Value}{ys:List α}(a:Enc P t k enc)(h:RowAt w k enc u ys):(Builtin.firstCells k ys.length u).run P w= .ok (cellsOf enc ys).toArray w/\(Builtin.lenOf u).run P w= .ok ys.length w:=by
 obtain⟨s,c,rfl,D,F,m⟩:=h;refine⟨?_,by rfl⟩;rcases m with rfl|⟨g,l,rfl,m⟩
 .cases s with
  | none=>rfl
  | some q=>simp [Builtin.firstCells,cellsOf,loadCells,loadCellsFrom]
 .have f:∀q u,(cellsOf enc ys)[q]? = some u->w.cell? ((⟨g,l,none⟩:Addr).add q)=some u:=λq u S=>by
   have z:q<ys.length*k:=by rw [<-Xk a.cells ys];grind
   have n:=a.pos;have d:q/k<ys.length:=iQ O4;have b:=aN d;have e:q%k<(enc ys[q/k]).cells.toList.length:=by rw [eR,a.cells];simp_all [bJ]
   have B:=aN e;have G:=Gf a.cells ys _ _ b _ _ B;grind [Nat.mul_comm,Nat.div_add_mod,Nat.add_assoc,Ol]
  have R:=Xk a.cells ys;have:=run_loadCells (P:=P) (w:=w) _ (ys.length*k) (λj=>(cellsOf enc ys).getD j undef) (λj I=>f j _ O4);rw [show(List.range _).map _=cellsOf enc ys by
   apply iW
   all_goals grind]at this
  exact this
theorem Yae {α:Type} {a:Act}   {e:TypeId}  {enc:α->Value} {xs ys:List α}   (hs:Sat N sc env H a w) (G:lk H i=some (Of k e enc v xs)) (z:i≠0) (s:Enc P t k enc)
  (D:lo+ys.length<=xs.length) (hp:0<xs.length) (S:lk H 0=some (Yx w0 M0)) (Y:∀b,w0.heap.size<=b->sc b)  {n:Nat} (l:Dst v u xs.length k lo n) :
  ∃g c w',u= .slice (some ⟨g,lo*k,none⟩) n c/\(storeCells ⟨g,lo*k,none⟩ (cellsOf enc ys)).run P w= .ok () w'/\Sat N sc env ((i,Of k e enc v (spl xs lo ys))::H) a w'/\Chg (λ_=>True) w w':=by
 have j:=hs.hold i _ G;rcases j.2 with⟨rfl,hn⟩|⟨g,f,cur,rfl,hb,I,h,m,q,d⟩
 .omega
 .obtain⟨R,l⟩:=l g f rfl h;have W:=Xk s.cells ys;have B:(lo+ys.length)*k<=f*k:=aL _ O;rw [cK]at B;have F:=run_storeCells_at P g (lo*k) e (cellsOf enc ys) 0 cur w I O (λu l=>by obtain⟨y,_,Z⟩:=kC.1 l;exact s.one y u Z)
  exact⟨g,R,_,l,F,hs.upd G rfl z (Ku rfl) (Yqq s.cells lo D I h m q d) (λk V=> .inl V) S Y,Ku aA⟩
theorem t_cpy (i:Nat)(j:Nat) {α:Type}   {t' e:TypeId} {n d:Nat} {z:Value} {enc:α->Value} {xs ys:List α}    (lo:Nat)
  (ho:o.op= .call { callee:= .builtin .copy,args:=#[x,y],argTypes:=#[t,t'] }) (W:o.dst=some d) (S:Nat.blt d N=true)
  (hx:ev env x=some u) (hy:ev env y=some z) (I:lk H i=some (Of k e enc v xs)) (h:i≠0) (Y:lk H j=some p) (hr:Rd p k enc z ys)
  (hu:Dst v u xs.length k lo n) (Z:ys.length<=n) (l:lo+ys.length<=xs.length) (hp:0<xs.length) (ht:P.underlying t=some (.slice te)) (f:Enc P te k enc)
  (B:lk H 0=some (Yx w0 M0)) (hw:∀b,w0.heap.size<=b->sc b) :
  T P N sc (λ_=>True) o env H (G:=Unit) (λ_=>True) (λ_=>(d,.int .i64 (ys.length:Int))::env) (λ_=>(i,Of k e enc v (spl xs lo ys))::H):=λa w hs K Q R=>by
 obtain⟨g,c,w',rfl,s,q,V⟩:=Yae hs I h f l hp B hw hu;obtain⟨D,F⟩:=Ye9 f (hr w (hs.hold j p Y));have m:(execOp a.eval o).run P w= .ok (.value (.int .i64 (ys.length))) w':=by simp [execOp,ho,resolve,invoke,builtin,hs.ev hx,hs.ev hy,Builtin.copy_,run_underlying ht,F,dJ Z,f.size,D,s,goInt]
 unfold Oper.wp;rw [m];show K _ _;rw [W];exact R () _ _ aA (q.put d _ S) V
theorem t_clr {α:Type}   {e:TypeId} {n:Nat} {zv:Value} {enc:α->Value} {xs:List α} {z:α}   (lo:Nat)
  (ho:o.op= .call { callee:= .builtin .clear,args:=#[x],argTypes:=#[t] }) (Y:o.dst=none)
  (hx:ev env x=some u) (S:lk H i=some (Of k e enc v xs)) (l:i≠0)
  (hu:Dst v u xs.length k lo n) (hn:0<n) (Z:lo+n<=xs.length) (ht:P.underlying t=some (.slice te)) (h:Enc P te k enc)
  (hz:∀w,(zeroValue te).run P w= .ok (enc z) w) (I:k=1)
  (R:lk H 0=some (Yx w0 M0)) (hw:∀b,w0.heap.size<=b->sc b) :
  T P N sc (λ_=>True) o env H (G:=Unit) (λ_=>True) (λ_=>env) (λ_=>(i,Of k e enc v (spl xs lo (List.replicate n z)))::H):=λa w hs K Q V=>by
 obtain⟨g,c,w',rfl,D,B,W⟩:=Yae (ys:=List.replicate n z) hs S l h O4 O R hw hu;obtain⟨m,rfl⟩:∃m,n=m+1:=⟨n-1,O⟩;have d:(enc z).cells.toList=[(enc z).cells[0]'(by rw [h.cells];omega)]:=by
  have j:(enc z).cells.size=1:=by rw [h.cells,I]
  apply iW
  all_goals grind
 have F:(Builtin.zeroCells (enc z).cells (m+1)).toList=cellsOf enc (List.replicate (m+1) z):=by
  have j:(enc z).cells.size=1:=by rw [h.cells,I]
  have f:∀q,cellsOf enc (List.replicate q z)=List.replicate q ((enc z).cells[0]' O):=by
   intro q
   induction q with
   | zero=>rfl
   | succ q ih=>rw [jC,jC,<-ih];simp [cellsOf,d]
  rw [f];apply iW
  .simp [Builtin.zeroCells,j]
  .simp [Builtin.zeroCells,j,mI]
 have s:(execOp a.eval o).run P w= .ok (.value (.tuple #[])) w':=by simp [execOp,ho,resolve,invoke,builtin,hs.ev hx,Builtin.clear_,run_underlying ht,hz,F,D]
 unfold Oper.wp;rw [s];show K _ _;rw [Y];exact V () _ _ aA (B.put_none _) W
end Go.Sky
namespace Go.Sky
variable{listed:Array Bool}{m i:Nat}{ts:List Nat}{ops:Array Oper}{o:Oper}{F:Pu->Hp->Prop}{rest:List (Nat×Nat)}
variable {P:Program} {N:Nat} {sc:Nat->Prop} {env env':Pu} {H H':Hp} {Q Q':Exit->Act->World->Prop} {M:Nat->Prop}
theorem Zj (n:Nat) {l : List Oper}    (a : List (Nat × Nat))
     (h:LD P N sc M l.toArray (A P N sc M l.toArray ts Q n (Ev a listed)) a env H) (b:(Region.noSelect l.toArray && Fq l.toArray ts a listed && Nat.beq (a.length+n) m)=true:=by kernel_rfl):A P N sc M l.toArray ts Q m listed env H:=
  a_lin a b h (λ_ _ h=>h)
def aact   {n:Nat}   {G:Type} {φ:G->Prop} {a:G->Pu} {b:G->Hp} (e:T P N sc M o env H φ a b) (d:ops[i]? = some o) (c:o.guard=none)
    (h:∀g,φ g->A P N sc M ops ts Q n (listed.setIfInBounds i true) (a g) (b g)):Zf8 P N sc M ops ts Q n listed env H i:=⟨o,G,φ,a,b,d,c,e,h⟩
theorem Qy (n:Nat)     (i j:Nat) 
    (c:Zf8 P N sc M ops ts Q n listed env H i) (d:Zf8 P N sc M ops ts Q n listed env H j) (a:((Region.ready .any ops listed == [i,j]) && !(Fm ops ts listed) && !([i,j]:List Nat).isEmpty && Nat.beq (n+1) m)=true:=by kernel_rfl):A P N sc M ops ts Q m listed env H:=by
  rw [aR]at a;have e:=dU a.2;subst e;exact Yoc [i,j] a.1 (λq b=>by
    simp only [bB,dI,gR]at b;rcases b with rfl|rfl
    . exact c
    . exact d)
theorem Ko{G:Type}{φ:G->Prop}{a:G->Pu}{b:G->Hp}(d:ops[i]? = some o)(e:T P N sc M o env H φ a b)(h:∀g,φ g->LD P N sc M ops F rest (a g) (b g))(c:o.guard=none:=by rfl):LD P N sc M ops F ((i,1)::rest) env H:=r1 e d c h
theorem r3'{G:Type}{φ:G->Prop}{a:G->Pu}{b:G->Hp}(d:ops[i]? = some o)(e:T P N sc (λ_=>True) o env H φ a b)(h:∀g,φ g->LD P N sc M ops F rest (a g) (b g))(c:o.guard=none:=by rfl):LD P N sc M ops F ((i,3)::rest) env H:=r3 e d c h
def Kg   {n:Nat}   {G:Type} {φ:G->Prop} {a:G->Pu} {b:G->Hp} (d:ops[i]? = some o) (c:o.guard=none) (e:T P N sc M o env H φ a b)
    (h:∀g,φ g->A P N sc M ops ts Q n (listed.setIfInBounds i true) (a g) (b g)):Zf8 P N sc M ops ts Q n listed env H i:=aact e d c h
end Go.Sky
namespace Go.Sky
variable{o:Oper}{t t':TypeId}{x y:Operand}{a b:Bool}{ops:Array Oper}{F:Pu->Hp->Prop}{rest:List (Nat×Nat)}
variable {P:Program} {N:Nat} {sc:Nat->Prop} {env env':Pu} {H H':Hp} {Q Q':Exit->Act->World->Prop} {M:Nat->Prop}
theorem d_eqb(c:o.op= .binOp .eql t x y t')(e:ev env x=some (.bool a))(f:ev env y=some (.bool b))(d:P.underlying t=some .bool):Li P N sc o env H (.bool (a == b)):=λg w hs=>by simp [execOp,c,hs.ev e,hs.ev f,eqGuard,run_eql_bool w t a b d]
theorem d_neb(c:o.op= .binOp .neq t x y t')(e:ev env x=some (.bool a))(f:ev env y=some (.bool b))(d:P.underlying t=some .bool):Li P N sc o env H (.bool (a != b)):=λg w hs=>by simp [execOp,c,hs.ev e,hs.ev f,eqGuard,run_neq_bool w t a b d,bne]
theorem Xh   {i:Nat}   {d:Nat} {v:Value} (g:ops[i]? = some o) (e:o.dst=some d) (hs:Stb P N sc M o env H v)
  (h:LD P N sc M ops F rest ((d,v)::env) H) (f:o.guard=none:=by rfl) (c:Nat.blt d N=true:=by rfl):LD P N sc M ops F ((i,0)::rest) env H:=r0 hs g f e c h
end Go.Sky
namespace Go.Sky
open Go.RowKit Below
variable{b:Nat}{t:TypeId}{cs:Array Value}{o:Oper}{x:Operand}{v:Value}{f:FuncId}{xs:List Operand}{ats:Array TypeId}{vs:List Value}{pre:List Pc}{w0:World}{M0:Nat->Prop}{fn:Func}
variable {P:Program} {N:Nat} {sc:Nat->Prop} {env env':Pu} {H H':Hp} {Q Q':Exit->Act->World->Prop} {M:Nat->Prop}
def Kv(b:Nat)(t:TypeId)(cs:Array Value):Pc:=
  { own:=false,fp:=λk=>k=b,holds:=λw=>w.heap[b]? = some (.cells cs t (0,0))
    lt:=λw k h c=>by subst c;exact(aS.1 h).1
    stable:=λw e h a=>by rw [<-h];exact a.block b (aS.1 h).1 (λd=>d rfl) }
theorem Zfr(i:Nat)(hi:lk H i=some (box b t cs))(z:Nat.beq i 0=false):∀a w,Sat N sc env H a w->Sat N sc env ((i,Kv b t cs)::H) a w:=λa w hs=>by
    have u:i≠0:=λe=>O10;refine⟨hs.size,hs.defers,hs.env,λj h c=>?_,λj s h r n c d q b k l=>?_,λj h p c b k=>?_⟩
    . by_cases g:i=j
      . subst g;rw [Yl]at c;cases c;have y:=hs.hold i _ hi;exact y
      . rw [Zx _ _ g]at c;exact hs.hold j h c
    . by_cases g:i=j
      . subst g;rw [Yl]at c;cases c;cases q
      . rw [Zx _ _ g]at c;by_cases m:i=s
        . subst m;rw [Yl]at d;cases d;exact hs.sep j i h _ n c hi q b k l
        . rw [Zx _ _ m]at d;exact hs.sep j s h r n c d q b k l
    . by_cases g:i=j
      . subst g;rw [Yl]at c;cases c;exact hs.scope i _ u hi b k
      . rw [Zx _ _ g]at c;exact hs.scope j h p c b k
theorem d_lr   {m:TypeId} {i j:Nat}   (e:o.op= .load t x)
    (l:ev env x=some (.pointer (some ⟨b,j,none⟩))) (d:lk H i=some (Kv b m cs)) (g:∀w,(isAgg t).run P w= .ok false w) (k:cs[j]? = some v):Li P N sc o env H v:=λa w hs=>by
  have c:w.heap[b]? = some _:=hs.hold i _ d;have h:w.cell? ⟨b,j,none⟩=cs[j]?:=by simp [World.cell?,c]
  rw [k]at h;simp [execOp,e,hs.ev l,Instr.loadAt,Instr.sureAddr,loadVar,g,load,Sem.run,h]
def Zd3(P:Program)(f:FuncId)(args:Array Value)(pre:List Pc)(al:Bool)(b:Nat)(t:TypeId)(cs:Array Value){G:Type}(φ:G->Prop)(Yq:G->Value)(cs':G->Array Value)(a:G->List Pc):Prop:=
  ∀w,(∀p∈pre,p.holds w/\¬p.fp b)->(box b t cs).holds w->Calls P f args w λe c=>∃g,e= .returned (Yq g)/\φ g/\Chg (λk=>k=b) w c/\(box b t (cs' g)).holds c/\
    ∀p∈a g,p.holds c/\p.own=false/\∀k,p.fp k->w.heap.size<=k\/(al=true/\∃q∈pre,q.fp k)
theorem Pb (n:Nat)(i:Nat)     {d:Nat}     {al:Bool} {G:Type} {φ:G->Prop} {Yq:G->Value} {cs':G->Array Value} {Z:G->List Pc}  
    (hc:Zd3 P f vs.toArray pre al b t cs φ Yq cs' Z)
    (ho:o.op= .call { callee:= .value (.func f),args:=xs.toArray,argTypes:=ats }) (hd:o.dst=some d) (hN:Nat.blt d N=true)
    (a1:EvL env xs vs) (a2:∀args w,(callFunc f args).run P w= .ok (.enter f args) w) (hH:lk H i=some (box b t cs)) (a3:i≠0) (s:PreOk (drp i H) al pre)
    (h0:lk H 0=some (Yx w0 M0)) (hw:∀b,w0.heap.size<=b->sc b) (hM:M b) :
    T P N sc M o env H φ (λg=>(d,Yq g)::env) (λg=>adds n (Z g) ((i,box b t (cs' g))::H)):=λa w hs K Q hK=>by
  have hr:(execOp a.eval o).run P w= .ok (.enter f vs.toArray) w:=by grind [Ix]
  unfold Oper.wp;rw [hr];have B:=hs.hold i _ hH;refine(hc w (λp hp=>by obtain⟨j,R,_,l,S,m,_⟩:=s.mem p hp;obtain⟨I,l⟩:=Cd _ _ _ _ l;exact⟨S w (hs.hold j R l),λhb=>hs.sep i j _ R (gX I) hH l rfl b rfl (m b hb)⟩) B).mono ?_
  rintro e w' ⟨g,rfl,hg,c,D,V⟩;rw [hd];have a5:=hs.upd hH rfl a3 c D (λk F=> .inl F) h0 hw;have a0:Chg M w w':=⟨c.os,c.tape,c.output,c.size,λk F hn=>c.block k F (λe=>hn O4)⟩;refine hK g _ _ hg (Sat.put (a5.adds (w1:=w) _ n ?_) d _ hN) a0;intro p hp;obtain⟨h1,h2,h3⟩:=V p hp;refine⟨h1,h2,λk F=>?_,λj jt l Y k F y=>?_⟩
  . rcases h3 k F with h|⟨_,q,hq,z⟩
    . exact hw k (aB (hs.hold 0 _ h0).size h)
    . obtain⟨j,R,W,l,_,m,_⟩:=s.mem q hq;exact hs.scope j R W (Cd _ _ _ _ l).2 k (m k z)
  . have a7:k<w.heap.size:=by
      by_cases r:i=j
      . subst r;rw [Yl]at l;cases l;have:=y;subst this;exact(aS.1 B).1
      . rw [Zx _ _ r]at l;exact jt.lt w k (hs.hold j jt l) y
    rcases h3 k F with h|⟨a6,q,hq,z⟩
    . omega
    . obtain⟨j',R,W,u,_,m,a8⟩:=s.mem q hq;obtain⟨I,u⟩:=Cd _ _ _ _ u;by_cases r:i=j
      . subst r;rw [Yl]at l;cases l;exact hs.sep i j' _ R (gX I) hH u rfl k y (m k z)
      . rw [Zx _ _ r]at l;by_cases a4:j=j'
        . grind
        . exact hs.sep j j' jt R a4 l u Y k y (m k z)
def Yok(P:Program)(fn:Func)(w0:World)(pre:List Pc)(al:Bool)(b:Nat)(t:TypeId){G:Type}(φ:G->Prop)(Yq:G->Value)(cs':G->Array Value)(a:G->List Pc):Exit->Act->World->Prop:=
  bodyPost P fn λe c => ∃ g, e = .returned (Yq g) /\ φ g /\ Chg (λk => k = b) w0 c /\ (box b t (cs' g)).holds c /\
        ∀p∈a g,p.holds c/\p.own=false/\∀k,p.fp k->w0.heap.size<=k\/(al=true/\∃q∈pre,q.fp k)
theorem Dk   {c:Code}   {al:Bool}    {G:Type} {φ:G->Prop} {Yq:G->Value} {cs':G->Array Value} {m:G->List Pc} {N:Nat}
    (F:P.funcs[f]? = some fn) (B:fn.body=some c) (hN:fn.ntmps=N) (u:Nat.ble vs.length N=true) (y:AllRo pre)
    (h:∀w0 (sc:Nat->Prop),(∀k,w0.heap.size<=k->sc k)->(∀k,sc k->w0.heap.size<=k\/k=b\/∃q∈pre,q.fp k)->
      E P N sc c (Yok P fn w0 pre al b t φ Yq cs' m) (Qv 0 vs) ((0,Yx w0 (λk=>k=b))::(1,box b t cs)::Yz 2 pre)) :
    Zd3 P f vs.toArray pre al b t cs φ Yq cs' m:=λw hp D=>by
  refine calls_of_wp F B (h w _ (λk d=> .inl d) (λk d=>d) _ w ?_);have u:vs.length<=N:=O10;have a:∀i p,lk ((0,Yx w (λk=>k=b))::(1,box b t cs)::Yz 2 pre) i=some p->(i=0/\p=Yx w (λk=>k=b))\/(i=1/\p=box b t cs)\/(i≠0/\i≠1/\p∈pre/\p.own=false):=λi p hi=>by
      by_cases n:0=i
      . grind [Yl]
      . rw [Zx _ _ n]at hi;by_cases l:1=i
        . grind [Yl]
        . rw [Zx _ _ l]at hi;obtain⟨_,g⟩:=Nt pre 2 i p hi;exact .inr (.inr ⟨λe=>n e.symm,λe=>l e.symm,g,y.mem p g⟩)
  refine⟨O4,rfl,λt v Y=>?_,λi p hi=>?_,λi j p q V hi R W k d r=>?_,λi p I hi k d=>?_⟩
  . have l:vs.toArray[t]? = some v:=by simpa using(Ge vs 0 t v Y).2
    have S:=(aS.1 l).1;simp_all [bO,dY]
  . rcases a i p hi with⟨_,rfl⟩|⟨_,rfl⟩|⟨_,_,g,_⟩
    . exact Chg.refl _ w
    all_goals grind
  . rcases a i p hi with⟨_,rfl⟩|⟨l,rfl⟩|⟨_,_,g,z⟩
    . cases W
    . have s:k=b:=d;subst s;rcases a j q R with⟨_,rfl⟩|⟨Z,rfl⟩|⟨_,_,g,_⟩
      . exact r.2 rfl
      all_goals grind
    grind
  . rcases a i p hi with⟨n,_⟩|⟨_,rfl⟩|⟨_,_,g,_⟩
    . omega
    . exact .inr (.inl d)
    grind
theorem Dt   {al:Bool}    {G:Type} {φ:G->Prop} {Yq:G->Value} {cs':G->Array Value} {l:G->List Pc}  {e:Exit} (W:e= .ret\/e= .normal) (S:∀k,sc k->w0.heap.size<=k\/k=b\/∃q∈pre,q.fp k)
    (g:G)  (u:∀a w,Sat N sc env H a w->(results fn a.tmps).run P w= .ok v w) (hv:Yq g=v) (Y:φ g) (i:Nat) (hi:lk H i=some (box b t cs)) (B:cs' g=cs) (a0:Nat.beq i 0=false) (V:lk H 0=some (Yx w0 (λk=>k=b))) (c:Give (drp i H) al (l g)) :
    X N sc e (Yok P fn w0 pre al b t φ Yq cs' l) env H:=λa w hs=>by
  have a1 : a.defers = [] /\ ∃ v, (results fn a.tmps).run P w = .ok v w /\ (∃ g, Ending.returned v = .returned (Yq g) /\ φ g /\ Chg (λk => k = b) w0 w /\ (box b t (cs' g)).holds w /\
        ∀p∈l g,p.holds w/\p.own=false/\∀k,p.fp k->w0.heap.size<=k\/(al=true/\∃q∈pre,q.fp k)):=by
    refine⟨hs.defers,v,u a w hs,g,O4,Y,hs.hold 0 _ V,by rw [B];exact hs.hold i _ hi,λp hp=>?_⟩;obtain⟨ho,h|⟨h1,h2⟩⟩:=c.mem p hp
    case inr=>grind
    obtain⟨j,y,r,m,n,D,z⟩:=h;obtain⟨R,m⟩:=Cd _ _ _ _ m;refine⟨n w (hs.hold j y m),ho,λk hk=>?_⟩;have d:=D k hk;have F:k≠b:=λe=>by subst e;exact hs.sep i j _ y (gX R) hi m rfl k rfl d
    cases al with
    | true=>
      rcases S k (hs.scope j y r m k d)with h|h|h
      all_goals grind
    | false=>
      have s:=z rfl;have hn:=hs.sep j 0 y _ r m V s k d;rcases aX k _ with I|Z
      . exact absurd ⟨I,F⟩ hn
      omega
  rcases W with rfl|rfl
  all_goals assumption
end Go.Sky
namespace Go.Sky
open Go.RowKit Below
variable{o:Oper}{f:FuncId}{xs:List Operand}{c x y:Operand}{ats:Array TypeId}{t t':TypeId}{cs:Array Value}{pre:List Pc}{M0:Nat->Prop}{ops:Array Oper}{ts:List Nat}{listed:Array Bool}{v:Value}{k:Nat}{p:Pc}{rest:List Oper}
variable {P:Program} {N:Nat} {sc:Nat->Prop} {env env':Pu} {H H':Hp} {Q Q':Exit->Act->World->Prop} {M:Nat->Prop}
theorem d_mkf (vs:List Value)(d:o.op= .makeFunc (.func f) xs.toArray #[])(e:EvL env xs vs):Li P N sc o env H (.func (.func f) vs.toArray #[]):=λa w hs=>by have b:=e.map hs;simp [execOp,d,Instr.makeFunc,b]
theorem Zof {a:Act} {w:World} (hs:Sat N sc env H a w)      {d vs:List Value} (h:o.op= .call { callee:= .value c,args:=xs.toArray,argTypes:=ats })
  (e:ev env c=some (.func (.func f) d.toArray #[])) (b:EvL env xs vs):(execOp a.eval o).run P w=(callFunc f (d ++ vs).toArray).run P w:=by
 have g:=b.map hs;simp [execOp,h,resolve,invoke,hs.ev e,Deferred.ofValue,g]
theorem Zua (n:Nat)(i:Nat)(h:List Value)(vs:List Value)      {d b:Nat}     {al:Bool} {G:Type} {φ:G->Prop} {Yq:G->Value} {cs':G->Array Value} {m:G->List Pc} {w0:World} 
  (V:Zd3 P f (h ++ vs).toArray pre al b t cs φ Yq cs' m)
  (ho:o.op= .call { callee:= .value c,args:=xs.toArray,argTypes:=ats }) (W:ev env c=some (.func (.func f) h.toArray #[])) (Y:o.dst=some d) (S:Nat.blt d N=true)
  (s:EvL env xs vs) (e:∀args w,(callFunc f args).run P w= .ok (.enter f args) w) (F:lk H i=some (box b t cs)) (z:i≠0) (j:PreOk (drp i H) al pre)
  (D:lk H 0=some (Yx w0 M0)) (hw:∀b,w0.heap.size<=b->sc b) (R:M b) :
  T P N sc M o env H φ (λg=>(d,Yq g)::env) (λg=>adds n (m g) ((i,box b t (cs' g))::H)):=λa w hs K Q I=>by
 have Z:(execOp a.eval o).run P w= .ok (.enter f (h ++ vs).toArray) w:=by grind [Zof]
 let o2:={ o with op:= .call { callee:= .value (.func f),args:=((h ++ vs).map Operand.const).toArray,argTypes:=ats } };have u:∀l,EvL env (l.map Operand.const) l:=λl=>by
  induction l with
  | nil=>trivial
  | cons v r ih=>exact⟨rfl,ih⟩
 have B:(execOp a.eval o2).run P w= .ok (.enter f (h ++ vs).toArray) w:=by grind [Ix]
 have q:=Pb _ _ V (o:=o2) rfl Y S (u _) e F z j D hw R a w hs K Q I;unfold Oper.wp at q ⊢;rw [B]at q;rw [Z];exact q
theorem Zd1 (n:Nat)    {m:Nat} (i j k:Nat) 
  (d:Zf8 P N sc M ops ts Q n listed env H i) (e:Zf8 P N sc M ops ts Q n listed env H j) (g:Zf8 P N sc M ops ts Q n listed env H k) (a:((Region.ready .any ops listed == [i,j,k]) && !(Fm ops ts listed) && !([i,j,k]:List Nat).isEmpty && Nat.beq (n+1) m)=true:=by kernel_rfl):A P N sc M ops ts Q m listed env H:=by
 rw [aR]at a;have b:=dU a.2;subst b;exact Yoc _ a.1 (λq h=>by grind)
theorem d_fld    {f:Nat} {d:Array Field} {b:Field}   (h:o.op= .field t x f)
  (l:ev env x=some (.agg cs)) (i:P.underlying t=some (.struct d)) (g:d[f]? = some b) (e:∀w,(isAgg b.type).run P w= .ok false w) (j:cs[b.offset]? = some v):Li P N sc o env H v:=λa w hs=>by
 simp [execOp,h,hs.ev l,Instr.field,run_underlying i,g,asAgg,part,e,j]
theorem Zzh{s b:ByteArray}(e:o.op= .binOp .eql t x y t')(g:ev env x=some (.string s))(h:ev env y=some (.string b))(i:b.data.toList=[]) :
  Li P N sc o env H (.bool (decide (s.size=0))):=λa w hs=>by
 have d:(s.toList == b.toList)=decide (s.size=0):=by rw [ByteArray.toList_eq,ByteArray.toList_eq];have:s.size=s.data.toList.length:=rfl;grind
 simp [execOp,e,hs.ev g,hs.ev h,eqGuard,binOp_string_eql,d]
theorem Zax  {b:BinOp}   {xs ys:Array Value} {r:Value} (g:o.op= .binOp b t x y t') (i:ev env x=some (.agg xs)) (j:ev env y=some (.agg ys))
  (e:P.eqGuardType P.depth t=false) (h:∀w,(binOp b t (.agg xs) (.agg ys)).run P w= .ok r w):Li P N sc o env H r:=λa w hs=>by
 have d:=run_eqGuard_agg w b t x y xs ys e;simp only [execOp,g,hs.ev i,hs.ev j,Sem.run_bind,d,h w,Result.andThen_ok,Sem.run_pure]
abbrev SL:=Option Addr×Nat×Nat
abbrev Xl (s:SL):Value:= .slice s.1 s.2.1 s.2.2
theorem Xo{α:Type}{enc:α->Value}{xs:List α}(i:Nat)(hi:lk H i=some p)(b:Rd p k enc v xs):∀a w,Sat N sc env H a w->∃s:SL,v=Xl s:=λa w hs=>by obtain⟨d,c,rfl,_⟩:=b w (hs.hold i p hi);simp
theorem Az{c:Code}{α:Type}{p:α->Prop}(b:∀a w,Sat N sc env H a w->∃x,p x)(h:∀x,p x->E P N sc c Q env H):E P N sc c Q env H:=λa w hs=>by obtain⟨x,d⟩:=b a w hs;exact h x d a w hs
theorem Ztv{e:Exit}{α:Type}{p:α->Prop}(b:∀a w,Sat N sc env H a w->∃x,p x)(h:∀x,p x->X N sc e Q env H):X N sc e Q env H:=λa w hs=>by obtain⟨x,d⟩:=b a w hs;exact h x d a w hs
theorem Zj5{α:Type}{p:α->Prop}(b:∀a w,Sat N sc env H a w->∃x,p x)(h:∀x,p x->L P N sc ops rest Q env H):L P N sc ops rest Q env H:=λa w hs=>by obtain⟨x,d⟩:=b a w hs;exact h x d a w hs
def Nb{β:Type}(q:β->Pc)(zs:List β):Pc:=
 {own:=false,fp:=λb=>∃z∈zs,(q z).fp b,holds:=λw=>∀z∈zs,(q z).holds w
  lt:=λw b h e=>by obtain⟨z,d,e⟩:=e;exact(q z).lt w b (h z d) e
  stable:=λw m h a z d=>(q z).stable w m (h z d) ⟨a.os,a.tape,a.output,a.size,λk i j=>a.block k i (λg=>j (λl=>g ⟨z,d,l⟩))⟩ }
def Xv{β:Type}(k:Nat)(enc:β->Value)(q:β->Pc)(v:Value)(zs:List β):Pc:=
 {own:=false,fp:=λb=>(zs≠[]/\v.ownBlock=some b)\/∃z∈zs,(q z).fp b,holds:=λw=>(Yy k enc v zs).holds w/\(Nb q zs).holds w
  lt:=λw b h d=>by
   rcases d with d|d
   .exact(Yy k enc v zs).lt w b h.1 d
   .exact(Nb q zs).lt w b h.2 d
  stable:=λw l h a=>⟨(Yy k enc v zs).stable w l h.1 ⟨a.os,a.tape,a.output,a.size,λk g i=>a.block k g (λe=>i (λj=>e (.inl j)))⟩,
   (Nb q zs).stable w l h.2 ⟨a.os,a.tape,a.output,a.size,λk g i=>a.block k g (λe=>i (λj=>e (.inr j)))⟩⟩ }
def Zc{β:Type}{enc:β->Value}{q:β->Pc}{zs:List β} : Rd (Xv k enc q v zs) k enc v zs:=λw h=>h.1.1
theorem Zc6{q:Pc}(i j:Nat)(hi:lk H i=some p)(r:Nat.beq i 0=false)(z:p.own=false)(n:∀w,p.holds w->q.holds w)(l:∀b,q.fp b->p.fp b)(B:q.own=false):∀a w,Sat N sc env H a w->Sat N sc env ((j,q)::H) a w:=λa w hs=>
 hs.add j q (n w (hs.hold i p hi)) (λm u _ s Hf b d g=>by
  rcases Hf with Hf|Hf
  .grind
  .by_cases h:m=i
   .grind
   .exact hs.sep m i u p h s hi Hf b g (l b d)) (λb d=>hs.scope i p (λe=>O10) hi b (l b d))
def Za5{β:Type}{q:β->Pc}{zs:List β}(i j:Nat)(z:β)(hi:lk H i=some (Nb q zs))(d:Nat.beq i 0=false)(e:z∈zs)(l:(q z).own=false):∀a w,Sat N sc env H a w->Sat N sc env ((j,q z)::H) a w:=
 Zc6 i j hi d rfl (λw h=>h z e) (λb g=>⟨z,e,g⟩) l
def Oa{β:Type}{enc:β->Value}{q:β->Pc}{zs:List β}(i j:Nat)(z:β)(hi:lk H i=some (Xv k enc q v zs))(d:Nat.beq i 0=false)(e:z∈zs)(l:(q z).own=false):∀a w,Sat N sc env H a w->Sat N sc env ((j,q z)::H) a w:=
 Zc6 i j hi d rfl (λw h=>h.2 z e) (λb g=> .inr ⟨z,e,g⟩) l
def Zcb{β:Type}{enc:β->Value}{q:β->Pc}{zs:List β}(i j:Nat)(hi:lk H i=some (Xv k enc q v zs))(d:Nat.beq i 0=false):∀a w,Sat N sc env H a w->Sat N sc env ((j,Nb q zs)::H) a w:=
 Zc6 i j hi d rfl (λw h=>h.2) (λb e=> .inr e) rfl
theorem Zd{β:Type}{zs:List β}{i:Nat}{d:β}(h:i<zs.length):zs.getD i d∈zs:=by grind
theorem Zx4{q r:Pc}(i j n:Nat)(hi:lk H i=some p)(u:lk H j=some q)(F:Nat.beq i 0=false)(G:Nat.beq j 0=false)(R:p.own=false)(I:q.own=false)(D:∀w,p.holds w->q.holds w->r.holds w)(z:∀b,r.fp b->p.fp b\/q.fp b)(S:r.own=false) :
  ∀a w,Sat N sc env H a w->Sat N sc env ((n,r)::H) a w:=λa w hs=>
 hs.add n r (D w (hs.hold i p hi) (hs.hold j q u)) (λm B _ l Hf b s g=>by
  rcases Hf with Hf|Hf
  .grind
  .rcases z b s with h|h
   .by_cases d:m=i
    .grind
    .exact hs.sep m i B p d l hi Hf b g h
   .by_cases d:m=j
    .grind
    .exact hs.sep m j B q d l u Hf b g h) (λb s=>by
  rcases z b s with h|h
  .exact hs.scope i p (λe=>O10) hi b h
  .exact hs.scope j q (λe=>O10) u b h)
def Xq{β:Type}{enc:β->Value}{q:β->Pc}{zs:List β}(i j n:Nat)(hi:lk H i=some (Yy k enc v zs))(m:lk H j=some (Nb q zs))(d:Nat.beq i 0=false)(e:Nat.beq j 0=false) :
  ∀a w,Sat N sc env H a w->Sat N sc env ((n,Xv k enc q v zs)::H) a w:=
 Zx4 i j n hi m d e rfl rfl (λw g h=>⟨g,h⟩) (λb l=>l) rfl
theorem Yh{β:Type}(q:β->Pc)(n:Nat):∀a w,Sat N sc env H a w->Sat N sc env ((n,Nb q ([]:List β))::H) a w:=λa w hs=>
 hs.add n _ (λz e=>O4) (λh i _ _ Hf b d g=>by obtain⟨z,e,_⟩:=d;grind) (λb d=>by obtain⟨z,e,_⟩:=d;grind)
theorem Zo{β:Type}{q:β->Pc}{zs:List β}{z:β}(i j n:Nat)(hi:lk H i=some (Nb q zs))(r:lk H j=some (q z))(e:Nat.beq i 0=false)(g:Nat.beq j 0=false)(s:(q z).own=false) :
  ∀a w,Sat N sc env H a w->Sat N sc env ((n,Nb q (zs ++ [z]))::H) a w:=
 Zx4 i j n hi r e g rfl s (λw m u y l=>by
  rcases cP.1 l with h|h
  .exact m y h
  grind) (λb d=>by
  obtain⟨y,l,d⟩:=d;rcases cP.1 l with h|h
  .exact .inl ⟨y,h,d⟩
  grind) rfl
theorem Zx3{β:Type}{q:β->Pc}{zs ys:List β}(i n:Nat)(hi:lk H i=some (Nb q zs))(e:Nat.beq i 0=false)(hs:∀y∈ys,y∈zs) :
  ∀a w,Sat N sc env H a w->Sat N sc env ((n,Nb q ys)::H) a w:=
 Zc6 i n hi e rfl (λw h y g=>h y (hs y g)) (λb d=>by obtain⟨y,g,d⟩:=d;exact⟨y,hs y g,d⟩) rfl
end Go.Sky
namespace Go.Sky
open Go.RowKit Below
variable{o:Oper}{H0:Hp}{ks ts:List Nat}{t ty:TypeId}{d:Nat}{cs:Array Value}{M0:Nat->Prop}{p:Pc}{ops:Array Oper}{listed:Array Bool}{x:Operand}{m:Int}{k:IntKind}{rest:List Oper}{pos:String}
variable {P:Program} {N:Nat} {sc:Nat->Prop} {env env':Pu} {H H':Hp} {Q Q':Exit->Act->World->Prop} {M:Nat->Prop}
def Off(H:Hp)(ks:List Nat):Nat->Prop:=λx=>∀k∈ks,∀p,lk H k=some p->¬p.fp x
def Agr(H0 H:Hp):List Nat->Prop
 | []=>True
 | k::r=>lk H k=lk H0 k/\Agr H0 H r
theorem Agr.mem{H0 H:Hp} : ∀{ks:List Nat},Agr H0 H ks->∀k∈ks,lk H k=lk H0 k
 | k::r,h,j,a=>by
  cases a with
  | head=>exact h.1
  | tail _ a=>exact Agr.mem h.2 j a
def rst(ks:List Nat):Hp->Hp
 | []=>[]
 | (i,p)::r=>cond (ks.any (Nat.beq i)) ((i,p)::rst ks r) (rst ks r)
theorem Ziy(ks:List Nat):∀(H:Hp) (i:Nat) (p:Pc),lk (rst ks H) i=some p->i∈ks/\lk H i=some p
 | [],_,_,h=>by cases h
 | (j,q)::r,i,p,h=>by
  unfold rst at h;cases hb:ks.any (Nat.beq j)with
  | true=>
   rw [hb]at h;simp only [cond_true]at h;by_cases c:j=i
   .subst c;rw [Yl]at h ⊢;obtain⟨x,l,g⟩:=List.any_eq_true.1 hb;have:=dU g;subst this;exact⟨l,h⟩
   .rw [Zx _ _ c]at h ⊢;exact Ziy ks r i p h
  | false=>
   rw [hb]at h;simp only [cond_false]at h;obtain⟨b,f⟩:=Ziy ks r i p h;refine⟨b,?_⟩;have a:j≠i:=λe=>by subst e;have:ks.any (Nat.beq j)=true:=List.any_eq_true.2 ⟨j,b,O5⟩;rw [hb]at this;cases this
   rw [Zx _ _ a];exact f
theorem Pm {id:Nat} {l:List Oper} (ks:List Nat) (ts:List Nat) 
  (h:A P N sc (Off H ks) l.toArray ts Q l.length (Array.replicate l.length false) env H) (a:P.follows .mixedOrders=true:=by kernel_rfl):E P N sc (.region id l.toArray true) Q env H:=Kr (Off H ks) ts h a
theorem Eg{v:Value}(B:Li P N sc o env (rst ks H) v)(n:Agr H0 H ks):Stb P N sc (Off H0 ks) o env H v:=λa w hs h c=>by refine B a h ⟨hs.size,hs.defers,hs.env,λi b hi=>?_,λi j b D f hi s=>hs.sep i j b D f (Ziy _ _ _ _ hi).2 (Ziy _ _ _ _ s).2,λi b l hi=>hs.scope i b l (Ziy _ _ _ _ hi).2⟩;obtain⟨g,e⟩:=Ziy _ _ _ _ hi;refine b.stable w h (hs.hold i b e) ⟨c.os,c.tape,c.output,c.size,λq z u=>c.block q z (λy=>u (λr=>?_))⟩;exact y i g b (by rw [<-n.mem i g];exact e) r
theorem Yhn   {i:Nat} {z:Value}  {w0:World}    (s:o.op= .alloc t) (n:o.dst=some d) (g:Nat.blt d N=true)
  (y:∀w,(zeroValue t).run P w= .ok z w) (l:z.cells=cs) (e:lk H 0=some (Yx w0 M0)) (v:∀b,w0.heap.size<=b->sc b) (h:Agr H0 H ks) :
  T P N sc (Off H0 ks) o env H (G:=Nat) (λb=>Off H0 ks b) (λb=>(d,.pointer (some ⟨b,0,none⟩))::env) (λb=>(i,box b t cs)::H):=λa w hs K Q f=>by
 subst l;have u:(execOp a.eval o).run P w= .ok (.value (.pointer (some ⟨w.heap.size,0,none⟩))) (w.alloc (.cells z.cells t)):=by simp [execOp,s,Instr.alloc,y,newVar,newRow]
 unfold Oper.wp;rw [u];show K (a.put o.dst _) _;rw [n];exact f w.heap.size _ _ (λk r p c q=>by rw [<-h.mem k r]at c;exact absurd (p.lt w _ (hs.hold k p c) q) (Nat.lt_irrefl _)) ((hs.new e v i (box w.heap.size t z.cells) (.cells z.cells t) (heap_alloc_new w _) (λb j=>j)).put d _ g) (Chg.alloc _ _ _)
theorem Nq{q:Pc}(i:Nat)(h:p=q)(hi:lk H i=some p)(b:Nat.beq i 0=false):∀a w,Sat N sc env H a w->Sat N sc env ((i,q)::H) a w:=λa w hs=>by subst h;exact Zqp i hi rfl (λ_ h=>h) (λ_ h=>h) b a w hs
def Zd0{n:Nat}(hi:∀a w,Sat N sc env H a w->Sat N sc env' H' a w)(h:A P N sc M ops ts Q n listed env' H'):A P N sc M ops ts Q n listed env H:=λa w hs=>h a w (hi a w hs)
theorem Yhe (r:Int)(b:o.op= .unOp .neg t x)(e:ev env x=some (.int .u64 m))(c:(-m)%18446744073709551616=r):Li P N sc o env H (.int .u64 r):=λa w hs=>by rw [<-c,<-Yg5];simp [execOp,b,hs.ev e,Op.unary,Op.intArith]
theorem Yr7{b:TypeId}{r:Int}{ds:TypeDesc}(c:o.op= .convert t b x)(g:ev env x=some (.int k m))(a:P.underlying t=some ds)(f:P.underlying b=some (.int .u64))(e:m%18446744073709551616=r) :
  Li P N sc o env H (.int .u64 r):=Zh9 c g a f (by rw [Yg5];exact e)
theorem Sat.yieldedu{a:Act}{w:World}(h:Sat N sc env H a w){j:Nat}(e:(ops[j]?).bind (·.dst)=some d)(c:lk env d=some undef):Go.yielded ops a.tmps j=none:=by
 have b:=h.env d _ c;unfold Go.yielded;rw [e];simp only [Option.bind_some];rw [bO]at b;cases hx:a.tmps[d]? with
 | none=>rfl
 | some v=>rw [hx]at b;simp only [eV]at b;subst b;rfl
theorem gsku      {c:Array Edge} {f:Op} {j e:Nat} {b:Bool} (n:(ops[j]?).bind (·.dst)=some e) (l:lk env e=some undef) (i:Nat.blt d N=true)
  (h:L P N sc ops rest Q ((d,undef)::env) H):L P N sc ops (⟨some d,f,ty,pos,c,some (j,b)⟩::rest) Q env H:=λa w hs=>
 wpList_step λK g=>by
  have r:=hs.yieldedu n l;have q:Region.wanted ⟨some d,f,ty,pos,c,some (j,b)⟩ (yielded ops a.tmps)=false:=by simp [Region.wanted,r]
  rw [q,aG O5];exact g _ _ (h _ _ (hs.put d undef i))
def nop:Pc:={ own:=false,fp:=λ_=>False,holds:=λ_=>True,lt:=λ_ _ _ h=>h.elim,stable:=λ_ _ _ _=>trivial }
theorem s_move(i j:Nat)(hi:lk H i=some p)(q:Nat.beq i 0=false)(s:Nat.beq j 0=false)(r:Nat.beq i j=false):∀a w,Sat N sc env H a w->Sat N sc env ((j,p)::(i,nop)::H) a w:=λa w hs=>by
 have q:i≠0:=λe=>by subst e;simp at q
 have s:j≠0:=λe=>by subst e;simp at s
 have r:i≠j:=λe=>by subst e;simp at r
 refine⟨hs.size,hs.defers,hs.env,λk kt f=>?_,λk v kt y u f c z b n h=>?_,λk kt B f b n=>?_⟩
 .by_cases l:j=k
  .subst l;rw [Yl]at f;cases f;exact hs.hold i p hi
  .rw [Zx _ _ l]at f;by_cases g:i=k
   .subst g;rw [Yl]at f;cases f;trivial
   .rw [Zx _ _ g]at f;exact hs.hold k kt f
 .by_cases l:j=k
  .subst l;rw [Yl]at f;cases f;rw [Zx _ _ u]at c;by_cases g:i=v
   .subst g;rw [Yl]at c;cases c;exact h
   .rw [Zx _ _ g]at c;exact hs.sep i v p y g hi c z b n h
  .rw [Zx _ _ l]at f;by_cases g:i=k
   .subst g;rw [Yl]at f;cases f;cases z
   .rw [Zx _ _ g]at f;by_cases D:j=v
    .subst D;rw [Yl]at c;cases c;exact hs.sep k i kt p (gX g) f hi z b n h
    .rw [Zx _ _ D]at c;by_cases F:i=v
     .subst F;rw [Yl]at c;cases c;exact h
     .rw [Zx _ _ F]at c;exact hs.sep k v kt y u f c z b n h
 .by_cases l:j=k
  .subst l;rw [Yl]at f;cases f;exact hs.scope i p q hi b n
  .rw [Zx _ _ l]at f;by_cases g:i=k
   .subst g;rw [Yl]at f;cases f;exact n.elim
   .rw [Zx _ _ g]at f;exact hs.scope k kt B f b n
theorem fill3{h j a b c e f g:Value}:Instr.fill (λi=>some (i*2,2)) ((List.range (3*2)).map ((Value.agg #[h,j]).cells[· % (Value.agg #[h,j]).cells.size]!)).toArray [(0,.agg #[a,b]),(1,.agg #[c,e]),(2,.agg #[f,g])]=some #[a,b,c,e,f,g]:=by
 simp [Instr.fill,Value.cells,List.range,List.range.loop]
 try rfl
end Go.Sky
namespace Go.Sky
variable{o xs ys:List Nat}{k c b x y i m w a s h:Nat}{P:Program}{sc:Nat->Prop}{t:TypeId}{kd:IntKind}
theorem Zxn(k:Nat):U^k=256^(8*k):=by grind [Nat.pow_mul]
theorem Zd2(k:Nat):U^k=2^(64*k):=by grind [Nat.pow_mul]
def Qh:0<U:=O5
theorem Yn7(h:Yq U (o.take k)+c*U^k=Yq U (xs.take k)+Yq U (ys.take k))(d:k<o.length) :
  Yq U ((o.set k ((xs.getD k 0+ys.getD k 0+c)%U)).take (k+1))+(xs.getD k 0+ys.getD k 0+c)/U*U^(k+1)=Yq U (xs.take (k+1))+Yq U (ys.take (k+1)):=by
 rw [Bl _ _ _ d,Qs,Qs,cH];grind [Nat.mod_add_div,Nat.add_mul,Nat.mul_comm,Nat.mul_assoc]
theorem Yht(f:c<=1)(j:xs.getD k 0<U)(l:ys.getD k 0<U)(h:Yq U (o.take k)+Yq U (ys.take k)=Yq U (xs.take k)+c*U^k)(e:k<o.length) :
  Yq U ((o.set k ((xs.getD k 0+U-ys.getD k 0-c)%U)).take (k+1))+Yq U (ys.take (k+1))=Yq U (xs.take (k+1))+brw (xs.getD k 0) (ys.getD k 0) c*U^(k+1):=by
 unfold brw;rw [Bl _ _ _ e,Qs,Qs];generalize xs.getD k 0=a at *;generalize ys.getD k 0=b at *;by_cases g:a<b+c
 .have d:(a+U-b-c)%U+b+c=a+U:=O4;grind
 .have d:(a+U-b-c)%U+b+c=a:=by grind
  grind
theorem Zoq(b:Nat)(xs:List Nat)(k:Nat)(d:k<xs.length):Yq b xs=Yq b (xs.take k)+xs.getD k 0*b^k+b^(k+1)*Yq b (xs.drop (k+1)):=by
 conv=>lhs;rw [<-fG (k+1) xs]
 grind [Mb,Qs,List.length_take,Nat.min_eq_left]
theorem Zs4(l:0<b)(p:∀d∈xs,d<b)(e:k<xs.length)(f:k<ys.length)(n:xs.drop (k+1)=ys.drop (k+1))(h:xs.getD k 0<ys.getD k 0):Yq b xs<Yq b ys:=by
 rw [Zoq b xs k e,Zoq b ys k f];have g:Yq b (xs.take k)<b^k:=by grind [Zh8,List.mem_of_mem_take,List.length_take,Nat.min_eq_left]
 have j:(xs.getD k 0+1)*b^k<=ys.getD k 0*b^k:=aL _ h;grind
theorem Zhm (xs:List Nat)(ys:List Nat)(e:k<xs.length)(f:k<ys.length)(d:xs.drop (k+1)=ys.drop (k+1))(h:xs.getD k 0=ys.getD k 0):xs.drop k=ys.drop k:=by grind [List.drop_eq_getElem_cons]
theorem Zbs(d:2<=b)(h:(dg b x).length<(dg b y).length):x<y:=by have e:=(Xt d _ x).1 (aI _);grind [Ms]
theorem Yar(h:0<x):bl x=(dg U x).length*64-(64-bl ((dg U x).getD ((dg U x).length-1) 0))/\bl ((dg U x).getD ((dg U x).length-1) 0)<=64/\0<(dg U x).length/\0<bl ((dg U x).getD ((dg U x).length-1) 0):=by
 have d:0<(dg U x).length:=by rw [Ms Qc,gF];omega
 have f:U^((dg U x).length-1)<=x:=(Ms Qc _ x).1 O;have g:=(Xt Qc _ x).1 (aI _);have e:x/U^((dg U x).length-1)<U:=by rw [bW (bZ Qh),bD,<-cH,show((dg U x).length-1).succ=(dg U x).length by omega];omega
 rw [Hr Qc,bG e,Zd2,Gh];have j:64*((dg U x).length-1)<bl x:=by simp_all [Zcw,Zd2]
 have l:bl x<=64*(dg U x).length:=by simp_all [Qo,Zd2]
 refine⟨?_,?_,d,?_⟩<;>omega
theorem Ziz(x:Nat):(dg 256 x).length=(bl x+7)/8:=by
 have d:∀k,(dg 256 x).length<=k↔(bl x+7)/8<=k:=λk=>by rw [Xt O5,show 256^k=2^(8*k) by grind [Nat.pow_mul],<-Qo];omega
 have e:=(d _).1 (aI _);have f:=(d _).2 (aI _);omega
theorem lenU(x:Nat):(dg U x).length=((dg 256 x).length+7)/8:=by
 have d:∀k,(dg U x).length<=k↔((dg 256 x).length+7)/8<=k:=λk=>by rw [Xt Qc,Zxn,<-Xt O5];omega
 have e:=(d _).1 (aI _);have f:=(d _).2 (aI _);omega
theorem Zf1(d:xs.length=ys.length)(h:∀i,i<xs.length->xs.getD i 0=ys.getD i 0):xs=ys:=by grind [List.ext_getElem]
theorem Nh{α:Type}{o:List α}{j:Nat}{d z:α}(hi:i<o.length):(o.set i d).getD j z=if i=j then d else o.getD j z:=by grind
theorem Il(n i:Nat):(List.replicate n 0).getD i 0=0:=by grind
theorem Ztf(x k:Nat):x/U^(k/8)%U/2^(k%8*8)%256=x/256^k%256:=by
 have g:=cL k 8;have d:U=256^(k%8)*256^(8-k%8):=by rw [<-cC,show k%8+(8-k%8)=8 by omega]
 have e:(2)^(k%8*8)=256^(k%8):=by grind [Nat.pow_mul,Nat.mul_comm]
 have f:x/U^(k/8)/256^(k%8)=x/256^k:=by grind [Nat.div_div_eq_div_mul,Zxn,Nat.pow_add]
 rw [e]
 conv=>lhs;rw [d]
 rw [Nat.mod_mul_right_div_self,<-d,f,show 8-k%8=(8-k%8-1)+1 by omega,cH,Nat.mod_mul_left_mod]
def hi(x m w:Nat):Nat:=x/256^m*256^m/U^w%U
theorem hi_ge(h:m<=8*w):hi x m w=x/U^w%U:=by unfold hi;rw [Zxn,show 8*w=m+(8*w-m) by omega,cC,<-aQ,kU _ (bZ O5),aQ]
theorem hi_lt(h:8*w+8<=m):hi x m w=0:=by unfold hi;rw [Zxn,show m=8*w+(8+(m-8*w-8)) by omega,cC 256 _,bD (256^(8*w)),<-dH,kU _ (bZ O5),cC 256 8];grind
theorem Ylo{r:Nat}(h:m=8*w+r)(d:r<=8):hi x m w=x/256^m*256^r%U:=by unfold hi;grind [Zxn,Nat.pow_add,Nat.mul_comm,Nat.mul_assoc,Nat.mul_div_cancel,Nat.pow_pos]
theorem Yrh(x k:Nat):hi x (k+1) (k/8) ||| (x/256^k%256*2^(k%8*8))%U=hi x k (k/8):=by
 have u:=cL k 8;rw [Ylo (r:=k%8+1) O O,Ylo (r:=k%8) O O];have f:(2:Nat)^(k%8*8)=256^(k%8):=by grind [Nat.pow_mul,Nat.mul_comm]
 rw [f];generalize k%8=r at *;have q:x/256^(k+1)=x/256^k/256:=by rw [cH,aQ]
 rw [q];generalize x/256^k=z;have p:U=256^(r+1)*256^(7-r):=by rw [<-cC,show r+1+(7-r)=8 by omega]
 have d:z%256*256^r<256^(r+1):=by simp [cH,bD,mJ,bZ,bJ]
 have e:256^(r+1)<=U:=by simp_all [cZ,bZ]
 rw [bG (dL d e)];have n:z/256*256^(r+1)%U=256^(r+1)*(z/256%256^(7-r)):=by grind [Nat.mul_comm,Nat.mul_mod_mul_left]
 rw [n];have g:(256)^(r+1)=2^(8*(r+1)):=O4;have Hf:=kN (b:=z%256*256^r) (i:=8*(r+1)) O (z/256%256^(7-r));rw [<-g]at Hf;have v:=(cL z 256).symm;have j:z*256^r=256^(r+1)*(z/256)+z%256*256^r:=by grind
 rw [j,p];have l:256^(r+1)*(z/256)+z%256*256^r=z%256*256^r+256^(r+1)*(z/256):=O;rw [l,nN,iZ,bG d,Nat.add_mul_div_left _ _ (bZ O5),cM d,cE];omega
theorem Mo(x:Nat):(dg U x).length=(bl x+63)/64:=by
 have d:∀k,(dg U x).length<=k↔(bl x+63)/64<=k:=λk=>by rw [Xt Qc,Zd2,<-Qo];omega
 have e:=(d _).1 (aI _);have f:=(d _).2 (aI _);omega
theorem bl_add:bl (x+y)<=max (bl x) (bl y)+1:=by rw [Qo];have d:=Bz x;have e:=Bz y;have f:2^bl x<=2^max (bl x) (bl y):=cQ O5 O;have g:2^bl y<=2^max (bl x) (bl y):=cQ O5 O;omega
theorem Zny(x y:Nat):bl (x*y)<=bl x+bl y:=by
 rw [Qo,cC]
 all_goals simp [gJ,fJ,bZ,iR,Bz,dO]
theorem Zkd(b:Nat)(o:List Nat)(n p r:Nat)(d:p<o.length)(e:p<n):Yq b ((o.set p r).take n)+o.getD p 0*b^p=Yq b (o.take n)+r*b^p:=by
 induction n with
 | zero=>omega
 | succ n f=>
  rw [Qs b _ n,Qs b o n,Nh d];by_cases h:p=n
  .subst h;rw [aM rfl,Zob];omega
  grind
theorem Yfs(f:x<U)(g:y<U)(d:a<U)(e:c<U) :
  ((x*y%U+a+0)%U+c+0)%U+U*(((x*y/U+(x*y%U+a+0)/U)%U+((x*y%U+a+0)%U+c+0)/U)%U)=x*y+a+c/\
  ((x*y/U+(x*y%U+a+0)/U)%U+((x*y%U+a+0)%U+c+0)/U)%U<U:=by
 have h:x*y<=18446744073709551615*18446744073709551615:=aP O4 O4;grind
theorem Ykw  {V r d n:Nat} (l:Yq U (o.take n)+c*U^(i+k)=V+xs.getD i 0*U^i*Yq U (ys.take k)) (f:i+k<o.length) (e:i+k<n)
  (j:r+U*d=xs.getD i 0*ys.getD k 0+o.getD (i+k) 0+c):Yq U ((o.set (i+k) r).take n)+d*U^(i+(k+1))=V+xs.getD i 0*U^i*Yq U (ys.take (k+1)):=by
 have g:=Zkd U o n _ r f e;rw [Qs];grind
theorem Zj0  {N:Nat}  {env:Pu} {H:Hp} {o:Oper} {x y:Operand}  {s:ByteArray}  {m:Int}  (g:o.op= .index t x y)
  (l:ev env x=some (.string s)) (n:ev env y=some (.int kd m)) (j:P.underlying t=some .string)
  (e:m=(i:Int)) (f:i<256) (hs:s.size=256) (d:∀i,i<256->(s.data.toList.getD i 0).toNat=bl i):Li P N sc o env H (.int .u8 (bl i:Int)):=by
 grind [Yde]
theorem Ykx  (B:x<U) (D:y<U) {hi r:Nat}
  (p:hi=(((x/4294967296)*(y/4294967296)%U+(((x/4294967296)*(y &&& 4294967295)%U+((x &&& 4294967295)*(y &&& 4294967295)%U)/4294967296)%U)/4294967296)%U +
   (((((x/4294967296)*(y &&& 4294967295)%U+((x &&& 4294967295)*(y &&& 4294967295)%U)/4294967296)%U &&& 4294967295)+(x &&& 4294967295)*(y/4294967296)%U)%U)/4294967296)%U)
  (z:r=x*y%U):hi=x*y/U:=by
 have q:=λn=>kD n 32;subst p;simp only [q];have j:=cL x 4294967296;have l:=cL y 4294967296;have v:=bJ x (show 4294967296>0 by simp);have u:=bJ y (show 4294967296>0 by simp);have f:x/4294967296<=4294967295:=O4;have g:y/4294967296<=4294967295:=O4;generalize x/4294967296=a at *;generalize x%4294967296=b at *;generalize y/4294967296=c at *;generalize y%4294967296=d at *;subst j;subst l;have e:(4294967296*a+b)*(4294967296*c+d)=18446744073709551616*(a*c)+4294967296*(a*d)+4294967296*(b*c)+b*d:=by grind
 have F:=aP f g;have G:a*d<=4294967295*4294967295:=aP f O;have H:b*c<=4294967295*4294967295:=aP O g;have I:b*d<=4294967295*4294967295:=aP O O;simp only [U];omega
def Zlb(m:Nat):bl (m%256)<=8:=(Qo 8 _).2 (bJ _ O5)
theorem Zat:Nw ((bl (m%256):Nat):Int):=by have:=Zlb m;exact⟨O5,O⟩
theorem Ba{c:Int}(d:0<=c)(e:c<=1000):Nw (c+((bl (m%256):Nat):Int)):=by have:=Zlb m;exact⟨O,O⟩
theorem Zas (n:Nat){c:Int}(d:m<256)(h:c+(bl m:Int)=(bl n:Int)):Value.int .i64 (c+((bl (m%256):Nat):Int))=Value.int .i64 (bl n:Int):=by grind
theorem Zr7{α:Type}{xs:List α}{d:α}(h:i<xs.length):xs.reverse.getD i d=xs.getD (xs.length-1-i) d:=by grind
theorem hi_top(h:(dg 256 x).length<=m):hi x m w=0:=by have:=(Xt O5 m x).1 h;unfold hi;grind [Nat.div_eq_of_lt]
theorem Yln(h:k/8≠w):hi x (k+1) w=hi x k w:=by grind [hi_ge,hi_lt]
set_option maxRecDepth 20000
def Yod:U=2^64:=rfl
theorem Yke(d:b<2^s):a*2^s ||| b=a*2^s+b:=by rw [bD,kN d]
theorem Zf3{l:Nat}(hs:s<=64)(d:l<U):l/2^(64-s)<2^s:=by rw [bW (dK _),<-cC,show s+(64-s)=64 by omega];exact d
theorem Zjv{l:Nat}(hs:s<=64):l*2^s/U=l/2^(64-s):=by rw [Yod,show(2:Nat)^64=2^(64-s)*2^s by rw [<-cC,show 64-s+s=64 by omega],mE _ _ (dK s)]
theorem Ykd{l:Nat}(hs:s<=64)(d:h*2^s<U)(e:l<U):(h*2^s%U) ||| (l/2^(64-s))=(h*U+l)*2^s/U:=by rw [bG d,Yke (Zf3 hs e),cK,show h*U*2^s=U*(h*2^s) by rw [iB,bD],fP Qh,Zjv hs]
theorem Yfu(h l s:Nat):l*2^s%U=(h*U+l)*2^s%U:=by rw [cK,show h*U*2^s=U*(h*2^s) by rw [iB,bD],gD]
def Zxj(x:Nat):x &&& 4294967295=x%4294967296:=kD x 32
def dvI(u v d y0 q r:Nat):Prop:=q*d+r=u/\q<=4294967297/\(u*4294967296+v)/(d*4294967296+y0)<=q
section
variable {u v y1 y0 q r:Nat}
theorem dv_Q(e:v<4294967296)(d:u<y1*4294967296+y0):(u*4294967296+v)/(y1*4294967296+y0)<4294967296:=by rw [bW O];have:(u+1)*4294967296<=(y1*4294967296+y0)*4294967296:=aL _ d;omega
theorem dv0(j:2147483648<=y1)(l:y1<4294967296)(g:y0<4294967296)(D:v<4294967296)(B:u<y1*4294967296+y0):dvI u v y1 y0 (u/y1) (u%y1):=by
 refine⟨by rw [bD];exact cL u y1,?_,?_⟩
 .rw [<-Nat.lt_succ_iff,bW O];show u<4294967298*y1;omega
 .have f:0<y1*4294967296+y0:=O;refine nG ((bW f).2 ?_);have n:=cL u y1;have p:=bJ u (show 0<y1 by omega);generalize u/y1=q at *;have d:u+1<=y1*(q+1):=by rw [jM];omega
  have z:(u+1)*4294967296<=y1*(q+1)*4294967296:=aL _ d;have e:(q+1)*(y1*4294967296+y0)=y1*(q+1)*4294967296+(q+1)*y0:=by rw [jM,bD y1 (q+1),dH (q+1) y1]
  show u*4294967296+v<(q+1)*(y1*4294967296+y0);rw [e];omega
theorem Ymi(hi:q*y1+r=u):q*(y1*4294967296+y0)+r*4294967296=u*4294967296+q*y0:=by rw [jM,<-hi,cK,dH];omega
theorem Zst(j:0<y1)(hi:dvI u v y1 y0 q r)(f:q*y0<=4294967296*r+v):q=(u*4294967296+v)/(y1*4294967296+y0):=by obtain⟨d,g,e⟩:=hi;refine jH ((iJ O).2 ?_) e;have:=Ymi (y0:=y0) d;omega
theorem Zk4(B:0<y1)(hi:dvI u v y1 y0 q r)(l:v<4294967296)(j:u<y1*4294967296+y0)(e:4294967296<=q\/4294967296*r+v<q*y0) :
  1<=q/\dvI u v y1 y0 (q-1) (r+y1):=by
 obtain⟨f,n,z⟩:=hi;have d:(u*4294967296+v)/(y1*4294967296+y0)<q:=by
  rcases e with e|e
  .exact dL (dv_Q l j) e
  .rw [bW O];have:=Ymi (y0:=y0) f;omega
 have g:1<=q:=aW (bA _) d;refine⟨g,?_,O,Nat.le_sub_one_of_lt d⟩;obtain⟨p,rfl⟩:∃p,q=p+1:=⟨q-1,O⟩;rw [cK]at f;simp only [eK];omega
theorem Zhk(d:0<y1)(g:y0<4294967296)(hi:dvI u v y1 y0 q r)(e:q<=4294967296)(f:4294967296<=r):q=(u*4294967296+v)/(y1*4294967296+y0):=by refine Zst d hi ?_;have j:q*y0<=4294967296*y0:=aL _ e;have l:4294967296*4294967296<=4294967296*r:=aY _ f;omega
theorem Zvt(f:q<4294967296)(d:y0<4294967296):q*y0<18446744073709551616:=by have e:q*y0<=4294967295*y0:=aL _ O;omega
end
theorem wsub (c:Nat)(g:a%U=c%U)(j:b%U=m%U)(l:m<=c)(d:c-m<U):(a+(U-b%U))%U=c-m:=by have e:b%U<U:=bJ _ Qh;have f:(c-m)%U=c-m:=bG d;simp only [U]at *;omega
theorem Yc5{u v:Nat}(e:0<y)(g:y<U):((u*4294967296%U+v)%U+(U-((u*4294967296+v)/y*y)%U))%U=(u*4294967296+v)%y:=by have d:=cL (u*4294967296+v) y;have f:=bJ (u*4294967296+v) e;rw [bD y]at d;rw [wsub (u*4294967296+v) (m:=(u*4294967296+v)/y*y) (by simp only [U];omega) rfl O O];omega
theorem Yrz{A D:Nat}(g:0<y)(e:D=A*4294967296+b):D/y=A/y*4294967296+(A%y*4294967296+b)/y/\D%y=(A%y*4294967296+b)%y:=by
 have f:=cL A y;have d:D=y*(A/y*4294967296)+(A%y*4294967296+b):=by
  conv=>lhs;rw [e,<-f]
  rw [cK,dH];omega
 constructor
 .conv=>lhs;rw [d]
  rw [fP g]
 .conv=>lhs;rw [d]
  rw [gD]
theorem dv_two{D u v d e:Nat}(j:0<y)(l:u=D/U)(n:v=D%U)(g:d=v/4294967296)(f:e=v%4294967296) :
  D/y=(u*4294967296+d)/y*4294967296+((u*4294967296+d)%y*4294967296+e)/y/\D%y=((u*4294967296+d)%y*4294967296+e)%y:=
 Yrz j (by subst l n g f;simp only [U];omega)
def Zo3(n y s:Nat):n*2^s/(y*2^s)=n/y:=mE _ _ (dK s)
theorem Zo2(n y s:Nat):n*2^s%(y*2^s)/2^s=n%y:=by rw [mF,kU _ (dK s)]
theorem Ykp(f:0<y)(g:y<U)(hs:s=64-bl y):9223372036854775808<=y*2^s/\y*2^s<U:=by
 have j:bl y<=64:=(Qo 64 y).2 g;have d:=Bz y;have e:=(Zth f).1;have l:(2:Nat)^bl y*2^s=U:=by rw [<-cC,show bl y+s=64 by omega]
 have n:y*2^s<2^bl y*2^s:=dS d (dK s);have p:2^(bl y-1)*2^s<=y*2^s:=aL _ e;have z:2^(bl y-1)*2^s=9223372036854775808:=by
  have:1<=bl y:=by
   rcases aV (bl y)with h|h
   .rw [h]at d;omega
   .exact h
  rw [<-cC,show bl y-1+s=63 by omega]
 omega
theorem rsub{u:Nat}(e:0<y)(f:u<U):(u+(U-(u/y*y)%U))%U=u%y:=by have d:=cL u y;rw [bD y]at d;rw [wsub u (m:=u/y*y) rfl rfl O O];omega
theorem Zb5{n:Nat}(h:m=n):Value.int .u64 (m:Int)= .int .u64 (n:Int):=by rw [h]
theorem Zck{m n:Int}(h:m=n):Value.int .i64 m= .int .i64 n:=by rw [h]
theorem Zwx(d:1<=a)(h:a<U):(a+(U-1))%U=a-1:=by rw [show a+(U-1)=a-1+U by simp only [U]at *;omega,Nat.add_mod_right,bG O]
def shl_lt(e:h<y)(d:y*2^s<U):h*2^s<U:=aW (aL _ (dO e)) d
theorem top_lt{l:Nat}(g:l<U)(f:h<y):(h*U+l)*2^s/U<y*2^s:=by
 rw [bW Qh];have d:(h+1)*U<=y*U:=aL _ f;have e:h*U+l<y*U:=by rw [cK]at d;omega
 rw [iB];exact dS e (dK s)
end Go.Sky
namespace Go.Sky
set_option maxRecDepth 20000
variable{b r w k i D:Nat}{s t:Bool}{x y:Int}{o R ys:List Nat}{xs p:List Int}{v:Value}{f:FuncId}{args:Array Value}{pre:List Pc}
theorem Zrk{a s:Nat}(c:b<2^s):b ||| a*2^s=a*2^s+b:=by rw [Nat.or_comm,Yke c]
theorem Zgp{Y t:Nat}(a:t<=64):Y*2^t%U=Y%2^(64-t)*2^t:=by rw [Yod,show(2:Nat)^64=2^(64-t)*2^t by rw [<-cC,show 64-t+t=64 by omega],mF]
theorem Zng(c:b<=64)(a:r<U):r/2^b<2^(64-b):=by have:=Zf3 (l:=r) (s:=64-b) O a;rwa [show 64-(64-b)=b by omega]at this
theorem Zul(Y b:Nat)(a:b<=64):Y%U/2^b ||| (Y/U%U)*2^(64-b)%U=Y/2^b%U:=by
 have e:Y%U<U:=bJ _ Qh;rw [Zgp O,Zrk (Zng a e),show 64-(64-b)=b by omega];have g:Y/U%U%2^b=Y/U%2^b:=by rw [Yod];exact Nat.mod_mod_of_dvd _ (Nat.pow_dvd_pow 2 a)
 rw [g];have c:U=2^b*2^(64-b):=by rw [<-cC,show b+(64-b)=64 by omega]
 have h:=cL Y U;have j:Y/2^b=2^(64-b)*(Y/U)+Y%U/2^b:=by
  conv=>lhs;rw [<-h]
  conv=>lhs;rw [show U*(Y/U)=2^b*(2^(64-b)*(Y/U)) by rw [<-dH,<-c]]
  rw [fP (dK b)]
 rw [j];have d:=Zng a e;generalize Y/U=q at *;generalize Y%U=r at *
 conv=>rhs;rw [c,bD (2^b)]
 rw [nN,fP (dK _),gD,bG d,cM d,eP,iC,bD]
theorem Ye1{Y:Nat}(c:b<=64)(a:Y/U=0):Y%U/2^b=Y/2^b%U:=by have:=Zul Y b c;rw [a]at this;simpa using this
theorem Ygm{α:Type}(xs:List α)(w j:Nat)(d:α):(xs.drop w).getD j d=xs.getD (w+j) d:=by simp [List.getD,mX]
theorem Zbe{x s:Nat}(c:w=s/64)(a:b=s%64):x/2^s=x/U^w/2^b:=by rw [Zd2,aQ,<-cC,show 64*w+b=s by omega]
theorem Zwr(x b i:Nat):x/2^b/U^i=x/U^i/2^b:=by rw [aQ,bD,<-aQ]
theorem Yc8(x w j:Nat):((dg U x).drop w).getD j 0=x/U^w/U^j%U:=by rw [Ygm,Hr Qc,cC,aQ]
theorem Ycd{x n:Nat}(h:(dg U x).length<=w+n):x/U^w<U^n:=by rw [bW (bZ Qh),<-cC,iC];exact(Xt Qc _ _).1 h
theorem drop_set{α:Type}{o:List α}{d:α}(h:k<o.length):(o.set k d).drop k=d::o.drop (k+1):=by rw [List.drop_set,aG O,fI,eC h];rfl
theorem Zdo{α:Type}(z:α)(o:List α)(k:Nat)(h:k<o.length):o.drop k=o.getD k z::o.drop (k+1):=by rw [eC h];simp [List.getD,aN h]
theorem Zxv{xs:List Nat}{d:Nat}(h:0<d)(j:k+1<=o.length)(l:k+1<=xs.length)(a:Yq U (o.drop (k+1))*d+r=Yq U (xs.drop (k+1))) :
  Yq U ((o.set k ((r*U+xs.getD k 0)/d)).drop k)*d+(r*U+xs.getD k 0)%d=Yq U (xs.drop k):=by
 rw [drop_set O,Zdo 0 xs k O];simp only [Yq];have c:=cL (r*U+xs.getD k 0) d;rw [<-a];generalize (r*U+xs.getD k 0)/d=q at *;generalize (r*U+xs.getD k 0)%d=m at *;generalize Yq U (o.drop (k+1))=V at *;rw [cK,jM,bD q d];have e:U*V*d=U*(V*d):=dH _ _ _;have g:U*r=r*U:=bD _ _;omega
theorem Yie {xs:List Nat} {n:Nat} (l:b<=63) (m:n=o.length) (q:w+i+1<n) (d:o.getD (w+i) 0<2^b) (j:o.getD (w+i+1) 0=0) (u:xs.getD i 0<U)
  (h:Yq U (o.take n)=Yq U (xs.take i)*2^b*U^w) :
  Yq U (((o.set (w+i) (o.getD (w+i) 0 ||| xs.getD i 0*2^b%U)).set (w+i+1) (xs.getD i 0/2^(64-b))).take n)=Yq U (xs.take (i+1))*2^b*U^w:=by
 have a:=Zkd U (o.set (w+i) (o.getD (w+i) 0 ||| xs.getD i 0*2^b%U)) n (w+i+1) (xs.getD i 0/2^(64-b)) O8 O;have c:=Zkd U o n (w+i) (o.getD (w+i) 0 ||| xs.getD i 0*2^b%U) O O;rw [Nh O,aG O,j]at a;rw [Zgp O,Zrk d,<-Zgp O]at c ;rw [Zgp O,Zrk d,<-Zgp O]at a ⊢;rw [<-Zjv (by omega:b<=64)]at a ⊢;rw [Qs];generalize xs.getD i 0=X at *;generalize o.getD (w+i) 0=C at *;have e:X*2^b*U^(w+i)=(X*2^b%U)*U^(w+i)+X*2^b/U*U^(w+i+1):=by
  conv=>lhs;rw [<-cL (X*2^b) U]
  rw [cK,cH U (w+i),bD U,dH (X*2^b/U),bD U];omega
 have g:(Yq U (xs.take i)+X*U^i)*2^b*U^w=Yq U (xs.take i)*2^b*U^w+X*2^b*U^(w+i):=by rw [cK,cK,cC];congr 1;rw [iB X,dH,dH,bD (U^i)];simp only [dH]
 rw [g,<-h,e];rw [cK]at c;omega
theorem Zod(o:List Nat)(j:Nat)(h:o.getD j 0=0):o.set j 0=o:=by
 rcases aX j o.length with a|a
 .refine Zf1 O5 (λi _=>?_);rw [Nh a];split
  .rename_i e;rw [<-e,h]
  .rfl
 .exact List.set_eq_of_length_le a
theorem Zwo{d n:Nat}(c:n<U)(a:r<d):(r*U+n)/d<U:=by rw [bW O];have:(r+1)*U<=d*U:=aL _ a;rw [bD U];rw [cK]at this;omega
theorem Zib{n:Nat}(h:n<U):tz [n]=dg U n:=by rw [<-Ia Qc [n] (by simpa using h)];simp [Yq]
theorem Ze8{N:Nat}{sc:Nat->Prop}{env:Pu}{H:Hp}{α:Type}{e:TypeId}{enc:α->Value}{xs ys:List α}(i:Nat)(h:xs=ys)(hi:lk H i=some (Of k e enc v xs))(c:Nat.beq i 0=false) :
  ∀a w,Sat N sc env H a w->Sat N sc env ((i,Of k e enc v ys)::H) a w:=by
 subst h;exact Zqp i hi rfl (λw h=>h) (λb d=>d) c
theorem Zn9(R:List Nat)(j:Nat)(a:j<=R.length):Yq U R=Yq U (R.take j)+U^j*Yq U (R.drop j):=by have:=Mb U (R.take j) (R.drop j);rw [fG,cD,dJ a]at this;exact this
theorem Zll(g:∀d∈R,d<U)(j:Nat)(e:j<=R.length):Yq U (R.take j)=Yq U R%U^j/\Yq U (R.drop j)=Yq U R/U^j:=by
 have c:=Zn9 R j e;have a:=Zh8 Qh (R.take j) (λd h=>g d (eW h));rw [cD,dJ e]at a;have l:0<U^j:=bZ Qh;constructor
 .rw [c,iC,gD,bG a]
 .rw [c,iC,fP l,cM a,eP]
theorem Zgd(e:∀d∈R,d<U){n:Nat}(g:n<=R.length)(h:Yq U R<U^n):Yq U (R.drop n)=0/\Yq U (R.take n)=Yq U R:=by obtain⟨a,c⟩:=Zll e n g;rw [c,a,bG h];exact⟨cM h,rfl⟩
theorem Yop(c:∀d∈R,d<U){j n:Nat}(g:j+n<=R.length)(h:Yq U R<U^(j+n)):tz ((R.drop j).take n)=dg U (Yq U R/U^j):=by have a:∀d∈R.drop j,d<U:=λd a=>c d (kG a);rw [<-(Zll c j O).2,<-Ia Qc _ (λd e=>a d (eW e))];congr 1;refine(Zgd a (by rw [gQ];omega) ?_).2;rw [(Zll c j O).2,bW (bZ Qh),<-cC,iC];exact h
theorem Ztr(c:∀d∈R,d<U)(e:∀d∈ys,d<U)(g:Nat):∀d∈spl R g ys,d<U:=λd a=>by
 simp only [spl,cP]at a;rcases a with(a|a)|a
 .exact c d (eW a)
 .exact e d a
 .exact c d (kG a)
theorem Zt4(L:Nat)(ys:List Nat):Yq U (spl (List.replicate L 0) 0 ys)=Yq U ys:=by simp [spl,Mb,mN,Gw]
theorem You(a:∀d∈R,d<U){j n:Nat}(g:j+n<=R.length)(h:Yq U R<U^(j+n))(l:ys.length<=n) :
  Yq U (spl (spl R j (List.replicate n 0)) j ys)=Yq U R%U^j+U^j*Yq U ys:=by
 have c:(spl R j (List.replicate n 0)).take j=R.take j:=by simp only [spl,eJ];rw [kF (by rw [cD];omega),gP,Nat.min_self]
 have e:(spl R j (List.replicate n 0)).drop (j+ys.length)=List.replicate (n-ys.length) 0 ++ R.drop (j+n):=by simp only [spl,eJ,aO];rw [<-List.drop_drop,List.drop_left' (by rw [cD];omega),List.drop_append_of_le_length (by rw [aO];exact l),mN]
 rw [spl,c,e,Mb,Mb,Mb,Gw,(Zgd a g h).1,(Zll a j O).1,cD,dJ O];simp
theorem Yqx{y:Nat}(d:0<y)(m:k=(dg U y).length)(B:b=64-bl ((dg U y).getD (k-1) 0)):(dg U (y*2^b)).length=k/\2^b*U^k<=y*2^b*U*2^b/\1<=k/\y*2^b<U^k/\b<=63/\U^(k-1)*9223372036854775808<=y*2^b:=by
 obtain⟨n,q,g,u⟩:=Yar d;rw [<-m]at n q g u;obtain⟨h,z⟩:=Zth d;have j:=Bz y;have e:bl y+b=64*k:=O;have c:y*2^b<U^k:=by rw [Zd2,<-e,cC];exact dS j (dK b)
 have a:U^(k-1)*9223372036854775808<=y*2^b:=by
  have:U^(k-1)*9223372036854775808=2^(bl y-1)*2^b:=by rw [Zd2,<-cC,show 9223372036854775808=2^63 from rfl,<-cC];congr 1;omega
  rw [this];exact aL _ h
 have l:U^k=U^(k-1)*U:=by rw [<-cH];congr 1;omega
 refine⟨?_,?_,g,c,O,a⟩
 .refine jH ((Xt Qc _ _).2 c) ?_;have:k-1<(dg U (y*2^b)).length:=(Ms Qc _ _).2 (aB (cZ _ O) a);omega
 .rw [l,bD (2^b)];refine aL _ ?_;refine aL _ (aB (cZ _ O) a)
theorem Ylp{W w1 w0 t:Nat}(a:t*U^k<=D)(e:0<t)(c:W/U^k=w1*U+w0):W/D<=(w1*U+w0)/t:=by have d:0<U^k:=bZ Qh;rw [<-c,aQ,bD];exact mO a (fJ e d)
theorem Yo1(c:∀d∈R,d<U){j:Nat}(m:1<=k)(h:Yq U R<U^(j+k+1))(n:j+k+1<=R.length):Yq U R/U^j/U^(k-1)=R.getD (j+k) 0*U+R.getD (j+k-1) 0:=by
 have e:∀i,R.getD i 0=Yq U R/U^i%U:=λi=>by
  rcases aX i R.length with hi|hi
  .have a:=(Zll c i O).2;rw [Zdo 0 R i hi]at a;simp only [Yq]at a;rw [<-a,iZ,bG (Qb Qh c i)]
  .rw [show R.getD i 0=0 by simp [List.getD,bT hi],cM (dL (Zh8 Qh R c) (cQ Qh hi))];rfl
 rw [e,e,aQ,<-cC,show j+(k-1)=j+k-1 by omega];have g:Yq U R/U^(j+k)<U:=by rw [bW (bZ Qh),<-mU,iC (j+k)]at *;rw [iC 1]at *;exact h
 have l:Yq U R/U^(j+k)=Yq U R/U^(j+k-1)/U:=by rw [aQ,<-cH];congr 2;omega
 rw [bG g,l,bD,cL]
theorem Ymp{x lx:Nat}(e:x<U^lx)(c:b<=63)(m:1<=k)(d:k<=lx+1)(a:U^(k-1)*9223372036854775808<=D):x*2^b<D*U^(lx+1-k):=by
 have g:x*2^b<U^lx*2^b:=dS e (dK b);have h:U^lx*2^b<=U^lx*9223372036854775808:=aY _ (by rw [show 9223372036854775808=2^63 from rfl];exact cQ O c)
 have j:U^lx*9223372036854775808=U^(k-1)*9223372036854775808*U^(lx+1-k):=by rw [iB,<-cC];congr 2;omega
 have l:U^(k-1)*9223372036854775808*U^(lx+1-k)<=D*U^(lx+1-k):=aL _ a;omega
theorem Ymn{V j Q Vq N:Nat}(h:0<D)(a:Q=V/U^j/D)(l:Vq*U^(j+1)*D+V=N) :
  V%U^j+U^j*(V/U^j-D*Q)<D*U^j/\(Q+U*Vq)*U^j*D+(V%U^j+U^j*(V/U^j-D*Q))=N:=by
 have m:0<U^j:=bZ Qh;have u:=bJ V m;have z:=cL V (U^j);have c:=cL (V/U^j) D;have d:=bJ (V/U^j) h;have e:V/U^j-D*Q=V/U^j%D:=by rw [a];omega
 rw [e];constructor
 .have g:U^j*(V/U^j%D+1)<=U^j*D:=aY _ d;rw [jM]at g;rw [bD D];omega
 .rw [<-l];have n:(Q+U*Vq)*U^j*D=U^j*(D*Q)+Vq*U^(j+1)*D:=by
   rw [cK,cK,cH];congr 1
   .rw [bD Q,dH,bD Q]
   .rw [bD U Vq,dH Vq,bD U]
  have q:U^j*(D*Q)+U^j*(V/U^j%D)=U^j*(V/U^j):=by rw [<-jM,a,c]
  omega
def sg(s:Bool)(x:Int):Prop:=(s=true->x<=0)/\(s=false->0<=x)
theorem Yii(h:sg s x):sg (!s) (-x):=by cases s<;>simp [sg]at*<;>omega
theorem Yij(hs:sg s x)(a:sg t y):sg (s != t) (x*y):=by
 cases s<;>cases t<;>simp [sg]at *
 all_goals simp_all [dZ,fW,fX,Int.mul_nonneg_of_nonpos_of_nonpos]
theorem Ye0(h:(((dg U x.natAbs).length:Nat):Int)=0):Value.int .i64 x.sign= .int .i64 0:=by have a:=(Ok Qc x.natAbs).1 O;grind
theorem Yid(hs:sg s x)(a:s=true)(h:¬(((dg U x.natAbs).length:Nat):Int)=0):Value.int .i64 x.sign= .int .i64 (-1):=by have c:=λe=>h (by rw [(Ok Qc _).2 e];rfl);have d:=hs.1 a;grind
theorem Yic(hs:sg s x)(a:s=false)(h:¬(((dg U x.natAbs).length:Nat):Int)=0):Value.int .i64 x.sign= .int .i64 1:=by have c:=λe=>h (by rw [(Ok Qc _).2 e];rfl);have d:=hs.2 a;grind
theorem Yay(hs:sg s x)(a:sg s y):sg s (x+y):=by cases s<;>simp [sg]at*<;>omega
theorem Zh4(hs:sg s x)(a:sg s y):(x+y).natAbs=x.natAbs+y.natAbs:=by cases s<;>simp [sg]at*<;>omega
theorem Zki(hs:sg s x)(c:sg t y)(h:s≠t)(a:y.natAbs<=x.natAbs):sg s (x+y):=by cases s<;>cases t<;>simp [sg]at*<;>omega
theorem Zbz(hs:sg s x)(c:sg t y)(h:s≠t)(a:y.natAbs<=x.natAbs):(x+y).natAbs=x.natAbs-y.natAbs:=by cases s<;>cases t<;>simp [sg]at*<;>omega
abbrev wv (x:Int):Value:= .agg #[.bool (decide (x<0)),.string (Qq x.natAbs)]
def Zbv(x:Int):Int:=if 65536<bl x.natAbs then 0 else x
def Zj8(x:Int):Int:=if 65536<bl x.natAbs then 7 else 0
theorem Ysn:bl (Zbv x).natAbs<=65536:=by
 unfold Zbv;split
 .decide
 omega
theorem Hd(h:bl x.natAbs<=65536):Zbv x=x:=by unfold Zbv;omega
theorem Zsa(h:bl x.natAbs<=65536):Zj8 x=0:=by unfold Zj8;omega
theorem Ysm(h:65536<bl x.natAbs):Zbv x=0:=by unfold Zbv;omega
theorem Yrm(h:65536<bl x.natAbs):Zj8 x=7:=by unfold Zj8;omega
abbrev Ze5 (x:Int):Value:= .tuple #[wv (Zbv x),.int .i64 (Zj8 x)]
theorem Yem(h:((65536:Int)<((bl x.natAbs:Nat):Int))):Ze5 x= .tuple #[.agg #[.bool false,.string ⟨#[]⟩],.int .i64 7]:=by unfold Ze5;rw [Ysm O,Yrm O];rfl
theorem Yab(h:¬((65536:Int)<((bl x.natAbs:Nat):Int))):Ze5 x= .tuple #[wv x,.int .i64 0]:=by grind [Hd,Zsa]
theorem Zty(hs:sg false x)(h:¬((65536:Int)<((bl x.natAbs:Nat):Int))):Ze5 x= .tuple #[.agg #[.bool false,.string (Qq x.natAbs)],.int .i64 0]:=by rw [Yab h,wv,aF (by have:=hs.2 rfl;omega)]
theorem Ztx(hs:sg true x)(h:¬((65536:Int)<((bl x.natAbs:Nat):Int))):Ze5 x= .tuple #[.agg #[.bool (decide ((0:Int)<(((dg U x.natAbs).length:Nat):Int))),.string (Qq x.natAbs)],.int .i64 0]:=by have a:=hs.1 rfl;have c:=Ok Qc x.natAbs;rw [Yab h,wv,show decide _=decide ((0:Int)<(((dg U x.natAbs).length)))from bF.2 ⟨λh=>O,λh=>O⟩]
theorem Zew{q r:Int}(c:y≠0)(h:x=y*q+r)(j:0<=r)(l:r<(y.natAbs:Int)):x/y=q/\x%y=r:=by
 have e:=Int.mul_ediv_add_emod x y;have d:=lZ x c;have g:=Int.emod_lt x c;have n:x/y=q:=by
  have m:y*(x/y-q)=r-x%y:=O4;have a:(y*(x/y-q)).natAbs<y.natAbs:=O;rw [bX]at a;rcases aV (x/y-q).natAbs with h|h
  .omega
  .exact absurd (cZ y.natAbs h) O
 grind
theorem Zx0(h:sg s x):x=if s then -(x.natAbs:Int)else(x.natAbs:Int):=by cases s<;>simp [sg]at*<;>omega
theorem Yda(hs:sg s x)(c:sg t y)(d:y≠0){Q R:Nat}(g:R<y.natAbs)(h:x=(if s then -1 else 1)*((y.natAbs:Int)*Q)+R) :
  sg (s != t) (x/y)/\(x/y).natAbs=Q/\(x%y).natAbs=R:=by
 have e:=Zx0 c;have a:x/y=(if s != t then -(Q:Int)else Q)/\x%y=R:=by refine Zew d ?_ O5 O;grind
 rw [a.1,a.2];cases s<;>cases t<;>simp [sg]
theorem divB(hs:sg s x)(g:sg t y)(h:y≠0)(d:s=false\/x.natAbs%y.natAbs=0):sg (s != t) (x/y)/\(x/y).natAbs=x.natAbs/y.natAbs/\(x%y).natAbs=x.natAbs%y.natAbs:=by
 have j:=Zx0 hs;have e:=cL x.natAbs y.natAbs;refine Yda hs g h (bJ _ O) ?_;have a:((y.natAbs:Int)*((x.natAbs/y.natAbs:Nat)))+((x.natAbs%y.natAbs:Nat))=x.natAbs:=O;rcases d with rfl|c
 .grind
 .rw [c]at a ⊢
  all_goals grind
theorem divA(hs:sg true x)(a:sg t y)(c:y≠0)(d:0<x.natAbs%y.natAbs):sg (true != t) (x/y)/\(x/y).natAbs=x.natAbs/y.natAbs+1/\(x%y).natAbs=y.natAbs-x.natAbs%y.natAbs:=by have h:=Zx0 hs;have e:=cL x.natAbs y.natAbs;have g:=bJ x.natAbs (show 0<y.natAbs by omega);refine Yda hs a c O ?_;grind
def okW(b:Bool)(s:ByteArray):Bool:=if s.size=0 then !b else decide ((s.data.toList.getD 0 0).toNat≠0) && decide (s.size<=8192)
theorem bl256{n:Nat} : (dg 256 n).length<=k↔bl n<=8*k:=by grind [Ziz]
theorem Zdf(h:bl x.natAbs<=65536):okW (decide (x<0)) (Qq x.natAbs)=true:=by
 unfold okW;rw [Ee];split
 .grind [Ok]
 .have c:0<x.natAbs:=by grind [Nat.eq_zero_or_pos,Gq]
  have d:=Znt x.natAbs 0 O;have a:=dg_top (by simp:2<=256) c;rw [Hr O5]at a;simp_all [bl256,aR,aJ]
theorem Zp4{a b:ByteArray}(h:a.data.toList=b.data.toList):a=b:=by cases a;simp_all
theorem Ys0{s:ByteArray}(e:s.size≠0)(h:(s.data.toList.getD 0 0).toNat≠0):s=Qq (Yq 256 (s.data.toList.reverse.map UInt8.toNat)):=by
 have a:∀d∈s.data.toList.reverse.map UInt8.toNat,d<256:=λd c=>by obtain⟨u,_,rfl⟩:=eH.1 c;exact u.toNat_lt
 unfold Qq;rw [Ia O5 _ a,tz_eq]
 .simp [List.map_reverse,Function.comp_def]
 grind
theorem Zrl{b:Bool}{s:ByteArray}(h:okW b s=true):∃x:Int,bl x.natAbs<=65536/\b=decide (x<0)/\s=Qq x.natAbs:=by
 unfold okW at h;split at h
 .rename_i a;refine⟨0,O3,?_,?_⟩
  .all_goals grind
  .refine Zp4 ?_;have:=a;rw [aC this];rfl
 .rename_i a;rw [aR]at h;have c:=cF h.1;have hs:=Ys0 a c;generalize Yq 256 _=n at hs;have e:(dg 256 n).length=s.size:=by grind [Ee]
  have g:0<n:=by grind [Nat.eq_zero_or_pos,Gq]
  have d:bl n<=65536:=by grind [bl256]
  cases b with
  | true=>exact⟨-(n),O4,O4,O4⟩
  | false=>exact⟨n,O4,by rfl,O4⟩
def eqW(a:Bool)(s:ByteArray)(b:Bool)(t:ByteArray):Bool:=(a == b) && (s.toList == t.toList)
theorem Yg4(h:decide (x<0)=decide (y<0))(a:Qq x.natAbs=Qq y.natAbs):x=y:=by
 have e:x.natAbs=y.natAbs:=by
  have g:(dg 256 x.natAbs).reverse.map UInt8.ofNat=(dg 256 y.natAbs).reverse.map UInt8.ofNat:=by have:=aE (λb=>b.data.toList) a;assumption
  have j:∀n,((dg 256 n).reverse.map UInt8.ofNat).map UInt8.toNat=(dg 256 n).reverse:=λn=>by
   rw [kO]
   conv=>rhs;rw [<-nO (dg 256 n).reverse]
   refine kK λd c=>?_;have:=Nx O5 n d (List.mem_reverse.1 c);simp_all
  grind [Zi6,List.reverse_inj]
 grind
theorem Zsq{a b:Bool}{s t:ByteArray} : eqW a s b t=true↔a=b/\s=t:=by unfold eqW;rw [ByteArray.toList_eq,ByteArray.toList_eq];grind [Zp4]
theorem Yme(x y:Int):eqW (decide (x<0)) (Qq x.natAbs) (decide (y<0)) (Qq y.natAbs)=decide (x=y):=by rw [Bool.eq_iff_iff,Zsq];grind [Yg4]
theorem Qr(x:Int):sg (decide (x<0)) x:=by unfold sg;simp;omega
theorem He(x y:Int):bl (x+y).natAbs<=max (bl x.natAbs) (bl y.natAbs)+1:=
 aB (Og (nH x y)) bl_add
theorem Yr(x y:Int):bl (x*y).natAbs<=bl x.natAbs+bl y.natAbs:=by rw [bX];exact Zny _ _
theorem Aa(x y:Int):bl (x-y).natAbs<=max (bl x.natAbs) (bl y.natAbs)+1:=by have:=He x (-y);rwa [dM,<-eU]at this
theorem Znx(x:Int):bl (-x).natAbs=bl x.natAbs:=by rw [dM]
theorem Zld(x y:Int):bl (x/y).natAbs<=bl x.natAbs+1:=by have h:(x/y).natAbs<=x.natAbs:=jA x y;have:=Og h;omega
theorem Ztj(x y:Int)(a:y≠0):bl (x%y).natAbs<=bl y.natAbs:=by have c:=lZ x a;have d:=Int.emod_lt x a;exact Og O
theorem Ztk(x y:Nat):bl (Nat.gcd x y)<=max (bl x) (bl y):=by
 rcases aV x with h|h
 .subst h;rw [Nat.gcd_zero_left];omega
 .have:=Og (lH h (lK x y));omega
def Ypq(x:Int)(h:y≠0):sg false (x%y):=⟨λa=>Bool.noConfusion a,λ_=>lZ x h⟩
def Kq(x y:Int):Int:=if y<0 then -(Int.gcd x y:Int)else(Int.gcd x y:Int)
theorem Zdh(x y:Int):(Kq x y).natAbs=Nat.gcd x.natAbs y.natAbs:=by unfold Kq;split<;>simp [Int.gcd]
theorem Yq7(h:y≠0):Kq x y≠0:=λe=>by have a:=Zdh x y;rw [e]at a;have:=(Nat.gcd_eq_zero_iff.1 a.symm).2;omega
theorem Ypo(a:sg t y)(c:y≠0):sg t (Kq x y):=by
 unfold Kq sg at *;refine⟨λh=>?_,λh=>?_⟩
 .rw [aM (by have:=a.1 h;omega)];omega
 .rw [aG (by have:=a.2 h;omega)];omega
theorem Ycc(x y:Int):Dr v (Nat.gcd x.natAbs y.natAbs)=Dr v (Kq x y).natAbs:=by rw [Zdh]
def Ij(x y:Int):Prop:=65536<bl (x/Kq x y).natAbs\/65536<bl (y/Kq x y).natAbs
instance (x y:Int):Decidable (Ij x y):=by unfold Ij;infer_instance
def Dq(x y:Int):Int:=if Ij x y then 0 else x/Kq x y
def Eh(x y:Int):Int:=if Ij x y then 0 else y/Kq x y
def Yi8(x y:Int):Int:=if Ij x y then 7 else 0
abbrev Zcf (x y:Int):Value:= .tuple #[.agg #[.bool (decide (Dq x y<0)),.string (Qq (Dq x y).natAbs),.bool (decide (Eh x y<0)),.string (Qq (Eh x y).natAbs)],.int .i64 (Yi8 x y)]
theorem Zce(h:Ij x y):Zcf x y= .tuple #[.agg #[.bool false,.string ⟨#[]⟩,.bool false,.string ⟨#[]⟩],.int .i64 7]:=by unfold Zcf Dq Eh Yi8;rw [aM h,aM h,aM h];rfl
theorem Zau(h:Zj8 x≠0):65536<bl x.natAbs:=by
 unfold Zj8 at h;split at h
 .assumption
 .exact absurd rfl h
theorem Zk0(h:Zj8 x=0):bl x.natAbs<=65536:=by
 unfold Zj8 at h;split at h
 .omega
 .omega
theorem Zu5(c:Zj8 (x/Kq x y)=0)(d:Zj8 (y/Kq x y)=0):Zcf x y= .tuple #[.agg #[.bool (decide (Zbv (x/Kq x y)<0)),.string (Qq (Zbv (x/Kq x y)).natAbs),.bool (decide (Zbv (y/Kq x y)<0)),.string (Qq (Zbv (y/Kq x y)).natAbs)],.int .i64 0]:=by
 have a:¬Ij x y:=λh=>by have:=Zk0 c;have:=Zk0 d;unfold Ij at h;omega
 unfold Zcf Dq Eh Yi8;rw [aG a,aG a,aG a,Hd (Zk0 c),Hd (Zk0 d)]
def okR(b:Bool)(s:ByteArray)(c:Bool)(t:ByteArray):Bool:=okW b s && okW c t && (!c && decide (0<t.size))
theorem Zrd(z:Int):(!decide (z<0) && decide (0<(Qq z.natAbs).size))=decide (0<z):=by rw [Bool.eq_iff_iff,aR,Ee,iD,iD];have:=Ok (by omega:2<=256) z.natAbs;simp only [fB,fM];omega
theorem El(z:Int):decide (0<z.sign)=decide (0<z):=by
 rw [bF];rcases lD z 0 with h|h|h
 .rw [iS h];omega
 .subst h;simp
 .rw [jT h];omega
theorem Zvn{b:Bool}{s:ByteArray}{z:Int}(a:okW b s=true)(c:bl z.natAbs<=65536):okR b s (decide (z<0)) (Qq z.natAbs)=decide (0<z.sign):=by unfold okR;rw [a,Zdf c,Zrd,El];rfl
theorem okR_wv(c:bl x.natAbs<=65536)(d:bl y.natAbs<=65536)(a:0<y):okR (decide (x<0)) (Qq x.natAbs) (decide (y<0)) (Qq y.natAbs)=true:=by unfold okR;rw [Zdf c,Zdf d,Zrd];simp [a]
theorem Ykh{b c:Bool}{s t:ByteArray}(h:okR b s c t=true):∃x y:Int,bl x.natAbs<=65536/\bl y.natAbs<=65536/\0<y/\b=decide (x<0)/\s=Qq x.natAbs/\c=decide (y<0)/\t=Qq y.natAbs:=by unfold okR at h;rw [aR,aR]at h;obtain⟨⟨d,e⟩,a⟩:=h;obtain⟨x,g,rfl,rfl⟩:=Zrl d;obtain⟨y,j,rfl,rfl⟩:=Zrl e;rw [Zrd]at a;exact⟨x,y,g,j,cF a,rfl,rfl,rfl,rfl⟩
open Go.RowKit Below
def Sz(n:Nat)(p:List Int):Prop:=∀i,bl (cf p i).natAbs<=n
def Sz.getD{n:Nat}(h:Sz n p)(i:Nat):bl (p.getD i 0).natAbs<=n:=h i
def Sz.mono{n m:Nat}(h:Sz n p)(a:n<=m):Sz m p:=λi=>aB (h i) a
theorem Sz.tzl{n:Nat}(h:Sz n p):Sz n (tzl p):=λi=>by rw [Lb];exact h i
theorem Sz.nil(n:Nat):Sz n []:=λi=>by simp [cf,Ks]
theorem Sz.take{n:Nat}(h:Sz n p)(k:Nat):Sz n (p.take k):=λi=>by
 rw [Dg];split
 .exact h i
 .simp [Ks]
theorem Sz.mem{n:Nat}(h:Sz n p)(a:x∈p):bl x.natAbs<=n:=by obtain⟨i,hi,rfl⟩:=cW.1 a;have:=h i;rwa [Zfj hi]at this
theorem Sz.of_mem{n:Nat}(h:∀x∈p,bl x.natAbs<=n):Sz n p:=λi=>by
 rcases aX i p.length with hi|hi
 .rw [Zfj hi];exact h _ (iX hi)
 .rw [Yn hi];simp [Ks]
structure Vp (p:List Int):Prop where
 sz:Sz 65536 p
 tr:Tr p
 len:p.length<=25
def wr(x:Int):Bool×ByteArray:=(decide (x<0),Qq x.natAbs)
def okP(r:List (Bool×ByteArray)):Bool:=r.all (λw=>okW w.1 w.2) && (decide (r.length<=25) && (decide (r.length=0) || decide ((r.getD (r.length-1) (false,⟨#[]⟩)).2.size≠0)))
theorem Zf6 : (Qq x.natAbs).size=0↔x=0:=by rw [Ee];have:=Ok (by omega:2<=256) x.natAbs;omega
theorem Zdj(h:i<xs.length):(xs.map wr).getD i (false,⟨#[]⟩)=wr (cf xs i):=by rw [Zfj h];simp [List.getD,h]
theorem okP_wr(h:Vp xs):okP (xs.map wr)=true:=by
 unfold okP;rw [aR,aR,mA];refine⟨cJ.2 λw e=>?_,by simpa using h.len,?_⟩
 .obtain⟨x,g,rfl⟩:=eH.1 e;exact Zdf (h.sz.mem g)
 .rcases h.tr with a|a
  .left;simp [a]
  .right;have j:0<xs.length:=by
    rcases aV xs.length with c|c
    .rw [Yn O]at a;exact absurd rfl a
    .exact c
   rw [aT,Zdj O];refine aJ λd=>a (Zf6.1 d)
theorem Zvm{r:List (Bool×ByteArray)}(h:∀w∈r,okW w.1 w.2=true):∃xs:List Int,(∀x∈xs,bl x.natAbs<=65536)/\r=xs.map wr:=by
 induction r with
 | nil=>exact⟨[],O5,rfl⟩
 | cons w r m=>
  obtain⟨xs,c,d⟩:=m λu j=>h u (bE _ j);obtain⟨x,l,e,g⟩:=Zrl (h w (bK ..));refine⟨x::xs,λy a=>?_,?_⟩
  .rcases bB.1 a with rfl|a
   .exact l
   .exact c y a
  .rw [bP,<-d,wr,<-e,<-g]
theorem okP_ex{r:List (Bool×ByteArray)}(h:okP r=true):∃xs:List Int,Vp xs/\r=xs.map wr:=by
 unfold okP at h;rw [aR,aR,mA]at h;obtain⟨d,e,a⟩:=h;obtain⟨xs,g,rfl⟩:=Zvm (cJ.1 d);refine⟨xs,⟨Sz.of_mem g,?_,by simpa using e⟩,rfl⟩;rcases a with a|a
 .left;exact aC (by simpa using a)
 .rcases aV xs.length with c|c
  .left;exact aC c
  .right;rw [aT,Zdj O]at a;exact λj=>cF a (Zf6.2 j)
theorem Zlp (k:Nat){j:Nat}(h:j<k)(a:(xs.take k).getD j 0=0):cf xs j=0:=by rw [Zi0 _ _ _ h]at a;exact a
theorem Zgj (k:Nat){j:Nat}(h:j<k)(a:¬((xs.take k).getD j 0).sign=0):cf xs j≠0:=λe=>a (by rw [Zi0 _ _ _ h];rw [show xs.getD j 0=0 from e];rfl)
theorem Yqt{r:List (Bool×ByteArray)}{w:Bool×ByteArray}(a:w∈r)(h:okW w.1 w.2=false):okP r=false:=by unfold okP;rw [show r.all (λw=>okW w.1 w.2)=false from List.all_eq_false.2 ⟨w,a,by simp [h]⟩];rfl
theorem Zrm(h:∀x∈xs,bl x.natAbs<=65536):okP (xs.map wr)=(decide (xs.length<=25) && (decide (xs.length=0) || decide (¬(xs.getD (xs.length-1) 0).sign=0))):=by
 unfold okP;rw [show(xs.map wr).all (λw=>okW w.1 w.2)=true from cJ.2 λw c=>by obtain⟨x,d,rfl⟩:=eH.1 c;exact Zdf (h x d)]
 rw [aT,mV];congr 1;by_cases a:xs.length=0
 .simp [a]
 .rw [aF a,Bool.false_or,Bool.false_or,Zdj O];rw [bF,eD];exact not_congr Zf6
def err(e x:Int):Int:=if e=0 then Zj8 x else e
theorem Zza(h:bl x.natAbs<=65536):err 0 x=0:=by unfold err;rw [aM rfl,Zsa h]
def Xz:List Int->Nat
 | []=>0
 | x::r=>max (bl x.natAbs) (Xz r)
theorem Pd(p:List Int):Sz (Xz p) p:=by
 refine Sz.of_mem λx a=>?_
 induction p with
 | nil=>cases a
 | cons y r c=>
  rcases bB.1 a with rfl|h
  .simp only [Xz];omega
  .have:=c h;simp only [Xz];omega
theorem Qx{n:Nat}(h:Sz n p):Xz p<=n:=by
 have c:∀x∈p,bl x.natAbs<=n:=λx a=>h.mem a;clear h
 induction p with
 | nil=>exact bA _
 | cons y r d=>
  have:=c y (bK ..);have:=d λx a=>c x (bE _ a);simp only [Xz];omega
theorem Yk0(p:List Int)(x:Int):Xz (p ++ [x])=max (Xz p) (bl x.natAbs):=by
 induction p with
 | nil=>simp [Xz]
 | cons y r a=>simp only [gO,Xz,a];omega
variable {P:Program} {N:Nat} {sc:Nat->Prop} {env env':Pu} {H H':Hp} {Q Q':Exit->Act->World->Prop} {M:Nat->Prop}
theorem fpm{α β:Type}{f:α->β}{xs:List α}{p:Prop}(h:xs.map f≠[]/\p):xs≠[]/\p:=⟨λe=>h.1 (by rw [e];rfl),h.2⟩
def fpn{α β:Type}{f:α->β}{xs:List α}{p:Prop}(h:xs≠[]/\p):xs.map f≠[]/\p:=⟨λe=>h.1 (List.map_eq_nil_iff.1 e),h.2⟩
theorem Zxx(v:Value)(xs:List Int)(w:World)(h:(Yy 2 wv v xs).holds w):(Yy 2 (λw:Bool×ByteArray=>Value.agg #[.bool w.1,.string w.2]) v (xs.map wr)).holds w:=by
 obtain⟨⟨a,c,l,m,n,d⟩,z⟩:=h;refine⟨⟨a,c,by rw [aT];exact l,by rw [aT];exact m,n,?_⟩,λb h=>z b (fpm h)⟩;rcases d with d|⟨g,e,d,q⟩
 .left;rw [d];rfl
 .right;refine⟨g,e,d,λi x hi j u B=>?_⟩;rw [fC]at hi;cases hx:xs[i]? with
  | none=>rw [hx]at hi;cases hi
  | some y=>rw [hx]at hi;cases hi;exact q i y hx j u B
theorem Ypi(v:Value)(xs:List Int)(w:World)(h:(Yy 2 (λw:Bool×ByteArray=>Value.agg #[.bool w.1,.string w.2]) v (xs.map wr)).holds w):(Yy 2 wv v xs).holds w:=by
 obtain⟨⟨a,c,l,m,n,d⟩,z⟩:=h;rw [aT]at l m;refine⟨⟨a,c,l,m,n,?_⟩,λb h=>z b (fpn h)⟩;rcases d with d|⟨g,e,d,q⟩
 .left;simpa using d
 .right;refine⟨g,e,d,λi x hi j u B=>?_⟩;exact q i (wr x) (by rw [fC,hi];rfl) j u B
theorem Cal.imp{p q:Pc}{al:Bool}{G:Type}{φ:G->Prop}{Yq:G->Value}{j:G->List Pc}(h:Cal P f args (p::pre) al φ Yq j)(V:∀w,q.holds w->p.holds w)(I:∀b,p.fp b->q.fp b) :
  Cal P f args (q::pre) al φ Yq j:=λw n=>by
 refine(h w λr a=>?_).mono ?_
 .rcases bB.1 a with rfl|a
  .exact V w (n q (bK ..))
  .exact n r (bE _ a)
 .rintro e Y ⟨g,F,S,l,c⟩;refine⟨g,F,S,l,λW m=>?_⟩;obtain⟨u,z,B⟩:=c W m;refine⟨u,z,λb l=>?_⟩;rcases B b l with h|⟨h,r,a,d⟩
  .exact .inl h
  .refine .inr ⟨h,?_⟩;rcases bB.1 a with rfl|a
   .exact⟨q,bK ..,I b d⟩
   .exact⟨r,bE _ a,d⟩
end Go.Sky

