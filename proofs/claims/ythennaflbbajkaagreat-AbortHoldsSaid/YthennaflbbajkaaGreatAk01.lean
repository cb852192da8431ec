/- Rules, arithmetic and contracts: part 2. No conditions but those that each theorem names. -/
import Derived.Test.YthennaflbbajkaaGreatAk00
import Derived.Laws.Externs
import Derived.Lib.SliceRun
import Derived.Great.BuildSlice
import Derived.Laws.Small
import Derived.Laws.StructEq
set_option linter.all false
namespace Go.Sky
open Go.RowKit Below
variable{f:FuncId}{vs:List Value}{pre r:List Pc}{args cs:Array Value}{x y:Operand}{t tb:TypeId}{i k d:Nat}{v:Value}{w0:World}{M0:Nat->Prop}{ops:Array Oper}{rest:List Oper}{parts:Array (Nat×Operand)}
variable {P:Program} {N:Nat} {sc:Nat->Prop} {env env':Qm} {H H':Hp} {Q Q':Exit->Act->World->Prop} {M:Nat->Prop}
def Ql:Nat->List Value->Qm
  | _,[]=>[]
  | n,v::r=>(n,v)::Ql (n+1) r
def Yn:Nat->List Pc->Hp
  | _,[]=>[]
  | n,p::r=>(n,p)::Yn (n+1) r
def AllRo:List Pc->Prop
  | []=>True
  | p::r=>p.own=false/\AllRo r
theorem AllRo.mem:∀{l:List Pc},AllRo l->∀p∈l,p.own=false
  | p::r,h,q,a=>by
    cases a with
    | head=>exact h.1
    | tail _ a=>exact AllRo.mem h.2 q a
theorem Gj:∀(l:List Value) (n t:Nat) (v:Value),lk (Ql n l) t=some v->n<=t/\l[t-n]? = some v
  | [],_,_,_,h=>by cases h
  | u::r,n,t,v,h=>by
    simp only [Ql]at h;by_cases a:n=t
    . grind [Zp]
    . rw [Zh _ _ a]at h;obtain⟨b,c⟩:=Gj r _ t v h;grind
theorem Na:∀(l:List Pc) (n t:Nat) (v:Pc),lk (Yn n l) t=some v->n<=t/\v∈l
  | [],_,_,_,h=>by cases h
  | u::r,n,t,v,h=>by
    simp only [Yn]at h;by_cases a:n=t
    . grind [Zp]
    . rw [Zh _ _ a]at h;obtain⟨b,c⟩:=Na r _ t v h;grind
theorem cal_in  {fn:Func} {c:Code}   {al:Bool} {G:Type} {φ:G->Prop} {val:G->Value} {a:G->List Pc} {N:Nat}
    (o:P.funcs[f]? = some fn) (n:fn.body=some c) (m:fn.ntmps=N) (s:Nat.ble vs.length N=true) (g:AllRo pre)
    (h:∀w0 (sc:Nat->Prop),(∀b,w0.heap.size<=b->sc b)->(∀b,sc b->w0.heap.size<=b\/∃q∈pre,q.fp b)->
      E P N sc c (Za1 P fn w0 pre al φ val a) (Ql 0 vs) ((0,Zy w0 (λ_=>False))::Yn 1 pre)) :
    Cal P f vs.toArray pre al φ val a:=
  Yeh o n m (λt v u=>by simpa using(Gj vs 0 t v u).2) O11
    (λw i p hi=>by
      by_cases j:0=i
      . grind [Zp]
      . rw [Zh _ _ j]at hi;obtain⟨_,l⟩:=Na pre 1 i p hi;exact .inr ⟨λe=>j e.symm,l,g.mem p l⟩) h
def Cal.bare{al a:Bool}{G:Type}{φ:G->Prop}{val:G->Value}{b:G->List Pc}(h:Cal P f args pre al φ val b):Cal P f args pre a φ val (λ_=>[]):=
  λw c=>(h w c).mono λe n ⟨g,l,m,j,_⟩=>⟨g,l,m,j,λp c=>O5⟩
def Ones(N:Nat)(sc:Nat->Prop)(env:Qm)(H:Hp):List Value->Prop
  | []=>True
  | v::r=>One N sc env H v/\Ones N sc env H r
theorem Ones.mem:∀{l:List Value},Ones N sc env H l->∀u∈l,One N sc env H u
  | v::r,h,u,a=>by
    cases a with
    | head=>exact h.1
    | tail _ a=>exact Ones.mem h.2 u a
def t_stp {o:Oper}   {b j:Nat} {cs':Array Value}     (q:o.op= .store t x y) (n:o.dst=none)
    (z:ev env x=some (.pointer (some ⟨b,j,none⟩))) (B:ev env y=some v) (l:lk H i=some (box b tb cs)) (e:i≠0) (s:v.cells=vs.toArray) (p:∀w,(sizeOf t).run P w= .ok k w) (c:vs.length=k)
    (a:Nat.ble (j+vs.length) cs.size=true) (h:Ones N sc env H vs)
    (g:lk H 0=some (Zy w0 M0)) (u:∀b,w0.heap.size<=b->sc b) (m:M b) :
    T P N sc M o env H (G:=Unit) (λ_=>True) (λ_=>env) (λ_=>(i,box b tb (Fi cs j vs))::H):=
  Zip q n z B l e s p c (gR a) h.mem rfl g u m
theorem t_stw {o:Oper}   {b:Nat}      (n:o.op= .store t x y) (l:o.dst=none)
    (u:ev env x=some (.pointer (some ⟨b,0,none⟩))) (z:ev env y=some v) (h:lk H i=some (box b tb cs)) (q:v.cells=vs.toArray) (m:∀w,(sizeOf t).run P w= .ok k w) (a:vs.length=k)
    (p:cs.size=k) (g:Ones N sc env H vs)
    (e:lk H 0=some (Zy w0 M0)) (s:∀b,w0.heap.size<=b->sc b) (j:M b) (c:i≠0:=by decide) :
    T P N sc M o env H (G:=Unit) (λ_=>True) (λ_=>env) (λ_=>(i,box b tb vs.toArray)::H):=
  Zip n l u z h c q m a O1 g.mem (by unfold Fi;grind) e s j
theorem Ydy{al:Bool}{α:Type}{e:TypeId}{enc:α->Value}{xs ys:List α}(i:Nat)(hi:lk H i=some (Nk k e enc v xs))(b:Nat.beq i 0=false)(c:Enc P t k enc)(a:xs=ys)(h:Give H al r) :
    Give H al (Yt k enc v ys::r):=by grind [Yi8]
theorem Zma{p q:Pc}(i:Nat)(hi:lk H i=some p)(b:Nat.beq i 0=false)(c:p.own=false)(a:p=q)(h:Give H true r) :
    Give H true (q::r):=by grind [Gx]
theorem Xw (d:Nat)    {b:Bool} (g:lk env d=some (.bool b))
    (j:b=true->L P N sc ops rest Q ((d,.bool true)::env) H) (h:b=false->L P N sc ops rest Q ((d,.bool false)::env) H):L P N sc ops rest Q env H:=by
  cases b with
  | true=>
    refine λa w hs=>j rfl a w ⟨hs.size,hs.defers,λt v c=>?_,hs.hold,hs.sep,hs.scope⟩;by_cases e:d=t
    . subst e;rw [Zp]at c;cases c;exact hs.env _ _ g
    . rw [Zh _ _ e]at c;exact hs.env _ _ c
  | false=>
    refine λa w hs=>h rfl a w ⟨hs.size,hs.defers,λt v c=>?_,hs.hold,hs.sep,hs.scope⟩;by_cases e:d=t
    . subst e;rw [Zp]at c;cases c;exact hs.env _ _ g
    . rw [Zh _ _ e]at c;exact hs.env _ _ c
theorem Dt (i:Nat)(n:Nat)(c:Nat) {α:Type} {o:Oper} {e:TypeId}    {m:Int}   {enc:α->Value} {ti:TypeInfo} (q:α)
    (V:o.op= .makeSlice t x y) (I:o.dst=some d) (Z:ev env x=some (.int .i64 m)) (hy:ev env y=some (.int .i64 m)) 
    (W:P.underlying t=some (.slice e)) (hi:P.info? e=some ti) (hz:ti.zero=some (enc q)) (R:∀x,(enc x).cells.size=k) (h:0<k) (l:ti.size=k) (j:ti.bytes=c)
     
    (u:lk H 0=some (Zy w0 M0)) (Y:∀b,w0.heap.size<=b->sc b) (B:Nat.blt d N=true:=by rfl) (S:m=(n:Int):=by omega) (D:c*n<=281474976710656:=by omega) (g:0<c:=by decide) :
    T P N sc M o env H (G:=Value) (λ_=>True) (λv=>(d,v)::env) (λv=>(i,Nk k e enc v (List.replicate n q))::H):=λa w hs K Q z=>
  t_mk q V I B Z hy S W hi hz R h l j D g u Y a w hs K Q λb s w' _ p F=>z _ s w' aA p F
def t_bsn {α:Type} {o:Oper} {e:TypeId} {n:Nat}      {enc:α->Value} (xs:List α)
    (B:o.op= .buildSlice t n parts) (q:o.dst=some d) (m:Nat.blt d N=true)
    (D:∀a w,Sat N sc env H a w->(Instr.buildSlice t n (parts.map λ(i,x)=>(i,a.eval x))).run P w= .ok (.slice (some ⟨w.heap.size,0,none⟩) n n) (w.alloc (.cells cs e)))
    (c:cs.toList=cellsOf enc xs) (z:xs.length=n) (s:∀x,(enc x).cells.size=k) (u:n<=maxLen)
    (j:lk H 0=some (Zy w0 M0)) (F:∀b,w0.heap.size<=b->sc b) :
    T P N sc M o env H (G:=Value) (λ_=>True) (λv=>(d,v)::env) (λv=>(i,Nk k e enc v xs)::H):=λa w hs K Q l=>
  t_bs xs B q m D c z s u j F a w hs K Q λb h I _ g p=>l _ h I aA g p
end Go.Sky
namespace Go.Sky
open Go.RowKit Below
variable{a b:Nat}{f:FuncId}{xs:List Operand}{ats:Array TypeId}{vs:List Value}{x y z:Operand}{t t':TypeId}{k:IntKind}{v:Value}{p:Pc}
variable {P:Program} {N:Nat} {sc:Nat->Prop} {env env':Qm} {H H':Hp} {Q Q':Exit->Act->World->Prop} {M:Nat->Prop}
def Zfc:Array Value->Sem Value:=λc=>do
 let (x, y, b) ← Extern.MathBitsCarry.three "Sub64" c
 pure (Extern.MathBitsCarry.pair ((x+Extern.MathBitsCarry.m64-y-b)%Extern.MathBitsCarry.m64) (if x<y+b then 1 else 0))
theorem Yc3{P:Program}(x y c:Nat)(d:c<=1)(w:World) :
  (Zfc #[.int .u64 x,.int .u64 y,.int .u64 c]).run P w =
   .ok (.tuple #[.int .u64 (((x+U-y-c)%U:Nat):Int),.int .u64 ((if x<y+c then 1 else 0:Nat):Int)]) w:=by
 have:c=0\/c=1:=O1;rcases this with rfl|rfl<;>rfl
theorem Gt {a:Act} {w:World} (hs:Sat N sc env H a w) {o:Oper}     (e:o.op= .call { callee:= .value (.func f),args:=xs.toArray,argTypes:=ats })
  (c:EvL env xs vs):(execOp a.eval o).run P w=(callFunc f vs.toArray).run P w:=by
 have d:=c.map hs;simp [execOp,e,resolve,invoke,Act.eval,Deferred.ofValue,d]
theorem Zro (c:Nat) {o:Oper}     (e:o.op= .call { callee:= .value (.func f),args:=#[x,y,z],argTypes:=ats })
  (g:ev env x=some (.int .u64 (a:Int))) (i:ev env y=some (.int .u64 (b:Int))) (j:ev env z=some (.int .u64 (c:Int))) (l:c<=1)
  (d:∀args w,(callFunc f args).run P w=((add64Entry args).run P w).andThen λv w'=> .ok (.value v) w') :
  Ld P N sc o env H (.tuple #[.int .u64 (((a+b+c)%U:Nat):Int),.int .u64 (((a+b+c)/U:Nat):Int)]):=λs w hs=>by
 have h:=run_add64 (P:=P) a b c O8 O8 O8 O1 w;rw [Gt hs (vs:=[_,_,_]) e ⟨g,i,j,aA⟩,d,h];rfl
def brw(a b c:Nat):Nat:=if a<b+c then 1 else 0
theorem brw_le{c:Nat}:brw a b c<=1:=by unfold brw;split<;>omega
theorem Yp5 {o:Oper}    {c:Nat} (g:o.op= .call { callee:= .value (.func f),args:=#[x,y,z],argTypes:=ats })
  (i:ev env x=some (.int .u64 (a:Int))) (j:ev env y=some (.int .u64 (b:Int))) (l:ev env z=some (.int .u64 (c:Int))) (e:c<=1)
  (d:∀args w,(callFunc f args).run P w=((Zfc args).run P w).andThen λv w'=> .ok (.value v) w') :
  Ld P N sc o env H (.tuple #[.int .u64 (((a+U-b-c)%U:Nat):Int),.int .u64 (brw a b c:Int)]):=λs w hs=>by
 have h:=Yc3 (P:=P) a b c e w;rw [Gt hs (vs:=[_,_,_]) g ⟨i,j,l,aA⟩,d,h];rfl
theorem Zhh{o:Oper}{m:Nat}{ds:TypeDesc}(d:o.op= .convert t t' x)(g:ev env x=some (.int k (m:Int)))(c:P.underlying t=some ds)(e:P.underlying t'=some (.int .u8)) :
  Ld P N sc o env H (.int .u8 ((m%256:Nat):Int)):=Zhq d g c e (by rfl)
def Zrp{o:Oper}{m:Nat}{ds:TypeDesc}(e:o.op= .convert t t' x)(h:ev env x=some (.int k (m:Int)))(c:P.underlying t=some ds)(g:P.underlying t'=some (.int .u64))(d:m<U) :
  Ld P N sc o env H (.int .u64 (m:Int)):=Zhq e h c g (Zdy d)
def Zch{o:Oper}{m:Int}{ds:TypeDesc}(e:o.op= .convert t t' x)(h:ev env x=some (.int k m))(c:P.underlying t=some ds)(g:P.underlying t'=some (.int .i64))(d:La m) :
  Ld P N sc o env H (.int .i64 m):=Zhq e h c g (Ze8 d)
theorem Km(t:Nat){v':Value}(e:lk env t=some v)(h:v=v'):∀a w,Sat N sc env H a w->Sat N sc ((t,v')::env) H a w:=λa w hs=>by
 subst h;refine⟨hs.size,hs.defers,λs u c=>?_,hs.hold,hs.sep,hs.scope⟩;by_cases d:t=s
 .subst d;rw [Zp]at c;cases c;exact hs.env _ _ e
 .rw [Zh _ _ d]at c;exact hs.env _ _ c
theorem Kn(i j:Nat)(hi:lk H i=some p)(l:Nat.beq i 0=false)(o:p.own=false):∀a w,Sat N sc env H a w->Sat N sc env ((j,p)::H) a w:=λa w hs=>
 hs.add j p (hs.hold i p hi) (λh n _ m Ht b c d=>by
  rcases Ht with Ht|Ht
  .grind
  .by_cases g:h=i
   .grind
   .exact hs.sep h i n p g m hi Ht b d c) (λb c=>hs.scope i p (λe=>O11) hi b c)
theorem Zyh{P:Program}(w:World)(f:Value->ByteArray->Sem (ForInStep ByteArray))(c:∀(n:Nat) (r:ByteArray),f (.int .u8 (n:Int)) r=pure (.yield (r.push (UInt8.ofNat n)))):∀(l:List Nat) (s:ByteArray),
  (forIn (m:=Sem) (l.map λn:Nat=>Value.int .u8 (n:Int)) s f).run P w= .ok (l.foldl (λs n=>s.push (UInt8.ofNat n)) s) w
 | [],s=>rfl
 | n::r,s=>by simp_all
theorem Zmd:∀(l:List Nat) (s:ByteArray),l.foldl (λs n=>s.push (UInt8.ofNat n)) s=⟨s.data ++ (l.map UInt8.ofNat).toArray⟩
 | [],s=>by rfl
 | n::r,s=>by rw [fX,Zmd r];simp [ByteArray.push]
theorem d_b2s {o:Oper} {e:TypeId}   {i:Nat}  {xs:List Nat} (S:o.op= .convert t t' x) (m:ev env x=some v) (I:lk H i=some p) (V:Rd p 1 (λn:Nat=>Value.int .u8 (n:Int)) v xs)
  (W:P.underlying t=some (.slice e)) (s:P.underlying t'=some .string) (R:P.underlying e=some (.int .u8)):Ld P N sc o env H (.string ⟨(xs.map UInt8.ofNat).toArray⟩):=λa w hs=>by
 obtain⟨r,c,rfl,Y,Z,D⟩:=V w (hs.hold i p I);have l:(Conv.bytesToString (.slice r xs.length c)).run P w= .ok (.string ⟨(xs.map UInt8.ofNat).toArray⟩) w:=by
  cases r with
  | none=>
   rcases D with rfl|⟨g,B,h,_⟩
   .rfl
   grind
  | some q=>
   have d:(loadCells q xs.length).run P w= .ok (xs.map λn:Nat=>Value.int .u8 n).toArray w:=by
    have:=run_loadCells_list (P:=P) w q (xs.map λn:Nat=>Value.int .u8 n) (λj u F=>by
     rcases D with rfl|⟨g,B,h,G⟩
     .grind
     .rw [fD]at F;cases m:xs[j]? with
      | none=>grind
      | some y=>
       rw [m]at F;have:=G j y m 0 _ rfl;grind [Od])
    grind
   simp only [Conv.bytesToString,Sem.run_bind,d,Result.andThen_ok];simp [List.forIn_toArray,Zyh,Zmd]
 have:(convert t t' (.slice r xs.length c)).run P w= .ok (.string ⟨(xs.map UInt8.ofNat).toArray⟩) w:=by simp only [convert,Sem.run_bind,run_underlying W,run_underlying s,Result.andThen_ok,run_underlying R,l]
 simp only [execOp,S,hs.ev m];simp_all
end Go.Sky
namespace Go.Sky
open Go.RowKit Below
variable{f:FuncId}{xs:List Operand}{ats:Array TypeId}{d k:Nat}{vs:List Value}{pre:List Pc}{w0:World}{M0:Nat->Prop}{fn:Func}{v:Value}{x y:Operand}{t:TypeId}{p:Pc}{kd:IntKind}
variable {P:Program} {N:Nat} {sc:Nat->Prop} {env env':Qm} {H H':Hp} {Q Q':Exit->Act->World->Prop} {M:Nat->Prop}
def Ymj(P:Program)(f:FuncId)(args:Array Value)(pre:List Pc){G:Type}(φ:G->Prop)(val:G->Value)(a:G->Pc):Prop:=
 ∀w,(∀p∈pre,p.holds w)->Calls P f args w λe c=>∃g,e= .returned (val g)/\φ g/\Below w.heap.size w c/\(a g).holds c/\∀b,(a g).fp b->w.heap.size<=b
theorem Zjg (n:Nat) {o:Oper}       {G:Type} {φ:G->Prop} {val:G->Value} {m:G->Pc}  
  (V:Ymj P f vs.toArray pre φ val m)
  (ho:o.op= .call { callee:= .value (.func f),args:=xs.toArray,argTypes:=ats }) (W:o.dst=some d) (S:Nat.blt d N=true)
  (q:EvL env xs vs) (s:∀args w,(callFunc f args).run P w= .ok (.enter f args) w) (l:PreOk H false pre)
  (I:lk H 0=some (Zy w0 M0)) (hw:∀b,w0.heap.size<=b->sc b) :
  T P N sc M o env H φ (λg=>(d,val g)::env) (λg=>(n,m g)::H):=λa w hs K Q R=>by
 have hr:(execOp a.eval o).run P w= .ok (.enter f vs.toArray) w:=by grind [Gt]
 unfold Oper.wp;rw [hr];refine(V w (λp hp=>by obtain⟨i,m,_,hi,h,_,_⟩:=l.mem p hp;exact h w (hs.hold i m hi))).mono ?_
 rintro e w' ⟨g,rfl,Y,c,z,u⟩;rw [W];have B:=hs.chg0 (Chg.of_below c);refine R g _ _ Y (Sat.put (B.add n _ z (λj F _ Z _ b D r=>?_) (λb D=>hw b (aB (hs.hold 0 _ I).size (u b D)))) d _ S) (Chg.of_below c);have:=F.lt w b (hs.hold j F Z) r;grind
def Yme(P:Program)(fn:Func)(w0:World){G:Type}(φ:G->Prop)(val:G->Value)(a:G->Pc):Exit->Act->World->Prop:=
 bodyPost P fn λe c=>∃g,e= .returned (val g)/\φ g/\Below w0.heap.size w0 c/\(a g).holds c/\∀b,(a g).fp b->w0.heap.size<=b
theorem Zr1   {c:Code}   {G:Type} {φ:G->Prop} {val:G->Value} {s:G->Pc} {N:Nat}
  (B:P.funcs[f]? = some fn) (g:fn.body=some c) (V:fn.ntmps=N) (m:Nat.ble vs.length N=true) (n:AllRo pre)
  (h:∀w0 (sc:Nat->Prop),(∀b,w0.heap.size<=b->sc b)->(∀b,sc b->w0.heap.size<=b\/∃q∈pre,q.fp b)->
   E P N sc c (Yme P fn w0 φ val s) (Ql 0 vs) ((0,Zy w0 (λ_=>False))::Yn 1 pre)) :
  Ymj P f vs.toArray pre φ val s:=λw Y=>by
 refine calls_of_wp B g (h w _ (λb g=> .inl g) (λb g=>g) _ w ?_);have m:vs.length<=N:=O11;have a:∀i p,lk ((0,Zy w (λ_=>False))::Yn 1 pre) i=some p->(i=0/\p=Zy w (λ_=>False))\/(i≠0/\p∈pre/\p.own=false):=λi p hi=>by
   by_cases o:0=i
   .grind [Zp]
   .rw [Zh _ _ o]at hi;obtain⟨_,l⟩:=Na pre 1 i p hi;exact .inr ⟨λe=>o e.symm,l,n.mem p l⟩
 refine⟨O5,rfl,λt v S=>?_,λi p hi=>?_,λi j p q I hi W R b g z=>?_,λi p D hi b g=>?_⟩
 .have u:vs.toArray[t]? = some v:=by simpa using(Gj vs 0 t v S).2
  have F:=(aM.1 u).1;simp_all [bH,dY]
 .rcases a i p hi with⟨_,rfl⟩|⟨_,l,_⟩
  .exact Chg.refl _ w
  grind
 .rcases a i p hi with⟨_,rfl⟩|⟨_,l,r⟩
  .cases R
  grind
 grind
theorem Zho  {G:Type} {φ:G->Prop} {val:G->Value} {m:G->Pc}  {e:Exit} (r:e= .ret\/e= .normal)
  (g:G)  (l:∀a w,Sat N sc env H a w->(results fn a.tmps).run P w= .ok v w) (F:val g=v) (s:φ g) (o:lk H 0=some (Zy w0 (λ_=>False)))
  (i:Nat) (z:Nat.beq i 0=false) (hi:lk H i=some (m g)) (j:(m g).own=true) :
  X N sc e (Yme P fn w0 φ val m) env H:=λa w hs=>by
 have c:i≠0:=λe=>O11;have D:a.defers=[]/\∃v,(results fn a.tmps).run P w= .ok v w/\(∃g,Ending.returned v= .returned (val g)/\φ g/\Below w0.heap.size w0 w/\(m g).holds w/\∀b,(m g).fp b->w0.heap.size<=b):=by
  refine⟨hs.defers,v,l a w hs,g,O5,s,Hk (hs.hold 0 _ o),hs.hold i _ hi,λb q=>?_⟩;have B:=hs.sep i 0 _ _ c hi o j b q;rcases bA b _ with n|u
  .exact absurd ⟨n,λh=>h⟩ B
  omega
 rcases r with rfl|rfl
 all_goals assumption
theorem Zrn{α:Type}{o:Oper}{s e:TypeId}{i:Nat}{enc:α->Value}{xs:List α}(g:o.op= .binOp .eql t x y s)(j:ev env x=some v)(l:ev env y=some (.slice none 0 0))(m:lk H i=some p)(n:Rd p k enc v xs)(r:P.underlying t=some (.slice e)) :
  Ld P N sc o env H (.bool (v.ownBlock.isNone)):=λa w hs=>by
 obtain⟨b,c,rfl,_⟩:=n w (hs.hold i p m);have h:=Lib.run_eql_slice_nil w t e b xs.length c 0 0 r;cases b with
 | none=>simp [execOp,g,hs.ev j,hs.ev l,eqGuard,h,Value.ownBlock]
 | some q=>simp [execOp,g,hs.ev j,hs.ev l,eqGuard,h,Value.ownBlock]
theorem Er (i:Nat)(j:Nat)(m:Nat) {α:Type} {o:Oper}  {e:TypeId}  {u:Value} {enc:α->Value} {xs ys:List α}  {ti:TypeInfo} {z:Value}  
  (ho:o.op= .call { callee:= .builtin .append,args:=#[x,y],argTypes:=#[t,t] }) (hd:o.dst=some d) (hN:Nat.blt d N=true)
  (hx:ev env x=some v) (hy:ev env y=some u) (W:lk H i=some (Nk k e enc v xs)) (F:i≠0) (hj:lk H j=some p) (hr:Rd p k enc u ys)
  (ht:P.underlying t=some (.slice e)) (hi:P.info? e=some ti) (hz:ti.zero=some z) (he:Enc P e k enc) (a1:ti.size=k) (Z:ti.bytes=m) (a3:z.cells.size=k)
  (Y:(xs.length+ys.length)*m<=140737488355328) (B:0<m)
  (h0:lk H 0=some (Zy w0 M0)) (hw:∀b,w0.heap.size<=b->sc b) :
  T P N sc (λ_=>True) o env H (G:=Value) (λ_=>True) (λv'=>(d,v')::env) (λv'=>(i,Nk k e enc v' (xs ++ ys))::H):=by
 by_cases S:ys=[]
 .subst S;intro a w hs K Q hK;have h:w.ownsRow 0 e k v xs.length (cellsOf enc xs):=hs.hold i _ W;obtain⟨V,c,rfl,h1,h2,h3⟩:=hr w (hs.hold j p hj);have I:∃l n r,v= .slice l n r/\n=xs.length/\n<=r:=by
   rcases h.2 with⟨rfl,hn⟩|⟨g,a4,a5,rfl,_,_,s,_⟩
   all_goals grind
  obtain⟨l,n,r,rfl,rfl,s⟩:=I;have R:(Builtin.append_ #[t,t] o.type #[.slice l xs.length r,.slice V ([]:List α).length c]).run P w= .ok (.slice l xs.length r) w:=by
   have D:(Builtin.firstCells ti.size 0 (.slice V 0 c)).run P w= .ok #[] w:=by
    cases V with
    | none=>rfl
    | some q=>simp [Builtin.firstCells,loadCells,loadCellsFrom]
   cases l with
   | none=>simp [Builtin.append_,run_underlying ht,sizeOf,typeInfo,hi,Builtin.lenOf,D,s]
   | some q=>simp [Builtin.append_,run_underlying ht,sizeOf,typeInfo,hi,Builtin.lenOf,D,s,storeCells]
  have a2:(execOp a.eval o).run P w= .ok (.value (.slice l xs.length r)) w:=by simp only [execOp,ho,resolve,invoke,builtin,Sem.run_bind,Sem.run_pure,Result.andThen_ok,fQ,cP,jG,hs.ev hx,hs.ev hy,R]
  unfold Oper.wp;rw [a2];show K (a.put o.dst _) _;rw [hd];refine hK _ _ _ aA ((Sat.upd hs W rfl F (q:=Nk k e enc (.slice l xs.length r) (xs ++ [])) (Chg.refl _ w) ?_ (λb Y=> .inl Y) h0 hw).put d _ hN) (Chg.refl _ w);rw [iY];exact h
 .exact t_app (i2:=0) ho hd hN hx hy W F hj hr S ht hi hz he a1 Z a3 Y B h0 hw
def Zab(v:Value)(n k:Nat):Value:=match v with
 | .slice a l c=> .slice (if c=n then a else a.map (·.add (n*k))) (l-n) (c-n)
 | u=>u
theorem Ze0(v:Value)(n k:Nat):(Zab v n k).ownBlock=v.ownBlock:=by
 cases v with
 | slice a l c=>
  cases a with
  | none=>simp only [Zab];split<;>rfl
  | some q=>
   simp only [Zab];split
   .rfl
   .simp only [lL,Value.ownBlock,Addr.add];split<;>rfl
 | _=>rfl
theorem d_suf (ii:Nat)(i:Nat) {α:Type} {o:Oper}  {e:TypeId}    {m:Int}  {enc:α->Value} {xs:List α} (l:o.op= .slice t x (some y) none none)
  (r:ev env x=some v) (s:ev env y=some (.int kd m)) (j:lk H ii=some p) (n:Rd p k enc v xs) (q:P.underlying t=some (.slice e)) (h:∀w,(sizeOf e).run P w= .ok k w)
  (b:m=(i:Int)) (g:i<=xs.length:=by omega):Ld P N sc o env H (Zab v i k):=λa w hs=>by
 obtain⟨u,c,rfl,z,B,D⟩:=n w (hs.hold ii p j);subst b;simp [execOp,l,hs.ev r,hs.ev s,Instr.sliceAt,Instr.slice,Instr.sliceBounds,Instr.sliceBound,asIntOf,run_underlying q,h,g,Zab]
theorem Zh1{α:Type}{w:World}{enc:α->Value}{xs:List α}(n:Nat)(s:n<=xs.length)(h:RowAt w k enc v xs):RowAt w k enc (Zab v n k) (xs.drop n):=by
 obtain⟨a,c,rfl,o,q,e⟩:=h;refine⟨if c=n then a else a.map (·.add (n*k)),c-n,by simp only [Zab,jM],O5,O1,?_⟩;by_cases l:xs.drop n=[]
 .grind
 .have m:n<xs.length:=by grind
  rcases e with rfl|⟨g,b,rfl,e⟩
  .simp
  .refine .inr ⟨g,b+n*k,?_,λi x hi j u r=>?_⟩
   .simp [aF,Od]<;>omega
   grind
theorem Zxq{α:Type}{xs:List α}{n b:Nat}(h:xs.drop n≠[]/\(Zab v n k).ownBlock=some b):xs≠[]/\v.ownBlock=some b:=
 ⟨λe=>h.1 O5,by grind [Ze0]⟩
theorem s_suf{α:Type}{enc:α->Value}{xs:List α}(i j n:Nat)(hi:lk H i=some (Yt k enc v xs))(q:Nat.beq i 0=false)(r:n<=xs.length:=by omega):∀a w,Sat N sc env H a w->Sat N sc env ((j,Yt k enc (Zab v n k) (xs.drop n))::H) a w:=
 λa w hs=>hs.add j _ ⟨Zh1 n r (hs.hold i _ hi).1,λb c=>(hs.hold i _ hi).2 b (Zxq c)⟩
  (λm u s l Ht b c h=>by
   rcases Ht with Ht|Ht
   .cases Ht
   .have o:=Zxq c;by_cases g:m=i
    .subst g;rw [hi]at l;cases l;cases Ht
    .exact hs.sep m i u _ g l hi Ht b h o)
  (λb c=>hs.scope i _ (λe=>O11) hi b (Zxq c))
end Go.Sky
namespace Go.Sky
open Go.RowKit Below
variable{t:TypeId}{parts:List (Nat×Operand)}{cells cs:Array Value}{z:Value}{k d:Nat}{w0:World}{M0:Nat->Prop}
variable {P:Program} {N:Nat} {sc:Nat->Prop} {env env':Qm} {H H':Hp} {Q Q':Exit->Act->World->Prop} {M:Nat->Prop}
def EvP(e:Qm):List (Nat×Operand)->List (Nat×Value)->Prop
 | [],[]=>True
 | (i,x)::r,(j,v)::vs=>i=j/\ev e x=some v/\EvP e r vs
 | _,_=>False
theorem EvP.map{a:Act}{w:World}(h:Sat N sc env H a w):∀{xs:List (Nat×Operand)} {vs:List (Nat×Value)},EvP env xs vs->xs.map (λ(i,x)=>(i,a.eval x))=vs
 | [],[],_=>rfl
 | (i,x)::r,(j,v)::vs,hh=>by obtain⟨rfl,b,c⟩:=hh;simp only [cP,h.ev b,EvP.map h c]
 | [],_::_,hh=>hh.elim
 | _::_,[],hh=>hh.elim
theorem Xr (b:List (Nat×Value)) {o:Oper}     (e:o.op= .build t parts.toArray) (f:EvP env parts b)
  (c:∀a w,Sat N sc env H a w->P.built t b=some cells):Ld P N sc o env H (.agg cells):=λa w hs=>by
 have h:=run_build (P:=P) w t (parts.toArray.map λ(i,x)=>(i,a.eval x)) cells (by rw [fQ,f.map hs];exact c a w hs);simp only [execOp,e,Sem.run_bind,h,Result.andThen_ok,Sem.run_pure]
 try rfl
theorem Qi  {b:TypeInfo} {a:Array Field}  {pl:List (Nat×Nat)} {parts:List (Nat×Value)}  (hi:P.info? t=some b) (g:P.underlying t=some (.struct a)) (h:b.zero=some z)
  (e:a.toList.mapM (λf=>(P.info? f.type).map λi=>(f.offset,i.size))=some pl) (c:Instr.fill (pl.toArray[·]?) z.cells parts=some cells):P.built t parts=some cells:=by
 unfold Program.built;simp only [hi,g,h,e,c]
theorem Zja(w:World)(t e:TypeId)(a:P.underlying t=some (.slice e))(hs:∀w,(sizeOf e).run P w= .ok k w) :
  (Instr.buildSlice t 0 #[]).run P w= .ok (.slice (some ⟨w.heap.size,0,none⟩) 0 0) (w.alloc (.cells #[] e)):=by
 simp [Instr.buildSlice,run_underlying a,hs,Instr.fill,newRow];rw [show(Array.range 0)=#[] by decide,Array.map_empty]
theorem Oj (c:List (Nat×Value))(i:Nat) {α:Type} {o:Oper} {e:TypeId} {n:Nat}       {enc:α->Value} {ti:TypeInfo}  (xs:List α)
  (u:o.op= .buildSlice t n parts.toArray) (m:o.dst=some d) (B:EvP env parts c)
  (y:P.underlying t=some (.slice e)) (hi:P.info? e=some ti) (F:ti.zero=some z) (h:Nat.ble (n*ti.size) 16777216=true) 
  (p:Instr.fill (λi=>some (i*ti.size,ti.size)) ((List.range (n*ti.size)).map (z.cells[· % z.cells.size]!)).toArray c=some cs)
  (g:cs.toList=cellsOf enc xs) (s:xs.length=n) (q:∀x,(enc x).cells.size=k) (r:Nat.ble n 16777216=true)
  (j:lk H 0=some (Zy w0 M0)) (D:∀b,w0.heap.size<=b->sc b) (l:Nat.blt d N=true:=by rfl) (f:Nat.blt 0 (n*ti.size)=true:=by rfl) :
  T P N sc M o env H (G:=Value) (λ_=>True) (λv=>(d,v)::env) (λv=>(i,Nk k e enc v xs)::H):=
 t_bsn xs u m l (λa w hs=>run_buildSlice w t e n _ cs ti z y hi F (by have:=gR h;omega) (by have:=Nat.blt_eq▸f;simp at f;omega) (by rw [show(parts.toArray.map λ(i,x)=>(i,a.eval x)).toList=c by rw [fQ,B.map hs],show(Array.range (n*ti.size)).map (z.cells[· % z.cells.size]!)=((List.range (n*ti.size)).map (z.cells[· % z.cells.size]!)).toArray by rw [<-fQ,<-Array.toList_range,Array.toArray_toList]];exact p)) g s q (by have:=gR r;simp only [maxLen];omega) j D
theorem Yfd (i:Nat) {α:Type} {o:Oper} {e:TypeId}     {enc:α->Value} 
  (j:o.op= .buildSlice t 0 #[]) (h:o.dst=some d) (g:Nat.blt d N=true) (l:P.underlying t=some (.slice e)) (c:Enc P e k enc)
  (f:lk H 0=some (Zy w0 M0)) (m:∀b,w0.heap.size<=b->sc b) :
  T P N sc M o env H (G:=Value) (λ_=>True) (λv=>(d,v)::env) (λv=>(i,Nk k e enc v [])::H):=
 t_bsn (n:=0) (cs:=#[]) (parts:=#[]) [] j h g (λa w hs=>by rw [Array.map_empty];exact Zja w t e l c.size) rfl rfl c.cells (by simp [maxLen]) f m
theorem Gg{α:Type}(i k:Nat)(e:TypeId)(enc:α->Value):∀a w,Sat N sc env H a w->Sat N sc env ((i,Nk k e enc (.slice none 0 0) [])::H) a w:=λa w hs=>
 hs.add i _ ⟨by simp [cellsOf],.inl ⟨rfl,rfl⟩⟩ (λj l g h Ht b c f=>by cases c) (λb c=>by cases c)
theorem Yjw{α:Type}{enc:α->Value}{v:Value}{xs:List α}{p:Pc}(i:Nat)(hi:lk H i=some p)(e:Rd p k enc v xs):∀a w,Sat N sc env H a w->(v.ownBlock=none->xs=[]):=λa w hs h=>by
 obtain⟨j,c,rfl,l,m,b⟩:=e w (hs.hold i p hi);rcases b with b|⟨g,f,rfl,_⟩
 .exact b
 .cases h
end Go.Sky
namespace Go.Sky
variable{t te:TypeId}{k i lo:Nat}{v u:Value}{xs:List Nat}{x y:Operand}{p:Pc}{r:List Pc}{w w0:World}{cur:Array Value}{M0:Nat->Prop}
abbrev Mn (n:Nat):Value:= .int .u64 (n:Int)
abbrev Yd4 (n:Nat):Value:= .int .u8 (n:Int)
abbrev Ypu (n:Nat):Value:= .int .i64 (n:Int)
abbrev Xk (n:Int):Value:= .int .i64 n
theorem Zht(xs:List Nat):(tz xs).length<=xs.length/\xs.take (tz xs).length=tz xs:=by
 induction hn:xs.length generalizing xs with
 | zero=>
   have:xs=[]:=aK hn;subst this;simp [tz]
 | succ n d=>
  rcases Zbz xs with rfl|⟨b,y,rfl⟩
  .simp at hn
  .by_cases a:y=0
   .subst a;rw [Ir];obtain⟨e,c⟩:=d b (by simpa using hn);have f:b.length=n:=by simpa using hn
    exact⟨O1,by rw [List.take_append_of_le_length O1];exact c⟩
   .rw [Cp _ _ a];exact⟨O1,cK⟩
theorem Zk3{P:Program}{N:Nat}{sc:Nat->Prop}{env:Qm}{H:Hp}{enc:Nat->Value}{e:TypeId}(i:Nat)(hi:lk H i=some (Nk k e enc v xs))(b:Nat.beq i 0=false)(c:Enc P t k enc) :
  ∀a w,Sat N sc env H a w->Sat N sc env ((i,Nk k e enc (Gv v (tz xs).length) (tz xs))::H) a w:=by
 have h:=s_opre (N:=N) (sc:=sc) (env:=env) i (tz xs).length hi b c (Zht xs).1;rwa [(Zht xs).2]at h
abbrev Dq (v:Value) (x:Nat):Pc:=Yt 1 Mn v (dg U x)
theorem Xp:2<=U:=by simp [U]
def Xo(x:Nat):ByteArray:=⟨((dg 256 x).reverse.map UInt8.ofNat).toArray⟩
theorem Eh(x:Nat):(Xo x).size=(dg 256 x).length:=by simp [Xo,ByteArray.size]
theorem Zv1(x i:Nat)(h:i<(dg 256 x).length):((Xo x).data.toList.getD i 0).toNat=x/256^((dg 256 x).length-1-i)%256:=by
 have c:i<((dg 256 x).reverse.map UInt8.ofNat).length:=by simpa using h
 have d:(Xo x).data.toList=(dg 256 x).reverse.map UInt8.ofNat:=by simp [Xo]
 rw [d];simp only [List.getD,aL c,fA,List.getElem_map,List.getElem_reverse];have a:=Ft (b:=256) O1 ((dg 256 x).length-1-i) x;have e:(dg 256 x).length-1-i<(dg 256 x).length:=O1;rw [show(dg 256 x).getD ((dg 256 x).length-1-i) 0=(dg 256 x)[(dg 256 x).length-1-i] by simp [List.getD,e]]at a;rw [a];simp
open Go.RowKit Below
variable {P:Program} {N:Nat} {sc:Nat->Prop} {env env':Qm} {H H':Hp} {Q Q':Exit->Act->World->Prop} {M:Nat->Prop}
theorem d_mid {α:Type} {o:Oper} {z:Operand} {e:TypeId}  {ii j:Nat} {S l:IntKind} {m n:Int}  {enc:α->Value} {xs:List α} (B:o.op= .slice t x (some y) (some z) none)
  (G:ev env x=some v) (I:ev env y=some (.int S m)) (R:ev env z=some (.int l n)) (s:lk H ii=some p) (D:Rd p k enc v xs) (F:P.underlying t=some (.slice e)) (h:∀w,(sizeOf e).run P w= .ok k w)
  (d:m=(i:Int)) (f:n=(j:Int)) (b:i<=j) (g:j<=xs.length):Ld P N sc o env H (Gv (Zab v i k) (j-i)):=λa w hs=>by
 obtain⟨V,c,rfl,W,Y,Z⟩:=D w (hs.hold ii p s);subst d f;have q:j<=c:=O1;simp [execOp,B,hs.ev G,hs.ev I,hs.ev R,Instr.sliceAt,Instr.slice,Instr.sliceBounds,Instr.sliceBound,asIntOf,run_underlying F,h,g,b,q,Zab,Gv]
def Zd2 {α:Type}  {e:TypeId} {enc:α->Value}  {xs ys:List α}   (i:Nat) (hi:lk H i=some (Nk k e enc v xs)) (j:Nat.beq i 0=false) (g:Enc P t k enc)
  (c:∀w,RowAt w k enc v xs->RowAt w k enc u ys) (a:u.ownBlock=v.ownBlock) (h:PreOk H false r):PreOk H false (Yt k enc u ys::r):=
 ⟨⟨i,_,λe=>O11,hi,λw f=>⟨c w (An g.cells f),λb d=>(f.lt b O5).2⟩,λb d=>a.symm.trans d.2,λh=>O5⟩,h⟩
theorem Zjo{α:Type}{enc:α->Value}{xs:List α}(lo hi:Nat)(a:lo<=hi:=by omega)(b:hi<=xs.length:=by omega):∀w,RowAt w k enc v xs->RowAt w k enc (Gv (Zab v lo k) (hi-lo)) ((xs.drop lo).take (hi-lo)):=
 λw h=>Zh2 _ O5 (Zh1 lo O1 h)
theorem Zj5{n:Nat}:(Gv (Zab v lo k) n).ownBlock=v.ownBlock:=by rw [Fh,Ze0]
theorem Ygn{enc:Nat->Value}{ys zs:List Nat}{n:Nat}(c:tz ys=zs)(a:n=zs.length)(h:∀w,RowAt w k enc v xs->RowAt w k enc u ys):∀w,RowAt w k enc v xs->RowAt w k enc (Gv u n) zs:=λw b=>by grind [Zh2,Zht]
theorem Zrz{α:Type}{enc:α->Value}(a:∀x,(enc x).cells.size=k)(xs:List α)(n:Nat)(b:n<=xs.length):cellsOf enc (xs.take n)=(cellsOf enc xs).take (n*k):=by have h:=Ii enc (xs.take n) (xs.drop n);simp_all [fT,Xe,dX,eQ,List.take_left]
def spl{α:Type}(xs:List α)(lo:Nat)(ys:List α):List α:=xs.take lo ++ ys ++ xs.drop (lo+ys.length)
theorem Iu{α:Type}(xs:List α)(lo:Nat)(ys:List α)(h:lo+ys.length<=xs.length):(spl xs lo ys).length=xs.length:=by simp [spl];omega
theorem Yoa {α:Type}  {g a:Nat}   {e:TypeId} {enc:α->Value} {xs ys:List α} (f:∀x,(enc x).cells.size=k) (lo:Nat) (c:lo+ys.length<=xs.length)
  (B:w.heap[g]? = some (.cells cur e (0,0))) (m:xs.length<=a) (d:a<=maxLen) (z:cur.size=a*k) (b:cur.toList.take (xs.length*k)=cellsOf enc xs) :
  (w.setRow g (cur.toList.take (lo*k) ++ cellsOf enc ys ++ cur.toList.drop (lo*k+(cellsOf enc ys).length)).toArray).ownsRow 0 e k (.slice (some ⟨g,0,none⟩) xs.length a) (spl xs lo ys).length (cellsOf enc (spl xs lo ys)):=by
 have l:=Xe f ys;have j:(lo+ys.length)*k<=xs.length*k:=aQ _ c;have n:xs.length*k<=a*k:=aQ _ m;rw [dO]at j;refine⟨by rw [Xe f],.inr ⟨g,a,_,by grind [Iu],Nat.zero_le _,setRow_heap w g cur _ e _ B,by grind [Iu],d,?_,?_⟩⟩
 .grind
 .rw [Iu _ _ _ c];have o:cellsOf enc (xs.take lo)=cur.toList.take (lo*k):=by rw [Zrz f xs lo O1,<-b,kE,eQ O1]
  have s:cellsOf enc (xs.drop (lo+ys.length))=(cur.toList.take (xs.length*k)).drop ((lo+ys.length)*k):=by have h:=Ii enc (xs.take (lo+ys.length)) (xs.drop (lo+ys.length));rw [fT,<-b]at h;grind [List.drop_left',Xe,List.length_take,Nat.min_eq_left]
  rw [spl,Ii,Ii,o,s,l,dO];apply gU;intro q;have D:(cur.toList.take (lo*k)).length=lo*k:=O5;grind
def Dst(v u:Value)(a k lo n:Nat):Prop:=∀g c,v= .slice (some ⟨g,0,none⟩) a c->a<=c->∃b,u= .slice (some ⟨g,lo*k,none⟩) n b
def Yj9{a:Nat}:Dst v v a k 0 a:=λg c h _=>⟨c,O5⟩
theorem Ybf{a:Nat}{n:Nat}(h:lo<a):Dst v (Gv (Zab v lo k) n) a k lo n:=λg c b d=>by rw [b];simp only [Zab,Gv];simp [aF,Od]<;>omega
theorem Yc4{α:Type}{enc:α->Value}{ys:List α}(a:Enc P t k enc)(h:RowAt w k enc u ys):(Builtin.firstCells k ys.length u).run P w= .ok (cellsOf enc ys).toArray w/\(Builtin.lenOf u).run P w= .ok ys.length w:=by
 obtain⟨o,c,rfl,B,D,m⟩:=h;refine⟨?_,by rfl⟩;rcases m with rfl|⟨g,l,rfl,m⟩
 .cases o with
  | none=>rfl
  | some q=>simp [Builtin.firstCells,cellsOf,loadCells,loadCellsFrom]
 .have f:∀q u,(cellsOf enc ys)[q]? = some u->w.cell? ((⟨g,l,none⟩:Addr).add q)=some u:=λq u R=>by
   have s:q<ys.length*k:=by rw [<-Xe a.cells ys];grind
   have n:=a.pos;have d:q/k<ys.length:=iB O5;have b:=aL d;have e:q%k<(enc ys[q/k]).cells.toList.length:=by rw [fE,a.cells];simp_all [bK]
   have z:=aL e;have F:=Gm a.cells ys _ _ b _ _ z;grind [Nat.mul_comm,Nat.div_add_mod,Nat.add_assoc,Od]
  have I:=Xe a.cells ys;have:=run_loadCells (P:=P) (w:=w) _ (ys.length*k) (λj=>(cellsOf enc ys).getD j undef) (λj G=>f j _ O5);rw [show(List.range _).map _=cellsOf enc ys by
   apply iN
   all_goals grind]at this
  exact this
theorem Zy4 {α:Type} {a:Act}   {e:TypeId}  {enc:α->Value} {xs ys:List α}   (hs:Sat N sc env H a w) (F:lk H i=some (Nk k e enc v xs)) (s:i≠0) (q:Enc P t k enc)
  (B:lo+ys.length<=xs.length) (hp:0<xs.length) (R:lk H 0=some (Zy w0 M0)) (W:∀b,w0.heap.size<=b->sc b)  {n:Nat} (l:Dst v u xs.length k lo n) :
  ∃g c w',u= .slice (some ⟨g,lo*k,none⟩) n c/\(storeCells ⟨g,lo*k,none⟩ (cellsOf enc ys)).run P w= .ok () w'/\Sat N sc env ((i,Nk k e enc v (spl xs lo ys))::H) a w'/\Chg (λ_=>True) w w':=by
 have j:=hs.hold i _ F;rcases j.2 with⟨rfl,hn⟩|⟨g,f,cur,rfl,Z,G,h,m,o,d⟩
 .omega
 .obtain⟨I,l⟩:=l g f rfl h;have V:=Xe q.cells ys;have z:(lo+ys.length)*k<=f*k:=aQ _ O1;rw [dO]at z;have D:=run_storeCells_at P g (lo*k) e (cellsOf enc ys) 0 cur w G O1 (λu l=>by obtain⟨y,_,Y⟩:=gI.1 l;exact q.one y u Y)
  exact⟨g,I,_,l,D,hs.upd F rfl s (Gf rfl) (Yoa q.cells lo B G h m o d) (λk S=> .inl S) R W,Gf aA⟩
theorem t_cpy (i:Nat)(j:Nat) {α:Type} {o:Oper}  {t' e:TypeId} {n d:Nat} {z:Value} {enc:α->Value} {xs ys:List α}    (lo:Nat)
  (ho:o.op= .call { callee:= .builtin .copy,args:=#[x,y],argTypes:=#[t,t'] }) (W:o.dst=some d) (S:Nat.blt d N=true)
  (hx:ev env x=some u) (hy:ev env y=some z) (I:lk H i=some (Nk k e enc v xs)) (h:i≠0) (Y:lk H j=some p) (hr:Rd p k enc z ys)
  (hu:Dst v u xs.length k lo n) (Z:ys.length<=n) (l:lo+ys.length<=xs.length) (hp:0<xs.length) (ht:P.underlying t=some (.slice te)) (f:Enc P te k enc)
  (B:lk H 0=some (Zy w0 M0)) (hw:∀b,w0.heap.size<=b->sc b) :
  T P N sc (λ_=>True) o env H (G:=Unit) (λ_=>True) (λ_=>(d,.int .i64 (ys.length:Int))::env) (λ_=>(i,Nk k e enc v (spl xs lo ys))::H):=λa w hs K Q R=>by
 obtain⟨g,c,w',rfl,s,q,V⟩:=Zy4 hs I h f l hp B hw hu;obtain⟨D,F⟩:=Yc4 f (hr w (hs.hold j p Y));have m:(execOp a.eval o).run P w= .ok (.value (.int .i64 (ys.length))) w':=by simp [execOp,ho,resolve,invoke,builtin,hs.ev hx,hs.ev hy,Builtin.copy_,run_underlying ht,F,eQ Z,f.size,D,s,goInt]
 unfold Oper.wp;rw [m];show K _ _;rw [W];exact R () _ _ aA (q.put d _ S) V
theorem t_clr {α:Type} {o:Oper}  {e:TypeId} {n:Nat} {zv:Value} {enc:α->Value} {xs:List α} {z:α}   (lo:Nat)
  (ho:o.op= .call { callee:= .builtin .clear,args:=#[x],argTypes:=#[t] }) (Y:o.dst=none)
  (hx:ev env x=some u) (S:lk H i=some (Nk k e enc v xs)) (l:i≠0)
  (hu:Dst v u xs.length k lo n) (hn:0<n) (Z:lo+n<=xs.length) (ht:P.underlying t=some (.slice te)) (h:Enc P te k enc)
  (hz:∀w,(zeroValue te).run P w= .ok (enc z) w) (I:k=1)
  (R:lk H 0=some (Zy w0 M0)) (hw:∀b,w0.heap.size<=b->sc b) :
  T P N sc (λ_=>True) o env H (G:=Unit) (λ_=>True) (λ_=>env) (λ_=>(i,Nk k e enc v (spl xs lo (List.replicate n z)))::H):=λa w hs K Q V=>by
 obtain⟨g,c,w',rfl,D,B,W⟩:=Zy4 (ys:=List.replicate n z) hs S l h O5 O1 R hw hu;obtain⟨m,rfl⟩:∃m,n=m+1:=⟨n-1,O1⟩;have d:(enc z).cells.toList=[(enc z).cells[0]'(by rw [h.cells];omega)]:=by
  have j:(enc z).cells.size=1:=by rw [h.cells,I]
  apply iN
  all_goals grind
 have F:(Builtin.zeroCells (enc z).cells (m+1)).toList=cellsOf enc (List.replicate (m+1) z):=by
  have j:(enc z).cells.size=1:=by rw [h.cells,I]
  have f:∀q,cellsOf enc (List.replicate q z)=List.replicate q ((enc z).cells[0]' O1):=by
   intro q
   induction q with
   | zero=>rfl
   | succ q ih=>rw [iV,iV,<-ih];simp [cellsOf,d]
  rw [f];apply iN
  .simp [Builtin.zeroCells,j]
  .simp [Builtin.zeroCells,j,lY]
 have s:(execOp a.eval o).run P w= .ok (.value (.tuple #[])) w':=by simp [execOp,ho,resolve,invoke,builtin,hs.ev hx,Builtin.clear_,run_underlying ht,hz,F,D]
 unfold Oper.wp;rw [s];show K _ _;rw [Y];exact V () _ _ aA (B.put_none _) W
end Go.Sky
namespace Go.Sky
variable{listed:Array Bool}{ts:List Nat}{ops:Array Oper}{i:Nat}{rest:List (Nat×Nat)}
variable {P:Program} {N:Nat} {sc:Nat->Prop} {env env':Qm} {H H':Hp} {Q Q':Exit->Act->World->Prop} {M:Nat->Prop}
theorem Zw (n:Nat) {l : List Oper}  {m:Nat}  (a : List (Nat × Nat))
     (h:LD P N sc M l.toArray (A P N sc M l.toArray ts Q n (Ey a listed)) a env H) (b:(Region.noSelect l.toArray && Fx l.toArray ts a listed && Nat.beq (a.length+n) m)=true:=by kernel_rfl):A P N sc M l.toArray ts Q m listed env H:=
  a_lin a b h (λ_ _ h=>h)
def aact   {n:Nat}  {o:Oper} {G:Type} {φ:G->Prop} {a:G->Qm} {b:G->Hp} (e:T P N sc M o env H φ a b) (d:ops[i]? = some o) (c:o.guard=none)
    (h:∀g,φ g->A P N sc M ops ts Q n (listed.setIfInBounds i true) (a g) (b g)):Zf1 P N sc M ops ts Q n listed env H i:=⟨o,G,φ,a,b,d,c,e,h⟩
theorem Nm (n:Nat)    {m:Nat} (i j:Nat) 
    (c:Zf1 P N sc M ops ts Q n listed env H i) (d:Zf1 P N sc M ops ts Q n listed env H j) (a:((Region.ready .any ops listed == [i,j]) && !(Fv ops ts listed) && !([i,j]:List Nat).isEmpty && Nat.beq (n+1) m)=true:=by kernel_rfl):A P N sc M ops ts Q m listed env H:=by
  rw [aP]at a;have e:=eG a.2;subst e;exact Yl8 [i,j] a.1 (λq b=>by
    simp only [aW,dA,fR]at b;rcases b with rfl|rfl
    . exact c
    . exact d)
theorem Bc{F:Qm->Hp->Prop}{o:Oper}{G:Type}{φ:G->Prop}{a:G->Qm}{b:G->Hp}(d:ops[i]? = some o)(e:T P N sc M o env H φ a b)(h:∀g,φ g->LD P N sc M ops F rest (a g) (b g))(c:o.guard=none:=by rfl):LD P N sc M ops F ((i,1)::rest) env H:=r1 e d c h
theorem r3'{F:Qm->Hp->Prop}{o:Oper}{G:Type}{φ:G->Prop}{a:G->Qm}{b:G->Hp}(d:ops[i]? = some o)(e:T P N sc (λ_=>True) o env H φ a b)(h:∀g,φ g->LD P N sc M ops F rest (a g) (b g))(c:o.guard=none:=by rfl):LD P N sc M ops F ((i,3)::rest) env H:=r3 e d c h
def Za0   {n:Nat}  {o:Oper} {G:Type} {φ:G->Prop} {a:G->Qm} {b:G->Hp} (d:ops[i]? = some o) (c:o.guard=none) (e:T P N sc M o env H φ a b)
    (h:∀g,φ g->A P N sc M ops ts Q n (listed.setIfInBounds i true) (a g) (b g)):Zf1 P N sc M ops ts Q n listed env H i:=aact e d c h
end Go.Sky
namespace Go.Sky
variable{t t':TypeId}{x y:Operand}{a b:Bool}{ops:Array Oper}{rest:List (Nat×Nat)}
variable {P:Program} {N:Nat} {sc:Nat->Prop} {env env':Qm} {H H':Hp} {Q Q':Exit->Act->World->Prop} {M:Nat->Prop}
theorem d_eqb{o:Oper}(c:o.op= .binOp .eql t x y t')(e:ev env x=some (.bool a))(f:ev env y=some (.bool b))(d:P.underlying t=some .bool):Ld P N sc o env H (.bool (a == b)):=λg w hs=>by simp [execOp,c,hs.ev e,hs.ev f,eqGuard,run_eql_bool w t a b d]
theorem d_neb{o:Oper}(c:o.op= .binOp .neq t x y t')(e:ev env x=some (.bool a))(f:ev env y=some (.bool b))(d:P.underlying t=some .bool):Ld P N sc o env H (.bool (a != b)):=λg w hs=>by simp [execOp,c,hs.ev e,hs.ev f,eqGuard,run_neq_bool w t a b d,bne]
theorem Qb  {F:Qm->Hp->Prop} {i:Nat}  {o:Oper} {d:Nat} {v:Value} (g:ops[i]? = some o) (e:o.dst=some d) (hs:Stb P N sc M o env H v)
  (h:LD P N sc M ops F rest ((d,v)::env) H) (f:o.guard=none:=by rfl) (c:Nat.blt d N=true:=by rfl):LD P N sc M ops F ((i,0)::rest) env H:=r0 hs g f e c h
end Go.Sky
namespace Go.Sky
open Go.RowKit Below
variable{b:Nat}{t:TypeId}{cs:Array Value}{x:Operand}{v:Value}{f:FuncId}{xs:List Operand}{ats:Array TypeId}{vs:List Value}{pre:List Pc}{w0:World}{M0:Nat->Prop}{fn:Func}
variable {P:Program} {N:Nat} {sc:Nat->Prop} {env env':Qm} {H H':Hp} {Q Q':Exit->Act->World->Prop} {M:Nat->Prop}
def Oq(b:Nat)(t:TypeId)(cs:Array Value):Pc:=
  { own:=false,fp:=λk=>k=b,holds:=λw=>w.heap[b]? = some (.cells cs t (0,0))
    lt:=λw k h c=>by subst c;exact(aM.1 h).1
    stable:=λw e h a=>by rw [<-h];exact a.block b (aM.1 h).1 (λd=>d rfl) }
theorem Zc1(i:Nat)(hi:lk H i=some (box b t cs))(y:Nat.beq i 0=false):∀a w,Sat N sc env H a w->Sat N sc env ((i,Oq b t cs)::H) a w:=λa w hs=>by
    have s:i≠0:=λe=>O11;refine⟨hs.size,hs.defers,hs.env,λj h c=>?_,λj r h q n c d p b k l=>?_,λj h o c b k=>?_⟩
    . by_cases g:i=j
      . subst g;rw [Zp]at c;cases c;have u:=hs.hold i _ hi;exact u
      . rw [Zh _ _ g]at c;exact hs.hold j h c
    . by_cases g:i=j
      . subst g;rw [Zp]at c;cases c;cases p
      . rw [Zh _ _ g]at c;by_cases m:i=r
        . subst m;rw [Zp]at d;cases d;exact hs.sep j i h _ n c hi p b k l
        . rw [Zh _ _ m]at d;exact hs.sep j r h q n c d p b k l
    . by_cases g:i=j
      . subst g;rw [Zp]at c;cases c;exact hs.scope i _ s hi b k
      . rw [Zh _ _ g]at c;exact hs.scope j h o c b k
theorem d_lr {o:Oper}  {m:TypeId} {i j:Nat}   (e:o.op= .load t x)
    (l:ev env x=some (.pointer (some ⟨b,j,none⟩))) (d:lk H i=some (Oq b m cs)) (g:∀w,(isAgg t).run P w= .ok false w) (k:cs[j]? = some v):Ld P N sc o env H v:=λa w hs=>by
  have c:w.heap[b]? = some _:=hs.hold i _ d;have h:w.cell? ⟨b,j,none⟩=cs[j]?:=by simp [World.cell?,c]
  rw [k]at h;simp [execOp,e,hs.ev l,Instr.loadAt,Instr.sureAddr,loadVar,g,load,Sem.run,h]
def Zdx(P:Program)(f:FuncId)(args:Array Value)(pre:List Pc)(al:Bool)(b:Nat)(t:TypeId)(cs:Array Value){G:Type}(φ:G->Prop)(val:G->Value)(cs':G->Array Value)(a:G->List Pc):Prop:=
  ∀w,(∀p∈pre,p.holds w/\¬p.fp b)->(box b t cs).holds w->Calls P f args w λe c=>∃g,e= .returned (val g)/\φ g/\Chg (λk=>k=b) w c/\(box b t (cs' g)).holds c/\
    ∀p∈a g,p.holds c/\p.own=false/\∀k,p.fp k->w.heap.size<=k\/(al=true/\∃q∈pre,q.fp k)
theorem Qo (n:Nat)(i:Nat) {o:Oper}    {d:Nat}     {al:Bool} {G:Type} {φ:G->Prop} {val:G->Value} {cs':G->Array Value} {Z:G->List Pc}  
    (hc:Zdx P f vs.toArray pre al b t cs φ val cs' Z)
    (ho:o.op= .call { callee:= .value (.func f),args:=xs.toArray,argTypes:=ats }) (hd:o.dst=some d) (hN:Nat.blt d N=true)
    (a1:EvL env xs vs) (a2:∀args w,(callFunc f args).run P w= .ok (.enter f args) w) (hH:lk H i=some (box b t cs)) (a3:i≠0) (s:PreOk (drp i H) al pre)
    (h0:lk H 0=some (Zy w0 M0)) (hw:∀b,w0.heap.size<=b->sc b) (hM:M b) :
    T P N sc M o env H φ (λg=>(d,val g)::env) (λg=>adds n (Z g) ((i,box b t (cs' g))::H)):=λa w hs K Q hK=>by
  have hr:(execOp a.eval o).run P w= .ok (.enter f vs.toArray) w:=by grind [Gt]
  unfold Oper.wp;rw [hr];have B:=hs.hold i _ hH;refine(hc w (λp hp=>by obtain⟨j,R,_,l,S,m,_⟩:=s.mem p hp;obtain⟨I,l⟩:=Gk _ _ _ _ l;exact⟨S w (hs.hold j R l),λhb=>hs.sep i j _ R (jF I) hH l rfl b rfl (m b hb)⟩) B).mono ?_
  rintro e w' ⟨g,rfl,hg,c,D,V⟩;rw [hd];have a5:=hs.upd hH rfl a3 c D (λk F=> .inl F) h0 hw;have a0:Chg M w w':=⟨c.os,c.tape,c.output,c.size,λk F hn=>c.block k F (λe=>hn O5)⟩;refine hK g _ _ hg (Sat.put (a5.adds (w1:=w) _ n ?_) d _ hN) a0;intro p hp;obtain⟨h1,h2,h3⟩:=V p hp;refine⟨h1,h2,λk F=>?_,λj jt l Y k F y=>?_⟩
  . rcases h3 k F with h|⟨_,q,hq,z⟩
    . exact hw k (aB (hs.hold 0 _ h0).size h)
    . obtain⟨j,R,W,l,_,m,_⟩:=s.mem q hq;exact hs.scope j R W (Gk _ _ _ _ l).2 k (m k z)
  . have a7:k<w.heap.size:=by
      by_cases r:i=j
      . subst r;rw [Zp]at l;cases l;have:=y;subst this;exact(aM.1 B).1
      . rw [Zh _ _ r]at l;exact jt.lt w k (hs.hold j jt l) y
    rcases h3 k F with h|⟨a6,q,hq,z⟩
    . omega
    . obtain⟨j',R,W,u,_,m,a8⟩:=s.mem q hq;obtain⟨I,u⟩:=Gk _ _ _ _ u;by_cases r:i=j
      . subst r;rw [Zp]at l;cases l;exact hs.sep i j' _ R (jF I) hH u rfl k y (m k z)
      . rw [Zh _ _ r]at l;by_cases a4:j=j'
        . grind
        . exact hs.sep j j' jt R a4 l u Y k y (m k z)
def Ymh(P:Program)(fn:Func)(w0:World)(pre:List Pc)(al:Bool)(b:Nat)(t:TypeId){G:Type}(φ:G->Prop)(val:G->Value)(cs':G->Array Value)(a:G->List Pc):Exit->Act->World->Prop:=
  bodyPost P fn λe c => ∃ g, e = .returned (val g) /\ φ g /\ Chg (λk => k = b) w0 c /\ (box b t (cs' g)).holds c /\
        ∀p∈a g,p.holds c/\p.own=false/\∀k,p.fp k->w0.heap.size<=k\/(al=true/\∃q∈pre,q.fp k)
theorem Dj   {c:Code}   {al:Bool}    {G:Type} {φ:G->Prop} {val:G->Value} {cs':G->Array Value} {m:G->List Pc} {N:Nat}
    (D:P.funcs[f]? = some fn) (z:fn.body=some c) (Z:fn.ntmps=N) (s:Nat.ble vs.length N=true) (u:AllRo pre)
    (h:∀w0 (sc:Nat->Prop),(∀k,w0.heap.size<=k->sc k)->(∀k,sc k->w0.heap.size<=k\/k=b\/∃q∈pre,q.fp k)->
      E P N sc c (Ymh P fn w0 pre al b t φ val cs' m) (Ql 0 vs) ((0,Zy w0 (λk=>k=b))::(1,box b t cs)::Yn 2 pre)) :
    Zdx P f vs.toArray pre al b t cs φ val cs' m:=λw hp B=>by
  refine calls_of_wp D z (h w _ (λk d=> .inl d) (λk d=>d) _ w ?_);have s:vs.length<=N:=O11;have a:∀i p,lk ((0,Zy w (λk=>k=b))::(1,box b t cs)::Yn 2 pre) i=some p->(i=0/\p=Zy w (λk=>k=b))\/(i=1/\p=box b t cs)\/(i≠0/\i≠1/\p∈pre/\p.own=false):=λi p hi=>by
      by_cases n:0=i
      . grind [Zp]
      . rw [Zh _ _ n]at hi;by_cases l:1=i
        . grind [Zp]
        . rw [Zh _ _ l]at hi;obtain⟨_,g⟩:=Na pre 2 i p hi;exact .inr (.inr ⟨λe=>n e.symm,λe=>l e.symm,g,u.mem p g⟩)
  refine⟨O5,rfl,λt v W=>?_,λi p hi=>?_,λi j p q S hi I V k d o=>?_,λi p F hi k d=>?_⟩
  . have l:vs.toArray[t]? = some v:=by simpa using(Gj vs 0 t v W).2
    have R:=(aM.1 l).1;simp_all [bH,dY]
  . rcases a i p hi with⟨_,rfl⟩|⟨_,rfl⟩|⟨_,_,g,_⟩
    . exact Chg.refl _ w
    all_goals grind
  . rcases a i p hi with⟨_,rfl⟩|⟨l,rfl⟩|⟨_,_,g,y⟩
    . cases V
    . have r:k=b:=d;subst r;rcases a j q I with⟨_,rfl⟩|⟨Y,rfl⟩|⟨_,_,g,_⟩
      . exact o.2 rfl
      all_goals grind
    grind
  . rcases a i p hi with⟨n,_⟩|⟨_,rfl⟩|⟨_,_,g,_⟩
    . omega
    . exact .inr (.inl d)
    grind
theorem Dx   {al:Bool}    {G:Type} {φ:G->Prop} {val:G->Value} {cs':G->Array Value} {l:G->List Pc}  {e:Exit} (V:e= .ret\/e= .normal) (R:∀k,sc k->w0.heap.size<=k\/k=b\/∃q∈pre,q.fp k)
    (g:G)  (s:∀a w,Sat N sc env H a w->(results fn a.tmps).run P w= .ok v w) (hv:val g=v) (W:φ g) (i:Nat) (hi:lk H i=some (box b t cs)) (z:cs' g=cs) (Z:Nat.beq i 0=false) (S:lk H 0=some (Zy w0 (λk=>k=b))) (c:Give (drp i H) al (l g)) :
    X N sc e (Ymh P fn w0 pre al b t φ val cs' l) env H:=λa w hs=>by
  have a0 : a.defers = [] /\ ∃ v, (results fn a.tmps).run P w = .ok v w /\ (∃ g, Ending.returned v = .returned (val g) /\ φ g /\ Chg (λk => k = b) w0 w /\ (box b t (cs' g)).holds w /\
        ∀p∈l g,p.holds w/\p.own=false/\∀k,p.fp k->w0.heap.size<=k\/(al=true/\∃q∈pre,q.fp k)):=by
    refine⟨hs.defers,v,s a w hs,g,O5,W,hs.hold 0 _ S,by rw [z];exact hs.hold i _ hi,λp hp=>?_⟩;obtain⟨ho,h|⟨h1,h2⟩⟩:=c.mem p hp
    case inr=>grind
    obtain⟨j,u,o,m,n,B,y⟩:=h;obtain⟨I,m⟩:=Gk _ _ _ _ m;refine⟨n w (hs.hold j u m),ho,λk hk=>?_⟩;have d:=B k hk;have D:k≠b:=λe=>by subst e;exact hs.sep i j _ u (jF I) hi m rfl k rfl d
    cases al with
    | true=>
      rcases R k (hs.scope j u o m k d)with h|h|h
      all_goals grind
    | false=>
      have r:=y rfl;have hn:=hs.sep j 0 u _ o m S r k d;rcases bA k _ with F|Y
      . exact absurd ⟨F,D⟩ hn
      omega
  rcases V with rfl|rfl
  all_goals assumption
end Go.Sky
namespace Go.Sky
open Go.RowKit Below
variable{f:FuncId}{xs:List Operand}{c x y:Operand}{ats:Array TypeId}{t t':TypeId}{cs:Array Value}{pre:List Pc}{M0:Nat->Prop}{ops:Array Oper}{ts:List Nat}{listed:Array Bool}{v:Value}{k:Nat}{p:Pc}{rest:List Oper}
variable {P:Program} {N:Nat} {sc:Nat->Prop} {env env':Qm} {H H':Hp} {Q Q':Exit->Act->World->Prop} {M:Nat->Prop}
theorem d_mkf (vs:List Value){o:Oper}(d:o.op= .makeFunc (.func f) xs.toArray #[])(e:EvL env xs vs):Ld P N sc o env H (.func (.func f) vs.toArray #[]):=λa w hs=>by have b:=e.map hs;simp [execOp,d,Instr.makeFunc,b]
theorem Zng {a:Act} {w:World} (hs:Sat N sc env H a w) {o:Oper}     {d vs:List Value} (h:o.op= .call { callee:= .value c,args:=xs.toArray,argTypes:=ats })
  (e:ev env c=some (.func (.func f) d.toArray #[])) (b:EvL env xs vs):(execOp a.eval o).run P w=(callFunc f (d ++ vs).toArray).run P w:=by
 have g:=b.map hs;simp [execOp,h,resolve,invoke,hs.ev e,Deferred.ofValue,g]
theorem Zsy (n:Nat)(i:Nat)(h:List Value)(vs:List Value) {o:Oper}     {d b:Nat}     {al:Bool} {G:Type} {φ:G->Prop} {val:G->Value} {cs':G->Array Value} {m:G->List Pc} {w0:World} 
  (V:Zdx P f (h ++ vs).toArray pre al b t cs φ val cs' m)
  (ho:o.op= .call { callee:= .value c,args:=xs.toArray,argTypes:=ats }) (W:ev env c=some (.func (.func f) h.toArray #[])) (Y:o.dst=some d) (S:Nat.blt d N=true)
  (s:EvL env xs vs) (e:∀args w,(callFunc f args).run P w= .ok (.enter f args) w) (F:lk H i=some (box b t cs)) (z:i≠0) (j:PreOk (drp i H) al pre)
  (D:lk H 0=some (Zy w0 M0)) (hw:∀b,w0.heap.size<=b->sc b) (R:M b) :
  T P N sc M o env H φ (λg=>(d,val g)::env) (λg=>adds n (m g) ((i,box b t (cs' g))::H)):=λa w hs K Q I=>by
 have Z:(execOp a.eval o).run P w= .ok (.enter f (h ++ vs).toArray) w:=by grind [Zng]
 let o2:={ o with op:= .call { callee:= .value (.func f),args:=((h ++ vs).map Operand.const).toArray,argTypes:=ats } };have u:∀l,EvL env (l.map Operand.const) l:=λl=>by
  induction l with
  | nil=>trivial
  | cons v r ih=>exact⟨rfl,ih⟩
 have B:(execOp a.eval o2).run P w= .ok (.enter f (h ++ vs).toArray) w:=by grind [Gt]
 have q:=Qo _ _ V (o:=o2) rfl Y S (u _) e F z j D hw R a w hs K Q I;unfold Oper.wp at q ⊢;rw [B]at q;rw [Z];exact q
theorem Yl7 (n:Nat)    {m:Nat} (i j k:Nat) 
  (d:Zf1 P N sc M ops ts Q n listed env H i) (e:Zf1 P N sc M ops ts Q n listed env H j) (g:Zf1 P N sc M ops ts Q n listed env H k) (a:((Region.ready .any ops listed == [i,j,k]) && !(Fv ops ts listed) && !([i,j,k]:List Nat).isEmpty && Nat.beq (n+1) m)=true:=by kernel_rfl):A P N sc M ops ts Q m listed env H:=by
 rw [aP]at a;have b:=eG a.2;subst b;exact Yl8 _ a.1 (λq h=>by grind)
theorem d_fld {o:Oper}   {f:Nat} {d:Array Field} {b:Field}   (h:o.op= .field t x f)
  (l:ev env x=some (.agg cs)) (i:P.underlying t=some (.struct d)) (g:d[f]? = some b) (e:∀w,(isAgg b.type).run P w= .ok false w) (j:cs[b.offset]? = some v):Ld P N sc o env H v:=λa w hs=>by
 simp [execOp,h,hs.ev l,Instr.field,run_underlying i,g,asAgg,part,e,j]
theorem Zx5{o:Oper}{s b:ByteArray}(e:o.op= .binOp .eql t x y t')(g:ev env x=some (.string s))(h:ev env y=some (.string b))(i:b.data.toList=[]) :
  Ld P N sc o env H (.bool (decide (s.size=0))):=λa w hs=>by
 have d:(s.toList == b.toList)=decide (s.size=0):=by rw [ByteArray.toList_eq,ByteArray.toList_eq];have:s.size=s.data.toList.length:=rfl;grind
 simp [execOp,e,hs.ev g,hs.ev h,eqGuard,binOp_string_eql,d]
theorem d_eqg {o:Oper} {b:BinOp}   {xs ys:Array Value} {r:Value} (g:o.op= .binOp b t x y t') (i:ev env x=some (.agg xs)) (j:ev env y=some (.agg ys))
  (e:P.eqGuardType P.depth t=false) (h:∀w,(binOp b t (.agg xs) (.agg ys)).run P w= .ok r w):Ld P N sc o env H r:=λa w hs=>by
 have d:=run_eqGuard_agg w b t x y xs ys e;simp only [execOp,g,hs.ev i,hs.ev j,Sem.run_bind,d,h w,Result.andThen_ok,Sem.run_pure]
abbrev SL:=Option Addr×Nat×Nat
abbrev Xa (s:SL):Value:= .slice s.1 s.2.1 s.2.2
theorem Md{α:Type}{enc:α->Value}{xs:List α}(i:Nat)(hi:lk H i=some p)(b:Rd p k enc v xs):∀a w,Sat N sc env H a w->∃s:SL,v=Xa s:=λa w hs=>by obtain⟨d,c,rfl,_⟩:=b w (hs.hold i p hi);simp
theorem Zri{c:Code}{α:Type}{p:α->Prop}(b:∀a w,Sat N sc env H a w->∃x,p x)(h:∀x,p x->E P N sc c Q env H):E P N sc c Q env H:=λa w hs=>by obtain⟨x,d⟩:=b a w hs;exact h x d a w hs
theorem Zo2{e:Exit}{α:Type}{p:α->Prop}(b:∀a w,Sat N sc env H a w->∃x,p x)(h:∀x,p x->X N sc e Q env H):X N sc e Q env H:=λa w hs=>by obtain⟨x,d⟩:=b a w hs;exact h x d a w hs
theorem l_ex{α:Type}{p:α->Prop}(b:∀a w,Sat N sc env H a w->∃x,p x)(h:∀x,p x->L P N sc ops rest Q env H):L P N sc ops rest Q env H:=λa w hs=>by obtain⟨x,d⟩:=b a w hs;exact h x d a w hs
def Hx{β:Type}(q:β->Pc)(zs:List β):Pc:=
 {own:=false,fp:=λb=>∃z∈zs,(q z).fp b,holds:=λw=>∀z∈zs,(q z).holds w
  lt:=λw b h e=>by obtain⟨z,d,e⟩:=e;exact(q z).lt w b (h z d) e
  stable:=λw m h a z d=>(q z).stable w m (h z d) ⟨a.os,a.tape,a.output,a.size,λk i j=>a.block k i (λg=>j (λl=>g ⟨z,d,l⟩))⟩ }
def Xv{β:Type}(k:Nat)(enc:β->Value)(q:β->Pc)(v:Value)(zs:List β):Pc:=
 {own:=false,fp:=λb=>(zs≠[]/\v.ownBlock=some b)\/∃z∈zs,(q z).fp b,holds:=λw=>(Yt k enc v zs).holds w/\(Hx q zs).holds w
  lt:=λw b h d=>by
   rcases d with d|d
   .exact(Yt k enc v zs).lt w b h.1 d
   .exact(Hx q zs).lt w b h.2 d
  stable:=λw l h a=>⟨(Yt k enc v zs).stable w l h.1 ⟨a.os,a.tape,a.output,a.size,λk g i=>a.block k g (λe=>i (λj=>e (.inl j)))⟩,
   (Hx q zs).stable w l h.2 ⟨a.os,a.tape,a.output,a.size,λk g i=>a.block k g (λe=>i (λj=>e (.inr j)))⟩⟩ }
def Zt{β:Type}{enc:β->Value}{q:β->Pc}{zs:List β} : Rd (Xv k enc q v zs) k enc v zs:=λw h=>h.1.1
theorem Zc0{q:Pc}(i j:Nat)(hi:lk H i=some p)(o:Nat.beq i 0=false)(u:p.own=false)(n:∀w,p.holds w->q.holds w)(l:∀b,q.fp b->p.fp b)(z:q.own=false):∀a w,Sat N sc env H a w->Sat N sc env ((j,q)::H) a w:=λa w hs=>
 hs.add j q (n w (hs.hold i p hi)) (λm s _ r Ht b d g=>by
  rcases Ht with Ht|Ht
  .grind
  .by_cases h:m=i
   .grind
   .exact hs.sep m i s p h r hi Ht b g (l b d)) (λb d=>hs.scope i p (λe=>O11) hi b (l b d))
def Zb0{β:Type}{q:β->Pc}{zs:List β}(i j:Nat)(z:β)(hi:lk H i=some (Hx q zs))(d:Nat.beq i 0=false)(e:z∈zs)(l:(q z).own=false):∀a w,Sat N sc env H a w->Sat N sc env ((j,q z)::H) a w:=
 Zc0 i j hi d rfl (λw h=>h z e) (λb g=>⟨z,e,g⟩) l
def Zb1{β:Type}{enc:β->Value}{q:β->Pc}{zs:List β}(i j:Nat)(z:β)(hi:lk H i=some (Xv k enc q v zs))(d:Nat.beq i 0=false)(e:z∈zs)(l:(q z).own=false):∀a w,Sat N sc env H a w->Sat N sc env ((j,q z)::H) a w:=
 Zc0 i j hi d rfl (λw h=>h.2 z e) (λb g=> .inr ⟨z,e,g⟩) l
def Zfg{β:Type}{enc:β->Value}{q:β->Pc}{zs:List β}(i j:Nat)(hi:lk H i=some (Xv k enc q v zs))(d:Nat.beq i 0=false):∀a w,Sat N sc env H a w->Sat N sc env ((j,Hx q zs)::H) a w:=
 Zc0 i j hi d rfl (λw h=>h.2) (λb e=> .inr e) rfl
theorem Zg{β:Type}{zs:List β}{i:Nat}{d:β}(h:i<zs.length):zs.getD i d∈zs:=by grind
theorem Zwx{q r:Pc}(i j n:Nat)(hi:lk H i=some p)(s:lk H j=some q)(D:Nat.beq i 0=false)(F:Nat.beq j 0=false)(I:p.own=false)(G:q.own=false)(B:∀w,p.holds w->q.holds w->r.holds w)(u:∀b,r.fp b->p.fp b\/q.fp b)(R:r.own=false) :
  ∀a w,Sat N sc env H a w->Sat N sc env ((n,r)::H) a w:=λa w hs=>
 hs.add n r (B w (hs.hold i p hi) (hs.hold j q s)) (λm z _ l Ht b o g=>by
  rcases Ht with Ht|Ht
  .grind
  .rcases u b o with h|h
   .by_cases d:m=i
    .grind
    .exact hs.sep m i z p d l hi Ht b g h
   .by_cases d:m=j
    .grind
    .exact hs.sep m j z q d l s Ht b g h) (λb o=>by
  rcases u b o with h|h
  .exact hs.scope i p (λe=>O11) hi b h
  .exact hs.scope j q (λe=>O11) s b h)
def Cu{β:Type}{enc:β->Value}{q:β->Pc}{zs:List β}(i j n:Nat)(hi:lk H i=some (Yt k enc v zs))(m:lk H j=some (Hx q zs))(d:Nat.beq i 0=false)(e:Nat.beq j 0=false) :
  ∀a w,Sat N sc env H a w->Sat N sc env ((n,Xv k enc q v zs)::H) a w:=
 Zwx i j n hi m d e rfl rfl (λw g h=>⟨g,h⟩) (λb l=>l) rfl
theorem Oy{β:Type}(q:β->Pc)(n:Nat):∀a w,Sat N sc env H a w->Sat N sc env ((n,Hx q ([]:List β))::H) a w:=λa w hs=>
 hs.add n _ (λz e=>O5) (λh i _ _ Ht b d g=>by obtain⟨z,e,_⟩:=d;grind) (λb d=>by obtain⟨z,e,_⟩:=d;grind)
theorem Qv{β:Type}{q:β->Pc}{zs:List β}{z:β}(i j n:Nat)(hi:lk H i=some (Hx q zs))(o:lk H j=some (q z))(e:Nat.beq i 0=false)(g:Nat.beq j 0=false)(r:(q z).own=false) :
  ∀a w,Sat N sc env H a w->Sat N sc env ((n,Hx q (zs ++ [z]))::H) a w:=
 Zwx i j n hi o e g rfl r (λw m s y l=>by
  rcases dB.1 l with h|h
  .exact m y h
  grind) (λb d=>by
  obtain⟨y,l,d⟩:=d;rcases dB.1 l with h|h
  .exact .inl ⟨y,h,d⟩
  grind) rfl
end Go.Sky
namespace Go.Sky
open Go.RowKit Below
variable{H0:Hp}{ks:List Nat}{t ty:TypeId}{d:Nat}{cs:Array Value}{M0:Nat->Prop}{p:Pc}{x:Operand}{k:IntKind}{ops:Array Oper}{rest:List Oper}{pos:String}
variable {P:Program} {N:Nat} {sc:Nat->Prop} {env env':Qm} {H H':Hp} {Q Q':Exit->Act->World->Prop} {M:Nat->Prop}
def Off(H:Hp)(ks:List Nat):Nat->Prop:=λx=>∀k∈ks,∀p,lk H k=some p->¬p.fp x
def Agr(H0 H:Hp):List Nat->Prop
 | []=>True
 | k::r=>lk H k=lk H0 k/\Agr H0 H r
theorem Agr.mem{H0 H:Hp} : ∀{ks:List Nat},Agr H0 H ks->∀k∈ks,lk H k=lk H0 k
 | k::r,h,j,a=>by
  cases a with
  | head=>exact h.1
  | tail _ a=>exact Agr.mem h.2 j a
def rst(ks:List Nat):Hp->Hp
 | []=>[]
 | (i,p)::r=>cond (ks.any (Nat.beq i)) ((i,p)::rst ks r) (rst ks r)
theorem Zia(ks:List Nat):∀(H:Hp) (i:Nat) (p:Pc),lk (rst ks H) i=some p->i∈ks/\lk H i=some p
 | [],_,_,h=>by cases h
 | (j,q)::r,i,p,h=>by
  unfold rst at h;cases hb:ks.any _ with
  | true=>
   rw [hb]at h;simp only [cond_true]at h;by_cases a:j=i
   .subst a;rw [Zp]at h ⊢;obtain⟨x,c,b⟩:=gJ.1 hb;have:=eG b;subst this;exact⟨c,h⟩
   .rw [Zh _ _ a]at h ⊢;exact Zia ks r i p h
  | false=>
   rw [hb]at h;obtain⟨e,f⟩:=Zia ks r i p h;simp_all [gJ,Zh]
theorem Nh {id:Nat} {l:List Oper} (ks:List Nat) (a:List Nat) 
  (h:A P N sc (Off H ks) l.toArray a Q l.length (Array.replicate l.length false) env H) (b:P.follows .mixedOrders=true:=by kernel_rfl):E P N sc (.region id l.toArray true) Q env H:=Bu _ a h b
theorem Ej{o:Oper}{v:Value}(z:Ld P N sc o env (rst ks H) v)(m:Agr H0 H ks):Stb P N sc (Off H0 ks) o env H v:=λa w hs h c=>by refine z a h ⟨hs.size,hs.defers,hs.env,λi b hi=>?_,λi j b B f hi r=>hs.sep i j b B f (Zia _ _ _ _ hi).2 (Zia _ _ _ _ r).2,λi b l hi=>hs.scope i b l (Zia _ _ _ _ hi).2⟩;obtain⟨g,e⟩:=Zia _ _ _ _ hi;refine b.stable w h (hs.hold i b e) ⟨c.os,c.tape,c.output,c.size,λq y s=>c.block q y (λu=>s (λn=>?_))⟩;exact u i g b (by rw [<-m.mem i g];omega) n
theorem Yfe {o:Oper}  {i:Nat} {z:Value}  {w0:World}    (r:o.op= .alloc t) (m:o.dst=some d) (g:Nat.blt d N=true)
  (v:∀w,(zeroValue t).run P w= .ok z w) (l:z.cells=cs) (e:lk H 0=some (Zy w0 M0)) (u:∀b,w0.heap.size<=b->sc b) (h:Agr H0 H ks) :
  T P N sc (Off H0 ks) o env H (G:=Nat) (λb=>Off H0 ks b) (λb=>(d,.pointer (some ⟨b,0,none⟩))::env) (λb=>(i,box b t cs)::H):=λa w hs K Q f=>by
 subst l;have s:(execOp a.eval o).run P w= .ok (.value (.pointer (some ⟨w.heap.size,0,none⟩))) (w.alloc (.cells z.cells t)):=by simp [execOp,r,Instr.alloc,v,newVar,newRow]
 unfold Oper.wp;rw [s];show K _ _;rw [m];exact f _ _ _ (λk q p c n=>by rw [<-h.mem k q]at c;exact absurd (p.lt w _ (hs.hold k p c) n) (Nat.lt_irrefl _)) ((hs.new e u i _ _ (heap_alloc_new w _) (λb j=>j)).put d _ g) (Chg.alloc _ _ _)
theorem t_off {o:Oper} {G:Type} {φ:G->Prop} {c:G->Qm} {g:G->Hp}   {b:Nat}   (i:Nat) (hi:lk H i=some (box b t cs)) (q:ks.all (λk=>!Nat.beq k i)=true) (m:Agr H0 H ks)
  (h:Off H0 ks b->T P N sc (Off H0 ks) o env H φ c g):T P N sc (Off H0 ks) o env H φ c g:=λa w hs=>
 h (λk j p l n=>by
  rw [<-m.mem k j]at l;have f:i≠k:=λe=>by subst e;have:=bC.1 q i j;simp_all
  exact hs.sep i k _ p f hi l rfl b rfl n) a w hs
theorem Qc{q:Pc}(i:Nat)(h:p=q)(hi:lk H i=some p)(b:Nat.beq i 0=false):∀a w,Sat N sc env H a w->Sat N sc env ((i,q)::H) a w:=λa w hs=>by grind [Zpl]
theorem Ye6 (r:Int){o:Oper}{m:Int}(b:o.op= .unOp .neg t x)(e:ev env x=some (.int .u64 m))(c:(-m)%18446744073709551616=r):Ld P N sc o env H (.int .u64 r):=λa w hs=>by rw [<-c,<-wrap_u];simp [execOp,b,hs.ev e,Op.unary,Op.intArith]
def Yp9{o:Oper}{b:TypeId}{m r:Int}{ds:TypeDesc}(c:o.op= .convert t b x)(f:ev env x=some (.int k m))(a:P.underlying t=some ds)(e:P.underlying b=some (.int .u64))(g:m%18446744073709551616=r) :
  Ld P N sc o env H (.int .u64 r):=Zhq c f a e ‹_›
theorem Sat.yieldedu{a:Act}{w:World}(h:Sat N sc env H a w){j:Nat}(e:(ops[j]?).bind (·.dst)=some d)(c:lk env d=some undef):Go.yielded ops a.tmps j=none:=by
 have b:=h.env d _ c;unfold Go.yielded;rw [e];simp only [Option.bind_some];rw [bH]at b;cases hx:a.tmps[d]? with
 | none=>rfl
 | some v=>rw [hx]at b;subst b;rfl
theorem gsku      {c:Array Edge} {f:Op} {j e:Nat} {b:Bool} (m:(ops[j]?).bind (·.dst)=some e) (l:lk env e=some undef) (i:Nat.blt d N=true)
  (h:L P N sc ops rest Q ((d,undef)::env) H):L P N sc ops (⟨some d,f,ty,pos,c,some (j,b)⟩::rest) Q env H:=λa w hs=>
 wpList_step λK g=>by
  have o:=hs.yieldedu m l;have n:Region.wanted ⟨some d,f,ty,pos,c,some (j,b)⟩ (yielded ops a.tmps)=false:=by simp [Region.wanted,o]
  rw [n];exact g _ _ (h _ _ (hs.put d _ i))
def nop:Pc:={ own:=false,fp:=λ_=>False,holds:=λ_=>True,lt:=λ_ _ _ h=>h.elim,stable:=λ_ _ _ _=>trivial }
theorem s_move(i j:Nat)(hi:lk H i=some p)(n:Nat.beq i 0=false)(B:Nat.beq j 0=false)(z:Nat.beq i j=false):∀a w,Sat N sc env H a w->Sat N sc env ((j,p)::(i,nop)::H) a w:=λa w hs=>by
 have n:i≠0:=λe=>O11;refine⟨hs.size,hs.defers,hs.env,λk kt f=>?_,λk q kt r o f c s b m h=>?_,λk kt u f b m=>?_⟩
 .by_cases l:j=k
  .subst l;rw [Zp]at f;cases f;exact hs.hold i p hi
  .rw [Zh _ _ l]at f;by_cases g:i=k
   .subst g;rw [Zp]at f;cases f;trivial
   .rw [Zh _ _ g]at f;exact hs.hold k kt f
 .by_cases l:j=k
  .subst l;rw [Zp]at f;cases f;rw [Zh _ _ o]at c;by_cases g:i=q
   .subst g;rw [Zp]at c;cases c;exact h
   .rw [Zh _ _ g]at c;exact hs.sep i q p r g hi c s b m h
  .rw [Zh _ _ l]at f;by_cases g:i=k
   .subst g;rw [Zp]at f;cases f;cases s
   .rw [Zh _ _ g]at f;by_cases v:j=q
    .subst v;rw [Zp]at c;cases c;exact hs.sep k i kt p (jF g) f hi s b m h
    .rw [Zh _ _ v]at c;by_cases y:i=q
     .subst y;rw [Zp]at c;cases c;exact h
     .rw [Zh _ _ y]at c;exact hs.sep k q kt r o f c s b m h
 .by_cases l:j=k
  .subst l;rw [Zp]at f;cases f;exact hs.scope i p n hi b m
  .rw [Zh _ _ l]at f;by_cases g:i=k
   .subst g;rw [Zp]at f;cases f;exact m.elim
   .rw [Zh _ _ g]at f;exact hs.scope k kt u f b m
theorem Yjl{h j a b c e f g:Value}:Instr.fill (λi=>some (i*2,2)) ((List.range (3*2)).map ((Value.agg #[h,j]).cells[· % (Value.agg #[h,j]).cells.size]!)).toArray [(0,.agg #[a,b]),(1,.agg #[c,e]),(2,.agg #[f,g])]=some #[a,b,c,e,f,g]:=by simp [Instr.fill,Value.cells,List.range,List.range.loop]
end Go.Sky
namespace Go.Sky
variable{xs ys:List Nat}{k c b x y i w a s h:Nat}{P:Program}{sc:Nat->Prop}{t:TypeId}{kd:IntKind}
theorem Zwf(k:Nat):U^k=256^(8*k):=by grind [Nat.pow_mul]
theorem Zdv(k:Nat):U^k=2^(64*k):=by grind [Nat.pow_mul]
def Xt:0<U:=O8
theorem Yl0{o:List Nat}(h:val U (o.take k)+c*U^k=val U (xs.take k)+val U (ys.take k))(d:k<o.length) :
  val U ((o.set k ((xs.getD k 0+ys.getD k 0+c)%U)).take (k+1))+(xs.getD k 0+ys.getD k 0+c)/U*U^(k+1)=val U (xs.take (k+1))+val U (ys.take (k+1)):=by
 rw [Bj _ _ _ d,Oi,Oi,dH];grind [Nat.mod_add_div,Nat.add_mul,Nat.mul_comm,Nat.mul_assoc]
theorem Yfi{o:List Nat}(f:c<=1)(j:xs.getD k 0<U)(l:ys.getD k 0<U)(h:val U (o.take k)+val U (ys.take k)=val U (xs.take k)+c*U^k)(e:k<o.length) :
  val U ((o.set k ((xs.getD k 0+U-ys.getD k 0-c)%U)).take (k+1))+val U (ys.take (k+1))=val U (xs.take (k+1))+brw (xs.getD k 0) (ys.getD k 0) c*U^(k+1):=by
 unfold brw;rw [Bj _ _ _ e,Oi,Oi];generalize xs.getD k 0=a at *;generalize ys.getD k 0=b at *;by_cases g:a<b+c
 .have d:(a+U-b-c)%U+b+c=a+U:=O5;grind
 .have d:(a+U-b-c)%U+b+c=a:=by grind
  grind
theorem Znm(b:Nat)(xs:List Nat)(k:Nat)(d:k<xs.length):val b xs=val b (xs.take k)+xs.getD k 0*b^k+b^(k+1)*val b (xs.drop (k+1)):=by
 conv=>lhs;rw [<-fT (k+1) xs]
 grind [Ke,Oi,List.length_take,Nat.min_eq_left]
theorem Yk3(l:0<b)(n:∀d∈xs,d<b)(e:k<xs.length)(f:k<ys.length)(m:xs.drop (k+1)=ys.drop (k+1))(h:xs.getD k 0<ys.getD k 0):val b xs<val b ys:=by
 rw [Znm b xs k e,Znm b ys k f];have g:val b (xs.take k)<b^k:=by grind [Zki,List.mem_of_mem_take,List.length_take,Nat.min_eq_left]
 have j:(xs.getD k 0+1)*b^k<=ys.getD k 0*b^k:=aQ _ h;grind
theorem Zrl(e:k<xs.length)(f:k<ys.length)(d:xs.drop (k+1)=ys.drop (k+1))(h:xs.getD k 0=ys.getD k 0):xs.drop k=ys.drop k:=by grind [List.drop_eq_getElem_cons]
theorem Zon(d:2<=b)(h:(dg b x).length<(dg b y).length):x<y:=by have e:=(Qd d _ x).1 (aI _);grind [Ix]
theorem Zzd(h:0<x):bl x=(dg U x).length*64-(64-bl ((dg U x).getD ((dg U x).length-1) 0))/\bl ((dg U x).getD ((dg U x).length-1) 0)<=64/\0<(dg U x).length/\0<bl ((dg U x).getD ((dg U x).length-1) 0):=by
 have d:0<(dg U x).length:=by rw [Ix Xp,jZ];omega
 have f:U^((dg U x).length-1)<=x:=(Ix Xp _ x).1 O1;have g:=(Qd Xp _ x).1 (aI _);have e:x/U^((dg U x).length-1)<U:=by rw [bT (cD Xt),cI,<-dH,show((dg U x).length-1).succ=(dg U x).length by omega];omega
 rw [Ft Xp,bE e,Zdv,Gp];have j:64*((dg U x).length-1)<bl x:=by simp_all [Zcp,Zdv]
 have l:bl x<=64*(dg U x).length:=by simp_all [Qs,Zdv]
 refine⟨?_,?_,d,?_⟩<;>omega
theorem Zxf(x:Nat):(dg 256 x).length=(bl x+7)/8:=by
 have d:∀k,(dg 256 x).length<=k↔(bl x+7)/8<=k:=λk=>by rw [Qd O8,show 256^k=2^(8*k) by grind [Nat.pow_mul],<-Qs];omega
 have e:=(d _).1 (aI _);have f:=(d _).2 (aI _);omega
theorem lenU(x:Nat):(dg U x).length=((dg 256 x).length+7)/8:=by
 have d:∀k,(dg U x).length<=k↔((dg 256 x).length+7)/8<=k:=λk=>by rw [Qd Xp,Zwf,<-Qd O8];omega
 have e:=(d _).1 (aI _);have f:=(d _).2 (aI _);omega
theorem Zft(d:xs.length=ys.length)(h:∀i,i<xs.length->xs.getD i 0=ys.getD i 0):xs=ys:=by grind [List.ext_getElem]
theorem Ml{α:Type}{o:List α}{j:Nat}{d z:α}(hi:i<o.length):(o.set i d).getD j z=if i=j then d else o.getD j z:=by grind
theorem Dc(n i:Nat):(List.replicate n 0).getD i 0=0:=by grind
theorem Zr3(x k:Nat):x/U^(k/8)%U/2^(k%8*8)%256=x/256^k%256:=by
 have g:=dG k 8;have d:U=256^(k%8)*256^(8-k%8):=by rw [<-bQ,show k%8+(8-k%8)=8 by omega]
 have e:(2)^(k%8*8)=256^(k%8):=by grind [Nat.pow_mul,Nat.mul_comm]
 have f:x/U^(k/8)/256^(k%8)=x/256^k:=by grind [Nat.div_div_eq_div_mul,Zwf,Nat.pow_add]
 rw [e]
 conv=>lhs;rw [d]
 rw [Nat.mod_mul_right_div_self,<-d,f,show 8-k%8=(8-k%8-1)+1 by omega,dH,Nat.mod_mul_left_mod]
def hi(x m w:Nat):Nat:=x/256^m*256^m/U^w%U
theorem hi_ge{m:Nat}(h:m<=8*w):hi x m w=x/U^w%U:=by unfold hi;rw [Zwf,show 8*w=m+(8*w-m) by omega,bQ,<-aV,mN _ (cD O8),aV]
theorem hi_lt{m:Nat}(h:8*w+8<=m):hi x m w=0:=by unfold hi;rw [Zwf,show m=8*w+(8+(m-8*w-8)) by omega,bQ 256 _,cI (256^(8*w)),<-fB,mN _ (cD O8),bQ 256 8];grind
theorem Yiy{m r:Nat}(h:m=8*w+r)(d:r<=8):hi x m w=x/256^m*256^r%U:=by unfold hi;grind [Zwf,Nat.pow_add,Nat.mul_comm,Nat.mul_assoc,Nat.mul_div_cancel,Nat.pow_pos]
theorem Ypc(x k:Nat):hi x (k+1) (k/8) ||| (x/256^k%256*2^(k%8*8))%U=hi x k (k/8):=by
 have p:=dG k 8;rw [Yiy (r:=k%8+1) O1 O1,Yiy (r:=k%8) O1 O1];have f:(2:Nat)^(k%8*8)=256^(k%8):=by grind [Nat.pow_mul,Nat.mul_comm]
 rw [f];generalize k%8=r at *;have o:x/256^(k+1)=x/256^k/256:=by rw [dH,aV]
 rw [o];generalize x/256^k=z;have n:U=256^(r+1)*256^(7-r):=by rw [<-bQ,show r+1+(7-r)=8 by omega]
 have d:z%256*256^r<256^(r+1):=by simp [dH,cI,lZ,cD,bK]
 have e:256^(r+1)<=U:=by simp_all [eN,cD]
 rw [bE (cZ d e)];have m:z/256*256^(r+1)%U=256^(r+1)*(z/256%256^(7-r)):=by grind [Nat.mul_comm,Nat.mul_mod_mul_left]
 rw [m];have g:(256)^(r+1)=2^(8*(r+1)):=O5;have Ht:=kA (b:=z%256*256^r) (i:=8*(r+1)) O1 (z/256%256^(7-r));rw [<-g]at Ht;have q:=(dG z 256).symm;have j:z*256^r=256^(r+1)*(z/256)+z%256*256^r:=by grind
 rw [j,n];have l:256^(r+1)*(z/256)+z%256*256^r=z%256*256^r+256^(r+1)*(z/256):=O1;rw [l,nG,iS,bE d,Nat.add_mul_div_left _ _ (cD O8),dZ d,bZ];omega
theorem Mb(x:Nat):(dg U x).length=(bl x+63)/64:=by
 have d:∀k,(dg U x).length<=k↔(bl x+63)/64<=k:=λk=>by rw [Qd Xp,Zdv,<-Qs];omega
 have e:=(d _).1 (aI _);have f:=(d _).2 (aI _);omega
theorem bl_add:bl (x+y)<=max (bl x) (bl y)+1:=by rw [Qs];have d:=Zaz x;have e:=Zaz y;have f:2^bl x<=2^max (bl x) (bl y):=dC O8 O1;have g:2^bl y<=2^max (bl x) (bl y):=dC O8 O1;omega
theorem Zym(x y:Nat):bl (x*y)<=bl x+bl y:=by
 rw [Qs,bQ]
 all_goals simp [Nat.mul_zero,gY,cD,iC,Zaz,eD]
theorem Zo4(b:Nat)(o:List Nat)(n p r:Nat)(d:p<o.length)(e:p<n):val b ((o.set p r).take n)+o.getD p 0*b^p=val b (o.take n)+r*b^p:=by
 induction n with
 | zero=>omega
 | succ n f=>
  rw [Oi b _ n,Oi b o n,Ml d];by_cases h:p=n
  .subst h;rw [aO rfl,Znb];omega
  grind
theorem Ydi(f:x<U)(g:y<U)(d:a<U)(e:c<U) :
  ((x*y%U+a+0)%U+c+0)%U+U*(((x*y/U+(x*y%U+a+0)/U)%U+((x*y%U+a+0)%U+c+0)/U)%U)=x*y+a+c/\
  ((x*y/U+(x*y%U+a+0)/U)%U+((x*y%U+a+0)%U+c+0)/U)%U<U:=by
 have h:x*y<=18446744073709551615*18446744073709551615:=aU O5 O5;grind
theorem Yh0 {o:List Nat} {V r d n:Nat} (l:val U (o.take n)+c*U^(i+k)=V+xs.getD i 0*U^i*val U (ys.take k)) (f:i+k<o.length) (e:i+k<n)
  (j:r+U*d=xs.getD i 0*ys.getD k 0+o.getD (i+k) 0+c):val U ((o.set (i+k) r).take n)+d*U^(i+(k+1))=V+xs.getD i 0*U^i*val U (ys.take (k+1)):=by
 have g:=Zo4 U o n _ r f e;rw [Oi];grind
theorem Zi5  {N:Nat}  {env:Qm} {H:Hp} {o:Oper} {x y:Operand}  {s:ByteArray}  {m:Int}  (g:o.op= .index t x y)
  (l:ev env x=some (.string s)) (n:ev env y=some (.int kd m)) (j:P.underlying t=some .string)
  (e:m=(i:Int)) (f:i<256) (hs:s.size=256) (d:∀i,i<256->(s.data.toList.getD i 0).toNat=bl i):Ld P N sc o env H (.int .u8 (bl i:Int)):=by
 grind [Ykj]
theorem Yh1  (v:x<U) (z:y<U) {hi p:Nat}
  (m:hi=(((x/4294967296)*(y/4294967296)%U+(((x/4294967296)*(y &&& 4294967295)%U+((x &&& 4294967295)*(y &&& 4294967295)%U)/4294967296)%U)/4294967296)%U +
   (((((x/4294967296)*(y &&& 4294967295)%U+((x &&& 4294967295)*(y &&& 4294967295)%U)/4294967296)%U &&& 4294967295)+(x &&& 4294967295)*(y/4294967296)%U)%U)/4294967296)%U)
  (u:p=x*y%U):hi=x*y/U:=by
 have o:=λn=>jN n 32;subst m;simp only [o];have j:=dG x 4294967296;have l:=dG y 4294967296;have r:=bK x (show 4294967296>0 by simp);have q:=bK y (show 4294967296>0 by simp);have f:x/4294967296<=4294967295:=O5;have g:y/4294967296<=4294967295:=O5;generalize x/4294967296=a at *;generalize x%4294967296=b at *;generalize y/4294967296=c at *;generalize y%4294967296=d at *;subst j;subst l;have e:(4294967296*a+b)*(4294967296*c+d)=18446744073709551616*(a*c)+4294967296*(a*d)+4294967296*(b*c)+b*d:=by grind
 have B:=aU f g;have D:a*d<=4294967295*4294967295:=aU f O1;have F:b*c<=4294967295*4294967295:=aU O1 g;have G:b*d<=4294967295*4294967295:=aU O1 O1;simp only [U];omega
def Yb9(m:Nat):bl (m%256)<=8:=(Qs 8 _).2 (bK _ O8)
theorem Zas{m:Nat}:La ((bl (m%256):Nat):Int):=by have:=Yb9 m;exact⟨O8,O1⟩
theorem Cy{c:Int}{m:Nat}(d:0<=c)(e:c<=1000):La (c+((bl (m%256):Nat):Int)):=by have:=Yb9 m;exact⟨O1,O1⟩
theorem Zaq (n:Nat){c:Int}{m:Nat}(d:m<256)(h:c+(bl m:Int)=(bl n:Int)):Value.int .i64 (c+((bl (m%256):Nat):Int))=Value.int .i64 (bl n:Int):=by grind
theorem Zqw{α:Type}{xs:List α}{d:α}(h:i<xs.length):xs.reverse.getD i d=xs.getD (xs.length-1-i) d:=by grind
theorem hi_top{m:Nat}(h:(dg 256 x).length<=m):hi x m w=0:=by have:=(Qd O8 m x).1 h;unfold hi;grind [Nat.div_eq_of_lt]
theorem Yix(h:k/8≠w):hi x (k+1) w=hi x k w:=by grind [hi_ge,hi_lt]
set_option maxRecDepth 20000
def Yl9:U=2^64:=rfl
theorem Yhi(d:b<2^s):a*2^s ||| b=a*2^s+b:=by rw [cI,kA d]
theorem Zfv{l:Nat}(hs:s<=64)(d:l<U):l/2^(64-s)<2^s:=by rw [bT (dM _),<-bQ,show s+(64-s)=64 by omega];omega
theorem Ziz{l:Nat}(hs:s<=64):l*2^s/U=l/2^(64-s):=by rw [Yl9,show(2)^64=2^(64-s)*2^s by rw [<-bQ,show 64-s+s=64 by omega],lS _ _ (dM s)]
theorem Yhh{l:Nat}(hs:s<=64)(d:h*2^s<U)(e:l<U):(h*2^s%U) ||| (l/2^(64-s))=(h*U+l)*2^s/U:=by rw [bE d,Yhi (Zfv hs e),dO,show h*U*2^s=U*(h*2^s) by grind,Nat.mul_add_div Xt,Ziz hs]
theorem Ydl(h l s:Nat):l*2^s%U=(h*U+l)*2^s%U:=by grind
def Zv9(x:Nat):x &&& 4294967295=x%4294967296:=jN x 32
def dvI(u v d e q r:Nat):Prop:=q*d+r=u/\q<=4294967297/\(u*4294967296+v)/(d*4294967296+e)<=q
section
variable {u v y1 y0 q r:Nat}
theorem dv_Q(e:v<4294967296)(d:u<y1*4294967296+y0):(u*4294967296+v)/(y1*4294967296+y0)<4294967296:=by rw [bT O1];omega
theorem dv0(f:2147483648<=y1)(g:y1<4294967296)(e:y0<4294967296)(n:v<4294967296)(m:u<y1*4294967296+y0):dvI u v y1 y0 (u/y1) (u%y1):=by
 refine⟨by grind [Nat.mul_comm,Nat.div_add_mod],?_,?_⟩
 .rw [<-Nat.lt_succ_iff,bT O1];omega
 .have d:0<y1*4294967296+y0:=O1;refine mY ((bT d).2 ?_);have j:=dG u y1;have l:=bK u (show 0<y1 by omega);grind
theorem dv_mul(hi:q*y1+r=u):q*(y1*4294967296+y0)+r*4294967296=u*4294967296+q*y0:=by grind
theorem Zrj(j:0<y1)(hi:dvI u v y1 y0 q r)(d:q*y0<=4294967296*r+v):q=(u*4294967296+v)/(y1*4294967296+y0):=by obtain⟨e,f,g⟩:=hi;grind [Nat.le_antisymm,Nat.le_div_iff_mul_le,dv_mul]
theorem Zj1(o:0<y1)(hi:dvI u v y1 y0 q r)(j:v<4294967296)(g:u<y1*4294967296+y0)(e:4294967296<=q\/4294967296*r+v<q*y0) :
  1<=q/\dvI u v y1 y0 (q-1) (r+y1):=by
 obtain⟨l,m,n⟩:=hi;have d:(u*4294967296+v)/(y1*4294967296+y0)<q:=by
  rcases e with e|e
  .exact cZ (dv_Q j g) e
  .rw [bT O1];grind
 have f:=aY (bI _) d;refine⟨f,?_,O1,Nat.le_sub_one_of_lt d⟩;obtain⟨p,rfl⟩:∃p,q=p+1:=⟨q-1,O1⟩;grind
theorem Zhc(d:0<y1)(f:y0<4294967296)(hi:dvI u v y1 y0 q r)(e:q<=4294967296)(j:4294967296<=r):q=(u*4294967296+v)/(y1*4294967296+y0):=by refine Zrj d hi ?_;have g:q*y0<=4294967296*y0:=aQ _ e;omega
theorem Zt9(f:q<4294967296)(d:y0<4294967296):q*y0<18446744073709551616:=by have e:q*y0<=4294967295*y0:=aQ _ O1;omega
end
theorem wsub{m:Nat}(e:a%U=c%U)(f:b%U=m%U)(g:m<=c)(d:c-m<U):(a+(U-b%U))%U=c-m:=by grind
theorem Ybe{u v:Nat}(d:0<y)(g:y<U):((u*4294967296%U+v)%U+(U-((u*4294967296+v)/y*y)%U))%U=(u*4294967296+v)%y:=by have e:=dG (u*4294967296+v) y;have f:=bK (u*4294967296+v) d;grind
theorem Yp2{A D:Nat}(g:0<y)(d:D=A*4294967296+b):D/y=A/y*4294967296+(A%y*4294967296+b)/y/\D%y=(A%y*4294967296+b)%y:=by
 have e:=dG A y;have f:D=y*(A/y*4294967296)+(A%y*4294967296+b):=by grind
 grind [Nat.mul_add_div,Nat.mul_add_mod]
def dv_two{D u v d e:Nat}(f:0<y)(l:u=D/U)(m:v=D%U)(j:d=v/4294967296)(g:e=v%4294967296) :
  D/y=(u*4294967296+d)/y*4294967296+((u*4294967296+d)%y*4294967296+e)/y/\D%y=((u*4294967296+d)%y*4294967296+e)%y:=
 Yp2 f O5
def Zny(n y s:Nat):n*2^s/(y*2^s)=n/y:=lS _ _ (dM s)
theorem Znx(n y s:Nat):n*2^s%(y*2^s)/2^s=n%y:=by grind [Nat.mul_mod_mul_right,Nat.mul_div_cancel,Nat.two_pow_pos]
theorem Yhw(f:0<y)(g:y<U)(hs:s=64-bl y):9223372036854775808<=y*2^s/\y*2^s<U:=by
 have j:=(Qs 64 y).2 g;have d:=Zaz y;have e:=(Zr6 f).1;have l:(2)^bl y*2^s=U:=by rw [<-bQ,show bl y+s=64 by omega]
 have m:=dS d (dM s);have n:2^(bl y-1)*2^s<=y*2^s:=aQ _ e;have o:2^(bl y-1)*2^s=9223372036854775808:=by
  have:1<=bl y:=by grind
  rw [<-bQ,show bl y-1+s=63 by omega]
 omega
theorem rsub{u:Nat}(d:0<y)(e:u<U):(u+(U-(u/y*y)%U))%U=u%y:=by grind [Nat.div_add_mod,Nat.mul_comm,wsub]
def Zbx{m n:Nat}(h:m=n):Value.int .u64 (m:Int)= .int .u64 (n:Int):=O5
def Yit{m n:Int}(h:m=n):Value.int .i64 m= .int .i64 n:=O5
theorem Zvf(d:1<=a)(h:a<U):(a+(U-1))%U=a-1:=by grind
def shl_lt(e:h<y)(d:y*2^s<U):h*2^s<U:=aY (aQ _ (eD e)) d
theorem top_lt{l:Nat}(f:l<U)(e:h<y):(h*U+l)*2^s/U<y*2^s:=by rw [bT Xt];have d:h*U+l<y*U:=O5;rw [kF];simp_all [dS,dM]
end Go.Sky
namespace Go.Sky
set_option maxRecDepth 20000
variable{b r w k i D:Nat}{s t:Bool}{x y:Int}{xs p:List Int}{v:Value}{R ys:List Nat}{f:FuncId}{args:Array Value}{pre:List Pc}
theorem Zp3{a s:Nat}(c:b<2^s):b ||| a*2^s=a*2^s+b:=by rw [Nat.or_comm,Yhi c]
theorem Zgb{Y t:Nat}(a:t<=64):Y*2^t%U=Y%2^(64-t)*2^t:=by rw [Yl9,show(2:Nat)^64=2^(64-t)*2^t by rw [<-bQ,show 64-t+t=64 by omega],Nat.mul_mod_mul_right]
theorem Zmq(c:b<=64)(a:r<U):r/2^b<2^(64-b):=by have:=Zfv (l:=r) (s:=64-b) O1 a;rwa [show 64-(64-b)=b by omega]at this
theorem Zs9(Y b:Nat)(a:b<=64):Y%U/2^b ||| (Y/U%U)*2^(64-b)%U=Y/2^b%U:=by
 have e:Y%U<U:=bK _ Xt;rw [Zgb O1,Zp3 (Zmq a e),show 64-(64-b)=b by omega];have g:Y/U%U%2^b=Y/U%2^b:=by rw [Yl9];exact Nat.mod_mod_of_dvd _ (Nat.pow_dvd_pow 2 a)
 rw [g];have c:U=2^b*2^(64-b):=by rw [<-bQ,show b+(64-b)=64 by omega]
 have h:=dG Y U;have j:Y/2^b=2^(64-b)*(Y/U)+Y%U/2^b:=by
  conv=>lhs;rw [<-h]
  conv=>lhs;rw [show U*(Y/U)=2^b*(2^(64-b)*(Y/U)) by rw [<-fB,<-c]]
  rw [iZ (dM b)]
 rw [j];have d:=Zmq a e;generalize Y/U=q at *;generalize Y%U=r at *
 conv=>rhs;rw [c,cI (2^b)]
 rw [nG,iZ (dM _),jV,bE d,dZ d,gN,iO,cI]
theorem Ycz{Y:Nat}(c:b<=64)(a:Y/U=0):Y%U/2^b=Y/2^b%U:=by have:=Zs9 Y b c;rw [a]at this;simpa using this
theorem Yea{α:Type}(xs:List α)(w j:Nat)(d:α):(xs.drop w).getD j d=xs.getD (w+j) d:=by simp [List.getD,List.getElem?_drop]
theorem Zbc{x s:Nat}(c:w=s/64)(a:b=s%64):x/2^s=x/U^w/2^b:=by rw [Zdv,aV,<-bQ,show 64*w+b=s by omega]
theorem Zu9(x b i:Nat):x/2^b/U^i=x/U^i/2^b:=by rw [aV,cI,<-aV]
theorem Ybh(x w j:Nat):((dg U x).drop w).getD j 0=x/U^w/U^j%U:=by rw [Yea,Ft Xp,bQ,aV]
theorem Yao{x n:Nat}(h:(dg U x).length<=w+n):x/U^w<U^n:=by rw [bT (cD Xt),<-bQ,iO];exact(Qd Xp _ _).1 h
theorem drop_set{α:Type}{o:List α}{d:α}(h:k<o.length):(o.set k d).drop k=d::o.drop (k+1):=by rw [List.drop_set,aF O1,kB,eU h];rfl
theorem Zu8{α:Type}(z:α)(o:List α)(k:Nat)(h:k<o.length):o.drop k=o.getD k z::o.drop (k+1):=by rw [eU h];simp [List.getD,aL h]
theorem Zwp{o xs:List Nat}{d:Nat}(h:0<d)(j:k+1<=o.length)(l:k+1<=xs.length)(a:val U (o.drop (k+1))*d+r=val U (xs.drop (k+1))) :
  val U ((o.set k ((r*U+xs.getD k 0)/d)).drop k)*d+(r*U+xs.getD k 0)%d=val U (xs.drop k):=by
 rw [drop_set O1,Zu8 0 xs k O1];simp only [val];have c:=dG (r*U+xs.getD k 0) d;rw [<-a];generalize (r*U+xs.getD k 0)/d=q at *;generalize (r*U+xs.getD k 0)%d=m at *;generalize val U (o.drop (k+1))=V at *;rw [dO,Nat.mul_add,cI q d];have e:U*V*d=U*(V*d):=fB _ _ _;have g:U*r=r*U:=cI _ _;omega
theorem Yf6 {o xs:List Nat} {n:Nat} (l:b<=63) (m:n=o.length) (q:w+i+1<n) (d:o.getD (w+i) 0<2^b) (j:o.getD (w+i+1) 0=0) (u:xs.getD i 0<U)
  (h:val U (o.take n)=val U (xs.take i)*2^b*U^w) :
  val U (((o.set (w+i) (o.getD (w+i) 0 ||| xs.getD i 0*2^b%U)).set (w+i+1) (xs.getD i 0/2^(64-b))).take n)=val U (xs.take (i+1))*2^b*U^w:=by
 have a:=Zo4 U (o.set (w+i) (o.getD (w+i) 0 ||| xs.getD i 0*2^b%U)) n (w+i+1) (xs.getD i 0/2^(64-b)) O10 O1;have c:=Zo4 U o n (w+i) (o.getD (w+i) 0 ||| xs.getD i 0*2^b%U) O1 O1;rw [Ml O1,aF O1,j]at a;rw [Zgb O1,Zp3 d,<-Zgb O1]at c ;rw [Zgb O1,Zp3 d,<-Zgb O1]at a ⊢;rw [<-Ziz (by omega:b<=64)]at a ⊢;rw [Oi];generalize xs.getD i 0=X at *;generalize o.getD (w+i) 0=C at *;have e:X*2^b*U^(w+i)=(X*2^b%U)*U^(w+i)+X*2^b/U*U^(w+i+1):=by
  conv=>lhs;rw [<-dG (X*2^b) U]
  rw [dO,dH U (w+i),cI U,fB (X*2^b/U),cI U];omega
 have g:(val U (xs.take i)+X*U^i)*2^b*U^w=val U (xs.take i)*2^b*U^w+X*2^b*U^(w+i):=by rw [dO,dO,bQ];congr 1;rw [kF X,fB,fB,cI (U^i)];simp only [fB]
 rw [g,<-h,e];rw [dO]at c;omega
theorem Znf(o:List Nat)(j:Nat)(h:o.getD j 0=0):o.set j 0=o:=by
 rcases bA j o.length with a|a
 .refine Zft O8 (λi _=>?_);rw [Ml a];split
  .rename_i e;rw [<-e,h]
  .rfl
 .exact List.set_eq_of_length_le a
theorem Zu7{d n:Nat}(c:n<U)(a:r<d):(r*U+n)/d<U:=by rw [bT O1];have:(r+1)*U<=d*U:=aQ _ a;rw [cI U];rw [dO]at this;omega
theorem Zhs{n:Nat}(h:n<U):tz [n]=dg U n:=by rw [<-Bf Xp [n] O5];rfl
theorem Ygh{N:Nat}{sc:Nat->Prop}{env:Qm}{H:Hp}{α:Type}{e:TypeId}{enc:α->Value}{xs ys:List α}(i:Nat)(h:xs=ys)(hi:lk H i=some (Nk k e enc v xs))(c:Nat.beq i 0=false) :
  ∀a w,Sat N sc env H a w->Sat N sc env ((i,Nk k e enc v ys)::H) a w:=by
 grind [Zpl]
theorem Zm8(R:List Nat)(j:Nat)(a:j<=R.length):val U R=val U (R.take j)+U^j*val U (R.drop j):=by grind [Ke,List.take_append_drop,List.length_take,Nat.min_eq_left]
theorem Zkj(a:∀d∈R,d<U)(j:Nat)(e:j<=R.length):val U (R.take j)=val U R%U^j/\val U (R.drop j)=val U R/U^j:=by have g:=Zm8 R j e;have h:=Zki Xt (R.take j) (λd c=>a d (fZ c));have l:0<U^j:=cD Xt;simp_all [iO,jV,bE,iZ,dZ,gN]
theorem Zf5(a:∀d∈R,d<U){n:Nat}(c:n<=R.length)(h:val U R<U^n):val U (R.drop n)=0/\val U (R.take n)=val U R:=by grind [Zkj,Nat.mod_eq_of_lt,Nat.div_eq_of_lt]
theorem Ymp(c:∀d∈R,d<U){j n:Nat}(g:j+n<=R.length)(h:val U R<U^(j+n)):tz ((R.drop j).take n)=dg U (val U R/U^j):=by have a:∀d∈R.drop j,d<U:=λd a=>c d (mA a);rw [<-(Zkj c j O1).2,<-Bf Xp _ (λd e=>a d (fZ e))];congr 1;refine(Zf5 a O5 ?_).2;rw [(Zkj c j O1).2,bT (cD Xt),<-bQ,iO];omega
theorem Zse(e:∀d∈R,d<U)(g:∀d∈ys,d<U)(c:Nat):∀d∈spl R c ys,d<U:=λd a=>by simp only [spl,dB]at a;grind
theorem Zst(L:Nat)(ys:List Nat):val U (spl (List.replicate L 0) 0 ys)=val U ys:=by simp [spl,Ke,mG,Cj]
theorem Ymy(a:∀d∈R,d<U){j n:Nat}(g:j+n<=R.length)(h:val U R<U^(j+n))(l:ys.length<=n) :
  val U (spl (spl R j (List.replicate n 0)) j ys)=val U R%U^j+U^j*val U ys:=by
 have c:(spl R j (List.replicate n 0)).take j=R.take j:=by simp only [spl,gC];grind
 have e:(spl R j (List.replicate n 0)).drop (j+ys.length)=List.replicate (n-ys.length) 0 ++ R.drop (j+n):=by simp only [spl,gC,aX];rw [<-List.drop_drop,List.drop_left' O5,List.drop_append_of_le_length O5,mG]
 rw [spl,c,e,Ke,Ke,Ke,Cj,(Zf5 a g h).1,(Zkj a j O1).1,dX,eQ O1];rfl
theorem Yom{y:Nat}(d:0<y)(j:k=(dg U y).length)(z:b=64-bl ((dg U y).getD (k-1) 0)):(dg U (y*2^b)).length=k/\2^b*U^k<=y*2^b*U*2^b/\1<=k/\y*2^b<U^k/\b<=63/\U^(k-1)*9223372036854775808<=y*2^b:=by
 obtain⟨l,m,g,n⟩:=Zzd d;rw [<-j]at l m g n;obtain⟨o,q⟩:=Zr6 d;have u:=Zaz y;have e:bl y+b=64*k:=O1;have a:y*2^b<U^k:=by rw [Zdv,<-e,bQ];simp_all [dS,dM]
 have c:U^(k-1)*9223372036854775808<=y*2^b:=by
  have:U^(k-1)*9223372036854775808=2^(bl y-1)*2^b:=by rw [Zdv,<-bQ,show 9223372036854775808=2^63 from rfl,<-bQ];grind
  simp_all [aQ]
 have h:U^k=U^(k-1)*U:=by simp_all [dH]
 refine⟨?_,?_,g,a,O1,c⟩
 .refine jT ((Qd Xp _ _).2 a) ?_;have:=(Ix Xp _ _).2 (aB (eN _ O8) c);omega
 .rw [h,cI _];refine aQ _ ?_;grind
theorem Yiz{W w1 w0 t:Nat}(c:t*U^k<=D)(e:0<t)(a:W/U^k=w1*U+w0):W/D<=(w1*U+w0)/t:=by have d:0<U^k:=cD Xt;rw [<-a,aV,cI];simp_all [Nat.div_le_div_left,gY]
theorem Ym3(c:∀d∈R,d<U){j:Nat}(m:1<=k)(h:val U R<U^(j+k+1))(n:j+k+1<=R.length):val U R/U^j/U^(k-1)=R.getD (j+k) 0*U+R.getD (j+k-1) 0:=by
 have e:∀i,R.getD i 0=val U R/U^i%U:=λi=>by
  rcases bA i R.length with hi|hi
  .have a:=(Zkj c i O1).2;rw [Zu8 0 R i hi]at a;simp only [val]at a;rw [<-a,iS,bE (Pn Xt c i)]
  .rw [show R.getD i 0=0 by grind,Nat.div_eq_of_lt (Nat.lt_of_lt_of_le (Zki Xt R c) (Nat.pow_le_pow_right Xt hi))];rfl
 rw [aV,<-bQ];have g:val U R/U^(j+k)<U:=by simp_all [bT,cD,Xt,mJ,iO]
 have l:val U R/U^(j+k)=val U R/U^(j+k-1)/U:=by rw [aV,<-dH];grind
 grind
theorem Yke{x lx:Nat}(e:x<U^lx)(c:b<=63)(m:1<=k)(d:k<=lx+1)(a:U^(k-1)*9223372036854775808<=D):x*2^b<D*U^(lx+1-k):=by
 have g:=dS e (dM b);have h:U^lx*2^b<=U^lx*9223372036854775808:=bD _ (by exact dC O8 c)
 have j:U^lx*9223372036854775808=U^(k-1)*9223372036854775808*U^(lx+1-k):=by rw [kF,<-bQ];grind
 have l:U^(k-1)*9223372036854775808*U^(lx+1-k)<=D*U^(lx+1-k):=aQ _ a;omega
theorem Ykd{V j Q Vq N:Nat}(c:0<D)(o:Q=V/U^j/D)(n:Vq*U^(j+1)*D+V=N) :
  V%U^j+U^j*(V/U^j-D*Q)<D*U^j/\(Q+U*Vq)*U^j*D+(V%U^j+U^j*(V/U^j-D*Q))=N:=by
 have d:0<U^j:=cD Xt;have e:=bK V d;have g:=dG V (U^j);have h:=dG (V/U^j) D;have a:=bK (V/U^j) c;have l:V/U^j-D*Q=V/U^j%D:=O5;constructor
 .have m:U^j*(V/U^j%D+1)<=U^j*D:=bD _ a;grind
 grind
def sg(s:Bool)(x:Int):Prop:=(s=true->x<=0)/\(s=false->0<=x)
theorem sg_neg(h:sg s x):sg (!s) (-x):=by cases s<;>simp [sg]at*<;>omega
theorem sg_mul(hs:sg s x)(a:sg t y):sg (s != t) (x*y):=by
 cases s<;>cases t<;>simp [sg]at *
 all_goals simp_all [aS,eY,eZ,jA]
theorem Ycy(h:(((dg U x.natAbs).length:Nat):Int)=0):Value.int .i64 x.sign= .int .i64 0:=by have a:=(Ny Xp x.natAbs).1 O1;grind
theorem Yf5(hs:sg s x)(a:s=true)(h:¬(((dg U x.natAbs).length:Nat):Int)=0):Value.int .i64 x.sign= .int .i64 (-1):=by have c:=λe=>h (by rw [(Ny Xp _).2 e];rfl);have d:=hs.1 a;grind
theorem Yf4(hs:sg s x)(a:s=false)(h:¬(((dg U x.natAbs).length:Nat):Int)=0):Value.int .i64 x.sign= .int .i64 1:=by have c:=λe=>h (by rw [(Ny Xp _).2 e];rfl);have d:=hs.2 a;grind
theorem Ynn(hs:sg s x)(a:sg s y):sg s (x+y):=by cases s<;>simp [sg]at*<;>omega
theorem Yl3(hs:sg s x)(a:sg s y):(x+y).natAbs=x.natAbs+y.natAbs:=by cases s<;>simp [sg]at*<;>omega
theorem Zzj(hs:sg s x)(c:sg t y)(h:s≠t)(a:y.natAbs<=x.natAbs):sg s (x+y):=by cases s<;>cases t<;>simp [sg]at*<;>omega
theorem Zwe(hs:sg s x)(c:sg t y)(h:s≠t)(a:y.natAbs<=x.natAbs):(x+y).natAbs=x.natAbs-y.natAbs:=by cases s<;>cases t<;>simp [sg]at*<;>omega
abbrev wv (x:Int):Value:= .agg #[.bool (decide (x<0)),.string (Xo x.natAbs)]
def Aw(x:Int):Int:=if 65536<bl x.natAbs then 0 else x
def Zjd(x:Int):Int:=if 65536<bl x.natAbs then 7 else 0
theorem Zj3:bl (Aw x).natAbs<=65536:=by
 unfold Aw;split
 .decide
 omega
theorem Nr(h:bl x.natAbs<=65536):Aw x=x:=by unfold Aw;omega
theorem Zqz(h:bl x.natAbs<=65536):Zjd x=0:=by unfold Zjd;omega
theorem Yqo(h:65536<bl x.natAbs):Aw x=0:=by unfold Aw;omega
theorem Ypl(h:65536<bl x.natAbs):Zjd x=7:=by unfold Zjd;omega
abbrev Zes (x:Int):Value:= .tuple #[wv (Aw x),.int .i64 (Zjd x)]
theorem Ycl(h:((65536:Int)<((bl x.natAbs:Nat):Int))):Zes x= .tuple #[.agg #[.bool false,.string ⟨#[]⟩],.int .i64 7]:=by unfold Zes;rw [Yqo O1,Ypl O1];rfl
theorem Zy3(h:¬((65536:Int)<((bl x.natAbs:Nat):Int))):Zes x= .tuple #[wv x,.int .i64 0]:=by grind [Nr,Zqz]
theorem Zsm(hs:sg false x)(h:¬((65536:Int)<((bl x.natAbs:Nat):Int))):Zes x= .tuple #[.agg #[.bool false,.string (Xo x.natAbs)],.int .i64 0]:=by rw [Zy3 h,wv,aG (by have:=hs.2 rfl;omega)]
theorem Zsl(hs:sg true x)(h:¬((65536:Int)<((bl x.natAbs:Nat):Int))):Zes x= .tuple #[.agg #[.bool (decide ((0:Int)<(((dg U x.natAbs).length:Nat):Int))),.string (Xo x.natAbs)],.int .i64 0]:=by have a:=hs.1 rfl;have c:=Ny Xp x.natAbs;rw [Zy3 h,wv,show decide _=decide ((0:Int)<(((dg U x.natAbs).length)))from bW.2 ⟨λh=>O1,λh=>O1⟩]
theorem Yd6{q r:Int}(c:y≠0)(h:x=y*q+r)(j:0<=r)(l:r<(y.natAbs:Int)):x/y=q/\x%y=r:=by
 have e:=Int.mul_ediv_add_emod x y;have d:=lM x c;have g:=Int.emod_lt x c;have n:x/y=q:=by
  have m:y*(x/y-q)=r-x%y:=O5;have a:(y*(x/y-q)).natAbs<y.natAbs:=O1;rw [bR]at a;rcases bB (x/y-q).natAbs with h|h
  .omega
  .exact absurd (eN y.natAbs h) O1
 grind
theorem Zwu(h:sg s x):x=if s then -(x.natAbs:Int)else(x.natAbs:Int):=by cases s<;>simp [sg]at*<;>omega
theorem Ybm(hs:sg s x)(c:sg t y)(d:y≠0){Q R:Nat}(g:R<y.natAbs)(h:x=(if s then -1 else 1)*((y.natAbs:Int)*Q)+R) :
  sg (s != t) (x/y)/\(x/y).natAbs=Q/\(x%y).natAbs=R:=by
 have e:=Zwu c;have a:x/y=(if s != t then -(Q:Int)else Q)/\x%y=R:=by refine Yd6 d ?_ O8 O1;grind
 rw [a.1,a.2];cases s<;>cases t<;>simp [sg]
theorem divB(hs:sg s x)(g:sg t y)(h:y≠0)(d:s=false\/x.natAbs%y.natAbs=0):sg (s != t) (x/y)/\(x/y).natAbs=x.natAbs/y.natAbs/\(x%y).natAbs=x.natAbs%y.natAbs:=by
 have j:=Zwu hs;have e:=dG x.natAbs y.natAbs;refine Ybm hs g h (bK _ O1) ?_;have a:((y.natAbs:Int)*((x.natAbs/y.natAbs:Nat)))+((x.natAbs%y.natAbs:Nat))=x.natAbs:=O1;rcases d with rfl|c
 .grind
 .rw [c]at a ⊢
  all_goals grind
theorem divA(hs:sg true x)(a:sg t y)(c:y≠0)(d:0<x.natAbs%y.natAbs):sg (true != t) (x/y)/\(x/y).natAbs=x.natAbs/y.natAbs+1/\(x%y).natAbs=y.natAbs-x.natAbs%y.natAbs:=by have h:=Zwu hs;have e:=dG x.natAbs y.natAbs;have g:=bK x.natAbs (show 0<y.natAbs by omega);refine Ybm hs a c O1 ?_;grind
def okW(b:Bool)(s:ByteArray):Bool:=if s.size=0 then !b else decide ((s.data.toList.getD 0 0).toNat≠0) && decide (s.size<=8192)
theorem bl256{n:Nat} : (dg 256 n).length<=k↔bl n<=8*k:=by grind [Zxf]
theorem Zc9(h:bl x.natAbs<=65536):okW (decide (x<0)) (Xo x.natAbs)=true:=by
 unfold okW;rw [Eh];split
 .grind [Ny]
 .have c:0<x.natAbs:=by grind [Nat.eq_zero_or_pos,Dg]
  have d:=Zv1 x.natAbs 0 O1;have a:=dg_top (by simp:2<=256) c;rw [Ft O8]at a;simp_all [bl256,aP,aE]
theorem Zox{a b:ByteArray}(h:a.data.toList=b.data.toList):a=b:=by cases a;simp_all
theorem Yqy{s:ByteArray}(e:s.size≠0)(h:(s.data.toList.getD 0 0).toNat≠0):s=Xo (val 256 (s.data.toList.reverse.map UInt8.toNat)):=by
 have a:∀d∈s.data.toList.reverse.map UInt8.toNat,d<256:=λd c=>by obtain⟨u,_,rfl⟩:=dP.1 c;exact u.toNat_lt
 unfold Xo;rw [Bf O8 _ a,tz_eq]
 .simp [List.map_reverse,Function.comp_def]
 grind
theorem Zp4{b:Bool}{s:ByteArray}(h:okW b s=true):∃x:Int,bl x.natAbs<=65536/\b=decide (x<0)/\s=Xo x.natAbs:=by
 unfold okW at h;split at h
 .rename_i a;refine⟨0,O4,?_,?_⟩
  .all_goals grind
  .refine Zox ?_;have:=a;rw [aK this];rfl
 .rename_i a;rw [aP]at h;have c:=bL h.1;have hs:=Yqy a c;generalize val 256 _=n at hs;have e:(dg 256 n).length=s.size:=by grind [Eh]
  have g:0<n:=by grind [Nat.eq_zero_or_pos,Dg]
  have d:bl n<=65536:=by grind [bl256]
  cases b with
  | true=>exact⟨-(n),O5,O5,O5⟩
  | false=>exact⟨n,O5,by rfl,O5⟩
def eqW(a:Bool)(s:ByteArray)(b:Bool)(t:ByteArray):Bool:=(a == b) && (s.toList == t.toList)
theorem wv_inj(h:decide (x<0)=decide (y<0))(a:Xo x.natAbs=Xo y.natAbs):x=y:=by
 have e:x.natAbs=y.natAbs:=by
  have g:(dg 256 x.natAbs).reverse.map UInt8.ofNat=(dg 256 y.natAbs).reverse.map UInt8.ofNat:=by have:=aH (λb=>b.data.toList) a;assumption
  have j:∀n,((dg 256 n).reverse.map UInt8.ofNat).map UInt8.toNat=(dg 256 n).reverse:=λn=>by
   rw [gO]
   conv=>rhs;rw [<-mB (dg 256 n).reverse]
   refine mH λd c=>?_;have:=Fk O8 n d (List.mem_reverse.1 c);simp_all
  grind [Zoo,List.reverse_inj]
 grind
theorem Yps{a b:Bool}{s t:ByteArray} : eqW a s b t=true↔a=b/\s=t:=by unfold eqW;rw [ByteArray.toList_eq,ByteArray.toList_eq];grind [Zox]
theorem Yj1(x y:Int):eqW (decide (x<0)) (Xo x.natAbs) (decide (y<0)) (Xo y.natAbs)=decide (x=y):=by rw [Bool.eq_iff_iff,Yps];grind [wv_inj]
theorem Mw:sg (decide (x<0)) x:=by unfold sg;simp;omega
theorem Aa(x y:Int):bl (x+y).natAbs<=max (bl x.natAbs) (bl y.natAbs)+1:=
 aB (Lq (Int.natAbs_add_le x y)) bl_add
theorem Xz(x y:Int):bl (x*y).natAbs<=bl x.natAbs+bl y.natAbs:=by rw [bR];exact Zym _ _
theorem Zj8(x y:Int):bl (x-y).natAbs<=max (bl x.natAbs) (bl y.natAbs)+1:=by have:=Aa x (-y);rwa [iD,<-cS]at this
theorem Zyk(x:Int):bl (-x).natAbs=bl x.natAbs:=by rw [iD]
theorem Zj9(x y:Int):bl (x/y).natAbs<=bl x.natAbs+1:=by have h:(x/y).natAbs<=x.natAbs:=iT x y;have:=Lq h;omega
theorem Yca(x y:Int)(a:y≠0):bl (x%y).natAbs<=bl y.natAbs:=by have c:=lM x a;have d:=Int.emod_lt x a;exact Lq O1
theorem Zr8(x y:Nat):bl (Nat.gcd x y)<=max (bl x) (bl y):=by
 rcases bB x with h|h
 .subst h;rw [Nat.gcd_zero_left];omega
 .have:=Lq (kW h (Nat.gcd_dvd_left x y));omega
def Ynm(x:Int)(h:y≠0):sg false (x%y):=⟨λa=>Bool.noConfusion a,λ_=>lM x h⟩
def Nw(x y:Int):Int:=if y<0 then -(Int.gcd x y:Int)else(Int.gcd x y:Int)
theorem Zg1(x y:Int):(Nw x y).natAbs=Nat.gcd x.natAbs y.natAbs:=by unfold Nw;split<;>simp [Int.gcd]
theorem Zqm(h:y≠0):Nw x y≠0:=λe=>by have a:=Zg1 x y;rw [e]at a;have:=(Nat.gcd_eq_zero_iff.1 a.symm).2;omega
theorem Ynk(a:sg t y)(c:y≠0):sg t (Nw x y):=by
 unfold Nw sg at *;refine⟨λh=>?_,λh=>?_⟩
 .rw [aO (by have:=a.1 h;omega)];omega
 .rw [aF (by have:=a.2 h;omega)];omega
theorem Yan(x y:Int):Dq v (Nat.gcd x.natAbs y.natAbs)=Dq v (Nw x y).natAbs:=by rw [Zg1]
def Li(x y:Int):Prop:=65536<bl (x/Nw x y).natAbs\/65536<bl (y/Nw x y).natAbs
instance (x y:Int):Decidable (Li x y):=by unfold Li;infer_instance
def Fe(x y:Int):Int:=if Li x y then 0 else x/Nw x y
def Hd(x y:Int):Int:=if Li x y then 0 else y/Nw x y
def Ygu(x y:Int):Int:=if Li x y then 7 else 0
abbrev Zb5 (x y:Int):Value:= .tuple #[.agg #[.bool (decide (Fe x y<0)),.string (Xo (Fe x y).natAbs),.bool (decide (Hd x y<0)),.string (Xo (Hd x y).natAbs)],.int .i64 (Ygu x y)]
theorem Zb4(h:Li x y):Zb5 x y= .tuple #[.agg #[.bool false,.string ⟨#[]⟩,.bool false,.string ⟨#[]⟩],.int .i64 7]:=by unfold Zb5 Fe Hd Ygu;rw [aO h,aO h,aO h];rfl
theorem Zau(h:Zjd x≠0):65536<bl x.natAbs:=by
 unfold Zjd at h;split at h
 .assumption
 .exact absurd rfl h
theorem Zjv(h:Zjd x=0):bl x.natAbs<=65536:=by
 unfold Zjd at h;split at h
 .omega
 .omega
theorem Ztq(c:Zjd (x/Nw x y)=0)(d:Zjd (y/Nw x y)=0):Zb5 x y= .tuple #[.agg #[.bool (decide (Aw (x/Nw x y)<0)),.string (Xo (Aw (x/Nw x y)).natAbs),.bool (decide (Aw (y/Nw x y)<0)),.string (Xo (Aw (y/Nw x y)).natAbs)],.int .i64 0]:=by
 have a:¬Li x y:=λh=>by have:=Zjv c;have:=Zjv d;unfold Li at h;omega
 unfold Zb5 Fe Hd Ygu;rw [aF a,aF a,aF a,Nr (Zjv c),Nr (Zjv d)]
def okR(b:Bool)(s:ByteArray)(c:Bool)(t:ByteArray):Bool:=okW b s && okW c t && (!c && decide (0<t.size))
theorem Zpx(z:Int):(!decide (z<0) && decide (0<(Xo z.natAbs).size))=decide (0<z):=by rw [Bool.eq_iff_iff,aP,Eh,fI,fI];have:=Ny (by omega:2<=256) z.natAbs;simp only [fL,gK];omega
theorem sign_pos_iff(z:Int):decide (0<z.sign)=decide (0<z):=by
 rw [bW];rcases gW z 0 with h|h|h
 .rw [iE h];omega
 .subst h;simp
 .rw [lC h];omega
theorem Zt4{b:Bool}{s:ByteArray}{z:Int}(a:okW b s=true)(c:bl z.natAbs<=65536):okR b s (decide (z<0)) (Xo z.natAbs)=decide (0<z.sign):=by unfold okR;rw [a,Zc9 c,Zpx,sign_pos_iff];rfl
theorem okR_wv(c:bl x.natAbs<=65536)(d:bl y.natAbs<=65536)(a:0<y):okR (decide (x<0)) (Xo x.natAbs) (decide (y<0)) (Xo y.natAbs)=true:=by unfold okR;rw [Zc9 c,Zc9 d,Zpx];simp [a]
theorem Yhq{b c:Bool}{s t:ByteArray}(h:okR b s c t=true):∃x y:Int,bl x.natAbs<=65536/\bl y.natAbs<=65536/\0<y/\b=decide (x<0)/\s=Xo x.natAbs/\c=decide (y<0)/\t=Xo y.natAbs:=by unfold okR at h;rw [aP,aP]at h;obtain⟨⟨d,e⟩,a⟩:=h;obtain⟨x,g,rfl,rfl⟩:=Zp4 d;obtain⟨y,j,rfl,rfl⟩:=Zp4 e;rw [Zpx]at a;exact⟨x,y,g,j,bL a,rfl,rfl,rfl,rfl⟩
open Go.RowKit Below
def Sz(n:Nat)(p:List Int):Prop:=∀i,bl (cf p i).natAbs<=n
def Sz.getD{n:Nat}(h:Sz n p)(i:Nat):bl (p.getD i 0).natAbs<=n:=h i
def Sz.mono{n m:Nat}(h:Sz n p)(a:n<=m):Sz m p:=λi=>aB (h i) a
theorem Sz.tzl{n:Nat}(h:Sz n p):Sz n (tzl p):=λi=>by rw [Hm];exact h i
theorem Sz.nil(n:Nat):Sz n []:=λi=>by simp [cf,Fa]
theorem Sz.take{n:Nat}(h:Sz n p)(k:Nat):Sz n (p.take k):=λi=>by
 rw [Dh];split
 .exact h i
 grind [Fa]
theorem Sz.mem{n:Nat}(h:Sz n p)(a:x∈p):bl x.natAbs<=n:=by obtain⟨i,hi,rfl⟩:=dI.1 a;have:=h i;grind [Zi8]
theorem Sz.of_mem{n:Nat}(h:∀x∈p,bl x.natAbs<=n):Sz n p:=λi=>by grind [Nat.lt_or_ge,Zi8,List.getElem_mem,Yx,Fa]
structure Vp (p:List Int):Prop where
 sz:Sz 65536 p
 tr:Tr p
 len:p.length<=25
def wr(x:Int):Bool×ByteArray:=(decide (x<0),Xo x.natAbs)
def okP(r:List (Bool×ByteArray)):Bool:=r.all (λw=>okW w.1 w.2) && (decide (r.length<=25) && (decide (r.length=0) || decide ((r.getD (r.length-1) (false,⟨#[]⟩)).2.size≠0)))
theorem Zfz : (Xo x.natAbs).size=0↔x=0:=by grind [Eh,Ny]
theorem Zde(h:i<xs.length):(xs.map wr).getD i (false,⟨#[]⟩)=wr (cf xs i):=by grind [Zi8]
theorem okP_wr(h:Vp xs):okP (xs.map wr)=true:=by
 unfold okP;rw [aP,aP,lN];refine⟨bC.2 λw d=>?_,by simpa using h.len,?_⟩
 .obtain⟨x,e,rfl⟩:=dP.1 d;exact Zc9 (h.sz.mem e)
 .rcases h.tr with a|a
  .grind
  .right;have g:0<xs.length:=by grind [Nat.eq_zero_or_pos,Yx]
   rw [bM,Zde O1];refine aE λc=>a (Zfz.1 c)
theorem Zt3{r:List (Bool×ByteArray)}(h:∀w∈r,okW w.1 w.2=true):∃xs:List Int,(∀x∈xs,bl x.natAbs<=65536)/\r=xs.map wr:=by
 induction r with
 | nil=>simp
 | cons w r g=>
  obtain⟨xs,j,a⟩:=g λu e=>h u (bN _ e);obtain⟨x,l,c,d⟩:=Zp4 (h w (bX ..));refine⟨x::xs,λy m=>?_,?_⟩
  .grind
  .rw [cP,<-a,wr,<-c,<-d]
theorem okP_ex{r:List (Bool×ByteArray)}(h:okP r=true):∃xs:List Int,Vp xs/\r=xs.map wr:=by
 unfold okP at h;rw [aP,aP,lN]at h;obtain⟨c,j,a⟩:=h;obtain⟨xs,d,rfl⟩:=Zt3 (bC.1 c);refine⟨xs,⟨Sz.of_mem d,?_,O5⟩,rfl⟩;rcases a with a|a
 .left;grind
 .rcases bB xs.length with e|e
  .left;grind
  .right;rw [bM,Zde O1]at a;exact λg=>bL a (Zfz.2 g)
theorem Zwm{j:Nat}(h:j<k)(a:(xs.take k).getD j 0=0):cf xs j=0:=by rw [Zif _ _ _ h]at a;exact a
theorem Zsw (k:Nat){j:Nat}(h:j<k)(a:¬((xs.take k).getD j 0).sign=0):cf xs j≠0:=λe=>a (by rw [Zif _ _ _ h];rw [show xs.getD j 0=0 from e];rfl)
theorem Yoi{r:List (Bool×ByteArray)}{w:Bool×ByteArray}(a:w∈r)(h:okW w.1 w.2=false):okP r=false:=by unfold okP;grind
theorem Zp5(h:∀x∈xs,bl x.natAbs<=65536):okP (xs.map wr)=(decide (xs.length<=25) && (decide (xs.length=0) || decide (¬(xs.getD (xs.length-1) 0).sign=0))):=by
 unfold okP;rw [show(xs.map wr).all _=true from bC.2 λw c=>by obtain⟨x,d,rfl⟩:=dP.1 c;exact Zc9 (h x d)]
 rw [bM,eV];congr 1;by_cases a:xs.length=0
 .grind
 .rw [aG a,Bool.false_or,Bool.false_or,Zde O1];rw [bW,fV];exact not_congr Zfz
def err(e x:Int):Int:=if e=0 then Zjd x else e
theorem Zxv(h:bl x.natAbs<=65536):err 0 x=0:=by unfold err;rw [aO rfl,Zqz h]
def Pd:List Int->Nat
 | []=>0
 | x::r=>max (bl x.natAbs) (Pd r)
theorem Kz(p:List Int):Sz (Pd p) p:=by
 refine Sz.of_mem λx a=>?_
 induction p with
 | nil=>grind
 | cons y r c=>
  rcases aW.1 a with rfl|h
  .simp only [Pd];omega
  .have:=c h;simp only [Pd];omega
theorem Og{n:Nat}(h:Sz n p):Pd p<=n:=by
 have c:∀x∈p,bl _<=n:=λx a=>h.mem a;clear h
 induction p with
 | nil=>exact bI _
 | cons y r d=>
  have:=c y (bX ..);have:=d λx a=>c x (bN _ a);simp only [Pd];omega
theorem Yh4(p:List Int)(x:Int):Pd (p ++ [x])=max (Pd p) (bl x.natAbs):=by
 induction p with
 | nil=>simp [Pd]
 | cons y r a=>simp only [iL,Pd,a];simp
variable {P:Program} {N:Nat} {sc:Nat->Prop} {env env':Qm} {H H':Hp} {Q Q':Exit->Act->World->Prop} {M:Nat->Prop}
def fpm{α β:Type}{f:α->β}{xs:List α}{p:Prop}(h:xs.map f≠[]/\p):xs≠[]/\p:=⟨λe=>h.1 O5,h.2⟩
def fpn{α β:Type}{f:α->β}{xs:List α}{p:Prop}(h:xs≠[]/\p):xs.map f≠[]/\p:=⟨λe=>h.1 (List.map_eq_nil_iff.1 e),h.2⟩
theorem slp_wr(v:Value)(xs:List Int)(w:World)(h:(Yt 2 wv v xs).holds w):(Yt 2 (λw:Bool×ByteArray=>Value.agg #[.bool w.1,.string w.2]) v (xs.map wr)).holds w:=by
 obtain⟨⟨a,c,q,z,l,d⟩,n⟩:=h;refine⟨⟨a,c,O5,O5,l,?_⟩,λb h=>n b (fpm h)⟩;rcases d with d|⟨g,e,d,m⟩
 .grind
 .right;refine⟨g,e,d,λi x hi j u o=>?_⟩;rw [fD]at hi;cases hx:xs[i]? with
  | none=>grind
  | some y=>rw [hx]at hi;cases hi;exact m i y hx j u o
theorem Ynh(v:Value)(xs:List Int)(w:World)(h:(Yt 2 (λw:Bool×ByteArray=>Value.agg #[.bool w.1,.string w.2]) v (xs.map wr)).holds w):(Yt 2 wv v xs).holds w:=by
 obtain⟨⟨a,c,l,m,n,d⟩,q⟩:=h;rw [bM]at l m;refine⟨⟨a,c,l,m,n,?_⟩,λb h=>q b (fpn h)⟩;rcases d with d|⟨g,e,d,o⟩
 .simp_all
 .right;refine⟨g,e,d,λi x hi j u z=>?_⟩;exact o i (wr x) O5 j u z
theorem Cal.imp{p q:Pc}{al:Bool}{G:Type}{φ:G->Prop}{val:G->Value}{a:G->List Pc}(h:Cal P f args (p::pre) al φ val a)(d:∀w,q.holds w->p.holds w)(c:∀b,p.fp b->q.fp b) :
  Cal P f args (q::pre) al φ val a:=λw e=>by
 refine(h w λr g=>?_).mono ?_
 all_goals grind
end Go.Sky
namespace Go.Sky
variable{k:Nat}{f:Nat->Int}{xs:List Int}
def fill(n k:Nat)(f:Nat->Int):List Int:=mk n λi=>if i<k then f i else 0
theorem Ph(n k:Nat)(f:Nat->Int):(fill n k f).length=n:=Yz _ _
theorem Zdh{n:Nat}(h:k<n):(fill n k f).set k (f k)=fill n (k+1) f:=Ia (by simp [Ph]) λi hi=>by rw [Zm1 _ _ _ _ (by grind [Ph])];unfold fill;rw [Ih,Ih];grind
theorem Ae(n:Nat)(f:Nat->Int):List.replicate n 0=fill n 0 f:=Ia (by simp [Ph]) λi hi=>by unfold fill;simp_all [Ih,aO,aF,Zi8]
def Dd(n:Nat)(f:Nat->Int):fill n n f=mk n f:=Aq λi hi=>O1
theorem Yh5(xs:List Int)(g:Int->Int):mk xs.length (λi=>g (cf xs i))=xs.map g:=Ia (by simp [Yz]) λi hi=>by rw [Yz]at hi;simp_all [Ih,aO,Zi8]
theorem Zgy{n m:Nat}(h:∀i,i<n->bl (f i).natAbs<=m):Sz m (mk n f):=λi=>by grind [Ih,Fa]
theorem Mp{p:List Int}(h:Tr p):Tr (Xg p):=by
 unfold Xg;rcases bA 1 p.length with a|a
 .right;rw [Yz,Ih];have b:=h.mem O5;grind [Int.mul_eq_zero]
 .left;simp_all [aK,Yz]
theorem Yc7(xs:List Int)(c:Int):tzl (fill xs.length xs.length λi=>cf xs i*c)=Yo xs c:=by rw [Dd,Yh5 xs (· * c)];rfl
theorem Yn9(h:Tr xs):tzl (fill (xs.length-1) (xs.length-1) λi=>cf xs (i+1)*((i:Int)+1))=Xg xs:=by rw [Dd];exact Za2 (Mp h)
theorem Yhd{p:List Int}(h:p.length=0):Xg p=[]:=aK (by unfold Xg;grind [Yz])
theorem Zlj(p:List Int)(x:Int):Xq (p ++ [x])=(Int.gcd (Xq p) x:Int):=by unfold Xq;simp
theorem Ma(p:List Int):0<=Xq p:=by
 rcases Zjk p with rfl|⟨a,y,rfl⟩
 .decide
 grind [Zlj]
theorem Hf{p:List Int}(h:k<p.length):Xq (p.take (k+1))=(Int.gcd (Xq (p.take k)) (p.getD k 0):Int):=by grind [Pu,Zlj]
theorem Ztz{n:Nat} : ∀(p:List Int),Sz n p->bl (Xq p).natAbs<=n:=λp=>by
 have a:∀k,k<=p.length->Sz n p->bl (Xq (p.take k)).natAbs<=n:=by
  intro k
  induction k with
  | zero=>intro _ _;exact bI _
  | succ k d=>
   intro c hs;rw [Hf c];have e:=d O1 hs;have b:=hs k;have:=Zr8 (Xq (p.take k)).natAbs (p.getD k 0).natAbs;have g:bl (p.getD k 0).natAbs<=n:=b;show bl (Nat.gcd _ _)<=n;omega
 intro hs;have:=a _ (aI _) hs;grind
theorem Kx(p:List Int):∀i,Xq p∣cf p i:=by
 have b:∀k,k<=p.length->∀i,i<k->Xq (p.take k)∣cf p i:=by
  intro k
  induction k with
  | zero=>omega
  | succ k c=>
   intro a i hi;rw [Hf a];rcases bA i k with h|h
   .grind [Int.dvd_trans,Int.gcd_dvd_left]
   .have:i=k:=O1;subst this;exact gD ..
 intro i;rcases bA i p.length with h|h
 .grind
 grind [Yx,Int.dvd_zero]
theorem Zc8(p:List Int):Xq p=0↔∀i,cf p i=0:=by
 refine⟨λh i=>by have:=Kx p i;simp_all,λh=>?_⟩;have a:∀k,k<=p.length->Xq (p.take k)=0:=by
  intro k
  induction k with
  | zero=>intro _;rfl
  | succ k c=>
   intro b;rw [Hf b,c O1];have:=h k;rw [show p.getD k 0=0 from this];rfl
 have:=a _ (aI _);grind
theorem Ce{p:List Int}{d:Int}(h:∀i,d∣cf p i):d∣Xq p:=by
 have a:∀k,k<=p.length->d∣Xq (p.take k):=by
  intro k
  induction k with
  | zero=>intro _;exact kC _
  | succ k c=>
   intro b;rw [Hf b];exact Int.dvd_coe_gcd (c O1) (h k)
 have:=a _ (aI _);grind
theorem Zdq(p:List Int)(i:Nat):cf (Yw p) i=cf p i/Xq p:=by unfold Yw;simp [Zfy]
theorem Yp(p:List Int):(Yw p).length=p.length:=by simp [Yw]
theorem Zcg{x y:Int}{n:Nat}(h:y∣x)(b:bl x.natAbs<=n):bl (x/y).natAbs<=n:=by have a:=iT x y;exact aB (Lq a) b
theorem Xj{p:List Int}(h:Tr p):Tr (Yw p):=by
 rcases h with rfl|h
 .left;rfl
 .right;rw [Zdq,Yp];have a:=Kx p (p.length-1);have:=mC a;grind
theorem Cq{n:Nat}{p:List Int}(h:Sz n p):Sz n (Yw p):=λi=>by rw [Zdq];exact Zcg (Kx p i) (h i)
theorem Hb{p:List Int}(h:Vp p):Vp (Yw p):=⟨Cq h.sz,Xj h.tr,by rw [Yp];exact h.len⟩
def Vp.ne{p:List Int}(h:Vp p)(a:p≠[]):Xq p≠0:=λe=>h.tr.mem a ((Zc8 p).1 e _)
def Ht(p:List Int)(n d:Int)(i:Nat):Int:=Ye (λm=>cf p (i+m)*(n^m*d^(p.length-1-(i+m)))) (p.length-i)
theorem Zur(p:List Int)(n d:Int):Ht p n d 0=pev p n d:=by unfold Ht pev;simp
theorem Ypb{p:List Int}(n d:Int)(h:0<p.length):Ht p n d (p.length-1)=cf p (p.length-1):=by unfold Ht;rw [show p.length-(p.length-1)=0+1 by omega,Yi,Kf];simp
theorem Yiv{p:List Int}(n d:Int){i:Nat}(h:i<p.length):Ht p n d i=Ht p n d (i+1)*n+cf p i*d^(p.length-1-i):=by unfold Ht;rw [show p.length-i=p.length-(i+1)+1 by omega,Lh];rw [<-Zkq];grind
theorem Ylg{K:Nat}{f:Nat->Int} : ∀{n:Nat},(∀i,i<n->bl (f i).natAbs<=K)->(Ye f n).natAbs<=n*(2^K-1)
 | 0,_=>by simp [Ye]
 | n+1,h=>by have a:=Ylg (n:=n) λi hi=>h i O1;grind [Qs,Yi,Nat.add_mul,Int.natAbs_add_le]
theorem Zj7{K:Nat}{n:Nat}(h:∀i,i<n->bl (f i).natAbs<=K)(a:n<=31):bl (Ye f n).natAbs<=K+5:=by rw [Qs];have b:=Ylg h;have c:n*(2^K-1)<=31*(2^K-1):=aQ _ a;grind
theorem Bz(x:Int){m:Nat}(h:bl x.natAbs<=m):∀k,0<k->bl (x^k).natAbs<=k*m
 | 0,a=>O1
 | 1,_=>O5
 | k+2,_=>by have b:=Bz x h (k+1) O8;grind [Int.pow_succ,Nat.add_mul,Xz]
theorem Zj6 (i:Nat)(j:Nat){a n d:Int}{A m:Nat}(l:bl a.natAbs<=A)(h:bl n.natAbs<=m)(g:bl d.natAbs<=m):bl (a*(n^i*d^j)).natAbs<=A+(i+j)*m:=by
 rcases bB i with rfl|hi
 .rcases bB j with rfl|b
  .grind
  .have c:=Bz d g j b;have e:=Xz a (n^0*d^j);grind
 .rcases bB j with rfl|b
  .have c:=Bz n h i hi;have e:=Xz a (n^i*d^0);grind
  .have c:=Bz n h i hi;have e:=Bz d g j b;grind [Xz,Nat.add_mul]
theorem Yli{p:List Int}{n d:Int}{A m:Nat}(c:Sz A p)(b:bl n.natAbs<=m)(a:bl d.natAbs<=m)(h:p.length<=31)(i:Nat):bl (Ht p n d i).natAbs<=A+(p.length-1-i)*m+5:=by refine Zj7 (λk g=>?_) O1;have e:=Zj6 k (p.length-1-(i+k)) (c (i+k)) b a;grind
def Kl(p:List Int)(n d:Int):Prop:=p≠[]/\65536<Pd p+(p.length-1)*Pd [n,d]+8
instance (p:List Int) (n d:Int):Decidable (Kl p n d):=by unfold Kl;infer_instance
def evv(p:List Int)(n d:Int):Int:=if Kl p n d then 0 else pev p n d
def eve(p:List Int)(n d:Int):Int:=if Kl p n d then 7 else 0
abbrev wc (x:Int):Array Value:=#[.bool (decide (x<0)),.string (Xo x.natAbs)]
section
variable {p:List Int} {n d:Int} (hF:Pd p+(p.length-1)*Pd [n,d]+8<=65536) (hl:p.length<=25)
include hF
theorem Zi2:bl n.natAbs<=Pd [n,d]/\bl d.natAbs<=Pd [n,d]:=by simp only [Pd];omega
theorem Zra : bl (d^(p.length-1-k)).natAbs<=65536:=by
 rcases bB (p.length-1-k)with h|h
 .rw [h,eT];decide
 .have a:=Bz d (Zi2 hF).2 _ h;have b:(p.length-1-k)*Pd _<=(p.length-1)*Pd [n,d]:=aQ _ O8;omega
theorem Zq9 : bl (cf p k*d^(p.length-1-k)).natAbs<=65536:=by have a:=Zj6 0 (p.length-1-k) (Kz p k) (Zi2 hF).1 (Zi2 hF).2;have b:(0+(p.length-1-k))*Pd _<=(p.length-1)*Pd [n,d]:=aQ _ O8;grind
include hl
theorem Zrb(k:Nat):bl (Ht p n d k).natAbs<=65536:=by have a:=Yli (Kz p) (Zi2 hF).1 (Zi2 hF).2 O1 k;have b:(p.length-1-k)*Pd _<=(p.length-1)*Pd [n,d]:=aQ _ O8;omega
theorem Zxu(a:1<=k)(b:k<=p.length-1):bl (Ht p n d k*n).natAbs<=65536:=by
 have c:=Yli (Kz p) (Zi2 hF).1 (Zi2 hF).2 O1 k;have e:=Xz (Ht p n d k) n;have g:=(Zi2 hF).1;have h:(p.length-1-k)*Pd [n,d]+Pd [n,d]<=(p.length-1)*Pd [n,d]:=by rw [<-fC];exact aQ _ O1
 omega
end
theorem evv_bl{p:List Int}{n d:Int}(hl:p.length<=25):bl (evv p n d).natAbs<=65536:=by
 unfold evv;split
 .decide
 .rename_i h;rcases bB p.length with c|c
  .rw [aK c,show pev [] n d=0 from rfl];decide
  .rw [<-Zur];have b:p≠[]:=λe=>O5;exact Zrb (Nat.le_of_not_lt λa=>h ⟨b,a⟩) hl 0
theorem Yg4(d:Int){L:Nat}(a:1<=k)(b:k<=L):d^(L-k)*d=d^(L-(k-1)):=by rw [show L-(k-1)=L-k+1 by omega,eJ]
theorem Ydx{p:List Int}(n d:Int)(a:1<=k)(b:k<=p.length-1):Ht p n d k*n+cf p (k-1)*d^(p.length-1-(k-1))=Ht p n d (k-1):=by grind [Yiv]
end Go.Sky

