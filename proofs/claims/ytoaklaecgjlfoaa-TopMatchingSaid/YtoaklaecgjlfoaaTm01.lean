/- Rules, arithmetic and contracts: part 2. No conditions but those that each theorem names. -/
import Derived.Test.YtoaklaecgjlfoaaTm00
import Derived.Laws.Externs
import Derived.Lib.SliceRun
import Derived.Great.BuildSlice
import Derived.Laws.Small
import Derived.Laws.StructEq
set_option linter.all false
namespace Go.Sky
open Go.RowKit Below
variable{op:Op}{b b':Bool}{cs:Array Value}{c:Code}{ch:Hp}{p:Pc}{k k' kd:IntKind}{ats:Array TypeId}
variable {P:Program} {N:Nat} {sc:Nat->Prop} {env env':Yd} {H H':Hp} {Q Q':Exit->Act->World->Prop} {M:Nat->Prop}
section
variable {ops:Array Oper} {rest:List Oper} {d:Nat} {ty:TypeId} {pos:String} {af:Array Edge} {v:Value} {x:Operand}
theorem dt(e:Pv P N sc ⟨some d,op,ty,pos,af,none⟩ env H v)(h:L P N sc ops rest Q ((d,v)::env) H)(a:Nat.blt d N=true:=by rfl) :
  L P N sc ops (⟨some d,op,ty,pos,af,none⟩::rest) Q env H:=l_det rfl rfl a e h
theorem tt {o:Oper} {G:Type} {φ:G->Prop} {a:G->Yd} {e:G->Hp} (i:T P N sc (λ_=>True) o env H φ a e) 
  (h:∀g,φ g->L P N sc ops rest Q (a g) (e g)) (f:o.guard=none:=by rfl):L P N sc ops (o::rest) Q env H:=l_step f i h
theorem gdt  {j e:Nat}  (l:Pv P N sc ⟨some d,op,ty,pos,af,some (j,b)⟩ env H v) (i:(ops[j]?).bind (·.dst)=some e) (g:lk env e=some (.bool b))  
  (h:L P N sc ops rest Q ((d,v)::env) H) (a:Nat.blt e N=true:=by rfl) (f:Nat.blt d N=true:=by rfl):L P N sc ops (⟨some d,op,ty,pos,af,some (j,b)⟩::rest) Q env H:=l_gdet rfl i g a rfl f l h
def gsk  {j e:Nat}  (l:(ops[j]?).bind (·.dst)=some e) (i:lk env e=some (.bool b')) (a:(b' == b)=false) (f:Nat.blt e N=true) (g:Nat.blt d N=true)
  (h:L P N sc ops rest Q ((d,undef)::env) H):L P N sc ops (⟨some d,op,ty,pos,af,some (j,b)⟩::rest) Q env H:=Zmm rfl l i f a rfl g h
def gtt {o:Oper} {G:Type} {φ:G->Prop} {a:G->Yd} {i:G->Hp} {j e:Nat}  (q:T P N sc (λ_=>True) o env H φ a i) (m:o.guard=some (j,b)) (n:(ops[j]?).bind (·.dst)=some e) (l:lk env e=some (.bool b)) (f:Nat.blt e N=true)
  (h:∀g,φ g->L P N sc ops rest Q (a g) (i g)):L P N sc ops (o::rest) Q env H:=Zml m n l f q h
end
section
variable {ops:Array Oper} {F:Yd->Hp->Prop} {rest:List (Nat×Nat)} {i:Nat} {o:Oper}
def Stb(P:Program)(N:Nat)(sc:Nat->Prop)(M:Nat->Prop)(o:Oper)(env:Yd)(H:Hp)(v:Value):Prop:=
 ∀a w,Sat N sc env H a w->∀e,Chg M w e->(execOp a.eval o).run P e= .ok (.value v) e
def Hy{v:Value}(f:Pv P N sc o env H v):Stb P N sc (λ_=>False) o env H v:=λa w hs g e=>f a g (hs.chg0 e)
theorem st1{v:Value}(k:Nat){b:Nat}{t:TypeId}(y:lk H k=some (box b t cs))(D:Pv P N sc o env (drp k H) v):Stb P N sc (λx=>x=b) o env H v:=λa w hs n l=>by
 refine D a n ?_;have f:Sat N sc env (drp k H) a w:=⟨hs.size,hs.defers,hs.env,λi g hi=>hs.hold i g (Ny _ _ _ _ hi).2,
  λi j g G h hi u=>hs.sep i j g G h (Ny _ _ _ _ hi).2 (Ny _ _ _ _ u).2,λi g r hi=>hs.scope i g r (Ny _ _ _ _ hi).2⟩
 refine⟨f.size,f.defers,f.env,λi g hi=>?_,f.sep,f.scope⟩;obtain⟨h,m⟩:=Ny _ _ _ _ hi;refine g.stable w n (f.hold i g hi) ⟨l.os,l.tape,l.output,l.size,λq B z=>l.block q B (λe=>z (λs=>?_))⟩;subst e;exact hs.sep k i _ g (gQ h) y m rfl q rfl s
theorem r0{d:Nat}{v:Value}(hs:Stb P N sc M o env H v)(l:ops[i]? = some o)(j:o.guard=none)(g:o.dst=some d)(f:Nat.blt d N=true)(h:LD P N sc M ops F rest ((d,v)::env) H) :
  LD P N sc M ops F ((i,0)::rest) env H:=⟨o,d,v,l,g,f,λa w e=>⟨by simp [Region.wanted,j],hs a w e⟩,h⟩
theorem r0g {d j e:Nat}  {v:Value} (hs:Stb P N sc M o env H v) (s:ops[i]? = some o) (q:o.guard=some (j,b)) (r:(ops[j]?).bind (·.dst)=some e) (n:lk env e=some (.bool b)) (g:Nat.blt e N=true) (m:o.dst=some d) (l:Nat.blt d N=true)
  (h:LD P N sc M ops F rest ((d,v)::env) H) :
  LD P N sc M ops F ((i,0)::rest) env H:=⟨o,d,v,s,m,l,λa w f=>⟨by simp [Region.wanted,q,f.yielded r n g],hs a w f⟩,h⟩
theorem r1{G:Type}{φ:G->Prop}{e:G->Yd}{f:G->Hp}(m:T P N sc M o env H φ e f)(l:ops[i]? = some o)(j:o.guard=none)(h:∀g,φ g->LD P N sc M ops F rest (e g) (f g)) :
  LD P N sc M ops F ((i,1)::rest) env H:=⟨o,G,φ,e,f,l,λa w _=>by simp [Region.wanted,j],m,h⟩
theorem r3{G:Type}{φ:G->Prop}{e:G->Yd}{f:G->Hp}(m:T P N sc (λ_=>True) o env H φ e f)(l:ops[i]? = some o)(j:o.guard=none)(h:∀g,φ g->LD P N sc M ops F rest (e g) (f g)) :
  LD P N sc M ops F ((i,3)::rest) env H:=⟨o,G,φ,e,f,l,λa w _=>by simp [Region.wanted,j],m,h⟩
theorem r2 {d j e:Nat}  (t:ops[i]? = some o) (r:o.guard=some (j,b)) (s:(ops[j]?).bind (·.dst)=some e) (q:lk env e=some (.bool b')) (g:(b' == b)=false) (l:Nat.blt e N=true) (n:o.dst=some d) (m:Nat.blt d N=true)
  (h:LD P N sc M ops F rest ((d,undef)::env) H) :
  LD P N sc M ops F ((i,2)::rest) env H:=⟨o,d,t,n,m,λa w f=>by simp [Region.wanted,r,f.yielded s q l];simpa using g,h⟩
def r_fin(h:F env H):LD P N sc M ops F [] env H:=h
theorem t_det{o:Oper}{d:Nat}{v:Value}(h:Pv P N sc o env H v)(g:o.dst=some d)(f:Nat.blt d N=true):T P N sc M o env H (G:=Unit) (λ_=>True) (λ_=>(d,v)::env) (λ_=>H):=λa w hs K Q e=>by unfold Oper.wp;rw [h a w hs];show K (a.put o.dst v) w;rw [g];exact e () _ _ aB (hs.put d v f) (Chg.refl _ _)
end
def Zn5{G:Type}(N:Nat)(sc:Nat->Prop)(cs:Yd)(ch:Hp)(j:G->Yd)(h:G->Hp)(f:G->Prop)(μ:G->Nat)(g:G):Act->World->Prop:=
 λa w=>∃e,f e/\μ e<μ g/\Sat N sc (j e ++ cs) (h e ++ ch) a w
def e_lp  {G:Type} (cs:Yd) (ch:Hp) (j:G->Yd) (h:G->Hp) (a:G->Prop) (μ:G->Nat) (f:G) (m:a f) (hs:Sub (j f ++ cs) env) (l:HSub (h f ++ ch) H)
  (e:∀g,a g->E P N sc c (Exit.then (Zn5 N sc cs ch j h a μ g) Q) (j g ++ cs) (h g ++ ch)) :
  E P N sc (.loop c) Q env H:=e_loop (λg=>j g ++ cs) (λg=>h g ++ ch) a μ f m hs l e
def x_rnd{G:Type}{cs:Yd}{l:G->Yd}{j:G->Hp}{h:G->Prop}{μ:G->Nat}{g:G}(e:G)(m:h e)(n:μ e<μ g)(hs:Sub (l e ++ cs) env)(q:HSub (j e ++ ch) H) :
  X N sc .normal (Exit.then (Zn5 N sc cs ch l j h μ g) Q) env H:=λa w f=>⟨e,m,n,f.weaken hs q⟩
def JnK{G:Type}(N:Nat)(sc:Nat->Prop)(cs:Yd)(ch:Hp)(h:G->Yd)(f:G->Hp)(e:G->Prop):Act->World->Prop:=
 λa w=>∃g,e g/\Sat N sc (h g ++ cs) (f g ++ ch) a w
theorem e_jn {x y:Code} {G:Type} (cs:Yd) (ch:Hp) (m:G->Yd) (l:G->Hp) (h:G->Prop) (q:Sub cs env) (n:HSub ch H)
  (s:E P N sc x (Exit.then (JnK N sc cs ch m l h) Q) env H)
  (t:∀g,h g->E P N sc y Q (m g ++ cs) (l g ++ ch)):E P N sc (.seq x y) Q env H:=λa w hs=>by
 refine wp_seq (Code.wp_mono (λe a w j=>?_) (s a w hs));cases e with
 | normal=>obtain⟨g,r,f⟩:=j;exact t g r a w f
 | _=>exact j
def x_jn{G:Type}{cs:Yd}{j:G->Yd}{h:G->Hp}{f:G->Prop}(g:G)(l:f g)(hs:Sub (j g ++ cs) env)(m:HSub (h g ++ ch) H) :
  X N sc .normal (Exit.then (JnK N sc cs ch j h f) Q) env H:=λa w e=>⟨g,l,e.weaken hs m⟩
def Yg(hi:∀a w,Sat N sc env H a w->Sat N sc env' H' a w)(h:E P N sc c Q env' H'):E P N sc c Q env H:=λa w hs=>h a w (hi a w hs)
def Xr{e:Exit}(hi:∀a w,Sat N sc env H a w->Sat N sc env' H' a w)(h:X N sc e Q env' H'):X N sc e Q env H:=λa w hs=>h a w (hi a w hs)
def Qf{ops:Array Oper}{rest:List Oper}(hi:∀a w,Sat N sc env H a w->Sat N sc env' H' a w)(h:L P N sc ops rest Q env' H'):L P N sc ops rest Q env H:=λa w hs=>h a w (hi a w hs)
def Yy{p:Prop}(e:∀a w,Sat N sc env H a w->p)(h:p->E P N sc c Q env H):E P N sc c Q env H:=λa w hs=>h (e a w hs) a w hs
theorem s_conv(i:Nat){q:Pc}(hi:lk H i=some p)(y:q.own=p.own)(t:∀w,p.holds w->q.holds w)(n:∀b,q.fp b->p.fp b)(B:Nat.beq i 0=false):∀a w,Sat N sc env H a w->Sat N sc env ((i,q)::H) a w:=λa w hs=>by
  have R:i≠0:=λe=>by subst e;simp at B
  refine⟨hs.size,hs.defers,hs.env,λj s f=>?_,λj I s z h f g G b r m=>?_,λj s D f b r=>?_⟩
  .by_cases l:i=j
   .subst l;rw [Zp]at f;cases f;exact t w (hs.hold i p hi)
   .rw [Zg l]at f;exact hs.hold j s f
  .by_cases l:i=j
   .subst l;rw [Zp]at f;cases f;rw [Zg h]at g;exact hs.sep i I p z h hi g (by rw [<-y];exact G) b (n b r) m
   .rw [Zg l]at f;by_cases u:i=I
    .subst u;rw [Zp]at g;cases g;exact hs.sep j i s p h f hi G b r (n b m)
    .rw [Zg u]at g;exact hs.sep j I s z h f g G b r m
  .by_cases l:i=j
   .subst l;rw [Zp]at f;cases f;exact hs.scope i p R hi b (n b r)
   .rw [Zg l]at f;exact hs.scope j s D f b r
theorem Nm{α:Type}{t:TypeId}{k:Nat}{e:TypeId}{enc:α->Value}{v:Value}{xs:List α}(i:Nat)(hi:lk H i=some (Yu k e enc v xs))(s:Nat.beq i 0=false)(I:Enc P t k enc):∀a w,Sat N sc env H a w->Sat N sc env ((i,Ou k enc v xs)::H) a w:=λa w hs=>by
  have G:i≠0:=λe=>by subst e;simp at s
  refine⟨hs.size,hs.defers,hs.env,λj m f=>?_,λj D m z r f g y b l n=>?_,λj m u f b l=>?_⟩
  .by_cases h:i=j
   .subst h;rw [Zp]at f;cases f;have B:=hs.hold i _ hi;exact⟨Kv I.cells B,λb l=>(B.lt b l.2).2⟩
   .rw [Zg h]at f;exact hs.hold j m f
  .by_cases h:i=j
   .subst h;rw [Zp]at f;cases f;cases y
   .rw [Zg h]at f;by_cases q:i=D
    .subst q;rw [Zp]at g;cases g;exact hs.sep j i m _ r f hi y b l n.2
    .rw [Zg q]at g;exact hs.sep j D m z r f g y b l n
  .by_cases h:i=j
   .subst h;rw [Zp]at f;cases f;exact hs.scope i _ G hi b l.2
   .rw [Zg h]at f;exact hs.scope j m u f b l
abbrev U:Nat:=18446744073709551616
theorem Za1(n:Nat):IntKind.u64.wrap (n:Int)=((n%U:Nat):Int):=by rw [wrap_u];simp [U]
theorem Ay{n:Nat}(h:n<U):IntKind.u64.wrap (n:Int)=(n:Int):=by rw [Za1,eX h]
section
variable {o:Oper} {t t':TypeId} {x y:Operand} {m n:Nat}
theorem Ze5(a:o.op= .binOp .add t x y t')(e:ev env x=some (.int .u64 (m:Int)))(f:ev env y=some (.int .u64 (n:Int))):Pv P N sc o env H (.int .u64 (((m+n)%U:Nat):Int)):=Il a e f λw=>by rw [<-Za1];simp [binOp,Op.intArith]
theorem Zcg(a:o.op= .binOp .mul t x y t')(e:ev env x=some (.int .u64 (m:Int)))(f:ev env y=some (.int .u64 (n:Int))):Pv P N sc o env H (.int .u64 (((m*n)%U:Nat):Int)):=Il a e f λw=>by rw [<-Za1];simp [binOp,Op.intArith]
theorem Zao(m:Nat):BitVec.ofInt 64 (m:Int)=BitVec.ofNat 64 m:=by apply BitVec.eq_of_toNat_eq;simp
theorem Zhv(h:o.op= .binOp .and t x y t')(j:ev env x=some (.int .u64 (m:Int)))(l:ev env y=some (.int .u64 (n:Int)))(a:m<U)(g:n<U:=by decide):Pv P N sc o env H (.int .u64 ((m &&& n:Nat):Int)):=Il h j l λw=>by
 have e:m &&& n<U:=fE Nat.and_le_left a;have f:(BitVec.ofInt 64 (m:Int) &&& BitVec.ofInt 64 (n:Int)).toNat=m &&& n:=by rw [Zao,Zao,BitVec.toNat_and,kN,kN,eX a,eX g]
 simp only [binOp,ne_eq,iL,lK,Op.intBits,Sem.run_pure];rw [show(BitVec.ofInt IntKind.u64.bits (m:Int) &&& BitVec.ofInt IntKind.u64.bits (n:Int)).toNat=m &&& n from f,Ay e]
theorem u_shr{f:Int}(l:o.op= .binOp .shr t x y t')(q:ev env x=some (.int .u64 (m:Int)))(r:ev env y=some (.int k f))(e:f=(n:Int))(s:n<=64):Pv P N sc o env H (.int .u64 ((m/2^n:Nat):Int)):=λa w hs=>by
 subst e;have g:min n 64=n:=O;have h:(m:Int).fdiv (2^n)=((m/2^n:Nat):Int):=by rw [Int.fdiv_eq_ediv_of_nonneg _ (by exact Int.pow_nonneg O)];simp
 have j:¬((n:Int)<0):=O;simp [execOp,l,hs.ev q,hs.ev r,eqGuard,binOp,Op.shift,IntKind.bits,g,h,j]
theorem Ei (a:Nat)(f:o.op= .binOp .shr t x y t')(h:ev env x=some (.int .u64 (m:Int)))(j:ev env y=some (.int k (n:Int)))(e:Nat.ble n 64=true)(g:2^n=a):Pv P N sc o env H (.int .u64 ((m/a:Nat):Int)):=by rw [<-g];exact u_shr f h j rfl (by simpa using e)
theorem Zhu{r:Int}{m:Int}(g:o.op= .convert t t' x)(l:ev env x=some (.int k m)){f:TypeDesc}(e:P.underlying t=some f)(j:P.underlying t'=some (.int k'))(h:k'.wrap m=r):Pv P N sc o env H (.int k' r):=λa w hs=>by subst h;cases f<;>simp [execOp,g,hs.ev l,convert,run_underlying e,run_underlying j,Conv.intToInt]
end
theorem d_max {o:Oper} {x y:Operand}   {m n:Int} (e:o.op= .call { callee:= .builtin .max,args:=#[x,y],argTypes:=ats })
  (f:ev env x=some (.int k m)) (g:ev env y=some (.int k n)):Pv P N sc o env H (.int k (max m n)):=λa w hs=>by
 simp [execOp,e,resolve,hs.ev f,hs.ev g,invoke,builtin,Builtin.max_,Builtin.max2];by_cases h:n>m
 .rw [aK h];omega
 .rw [aG h];omega
def Bd(v:Value)(n:Nat):Value:=match v with
 | .slice a _ c=> .slice a n c
 | u=>u
theorem Au(v:Value)(n:Nat):(Bd v n).ownBlock=v.ownBlock:=by
 cases v with
 | slice a l c=>cases a<;>rfl
 | _=>rfl
theorem d_pre {α:Type} {o:Oper} {x y:Operand} {t e:TypeId} {v:Value} {ii k i:Nat}  {m:Int}  {enc:α->Value} {xs:List α} (l:o.op= .slice t x none (some y) none)
  (s:ev env x=some v) (u:ev env y=some (.int kd m)) (G:lk H ii=some p) (I:Rd p k enc v xs) (r:P.underlying t=some (.slice e)) (g:∀w,(sizeOf e).run P w= .ok k w)
  (h:m=(i:Int)) (j:i<=xs.length):Pv P N sc o env H (Bd v i):=λa w hs=>by
 obtain⟨z,c,rfl,D,R,S⟩:=I w (hs.hold ii p G);subst h;have f:i<=c:=aM j D;have B:∀q:Addr,q.add 0=q:=λq=>by simp [Addr.add]
 cases z with
 | none=>simp [execOp,l,hs.ev s,hs.ev u,Instr.sliceAt,Instr.slice,Instr.sliceBounds,Instr.sliceBound,asIntOf,run_underlying r,g,f,Bd]
 | some q=>simp [execOp,l,hs.ev s,hs.ev u,Instr.sliceAt,Instr.slice,Instr.sliceBounds,Instr.sliceBound,asIntOf,run_underlying r,g,f,Bd,B]
theorem Es{α:Type}{w:World}{k:Nat}{enc:α->Value}{v:Value}{xs:List α}(n:Nat)(r:n<=xs.length)(h:RowAt w k enc v xs):RowAt w k enc (Bd v n) (xs.take n):=by
 obtain⟨a,c,rfl,q,l,e⟩:=h;have j:(xs.take n).length=n:=by rw [aI];omega
 refine⟨a,c,by rw [j];rfl,by rw [j];omega,l,?_⟩;rcases e with rfl|⟨g,f,rfl,e⟩
 .exact .inl O6
 .refine .inr ⟨g,f,rfl,λi x hi=>e i x ?_⟩;rw [aX]at hi;split at hi
  .exact hi
  .cases hi
theorem Zem{α:Type}{v:Value}{xs:List α}{n b:Nat}(h:xs.take n≠[]/\(Bd v n).ownBlock=some b):xs≠[]/\v.ownBlock=some b:=
 ⟨λe=>h.1 (by rw [e,List.take_nil]),by rw [<-Au v n];exact h.2⟩
theorem s_pre{α:Type}{k:Nat}{enc:α->Value}{v:Value}{xs:List α}(i j n:Nat)(hi:lk H i=some (Ou k enc v xs))(l:Nat.beq i 0=false)(u:n<=xs.length):∀a w,Sat N sc env H a w->Sat N sc env ((j,Ou k enc (Bd v n) (xs.take n))::H) a w:=
 λa w hs=>hs.add j _ ⟨Es n u (hs.hold i _ hi).1,λb f=>(hs.hold i _ hi).2 b (Zem f)⟩
  (λr B z q Ih b f h=>by
   rcases Ih with Ih|Ih
   .cases Ih
   .have s:=Zem f;by_cases g:r=i
    .subst g;rw [hi]at q;cases q;cases Ih
    .exact hs.sep r i B _ g q hi Ih b h s)
  (λb f=>hs.scope i _ (λe=>by subst e;simp at l) hi b (Zem f))
theorem Pr{α:Type}{k:Nat}{enc:α->Value}{v:Value}{xs:List α}(i:Nat)(hi:lk H i=some p)(e:Rd p k enc v xs):∀a w,Sat N sc env H a w->xs.length<=9223372036854775807:=λa w hs=>by obtain⟨f,c,rfl,g,h,_⟩:=e w (hs.hold i p hi);have j:maxLen=9223372036854775807:=rfl;omega
end Go.Sky
namespace Go.Sky
open Go.RowKit Below
variable{pre:List Pc}{ops:Array Oper}{rest:List Oper}{o:Oper}{k d:Nat}{y:Operand}{w0:World}{M0:Nat->Prop}{parts:Array (Nat×Operand)}{cs:Array Value}
variable {P:Program} {N:Nat} {sc:Nat->Prop} {env env':Yd} {H H':Hp} {Q Q':Exit->Act->World->Prop} {M:Nat->Prop}
def Pu:Nat->List Value->Yd
  | _,[]=>[]
  | n,v::r=>(n,v)::Pu (n+1) r
def Qi:Nat->List Pc->Hp
  | _,[]=>[]
  | n,p::r=>(n,p)::Qi (n+1) r
def AllRo:List Pc->Prop
  | []=>True
  | p::r=>p.own=false/\AllRo r
theorem AllRo.mem:∀{l:List Pc},AllRo l->∀p∈l,p.own=false
  | p::r,h,q,a=>by
    cases a with
    | head=>exact h.1
    | tail _ a=>exact AllRo.mem h.2 q a
theorem Kz:∀(l:List Value) (n t:Nat) (v:Value),lk (Pu n l) t=some v->n<=t/\l[t-n]? = some v
  | [],_,_,_,h=>by cases h
  | u::r,n,t,v,h=>by
    simp only [Pu]at h;by_cases a:n=t
    . subst a;rw [Zp]at h;cases h;simp
    . rw [Zg a]at h;obtain⟨c,b⟩:=Kz r (n+1) t v h;refine⟨O,?_⟩;rw [show t-n=(t-(n+1))+1 by omega];simpa using b
theorem Na:∀(l:List Pc) (n t:Nat) (v:Pc),lk (Qi n l) t=some v->n<=t/\v∈l
  | [],_,_,_,h=>by cases h
  | u::r,n,t,v,h=>by
    simp only [Qi]at h;by_cases a:n=t
    . subst a;rw [Zp]at h;cases h;simp
    . rw [Zg a]at h;obtain⟨c,b⟩:=Na r (n+1) t v h;exact⟨O,bC _ b⟩
theorem cal_in {f:FuncId} {g:Func} {c:Code} {vs:List Value}  {al:Bool} {G:Type} {φ:G->Prop} {val:G->Value} {a:G->List Pc} {N:Nat}
    (u:P.funcs[f]? = some g) (s:g.body=some c) (r:g.ntmps=N) (l:Nat.ble vs.length N=true) (m:AllRo pre)
    (h:∀w0 (sc:Nat->Prop),(∀b,w0.heap.size<=b->sc b)->(∀b,sc b->w0.heap.size<=b\/∃q∈pre,q.fp b)->
      E P N sc c (Al P g w0 pre al φ val a) (Pu 0 vs) ((0,keep w0 (λ_=>False))::Qi 1 pre)) :
    Cal P f vs.toArray pre al φ val a:=
  Zhj (λw0=>(0,keep w0 (λ_=>False))::Qi 1 pre) u s r (env0:=Pu 0 vs) (λt v x=>by simpa using(Kz vs 0 t v x).2) (by simpa using l)
    (λw i p hi=>by
      by_cases j:0=i
      . subst j;rw [Zp]at hi;cases hi;exact .inl ⟨rfl,rfl⟩
      . rw [Zg j]at hi;obtain⟨_,n⟩:=Na pre 1 i p hi;exact .inr ⟨λe=>j e.symm,n,m.mem p n⟩) h
def Ones(N:Nat)(sc:Nat->Prop)(env:Yd)(H:Hp):List Value->Prop
  | []=>True
  | v::r=>One N sc env H v/\Ones N sc env H r
theorem Ones.mem:∀{l:List Value},Ones N sc env H l->∀u∈l,One N sc env H u
  | v::r,h,u,a=>by
    cases a with
    | head=>exact h.1
    | tail _ a=>exact Ones.mem h.2 u a
theorem Ki (d:Nat)    {b:Bool} (f:lk env d=some (.bool b))
    (h:b=true->L P N sc ops rest Q ((d,.bool true)::env) H) (g:b=false->L P N sc ops rest Q ((d,.bool false)::env) H):L P N sc ops rest Q env H:=by
  cases b with
  | true=>
    refine λa w hs=>h rfl a w ⟨hs.size,hs.defers,λt v c=>?_,hs.hold,hs.sep,hs.scope⟩;by_cases e:d=t
    . subst e;rw [Zp]at c;cases c;exact hs.env _ _ f
    . rw [Zg e]at c;exact hs.env _ _ c
  | false=>
    refine λa w hs=>g rfl a w ⟨hs.size,hs.defers,λt v c=>?_,hs.hold,hs.sep,hs.scope⟩;by_cases e:d=t
    . subst e;rw [Zp]at c;cases c;exact hs.env _ _ f
    . rw [Zg e]at c;exact hs.env _ _ c
theorem Ga (i:Nat)(n:Nat)(c:Nat) {α:Type}  {t e:TypeId}  {x:Operand}  {m:Int}   {enc:α->Value} {ti:TypeInfo} (p:α)
    (R:o.op= .makeSlice t x y) (D:o.dst=some d) (W:ev env x=some (.int .i64 m)) (Y:ev env y=some (.int .i64 m)) (I:m=(n:Int))
    (S:P.underlying t=some (.slice e)) (hi:P.info? e=some ti) (Z:ti.zero=some (enc p)) (F:∀x,(enc x).cells.size=k) (g:0<k) (j:ti.size=k) (h:ti.bytes=c)
     
    (r:lk H 0=some (keep w0 M0)) (V:∀b,w0.heap.size<=b->sc b) (u:Nat.blt d N=true:=by rfl) (z:c*n<=281474976710656:=by omega) (f:0<c:=by decide) :
    T P N sc M o env H (G:=Value) (λ_=>True) (λv=>(d,v)::env) (λv=>(i,Yu k e enc v (List.replicate n p))::H):=λa w hs K Q s=>
  t_mk p R D u W Y I S hi Z F g j h z f r V a w hs K Q λb q w' _ l B=>s (.slice (some ⟨b,0,none⟩) n n) q w' aB l B
def t_bsn {α:Type}  {t e:TypeId} {n:Nat}  {i:Nat}    {enc:α->Value} (xs:List α)
    (u:o.op= .buildSlice t n parts) (p:o.dst=some d) (l:Nat.blt d N=true)
    (z:∀a w,Sat N sc env H a w->(Instr.buildSlice t n (parts.map λ(i,x)=>(i,a.eval x))).run P w= .ok (.slice (some ⟨w.heap.size,0,none⟩) n n) (w.alloc (.cells cs e)))
    (c:cs.toList=cellsOf enc xs) (s:xs.length=n) (q:∀x,(enc x).cells.size=k) (r:n<=maxLen)
    (h:lk H 0=some (keep w0 M0)) (B:∀b,w0.heap.size<=b->sc b) :
    T P N sc M o env H (G:=Value) (λ_=>True) (λv=>(d,v)::env) (λv=>(i,Yu k e enc v xs)::H):=λa w hs K Q j=>
  t_bs xs u p l z c s q r h B a w hs K Q λb g D _ f m=>j (.slice (some ⟨b,0,none⟩) n n) g D aB f m
end Go.Sky
namespace Go.Sky
open Go.RowKit Below
variable{o:Oper}{xs:List Operand}{ats:Array TypeId}{t':TypeId}{k:IntKind}
variable {P:Program} {N:Nat} {sc:Nat->Prop} {env env':Yd} {H H':Hp} {Q Q':Exit->Act->World->Prop} {M:Nat->Prop}
def sub64Entry:Array Value->Sem Value:=λa=>do
 let (x, y, b) ← Extern.MathBitsCarry.three "Sub64" a
 pure (Extern.MathBitsCarry.pair ((x+Extern.MathBitsCarry.m64-y-b)%Extern.MathBitsCarry.m64) (if x<y+b then 1 else 0))
theorem Fc {a:Act} {w:World} (hs:Sat N sc env H a w)  {f:FuncId}   {vs:List Value} (d:o.op= .call { callee:= .value (.func f),args:=xs.toArray,argTypes:=ats })
  (b:EvL env xs vs):(execOp a.eval o).run P w=(callFunc f vs.toArray).run P w:=by
 have c:=b.map hs;simp [execOp,d,resolve,invoke,Act.eval,Deferred.ofValue,c]
def brw(a b c:Nat):Nat:=if a<b+c then 1 else 0
def Zev{t:TypeId}{x:Operand}{m:Nat}{b:TypeDesc}(d:o.op= .convert t t' x)(f:ev env x=some (.int k (m:Int)))(a:P.underlying t=some b)(e:P.underlying t'=some (.int .u64))(c:m<U) :
  Pv P N sc o env H (.int .u64 (m:Int)):=Zhu d f a e (Ay c)
def Zj7{t:TypeId}{x:Operand}{m:Int}{b:TypeDesc}(d:o.op= .convert t t' x)(f:ev env x=some (.int k m))(a:P.underlying t=some b)(e:P.underlying t'=some (.int .i64))(c:Ir m) :
  Pv P N sc o env H (.int .i64 m):=Zhu d f a e (Cn c)
end Go.Sky
namespace Go.Sky
open Go.RowKit Below
variable{o:Oper}{xs:List Operand}{ats:Array TypeId}{d k:Nat}{pre:List Pc}{w0:World}{M0:Nat->Prop}{fn:Func}{v:Value}{y:Operand}{t':TypeId}{p:Pc}{kd:IntKind}
variable {P:Program} {N:Nat} {sc:Nat->Prop} {env env':Yd} {H H':Hp} {Q Q':Exit->Act->World->Prop} {M:Nat->Prop}
def Zn6(P:Program)(f:FuncId)(args:Array Value)(pre:List Pc){G:Type}(φ:G->Prop)(val:G->Value)(a:G->Pc):Prop:=
 ∀w,(∀p∈pre,p.holds w)->Calls P f args w λe c=>∃g,e= .returned (val g)/\φ g/\Below w.heap.size w c/\(a g).holds c/\∀b,(a g).fp b->w.heap.size<=b
theorem Gy (n:Nat)  {f:FuncId}    {vs:List Value}  {G:Type} {φ:G->Prop} {val:G->Value} {s:G->Pc}  
  (S:Zn6 P f vs.toArray pre φ val s)
  (Z:o.op= .call { callee:= .value (.func f),args:=xs.toArray,argTypes:=ats }) (V:o.dst=some d) (R:Nat.blt d N=true)
  (h:EvL env xs vs) (l:∀args w,(callFunc f args).run P w= .ok (.enter f args) w) (r:PreOk H false pre)
  (F:lk H 0=some (keep w0 M0)) (hw:∀b,w0.heap.size<=b->sc b) :
  T P N sc M o env H φ (λg=>(d,val g)::env) (λg=>(n,s g)::H):=λa w hs K Q I=>by
 have hr:(execOp a.eval o).run P w= .ok (.enter f vs.toArray) w:=by rw [Fc hs Z h,l]
 unfold Oper.wp;rw [hr];refine(S w (λp hp=>by obtain⟨i,s,_,hi,q,_,_⟩:=r.mem p hp;exact q w (hs.hold i s hi))).mono ?_
 rintro e D ⟨g,rfl,W,c,x,m⟩;show K (a.put o.dst (val g)) D;rw [V];have z:Sat N sc env H a D:=hs.chg0 (Chg.of_below c);refine I g _ _ W (Sat.put (z.add n (s g) x (λj B _ Y _ b t u=>?_) (λb t=>hw b (aM (hs.hold 0 _ F).size (m b t)))) d _ R) (Chg.of_below c);have:=B.lt w b (hs.hold j B Y) u;have:=m b t;omega
def Zk3(P:Program)(fn:Func)(w0:World){G:Type}(φ:G->Prop)(val:G->Value)(a:G->Pc):Exit->Act->World->Prop:=
 bodyPost P fn λe c=>∃g,e= .returned (val g)/\φ g/\Below w0.heap.size w0 c/\(a g).holds c/\∀b,(a g).fp b->w0.heap.size<=b
theorem Zgh {f:FuncId}  {c:Code} {vs:List Value}  {G:Type} {φ:G->Prop} {val:G->Value} {D:G->Pc} {N:Nat}
  (R:P.funcs[f]? = some fn) (g:fn.body=some c) (F:fn.ntmps=N) (n:Nat.ble vs.length N=true) (z:AllRo pre)
  (h:∀w0 (sc:Nat->Prop),(∀b,w0.heap.size<=b->sc b)->(∀b,sc b->w0.heap.size<=b\/∃q∈pre,q.fp b)->
   E P N sc c (Zk3 P fn w0 φ val D) (Pu 0 vs) ((0,keep w0 (λ_=>False))::Qi 1 pre)) :
  Zn6 P f vs.toArray pre φ val D:=λw V=>by
 refine calls_of_wp R g (h w (λb=>w.heap.size<=b\/∃q∈pre,q.fp b) (λb g=> .inl g) (λb g=>g) _ w ?_);have n:vs.length<=N:=by simpa using n
 have a:∀i p,lk ((0,keep w (λ_=>False))::Qi 1 pre) i=some p->(i=0/\p=keep w (λ_=>False))\/(i≠0/\p∈pre/\p.own=false):=λi p hi=>by
   by_cases m:0=i
   .subst m;rw [Zp]at hi;cases hi;exact .inl ⟨rfl,rfl⟩
   .rw [Zg m]at hi;obtain⟨_,l⟩:=Na pre 1 i p hi;exact .inr ⟨λe=>m e.symm,l,z.mem p l⟩
 refine⟨by simp [F];omega,rfl,λt v W=>?_,λi p hi=>?_,λi j p q S hi Y x b g I=>?_,λi p s hi b g=>?_⟩
 .have B:vs.toArray[t]? = some v:=by simpa using(Kz vs 0 t v W).2
  have u:=(aL.1 B).1;rw [bA,fM u,B];rfl
 .rcases a i p hi with⟨_,rfl⟩|⟨_,l,_⟩
  .exact Chg.refl _ w
  .exact V p l
 .rcases a i p hi with⟨_,rfl⟩|⟨_,l,r⟩
  .cases x
  .rw [r]at x;cases x
 .rcases a i p hi with⟨m,_⟩|⟨_,l,_⟩
  .exact absurd m s
  .exact .inr ⟨p,l,g⟩
theorem Zdx  {G:Type} {φ:G->Prop} {val:G->Value} {l:G->Pc}  {e:Exit} (u:e= .ret\/e= .normal)
  (g:G)  (j:∀a w,Sat N sc env H a w->(results fn a.tmps).run P w= .ok v w) (B:val g=v) (x:φ g) (s:lk H 0=some (keep w0 (λ_=>False)))
  (i:Nat) (q:Nat.beq i 0=false) (hi:lk H i=some (l g)) (f:(l g).own=true) :
  X N sc e (Zk3 P fn w0 φ val l) env H:=λa w hs=>by
 have c:i≠0:=λe=>by subst e;simp at q
 have m:a.defers=[]/\∃v,(results fn a.tmps).run P w= .ok v w/\(∃g,Ending.returned v= .returned (val g)/\φ g/\Below w0.heap.size w0 w/\(l g).holds w/\∀b,(l g).fp b->w0.heap.size<=b):=by
  refine⟨hs.defers,v,j a w hs,g,by rw [B],x,Gd (hs.hold 0 _ s),hs.hold i _ hi,λb t=>?_⟩;have z:=hs.sep i 0 _ _ c hi s f b t;rcases bD b w0.heap.size with r|n
  .exact absurd ⟨r,λh=>h⟩ z
  .exact n
 rcases u with rfl|rfl
 .exact m
 .exact m
theorem Zm8{α:Type}{x:Operand}{t e:TypeId}{i:Nat}{enc:α->Value}{xs:List α}(f:o.op= .binOp .eql t x y t')(g:ev env x=some v)(j:ev env y=some (.slice none 0 0))(l:lk H i=some p)(m:Rd p k enc v xs)(n:P.underlying t=some (.slice e)) :
  Pv P N sc o env H (.bool (v.ownBlock.isNone)):=λa w hs=>by
 obtain⟨b,c,rfl,_⟩:=m w (hs.hold i p l);have h:=Lib.run_eql_slice_nil (P:=P) w t e b xs.length c 0 0 n;cases b with
 | none=>simp [execOp,f,hs.ev g,hs.ev j,eqGuard,h,Value.ownBlock]
 | some q=>simp [execOp,f,hs.ev g,hs.ev j,eqGuard,h,Value.ownBlock]
theorem Ms (i:Nat)(j:Nat)(m:Nat) {α:Type}  {x:Operand} {t e:TypeId}  {u:Value} {enc:α->Value} {xs ys:List α}  {ti:TypeInfo} {z:Value}  
  (ho:o.op= .call { callee:= .builtin .append,args:=#[x,y],argTypes:=#[t,t] }) (hd:o.dst=some d) (hN:Nat.blt d N=true)
  (hx:ev env x=some v) (hy:ev env y=some u) (W:lk H i=some (Yu k e enc v xs)) (D:i≠0) (hj:lk H j=some p) (hr:Rd p k enc u ys)
  (ht:P.underlying t=some (.slice e)) (hi:P.info? e=some ti) (hz:ti.zero=some z) (he:Enc P e k enc) (a1:ti.size=k) (Z:ti.bytes=m) (a3:z.cells.size=k)
  (Y:(xs.length+ys.length)*m<=140737488355328) (s:0<m)
  (h0:lk H 0=some (keep w0 M0)) (hw:∀b,w0.heap.size<=b->sc b) :
  T P N sc (λ_=>True) o env H (G:=Value) (λ_=>True) (λv'=>(d,v')::env) (λv'=>(i,Yu k e enc v' (xs ++ ys))::H):=by
 by_cases R:ys=[]
 .subst R;intro a w hs K Q hK;have h:w.ownsRow 0 e k v xs.length (cellsOf enc xs):=hs.hold i _ W;obtain⟨S,c,rfl,h1,h2,h3⟩:=hr w (hs.hold j p hj);have F:∃l n r,v= .slice l n r/\n=xs.length/\n<=r:=by
   rcases h.2 with⟨rfl,hn⟩|⟨g,V,a4,rfl,_,_,f,_⟩
   .exact⟨none,0,0,rfl,hn.symm,aH _⟩
   .exact⟨_,_,V,rfl,rfl,f⟩
  obtain⟨l,n,r,rfl,rfl,f⟩:=F;have I:(Builtin.append_ #[t,t] o.type #[.slice l xs.length r,.slice S ([]:List α).length c]).run P w= .ok (.slice l xs.length r) w:=by
   have B:(Builtin.firstCells ti.size 0 (.slice S 0 c)).run P w= .ok #[] w:=by
    cases S with
    | none=>rfl
    | some q=>simp [Builtin.firstCells,loadCells,loadCellsFrom]
   cases l with
   | none=>simp [Builtin.append_,run_underlying ht,sizeOf,typeInfo,hi,Builtin.lenOf,B,f]
   | some q=>simp [Builtin.append_,run_underlying ht,sizeOf,typeInfo,hi,Builtin.lenOf,B,f,storeCells]
  have a2:(execOp a.eval o).run P w= .ok (.value (.slice l xs.length r)) w:=by simp only [execOp,ho,resolve,invoke,builtin,Sem.run_bind,Sem.run_pure,Result.andThen_ok,eY,bK,gF,hs.ev hx,hs.ev hy,I]
  unfold Oper.wp;rw [a2];show K (a.put o.dst _) _;rw [hd];refine hK _ _ _ aB ((Sat.upd hs W rfl D (q:=Yu k e enc (.slice l xs.length r) (xs ++ [])) (Chg.refl _ w) ?_ (λb Y=> .inl Y) h0 hw).put d _ hN) (Chg.refl _ w);rw [List.append_nil];exact h
 .exact t_app (i2:=0) ho hd hN hx hy W D hj hr R ht hi hz he a1 Z a3 Y s h0 hw
def Dr(v:Value)(n k:Nat):Value:=match v with
 | .slice a l c=> .slice (if c=n then a else a.map (·.add (n*k))) (l-n) (c-n)
 | u=>u
theorem Ar(v:Value)(n k:Nat):(Dr v n k).ownBlock=v.ownBlock:=by
 cases v with
 | slice a l c=>
  cases a with
  | none=>simp only [Dr];split<;>rfl
  | some q=>
   simp only [Dr];split
   .rfl
   .simp only [Option.map_some,Value.ownBlock,Addr.add];split<;>rfl
 | _=>rfl
theorem d_suf {α:Type}  {x:Operand} {t e:TypeId}  {ii i:Nat}  {m:Int}  {enc:α->Value} {xs:List α} (l:o.op= .slice t x (some y) none none)
  (r:ev env x=some v) (s:ev env y=some (.int kd m)) (h:lk H ii=some p) (n:Rd p k enc v xs) (q:P.underlying t=some (.slice e)) (g:∀w,(sizeOf e).run P w= .ok k w)
  (b:m=(i:Int)) (f:i<=xs.length):Pv P N sc o env H (Dr v i k):=λa w hs=>by
 obtain⟨u,c,rfl,z,B,D⟩:=n w (hs.hold ii p h);subst b;have j:(i:Int)<=(xs.length:Int):=O;simp [execOp,l,hs.ev r,hs.ev s,Instr.sliceAt,Instr.slice,Instr.sliceBounds,Instr.sliceBound,asIntOf,run_underlying q,g,f,Dr]
end Go.Sky
namespace Go.Sky
open Go.RowKit Below
variable{o:Oper}{parts:List (Nat×Operand)}{cells cs:Array Value}{z:Value}{k d:Nat}{w0:World}{M0:Nat->Prop}
variable {P:Program} {N:Nat} {sc:Nat->Prop} {env env':Yd} {H H':Hp} {Q Q':Exit->Act->World->Prop} {M:Nat->Prop}
def EvP(e:Yd):List (Nat×Operand)->List (Nat×Value)->Prop
 | [],[]=>True
 | (i,x)::r,(j,v)::vs=>i=j/\ev e x=some v/\EvP e r vs
 | _,_=>False
theorem EvP.map{a:Act}{w:World}(h:Sat N sc env H a w):∀{xs:List (Nat×Operand)} {vs:List (Nat×Value)},EvP env xs vs->xs.map (λ(i,x)=>(i,a.eval x))=vs
 | [],[],_=>rfl
 | (i,x)::r,(j,v)::vs,hh=>by obtain⟨rfl,b,c⟩:=hh;simp only [bK,h.ev b,EvP.map h c]
 | [],_::_,hh=>hh.elim
 | _::_,[],hh=>hh.elim
theorem Ik (b:List (Nat×Value))  {t:TypeId}    (e:o.op= .build t parts.toArray) (f:EvP env parts b)
  (c:∀a w,Sat N sc env H a w->P.built t b=some cells):Pv P N sc o env H (.agg cells):=λa w hs=>by
 have h:=run_build (P:=P) w t (parts.toArray.map λ(i,x)=>(i,a.eval x)) cells (by rw [eY,f.map hs];exact c a w hs);simp only [execOp,e,Sem.run_bind,h,Result.andThen_ok,Sem.run_pure]
 try rfl
theorem Xq {t:TypeId} {b:TypeInfo} {a:Array Field}  {pl:List (Nat×Nat)} {parts:List (Nat×Value)}  (hi:P.info? t=some b) (g:P.underlying t=some (.struct a)) (h:b.zero=some z)
  (e:a.toList.mapM (λf=>(P.info? f.type).map λi=>(f.offset,i.size))=some pl) (c:Instr.fill (pl.toArray[·]?) z.cells parts=some cells):P.built t parts=some cells:=by
 unfold Program.built;simp only [hi,g,h,e,c]
theorem Du(w:World)(t e:TypeId)(a:P.underlying t=some (.slice e))(hs:∀w,(sizeOf e).run P w= .ok k w) :
  (Instr.buildSlice t 0 #[]).run P w= .ok (.slice (some ⟨w.heap.size,0,none⟩) 0 0) (w.alloc (.cells #[] e)):=by
 simp [Instr.buildSlice,run_underlying a,hs,Instr.fill,newRow];rw [show(Array.range 0)=#[] by decide,Array.map_empty]
theorem Od (c:List (Nat×Value))(i:Nat) {α:Type}  {t e:TypeId} {n:Nat}       {enc:α->Value} {ti:TypeInfo}  (xs:List α)
  (u:o.op= .buildSlice t n parts.toArray) (m:o.dst=some d) (B:EvP env parts c)
  (y:P.underlying t=some (.slice e)) (hi:P.info? e=some ti) (F:ti.zero=some z) (h:Nat.ble (n*ti.size) 16777216=true) 
  (p:Instr.fill (λi=>some (i*ti.size,ti.size)) ((List.range (n*ti.size)).map (z.cells[· % z.cells.size]!)).toArray c=some cs)
  (g:cs.toList=cellsOf enc xs) (s:xs.length=n) (q:∀x,(enc x).cells.size=k) (r:Nat.ble n 16777216=true)
  (j:lk H 0=some (keep w0 M0)) (D:∀b,w0.heap.size<=b->sc b) (l:Nat.blt d N=true:=by rfl) (f:Nat.blt 0 (n*ti.size)=true:=by rfl) :
  T P N sc M o env H (G:=Value) (λ_=>True) (λv=>(d,v)::env) (λv=>(i,Yu k e enc v xs)::H):=
 t_bsn xs u m l (λa w hs=>run_buildSlice w t e n _ cs ti z y hi F (by have:=jJ h;omega) (by have:=Nat.blt_eq▸f;simp at f;omega) (by rw [show(parts.toArray.map λ(i,x)=>(i,a.eval x)).toList=c by rw [eY,B.map hs],show(Array.range (n*ti.size)).map (z.cells[· % z.cells.size]!)=((List.range (n*ti.size)).map (z.cells[· % z.cells.size]!)).toArray by rw [<-eY,<-Array.toList_range,Array.toArray_toList]];exact p)) g s q (by have:=jJ r;simp only [maxLen];omega) j D
theorem t_bs0 {α:Type}  {t e:TypeId}  {i:Nat}   {enc:α->Value} 
  (j:o.op= .buildSlice t 0 #[]) (h:o.dst=some d) (g:Nat.blt d N=true) (l:P.underlying t=some (.slice e)) (c:Enc P e k enc)
  (f:lk H 0=some (keep w0 M0)) (m:∀b,w0.heap.size<=b->sc b) :
  T P N sc M o env H (G:=Value) (λ_=>True) (λv=>(d,v)::env) (λv=>(i,Yu k e enc v [])::H):=
 t_bsn (n:=0) (cs:=#[]) (parts:=#[]) [] j h g (λa w hs=>by rw [Array.map_empty];exact Du w t e l c.size) rfl rfl c.cells (by simp [maxLen]) f m
theorem Ka{α:Type}(i k:Nat)(e:TypeId)(enc:α->Value):∀a w,Sat N sc env H a w->Sat N sc env ((i,Yu k e enc (.slice none 0 0) [])::H) a w:=λa w hs=>
 hs.add i _ ⟨by simp [cellsOf],.inl ⟨rfl,rfl⟩⟩ (λj l g h Ih b c f=>by cases c) (λb c=>by cases c)
theorem f_nil{α:Type}{enc:α->Value}{v:Value}{xs:List α}{p:Pc}(i:Nat)(hi:lk H i=some p)(e:Rd p k enc v xs):∀a w,Sat N sc env H a w->(v.ownBlock=none->xs=[]):=λa w hs h=>by
 obtain⟨j,c,rfl,l,m,b⟩:=e w (hs.hold i p hi);rcases b with b|⟨g,f,rfl,_⟩
 .exact b
 .cases h
end Go.Sky
namespace Go.Sky
variable{k lo:Nat}{w w0:World}{cur:Array Value}{v u:Value}{M0:Nat->Prop}{y:Operand}
abbrev Zmu (n:Nat):Value:= .int .u64 (n:Int)
abbrev encB (n:Nat):Value:= .int .u8 (n:Int)
abbrev Zmv (n:Nat):Value:= .int .i64 (n:Int)
abbrev Zo (n:Int):Value:= .int .i64 n
abbrev dgp (v:Value) (x:Nat):Pc:=Ou 1 Zmu v (dg U x)
def Og(x:Nat):ByteArray:=⟨((dg 256 x).reverse.map UInt8.ofNat).toArray⟩
theorem Zay(x:Nat):(Og x).size=(dg 256 x).length:=by simp [Og,ByteArray.size]
open Go.RowKit Below
variable {P:Program} {N:Nat} {sc:Nat->Prop} {env env':Yd} {H H':Hp} {Q Q':Exit->Act->World->Prop} {M:Nat->Prop}
theorem Zb6{α:Type}{enc:α->Value}(a:∀x,(enc x).cells.size=k)(xs:List α)(n:Nat)(c:n<=xs.length):cellsOf enc (xs.take n)=(cellsOf enc xs).take (n*k):=by
 have h:=Pi enc (xs.take n) (xs.drop n);rw [jK]at h;have b:(cellsOf enc (xs.take n)).length=n*k:=by rw [Zz a,aI,dZ c]
 rw [h,<-b,jU]
def spl{α:Type}(xs:List α)(lo:Nat)(ys:List α):List α:=xs.take lo ++ ys ++ xs.drop (lo+ys.length)
theorem Gn{α:Type}{xs:List α}{ys:List α}(h:lo+ys.length<=xs.length):(spl xs lo ys).length=xs.length:=by simp [spl];omega
theorem Zfo {α:Type}  {g a:Nat}   {e:TypeId} {enc:α->Value} {xs ys:List α} (l:∀x,(enc x).cells.size=k) (lo:Nat) (d:lo+ys.length<=xs.length)
  (F:w.heap[g]? = some (.cells cur e (0,0))) (j:xs.length<=a) (m:a<=maxLen) (n:cur.size=a*k) (f:cur.toList.take (xs.length*k)=cellsOf enc xs) :
  (w.setRow g (cur.toList.take (lo*k) ++ cellsOf enc ys ++ cur.toList.drop (lo*k+(cellsOf enc ys).length)).toArray).ownsRow 0 e k (.slice (some ⟨g,0,none⟩) xs.length a) (spl xs lo ys).length (cellsOf enc (spl xs lo ys)):=by
 have c:cur.toList.length=a*k:=by rw [bN,n]
 have b:=Zz l ys;have o:(lo+ys.length)*k<=xs.length*k:=bI _ d;have t:xs.length*k<=a*k:=bI _ j;rw [dB]at o;refine⟨by rw [Zz l],.inr ⟨g,a,_,by rw [Gn d],aW _,setRow_heap w g cur _ e _ F,by rw [Gn d];exact j,m,?_,?_⟩⟩
 .simp only [eN,aJ,aI,dS,c,b];omega
 .rw [Gn d];have z:cellsOf enc (xs.take lo)=cur.toList.take (lo*k):=by rw [Zb6 l xs lo O,<-f,jV,dZ O]
  have B:cellsOf enc (xs.drop (lo+ys.length))=(cur.toList.take (xs.length*k)).drop ((lo+ys.length)*k):=by have h:=Pi enc (xs.take (lo+ys.length)) (xs.drop (lo+ys.length));rw [jK,<-f]at h;rw [h];exact(List.drop_left' (by rw [Zz l,aI,dZ d])).symm
  rw [spl,Pi,Pi,z,B,b,dB];apply eK;intro q;have i:(cur.toList.take (lo*k)).length=lo*k:=by rw [aI,c];omega
  by_cases p:q<xs.length*k
  .rw [aX,aK p];by_cases D:q<lo*k+ys.length*k
   .have r:∀C,((cur.toList.take (lo*k) ++ cellsOf enc ys) ++ C)[q]? = (cur.toList.take (lo*k) ++ cellsOf enc ys)[q]?:=λC=>aV (by rw [aJ,i,b];exact D);rw [r,r]
   .have s:∀C,((cur.toList.take (lo*k) ++ cellsOf enc ys) ++ C)[q]? = C[q-(lo*k+ys.length*k)]?:=λC=>by rw [aR (by rw [aJ,i,b];omega),aJ,i,b]
    rw [s,s];rw [eH,eH,aX,aK O]
  .rw [aX,aG p,bL];simp only [aJ,aI,dS,c,b];omega
def Dst(v u:Value)(a k lo n:Nat):Prop:=∀g c,v= .slice (some ⟨g,0,none⟩) a c->a<=c->∃b,u= .slice (some ⟨g,lo*k,none⟩) n b
theorem Zjy{a:Nat}:Dst v v a k 0 a:=λg c h _=>⟨c,by rw [h,iA]⟩
theorem Em{α:Type}{enc:α->Value}{ys:List α}{t:TypeId}(b:Enc P t k enc)(h:RowAt w k enc u ys):(Builtin.firstCells k ys.length u).run P w= .ok (cellsOf enc ys).toArray w/\(Builtin.lenOf u).run P w= .ok ys.length w:=by
 obtain⟨D,c,rfl,F,s,l⟩:=h;refine⟨?_,by simp [Builtin.lenOf]⟩;rcases l with rfl|⟨g,f,rfl,l⟩
 .cases D with
  | none=>simp [Builtin.firstCells,cellsOf]
  | some q=>simp [Builtin.firstCells,cellsOf,loadCells,loadCellsFrom]
 .have r:∀q u,(cellsOf enc ys)[q]? = some u->w.cell? ((⟨g,f,none⟩:Addr).add q)=some u:=λq u z=>by
   have o:q<ys.length*k:=by rw [<-Zz b.cells ys];exact(dH.1 z).1
   have d:=b.pos;have n:q/k<ys.length:=gT (by rw [dU];exact o);have a:ys[q/k]? = some ys[q/k]:=aF n;have p:q%k<(enc ys[q/k]).cells.toList.length:=by rw [bN,b.cells];exact gN _ d
   have B:=aF p;have m:=Nu b.cells ys _ _ a _ _ B;have x:=l _ _ a _ _ B;have e:q/k*k+q%k=q:=by rw [dU];exact fU q k
   rw [e]at m;rw [iT,e]at x;rw [z]at m;cases m;rw [Xw];exact x
  have G:=Zz b.cells ys;have:=run_loadCells (P:=P) (w:=w) ⟨g,f,none⟩ (ys.length*k) (λj=>(cellsOf enc ys).getD j undef) (λj I=>r j _ (by rw [aF O];simp [List.getD,aF (show j<(cellsOf enc ys).length by omega)]));rw [show(List.range (ys.length*k)).map (λj=>(cellsOf enc ys).getD j undef)=cellsOf enc ys by
   apply iW
   .simp [G]
   .intro i F s;simp [List.getD,aF s]]at this
  exact this
theorem Zk8 {α:Type} {a:Act}  {i:Nat} {e t:TypeId}  {enc:α->Value} {xs ys:List α}   (hs:Sat N sc env H a w) (F:lk H i=some (Yu k e enc v xs)) (s:i≠0) (r:Enc P t k enc)
  (z:lo+ys.length<=xs.length) (hp:0<xs.length) (R:lk H 0=some (keep w0 M0)) (V:∀b,w0.heap.size<=b->sc b)  {n:Nat} (o:Dst v u xs.length k lo n) :
  ∃g c D,u= .slice (some ⟨g,lo*k,none⟩) n c/\(storeCells ⟨g,lo*k,none⟩ (cellsOf enc ys)).run P w= .ok () D/\Sat N sc env ((i,Yu k e enc v (spl xs lo ys))::H) a D/\Chg (λ_=>True) w D:=by
 have l:w.ownsRow 0 e k v xs.length (cellsOf enc xs):=hs.hold i _ F;rcases l.2 with⟨rfl,Z⟩|⟨g,d,cur,rfl,Y,G,j,p,h,f⟩
 .omega
 .obtain⟨I,o⟩:=o g d rfl j;have B:=Zz r.cells ys;have x:(lo+ys.length)*k<=d*k:=bI _ O;rw [dB]at x;have m:=run_storeCells_at P g (lo*k) e (cellsOf enc ys) 0 cur w G (by rw [B,h];omega) (λu o=>by obtain⟨y,_,W⟩:=iY.1 o;exact r.one y u W)
  simp only [gE]at m;exact⟨g,I,_,o,m,hs.upd F rfl s (q:=Yu k e enc (.slice (some ⟨g,0,none⟩) xs.length d) (spl xs lo ys)) (Xs (M:=λk=>(Value.slice (some ⟨g,0,none⟩) xs.length d).ownBlock=some k) rfl) (Zfo r.cells lo z G j p h f) (λk S=> .inl S) R V,Xs aB⟩
theorem t_cpy {α:Type} {o:Oper} {x:Operand} {t t' e s:TypeId} {i j n d:Nat} {z:Value} {enc:α->Value} {xs ys:List α} {p:Pc}   (lo:Nat)
  (ho:o.op= .call { callee:= .builtin .copy,args:=#[x,y],argTypes:=#[t,t'] }) (W:o.dst=some d) (S:Nat.blt d N=true)
  (hx:ev env x=some u) (hy:ev env y=some z) (I:lk H i=some (Yu k e enc v xs)) (h:i≠0) (Y:lk H j=some p) (hr:Rd p k enc z ys)
  (hu:Dst v u xs.length k lo n) (Z:ys.length<=n) (l:lo+ys.length<=xs.length) (hp:0<xs.length) (ht:P.underlying t=some (.slice s)) (f:Enc P s k enc)
  (B:lk H 0=some (keep w0 M0)) (hw:∀b,w0.heap.size<=b->sc b) :
  T P N sc (λ_=>True) o env H (G:=Unit) (λ_=>True) (λ_=>(d,.int .i64 (ys.length:Int))::env) (λ_=>(i,Yu k e enc v (spl xs lo ys))::H):=λa w hs K Q R=>by
 obtain⟨g,c,w',rfl,r,q,V⟩:=Zk8 (ys:=ys) hs I h f l hp B hw hu;obtain⟨D,F⟩:=Em f (hr w (hs.hold j p Y));have m:(execOp a.eval o).run P w= .ok (.value (.int .i64 (ys.length:Int))) w':=by simp [execOp,ho,resolve,invoke,builtin,hs.ev hx,hs.ev hy,Builtin.copy_,run_underlying ht,F,dZ Z,f.size,D,r,goInt]
 unfold Oper.wp;rw [m];show K (a.put o.dst _) _;rw [W];exact R () _ _ aB (q.put d _ S) V
end Go.Sky
namespace Go.Sky
variable{listed:Array Bool}{ts:List Nat}{ops:Array Oper}{i:Nat}{o:Oper}{rest:List (Nat×Nat)}
variable {P:Program} {N:Nat} {sc:Nat->Prop} {env env':Yd} {H H':Hp} {Q Q':Exit->Act->World->Prop} {M:Nat->Prop}
theorem Ic (n:Nat) {l : List Oper}  {m:Nat}  (a : List (Nat × Nat))
     (h:LD P N sc M l.toArray (A P N sc M l.toArray ts Q n (Ns a listed)) a env H) (b:(Region.noSelect l.toArray && Oj l.toArray ts a listed && Nat.beq (a.length+n) m)=true:=by kernel_rfl):A P N sc M l.toArray ts Q m listed env H:=
  a_lin a b h (λ_ _ h=>h)
def aact   {n:Nat}   {G:Type} {φ:G->Prop} {a:G->Yd} {b:G->Hp} (e:T P N sc M o env H φ a b) (d:ops[i]? = some o) (c:o.guard=none)
    (h:∀g,φ g->A P N sc M ops ts Q n (listed.setIfInBounds i true) (a g) (b g)):Ax P N sc M ops ts Q n listed env H i:=⟨o,G,φ,a,b,d,c,e,h⟩
theorem r1'{F:Yd->Hp->Prop}{G:Type}{φ:G->Prop}{a:G->Yd}{b:G->Hp}(d:ops[i]? = some o)(e:T P N sc M o env H φ a b)(h:∀g,φ g->LD P N sc M ops F rest (a g) (b g))(c:o.guard=none:=by rfl):LD P N sc M ops F ((i,1)::rest) env H:=r1 e d c h
theorem r3'{F:Yd->Hp->Prop}{G:Type}{φ:G->Prop}{a:G->Yd}{b:G->Hp}(d:ops[i]? = some o)(e:T P N sc (λ_=>True) o env H φ a b)(h:∀g,φ g->LD P N sc M ops F rest (a g) (b g))(c:o.guard=none:=by rfl):LD P N sc M ops F ((i,3)::rest) env H:=r3 e d c h
def Im   {n:Nat}   {G:Type} {φ:G->Prop} {a:G->Yd} {b:G->Hp} (d:ops[i]? = some o) (c:o.guard=none) (e:T P N sc M o env H φ a b)
    (h:∀g,φ g->A P N sc M ops ts Q n (listed.setIfInBounds i true) (a g) (b g)):Ax P N sc M ops ts Q n listed env H i:=aact e d c h
end Go.Sky
namespace Go.Sky
variable{o:Oper}{t':TypeId}{y:Operand}{a b:Bool}{ops:Array Oper}{rest:List (Nat×Nat)}
variable {P:Program} {N:Nat} {sc:Nat->Prop} {env env':Yd} {H H':Hp} {Q Q':Exit->Act->World->Prop} {M:Nat->Prop}
theorem d_eqb{t:TypeId}{x:Operand}(c:o.op= .binOp .eql t x y t')(e:ev env x=some (.bool a))(f:ev env y=some (.bool b))(d:P.underlying t=some .bool):Pv P N sc o env H (.bool (a == b)):=λg w hs=>by simp [execOp,c,hs.ev e,hs.ev f,eqGuard,run_eql_bool w t a b d]
theorem d_neb{t:TypeId}{x:Operand}(c:o.op= .binOp .neq t x y t')(e:ev env x=some (.bool a))(f:ev env y=some (.bool b))(d:P.underlying t=some .bool):Pv P N sc o env H (.bool (a != b)):=λg w hs=>by simp [execOp,c,hs.ev e,hs.ev f,eqGuard,run_neq_bool w t a b d,bne]
theorem Kx  {F:Yd->Hp->Prop} {i:Nat}   {d:Nat} {v:Value} (g:ops[i]? = some o) (e:o.dst=some d) (hs:Stb P N sc M o env H v)
  (h:LD P N sc M ops F rest ((d,v)::env) H) (f:o.guard=none:=by rfl) (c:Nat.blt d N=true:=by rfl):LD P N sc M ops F ((i,0)::rest) env H:=r0 hs g f e c h
end Go.Sky
namespace Go.Sky
open Go.RowKit Below
variable{b:Nat}{cs:Array Value}{tb:TypeId}
variable {P:Program} {N:Nat} {sc:Nat->Prop} {env env':Yd} {H H':Hp} {Q Q':Exit->Act->World->Prop} {M:Nat->Prop}
def Kc(b:Nat)(t:TypeId)(cs:Array Value):Pc:=
  { own:=false,fp:=λk=>k=b,holds:=λw=>w.heap[b]? = some (.cells cs t (0,0))
    lt:=λw k h c=>by subst c;exact(aL.1 h).1
    stable:=λw e h a=>by rw [<-h];exact a.block b (aL.1 h).1 (λd=>d rfl) }
theorem Zbd{t:TypeId}(i:Nat)(hi:lk H i=some (box b t cs))(n:Nat.beq i 0=false):∀a w,Sat N sc env H a w->Sat N sc env ((i,Kc b t cs)::H) a w:=λa w hs=>by
    have s:i≠0:=λe=>by subst e;simp at n
    refine⟨hs.size,hs.defers,hs.env,λj g c=>?_,λj r g q m c d p b h k=>?_,λj g o c b h=>?_⟩
    . by_cases f:i=j
      . subst f;rw [Zp]at c;cases c;have u:=hs.hold i (box _ t cs) hi;exact u
      . rw [Zg f]at c;exact hs.hold j g c
    . by_cases f:i=j
      . subst f;rw [Zp]at c;cases c;cases p
      . rw [Zg f]at c;by_cases l:i=r
        . subst l;rw [Zp]at d;cases d;exact hs.sep j i g (box _ t cs) m c hi p b h k
        . rw [Zg l]at d;exact hs.sep j r g q m c d p b h k
    . by_cases f:i=j
      . subst f;rw [Zp]at c;cases c;exact hs.scope i (box _ t cs) s hi b h
      . rw [Zg f]at c;exact hs.scope j g o c b h
theorem d_lr {o:Oper} {x:Operand} {t:TypeId} {i j:Nat}  {v:Value} (e:o.op= .load t x)
    (k:ev env x=some (.pointer (some ⟨b,j,none⟩))) (d:lk H i=some (Kc b tb cs)) (f:∀w,(isAgg t).run P w= .ok false w) (g:cs[j]? = some v):Pv P N sc o env H v:=λa w hs=>by
  have c:w.heap[b]? = some (.cells cs tb (0,0)):=hs.hold i _ d;have h:w.cell? ⟨b,j,none⟩=cs[j]?:=by simp [World.cell?,c]
  rw [g]at h;simp [execOp,e,hs.ev k,Instr.loadAt,Instr.sureAddr,loadVar,f,load,Sem.run,h]
def CalB(P:Program)(f:FuncId)(args:Array Value)(a:List Pc)(al:Bool)(b:Nat)(t:TypeId)(cs:Array Value){G:Type}(φ:G->Prop)(val:G->Value)(c:G->Array Value)(d:G->List Pc):Prop:=
  ∀w,(∀p∈a,p.holds w/\¬p.fp b)->(box b t cs).holds w->Calls P f args w λe h=>∃g,e= .returned (val g)/\φ g/\Chg (λk=>k=b) w h/\(box b t (c g)).holds h/\
    ∀p∈d g,p.holds h/\p.own=false/\∀k,p.fp k->w.heap.size<=k\/(al=true/\∃q∈a,q.fp k)
def FPostB(P:Program)(i:Func)(h:World)(d:List Pc)(al:Bool)(b:Nat)(t:TypeId){G:Type}(φ:G->Prop)(val:G->Value)(a:G->Array Value)(c:G->List Pc):Exit->Act->World->Prop:=
  bodyPost P i λe f => ∃ g, e = .returned (val g) /\ φ g /\ Chg (λk => k = b) h f /\ (box b t (a g)).holds f /\
        ∀p∈c g,p.holds f/\p.own=false/\∀k,p.fp k->h.heap.size<=k\/(al=true/\∃q∈d,q.fp k)
end Go.Sky
namespace Go.Sky
open Go.RowKit Below
variable{cs:Array Value}{v:Value}{k:Nat}{p:Pc}{ops:Array Oper}{rest:List Oper}
variable {P:Program} {N:Nat} {sc:Nat->Prop} {env env':Yd} {H H':Hp} {Q Q':Exit->Act->World->Prop} {M:Nat->Prop}
theorem d_fld {o:Oper} {x:Operand} {t:TypeId} {f:Nat} {c:Array Field} {b:Field}   (g:o.op= .field t x f)
  (j:ev env x=some (.agg cs)) (h:P.underlying t=some (.struct c)) (e:c[f]? = some b) (d:∀w,(isAgg b.type).run P w= .ok false w) (i:cs[b.offset]? = some v):Pv P N sc o env H v:=λa w hs=>by
 simp [execOp,g,hs.ev j,Instr.field,run_underlying h,e,asAgg,part,d,i]
abbrev SL:=Option Addr×Nat×Nat
abbrev Qu (s:SL):Value:= .slice s.1 s.2.1 s.2.2
theorem Pd{α:Type}{enc:α->Value}{xs:List α}(i:Nat)(hi:lk H i=some p)(d:Rd p k enc v xs):∀a w,Sat N sc env H a w->∃s:SL,v=Qu s:=λa w hs=>by obtain⟨b,c,rfl,_⟩:=d w (hs.hold i p hi);exact⟨(b,xs.length,c),rfl⟩
theorem Zep{c:Code}{α:Type}{p:α->Prop}(b:∀a w,Sat N sc env H a w->∃x,p x)(h:∀x,p x->E P N sc c Q env H):E P N sc c Q env H:=λa w hs=>by obtain⟨x,d⟩:=b a w hs;exact h x d a w hs
theorem Zk4{e:Exit}{α:Type}{p:α->Prop}(b:∀a w,Sat N sc env H a w->∃x,p x)(h:∀x,p x->X N sc e Q env H):X N sc e Q env H:=λa w hs=>by obtain⟨x,c⟩:=b a w hs;exact h x c a w hs
theorem l_ex{α:Type}{p:α->Prop}(b:∀a w,Sat N sc env H a w->∃x,p x)(h:∀x,p x->L P N sc ops rest Q env H):L P N sc ops rest Q env H:=λa w hs=>by obtain⟨x,c⟩:=b a w hs;exact h x c a w hs
def Gm{β:Type}(q:β->Pc)(e:List β):Pc:=
 {own:=false,fp:=λb=>∃z∈e,(q z).fp b,holds:=λw=>∀z∈e,(q z).holds w
  lt:=λw b h d=>by obtain⟨z,c,d⟩:=d;exact(q z).lt w b (h z c) d
  stable:=λw l h a z c=>(q z).stable w l (h z c) ⟨a.os,a.tape,a.output,a.size,λk g i=>a.block k g (λf=>i (λj=>f ⟨z,c,j⟩))⟩ }
def Nd{β:Type}(k:Nat)(enc:β->Value)(q:β->Pc)(v:Value)(c:List β):Pc:=
 {own:=false,fp:=λb=>(c≠[]/\v.ownBlock=some b)\/∃z∈c,(q z).fp b,holds:=λw=>(Ou k enc v c).holds w/\(Gm q c).holds w
  lt:=λw b h d=>by
   rcases d with d|d
   .exact(Ou k enc v c).lt w b h.1 d
   .exact(Gm q c).lt w b h.2 d
  stable:=λw j h a=>⟨(Ou k enc v c).stable w j h.1 ⟨a.os,a.tape,a.output,a.size,λk f g=>a.block k f (λe=>g (λi=>e (.inl i)))⟩,
   (Gm q c).stable w j h.2 ⟨a.os,a.tape,a.output,a.size,λk f g=>a.block k f (λe=>g (λi=>e (.inr i)))⟩⟩ }
def Yl{β:Type}{enc:β->Value}{q:β->Pc}{a:List β} : Rd (Nd k enc q v a) k enc v a:=λw h=>h.1.1
theorem s_sub{q:Pc}(i j:Nat)(hi:lk H i=some p)(g:Nat.beq i 0=false)(o:p.own=false)(n:∀w,p.holds w->q.holds w)(l:∀b,q.fp b->p.fp b)(r:q.own=false):∀a w,Sat N sc env H a w->Sat N sc env ((j,q)::H) a w:=λa w hs=>
 hs.add j q (n w (hs.hold i p hi)) (λm s _ h Ih b d f=>by
  rcases Ih with Ih|Ih
  .rw [r]at Ih;cases Ih
  .by_cases c:m=i
   .subst c;rw [hi]at h;cases h;rw [o]at Ih;cases Ih
   .exact hs.sep m i s p c h hi Ih b f (l b d)) (λb d=>hs.scope i p (λe=>by subst e;simp at g) hi b (l b d))
theorem Ym (i:Nat){β:Type}{a:List β}{d:β}(h:i<a.length):a.getD i d∈a:=by rw [aA,aF h];exact gO h
theorem Zh9{q r:Pc}(i j n:Nat)(hi:lk H i=some p)(g:lk H j=some q)(o:Nat.beq i 0=false)(s:Nat.beq j 0=false)(z:p.own=false)(t:q.own=false)(y:∀w,p.holds w->q.holds w->r.holds w)(u:∀b,r.fp b->p.fp b\/q.fp b)(B:r.own=false) :
  ∀a w,Sat N sc env H a w->Sat N sc env ((n,r)::H) a w:=λa w hs=>
 hs.add n r (y w (hs.hold i p hi) (hs.hold j q g)) (λl x _ c Ih b m f=>by
  rcases Ih with Ih|Ih
  .rw [B]at Ih;cases Ih
  .rcases u b m with h|h
   .by_cases d:l=i
    .subst d;rw [hi]at c;cases c;rw [z]at Ih;cases Ih
    .exact hs.sep l i x p d c hi Ih b f h
   .by_cases d:l=j
    .subst d;rw [g]at c;cases c;rw [t]at Ih;cases Ih
    .exact hs.sep l j x q d c g Ih b f h) (λb m=>by
  rcases u b m with h|h
  .exact hs.scope i p (λe=>by subst e;simp at o) hi b h
  .exact hs.scope j q (λe=>by subst e;simp at s) g b h)
def Iy{β:Type}{enc:β->Value}{q:β->Pc}{e:List β}(i j n:Nat)(hi:lk H i=some (Ou k enc v e))(l:lk H j=some (Gm q e))(c:Nat.beq i 0=false)(d:Nat.beq j 0=false) :
  ∀a w,Sat N sc env H a w->Sat N sc env ((n,Nd k enc q v e)::H) a w:=
 Zh9 i j n hi l c d rfl rfl (λw f g=>⟨f,g⟩) (λb h=>h) rfl
theorem Mx{β:Type}(q:β->Pc)(n:Nat):∀a w,Sat N sc env H a w->Sat N sc env ((n,Gm q ([]:List β))::H) a w:=λa w hs=>
 hs.add n _ (λz c=>by cases c) (λf g _ _ Ih b d e=>by obtain⟨z,c,_⟩:=d;cases c) (λb d=>by obtain⟨z,c,_⟩:=d;cases c)
theorem Nn{β:Type}{q:β->Pc}{g:List β}{z:β}(i j n:Nat)(hi:lk H i=some (Gm q g))(o:lk H j=some (q z))(d:Nat.beq i 0=false)(e:Nat.beq j 0=false)(r:(q z).own=false) :
  ∀a w,Sat N sc env H a w->Sat N sc env ((n,Gm q (g ++ [z]))::H) a w:=
 Zh9 i j n hi o d e rfl r (λw l m y f=>by
  rcases bG.1 f with h|h
  .exact l y h
  .rw [aY.1 h];exact m) (λb c=>by
  obtain⟨y,f,c⟩:=c;rcases bG.1 f with h|h
  .exact .inl ⟨y,h,c⟩
  .rw [aY.1 h]at c;exact .inr c) rfl
end Go.Sky
namespace Go.Sky
open Go.RowKit Below
variable{ks:List Nat}{ops:Array Oper}{d:Nat}{rest:List Oper}{ty:TypeId}{pos:String}
variable {P:Program} {N:Nat} {sc:Nat->Prop} {env env':Yd} {H H':Hp} {Q Q':Exit->Act->World->Prop} {M:Nat->Prop}
def Off(H:Hp)(ks:List Nat):Nat->Prop:=λx=>∀k∈ks,∀p,lk H k=some p->¬p.fp x
def Agr(a H:Hp):List Nat->Prop
 | []=>True
 | k::r=>lk H k=lk a k/\Agr a H r
theorem Agr.mem{b H:Hp} : ∀{ks:List Nat},Agr b H ks->∀k∈ks,lk H k=lk b k
 | k::r,h,j,a=>by
  cases a with
  | head=>exact h.1
  | tail _ a=>exact Agr.mem h.2 j a
def rst(ks:List Nat):Hp->Hp
 | []=>[]
 | (i,p)::r=>cond (ks.any (Nat.beq i)) ((i,p)::rst ks r) (rst ks r)
theorem Ew(ks:List Nat):∀(H:Hp) (i:Nat) (p:Pc),lk (rst ks H) i=some p->i∈ks/\lk H i=some p
 | [],_,_,h=>by cases h
 | (j,q)::r,i,p,h=>by
  unfold rst at h;cases hb:ks.any (Nat.beq j)with
  | true=>
   rw [hb]at h;simp only [cond_true]at h;by_cases c:j=i
   .subst c;rw [Zp]at h ⊢;obtain⟨x,k,g⟩:=List.any_eq_true.1 hb;have:=cP g;subst this;exact⟨k,h⟩
   .rw [Zg c]at h ⊢;exact Ew ks r i p h
  | false=>
   rw [hb]at h;simp only [cond_false]at h;obtain⟨b,f⟩:=Ew ks r i p h;refine⟨b,?_⟩;have a:j≠i:=λe=>by subst e;have:ks.any (Nat.beq j)=true:=List.any_eq_true.2 ⟨j,b,O6⟩;rw [hb]at this;cases this
   rw [Zg a];exact f
theorem Fx {id:Nat} {l:List Oper} (ks:List Nat) (ts:List Nat) 
  (h:A P N sc (Off H ks) l.toArray ts Q l.length (Array.replicate l.length false) env H) (a:P.follows .mixedOrders=true:=by kernel_rfl):E P N sc (.region id l.toArray true) Q env H:=Fy (Off H ks) ts h a
theorem stf{o:Oper}{v:Value}{g:Hp}(u:Pv P N sc o env (rst ks H) v)(m:Agr g H ks):Stb P N sc (Off g ks) o env H v:=λa w hs k c=>by refine u a k ⟨hs.size,hs.defers,hs.env,λi b hi=>?_,λi j b x f hi p=>hs.sep i j b x f (Ew _ _ _ _ hi).2 (Ew _ _ _ _ p).2,λi b l hi=>hs.scope i b l (Ew _ _ _ _ hi).2⟩;obtain⟨h,e⟩:=Ew _ _ _ _ hi;refine b.stable w k (hs.hold i b e) ⟨c.os,c.tape,c.output,c.size,λq t r=>c.block q t (λs=>r (λn=>?_))⟩;exact s i h b (by rw [<-m.mem i h];exact e) n
theorem s_eqp{p q:Pc}(i:Nat)(h:p=q)(hi:lk H i=some p)(b:Nat.beq i 0=false):∀a w,Sat N sc env H a w->Sat N sc env ((i,q)::H) a w:=λa w hs=>by subst h;exact s_conv i hi rfl (λ_ h=>h) (λ_ h=>h) b a w hs
theorem Sat.yieldedu{a:Act}{w:World}(h:Sat N sc env H a w){j:Nat}(e:(ops[j]?).bind (·.dst)=some d)(c:lk env d=some undef):Go.yielded ops a.tmps j=none:=by
 have b:=h.env d _ c;unfold Go.yielded;rw [e];simp only [Option.bind_some];rw [bA]at b;cases hx:a.tmps[d]? with
 | none=>rfl
 | some v=>rw [hx]at b;simp only [Option.getD_some]at b;subst b;rfl
theorem gsku      {c:Array Edge} {f:Op} {j e:Nat} {b:Bool} (l:(ops[j]?).bind (·.dst)=some e) (k:lk env e=some undef) (i:Nat.blt d N=true)
  (h:L P N sc ops rest Q ((d,undef)::env) H):L P N sc ops (⟨some d,f,ty,pos,c,some (j,b)⟩::rest) Q env H:=λa w hs=>
 wpList_step λK g=>by
  have n:=hs.yieldedu l k;have m:Region.wanted ⟨some d,f,ty,pos,c,some (j,b)⟩ (yielded ops a.tmps)=false:=by simp [Region.wanted,n]
  rw [m,aG O6];exact g _ _ (h _ _ (hs.put d undef i))
def nop:Pc:={ own:=false,fp:=λ_=>False,holds:=λ_=>True,lt:=λ_ _ _ h=>h.elim,stable:=λ_ _ _ _=>trivial }
end Go.Sky
namespace Go.Sky
def U_pos:0<U:=by simp [U]
def len256(x:Nat):(dg 256 x).length=(bl x+7)/8:=by
 have a:∀k,(dg 256 x).length<=k↔(bl x+7)/8<=k:=λk=>by rw [Mn O,show 256^k=2^(8*k) by rw [show 256=2^8 from rfl,<-Nat.pow_mul],<-Oo];omega
 have b:=(a (dg 256 x).length).1 (aH _);have c:=(a ((bl x+7)/8)).2 (aH _);omega
def hi(x m w:Nat):Nat:=x/256^m*256^m/U^w%U
def bl_mul{x y:Nat}:bl (x*y)<=bl x+bl y:=by
 rw [Oo,eO];rcases cE y with rfl|a
 .rw [Nat.mul_zero];exact eI (cF O) (cF O)
 .exact iC (Zb8 x) (bP (Zb8 y)) (cF O)
def Ziy {x y:Nat} (l:x<U) (m:y<U) {hi o:Nat}
  (j:hi=(((x/4294967296)*(y/4294967296)%U+(((x/4294967296)*(y &&& 4294967295)%U+((x &&& 4294967295)*(y &&& 4294967295)%U)/4294967296)%U)/4294967296)%U +
   (((((x/4294967296)*(y &&& 4294967295)%U+((x &&& 4294967295)*(y &&& 4294967295)%U)/4294967296)%U &&& 4294967295)+(x &&& 4294967295)*(y/4294967296)%U)%U)/4294967296)%U)
  (v:o=x*y%U):hi=x*y/U:=by
 have k:∀n:Nat,n &&& 4294967295=n%4294967296:=λn=>Nat.and_two_pow_sub_one_eq_mod n 32;subst j;simp only [k];have h:=fU x 4294967296;have i:=fU y 4294967296;have u:=gN x (show 4294967296>0 by omega);have t:=gN y (show 4294967296>0 by omega);have f:x/4294967296<=4294967295:=by simp only [U]at l;omega
 have g:y/4294967296<=4294967295:=by simp only [U]at m;omega
 generalize x/4294967296=a at *;generalize x%4294967296=b at *;generalize y/4294967296=c at *;generalize y%4294967296=d at *;subst h;subst i;have e:(4294967296*a+b)*(4294967296*c+d)=18446744073709551616*(a*c)+4294967296*(a*d)+4294967296*(b*c)+b*d:=by rw [dB,lG,lG,Nat.mul_mul_mul_comm,kI 4294967296 a d,Nat.mul_left_comm b 4294967296 c];omega
 rw [e];have w:a*c<=4294967295*4294967295:=bT f g;have z:a*d<=4294967295*4294967295:=bT f O;have B:b*c<=4294967295*4294967295:=bT O g;have D:b*d<=4294967295*4294967295:=bT O O;generalize a*c=p at *;generalize a*d=q at *;generalize b*c=r at *;generalize b*d=s at *;simp only [U];omega
set_option maxRecDepth 20000
def dvI(u v a b q r:Nat):Prop:=q*a+r=u/\q<=4294967297/\(u*4294967296+v)/(a*4294967296+b)<=q
section
variable {u v y1 y0 q r:Nat}
end
end Go.Sky
namespace Go.Sky
set_option maxRecDepth 20000
end Go.Sky

