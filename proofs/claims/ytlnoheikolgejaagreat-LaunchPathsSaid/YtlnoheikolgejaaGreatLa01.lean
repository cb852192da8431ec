/- Rules, arithmetic and contracts: part 2. No conditions but those that each theorem names. -/
import Derived.Test.YtlnoheikolgejaaGreatLa00
import Derived.Laws.Externs
import Derived.Lib.SliceRun
import Derived.Great.BuildSlice
import Derived.Laws.Small
import Derived.Laws.StructEq
set_option linter.all false
namespace Go.Sky
open Go.RowKit Below
variable{op:Op}{b b':Bool}{cs:Array Value}{c:Code}{ch:Hp}{p:Pc}{n':Int}{k' kd:IntKind}{ats:Array TypeId}{w:World}
variable {P:Program} {N:Nat} {sc:Nat->Prop} {env env':Xz} {H H':Hp} {Q Q':Exit->Act->World->Prop} {M:Nat->Prop}
section
variable {ops:Array Oper} {rest:List Oper} {d:Nat} {ty:TypeId} {pos:String} {af:Array Edge} {v:Value} {x:Operand}
theorem dt(e:Nf P N sc ⟨some d,op,ty,pos,af,none⟩ env H v)(h:L P N sc ops rest Q ((d,v)::env) H)(a:Nat.blt d N=true:=by rfl) :
  L P N sc ops (⟨some d,op,ty,pos,af,none⟩::rest) Q env H:=l_det rfl rfl a e h
theorem tt {o:Oper} {G:Type} {φ:G->Prop} {a:G->Xz} {e:G->Hp} (i:T P N sc (λ_=>True) o env H φ a e) 
  (h:∀g,φ g->L P N sc ops rest Q (a g) (e g)) (f:o.guard=none:=by rfl):L P N sc ops (o::rest) Q env H:=l_step f i h
theorem Bb  {j e:Nat}  (k:Nf P N sc ⟨some d,op,ty,pos,af,some (j,b)⟩ env H v) (i:(ops[j]?).bind (·.dst)=some e) (g:lk env e=some (.bool b))  
  (h:L P N sc ops rest Q ((d,v)::env) H) (a:Nat.blt e N=true:=by rfl) (f:Nat.blt d N=true:=by rfl):L P N sc ops (⟨some d,op,ty,pos,af,some (j,b)⟩::rest) Q env H:=l_gdet rfl i g a rfl f k h
def gsk  {j e:Nat}  (k:(ops[j]?).bind (·.dst)=some e) (i:lk env e=some (.bool b')) (a:(b' == b)=false) (f:Nat.blt e N=true) (g:Nat.blt d N=true)
  (h:L P N sc ops rest Q ((d,undef)::env) H):L P N sc ops (⟨some d,op,ty,pos,af,some (j,b)⟩::rest) Q env H:=Yhw rfl k i f a rfl g h
def gtt {o:Oper} {G:Type} {φ:G->Prop} {a:G->Xz} {i:G->Hp} {j e:Nat}  (n:T P N sc (λ_=>True) o env H φ a i) (l:o.guard=some (j,b)) (m:(ops[j]?).bind (·.dst)=some e) (k:lk env e=some (.bool b)) (f:Nat.blt e N=true)
  (h:∀g,φ g->L P N sc ops rest Q (a g) (i g)):L P N sc ops (o::rest) Q env H:=Yhv l m k f n h
end
section
variable {ops:Array Oper} {F:Xz->Hp->Prop} {rest:List (Nat×Nat)} {i:Nat} {o:Oper}
def Stb(P:Program)(N:Nat)(sc:Nat->Prop)(M:Nat->Prop)(o:Oper)(env:Xz)(H:Hp)(v:Value):Prop:=
 ∀a w,Sat N sc env H a w->∀e,Chg M w e->(execOp a.eval o).run P e= .ok (.value v) e
def Qv{v:Value}(f:Nf P N sc o env H v):Stb P N sc (λ_=>False) o env H v:=λa w hs g e=>f a g (hs.chg0 e)
theorem st1{v:Value}(k:Nat){b:Nat}{t:TypeId}(y:lk H k=some (box b t cs))(D:Nf P N sc o env (drp k H) v):Stb P N sc (λx=>x=b) o env H v:=λa w hs n l=>by
 refine D a n ?_;have f:Sat N sc env (drp k H) a w:=⟨hs.size,hs.defers,hs.env,λi g hi=>hs.hold i g (Ih _ _ _ _ hi).2,
  λi j g G h hi u=>hs.sep i j g G h (Ih _ _ _ _ hi).2 (Ih _ _ _ _ u).2,λi g r hi=>hs.scope i g r (Ih _ _ _ _ hi).2⟩
 refine⟨f.size,f.defers,f.env,λi g hi=>?_,f.sep,f.scope⟩;obtain⟨h,m⟩:=Ih _ _ _ _ hi;refine g.stable w n (f.hold i g hi) ⟨l.os,l.tape,l.output,l.size,λq B z=>l.block q B (λe=>z (λs=>?_))⟩;subst e;exact hs.sep k i _ g (gR h) y m rfl q rfl s
theorem r0{d:Nat}{v:Value}(hs:Stb P N sc M o env H v)(k:ops[i]? = some o)(j:o.guard=none)(g:o.dst=some d)(f:Nat.blt d N=true)(h:LD P N sc M ops F rest ((d,v)::env) H) :
  LD P N sc M ops F ((i,0)::rest) env H:=⟨o,d,v,k,g,f,λa w e=>⟨by simp [Region.wanted,j],hs a w e⟩,h⟩
theorem r0g {d j e:Nat}  {v:Value} (hs:Stb P N sc M o env H v) (r:ops[i]? = some o) (n:o.guard=some (j,b)) (q:(ops[j]?).bind (·.dst)=some e) (m:lk env e=some (.bool b)) (l:o.dst=some d) 
  (h:LD P N sc M ops F rest ((d,v)::env) H) (g:Nat.blt e N=true:=by rfl) (k:Nat.blt d N=true:=by rfl) :
  LD P N sc M ops F ((i,0)::rest) env H:=⟨o,d,v,r,l,k,λa w f=>⟨by simp [Region.wanted,n,f.yielded q m g],hs a w f⟩,h⟩
theorem r1{G:Type}{φ:G->Prop}{e:G->Xz}{f:G->Hp}(l:T P N sc M o env H φ e f)(k:ops[i]? = some o)(j:o.guard=none)(h:∀g,φ g->LD P N sc M ops F rest (e g) (f g)) :
  LD P N sc M ops F ((i,1)::rest) env H:=⟨o,G,φ,e,f,k,λa w _=>by simp [Region.wanted,j],l,h⟩
theorem r1g {G:Type} {φ:G->Prop} {f:G->Xz} {l:G->Hp} {j e:Nat}  (t:T P N sc M o env H φ f l) (s:ops[i]? = some o) (q:o.guard=some (j,b)) (r:(ops[j]?).bind (·.dst)=some e) (n:lk env e=some (.bool b)) (m:Nat.blt e N=true)
  (h:∀g,φ g->LD P N sc M ops F rest (f g) (l g)) :
  LD P N sc M ops F ((i,1)::rest) env H:=⟨o,G,φ,f,l,s,λa w k=>by simp [Region.wanted,q,k.yielded r n m],t,h⟩
theorem r3{G:Type}{φ:G->Prop}{e:G->Xz}{f:G->Hp}(l:T P N sc (λ_=>True) o env H φ e f)(k:ops[i]? = some o)(j:o.guard=none)(h:∀g,φ g->LD P N sc M ops F rest (e g) (f g)) :
  LD P N sc M ops F ((i,3)::rest) env H:=⟨o,G,φ,e,f,k,λa w _=>by simp [Region.wanted,j],l,h⟩
theorem r2 {d j e:Nat}  (s:ops[i]? = some o) (q:o.guard=some (j,b)) (r:(ops[j]?).bind (·.dst)=some e) (n:lk env e=some (.bool b')) (g:(b' == b)=false) (k:Nat.blt e N=true) (m:o.dst=some d) (l:Nat.blt d N=true)
  (h:LD P N sc M ops F rest ((d,undef)::env) H) :
  LD P N sc M ops F ((i,2)::rest) env H:=⟨o,d,s,m,l,λa w f=>by simp [Region.wanted,q,f.yielded r n k];simpa using g,h⟩
def r_fin(h:F env H):LD P N sc M ops F [] env H:=h
theorem Zcg{o:Oper}{d:Nat}{v:Value}(h:Nf P N sc o env H v)(g:o.dst=some d)(f:Nat.blt d N=true):T P N sc M o env H (G:=Unit) (λ_=>True) (λ_=>(d,v)::env) (λ_=>H):=λa w hs K Q e=>by unfold Oper.wp;rw [h a w hs];show K (a.put o.dst v) w;rw [g];exact e () _ _ aA (hs.put d v f) (Chg.refl _ _)
end
def Yjt{G:Type}(N:Nat)(sc:Nat->Prop)(cs:Xz)(ch:Hp)(j:G->Xz)(h:G->Hp)(f:G->Prop)(μ:G->Nat)(g:G):Act->World->Prop:=
 λa w=>∃e,f e/\μ e<μ g/\Sat N sc (j e ++ cs) (h e ++ ch) a w
def e_lp  {G:Type} (cs:Xz) (ch:Hp) (j:G->Xz) (h:G->Hp) (a:G->Prop) (μ:G->Nat) (f:G) (l:a f) (hs:Sub (j f ++ cs) env) (k:HSub (h f ++ ch) H)
  (e:∀g,a g->E P N sc c (Exit.then (Yjt N sc cs ch j h a μ g) Q) (j g ++ cs) (h g ++ ch)) :
  E P N sc (.loop c) Q env H:=e_loop (λg=>j g ++ cs) (λg=>h g ++ ch) a μ f l hs k e
def x_rnd{G:Type}{cs:Xz}{k:G->Xz}{j:G->Hp}{h:G->Prop}{μ:G->Nat}{g:G}(e:G)(l:h e)(m:μ e<μ g)(hs:Sub (k e ++ cs) env)(n:HSub (j e ++ ch) H) :
  X N sc .normal (Exit.then (Yjt N sc cs ch k j h μ g) Q) env H:=λa w f=>⟨e,l,m,f.weaken hs n⟩
def JnK{G:Type}(N:Nat)(sc:Nat->Prop)(cs:Xz)(ch:Hp)(h:G->Xz)(f:G->Hp)(e:G->Prop):Act->World->Prop:=
 λa w=>∃g,e g/\Sat N sc (h g ++ cs) (f g ++ ch) a w
theorem e_jn {x y:Code} {G:Type} (cs:Xz) (ch:Hp) (l:G->Xz) (k:G->Hp) (h:G->Prop) (n:Sub cs env) (m:HSub ch H)
  (r:E P N sc x (Exit.then (JnK N sc cs ch l k h) Q) env H)
  (s:∀g,h g->E P N sc y Q (l g ++ cs) (k g ++ ch)):E P N sc (.seq x y) Q env H:=λa w hs=>by
 refine wp_seq (Code.wp_mono (λe a w j=>?_) (r a w hs));cases e with
 | normal=>obtain⟨g,q,f⟩:=j;exact s g q a w f
 | _=>exact j
def x_jn{G:Type}{cs:Xz}{j:G->Xz}{h:G->Hp}{f:G->Prop}(g:G)(k:f g)(hs:Sub (j g ++ cs) env)(l:HSub (h g ++ ch) H) :
  X N sc .normal (Exit.then (JnK N sc cs ch j h f) Q) env H:=λa w e=>⟨g,k,e.weaken hs l⟩
def Zl(hi:∀a w,Sat N sc env H a w->Sat N sc env' H' a w)(h:E P N sc c Q env' H'):E P N sc c Q env H:=λa w hs=>h a w (hi a w hs)
def Zr{e:Exit}(hi:∀a w,Sat N sc env H a w->Sat N sc env' H' a w)(h:X N sc e Q env' H'):X N sc e Q env H:=λa w hs=>h a w (hi a w hs)
def Zo{ops:Array Oper}{rest:List Oper}(hi:∀a w,Sat N sc env H a w->Sat N sc env' H' a w)(h:L P N sc ops rest Q env' H'):L P N sc ops rest Q env H:=λa w hs=>h a w (hi a w hs)
def Qf{p:Prop}(e:∀a w,Sat N sc env H a w->p)(h:p->E P N sc c Q env H):E P N sc c Q env H:=λa w hs=>h (e a w hs) a w hs
def Zyp{e:Exit}{p:Prop}(f:∀a w,Sat N sc env H a w->p)(h:p->X N sc e Q env H):X N sc e Q env H:=λa w hs=>h (f a w hs) a w hs
theorem Zl0(i:Nat){q:Pc}(hi:lk H i=some p)(u:q.own=p.own)(s:∀w,p.holds w->q.holds w)(m:∀b,q.fp b->p.fp b)(z:Nat.beq i 0=false):∀a w,Sat N sc env H a w->Sat N sc env ((i,q)::H) a w:=λa w hs=>by
  have I:i≠0:=λe=>by subst e;simp at z
  refine⟨hs.size,hs.defers,hs.env,λj r f=>?_,λj G r y h f g D b n l=>?_,λj r B f b n=>?_⟩
  .by_cases k:i=j
   .subst k;rw [Zv]at f;cases f;exact s w (hs.hold i p hi)
   .rw [Zm k]at f;exact hs.hold j r f
  .by_cases k:i=j
   .subst k;rw [Zv]at f;cases f;rw [Zm h]at g;exact hs.sep i G p y h hi g (by rw [<-u];exact D) b (m b n) l
   .rw [Zm k]at f;by_cases t:i=G
    .subst t;rw [Zv]at g;cases g;exact hs.sep j i r p h f hi D b n (m b l)
    .rw [Zm t]at g;exact hs.sep j G r y h f g D b n l
  .by_cases k:i=j
   .subst k;rw [Zv]at f;cases f;exact hs.scope i p I hi b (m b n)
   .rw [Zm k]at f;exact hs.scope j r B f b n
theorem Xj{α:Type}{t:TypeId}{k:Nat}{e:TypeId}{enc:α->Value}{v:Value}{xs:List α}(i:Nat)(hi:lk H i=some (Pt k e enc v xs))(s:Nat.beq i 0=false)(I:Enc P t k enc):∀a w,Sat N sc env H a w->Sat N sc env ((i,Yg k enc v xs)::H) a w:=λa w hs=>by
  have G:i≠0:=λe=>by subst e;simp at s
  refine⟨hs.size,hs.defers,hs.env,λj m f=>?_,λj D m z r f g y b l n=>?_,λj m u f b l=>?_⟩
  .by_cases h:i=j
   .subst h;rw [Zv]at f;cases f;have B:=hs.hold i _ hi;exact⟨Dr I.cells B,λb l=>(B.lt b l.2).2⟩
   .rw [Zm h]at f;exact hs.hold j m f
  .by_cases h:i=j
   .subst h;rw [Zv]at f;cases f;cases y
   .rw [Zm h]at f;by_cases q:i=D
    .subst q;rw [Zv]at g;cases g;exact hs.sep j i m _ r f hi y b l n.2
    .rw [Zm q]at g;exact hs.sep j D m z r f g y b l n
  .by_cases h:i=j
   .subst h;rw [Zv]at f;cases f;exact hs.scope i _ G hi b l.2
   .rw [Zm h]at f;exact hs.scope j m u f b l
abbrev U:Nat:=18446744073709551616
theorem Zgs(n:Nat):IntKind.u64.wrap (n:Int)=((n%U:Nat):Int):=by rw [Zll];simp [U]
theorem Zbq{n:Nat}(h:n<U):IntKind.u64.wrap (n:Int)=(n:Int):=by rw [Zgs,aW h]
section
variable {o:Oper} {t t':TypeId} {x y:Operand} {m n:Nat}
theorem Dl(a:o.op= .binOp .add t x y t')(e:ev env x=some (.int .u64 (m:Int)))(f:ev env y=some (.int .u64 (n:Int))):Nf P N sc o env H (.int .u64 (((m+n)%U:Nat):Int)):=Gv a e f λw=>by rw [<-Zgs];simp [binOp,Op.intArith]
theorem Eg(a:o.op= .binOp .mul t x y t')(e:ev env x=some (.int .u64 (m:Int)))(f:ev env y=some (.int .u64 (n:Int))):Nf P N sc o env H (.int .u64 (((m*n)%U:Nat):Int)):=Gv a e f λw=>by rw [<-Zgs];simp [binOp,Op.intArith]
theorem Zcf(a:o.op= .binOp .sub t x y t')(e:ev env x=some (.int .u64 (m:Int)))(f:ev env y=some (.int .u64 (n:Int)))(g:n<U:=by decide):Nf P N sc o env H (.int .u64 (((m+(U-n))%U:Nat):Int)):=Gv a e f λw=>by
 have:((m:Int)-(n:Int))%18446744073709551616=(((m+(U-n))%U:Nat):Int):=by simp only [U]at *;omega
 rw [<-this,<-Zll];simp [binOp,Op.intArith]
theorem Zyz(j:o.op= .binOp .quo t x y t')(k:ev env x=some (.int .u64 (m:Int)))(l:ev env y=some (.int .u64 (n:Int)))(h:m<U:=by omega)(q:0<n:=by omega):Nf P N sc o env H (.int .u64 ((m/n:Nat):Int)):=Gv j k l λw=>by
 have a:m/n<U:=bA (fQ m n) h;have e:(m:Int).tdiv (n:Int)=((m/n:Nat):Int):=by rw [lD O];simp
 have f:=Zbq a;have g:¬((n:Int)=0):=O;simp only [binOp,ne_eq,iQ,mU,Op.intDiv,g,e,f,Sem.run_pure]
theorem u_rem(e:o.op= .binOp .rem t x y t')(f:ev env x=some (.int .u64 (m:Int)))(g:ev env y=some (.int .u64 (n:Int)))(h:0<n):Nf P N sc o env H (.int .u64 ((m%n:Nat):Int)):=Gv e f g λw=>by
 have a:(m:Int).tmod (n:Int)=((m%n:Nat):Int):=by rw [lE O];simp
 simp [binOp,Op.intDiv,show ¬n=0 by omega,a]
theorem Zb0(m:Nat):BitVec.ofInt 64 (m:Int)=BitVec.ofNat 64 m:=by apply BitVec.eq_of_toNat_eq;simp
theorem Yfs(h:o.op= .binOp .or t x y t')(j:ev env x=some (.int .u64 (m:Int)))(k:ev env y=some (.int .u64 (n:Int)))(a:m<U)(e:n<U):Nf P N sc o env H (.int .u64 ((m ||| n:Nat):Int)):=Gv h j k λw=>by
 have f:m ||| n<U:=jT (n:=64) a e;have g:(BitVec.ofInt 64 (m:Int) ||| BitVec.ofInt 64 (n:Int)).toNat=m ||| n:=by rw [Zb0,Zb0,BitVec.toNat_or,jM,jM,aW a,aW e]
 simp only [binOp,ne_eq,iQ,mU,Op.intBits,Sem.run_pure];rw [show(BitVec.ofInt IntKind.u64.bits (m:Int) ||| BitVec.ofInt IntKind.u64.bits (n:Int)).toNat=m ||| n from g,Zbq f]
theorem Zn9(h:o.op= .binOp .and t x y t')(j:ev env x=some (.int .u64 (m:Int)))(k:ev env y=some (.int .u64 (n:Int)))(a:m<U:=by omega)(g:n<U:=by decide):Nf P N sc o env H (.int .u64 ((m &&& n:Nat):Int)):=Gv h j k λw=>by
 have e:m &&& n<U:=bA Nat.and_le_left a;have f:(BitVec.ofInt 64 (m:Int) &&& BitVec.ofInt 64 (n:Int)).toNat=m &&& n:=by rw [Zb0,Zb0,BitVec.toNat_and,jM,jM,aW a,aW g]
 simp only [binOp,ne_eq,iQ,mU,Op.intBits,Sem.run_pure];rw [show(BitVec.ofInt IntKind.u64.bits (m:Int) &&& BitVec.ofInt IntKind.u64.bits (n:Int)).toNat=m &&& n from f,Zbq e]
theorem Zj8{k:IntKind}(j:o.op= .binOp .shl t x y t')(l:ev env x=some (.int .u64 (m:Int)))(q:ev env y=some (.int k n'))(e:n'=(n:Int))(r:n<=64:=by omega):Nf P N sc o env H (.int .u64 (((m*2^n)%U:Nat):Int)):=λa w hs=>by
 subst e;have f:min n 64=n:=O;have g:IntKind.u64.wrap ((m:Int)*2^n)=(((m*2^n)%U:Nat):Int):=by rw [<-Zgs];simp
 have h:¬((n:Int)<0):=O;simp [execOp,j,hs.ev l,hs.ev q,eqGuard,binOp,Op.shift,IntKind.bits,f,g,h]
theorem Zj7{k:IntKind}(j:o.op= .binOp .shr t x y t')(l:ev env x=some (.int .u64 (m:Int)))(q:ev env y=some (.int k n'))(e:n'=(n:Int))(r:n<=64:=by omega):Nf P N sc o env H (.int .u64 ((m/2^n:Nat):Int)):=λa w hs=>by
 subst e;have f:min n 64=n:=O;have g:(m:Int).fdiv (2^n)=((m/2^n:Nat):Int):=by rw [Int.fdiv_eq_ediv_of_nonneg _ (by exact Int.pow_nonneg O)];simp
 have h:¬((n:Int)<0):=O;simp [execOp,j,hs.ev l,hs.ev q,eqGuard,binOp,Op.shift,IntKind.bits,f,g,h]
theorem Hl (n':Nat){k:IntKind}(e:o.op= .binOp .shr t x y t')(g:ev env x=some (.int .u64 (m:Int)))(h:ev env y=some (.int k (n:Int)))(a:Nat.ble n 64=true)(f:2^n=n'):Nf P N sc o env H (.int .u64 ((m/n':Nat):Int)):=by rw [<-f];exact Zj7 e g h rfl (by simpa using a)
theorem Ze7{k:IntKind}{r:Int}{m:Int}(f:o.op= .convert t t' x)(j:ev env x=some (.int k m)){ds:TypeDesc}(e:P.underlying t=some ds)(h:P.underlying t'=some (.int k'))(g:k'.wrap m=r):Nf P N sc o env H (.int k' r):=λa w hs=>by subst g;cases ds<;>simp [execOp,f,hs.ev j,convert,run_underlying e,run_underlying h,Conv.intToInt]
end
theorem Zgh {o:Oper} {x y:Operand}  {k:IntKind} {m n:Int} (e:o.op= .call { callee:= .builtin .max,args:=#[x,y],argTypes:=ats })
  (f:ev env x=some (.int k m)) (g:ev env y=some (.int k n)):Nf P N sc o env H (.int k (max m n)):=λa w hs=>by
 simp [execOp,e,resolve,hs.ev f,hs.ev g,invoke,builtin,Builtin.max_,Builtin.max2];by_cases h:n>m
 .rw [aF h];omega
 .rw [aD h];omega
def Ic(v:Value)(n:Nat):Value:=match v with
 | .slice a _ c=> .slice a n c
 | u=>u
theorem Ik(v:Value)(n:Nat):(Ic v n).ownBlock=v.ownBlock:=by
 cases v with
 | slice a l c=>cases a<;>rfl
 | _=>rfl
theorem Ydp (ii:Nat)(i:Nat) {α:Type} {o:Oper} {x y:Operand} {t e:TypeId} {v:Value} {k:Nat}  {m:Int}  {enc:α->Value} {xs:List α} (l:o.op= .slice t x none (some y) none)
  (s:ev env x=some v) (u:ev env y=some (.int kd m)) (G:lk H ii=some p) (I:Rd p k enc v xs) (r:P.underlying t=some (.slice e)) (g:∀w,(sizeOf e).run P w= .ok k w)
   (h:m=(i:Int):=by omega) (j:i<=xs.length:=by omega):Nf P N sc o env H (Ic v i):=λa w hs=>by
 obtain⟨z,c,rfl,D,R,S⟩:=I w (hs.hold ii p G);subst h;have f:i<=c:=aB j D;have B:∀q:Addr,q.add 0=q:=λq=>by simp [Addr.add]
 cases z with
 | none=>simp [execOp,l,hs.ev s,hs.ev u,Instr.sliceAt,Instr.slice,Instr.sliceBounds,Instr.sliceBound,asIntOf,run_underlying r,g,f,Ic]
 | some q=>simp [execOp,l,hs.ev s,hs.ev u,Instr.sliceAt,Instr.slice,Instr.sliceBounds,Instr.sliceBound,asIntOf,run_underlying r,g,f,Ic,B]
theorem Zfj{α:Type}{k:Nat}{enc:α->Value}{v:Value}{xs:List α}(n:Nat)(r:n<=xs.length)(h:RowAt w k enc v xs):RowAt w k enc (Ic v n) (xs.take n):=by
 obtain⟨a,c,rfl,q,l,e⟩:=h;have j:(xs.take n).length=n:=by rw [aU];omega
 refine⟨a,c,by rw [j];rfl,by rw [j];omega,l,?_⟩;rcases e with rfl|⟨g,f,rfl,e⟩
 .exact .inl O7
 .refine .inr ⟨g,f,rfl,λi x hi=>e i x ?_⟩;rw [cP]at hi;split at hi
  .exact hi
  .cases hi
theorem Zsh{α:Type}{v:Value}{xs:List α}{n b:Nat}(h:xs.take n≠[]/\(Ic v n).ownBlock=some b):xs≠[]/\v.ownBlock=some b:=
 ⟨λe=>h.1 (by rw [e,List.take_nil]),by rw [<-Ik v n];exact h.2⟩
theorem s_pre{α:Type}{k:Nat}{enc:α->Value}{v:Value}{xs:List α}(i j n:Nat)(hi:lk H i=some (Yg k enc v xs))(l:Nat.beq i 0=false)(u:n<=xs.length:=by omega):∀a w,Sat N sc env H a w->Sat N sc env ((j,Yg k enc (Ic v n) (xs.take n))::H) a w:=
 λa w hs=>hs.add j _ ⟨Zfj n u (hs.hold i _ hi).1,λb f=>(hs.hold i _ hi).2 b (Zsh f)⟩
  (λr B z q Lj b f h=>by
   rcases Lj with Lj|Lj
   .cases Lj
   .have s:=Zsh f;by_cases g:r=i
    .subst g;rw [hi]at q;cases q;cases Lj
    .exact hs.sep r i B _ g q hi Lj b h s)
  (λb f=>hs.scope i _ (λe=>by subst e;simp at l) hi b (Zsh f))
theorem Yg3{α:Type}{k:Nat}{e:TypeId}{enc:α->Value}(s:∀x,(enc x).cells.size=k){v:Value}{xs:List α}(n:Nat)(u:n<=xs.length)(h:w.ownsRow 0 e k v xs.length (cellsOf enc xs)) :
  w.ownsRow 0 e k (Ic v n) (xs.take n).length (cellsOf enc (xs.take n)):=by
 have G:(xs.take n).length=n:=by rw [aU];omega
 refine⟨by rw [Yx s],?_⟩;rw [G];rcases h.2 with⟨rfl,S⟩|⟨g,f,j,rfl,B,D,I,l,q,a⟩
 .have:n=0:=O;subst this;exact .inl ⟨rfl,rfl⟩
 .refine .inr ⟨g,f,j,rfl,B,D,O,l,q,?_⟩;have z:∀(xs:List α) (n:Nat),n<=xs.length->cellsOf enc (xs.take n)=(cellsOf enc xs).take (n*k):=by
   intro xs
   induction xs with
   | nil=>intro n h;simp [cellsOf]
   | cons x r R=>
    intro n h;cases n with
    | zero=>simp [cellsOf]
    | succ n=>
     have:=R n (by simpa using h);simp only [cellsOf,kU,gU]at this ⊢;rw [this,show(n+1)*k=(enc x).cells.toList.length+n*k from by simp [s,bI];omega,kW]
  rw [z xs n u,<-a,jU,dM (aM k u)]
theorem Zz7{α:Type}{t:TypeId}{k:Nat}{e:TypeId}{enc:α->Value}{v:Value}{xs:List α}(i n:Nat)(hi:lk H i=some (Pt k e enc v xs))(f:Nat.beq i 0=false)(j:Enc P t k enc)(l:n<=xs.length) :
  ∀a w,Sat N sc env H a w->Sat N sc env ((i,Pt k e enc (Ic v n) (xs.take n))::H) a w:=
 Zl0 i hi rfl (λw h=>Yg3 j.cells n l h) (λb g=>by simpa [Pt,Ik]using g) f
theorem Py{α:Type}{k:Nat}{enc:α->Value}{v:Value}{xs:List α}(i:Nat)(hi:lk H i=some p)(e:Rd p k enc v xs):∀a w,Sat N sc env H a w->xs.length<=9223372036854775807:=λa w hs=>by obtain⟨f,c,rfl,g,h,_⟩:=e w (hs.hold i p hi);have j:maxLen=9223372036854775807:=rfl;omega
theorem Zbw(v:Value)(m n:Nat):Ic (Ic v m) n=Ic v n:=by cases v<;>rfl
theorem Yc3{α:Type}{k:Nat}{enc:α->Value}{v:Value}{xs:List α}(i:Nat)(hi:lk H i=some p)(e:Rd p k enc v xs):∀a w,Sat N sc env H a w->Ic v xs.length=v:=λa w hs=>by obtain⟨f,c,rfl,_⟩:=e w (hs.hold i p hi);rfl
end Go.Sky
namespace Go.Sky
open Go.RowKit Below
variable{f:FuncId}{vs:List Value}{pre r:List Pc}{args cs:Array Value}{o:Oper}{x y:Operand}{t tb:TypeId}{b d:Nat}{v:Value}{w0:World}{M0:Nat->Prop}{ops:Array Oper}{rest:List Oper}{parts:Array (Nat×Operand)}
variable {P:Program} {N:Nat} {sc:Nat->Prop} {env env':Xz} {H H':Hp} {Q Q':Exit->Act->World->Prop} {M:Nat->Prop}
def Qd:Nat->List Value->Xz
  | _,[]=>[]
  | n,v::r=>(n,v)::Qd (n+1) r
def Yr:Nat->List Pc->Hp
  | _,[]=>[]
  | n,p::r=>(n,p)::Yr (n+1) r
def AllRo:List Pc->Prop
  | []=>True
  | p::r=>p.own=false/\AllRo r
theorem AllRo.mem:∀{l:List Pc},AllRo l->∀p∈l,p.own=false
  | p::r,h,q,a=>by
    cases a with
    | head=>exact h.1
    | tail _ a=>exact AllRo.mem h.2 q a
theorem Hc:∀(l:List Value) (n t:Nat) (v:Value),lk (Qd n l) t=some v->n<=t/\l[t-n]? = some v
  | [],_,_,_,h=>by cases h
  | u::r,n,t,v,h=>by
    simp only [Qd]at h;by_cases a:n=t
    . subst a;rw [Zv]at h;cases h;simp
    . rw [Zm a]at h;obtain⟨e,c⟩:=Hc r (n+1) t v h;refine⟨O,?_⟩;rw [show t-n=(t-(n+1))+1 by omega];simpa using c
theorem Oe:∀(l:List Pc) (n t:Nat) (v:Pc),lk (Yr n l) t=some v->n<=t/\v∈l
  | [],_,_,_,h=>by cases h
  | u::r,n,t,v,h=>by
    simp only [Yr]at h;by_cases a:n=t
    . subst a;rw [Zv]at h;cases h;simp
    . rw [Zm a]at h;obtain⟨e,c⟩:=Oe r (n+1) t v h;exact⟨O,bJ _ c⟩
theorem cal_in  {fn:Func} {c:Code}   {al:Bool} {G:Type} {φ:G->Prop} {val:G->Value} {a:G->List Pc} {N:Nat}
    (s:P.funcs[f]? = some fn) (n:fn.body=some c) (m:fn.ntmps=N) (j:Nat.ble vs.length N=true) (k:AllRo pre)
    (h:∀w0 (sc:Nat->Prop),(∀b,w0.heap.size<=b->sc b)->(∀b,sc b->w0.heap.size<=b\/∃q∈pre,q.fp b)->
      E P N sc c (Zag P fn w0 pre al φ val a) (Qd 0 vs) ((0,Yt w0 (λ_=>False))::Yr 1 pre)) :
    Cal P f vs.toArray pre al φ val a:=
  Zye (λw0=>(0,Yt w0 (λ_=>False))::Yr 1 pre) s n m (env0:=Qd 0 vs) (λt v u=>by simpa using(Hc vs 0 t v u).2) (by simpa using j)
    (λw i p hi=>by
      by_cases g:0=i
      . subst g;rw [Zv]at hi;cases hi;exact .inl ⟨rfl,rfl⟩
      . rw [Zm g]at hi;obtain⟨_,l⟩:=Oe pre 1 i p hi;exact .inr ⟨λe=>g e.symm,l,k.mem p l⟩) h
theorem Cal.bare{al a:Bool}{G:Type}{φ:G->Prop}{val:G->Value}{i:G->List Pc}(h:Cal P f args pre al φ val i):Cal P f args pre a φ val (λ_=>[]):=
  λw c=>(h w c).mono λe m ⟨g,k,l,j,_⟩=>⟨g,k,l,j,λp c=>by cases c⟩
def Ones(N:Nat)(sc:Nat->Prop)(env:Xz)(H:Hp):List Value->Prop
  | []=>True
  | v::r=>One N sc env H v/\Ones N sc env H r
theorem Ones.mem:∀{l:List Value},Ones N sc env H l->∀u∈l,One N sc env H u
  | v::r,h,u,a=>by
    cases a with
    | head=>exact h.1
    | tail _ a=>exact Ones.mem h.2 u a
def t_stp    {i j k:Nat} {cs':Array Value}     (q:o.op= .store t x y) (n:o.dst=none)
    (z:ev env x=some (.pointer (some ⟨b,j,none⟩))) (B:ev env y=some v) (l:lk H i=some (box b tb cs)) (e:i≠0) (s:v.cells=vs.toArray) (p:∀w,(sizeOf t).run P w= .ok k w) (c:vs.length=k)
    (a:Nat.ble (j+vs.length) cs.size=true) (h:Ones N sc env H vs)
    (g:lk H 0=some (Yt w0 M0)) (u:∀b,w0.heap.size<=b->sc b) (m:M b) :
    T P N sc M o env H (G:=Unit) (λ_=>True) (λ_=>env) (λ_=>(i,box b tb (Ip cs j vs))::H):=
  Zf1 _ q n z B l e s p c (iO a) h.mem rfl g u m
theorem Zkd (i:Nat)    {k:Nat}      (n:o.op= .store t x y) (l:o.dst=none)
    (u:ev env x=some (.pointer (some ⟨b,0,none⟩))) (z:ev env y=some v) (h:lk H i=some (box b tb cs)) (q:v.cells=vs.toArray) (m:∀w,(sizeOf t).run P w= .ok k w) (a:vs.length=k)
    (p:cs.size=k) (g:Ones N sc env H vs)
    (e:lk H 0=some (Yt w0 M0)) (s:∀b,w0.heap.size<=b->sc b) (j:M b) (c:i≠0:=by decide) :
    T P N sc M o env H (G:=Unit) (λ_=>True) (λ_=>env) (λ_=>(i,box b tb vs.toArray)::H):=
  Zf1 _ n l u z h c q m a O g.mem (by unfold Ip;rw [dY,gE (by rw [dC];omega)];simp) e s j
theorem Zxz{al:Bool}{α:Type}{k:Nat}{e:TypeId}{enc:α->Value}{xs ys:List α}(i:Nat)(hi:lk H i=some (Pt k e enc v xs))(c:Nat.beq i 0=false)(g:Enc P t k enc)(a:xs=ys)(h:Give H al r) :
    Give H al (Yg k enc v ys::r):=by subst a;exact Ycl i hi c g h
theorem Zi2{p q:Pc}(i:Nat)(hi:lk H i=some p)(c:Nat.beq i 0=false)(e:p.own=false)(a:p=q)(h:Give H true r) :
    Give H true (q::r):=by subst a;exact Ig i hi c e h
theorem Nv (d:Nat)    {b:Bool} (g:lk env d=some (.bool b))
    (i:b=true->L P N sc ops rest Q ((d,.bool true)::env) H) (h:b=false->L P N sc ops rest Q ((d,.bool false)::env) H):L P N sc ops rest Q env H:=by
  cases b with
  | true=>
    refine λa w hs=>i rfl a w ⟨hs.size,hs.defers,λt v c=>?_,hs.hold,hs.sep,hs.scope⟩;by_cases e:d=t
    . subst e;rw [Zv]at c;cases c;exact hs.env _ _ g
    . rw [Zm e]at c;exact hs.env _ _ c
  | false=>
    refine λa w hs=>h rfl a w ⟨hs.size,hs.defers,λt v c=>?_,hs.hold,hs.sep,hs.scope⟩;by_cases e:d=t
    . subst e;rw [Zv]at c;cases c;exact hs.env _ _ g
    . rw [Zm e]at c;exact hs.env _ _ c
theorem Gt (i:Nat)(n:Nat)(c:Nat) {α:Type}  {e:TypeId} {k:Nat}   {m:Int}   {enc:α->Value} {ti:TypeInfo} (q:α)
    (V:o.op= .makeSlice t x y) (I:o.dst=some d) (Z:ev env x=some (.int .i64 m)) (hy:ev env y=some (.int .i64 m)) 
    (W:P.underlying t=some (.slice e)) (hi:P.info? e=some ti) (hz:ti.zero=some (enc q)) (R:∀x,(enc x).cells.size=k) (h:0<k) (l:ti.size=k) (j:ti.bytes=c)
     
    (u:lk H 0=some (Yt w0 M0)) (Y:∀b,w0.heap.size<=b->sc b) (B:Nat.blt d N=true:=by rfl) (S:m=(n:Int):=by omega) (D:c*n<=281474976710656:=by omega) (g:0<c:=by decide) :
    T P N sc M o env H (G:=Value) (λ_=>True) (λv=>(d,v)::env) (λv=>(i,Pt k e enc v (List.replicate n q))::H):=λa w hs K Q z=>
  t_mk q V I B Z hy S W hi hz R h l j D g u Y a w hs K Q λb s w' _ p F=>z (.slice (some ⟨b,0,none⟩) n n) s w' aA p F
def t_bsn {α:Type}  {e:TypeId} {k n:Nat}  {i:Nat}    {enc:α->Value} (xs:List α)
    (B:o.op= .buildSlice t n parts) (q:o.dst=some d) (m:Nat.blt d N=true)
    (D:∀a w,Sat N sc env H a w->(Instr.buildSlice t n (parts.map λ(i,x)=>(i,a.eval x))).run P w= .ok (.slice (some ⟨w.heap.size,0,none⟩) n n) (w.alloc (.cells cs e)))
    (c:cs.toList=cellsOf enc xs) (z:xs.length=n) (s:∀x,(enc x).cells.size=k) (u:n<=maxLen)
    (j:lk H 0=some (Yt w0 M0)) (F:∀b,w0.heap.size<=b->sc b) :
    T P N sc M o env H (G:=Value) (λ_=>True) (λv=>(d,v)::env) (λv=>(i,Pt k e enc v xs)::H):=λa w hs K Q l=>
  t_bs xs B q m D c z s u j F a w hs K Q λb h I _ g p=>l (.slice (some ⟨b,0,none⟩) n n) h I aA g p
end Go.Sky
namespace Go.Sky
open Go.RowKit Below
variable{a b m:Nat}{o:Oper}{f:FuncId}{xs:List Operand}{ats:Array TypeId}{vs:List Value}{x y z:Operand}{t t':TypeId}{v:Value}{p:Pc}
variable {P:Program} {N:Nat} {sc:Nat->Prop} {env env':Xz} {H H':Hp} {Q Q':Exit->Act->World->Prop} {M:Nat->Prop}
def Zcx:Array Value->Sem Value:=λc=>do
 let (x, y, b) ← Extern.MathBitsCarry.three "Sub64" c
 pure (Extern.MathBitsCarry.pair ((x+Extern.MathBitsCarry.m64-y-b)%Extern.MathBitsCarry.m64) (if x<y+b then 1 else 0))
theorem Zw5{P:Program}(x y c:Nat)(d:c<=1)(w:World) :
  (Zcx #[.int .u64 x,.int .u64 y,.int .u64 c]).run P w =
   .ok (.tuple #[.int .u64 (((x+U-y-c)%U:Nat):Int),.int .u64 ((if x<y+c then 1 else 0:Nat):Int)]) w:=by
 have:c=0\/c=1:=O;rcases this with rfl|rfl<;>rfl
theorem Ia {a:Act} {w:World} (hs:Sat N sc env H a w)      (e:o.op= .call { callee:= .value (.func f),args:=xs.toArray,argTypes:=ats })
  (c:EvL env xs vs):(execOp a.eval o).run P w=(callFunc f vs.toArray).run P w:=by
 have d:=c.map hs;simp [execOp,e,resolve,invoke,Act.eval,Deferred.ofValue,d]
theorem Zng (c:Nat)      (i:o.op= .call { callee:= .value (.func f),args:=#[x,y,z],argTypes:=ats })
  (j:ev env x=some (.int .u64 (a:Int))) (k:ev env y=some (.int .u64 (b:Int))) (l:ev env z=some (.int .u64 (c:Int))) (n:c<=1)
  (d:∀args w,(callFunc f args).run P w=((add64Entry args).run P w).andThen λv w'=> .ok (.value v) w') :
  Nf P N sc o env H (.tuple #[.int .u64 (((a+b+c)%U:Nat):Int),.int .u64 (((a+b+c)/U:Nat):Int)]):=λs w hs=>by
 have h:=run_add64 (P:=P) (a:Int) b c O O O O w;have e:(((a:Int)+b+c)%18446744073709551616)=(((a+b+c)%U:Nat):Int):=by simp only [U];omega
 have g:(((a:Int)+b+c)/18446744073709551616)=(((a+b+c)/U:Nat):Int):=by simp only [U];omega
 rw [e,g]at h;rw [Ia hs (xs:=[x,y,z]) (vs:=[_,_,_]) i ⟨j,k,l,aA⟩,d,h];rfl
def brw(a b c:Nat):Nat:=if a<b+c then 1 else 0
theorem brw_le{c:Nat}:brw a b c<=1:=by unfold brw;split<;>omega
theorem Yir     {c:Nat} (g:o.op= .call { callee:= .value (.func f),args:=#[x,y,z],argTypes:=ats })
  (i:ev env x=some (.int .u64 (a:Int))) (j:ev env y=some (.int .u64 (b:Int))) (k:ev env z=some (.int .u64 (c:Int))) (e:c<=1)
  (d:∀args w,(callFunc f args).run P w=((Zcx args).run P w).andThen λv w'=> .ok (.value v) w') :
  Nf P N sc o env H (.tuple #[.int .u64 (((a+U-b-c)%U:Nat):Int),.int .u64 (brw a b c:Int)]):=λs w hs=>by
 have h:=Zw5 (P:=P) a b c e w;rw [Ia hs (xs:=[x,y,z]) (vs:=[_,_,_]) g ⟨i,j,k,aA⟩,d,h];rfl
theorem Zex{k:IntKind}{ds:TypeDesc}(d:o.op= .convert t t' x)(g:ev env x=some (.int k (m:Int)))(c:P.underlying t=some ds)(e:P.underlying t'=some (.int .u8)) :
  Nf P N sc o env H (.int .u8 ((m%256:Nat):Int)):=Ze7 d g c e (by simp [IntKind.wrap,IntKind.bits,IntKind.signed])
def Zsr{k:IntKind}{ds:TypeDesc}(e:o.op= .convert t t' x)(h:ev env x=some (.int k (m:Int)))(c:P.underlying t=some ds)(g:P.underlying t'=some (.int .u64))(d:m<U) :
  Nf P N sc o env H (.int .u64 (m:Int)):=Ze7 e h c g (Zbq d)
def Zbf{k:IntKind}{m:Int}{ds:TypeDesc}(e:o.op= .convert t t' x)(h:ev env x=some (.int k m))(c:P.underlying t=some ds)(g:P.underlying t'=some (.int .i64))(d:Me m) :
  Nf P N sc o env H (.int .i64 m):=Ze7 e h c g (Zcr d)
theorem Mx(t:Nat){v':Value}(e:lk env t=some v)(h:v=v'):∀a w,Sat N sc env H a w->Sat N sc ((t,v')::env) H a w:=λa w hs=>by
 subst h;refine⟨hs.size,hs.defers,λs u c=>?_,hs.hold,hs.sep,hs.scope⟩;by_cases d:t=s
 .subst d;rw [Zv]at c;cases c;exact hs.env _ _ e
 .rw [Zm d]at c;exact hs.env _ _ c
theorem Nt(i j:Nat)(hi:lk H i=some p)(h:Nat.beq i 0=false)(l:p.own=false):∀a w,Sat N sc env H a w->Sat N sc env ((j,p)::H) a w:=λa w hs=>
 hs.add j p (hs.hold i p hi) (λn q _ k Lj b d g=>by
  rcases Lj with Lj|Lj
  .rw [l]at Lj;cases Lj
  .by_cases c:n=i
   .subst c;rw [hi]at k;cases k;rw [l]at Lj;cases Lj
   .exact hs.sep n i q p c k hi Lj b g d) (λb d=>hs.scope i p (λe=>by subst e;simp at h) hi b d)
theorem Zjm (P:Program)(w:World)(f:Value->ByteArray->Sem (ForInStep ByteArray))(c:∀(n:Nat) (r:ByteArray),f (.int .u8 (n:Int)) r=pure (.yield (r.push (UInt8.ofNat n)))):∀(l:List Nat) (s:ByteArray),
  (forIn (m:=Sem) (l.map λn:Nat=>Value.int .u8 (n:Int)) s f).run P w= .ok (l.foldl (λs n=>s.push (UInt8.ofNat n)) s) w
 | [],s=>rfl
 | n::r,s=>by have d:=Zjm P w f c r (s.push (UInt8.ofNat n));simp only [bN,List.forIn_cons,c,Sem.run_bind,Sem.run_pure,Result.andThen_ok,gP];exact d
theorem Zi4:∀(l:List Nat) (s:ByteArray),l.foldl (λs n=>s.push (UInt8.ofNat n)) s=⟨s.data ++ (l.map UInt8.ofNat).toArray⟩
 | [],s=>O7
 | n::r,s=>by rw [gP,Zi4 r];simp [ByteArray.push]
theorem d_b2s  {e:TypeId}   {i:Nat}  {xs:List Nat} (V:o.op= .convert t t' x) (s:ev env x=some v) (R:lk H i=some p) (W:Rd p 1 (λn:Nat=>Value.int .u8 (n:Int)) v xs)
  (Y:P.underlying t=some (.slice e)) (D:P.underlying t'=some .string) (S:P.underlying e=some (.int .u8)):Nf P N sc o env H (.string ⟨(xs.map UInt8.ofNat).toArray⟩):=λa w hs=>by
 obtain⟨B,c,rfl,Z,h2,G⟩:=W w (hs.hold i p R);have l:(Conv.bytesToString (.slice B xs.length c)).run P w= .ok (.string ⟨(xs.map UInt8.ofNat).toArray⟩) w:=by
  cases B with
  | none=>
   rcases G with rfl|⟨g,F,h,_⟩
   .rfl
   .cases h
  | some q=>
   have d:(loadCells q xs.length).run P w= .ok (xs.map λn:Nat=>Value.int .u8 (n:Int)).toArray w:=by
    have:=run_loadCells_list (P:=P) w q (xs.map λn:Nat=>Value.int .u8 (n:Int)) (λj u k=>by
     rcases G with rfl|⟨g,F,h,I⟩
     .simp at k
     .cases h;rw [dZ]at k;cases s:xs[j]? with
      | none=>rw [s]at k;cases k
      | some y=>
       rw [s]at k;cases k;have:=I j y s 0 (.int .u8 (y:Int)) rfl;rw [Pb];simpa using this)
    simpa using this
   simp only [Conv.bytesToString,Sem.run_bind,d,Result.andThen_ok];simp only [List.forIn_toArray];rw [Zjm P w _ (λn r=>rfl) xs ByteArray.empty,Zi4];simp [ByteArray.empty,ByteArray.emptyWithCapacity];rfl
 have:(convert t t' (.slice B xs.length c)).run P w= .ok (.string ⟨(xs.map UInt8.ofNat).toArray⟩) w:=by simp only [convert,Sem.run_bind,run_underlying Y,run_underlying D,Result.andThen_ok,run_underlying S,l]
 simp only [execOp,V,hs.ev s];simp [this]
end Go.Sky
namespace Go.Sky
open Go.RowKit Below
variable{o:Oper}{f:FuncId}{xs:List Operand}{ats:Array TypeId}{d i:Nat}{vs:List Value}{pre:List Pc}{w0:World}{M0:Nat->Prop}{fn:Func}{v:Value}{x y:Operand}{t:TypeId}{p:Pc}{kd:IntKind}
variable {P:Program} {N:Nat} {sc:Nat->Prop} {env env':Xz} {H H':Hp} {Q Q':Exit->Act->World->Prop} {M:Nat->Prop}
def Yju(P:Program)(f:FuncId)(args:Array Value)(pre:List Pc){G:Type}(φ:G->Prop)(val:G->Value)(a:G->Pc):Prop:=
 ∀w,(∀p∈pre,p.holds w)->Calls P f args w λe c=>∃g,e= .returned (val g)/\φ g/\Below w.heap.size w c/\(a g).holds c/\∀b,(a g).fp b->w.heap.size<=b
theorem Zlv (n:Nat)        {G:Type} {φ:G->Prop} {val:G->Value} {r:G->Pc}  
  (V:Yju P f vs.toArray pre φ val r)
  (ho:o.op= .call { callee:= .value (.func f),args:=xs.toArray,argTypes:=ats }) (W:o.dst=some d) (S:Nat.blt d N=true)
  (h:EvL env xs vs) (k:∀args w,(callFunc f args).run P w= .ok (.enter f args) w) (q:PreOk H false pre)
  (I:lk H 0=some (Yt w0 M0)) (hw:∀b,w0.heap.size<=b->sc b) :
  T P N sc M o env H φ (λg=>(d,val g)::env) (λg=>(n,r g)::H):=λa w hs K Q R=>by
 have hr:(execOp a.eval o).run P w= .ok (.enter f vs.toArray) w:=by rw [Ia hs ho h,k]
 unfold Oper.wp;rw [hr];refine(V w (λp hp=>by obtain⟨i,r,_,hi,m,_,_⟩:=q.mem p hp;exact m w (hs.hold i r hi))).mono ?_
 rintro e F ⟨g,rfl,Y,c,z,l⟩;show K (a.put o.dst (val g)) F;rw [W];have B:Sat N sc env H a F:=hs.chg0 (Chg.of_below c);refine R g _ _ Y (Sat.put (B.add n (r g) z (λj D _ Z _ b s u=>?_) (λb s=>hw b (aB (hs.hold 0 _ I).size (l b s)))) d _ S) (Chg.of_below c);have:=D.lt w b (hs.hold j D Z) u;have:=l b s;omega
def Yfc(P:Program)(fn:Func)(w0:World){G:Type}(φ:G->Prop)(val:G->Value)(a:G->Pc):Exit->Act->World->Prop:=
 bodyPost P fn λe c=>∃g,e= .returned (val g)/\φ g/\Below w0.heap.size w0 c/\(a g).holds c/\∀b,(a g).fp b->w0.heap.size<=b
theorem Zv8   {c:Code}   {G:Type} {φ:G->Prop} {val:G->Value} {D:G->Pc} {N:Nat}
  (R:P.funcs[f]? = some fn) (g:fn.body=some c) (F:fn.ntmps=N) (m:Nat.ble vs.length N=true) (z:AllRo pre)
  (h:∀w0 (sc:Nat->Prop),(∀b,w0.heap.size<=b->sc b)->(∀b,sc b->w0.heap.size<=b\/∃q∈pre,q.fp b)->
   E P N sc c (Yfc P fn w0 φ val D) (Qd 0 vs) ((0,Yt w0 (λ_=>False))::Yr 1 pre)) :
  Yju P f vs.toArray pre φ val D:=λw V=>by
 refine calls_of_wp R g (h w (λb=>w.heap.size<=b\/∃q∈pre,q.fp b) (λb g=> .inl g) (λb g=>g) _ w ?_);have m:vs.length<=N:=by simpa using m
 have a:∀i p,lk ((0,Yt w (λ_=>False))::Yr 1 pre) i=some p->(i=0/\p=Yt w (λ_=>False))\/(i≠0/\p∈pre/\p.own=false):=λi p hi=>by
   by_cases l:0=i
   .subst l;rw [Zv]at hi;cases hi;exact .inl ⟨rfl,rfl⟩
   .rw [Zm l]at hi;obtain⟨_,k⟩:=Oe pre 1 i p hi;exact .inr ⟨λe=>l e.symm,k,z.mem p k⟩
 refine⟨by simp [F];omega,rfl,λt v W=>?_,λi p hi=>?_,λi j p q S hi Y u b g I=>?_,λi p r hi b g=>?_⟩
 .have B:vs.toArray[t]? = some v:=by simpa using(Hc vs 0 t v W).2
  have s:=(aO.1 B).1;rw [bH,eR s,B];rfl
 .rcases a i p hi with⟨_,rfl⟩|⟨_,k,_⟩
  .exact Chg.refl _ w
  .exact V p k
 .rcases a i p hi with⟨_,rfl⟩|⟨_,k,n⟩
  .cases u
  .rw [n]at u;cases u
 .rcases a i p hi with⟨l,_⟩|⟨_,k,_⟩
  .exact absurd l r
  .exact .inr ⟨p,k,g⟩
theorem Zlk  {G:Type} {φ:G->Prop} {val:G->Value} {l:G->Pc}  {e:Exit} (z:e= .ret\/e= .normal)
  (g:G)  (k:∀a w,Sat N sc env H a w->(results fn a.tmps).run P w= .ok v w) (F:val g=v) (B:φ g) (s:lk H 0=some (Yt w0 (λ_=>False)))
  (i:Nat) (q:Nat.beq i 0=false) (hi:lk H i=some (l g)) (j:(l g).own=true) :
  X N sc e (Yfc P fn w0 φ val l) env H:=λa w hs=>by
 have c:i≠0:=λe=>by subst e;simp at q
 have m:a.defers=[]/\∃v,(results fn a.tmps).run P w= .ok v w/\(∃g,Ending.returned v= .returned (val g)/\φ g/\Below w0.heap.size w0 w/\(l g).holds w/\∀b,(l g).fp b->w0.heap.size<=b):=by
  refine⟨hs.defers,v,k a w hs,g,by rw [F],B,Kd (hs.hold 0 _ s),hs.hold i _ hi,λb u=>?_⟩;have D:=hs.sep i 0 _ _ c hi s j b u;rcases bE b w0.heap.size with r|n
  .exact absurd ⟨r,λh=>h⟩ D
  .exact n
 rcases z with rfl|rfl
 .exact m
 .exact m
theorem Zvu{α:Type}{s e:TypeId}{k:Nat}{enc:α->Value}{xs:List α}(g:o.op= .binOp .eql t x y s)(j:ev env x=some v)(l:ev env y=some (.slice none 0 0))(m:lk H i=some p)(n:Rd p k enc v xs)(r:P.underlying t=some (.slice e)) :
  Nf P N sc o env H (.bool (v.ownBlock.isNone)):=λa w hs=>by
 obtain⟨b,c,rfl,_⟩:=n w (hs.hold i p m);have h:=Lib.run_eql_slice_nil (P:=P) w t e b xs.length c 0 0 r;cases b with
 | none=>simp [execOp,g,hs.ev j,hs.ev l,eqGuard,h,Value.ownBlock]
 | some q=>simp [execOp,g,hs.ev j,hs.ev l,eqGuard,h,Value.ownBlock]
theorem Lc (i:Nat)(j:Nat)(r:Nat) {α:Type}   {e:TypeId} {k:Nat} {u:Value} {enc:α->Value} {xs ys:List α}  {ti:TypeInfo} {z:Value}  
  (ho:o.op= .call { callee:= .builtin .append,args:=#[x,y],argTypes:=#[t,t] }) (hd:o.dst=some d) (hN:Nat.blt d N=true)
  (hx:ev env x=some v) (hy:ev env y=some u) (Y:lk H i=some (Pt k e enc v xs)) (F:i≠0) (hj:lk H j=some p) (hr:Rd p k enc u ys)
  (ht:P.underlying t=some (.slice e)) (hi:P.info? e=some ti) (hz:ti.zero=some z) (he:Enc P e k enc) (a2:ti.size=k) (a1:ti.bytes=r) (a4:z.cells.size=k)
  (Z:(xs.length+ys.length)*r<=140737488355328) (B:0<r)
  (h0:lk H 0=some (Yt w0 M0)) (hw:∀b,w0.heap.size<=b->sc b) :
  T P N sc (λ_=>True) o env H (G:=Value) (λ_=>True) (λv'=>(d,v')::env) (λv'=>(i,Pt k e enc v' (xs ++ ys))::H):=by
 by_cases S:ys=[]
 .subst S;intro a w hs K Q hK;have l:w.ownsRow 0 e k v xs.length (cellsOf enc xs):=hs.hold i _ Y;obtain⟨V,c,rfl,h1,h2,h3⟩:=hr w (hs.hold j p hj);have I:∃m n s,v= .slice m n s/\n=xs.length/\n<=s:=by
   rcases l.2 with⟨rfl,hn⟩|⟨g,W,a5,rfl,_,_,h,_⟩
   .exact⟨none,0,0,rfl,hn.symm,aK _⟩
   .exact⟨_,_,W,rfl,rfl,h⟩
  obtain⟨m,n,s,rfl,rfl,h⟩:=I;have R:(Builtin.append_ #[t,t] o.type #[.slice m xs.length s,.slice V ([]:List α).length c]).run P w= .ok (.slice m xs.length s) w:=by
   have D:(Builtin.firstCells ti.size 0 (.slice V 0 c)).run P w= .ok #[] w:=by
    cases V with
    | none=>rfl
    | some q=>simp [Builtin.firstCells,loadCells,loadCellsFrom]
   cases m with
   | none=>simp [Builtin.append_,run_underlying ht,sizeOf,typeInfo,hi,Builtin.lenOf,D,h]
   | some q=>simp [Builtin.append_,run_underlying ht,sizeOf,typeInfo,hi,Builtin.lenOf,D,h,storeCells]
  have a3:(execOp a.eval o).run P w= .ok (.value (.slice m xs.length s)) w:=by simp only [execOp,ho,resolve,invoke,builtin,Sem.run_bind,Sem.run_pure,Result.andThen_ok,gI,bN,fL,hs.ev hx,hs.ev hy,R]
  unfold Oper.wp;rw [a3];show K (a.put o.dst _) _;rw [hd];refine hK _ _ _ aA ((Sat.upd hs Y rfl F (q:=Pt k e enc (.slice m xs.length s) (xs ++ [])) (Chg.refl _ w) ?_ (λb Z=> .inl Z) h0 hw).put d _ hN) (Chg.refl _ w);rw [fE];exact l
 .exact t_app (i2:=0) ho hd hN hx hy Y F hj hr S ht hi hz he a2 a1 a4 Z B h0 hw
def Zcw(v:Value)(n k:Nat):Value:=match v with
 | .slice a l c=> .slice (if c=n then a else a.map (·.add (n*k))) (l-n) (c-n)
 | u=>u
theorem Zck(v:Value)(n k:Nat):(Zcw v n k).ownBlock=v.ownBlock:=by
 cases v with
 | slice a l c=>
  cases a with
  | none=>simp only [Zcw];split<;>rfl
  | some q=>
   simp only [Zcw];split
   .rfl
   .simp only [Option.map_some,Value.ownBlock,Addr.add];split<;>rfl
 | _=>rfl
theorem d_suf {α:Type}   {e:TypeId}  {ii k:Nat}  {m:Int}  {enc:α->Value} {xs:List α} (n:o.op= .slice t x (some y) none none)
  (s:ev env x=some v) (u:ev env y=some (.int kd m)) (j:lk H ii=some p) (q:Rd p k enc v xs) (r:P.underlying t=some (.slice e)) (h:∀w,(sizeOf e).run P w= .ok k w)
  (b:m=(i:Int)) (g:i<=xs.length):Nf P N sc o env H (Zcw v i k):=λa w hs=>by
 obtain⟨z,c,rfl,B,D,F⟩:=q w (hs.hold ii p j);subst b;have l:(i:Int)<=(xs.length:Int):=O;simp [execOp,n,hs.ev s,hs.ev u,Instr.sliceAt,Instr.slice,Instr.sliceBounds,Instr.sliceBound,asIntOf,run_underlying r,h,g,Zcw]
theorem Zkp{α:Type}{w:World}{k:Nat}{enc:α->Value}{xs:List α}(n:Nat)(z:n<=xs.length)(h:RowAt w k enc v xs):RowAt w k enc (Zcw v n k) (xs.drop n):=by
 obtain⟨a,c,rfl,r,s,l⟩:=h;refine⟨if c=n then a else a.map (·.add (n*k)),c-n,by simp only [Zcw,eJ],by rw [eJ];omega,O,?_⟩;by_cases b:xs.drop n=[]
 .exact .inl b
 .have m:n<xs.length:=by
   rcases bE n xs.length with h|h
   .exact h
   .exact absurd (gE h) b
  rcases l with rfl|⟨g,e,rfl,l⟩
  .simp at m
  .refine .inr ⟨g,e+n*k,?_,λi x hi j u q=>?_⟩
   .rw [aD O];simp [Pb]
   .rw [gJ]at hi;have:=l (n+i) x hi j u q;rw [bI]at this;rw [fT e,<-this]
theorem Zsg{α:Type}{xs:List α}{n k b:Nat}(h:xs.drop n≠[]/\(Zcw v n k).ownBlock=some b):xs≠[]/\v.ownBlock=some b:=
 ⟨λe=>h.1 (by rw [e,List.drop_nil]),by rw [<-Zck v n k];exact h.2⟩
theorem s_suf{α:Type}{k:Nat}{enc:α->Value}{xs:List α}(i j n:Nat)(hi:lk H i=some (Yg k enc v xs))(l:Nat.beq i 0=false)(s:n<=xs.length):∀a w,Sat N sc env H a w->Sat N sc env ((j,Yg k enc (Zcw v n k) (xs.drop n))::H) a w:=
 λa w hs=>hs.add j _ ⟨Zkp n s (hs.hold i _ hi).1,λb c=>(hs.hold i _ hi).2 b (Zsg c)⟩
  (λq z u m Lj b c h=>by
   rcases Lj with Lj|Lj
   .cases Lj
   .have r:=Zsg c;by_cases g:q=i
    .subst g;rw [hi]at m;cases m;cases Lj
    .exact hs.sep q i z _ g m hi Lj b h r)
  (λb c=>hs.scope i _ (λe=>by subst e;simp at l) hi b (Zsg c))
end Go.Sky
namespace Go.Sky
open Go.RowKit Below
variable{o:Oper}{t:TypeId}{parts:List (Nat×Operand)}{cells cs:Array Value}{z:Value}{d:Nat}{w0:World}{M0:Nat->Prop}
variable {P:Program} {N:Nat} {sc:Nat->Prop} {env env':Xz} {H H':Hp} {Q Q':Exit->Act->World->Prop} {M:Nat->Prop}
def EvP(e:Xz):List (Nat×Operand)->List (Nat×Value)->Prop
 | [],[]=>True
 | (i,x)::r,(j,v)::vs=>i=j/\ev e x=some v/\EvP e r vs
 | _,_=>False
theorem EvP.map{a:Act}{w:World}(h:Sat N sc env H a w):∀{xs:List (Nat×Operand)} {vs:List (Nat×Value)},EvP env xs vs->xs.map (λ(i,x)=>(i,a.eval x))=vs
 | [],[],_=>rfl
 | (i,x)::r,(j,v)::vs,hh=>by obtain⟨rfl,b,c⟩:=hh;simp only [bN,h.ev b,EvP.map h c]
 | [],_::_,hh=>hh.elim
 | _::_,[],hh=>hh.elim
theorem Xv (b:List (Nat×Value))      (e:o.op= .build t parts.toArray) (f:EvP env parts b)
  (c:∀a w,Sat N sc env H a w->P.built t b=some cells):Nf P N sc o env H (.agg cells):=λa w hs=>by
 have h:=run_build (P:=P) w t (parts.toArray.map λ(i,x)=>(i,a.eval x)) cells (by rw [gI,f.map hs];exact c a w hs);simp only [execOp,e,Sem.run_bind,h,Result.andThen_ok,Sem.run_pure]
 try rfl
theorem Xr  {b:TypeInfo} {a:Array Field}  {pl:List (Nat×Nat)} {parts:List (Nat×Value)}  (hi:P.info? t=some b) (g:P.underlying t=some (.struct a)) (h:b.zero=some z)
  (e:a.toList.mapM (λf=>(P.info? f.type).map λi=>(f.offset,i.size))=some pl) (c:Instr.fill (pl.toArray[·]?) z.cells parts=some cells):P.built t parts=some cells:=by
 unfold Program.built;simp only [hi,g,h,e,c]
theorem Zgm(w:World)(t e:TypeId)(a:P.underlying t=some (.slice e)){k:Nat}(hs:∀w,(sizeOf e).run P w= .ok k w) :
  (Instr.buildSlice t 0 #[]).run P w= .ok (.slice (some ⟨w.heap.size,0,none⟩) 0 0) (w.alloc (.cells #[] e)):=by
 simp [Instr.buildSlice,run_underlying a,hs,Instr.fill,newRow];rw [show(Array.range 0)=#[] by decide,Array.map_empty]
theorem Xm (c:List (Nat×Value))(i:Nat) {α:Type}  {e:TypeId} {k n:Nat}       {enc:α->Value} {ti:TypeInfo}  (xs:List α)
  (u:o.op= .buildSlice t n parts.toArray) (m:o.dst=some d) (B:EvP env parts c)
  (y:P.underlying t=some (.slice e)) (hi:P.info? e=some ti) (F:ti.zero=some z) (h:Nat.ble (n*ti.size) 16777216=true) 
  (p:Instr.fill (λi=>some (i*ti.size,ti.size)) ((List.range (n*ti.size)).map (z.cells[· % z.cells.size]!)).toArray c=some cs)
  (g:cs.toList=cellsOf enc xs) (s:xs.length=n) (q:∀x,(enc x).cells.size=k) (r:Nat.ble n 16777216=true)
  (j:lk H 0=some (Yt w0 M0)) (D:∀b,w0.heap.size<=b->sc b) (l:Nat.blt d N=true:=by rfl) (f:Nat.blt 0 (n*ti.size)=true:=by rfl) :
  T P N sc M o env H (G:=Value) (λ_=>True) (λv=>(d,v)::env) (λv=>(i,Pt k e enc v xs)::H):=
 t_bsn xs u m l (λa w hs=>run_buildSlice w t e n _ cs ti z y hi F (by have:=iO h;omega) (by have:=Nat.blt_eq▸f;simp at f;omega) (by rw [show(parts.toArray.map λ(i,x)=>(i,a.eval x)).toList=c by rw [gI,B.map hs],show(Array.range (n*ti.size)).map (z.cells[· % z.cells.size]!)=((List.range (n*ti.size)).map (z.cells[· % z.cells.size]!)).toArray by rw [<-gI,<-Array.toList_range,Array.toArray_toList]];exact p)) g s q (by have:=iO r;simp only [maxLen];omega) j D
theorem Zy6 (i:Nat) {α:Type}  {e:TypeId} {k:Nat}    {enc:α->Value} 
  (j:o.op= .buildSlice t 0 #[]) (h:o.dst=some d) (g:Nat.blt d N=true) (l:P.underlying t=some (.slice e)) (c:Enc P e k enc)
  (f:lk H 0=some (Yt w0 M0)) (m:∀b,w0.heap.size<=b->sc b) :
  T P N sc M o env H (G:=Value) (λ_=>True) (λv=>(d,v)::env) (λv=>(i,Pt k e enc v [])::H):=
 t_bsn (n:=0) (cs:=#[]) (parts:=#[]) [] j h g (λa w hs=>by rw [Array.map_empty];exact Zgm w t e l c.size) rfl rfl c.cells (by simp [maxLen]) f m
theorem Nn{α:Type}(i k:Nat)(e:TypeId)(enc:α->Value):∀a w,Sat N sc env H a w->Sat N sc env ((i,Pt k e enc (.slice none 0 0) [])::H) a w:=λa w hs=>
 hs.add i _ ⟨by simp [cellsOf],.inl ⟨rfl,rfl⟩⟩ (λj l g h Lj b c f=>by cases c) (λb c=>by cases c)
theorem f_nil{α:Type}{k:Nat}{enc:α->Value}{v:Value}{xs:List α}{p:Pc}(i:Nat)(hi:lk H i=some p)(e:Rd p k enc v xs):∀a w,Sat N sc env H a w->(v.ownBlock=none->xs=[]):=λa w hs h=>by
 obtain⟨j,c,rfl,l,m,b⟩:=e w (hs.hold i p hi);rcases b with b|⟨g,f,rfl,_⟩
 .exact b
 .cases h
end Go.Sky
namespace Go.Sky
variable{t te:TypeId}{v u:Value}{xs:List Nat}{o:Oper}{x y:Operand}{i lo:Nat}{p:Pc}{r:List Pc}{w w0:World}{cur:Array Value}{M0:Nat->Prop}
abbrev Ot (n:Nat):Value:= .int .u64 (n:Int)
abbrev Zx1 (n:Nat):Value:= .int .u8 (n:Int)
abbrev Yie (n:Nat):Value:= .int .i64 (n:Int)
abbrev Zz (n:Int):Value:= .int .i64 n
theorem Zbs(xs:List Nat):(tz xs).length<=xs.length/\xs.take (tz xs).length=tz xs:=by
 induction hn:xs.length generalizing xs with
 | zero=>
   have:xs=[]:=aE hn;subst this;simp [tz]
 | succ n d=>
  rcases Aj xs with rfl|⟨b,y,rfl⟩
  .simp at hn
  .by_cases a:y=0
   .subst a;rw [Md];obtain⟨e,c⟩:=d b (by simpa using hn);have f:b.length=n:=by simpa using hn
    exact⟨O,by rw [eZ O];exact c⟩
   .rw [Km a];exact⟨O,bM⟩
theorem Zh4{P:Program}{N:Nat}{sc:Nat->Prop}{env:Xz}{H:Hp}{enc:Nat->Value}{k:Nat}{e:TypeId}(i:Nat)(hi:lk H i=some (Pt k e enc v xs))(b:Nat.beq i 0=false)(c:Enc P t k enc) :
  ∀a w,Sat N sc env H a w->Sat N sc env ((i,Pt k e enc (Ic v (tz xs).length) (tz xs))::H) a w:=by
 have h:=Zz7 (N:=N) (sc:=sc) (env:=env) i (tz xs).length hi b c (Zbs xs).1;rwa [(Zbs xs).2]at h
abbrev Gs (v:Value) (x:Nat):Pc:=Yg 1 Ot v (dg U x)
theorem Xd:2<=U:=by simp [U]
def Xn(x:Nat):ByteArray:=⟨((dg 256 x).reverse.map UInt8.ofNat).toArray⟩
theorem Fg(x:Nat):(Xn x).size=(dg 256 x).length:=by simp [Xn,ByteArray.size]
theorem Zq3(x i:Nat)(h:i<(dg 256 x).length):((Xn x).data.toList.getD i 0).toNat=x/256^((dg 256 x).length-1-i)%256:=by
 have c:i<((dg 256 x).reverse.map UInt8.ofNat).length:=by simpa using h
 have d:(Xn x).data.toList=(dg 256 x).reverse.map UInt8.ofNat:=by simp [Xn]
 rw [d];simp only [List.getD,aH c,eI,List.getElem_map,List.getElem_reverse];have a:=Ix (b:=256) O ((dg 256 x).length-1-i) x;have e:(dg 256 x).length-1-i<(dg 256 x).length:=O;rw [show(dg 256 x).getD ((dg 256 x).length-1-i) 0=(dg 256 x)[(dg 256 x).length-1-i] by simp [List.getD,e]]at a;rw [a];simp
open Go.RowKit Below
variable {P:Program} {N:Nat} {sc:Nat->Prop} {env env':Xz} {H H':Hp} {Q Q':Exit->Act->World->Prop} {M:Nat->Prop}
theorem d_mid {α:Type}  {z:Operand} {e:TypeId}  {ii k j:Nat} {S l:IntKind} {m n:Int}  {enc:α->Value} {xs:List α} (B:o.op= .slice t x (some y) (some z) none)
  (G:ev env x=some v) (I:ev env y=some (.int S m)) (R:ev env z=some (.int l n)) (s:lk H ii=some p) (D:Rd p k enc v xs) (F:P.underlying t=some (.slice e)) (h:∀w,(sizeOf e).run P w= .ok k w)
  (d:m=(i:Int)) (f:n=(j:Int)) (b:i<=j) (g:j<=xs.length):Nf P N sc o env H (Ic (Zcw v i k) (j-i)):=λa w hs=>by
 obtain⟨V,c,rfl,W,Y,Z⟩:=D w (hs.hold ii p s);subst d f;have h4:¬(c:Int)<(j:Int):=O;have h5:¬(j:Int)<(i:Int):=O;have q:j<=c:=O;simp [execOp,B,hs.ev G,hs.ev I,hs.ev R,Instr.sliceAt,Instr.slice,Instr.sliceBounds,Instr.sliceBound,asIntOf,run_underlying F,h,g,b,q,Zcw,Ic]
theorem Zbv {α:Type} {k:Nat} {e:TypeId} {enc:α->Value}  {xs ys:List α}   (i:Nat) (hi:lk H i=some (Pt k e enc v xs)) (f:Nat.beq i 0=false) (j:Enc P t k enc)
  (c:∀w,RowAt w k enc v xs->RowAt w k enc u ys) (a:u.ownBlock=v.ownBlock) (h:PreOk H false r):PreOk H false (Yg k enc u ys::r):=
 ⟨⟨i,_,λe=>by subst e;simp at f,hi,λw g=>⟨c w (Dr j.cells g),λb d=>(g.lt b (by rw [<-a];exact d.2)).2⟩,λb d=>a.symm.trans d.2,λh=>by cases h⟩,h⟩
theorem Zg0{α:Type}{k:Nat}{enc:α->Value}{xs:List α}(lo hi:Nat)(a:lo<=hi:=by omega)(b:hi<=xs.length:=by omega):∀w,RowAt w k enc v xs->RowAt w k enc (Ic (Zcw v lo k) (hi-lo)) ((xs.drop lo).take (hi-lo)):=
 λw h=>Zfj _ (by rw [eJ];omega) (Zkp lo O h)
theorem Zhe{n k:Nat}:(Ic (Zcw v lo k) n).ownBlock=v.ownBlock:=by rw [Ik,Zck]
theorem Yaf{k:Nat}{enc:Nat->Value}{ys zs:List Nat}{n:Nat}(a:tz ys=zs)(b:n=zs.length)(h:∀w,RowAt w k enc v xs->RowAt w k enc u ys):∀w,RowAt w k enc v xs->RowAt w k enc (Ic u n) zs:=λw c=>by have:=Zfj zs.length (by rw [<-a];exact(Zbs ys).1) (h w c);rw [<-a,(Zbs ys).2]at this;rw [b,<-a];exact this
theorem Zno{α:Type}{enc:α->Value}{k:Nat}(a:∀x,(enc x).cells.size=k)(xs:List α)(n:Nat)(c:n<=xs.length):cellsOf enc (xs.take n)=(cellsOf enc xs).take (n*k):=by
 have h:=Li enc (xs.take n) (xs.drop n);rw [fC]at h;have b:(cellsOf enc (xs.take n)).length=n*k:=by rw [Yx a,aU,dM c]
 rw [h,<-b,mV]
def spl{α:Type}(xs:List α)(lo:Nat)(ys:List α):List α:=xs.take lo ++ ys ++ xs.drop (lo+ys.length)
theorem Lp{α:Type}{xs:List α}{ys:List α}(h:lo+ys.length<=xs.length):(spl xs lo ys).length=xs.length:=by simp [spl];omega
theorem Yg2 {α:Type}  {g a:Nat}  {k:Nat} {e:TypeId} {enc:α->Value} {xs ys:List α} (m:∀x,(enc x).cells.size=k) (lo:Nat) (d:lo+ys.length<=xs.length)
  (V:w.heap[g]? = some (.cells cur e (0,0))) (l:xs.length<=a) (n:a<=maxLen) (s:cur.size=a*k) (f:cur.toList.take (xs.length*k)=cellsOf enc xs) :
  (w.setRow g (cur.toList.take (lo*k) ++ cellsOf enc ys ++ cur.toList.drop (lo*k+(cellsOf enc ys).length)).toArray).ownsRow 0 e k (.slice (some ⟨g,0,none⟩) xs.length a) (spl xs lo ys).length (cellsOf enc (spl xs lo ys)):=by
 have c:cur.toList.length=a*k:=by rw [dC,s]
 have b:=Yx m ys;have z:(lo+ys.length)*k<=xs.length*k:=aM _ d;have G:xs.length*k<=a*k:=aM _ l;rw [bI]at z;refine⟨by rw [Yx m],.inr ⟨g,a,_,by rw [Lp d],bB _,setRow_heap w g cur _ e _ V,by rw [Lp d];exact l,n,?_,?_⟩⟩
 .simp only [iR,aS,aU,eJ,c,b];omega
 .rw [Lp d];have I:cellsOf enc (xs.take lo)=cur.toList.take (lo*k):=by rw [Zno m xs lo O,<-f,jU,dM O]
  have R:cellsOf enc (xs.drop (lo+ys.length))=(cur.toList.take (xs.length*k)).drop ((lo+ys.length)*k):=by have h:=Li enc (xs.take (lo+ys.length)) (xs.drop (lo+ys.length));rw [fC,<-f]at h;rw [h];exact(List.drop_left' (by rw [Yx m,aU,dM d])).symm
  rw [spl,Li,Li,I,R,b,bI];apply iP;intro q;have j:(cur.toList.take (lo*k)).length=lo*k:=by rw [aU,c];omega
  by_cases B:q<xs.length*k
  .rw [cP,aF B];by_cases S:q<lo*k+ys.length*k
   .have D:∀C,((cur.toList.take (lo*k) ++ cellsOf enc ys) ++ C)[q]? = (cur.toList.take (lo*k) ++ cellsOf enc ys)[q]?:=λC=>cQ (by rw [aS,j,b];exact S);rw [D,D]
   .have F:∀C,((cur.toList.take (lo*k) ++ cellsOf enc ys) ++ C)[q]? = C[q-(lo*k+ys.length*k)]?:=λC=>by rw [dW (by rw [aS,j,b];omega),aS,j,b]
    rw [F,F];rw [gJ,gJ,cP,aF O]
  .rw [cP,aD B,bO];simp only [aS,aU,eJ,c,b];omega
def Dst(v u:Value)(a k lo n:Nat):Prop:=∀g c,v= .slice (some ⟨g,0,none⟩) a c->a<=c->∃b,u= .slice (some ⟨g,lo*k,none⟩) n b
theorem Ydh{a k:Nat}:Dst v v a k 0 a:=λg c h _=>⟨c,by rw [h,gV]⟩
theorem Zvk{a k:Nat}{n:Nat}(h:lo<a):Dst v (Ic (Zcw v lo k) n) a k lo n:=λg c b d=>by refine⟨c-lo,?_⟩;rw [b];simp only [Zcw,Ic];rw [aD O];simp [Pb]
theorem Zw6{α:Type}{k:Nat}{enc:α->Value}{ys:List α}(b:Enc P t k enc)(h:RowAt w k enc u ys):(Builtin.firstCells k ys.length u).run P w= .ok (cellsOf enc ys).toArray w/\(Builtin.lenOf u).run P w= .ok ys.length w:=by
 obtain⟨R,c,rfl,S,D,l⟩:=h;refine⟨?_,by simp [Builtin.lenOf]⟩;rcases l with rfl|⟨g,f,rfl,l⟩
 .cases R with
  | none=>simp [Builtin.firstCells,cellsOf]
  | some q=>simp [Builtin.firstCells,cellsOf,loadCells,loadCellsFrom]
 .have B:∀q u,(cellsOf enc ys)[q]? = some u->w.cell? ((⟨g,f,none⟩:Addr).add q)=some u:=λq u G=>by
   have s:q<ys.length*k:=by rw [<-Yx b.cells ys];exact(eY.1 G).1
   have d:=b.pos;have n:q/k<ys.length:=iV (by rw [aR];exact s);have a:ys[q/k]? = some ys[q/k]:=aH n;have z:q%k<(enc ys[q/k]).cells.toList.length:=by rw [dC,b.cells];exact bR _ d
   have I:=aH z;have m:=Kv b.cells ys _ _ a _ _ I;have F:=l _ _ a _ _ I;have e:q/k*k+q%k=q:=by rw [aR];exact cM q k
   rw [e]at m;rw [fT,e]at F;rw [G]at m;cases m;rw [Pb];exact F
  have V:=Yx b.cells ys;have:=run_loadCells (P:=P) (w:=w) ⟨g,f,none⟩ (ys.length*k) (λj=>(cellsOf enc ys).getD j undef) (λj W=>B j _ (by rw [aH O];simp [List.getD,aH (show j<(cellsOf enc ys).length by omega)]));rw [show(List.range (ys.length*k)).map (λj=>(cellsOf enc ys).getD j undef)=cellsOf enc ys by
   apply iB
   .simp [V]
   .intro i S D;simp [List.getD,aH D]]at this
  exact this
theorem Ztk {α:Type} {a:Act}  {k:Nat} {e:TypeId}  {enc:α->Value} {xs ys:List α}   (hs:Sat N sc env H a w) (R:lk H i=some (Pt k e enc v xs)) (D:i≠0) (B:Enc P t k enc)
  (G:lo+ys.length<=xs.length) (hp:0<xs.length) (W:lk H 0=some (Yt w0 M0)) (Z:∀b,w0.heap.size<=b->sc b)  {n:Nat} (s:Dst v u xs.length k lo n) :
  ∃g c w',u= .slice (some ⟨g,lo*k,none⟩) n c/\(storeCells ⟨g,lo*k,none⟩ (cellsOf enc ys)).run P w= .ok () w'/\Sat N sc env ((i,Pt k e enc v (spl xs lo ys))::H) a w'/\Chg (λ_=>True) w w':=by
 have l:w.ownsRow 0 e k v xs.length (cellsOf enc xs):=hs.hold i _ R;rcases l.2 with⟨rfl,hn⟩|⟨g,d,cur,rfl,hb,S,j,z,h,f⟩
 .omega
 .obtain⟨V,s⟩:=s g d rfl j;have I:=Yx B.cells ys;have F:(lo+ys.length)*k<=d*k:=aM _ O;rw [bI]at F;have m:=run_storeCells_at P g (lo*k) e (cellsOf enc ys) 0 cur w S (by rw [I,h];omega) (λu s=>by obtain⟨y,_,hy⟩:=kD.1 s;exact B.one y u hy)
  simp only [fK]at m;exact⟨g,V,_,s,m,hs.upd R rfl D (q:=Pt k e enc (.slice (some ⟨g,0,none⟩) xs.length d) (spl xs lo ys)) (Kp (M:=λk=>(Value.slice (some ⟨g,0,none⟩) xs.length d).ownBlock=some k) rfl) (Yg2 B.cells lo G S j z h f) (λk Y=> .inl Y) W Z,Kp aA⟩
theorem t_cpy (i:Nat)(j:Nat) {α:Type}   {t' e:TypeId} {k n d:Nat} {z:Value} {enc:α->Value} {xs ys:List α}    (lo:Nat)
  (ho:o.op= .call { callee:= .builtin .copy,args:=#[x,y],argTypes:=#[t,t'] }) (W:o.dst=some d) (S:Nat.blt d N=true)
  (hx:ev env x=some u) (hy:ev env y=some z) (I:lk H i=some (Pt k e enc v xs)) (h:i≠0) (Y:lk H j=some p) (hr:Rd p k enc z ys)
  (hu:Dst v u xs.length k lo n) (Z:ys.length<=n) (l:lo+ys.length<=xs.length) (hp:0<xs.length) (ht:P.underlying t=some (.slice te)) (f:Enc P te k enc)
  (B:lk H 0=some (Yt w0 M0)) (hw:∀b,w0.heap.size<=b->sc b) :
  T P N sc (λ_=>True) o env H (G:=Unit) (λ_=>True) (λ_=>(d,.int .i64 (ys.length:Int))::env) (λ_=>(i,Pt k e enc v (spl xs lo ys))::H):=λa w hs K Q R=>by
 obtain⟨g,c,w',rfl,s,q,V⟩:=Ztk (ys:=ys) hs I h f l hp B hw hu;obtain⟨D,F⟩:=Zw6 f (hr w (hs.hold j p Y));have m:(execOp a.eval o).run P w= .ok (.value (.int .i64 (ys.length:Int))) w':=by simp [execOp,ho,resolve,invoke,builtin,hs.ev hx,hs.ev hy,Builtin.copy_,run_underlying ht,F,dM Z,f.size,D,s,goInt]
 unfold Oper.wp;rw [m];show K (a.put o.dst _) _;rw [W];exact R () _ _ aA (q.put d _ S) V
theorem t_clr {α:Type}   {e:TypeId} {k n:Nat} {zv:Value} {enc:α->Value} {xs:List α} {z:α}   (lo:Nat)
  (ho:o.op= .call { callee:= .builtin .clear,args:=#[x],argTypes:=#[t] }) (hd:o.dst=none)
  (hx:ev env x=some u) (Y:lk H i=some (Pt k e enc v xs)) (s:i≠0)
  (hu:Dst v u xs.length k lo n) (hn:0<n) (B:lo+n<=xs.length) (ht:P.underlying t=some (.slice te)) (j:Enc P te k enc)
  (hz:∀w,(zeroValue te).run P w= .ok (enc z) w) (S:k=1)
  (V:lk H 0=some (Yt w0 M0)) (hw:∀b,w0.heap.size<=b->sc b) :
  T P N sc (λ_=>True) o env H (G:=Unit) (λ_=>True) (λ_=>env) (λ_=>(i,Pt k e enc v (spl xs lo (List.replicate n z)))::H):=λa w hs K Q Z=>by
 obtain⟨g,c,w',rfl,I,F,hc⟩:=Ztk (ys:=List.replicate n z) hs Y s j (by simpa using B) O V hw hu;obtain⟨m,rfl⟩:∃m,n=m+1:=⟨n-1,O⟩;have d:(enc z).cells.toList=[(enc z).cells[0]'(by rw [j.cells];omega)]:=by
  have h:(enc z).cells.size=1:=by rw [j.cells,S]
  apply iB
  .simp [h]
  .intro i W l;simp at l;subst l;simp
 have R:(Builtin.zeroCells (enc z).cells (m+1)).toList=cellsOf enc (List.replicate (m+1) z):=by
  have h:(enc z).cells.size=1:=by rw [j.cells,S]
  have f:∀q,cellsOf enc (List.replicate q z)=List.replicate q ((enc z).cells[0]' O):=by
   intro q
   induction q with
   | zero=>rfl
   | succ q ih=>rw [jH,jH,<-ih];simp [cellsOf,d]
  rw [f];apply iB
  .simp [Builtin.zeroCells,h]
  .intro i W l;simp [Builtin.zeroCells,h,mR]
 have D:(execOp a.eval o).run P w= .ok (.value (.tuple #[])) w':=by simp [execOp,ho,resolve,invoke,builtin,hs.ev hx,Builtin.clear_,run_underlying ht,hz,R,I]
 unfold Oper.wp;rw [D];show K (a.put o.dst _) _;rw [hd];exact Z () _ _ aA (F.put_none _) hc
end Go.Sky
namespace Go.Sky
variable{listed:Array Bool}{m i:Nat}{ts:List Nat}{ops:Array Oper}{o:Oper}{rest:List (Nat×Nat)}
variable {P:Program} {N:Nat} {sc:Nat->Prop} {env env':Xz} {H H':Hp} {Q Q':Exit->Act->World->Prop} {M:Nat->Prop}
theorem Ya (n:Nat) {l : List Oper}    (a : List (Nat × Nat))
     (h:LD P N sc M l.toArray (A P N sc M l.toArray ts Q n (Fv a listed)) a env H) (b:(Region.noSelect l.toArray && Hz l.toArray ts a listed && Nat.beq (a.length+n) m)=true:=by kernel_rfl):A P N sc M l.toArray ts Q m listed env H:=
  a_lin a b h (λ_ _ h=>h)
def aact   {n:Nat}   {G:Type} {φ:G->Prop} {a:G->Xz} {b:G->Hp} (e:T P N sc M o env H φ a b) (d:ops[i]? = some o) (c:o.guard=none)
    (h:∀g,φ g->A P N sc M ops ts Q n (listed.setIfInBounds i true) (a g) (b g)):Zdj P N sc M ops ts Q n listed env H i:=⟨o,G,φ,a,b,d,c,e,h⟩
theorem Ml (n:Nat)     (i j:Nat) 
    (c:Zdj P N sc M ops ts Q n listed env H i) (d:Zdj P N sc M ops ts Q n listed env H j) (a:((Region.ready .any ops listed == [i,j]) && !(Iy ops ts listed) && !([i,j]:List Nat).isEmpty && Nat.beq (n+1) m)=true:=by kernel_rfl):A P N sc M ops ts Q m listed env H:=by
  rw [aP]at a;have e:=dL a.2;subst e;exact Ye7 [i,j] a.1 (λq b=>by
    simp only [bG,dU,iD]at b;rcases b with rfl|rfl
    . exact c
    . exact d)
theorem Eh{F:Xz->Hp->Prop}{G:Type}{φ:G->Prop}{a:G->Xz}{b:G->Hp}(d:ops[i]? = some o)(e:T P N sc M o env H φ a b)(h:∀g,φ g->LD P N sc M ops F rest (a g) (b g))(c:o.guard=none:=by rfl):LD P N sc M ops F ((i,1)::rest) env H:=r1 e d c h
theorem r3'{F:Xz->Hp->Prop}{G:Type}{φ:G->Prop}{a:G->Xz}{b:G->Hp}(d:ops[i]? = some o)(e:T P N sc (λ_=>True) o env H φ a b)(h:∀g,φ g->LD P N sc M ops F rest (a g) (b g))(c:o.guard=none:=by rfl):LD P N sc M ops F ((i,3)::rest) env H:=r3 e d c h
def Zaf   {n:Nat}   {G:Type} {φ:G->Prop} {a:G->Xz} {b:G->Hp} (d:ops[i]? = some o) (c:o.guard=none) (e:T P N sc M o env H φ a b)
    (h:∀g,φ g->A P N sc M ops ts Q n (listed.setIfInBounds i true) (a g) (b g)):Zdj P N sc M ops ts Q n listed env H i:=aact e d c h
end Go.Sky
namespace Go.Sky
variable{o:Oper}{t t':TypeId}{x y:Operand}{a b:Bool}{ops:Array Oper}{rest:List (Nat×Nat)}
variable {P:Program} {N:Nat} {sc:Nat->Prop} {env env':Xz} {H H':Hp} {Q Q':Exit->Act->World->Prop} {M:Nat->Prop}
theorem d_eqb(c:o.op= .binOp .eql t x y t')(e:ev env x=some (.bool a))(f:ev env y=some (.bool b))(d:P.underlying t=some .bool):Nf P N sc o env H (.bool (a == b)):=λg w hs=>by simp [execOp,c,hs.ev e,hs.ev f,eqGuard,run_eql_bool w t a b d]
theorem d_neb(c:o.op= .binOp .neq t x y t')(e:ev env x=some (.bool a))(f:ev env y=some (.bool b))(d:P.underlying t=some .bool):Nf P N sc o env H (.bool (a != b)):=λg w hs=>by simp [execOp,c,hs.ev e,hs.ev f,eqGuard,run_neq_bool w t a b d,bne]
theorem Xp  {F:Xz->Hp->Prop} {i:Nat}   {d:Nat} {v:Value} (g:ops[i]? = some o) (e:o.dst=some d) (hs:Stb P N sc M o env H v)
  (h:LD P N sc M ops F rest ((d,v)::env) H) (f:o.guard=none:=by rfl) (c:Nat.blt d N=true:=by rfl):LD P N sc M ops F ((i,0)::rest) env H:=r0 hs g f e c h
end Go.Sky
namespace Go.Sky
open Go.RowKit Below
variable{b:Nat}{t:TypeId}{cs:Array Value}{o:Oper}{x:Operand}{v:Value}{f:FuncId}{xs:List Operand}{ats:Array TypeId}{vs:List Value}{pre:List Pc}{w0:World}{M0:Nat->Prop}{fn:Func}
variable {P:Program} {N:Nat} {sc:Nat->Prop} {env env':Xz} {H H':Hp} {Q Q':Exit->Act->World->Prop} {M:Nat->Prop}
def Ke(b:Nat)(t:TypeId)(cs:Array Value):Pc:=
  { own:=false,fp:=λk=>k=b,holds:=λw=>w.heap[b]? = some (.cells cs t (0,0))
    lt:=λw k h c=>by subst c;exact(aO.1 h).1
    stable:=λw e h a=>by rw [<-h];exact a.block b (aO.1 h).1 (λd=>d rfl) }
theorem Zfh(i:Nat)(hi:lk H i=some (box b t cs))(p:Nat.beq i 0=false):∀a w,Sat N sc env H a w->Sat N sc env ((i,Ke b t cs)::H) a w:=λa w hs=>by
    have y:i≠0:=λe=>by subst e;simp at p
    refine⟨hs.size,hs.defers,hs.env,λj h c=>?_,λj u h s n c d r b k l=>?_,λj h q c b k=>?_⟩
    . by_cases g:i=j
      . subst g;rw [Zv]at c;cases c;have z:=hs.hold i (box _ t cs) hi;exact z
      . rw [Zm g]at c;exact hs.hold j h c
    . by_cases g:i=j
      . subst g;rw [Zv]at c;cases c;cases r
      . rw [Zm g]at c;by_cases m:i=u
        . subst m;rw [Zv]at d;cases d;exact hs.sep j i h (box _ t cs) n c hi r b k l
        . rw [Zm m]at d;exact hs.sep j u h s n c d r b k l
    . by_cases g:i=j
      . subst g;rw [Zv]at c;cases c;exact hs.scope i (box _ t cs) y hi b k
      . rw [Zm g]at c;exact hs.scope j h q c b k
theorem d_lr   {c:TypeId} {i j:Nat}   (g:o.op= .load t x)
    (m:ev env x=some (.pointer (some ⟨b,j,none⟩))) (e:lk H i=some (Ke b c cs)) (k:∀w,(isAgg t).run P w= .ok false w) (l:cs[j]? = some v):Nf P N sc o env H v:=λa w hs=>by
  have d:w.heap[b]? = some (.cells cs c (0,0)):=hs.hold i _ e;have h:w.cell? ⟨b,j,none⟩=cs[j]?:=by simp [World.cell?,d]
  rw [l]at h;simp [execOp,g,hs.ev m,Instr.loadAt,Instr.sureAddr,loadVar,k,load,Sem.run,h]
def Zbp(P:Program)(f:FuncId)(args:Array Value)(pre:List Pc)(al:Bool)(b:Nat)(t:TypeId)(cs:Array Value){G:Type}(φ:G->Prop)(val:G->Value)(cs':G->Array Value)(a:G->List Pc):Prop:=
  ∀w,(∀p∈pre,p.holds w/\¬p.fp b)->(box b t cs).holds w->Calls P f args w λe c=>∃g,e= .returned (val g)/\φ g/\Chg (λk=>k=b) w c/\(box b t (cs' g)).holds c/\
    ∀p∈a g,p.holds c/\p.own=false/\∀k,p.fp k->w.heap.size<=k\/(al=true/\∃q∈pre,q.fp k)
theorem Xu (n:Nat)(i:Nat)     {d:Nat}     {al:Bool} {G:Type} {φ:G->Prop} {val:G->Value} {cs':G->Array Value} {Y:G->List Pc}  
    (hc:Zbp P f vs.toArray pre al b t cs φ val cs' Y)
    (ho:o.op= .call { callee:= .value (.func f),args:=xs.toArray,argTypes:=ats }) (hd:o.dst=some d) (hN:Nat.blt d N=true)
    (F:EvL env xs vs) (R:∀args w,(callFunc f args).run P w= .ok (.enter f args) w) (hH:lk H i=some (box b t cs)) (a5:i≠0) (y:PreOk (drp i H) al pre)
    (h0:lk H 0=some (Yt w0 M0)) (hw:∀b,w0.heap.size<=b->sc b) (hM:M b) :
    T P N sc M o env H φ (λg=>(d,val g)::env) (λg=>adds n (Y g) ((i,box b t (cs' g))::H)):=λa w hs K Q hK=>by
  have hr:(execOp a.eval o).run P w= .ok (.enter f vs.toArray) w:=by rw [Ia hs ho F,R]
  unfold Oper.wp;rw [hr];have D:(box b t cs).holds w:=hs.hold i _ hH;refine(hc w (λp hp=>by obtain⟨j,W,_,l,Z,m,_⟩:=y.mem p hp;obtain⟨V,l⟩:=Ih _ _ _ _ l;exact⟨Z w (hs.hold j W l),λhb=>hs.sep i j _ W (gR V) hH l rfl b rfl (m b hb)⟩) D).mono ?_
  rintro e w' ⟨g,rfl,hg,c,I,a0⟩;show K (a.put o.dst (val g)) w';rw [hd];have a7:Sat N sc env ((i,box b t (cs' g))::H) a w':=hs.upd hH rfl a5 c I (λk S=> .inl S) h0 hw;have a3:Chg M w w':=⟨c.os,c.tape,c.output,c.size,λk S hn=>c.block k S (λe=>hn (by subst e;exact hM))⟩;refine hK g _ _ hg (Sat.put (a7.adds (w1:=w) (Y g) n ?_) d _ hN) a3;intro p hp;obtain⟨h1,h2,h3⟩:=a0 p hp;refine⟨h1,h2,λk S=>?_,λj jt l u k S z=>?_⟩
  . rcases h3 k S with h|⟨_,q,hq,B⟩
    . exact hw k (aB (hs.hold 0 _ h0).size h)
    . obtain⟨j,W,a1,l,_,m,_⟩:=y.mem q hq;exact hs.scope j W a1 (Ih _ _ _ _ l).2 k (m k B)
  . have a8:k<w.heap.size:=by
      by_cases r:i=j
      . subst r;rw [Zv]at l;cases l;have:k=b:=z;subst this;exact(aO.1 D).1
      . rw [Zm r]at l;exact jt.lt w k (hs.hold j jt l) z
    rcases h3 k S with h|⟨a4,q,hq,B⟩
    . omega
    . obtain⟨j',W,a1,s,_,m,a6⟩:=y.mem q hq;obtain⟨V,s⟩:=Ih _ _ _ _ s;by_cases r:i=j
      . subst r;rw [Zv]at l;cases l;exact hs.sep i j' _ W (gR V) hH s rfl k z (m k B)
      . rw [Zm r]at l;by_cases a2:j=j'
        . subst a2;rw [s]at l;cases l;rw [a6 a4]at u;cases u
        . exact hs.sep j j' jt W a2 l s u k z (m k B)
def Yfe(P:Program)(fn:Func)(w0:World)(pre:List Pc)(al:Bool)(b:Nat)(t:TypeId){G:Type}(φ:G->Prop)(val:G->Value)(cs':G->Array Value)(a:G->List Pc):Exit->Act->World->Prop:=
  bodyPost P fn λe c => ∃ g, e = .returned (val g) /\ φ g /\ Chg (λk => k = b) w0 c /\ (box b t (cs' g)).holds c /\
        ∀p∈a g,p.holds c/\p.own=false/\∀k,p.fp k->w0.heap.size<=k\/(al=true/\∃q∈pre,q.fp k)
theorem Gl   {c:Code}   {al:Bool}    {G:Type} {φ:G->Prop} {val:G->Value} {cs':G->Array Value} {u:G->List Pc} {N:Nat}
    (Z:P.funcs[f]? = some fn) (Y:fn.body=some c) (W:fn.ntmps=N) (r:Nat.ble vs.length N=true) (R:AllRo pre)
    (h:∀w0 (sc:Nat->Prop),(∀k,w0.heap.size<=k->sc k)->(∀k,sc k->w0.heap.size<=k\/k=b\/∃q∈pre,q.fp k)->
      E P N sc c (Yfe P fn w0 pre al b t φ val cs' u) (Qd 0 vs) ((0,Yt w0 (λk=>k=b))::(1,box b t cs)::Yr 2 pre)) :
    Zbp P f vs.toArray pre al b t cs φ val cs' u:=λw S y=>by
  refine calls_of_wp Z Y (h w (λk=>w.heap.size<=k\/k=b\/∃q∈pre,q.fp k) (λk l=> .inl l) (λk l=>l) _ w ?_);have r:vs.length<=N:=by simpa using r
  have a:∀i p,lk ((0,Yt w (λk=>k=b))::(1,box b t cs)::Yr 2 pre) i=some p->(i=0/\p=Yt w (λk=>k=b))\/(i=1/\p=box b t cs)\/(i≠0/\i≠1/\p∈pre/\p.own=false):=λi p hi=>by
      by_cases m:0=i
      . subst m;rw [Zv]at hi;cases hi;exact .inl ⟨rfl,rfl⟩
      . rw [Zm m]at hi;by_cases g:1=i
        . subst g;rw [Zv]at hi;cases hi;exact .inr (.inl ⟨rfl,rfl⟩)
        . rw [Zm g]at hi;obtain⟨_,d⟩:=Oe pre 2 i p hi;exact .inr (.inr ⟨λe=>m e.symm,λe=>g e.symm,d,R.mem p d⟩)
  refine⟨by simp [W];omega,rfl,λt v ht=>?_,λi p hi=>?_,λi j p q F hi hj I k l n=>?_,λi p z hi k l=>?_⟩
  . have g:vs.toArray[t]? = some v:=by simpa using(Hc vs 0 t v ht).2
    have D:=(aO.1 g).1;rw [bH,eR D,g];rfl
  . rcases a i p hi with⟨_,rfl⟩|⟨_,rfl⟩|⟨_,_,d,_⟩
    . exact Chg.refl _ w
    . exact y
    . exact(S p d).1
  . rcases a i p hi with⟨_,rfl⟩|⟨g,rfl⟩|⟨_,_,d,s⟩
    . cases I
    . have B:k=b:=l;subst B;rcases a j q hj with⟨_,rfl⟩|⟨V,rfl⟩|⟨_,_,d,_⟩
      . exact n.2 rfl
      . exact F (g.trans V.symm)
      . exact(S q d).2 n
    . rw [s]at I;cases I
  . rcases a i p hi with⟨m,_⟩|⟨_,rfl⟩|⟨_,_,d,_⟩
    . exact absurd m z
    . exact .inr (.inl l)
    . exact .inr (.inr ⟨p,d,l⟩)
theorem Gw   {al:Bool}    {G:Type} {φ:G->Prop} {val:G->Value} {cs':G->Array Value} {l:G->List Pc}  {e:Exit} (he:e= .ret\/e= .normal) (W:∀k,sc k->w0.heap.size<=k\/k=b\/∃q∈pre,q.fp k)
    (g:G)  (y:∀a w,Sat N sc env H a w->(results fn a.tmps).run P w= .ok v w) (hv:val g=v) (hg:φ g) (i:Nat) (hi:lk H i=some (box b t cs)) (F:cs' g=cs) (a0:Nat.beq i 0=false) (Y:lk H 0=some (Yt w0 (λk=>k=b))) (c:Give (drp i H) al (l g)) :
    X N sc e (Yfe P fn w0 pre al b t φ val cs' l) env H:=λa w hs=>by
  have z : a.defers = [] /\ ∃ v, (results fn a.tmps).run P w = .ok v w /\ (∃ g, Ending.returned v = .returned (val g) /\ φ g /\ Chg (λk => k = b) w0 w /\ (box b t (cs' g)).holds w /\
        ∀p∈l g,p.holds w/\p.own=false/\∀k,p.fp k->w0.heap.size<=k\/(al=true/\∃q∈pre,q.fp k)):=by
    refine⟨hs.defers,v,y a w hs,g,by rw [hv],hg,hs.hold 0 _ Y,by rw [F];exact hs.hold i _ hi,λp hp=>?_⟩;obtain⟨Z,h|⟨h1,h2⟩⟩:=c.mem p hp
    case inr=>exact⟨h1 w,Z,λb hb=>absurd hb (h2 b)⟩
    obtain⟨j,B,r,m,n,I,D⟩:=h;obtain⟨V,m⟩:=Ih _ _ _ _ m;refine⟨n w (hs.hold j B m),Z,λk hk=>?_⟩;have d:=I k hk;have s:k≠b:=λe=>by subst e;exact hs.sep i j _ B (gR V) hi m rfl k rfl d
    cases al with
    | true=>
      rcases W k (hs.scope j B r m k d)with h|h|h
      . exact .inl h
      . exact absurd h s
      . exact .inr ⟨rfl,h⟩
    | false=>
      have u:=D rfl;have hn:=hs.sep j 0 B _ r m Y u k d;refine .inl ?_;rcases bE k w0.heap.size with S|R
      . exact absurd ⟨S,s⟩ hn
      . exact R
  rcases he with rfl|rfl
  . exact z
  . exact z
end Go.Sky
namespace Go.Sky
open Go.RowKit Below
variable{o:Oper}{f:FuncId}{xs:List Operand}{c x y:Operand}{ats:Array TypeId}{t t':TypeId}{cs:Array Value}{pre:List Pc}{M0:Nat->Prop}{ops:Array Oper}{ts:List Nat}{listed:Array Bool}{v:Value}{p:Pc}{rest:List Oper}
variable {P:Program} {N:Nat} {sc:Nat->Prop} {env env':Xz} {H H':Hp} {Q Q':Exit->Act->World->Prop} {M:Nat->Prop}
theorem d_mkf (vs:List Value)(d:o.op= .makeFunc (.func f) xs.toArray #[])(e:EvL env xs vs):Nf P N sc o env H (.func (.func f) vs.toArray #[]):=λa w hs=>by have b:=e.map hs;simp [execOp,d,Instr.makeFunc,b]
theorem Zjz {a:Act} {w:World} (hs:Sat N sc env H a w)      {d vs:List Value} (h:o.op= .call { callee:= .value c,args:=xs.toArray,argTypes:=ats })
  (e:ev env c=some (.func (.func f) d.toArray #[])) (b:EvL env xs vs):(execOp a.eval o).run P w=(callFunc f (d ++ vs).toArray).run P w:=by
 have g:=b.map hs;simp [execOp,h,resolve,invoke,hs.ev e,Deferred.ofValue,g]
theorem Zod (n:Nat)(i:Nat)(j:List Value)(vs:List Value)      {d b:Nat}     {al:Bool} {G:Type} {φ:G->Prop} {val:G->Value} {cs':G->Array Value} {q:G->List Pc} {D:World} 
  (W:Zbp P f (j ++ vs).toArray pre al b t cs φ val cs' q)
  (Z:o.op= .call { callee:= .value c,args:=xs.toArray,argTypes:=ats }) (u:ev env c=some (.func (.func f) j.toArray #[])) (Y:o.dst=some d) (V:Nat.blt d N=true)
  (h:EvL env xs vs) (e:∀args w,(callFunc f args).run P w= .ok (.enter f args) w) (I:lk H i=some (box b t cs)) (z:i≠0) (m:PreOk (drp i H) al pre)
  (F:lk H 0=some (Yt D M0)) (hw:∀b,D.heap.size<=b->sc b) (S:M b) :
  T P N sc M o env H φ (λg=>(d,val g)::env) (λg=>adds n (q g) ((i,box b t (cs' g))::H)):=λa w hs K Q R=>by
 have hr:(execOp a.eval o).run P w= .ok (.enter f (j ++ vs).toArray) w:=by rw [Zjz hs Z u h,e]
 let o2:Oper:={ o with op:= .call { callee:= .value (.func f),args:=((j ++ vs).map Operand.const).toArray,argTypes:=ats } };have k:∀l:List Value,EvL env (l.map Operand.const) l:=λl=>by
  induction l with
  | nil=>trivial
  | cons v r ih=>exact⟨rfl,ih⟩
 have B:(execOp a.eval o2).run P w= .ok (.enter f (j ++ vs).toArray) w:=by rw [Ia hs (o:=o2) rfl (k _),e]
 have s:o2.wp P a w K Q:=Xu n i (M:=M) W (o:=o2) rfl Y V (k _) e I z m F hw S a w hs K Q R;unfold Oper.wp at s ⊢;rw [B]at s;rw [hr];exact s
theorem Ye6 (n:Nat)    {m:Nat} (i j k:Nat) 
  (d:Zdj P N sc M ops ts Q n listed env H i) (e:Zdj P N sc M ops ts Q n listed env H j) (g:Zdj P N sc M ops ts Q n listed env H k) (a:((Region.ready .any ops listed == [i,j,k]) && !(Iy ops ts listed) && !([i,j,k]:List Nat).isEmpty && Nat.beq (n+1) m)=true:=by kernel_rfl):A P N sc M ops ts Q m listed env H:=by
 rw [aP]at a;have h:=dL a.2;subst h;exact Ye7 [i,j,k] a.1 (λq b=>by
  simp only [bG,dU,iD]at b;rcases b with rfl|rfl|rfl
  .exact d
  .exact e
  .exact g)
theorem d_fld    {f:Nat} {d:Array Field} {b:Field}   (h:o.op= .field t x f)
  (k:ev env x=some (.agg cs)) (i:P.underlying t=some (.struct d)) (g:d[f]? = some b) (e:∀w,(isAgg b.type).run P w= .ok false w) (j:cs[b.offset]? = some v):Nf P N sc o env H v:=λa w hs=>by
 simp [execOp,h,hs.ev k,Instr.field,run_underlying i,g,asAgg,part,e,j]
theorem Zsq{s b:ByteArray}(g:o.op= .binOp .eql t x y t')(h:ev env x=some (.string s))(i:ev env y=some (.string b))(d:b.data.toList=[]) :
  Nf P N sc o env H (.bool (decide (s.size=0))):=λa w hs=>by
 have e:(s.toList == b.toList)=decide (s.size=0):=by rw [ByteArray.toList_eq,ByteArray.toList_eq,d];have:s.size=s.data.toList.length:=rfl;rw [this];cases s.data.toList<;>simp
 simp [execOp,g,hs.ev h,hs.ev i,eqGuard,binOp_string_eql,e]
theorem d_eqg  {b:BinOp}   {xs ys:Array Value} {r:Value} (g:o.op= .binOp b t x y t') (i:ev env x=some (.agg xs)) (j:ev env y=some (.agg ys))
  (e:P.eqGuardType P.depth t=false) (h:∀w,(binOp b t (.agg xs) (.agg ys)).run P w= .ok r w):Nf P N sc o env H r:=λa w hs=>by
 have d:=run_eqGuard_agg (P:=P) w b t x y xs ys e;simp only [execOp,g,hs.ev i,hs.ev j,Sem.run_bind,d,h w,Result.andThen_ok,Sem.run_pure]
abbrev SL:=Option Addr×Nat×Nat
abbrev Xw (s:SL):Value:= .slice s.1 s.2.1 s.2.2
theorem Xl{α:Type}{k:Nat}{enc:α->Value}{xs:List α}(i:Nat)(hi:lk H i=some p)(d:Rd p k enc v xs):∀a w,Sat N sc env H a w->∃s:SL,v=Xw s:=λa w hs=>by obtain⟨b,c,rfl,_⟩:=d w (hs.hold i p hi);exact⟨(b,xs.length,c),rfl⟩
theorem Zqe{c:Code}{α:Type}{p:α->Prop}(b:∀a w,Sat N sc env H a w->∃x,p x)(h:∀x,p x->E P N sc c Q env H):E P N sc c Q env H:=λa w hs=>by obtain⟨x,d⟩:=b a w hs;exact h x d a w hs
theorem Ae{e:Exit}{α:Type}{p:α->Prop}(b:∀a w,Sat N sc env H a w->∃x,p x)(h:∀x,p x->X N sc e Q env H):X N sc e Q env H:=λa w hs=>by obtain⟨x,d⟩:=b a w hs;exact h x d a w hs
theorem Zgp{α:Type}{p:α->Prop}(b:∀a w,Sat N sc env H a w->∃x,p x)(h:∀x,p x->L P N sc ops rest Q env H):L P N sc ops rest Q env H:=λa w hs=>by obtain⟨x,d⟩:=b a w hs;exact h x d a w hs
def Im{β:Type}(q:β->Pc)(zs:List β):Pc:=
 {own:=false,fp:=λb=>∃z∈zs,(q z).fp b,holds:=λw=>∀z∈zs,(q z).holds w
  lt:=λw b h e=>by obtain⟨z,d,e⟩:=e;exact(q z).lt w b (h z d) e
  stable:=λw m h a z d=>(q z).stable w m (h z d) ⟨a.os,a.tape,a.output,a.size,λk i j=>a.block k i (λg=>j (λl=>g ⟨z,d,l⟩))⟩ }
def Qh{β:Type}(k:Nat)(enc:β->Value)(q:β->Pc)(v:Value)(zs:List β):Pc:=
 {own:=false,fp:=λb=>(zs≠[]/\v.ownBlock=some b)\/∃z∈zs,(q z).fp b,holds:=λw=>(Yg k enc v zs).holds w/\(Im q zs).holds w
  lt:=λw b h d=>by
   rcases d with d|d
   .exact(Yg k enc v zs).lt w b h.1 d
   .exact(Im q zs).lt w b h.2 d
  stable:=λw l h a=>⟨(Yg k enc v zs).stable w l h.1 ⟨a.os,a.tape,a.output,a.size,λk g i=>a.block k g (λe=>i (λj=>e (.inl j)))⟩,
   (Im q zs).stable w l h.2 ⟨a.os,a.tape,a.output,a.size,λk g i=>a.block k g (λe=>i (λj=>e (.inr j)))⟩⟩ }
def Zp{β:Type}{k:Nat}{enc:β->Value}{q:β->Pc}{zs:List β} : Rd (Qh k enc q v zs) k enc v zs:=λw h=>h.1.1
theorem Zau{q:Pc}(i j:Nat)(hi:lk H i=some p)(k:Nat.beq i 0=false)(s:p.own=false)(r:∀w,p.holds w->q.holds w)(m:∀b,q.fp b->p.fp b)(u:q.own=false):∀a w,Sat N sc env H a w->Sat N sc env ((j,q)::H) a w:=λa w hs=>
 hs.add j q (r w (hs.hold i p hi)) (λn z _ l Lj b g h=>by
  rcases Lj with Lj|Lj
  .rw [u]at Lj;cases Lj
  .by_cases d:n=i
   .subst d;rw [hi]at l;cases l;rw [s]at Lj;cases Lj
   .exact hs.sep n i z p d l hi Lj b h (m b g)) (λb g=>hs.scope i p (λe=>by subst e;simp at k) hi b (m b g))
def Zcy{β:Type}{q:β->Pc}{zs:List β}(i j:Nat)(z:β)(hi:lk H i=some (Im q zs))(d:Nat.beq i 0=false)(e:z∈zs)(k:(q z).own=false):∀a w,Sat N sc env H a w->Sat N sc env ((j,q z)::H) a w:=
 Zau i j hi d rfl (λw h=>h z e) (λb g=>⟨z,e,g⟩) k
def Ht{β:Type}{k:Nat}{enc:β->Value}{q:β->Pc}{zs:List β}(i j:Nat)(z:β)(hi:lk H i=some (Qh k enc q v zs))(d:Nat.beq i 0=false)(e:z∈zs)(l:(q z).own=false):∀a w,Sat N sc env H a w->Sat N sc env ((j,q z)::H) a w:=
 Zau i j hi d rfl (λw h=>h.2 z e) (λb g=> .inr ⟨z,e,g⟩) l
def Ha{β:Type}{k:Nat}{enc:β->Value}{q:β->Pc}{zs:List β}(i j:Nat)(hi:lk H i=some (Qh k enc q v zs))(d:Nat.beq i 0=false):∀a w,Sat N sc env H a w->Sat N sc env ((j,Im q zs)::H) a w:=
 Zau i j hi d rfl (λw h=>h.2) (λb e=> .inr e) rfl
theorem Zk{β:Type}{zs:List β}{i:Nat}{d:β}(h:i<zs.length:=by omega):zs.getD i d∈zs:=by rw [aC,aH h];exact eX h
theorem Zrs{q r:Pc}(i j n:Nat)(hi:lk H i=some p)(l:lk H j=some q)(u:Nat.beq i 0=false)(z:Nat.beq j 0=false)(I:p.own=false)(B:q.own=false)(G:∀w,p.holds w->q.holds w->r.holds w)(D:∀b,r.fp b->p.fp b\/q.fp b)(R:r.own=false) :
  ∀a w,Sat N sc env H a w->Sat N sc env ((n,r)::H) a w:=λa w hs=>
 hs.add n r (G w (hs.hold i p hi) (hs.hold j q l)) (λm F _ d Lj b s k=>by
  rcases Lj with Lj|Lj
  .rw [R]at Lj;cases Lj
  .rcases D b s with h|h
   .by_cases g:m=i
    .subst g;rw [hi]at d;cases d;rw [I]at Lj;cases Lj
    .exact hs.sep m i F p g d hi Lj b k h
   .by_cases g:m=j
    .subst g;rw [l]at d;cases d;rw [B]at Lj;cases Lj
    .exact hs.sep m j F q g d l Lj b k h) (λb s=>by
  rcases D b s with h|h
  .exact hs.scope i p (λe=>by subst e;simp at u) hi b h
  .exact hs.scope j q (λe=>by subst e;simp at z) l b h)
def Xt{β:Type}{k:Nat}{enc:β->Value}{q:β->Pc}{zs:List β}(i j n:Nat)(hi:lk H i=some (Yg k enc v zs))(m:lk H j=some (Im q zs))(d:Nat.beq i 0=false)(e:Nat.beq j 0=false) :
  ∀a w,Sat N sc env H a w->Sat N sc env ((n,Qh k enc q v zs)::H) a w:=
 Zrs i j n hi m d e rfl rfl (λw g h=>⟨g,h⟩) (λb l=>l) rfl
theorem Ye{β:Type}(q:β->Pc)(n:Nat):∀a w,Sat N sc env H a w->Sat N sc env ((n,Im q ([]:List β))::H) a w:=λa w hs=>
 hs.add n _ (λz d=>by cases d) (λh i _ _ Lj b e g=>by obtain⟨z,d,_⟩:=e;cases d) (λb e=>by obtain⟨z,d,_⟩:=e;cases d)
theorem Zd{β:Type}{q:β->Pc}{zs:List β}{z:β}(i j n:Nat)(hi:lk H i=some (Im q zs))(r:lk H j=some (q z))(e:Nat.beq i 0=false)(g:Nat.beq j 0=false)(s:(q z).own=false) :
  ∀a w,Sat N sc env H a w->Sat N sc env ((n,Im q (zs ++ [z]))::H) a w:=
 Zrs i j n hi r e g rfl s (λw l m y k=>by
  rcases cS.1 k with h|h
  .exact l y h
  .rw [bZ.1 h];exact m) (λb d=>by
  obtain⟨y,k,d⟩:=d;rcases cS.1 k with h|h
  .exact .inl ⟨y,h,d⟩
  .rw [bZ.1 h]at d;exact .inr d) rfl
end Go.Sky
namespace Go.Sky
open Go.RowKit Below
variable{o:Oper}{H0:Hp}{ks ts:List Nat}{t ty:TypeId}{d:Nat}{cs:Array Value}{M0:Nat->Prop}{p:Pc}{ops:Array Oper}{listed:Array Bool}{x:Operand}{m:Int}{rest:List Oper}{pos:String}
variable {P:Program} {N:Nat} {sc:Nat->Prop} {env env':Xz} {H H':Hp} {Q Q':Exit->Act->World->Prop} {M:Nat->Prop}
def Off(H:Hp)(ks:List Nat):Nat->Prop:=λx=>∀k∈ks,∀p,lk H k=some p->¬p.fp x
def Agr(H0 H:Hp):List Nat->Prop
 | []=>True
 | k::r=>lk H k=lk H0 k/\Agr H0 H r
theorem Agr.mem{H0 H:Hp} : ∀{ks:List Nat},Agr H0 H ks->∀k∈ks,lk H k=lk H0 k
 | k::r,h,j,a=>by
  cases a with
  | head=>exact h.1
  | tail _ a=>exact Agr.mem h.2 j a
def rst(ks:List Nat):Hp->Hp
 | []=>[]
 | (i,p)::r=>cond (ks.any (Nat.beq i)) ((i,p)::rst ks r) (rst ks r)
theorem Zfp(ks:List Nat):∀(H:Hp) (i:Nat) (p:Pc),lk (rst ks H) i=some p->i∈ks/\lk H i=some p
 | [],_,_,h=>by cases h
 | (j,q)::r,i,p,h=>by
  unfold rst at h;cases hb:ks.any (Nat.beq j)with
  | true=>
   rw [hb]at h;simp only [cond_true]at h;by_cases c:j=i
   .subst c;rw [Zv]at h ⊢;obtain⟨x,k,g⟩:=lZ.1 hb;have:=dL g;subst this;exact⟨k,h⟩
   .rw [Zm c]at h ⊢;exact Zfp ks r i p h
  | false=>
   rw [hb]at h;simp only [cond_false]at h;obtain⟨b,f⟩:=Zfp ks r i p h;refine⟨b,?_⟩;have a:j≠i:=λe=>by subst e;have:ks.any (Nat.beq j)=true:=lZ.2 ⟨j,b,O7⟩;rw [hb]at this;cases this
   rw [Zm a];exact f
theorem Oj {id:Nat} {l:List Oper} (ks:List Nat) (ts:List Nat) 
  (h:A P N sc (Off H ks) l.toArray ts Q l.length (Array.replicate l.length false) env H) (a:P.follows .mixedOrders=true:=by kernel_rfl):E P N sc (.region id l.toArray true) Q env H:=Da (Off H ks) ts h a
theorem Eo{v:Value}(z:Nf P N sc o env (rst ks H) v)(l:Agr H0 H ks):Stb P N sc (Off H0 ks) o env H v:=λa w hs h c=>by refine z a h ⟨hs.size,hs.defers,hs.env,λi b hi=>?_,λi j b B f hi r=>hs.sep i j b B f (Zfp _ _ _ _ hi).2 (Zfp _ _ _ _ r).2,λi b k hi=>hs.scope i b k (Zfp _ _ _ _ hi).2⟩;obtain⟨g,e⟩:=Zfp _ _ _ _ hi;refine b.stable w h (hs.hold i b e) ⟨c.os,c.tape,c.output,c.size,λq y s=>c.block q y (λu=>s (λn=>?_))⟩;exact u i g b (by rw [<-l.mem i g];exact e) n
theorem Zy7   {i:Nat} {z:Value}  {e:World}    (u:o.op= .alloc t) (q:o.dst=some d) (h:Nat.blt d N=true)
  (B:∀w,(zeroValue t).run P w= .ok z w) (n:z.cells=cs) (f:lk H 0=some (Yt e M0)) (y:∀b,e.heap.size<=b->sc b) (j:Agr H0 H ks) :
  T P N sc (Off H0 ks) o env H (G:=Nat) (λb=>Off H0 ks b) (λb=>(d,.pointer (some ⟨b,0,none⟩))::env) (λb=>(i,box b t cs)::H):=λa w hs K Q g=>by
 subst n;have v:(execOp a.eval o).run P w= .ok (.value (.pointer (some ⟨w.heap.size,0,none⟩))) (w.alloc (.cells z.cells t)):=by simp [execOp,u,Instr.alloc,B,newVar,newRow]
 unfold Oper.wp;rw [v];show K (a.put o.dst _) _;rw [q];exact g w.heap.size _ _ (λk s p c r=>by rw [<-j.mem k s]at c;exact absurd (p.lt w _ (hs.hold k p c) r) (Nat.lt_irrefl _)) ((hs.new f y i (box w.heap.size t z.cells) (.cells z.cells t) (heap_alloc_new w _) (λb l=>l)).put d _ h) (Chg.alloc _ _ _)
theorem Ol{q:Pc}(i:Nat)(h:p=q)(hi:lk H i=some p)(b:Nat.beq i 0=false):∀a w,Sat N sc env H a w->Sat N sc env ((i,q)::H) a w:=λa w hs=>by subst h;exact Zl0 i hi rfl (λ_ h=>h) (λ_ h=>h) b a w hs
def Nz{n:Nat}(hi:∀a w,Sat N sc env H a w->Sat N sc env' H' a w)(h:A P N sc M ops ts Q n listed env' H'):A P N sc M ops ts Q n listed env H:=λa w hs=>h a w (hi a w hs)
theorem Zy0 (r:Int)(b:o.op= .unOp .neg t x)(e:ev env x=some (.int .u64 m))(c:(-m)%18446744073709551616=r):Nf P N sc o env H (.int .u64 r):=λa w hs=>by rw [<-c,<-Zll];simp [execOp,b,hs.ev e,Op.unary,Op.intArith]
theorem Yit{b:TypeId}{k:IntKind}{r:Int}{ds:TypeDesc}(c:o.op= .convert t b x)(g:ev env x=some (.int k m))(a:P.underlying t=some ds)(f:P.underlying b=some (.int .u64))(e:m%18446744073709551616=r) :
  Nf P N sc o env H (.int .u64 r):=Ze7 c g a f (by rw [Zll];exact e)
theorem Sat.yieldedu{a:Act}{w:World}(h:Sat N sc env H a w){j:Nat}(e:(ops[j]?).bind (·.dst)=some d)(c:lk env d=some undef):Go.yielded ops a.tmps j=none:=by
 have b:=h.env d _ c;unfold Go.yielded;rw [e];simp only [Option.bind_some];rw [bH]at b;cases hx:a.tmps[d]? with
 | none=>rfl
 | some v=>rw [hx]at b;simp only [eI]at b;subst b;rfl
theorem gsku      {c:Array Edge} {f:Op} {j e:Nat} {b:Bool} (l:(ops[j]?).bind (·.dst)=some e) (k:lk env e=some undef) (i:Nat.blt d N=true)
  (h:L P N sc ops rest Q ((d,undef)::env) H):L P N sc ops (⟨some d,f,ty,pos,c,some (j,b)⟩::rest) Q env H:=λa w hs=>
 wpList_step λK g=>by
  have q:=hs.yieldedu l k;have n:Region.wanted ⟨some d,f,ty,pos,c,some (j,b)⟩ (yielded ops a.tmps)=false:=by simp [Region.wanted,q]
  rw [n,aD O7];exact g _ _ (h _ _ (hs.put d undef i))
def nop:Pc:={ own:=false,fp:=λ_=>False,holds:=λ_=>True,lt:=λ_ _ _ h=>h.elim,stable:=λ_ _ _ _=>trivial }
theorem s_move(i j:Nat)(hi:lk H i=some p)(q:Nat.beq i 0=false)(s:Nat.beq j 0=false)(r:Nat.beq i j=false):∀a w,Sat N sc env H a w->Sat N sc env ((j,p)::(i,nop)::H) a w:=λa w hs=>by
 have q:i≠0:=λe=>by subst e;simp at q
 have s:j≠0:=λe=>by subst e;simp at s
 have r:i≠j:=λe=>by subst e;simp at r
 refine⟨hs.size,hs.defers,hs.env,λk kt f=>?_,λk v kt y u f c z b n h=>?_,λk kt B f b n=>?_⟩
 .by_cases l:j=k
  .subst l;rw [Zv]at f;cases f;exact hs.hold i p hi
  .rw [Zm l]at f;by_cases g:i=k
   .subst g;rw [Zv]at f;cases f;trivial
   .rw [Zm g]at f;exact hs.hold k kt f
 .by_cases l:j=k
  .subst l;rw [Zv]at f;cases f;rw [Zm u]at c;by_cases g:i=v
   .subst g;rw [Zv]at c;cases c;exact h
   .rw [Zm g]at c;exact hs.sep i v p y g hi c z b n h
  .rw [Zm l]at f;by_cases g:i=k
   .subst g;rw [Zv]at f;cases f;cases z
   .rw [Zm g]at f;by_cases D:j=v
    .subst D;rw [Zv]at c;cases c;exact hs.sep k i kt p (gR g) f hi z b n h
    .rw [Zm D]at c;by_cases F:i=v
     .subst F;rw [Zv]at c;cases c;exact h
     .rw [Zm F]at c;exact hs.sep k v kt y u f c z b n h
 .by_cases l:j=k
  .subst l;rw [Zv]at f;cases f;exact hs.scope i p q hi b n
  .rw [Zm l]at f;by_cases g:i=k
   .subst g;rw [Zv]at f;cases f;exact n.elim
   .rw [Zm g]at f;exact hs.scope k kt B f b n
theorem fill3{h j a b c e f g:Value}:Instr.fill (λi=>some (i*2,2)) ((List.range (3*2)).map ((Value.agg #[h,j]).cells[· % (Value.agg #[h,j]).cells.size]!)).toArray [(0,.agg #[a,b]),(1,.agg #[c,e]),(2,.agg #[f,g])]=some #[a,b,c,e,f,g]:=by
 simp [Instr.fill,Value.cells,List.range,List.range.loop]
 try rfl
end Go.Sky
namespace Go.Sky
variable{o xs ys:List Nat}{c b x y i m w a s h:Nat}{P:Program}{sc:Nat->Prop}{t:TypeId}{kd:IntKind}
theorem Zre(k:Nat):U^k=256^(8*k):=by rw [show U=256^8 from rfl,<-jP]
theorem Zbo(k:Nat):U^k=2^(64*k):=by rw [show U=2^64 from rfl,<-jP]
theorem Xf:0<U:=by simp [U]
theorem Ye0{k:Nat}(h:val U (o.take k)+c*U^k=val U (xs.take k)+val U (ys.take k))(f:k<o.length) :
  val U ((o.set k ((xs.getD k 0+ys.getD k 0+c)%U)).take (k+1))+(xs.getD k 0+ys.getD k 0+c)/U*U^(k+1)=val U (xs.take (k+1))+val U (ys.take (k+1)):=by
 rw [El _ _ _ f,Pg,Pg,cC];generalize xs.getD k 0=a at *;generalize ys.getD k 0=b at *;generalize U^k=B at *;have d:=Nat.mod_add_div (a+b+c) U;have e:(a+b+c)%U*B+(a+b+c)/U*(B*U)=(a+b+c)*B:=by
  conv=>rhs;rw [<-d]
  rw [bI,aR B U,<-cT,aR ((a+b+c)/U) U]
 rw [bI,bI]at e;omega
theorem Zzb{k:Nat}(j:c<=1)(l:xs.getD k 0<U)(n:ys.getD k 0<U)(h:val U (o.take k)+val U (ys.take k)=val U (xs.take k)+c*U^k)(g:k<o.length) :
  val U ((o.set k ((xs.getD k 0+U-ys.getD k 0-c)%U)).take (k+1))+val U (ys.take (k+1))=val U (xs.take (k+1))+brw (xs.getD k 0) (ys.getD k 0) c*U^(k+1):=by
 unfold brw;rw [El _ _ _ g,Pg,Pg,cC];generalize xs.getD k 0=a at *;generalize ys.getD k 0=b at *;generalize U^k=B at *;by_cases f:a<b+c
 .rw [aF f];have d:(a+U-b-c)%U+b+c=a+U:=by rw [aW O];omega
  have e:((a+U-b-c)%U+b+c)*B=(a+U)*B:=by rw [d]
  rw [bI,bI,bI]at e;rw [mW,aR B U];omega
 .rw [aD f];have d:(a+U-b-c)%U+b+c=a:=by rw [show a+U-b-c=(a-b-c)+U by omega,nQ,aW O];omega
  have e:((a+U-b-c)%U+b+c)*B=a*B:=by rw [d]
  rw [bI,bI]at e;omega
theorem Zj5(b:Nat)(xs:List Nat)(k:Nat)(d:k<xs.length):val b xs=val b (xs.take k)+xs.getD k 0*b^k+b^(k+1)*val b (xs.drop (k+1)):=by
 conv=>lhs;rw [<-fC (k+1) xs]
 rw [Mo,Pg,aU,dM O]
theorem Yd6(l:0<b)(n:∀d∈xs,d<b){k:Nat}(f:k<xs.length)(g:k<ys.length)(e:xs.drop (k+1)=ys.drop (k+1))(h:xs.getD k 0<ys.getD k 0):val b xs<val b ys:=by
 rw [Zj5 b xs k f,Zj5 b ys k g,e];have p:val b (xs.take k)<b^k:=by have:=Zhn l (xs.take k) (λd e=>n d (fJ e));rwa [aU,dM O]at this
 have j:(xs.getD k 0+1)*b^k<=ys.getD k 0*b^k:=aM _ h;rw [bI]at j;omega
theorem Zne{k:Nat}(d:k<xs.length)(e:k<ys.length)(f:xs.drop (k+1)=ys.drop (k+1))(h:xs.getD k 0=ys.getD k 0):xs.drop k=ys.drop k:=by rw [dP d,dP e,f];simp [List.getD,d,e]at h;rw [h]
theorem Zk8(d:2<=b)(h:(dg b x).length<(dg b y).length):x<y:=by have e:=(Xh d (dg b x).length x).1 (aK _);have f:=(Lq d (dg b x).length y).1 h;omega
theorem Zts(h:0<x):bl x=(dg U x).length*64-(64-bl ((dg U x).getD ((dg U x).length-1) 0))/\bl ((dg U x).getD ((dg U x).length-1) 0)<=64/\0<(dg U x).length/\0<bl ((dg U x).getD ((dg U x).length-1) 0):=by
 have d:0<(dg U x).length:=by rw [Lq Xd,gT];omega
 have f:U^((dg U x).length-1)<=x:=(Lq Xd _ x).1 O;have e:x<U^(dg U x).length:=(Xh Xd _ x).1 (aK _);have g:x/U^((dg U x).length-1)<U:=by rw [cF (bQ Xf),aR,<-cC,show((dg U x).length-1).succ=(dg U x).length by omega];exact e
 rw [Ix Xd,aW g,Zbo,Ky];have j:64*((dg U x).length-1)<bl x:=by rw [Zae,<-Zbo];exact f
 have k:bl x<=64*(dg U x).length:=by rw [Qg,<-Zbo];exact e
 refine⟨?_,?_,d,?_⟩<;>omega
theorem Zsb(x:Nat):(dg 256 x).length=(bl x+7)/8:=by
 have d:∀k,(dg 256 x).length<=k↔(bl x+7)/8<=k:=λk=>by rw [Xh O,show 256^k=2^(8*k) by rw [show 256=2^8 from rfl,<-jP],<-Qg];omega
 have e:=(d (dg 256 x).length).1 (aK _);have f:=(d ((bl x+7)/8)).2 (aK _);omega
theorem lenU(x:Nat):(dg U x).length=((dg 256 x).length+7)/8:=by
 have d:∀k,(dg U x).length<=k↔((dg 256 x).length+7)/8<=k:=λk=>by rw [Xh Xd,Zre,<-Xh O];omega
 have e:=(d (dg U x).length).1 (aK _);have f:=(d (((dg 256 x).length+7)/8)).2 (aK _);omega
theorem Zdc(f:xs.length=ys.length)(h:∀i,i<xs.length->xs.getD i 0=ys.getD i 0):xs=ys:=by apply iB f;intro i d e;have:=h i d;simpa [List.getD,d,e]using this
theorem Oq{α:Type}{o:List α}{j:Nat}{d z:α}(hi:i<o.length):(o.set i d).getD j z=if i=j then d else o.getD j z:=by
 by_cases h:i=j
 .subst h;simp [List.getD,hi]
 .rw [aD h];simp [List.getD,iU h]
theorem Ge(n i:Nat):(List.replicate n 0).getD i 0=0:=by simp only [List.getD,iE];split<;>rfl
theorem Znp(x k:Nat):x/U^(k/8)%U/2^(k%8*8)%256=x/256^k%256:=by
 have g:=cM k 8;have j:k%8<8:=bR _ O;have d:U=256^(k%8)*256^(8-k%8):=by rw [<-bK,show k%8+(8-k%8)=8 by omega]
 have e:(2:Nat)^(k%8*8)=256^(k%8):=by rw [show(256:Nat)=2^8 from rfl,<-jP,aR]
 have f:x/U^(k/8)/256^(k%8)=x/256^k:=by rw [aX,Zre,<-bK,g]
 rw [e]
 conv=>lhs;rw [d]
 rw [Nat.mod_mul_right_div_self,<-d,f,show 8-k%8=(8-k%8-1)+1 by omega,cC,Nat.mod_mul_left_mod]
def hi(x m w:Nat):Nat:=x/256^m*256^m/U^w%U
theorem Ycg(h:m<=8*w):hi x m w=x/U^w%U:=by unfold hi;rw [Zre,show 8*w=m+(8*w-m) by omega,bK,<-aX,jN _ (bQ O),aX]
theorem hi_lt(h:8*w+8<=m):hi x m w=0:=by unfold hi;rw [Zre,show m=8*w+(8+(m-8*w-8)) by omega,bK 256 (8*w),aR (256^(8*w)),<-cT,jN _ (bQ O),bK 256 8];rw [show U=256^8 from rfl,nR,Nat.mul_mod_right]
theorem Ycf{r:Nat}(h:m=8*w+r)(d:r<=8):hi x m w=x/256^m*256^r%U:=by
 unfold hi;subst h;rw [Zre]
 conv=>lhs;rw [bK 256 (8*w) r,aR (256^(8*w)),<-cT,jN _ (bQ O)]
 rw [aR (256^r) (256^(8*w)),<-bK]
theorem Yh1(x k:Nat):hi x (k+1) (k/8) ||| (x/256^k%256*2^(k%8*8))%U=hi x k (k/8):=by
 have B:=cM k 8;have v:k%8<8:=bR _ O;rw [Ycf (r:=k%8+1) O O,Ycf (r:=k%8) O O];have j:(2:Nat)^(k%8*8)=256^(k%8):=by rw [show(256:Nat)=2^8 from rfl,<-jP,aR]
 rw [j];generalize k%8=r at *;have q:x/256^(k+1)=x/256^k/256:=by rw [cC,aX]
 rw [q];generalize x/256^k=z;have e:U=256^(r+1)*256^(7-r):=by rw [<-bK,show r+1+(7-r)=8 by omega]
 have d:z%256*256^r<256^(r+1):=by rw [cC,aR (256^r)];exact(mT (bQ O)).2 (bR _ O)
 have f:256^(r+1)<=U:=by rw [e];exact eK _ (bQ O)
 rw [aW (cZ d f)];have p:z/256*256^(r+1)%U=256^(r+1)*(z/256%256^(7-r)):=by rw [e,aR (z/256),Nat.mul_mod_mul_left]
 rw [p];have g:(256:Nat)^(r+1)=2^(8*(r+1)):=by rw [show(256:Nat)=2^8 from rfl,<-jP]
 have Lj:=kX (b:=z%256*256^r) (i:=8*(r+1)) (by rw [<-g];exact d) (z/256%256^(7-r));rw [<-g]at Lj;rw [<-Lj];have u:z=256*(z/256)+z%256:=(cM z 256).symm;have l:z*256^r=256^(r+1)*(z/256)+z%256*256^r:=by
  conv=>lhs;rw [u]
  rw [bI,cC,aR (256^r) 256,cT,cT,aR (z/256)]
 rw [l,e];have n:256^(r+1)*(z/256)+z%256*256^r=z%256*256^r+256^(r+1)*(z/256):=O;rw [n,mS,jG,aW d,mQ _ _ (bQ O),dB d,bP];omega
theorem Oi(x:Nat):(dg U x).length=(bl x+63)/64:=by
 have d:∀k,(dg U x).length<=k↔(bl x+63)/64<=k:=λk=>by rw [Xh Xd,Zbo,<-Qg];omega
 have e:=(d (dg U x).length).1 (aK _);have f:=(d ((bl x+63)/64)).2 (aK _);omega
theorem bl_add:bl (x+y)<=max (bl x) (bl y)+1:=by rw [Qg,cC];have d:=Dd x;have e:=Dd y;have f:2^bl x<=2^max (bl x) (bl y):=dE O O;have g:2^bl y<=2^max (bl x) (bl y):=dE O O;omega
theorem Zs8(x y:Nat):bl (x*y)<=bl x+bl y:=by
 rw [Qg,bK];rcases aZ y with rfl|d
 .rw [nS];exact fU (bQ O) (bQ O)
 .exact iW (Dd x) (eP (Dd y)) (bQ O)
theorem Zln(b:Nat)(o:List Nat)(n p r:Nat)(d:p<o.length)(f:p<n):val b ((o.set p r).take n)+o.getD p 0*b^p=val b (o.take n)+r*b^p:=by
 induction n with
 | zero=>omega
 | succ n e=>
  rw [Pg b (o.set p r) n,Pg b o n,Oq d];by_cases h:p=n
  .subst h;rw [aF rfl,Zjv];omega
  .rw [aD h];have:=e O;omega
theorem Zxi(d:x<U)(e:y<U)(f:a<U)(g:c<U) :
  ((x*y%U+a+0)%U+c+0)%U+U*(((x*y/U+(x*y%U+a+0)/U)%U+((x*y%U+a+0)%U+c+0)/U)%U)=x*y+a+c/\
  ((x*y/U+(x*y%U+a+0)/U)%U+((x*y%U+a+0)%U+c+0)/U)%U<U:=by
 have h:x*y<=18446744073709551615*18446744073709551615:=aT (by simp only [U]at d;omega) (by simp only [U]at e;omega);generalize x*y=p at *;simp only [U]at *;omega
theorem Ybd  {k V r d n:Nat} (q:val U (o.take n)+c*U^(i+k)=V+xs.getD i 0*U^i*val U (ys.take k)) (g:i+k<o.length) (f:i+k<n)
  (j:r+U*d=xs.getD i 0*ys.getD k 0+o.getD (i+k) 0+c):val U ((o.set (i+k) r).take n)+d*U^(i+(k+1))=V+xs.getD i 0*U^i*val U (ys.take (k+1)):=by
 have p:=Zln U o n (i+k) r g f;rw [Pg,show i+(k+1)=i+k+1 by omega,cC];have l:xs.getD i 0*U^i*(ys.getD k 0*U^k)=xs.getD i 0*ys.getD k 0*U^(i+k):=by rw [bK];ac_rfl
 rw [gG,l];have e:(r+U*d)*U^(i+k)=(xs.getD i 0*ys.getD k 0+o.getD (i+k) 0+c)*U^(i+k):=by rw [j]
 rw [bI,bI,bI,aR U d,cT d,aR U]at e;omega
theorem Zgi  {N:Nat}  {env:Xz} {H:Hp} {o:Oper} {x y:Operand}  {s:ByteArray}  {m:Int}  (g:o.op= .index t x y)
  (k:ev env x=some (.string s)) (l:ev env y=some (.int kd m)) (j:P.underlying t=some .string)
  (e:m=(i:Int)) (f:i<256) (hs:s.size=256) (d:∀i,i<256->(s.data.toList.getD i 0).toNat=bl i):Nf P N sc o env H (.int .u8 (bl i:Int)):=by
 rw [<-d i f];exact Yds g k l j e 
theorem Ybe  (v:x<U) (z:y<U) {hi lo:Nat}
  (l:hi=(((x/4294967296)*(y/4294967296)%U+(((x/4294967296)*(y &&& 4294967295)%U+((x &&& 4294967295)*(y &&& 4294967295)%U)/4294967296)%U)/4294967296)%U +
   (((((x/4294967296)*(y &&& 4294967295)%U+((x &&& 4294967295)*(y &&& 4294967295)%U)/4294967296)%U &&& 4294967295)+(x &&& 4294967295)*(y/4294967296)%U)%U)/4294967296)%U)
  (F:lo=x*y%U):hi=x*y/U:=by
 have u:∀n:Nat,n &&& 4294967295=n%4294967296:=λn=>kE n 32;subst l;simp only [u];have j:=cM x 4294967296;have k:=cM y 4294967296;have D:=bR x (show 4294967296>0 by omega);have B:=bR y (show 4294967296>0 by omega);have f:x/4294967296<=4294967295:=by simp only [U]at v;omega
 have g:y/4294967296<=4294967295:=by simp only [U]at z;omega
 generalize x/4294967296=a at *;generalize x%4294967296=b at *;generalize y/4294967296=c at *;generalize y%4294967296=d at *;subst j;subst k;have e:(4294967296*a+b)*(4294967296*c+d)=18446744073709551616*(a*c)+4294967296*(a*d)+4294967296*(b*c)+b*d:=by rw [bI,gG,gG,Nat.mul_mul_mul_comm,cT 4294967296 a d,nR b 4294967296 c];omega
 rw [e];have G:a*c<=4294967295*4294967295:=aT f g;have H:a*d<=4294967295*4294967295:=aT f O;have I:b*c<=4294967295*4294967295:=aT O g;have M:b*d<=4294967295*4294967295:=aT O O;generalize a*c=p at *;generalize a*d=q at *;generalize b*c=r at *;generalize b*d=s at *;simp only [U];omega
def Zwe(m:Nat):bl (m%256)<=8:=(Qg 8 _).2 (bR _ O)
theorem Cr:Me ((bl (m%256):Nat):Int):=by have:=Zwe m;exact⟨O,O⟩
theorem Fx{c:Int}(d:0<=c)(e:c<=1000):Me (c+((bl (m%256):Nat):Int)):=by have:=Zwe m;exact⟨O,O⟩
theorem Cp (n:Nat){c:Int}(d:m<256)(h:c+(bl m:Int)=(bl n:Int)):Value.int .i64 (c+((bl (m%256):Nat):Int))=Value.int .i64 (bl n:Int):=by rw [aW d,h]
theorem Zmw{α:Type}{xs:List α}{d:α}(h:i<xs.length):xs.reverse.getD i d=xs.getD (xs.length-1-i) d:=by
 have e:i<xs.reverse.length:=by simpa using h
 have f:xs.length-1-i<xs.length:=O;simp [List.getD,aH f,aH e]
theorem hi_top(h:(dg 256 x).length<=m):hi x m w=0:=by have:=(Xh (b:=256) O m x).1 h;unfold hi;rw [dB this];simp
theorem Yce{k:Nat}(h:k/8≠w):hi x (k+1) w=hi x k w:=by
 by_cases d:k+1<=8*w
 .rw [Ycg d,Ycg O]
 .rw [hi_lt O,hi_lt O]
set_option maxRecDepth 20000
def Ye8:U=2^64:=rfl
theorem Ya7(d:b<2^s):a*2^s ||| b=a*2^s+b:=by rw [aR,kX d]
theorem Zde{l:Nat}(hs:s<=64)(d:l<U):l/2^(64-s)<2^s:=by rw [cF (dO _),<-bK,show s+(64-s)=64 by omega];exact d
theorem Zgb{l:Nat}(hs:s<=64):l*2^s/U=l/2^(64-s):=by rw [Ye8,show(2:Nat)^64=2^(64-s)*2^s by rw [<-bK,show 64-s+s=64 by omega],mK _ _ (dO s)]
theorem Ya6{l:Nat}(hs:s<=64)(d:h*2^s<U)(e:l<U):(h*2^s%U) ||| (l/2^(64-s))=(h*U+l)*2^s/U:=by rw [aW d,Ya7 (Zde hs e),bI,show h*U*2^s=U*(h*2^s) by rw [iK,aR],gQ Xf,Zgb hs]
theorem Zxk(h l s:Nat):l*2^s%U=(h*U+l)*2^s%U:=by rw [bI,show h*U*2^s=U*(h*2^s) by rw [iK,aR],iM]
def Zra(x:Nat):x &&& 4294967295=x%4294967296:=kE x 32
def dvI(u v d y0 q r:Nat):Prop:=q*d+r=u/\q<=4294967297/\(u*4294967296+v)/(d*4294967296+y0)<=q
section
variable {u v y1 y0 q r:Nat}
theorem dv_Q(e:v<4294967296)(d:u<y1*4294967296+y0):(u*4294967296+v)/(y1*4294967296+y0)<4294967296:=by rw [cF O];have:(u+1)*4294967296<=(y1*4294967296+y0)*4294967296:=aM _ d;omega
theorem dv0(j:2147483648<=y1)(k:y1<4294967296)(g:y0<4294967296)(B:v<4294967296)(z:u<y1*4294967296+y0):dvI u v y1 y0 (u/y1) (u%y1):=by
 refine⟨by rw [aR];exact cM u y1,?_,?_⟩
 .rw [<-Nat.lt_succ_iff,cF O];show u<4294967298*y1;omega
 .have f:0<y1*4294967296+y0:=O;refine nT ((cF f).2 ?_);have l:=cM u y1;have n:=bR u (show 0<y1 by omega);generalize u/y1=q at *;have d:u+1<=y1*(q+1):=by rw [gG];omega
  have p:(u+1)*4294967296<=y1*(q+1)*4294967296:=aM _ d;have e:(q+1)*(y1*4294967296+y0)=y1*(q+1)*4294967296+(q+1)*y0:=by rw [gG,aR y1 (q+1),cT (q+1) y1]
  show u*4294967296+v<(q+1)*(y1*4294967296+y0);rw [e];omega
theorem Yde(hi:q*y1+r=u):q*(y1*4294967296+y0)+r*4294967296=u*4294967296+q*y0:=by rw [gG,<-hi,bI,cT];omega
theorem Znd(j:0<y1)(hi:dvI u v y1 y0 q r)(f:q*y0<=4294967296*r+v):q=(u*4294967296+v)/(y1*4294967296+y0):=by obtain⟨d,g,e⟩:=hi;refine jL ((kA O).2 ?_) e;have:=Yde (y0:=y0) d;omega
theorem Zhc(z:0<y1)(hi:dvI u v y1 y0 q r)(k:v<4294967296)(j:u<y1*4294967296+y0)(e:4294967296<=q\/4294967296*r+v<q*y0) :
  1<=q/\dvI u v y1 y0 (q-1) (r+y1):=by
 obtain⟨f,l,n⟩:=hi;have d:(u*4294967296+v)/(y1*4294967296+y0)<q:=by
  rcases e with e|e
  .exact cZ (dv_Q k j) e
  .rw [cF O];have:=Yde (y0:=y0) f;omega
 have g:1<=q:=bA (bB _) d;refine⟨g,?_,O,Nat.le_sub_one_of_lt d⟩;obtain⟨p,rfl⟩:∃p,q=p+1:=⟨q-1,O⟩;rw [bI]at f;simp only [fG];omega
theorem Zet(d:0<y1)(g:y0<4294967296)(hi:dvI u v y1 y0 q r)(e:q<=4294967296)(f:4294967296<=r):q=(u*4294967296+v)/(y1*4294967296+y0):=by refine Znd d hi ?_;have j:q*y0<=4294967296*y0:=aM _ e;have k:4294967296*4294967296<=4294967296*r:=bD _ f;omega
theorem Zpl(f:q<4294967296)(d:y0<4294967296):q*y0<18446744073709551616:=by have e:q*y0<=4294967295*y0:=aM _ O;omega
end
theorem wsub (c:Nat)(g:a%U=c%U)(j:b%U=m%U)(k:m<=c)(d:c-m<U):(a+(U-b%U))%U=c-m:=by have e:b%U<U:=bR _ Xf;have f:(c-m)%U=c-m:=aW d;simp only [U]at *;omega
theorem Zvj{u v:Nat}(e:0<y)(g:y<U):((u*4294967296%U+v)%U+(U-((u*4294967296+v)/y*y)%U))%U=(u*4294967296+v)%y:=by have d:=cM (u*4294967296+v) y;have f:=bR (u*4294967296+v) e;rw [aR y]at d;rw [wsub (u*4294967296+v) (m:=(u*4294967296+v)/y*y) (by simp only [U];omega) rfl O O];omega
theorem Yip{A D:Nat}(g:0<y)(e:D=A*4294967296+b):D/y=A/y*4294967296+(A%y*4294967296+b)/y/\D%y=(A%y*4294967296+b)%y:=by
 have f:=cM A y;have d:D=y*(A/y*4294967296)+(A%y*4294967296+b):=by
  conv=>lhs;rw [e,<-f]
  rw [bI,cT];omega
 constructor
 .conv=>lhs;rw [d]
  rw [gQ g]
 .conv=>lhs;rw [d]
  rw [iM]
theorem dv_two{D u v d e:Nat}(j:0<y)(k:u=D/U)(l:v=D%U)(g:d=v/4294967296)(f:e=v%4294967296) :
  D/y=(u*4294967296+d)/y*4294967296+((u*4294967296+d)%y*4294967296+e)/y/\D%y=((u*4294967296+d)%y*4294967296+e)%y:=
 Yip j (by subst k l g f;simp only [U];omega)
def Zkm(n y s:Nat):n*2^s/(y*2^s)=n/y:=mK _ _ (dO s)
theorem Zkl(n y s:Nat):n*2^s%(y*2^s)/2^s=n%y:=by rw [mL,jN _ (dO s)]
theorem Yba(f:0<y)(g:y<U)(hs:s=64-bl y):9223372036854775808<=y*2^s/\y*2^s<U:=by
 have j:bl y<=64:=(Qg 64 y).2 g;have d:=Dd y;have e:=(Znq f).1;have k:(2:Nat)^bl y*2^s=U:=by rw [<-bK,show bl y+s=64 by omega]
 have l:y*2^s<2^bl y*2^s:=eD d (dO s);have n:2^(bl y-1)*2^s<=y*2^s:=aM _ e;have p:2^(bl y-1)*2^s=9223372036854775808:=by
  have:1<=bl y:=by
   rcases aZ (bl y)with h|h
   .rw [h]at d;omega
   .exact h
  rw [<-bK,show bl y-1+s=63 by omega]
 omega
theorem rsub{u:Nat}(e:0<y)(f:u<U):(u+(U-(u/y*y)%U))%U=u%y:=by have d:=cM u y;rw [aR y]at d;rw [wsub u (m:=u/y*y) rfl rfl O O];omega
theorem Ah{n:Nat}(h:m=n):Value.int .u64 (m:Int)= .int .u64 (n:Int):=by rw [h]
theorem Ycc{m n:Int}(h:m=n):Value.int .i64 m= .int .i64 n:=by rw [h]
theorem Zqo(d:1<=a)(h:a<U):(a+(U-1))%U=a-1:=by rw [show a+(U-1)=a-1+U by simp only [U]at *;omega,nQ,aW O]
def shl_lt(e:h<y)(d:y*2^s<U):h*2^s<U:=bA (aM _ (eP e)) d
theorem top_lt{l:Nat}(g:l<U)(f:h<y):(h*U+l)*2^s/U<y*2^s:=by
 rw [cF Xf];have d:(h+1)*U<=y*U:=aM _ f;have e:h*U+l<y*U:=by rw [bI]at d;omega
 rw [iK];exact eD e (dO s)
end Go.Sky
namespace Go.Sky
set_option maxRecDepth 20000
variable{b r w:Nat}{o xs:List Nat}
theorem Zmg{a s:Nat}(c:b<2^s):b ||| a*2^s=a*2^s+b:=by rw [Nat.or_comm,Ya7 c]
theorem Zdy{Y t:Nat}(a:t<=64):Y*2^t%U=Y%2^(64-t)*2^t:=by rw [Ye8,show(2:Nat)^64=2^(64-t)*2^t by rw [<-bK,show 64-t+t=64 by omega],mL]
theorem Zjb(c:b<=64)(a:r<U):r/2^b<2^(64-b):=by have:=Zde (l:=r) (s:=64-b) O a;rwa [show 64-(64-b)=b by omega]at this
theorem Zon(Y b:Nat)(a:b<=64):Y%U/2^b ||| (Y/U%U)*2^(64-b)%U=Y/2^b%U:=by
 have e:Y%U<U:=bR _ Xf;rw [Zdy O,Zmg (Zjb a e),show 64-(64-b)=b by omega];have f:Y/U%U%2^b=Y/U%2^b:=by rw [Ye8];exact Nat.mod_mod_of_dvd _ (Nat.pow_dvd_pow 2 a)
 rw [f];have c:U=2^b*2^(64-b):=by rw [<-bK,show b+(64-b)=64 by omega]
 have g:=cM Y U;have h:Y/2^b=2^(64-b)*(Y/U)+Y%U/2^b:=by
  conv=>lhs;rw [<-g]
  conv=>lhs;rw [show U*(Y/U)=2^b*(2^(64-b)*(Y/U)) by rw [<-cT,<-c]]
  rw [gQ (dO b)]
 rw [h];have d:=Zjb a e;generalize Y/U=q at *;generalize Y%U=r at *
 conv=>rhs;rw [c,aR (2^b)]
 rw [mS,gQ (dO _),iM,aW d,dB d,fK,iL,aR]
theorem Zw2{Y:Nat}(c:b<=64)(a:Y/U=0):Y%U/2^b=Y/2^b%U:=by have:=Zon Y b c;rw [a]at this;simpa using this
theorem Zx5{α:Type}(xs:List α)(w j:Nat)(d:α):(xs.drop w).getD j d=xs.getD (w+j) d:=by simp [List.getD,gJ]
theorem Bh{x s:Nat}(c:w=s/64)(a:b=s%64):x/2^s=x/U^w/2^b:=by rw [Zbo,aX,<-bK,show 64*w+b=s by omega]
theorem Zqi(x b i:Nat):x/2^b/U^i=x/U^i/2^b:=by rw [aX,aR,<-aX]
theorem Zvm(x w j:Nat):((dg U x).drop w).getD j 0=x/U^w/U^j%U:=by rw [Zx5,Ix Xd,bK,aX]
theorem Zux{x n:Nat}(h:(dg U x).length<=w+n):x/U^w<U^n:=by rw [cF (bQ Xf),<-bK,iL];exact(Xh Xd _ _).1 h
theorem drop_set{α:Type}{o:List α}{k:Nat}{d:α}(h:k<o.length):(o.set k d).drop k=d::o.drop (k+1):=by rw [List.drop_set,aD O,kY,dP h];rfl
theorem Zqh{α:Type}(z:α)(o:List α)(k:Nat)(h:k<o.length):o.drop k=o.getD k z::o.drop (k+1):=by rw [dP h];simp [List.getD,aH h]
theorem Zrm{d k:Nat}(g:0<d)(h:k+1<=o.length)(i:k+1<=xs.length)(a:val U (o.drop (k+1))*d+r=val U (xs.drop (k+1))) :
  val U ((o.set k ((r*U+xs.getD k 0)/d)).drop k)*d+(r*U+xs.getD k 0)%d=val U (xs.drop k):=by
 rw [drop_set O,Zqh 0 xs k O];simp only [val];have c:=cM (r*U+xs.getD k 0) d;rw [<-a];generalize (r*U+xs.getD k 0)/d=q at *;generalize (r*U+xs.getD k 0)%d=m at *;generalize val U (o.drop (k+1))=V at *;rw [bI,gG,aR q d];have e:U*V*d=U*(V*d):=cT _ _ _;have f:U*r=r*U:=aR _ _;omega
theorem Zzx  {i n:Nat} (j:b<=63) (k:n=o.length) (l:w+i+1<n) (d:o.getD (w+i) 0<2^b) (h:o.getD (w+i+1) 0=0) (m:xs.getD i 0<U)
  (g:val U (o.take n)=val U (xs.take i)*2^b*U^w) :
  val U (((o.set (w+i) (o.getD (w+i) 0 ||| xs.getD i 0*2^b%U)).set (w+i+1) (xs.getD i 0/2^(64-b))).take n)=val U (xs.take (i+1))*2^b*U^w:=by
 have a:=Zln U (o.set (w+i) (o.getD (w+i) 0 ||| xs.getD i 0*2^b%U)) n (w+i+1) (xs.getD i 0/2^(64-b)) O8 O;have c:=Zln U o n (w+i) (o.getD (w+i) 0 ||| xs.getD i 0*2^b%U) O O;rw [Oq O,aD O,h]at a;rw [Zdy O,Zmg d,<-Zdy O]at c ;rw [Zdy O,Zmg d,<-Zdy O]at a ⊢;rw [<-Zgb (by omega:b<=64)]at a ⊢;rw [Pg];generalize xs.getD i 0=X at *;generalize o.getD (w+i) 0=C at *;have e:X*2^b*U^(w+i)=(X*2^b%U)*U^(w+i)+X*2^b/U*U^(w+i+1):=by
  conv=>lhs;rw [<-cM (X*2^b) U]
  rw [bI,cC U (w+i),aR U,cT (X*2^b/U),aR U];omega
 have f:(val U (xs.take i)+X*U^i)*2^b*U^w=val U (xs.take i)*2^b*U^w+X*2^b*U^(w+i):=by rw [bI,bI,bK];congr 1;rw [iK X,cT,cT,aR (U^i)];simp only [cT]
 rw [f,<-g,e];rw [bI]at c;omega
theorem Zjy(o:List Nat)(j:Nat)(h:o.getD j 0=0):o.set j 0=o:=by
 rcases bE j o.length with a|a
 .refine Zdc O7 (λi _=>?_);rw [Oq a];split
  .rename_i e;rw [<-e,h]
  .rfl
 .exact List.set_eq_of_length_le a
theorem Zqg{d n:Nat}(c:n<U)(a:r<d):(r*U+n)/d<U:=by rw [cF O];have:(r+1)*U<=d*U:=aM _ a;rw [aR U];rw [bI]at this;omega
end Go.Sky

