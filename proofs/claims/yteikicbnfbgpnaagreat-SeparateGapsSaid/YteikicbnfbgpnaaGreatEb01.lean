/- Rules, arithmetic and contracts: part 2. No conditions but those that each theorem names. -/
import Derived.Test.YteikicbnfbgpnaaGreatEb00
import Derived.Laws.Externs
import Derived.Lib.SliceRun
import Derived.Great.BuildSlice
import Derived.Laws.Small
import Derived.Laws.StructEq
set_option linter.all false
namespace Go.Sky
open Go.RowKit (Below)
variable{op:Op}{b b':Bool}{cs:Array Value}{c:Code}{ch:Hp}{p:Pc}{k k' kd:IntKind}{n':Int}{ats:Array TypeId}{w:World}
variable {P:Program} {N:Nat} {sc:Nat->Prop} {env env':Ph} {H H':Hp} {Q Q':Exit->Act->World->Prop} {M:Nat->Prop}
section
variable {ops:Array Oper} {rest:List Oper} {d:Nat} {ty:TypeId} {pos:String} {af:Array Edge} {v:Value} {x:Operand}
theorem dt(e:Mo P N sc ⟨some d,op,ty,pos,af,none⟩ env H v)(h:L P N sc ops rest Q ((d,v)::env) H)(a:Nat.blt d N=true:=by rfl) :
  L P N sc ops (⟨some d,op,ty,pos,af,none⟩::rest) Q env H:=l_det rfl rfl a e h
theorem tt {o:Oper} {G:Type} {φ:G->Prop} {a:G->Ph} {e:G->Hp} (i:T P N sc (λ_=>True) o env H φ a e) 
  (h:∀g,φ g->L P N sc ops rest Q (a g) (e g)) (f:o.guard=none:=by rfl):L P N sc ops (o::rest) Q env H:=l_step f i h
theorem Fq  {j e:Nat}  (l:Mo P N sc ⟨some d,op,ty,pos,af,some (j,b)⟩ env H v) (i:(ops[j]?).bind (·.dst)=some e) (g:lk env e=some (.bool b))  
  (h:L P N sc ops rest Q ((d,v)::env) H) (a:Nat.blt e N=true:=by rfl) (f:Nat.blt d N=true:=by rfl):L P N sc ops (⟨some d,op,ty,pos,af,some (j,b)⟩::rest) Q env H:=l_gdet rfl i g a rfl f l h
def gsk  {j e:Nat}  (l:(ops[j]?).bind (·.dst)=some e) (i:lk env e=some (.bool b')) (a:(b' == b)=false) (f:Nat.blt e N=true) (g:Nat.blt d N=true)
  (h:L P N sc ops rest Q ((d,undef)::env) H):L P N sc ops (⟨some d,op,ty,pos,af,some (j,b)⟩::rest) Q env H:=Ynz rfl l i f a rfl g h
def gtt {o:Oper} {G:Type} {φ:G->Prop} {a:G->Ph} {i:G->Hp} {j e:Nat}  (q:T P N sc (λ_=>True) o env H φ a i) (m:o.guard=some (j,b)) (n:(ops[j]?).bind (·.dst)=some e) (l:lk env e=some (.bool b)) (f:Nat.blt e N=true)
  (h:∀g,φ g->L P N sc ops rest Q (a g) (i g)):L P N sc ops (o::rest) Q env H:=Yny m n l f q h
end
section
variable {ops:Array Oper} {F:Ph->Hp->Prop} {rest:List (Nat×Nat)} {i:Nat} {o:Oper}
def Stb(P:Program)(N:Nat)(sc:Nat->Prop)(M:Nat->Prop)(o:Oper)(env:Ph)(H:Hp)(v:Value):Prop:=
 ∀a w,Sat N sc env H a w->∀e,Chg M w e->(execOp a.eval o).run P e= .ok (.value v) e
def Xl{v:Value}(f:Mo P N sc o env H v):Stb P N sc (λ_=>False) o env H v:=λa w hs g e=>f a g (hs.chg0 e)
theorem st1{v:Value}(k:Nat){b:Nat}{t:TypeId}(y:lk H k=some (box b t cs))(D:Mo P N sc o env (drp k H) v):Stb P N sc (λx=>x=b) o env H v:=λa w hs n l=>by
 refine D a n ?_;have f:Sat N sc env (drp k H) a w:=⟨hs.size,hs.defers,hs.env,λi g hi=>hs.hold i g (Dd _ _ _ _ hi).2,
  λi j g G h hi u=>hs.sep i j g G h (Dd _ _ _ _ hi).2 (Dd _ _ _ _ u).2,λi g r hi=>hs.scope i g r (Dd _ _ _ _ hi).2⟩
 refine⟨f.size,f.defers,f.env,λi g hi=>?_,f.sep,f.scope⟩;obtain⟨h,m⟩:=Dd _ _ _ _ hi;refine g.stable w n (f.hold i g hi) ⟨l.os,l.tape,l.output,l.size,λq B z=>l.block q B (λe=>z (λs=>?_))⟩;subst e;exact hs.sep k i _ g (Ne.symm h) y m rfl q rfl s
theorem r0{d:Nat}{v:Value}(hs:Stb P N sc M o env H v)(l:ops[i]? = some o)(j:o.guard=none)(g:o.dst=some d)(f:Nat.blt d N=true)(h:LD P N sc M ops F rest ((d,v)::env) H) :
  LD P N sc M ops F ((i,0)::rest) env H:=⟨o,d,v,l,g,f,λa w e=>⟨by simp [Region.wanted,j],hs a w e⟩,h⟩
theorem Fr {d j e:Nat}  {v:Value} (hs:Stb P N sc M o env H v) (s:ops[i]? = some o) (q:o.guard=some (j,b)) (r:(ops[j]?).bind (·.dst)=some e) (n:lk env e=some (.bool b)) (m:o.dst=some d) 
  (h:LD P N sc M ops F rest ((d,v)::env) H) (g:Nat.blt e N=true:=by rfl) (l:Nat.blt d N=true:=by rfl) :
  LD P N sc M ops F ((i,0)::rest) env H:=⟨o,d,v,s,m,l,λa w f=>⟨by simp [Region.wanted,q,f.yielded r n g],hs a w f⟩,h⟩
theorem r1{G:Type}{φ:G->Prop}{e:G->Ph}{f:G->Hp}(m:T P N sc M o env H φ e f)(l:ops[i]? = some o)(j:o.guard=none)(h:∀g,φ g->LD P N sc M ops F rest (e g) (f g)) :
  LD P N sc M ops F ((i,1)::rest) env H:=⟨o,G,φ,e,f,l,λa w _=>by simp [Region.wanted,j],m,h⟩
theorem r1g {G:Type} {φ:G->Prop} {f:G->Ph} {m:G->Hp} {j e:Nat}  (u:T P N sc M o env H φ f m) (t:ops[i]? = some o) (r:o.guard=some (j,b)) (s:(ops[j]?).bind (·.dst)=some e) (q:lk env e=some (.bool b)) (n:Nat.blt e N=true)
  (h:∀g,φ g->LD P N sc M ops F rest (f g) (m g)) :
  LD P N sc M ops F ((i,1)::rest) env H:=⟨o,G,φ,f,m,t,λa w l=>by simp [Region.wanted,r,l.yielded s q n],u,h⟩
theorem r3{G:Type}{φ:G->Prop}{e:G->Ph}{f:G->Hp}(m:T P N sc (λ_=>True) o env H φ e f)(l:ops[i]? = some o)(j:o.guard=none)(h:∀g,φ g->LD P N sc M ops F rest (e g) (f g)) :
  LD P N sc M ops F ((i,3)::rest) env H:=⟨o,G,φ,e,f,l,λa w _=>by simp [Region.wanted,j],m,h⟩
theorem r2 {d j e:Nat}  (t:ops[i]? = some o) (r:o.guard=some (j,b)) (s:(ops[j]?).bind (·.dst)=some e) (q:lk env e=some (.bool b')) (g:(b' == b)=false) (l:Nat.blt e N=true) (n:o.dst=some d) (m:Nat.blt d N=true)
  (h:LD P N sc M ops F rest ((d,undef)::env) H) :
  LD P N sc M ops F ((i,2)::rest) env H:=⟨o,d,t,n,m,λa w f=>by simp [Region.wanted,r,f.yielded s q l];simpa using g,h⟩
def r_fin(h:F env H):LD P N sc M ops F [] env H:=h
theorem Zam{o:Oper}{d:Nat}{v:Value}(h:Mo P N sc o env H v)(g:o.dst=some d)(f:Nat.blt d N=true:=by rfl):T P N sc M o env H (G:=Unit) (λ_=>True) (λ_=>(d,v)::env) (λ_=>H):=λa w hs K Q e=>by unfold Oper.wp;rw [h a w hs];show K (a.put o.dst v) w;rw [g];exact e () _ _ trivial (hs.put d v f) (Chg.refl _ _)
end
def Ypz{G:Type}(N:Nat)(sc:Nat->Prop)(cs:Ph)(ch:Hp)(j:G->Ph)(h:G->Hp)(f:G->Prop)(μ:G->Nat)(g:G):Act->World->Prop:=
 λa w=>∃e,f e/\μ e<μ g/\Sat N sc (j e ++ cs) (h e ++ ch) a w
def e_lp  {G:Type} (cs:Ph) (ch:Hp) (j:G->Ph) (h:G->Hp) (a:G->Prop) (μ:G->Nat) (f:G) (m:a f) (hs:Sub (j f ++ cs) env) (l:HSub (h f ++ ch) H)
  (e:∀g,a g->E P N sc c (Exit.then (Ypz N sc cs ch j h a μ g) Q) (j g ++ cs) (h g ++ ch)) :
  E P N sc (.loop c) Q env H:=e_loop (λg=>j g ++ cs) (λg=>h g ++ ch) a μ f m hs l e
def x_rnd{G:Type}{cs:Ph}{l:G->Ph}{j:G->Hp}{h:G->Prop}{μ:G->Nat}{g:G}(e:G)(m:h e)(n:μ e<μ g)(hs:Sub (l e ++ cs) env)(q:HSub (j e ++ ch) H) :
  X N sc .normal (Exit.then (Ypz N sc cs ch l j h μ g) Q) env H:=λa w f=>⟨e,m,n,f.weaken hs q⟩
def JnK{G:Type}(N:Nat)(sc:Nat->Prop)(cs:Ph)(ch:Hp)(h:G->Ph)(f:G->Hp)(e:G->Prop):Act->World->Prop:=
 λa w=>∃g,e g/\Sat N sc (h g ++ cs) (f g ++ ch) a w
theorem e_jn {x y:Code} {G:Type} (cs:Ph) (ch:Hp) (m:G->Ph) (l:G->Hp) (h:G->Prop) (q:Sub cs env) (n:HSub ch H)
  (s:E P N sc x (Exit.then (JnK N sc cs ch m l h) Q) env H)
  (t:∀g,h g->E P N sc y Q (m g ++ cs) (l g ++ ch)):E P N sc (.seq x y) Q env H:=λa w hs=>by
 refine wp_seq (Code.wp_mono (λe a w j=>?_) (s a w hs));cases e with
 | normal=>obtain⟨g,r,f⟩:=j;exact t g r a w f
 | _=>exact j
def x_jn{G:Type}{cs:Ph}{j:G->Ph}{h:G->Hp}{f:G->Prop}(g:G)(l:f g)(hs:Sub (j g ++ cs) env)(m:HSub (h g ++ ch) H) :
  X N sc .normal (Exit.then (JnK N sc cs ch j h f) Q) env H:=λa w e=>⟨g,l,e.weaken hs m⟩
def Zf(hi:∀a w,Sat N sc env H a w->Sat N sc env' H' a w)(h:E P N sc c Q env' H'):E P N sc c Q env H:=λa w hs=>h a w (hi a w hs)
def Zv{e:Exit}(hi:∀a w,Sat N sc env H a w->Sat N sc env' H' a w)(h:X N sc e Q env' H'):X N sc e Q env H:=λa w hs=>h a w (hi a w hs)
def Yx{ops:Array Oper}{rest:List Oper}(hi:∀a w,Sat N sc env H a w->Sat N sc env' H' a w)(h:L P N sc ops rest Q env' H'):L P N sc ops rest Q env H:=λa w hs=>h a w (hi a w hs)
def Pf{p:Prop}(e:∀a w,Sat N sc env H a w->p)(h:p->E P N sc c Q env H):E P N sc c Q env H:=λa w hs=>h (e a w hs) a w hs
def Ydw{e:Exit}{p:Prop}(f:∀a w,Sat N sc env H a w->p)(h:p->X N sc e Q env H):X N sc e Q env H:=λa w hs=>h (f a w hs) a w hs
theorem Zox(i:Nat){q:Pc}(hi:lk H i=some p)(y:q.own=p.own)(t:∀w,p.holds w->q.holds w)(n:∀b,q.fp b->p.fp b)(B:Nat.beq i 0=false):∀a w,Sat N sc env H a w->Sat N sc env ((i,q)::H) a w:=λa w hs=>by
  have R:i≠0:=λe=>by subst e;simp at B
  refine⟨hs.size,hs.defers,hs.env,λj s f=>?_,λj I s z h f g G b r m=>?_,λj s D f b r=>?_⟩
  .by_cases l:i=j
   .subst l;rw [Yd]at f;cases f;exact t w (hs.hold i p hi)
   .rw [Zt _ _ l]at f;exact hs.hold j s f
  .by_cases l:i=j
   .subst l;rw [Yd]at f;cases f;rw [Zt _ _ h]at g;exact hs.sep i I p z h hi g (by rw [<-y];exact G) b (n b r) m
   .rw [Zt _ _ l]at f;by_cases u:i=I
    .subst u;rw [Yd]at g;cases g;exact hs.sep j i s p h f hi G b r (n b m)
    .rw [Zt _ _ u]at g;exact hs.sep j I s z h f g G b r m
  .by_cases l:i=j
   .subst l;rw [Yd]at f;cases f;exact hs.scope i p R hi b (n b r)
   .rw [Zt _ _ l]at f;exact hs.scope j s D f b r
theorem Xs{α:Type}{t:TypeId}{k:Nat}{e:TypeId}{enc:α->Value}{v:Value}{xs:List α}(i:Nat)(hi:lk H i=some (Oe k e enc v xs))(s:Nat.beq i 0=false)(I:Enc P t k enc):∀a w,Sat N sc env H a w->Sat N sc env ((i,Ys k enc v xs)::H) a w:=λa w hs=>by
  have G:i≠0:=λe=>by subst e;simp at s
  refine⟨hs.size,hs.defers,hs.env,λj m f=>?_,λj D m z r f g y b l n=>?_,λj m u f b l=>?_⟩
  .by_cases h:i=j
   .subst h;rw [Yd]at f;cases f;have B:=hs.hold i _ hi;exact⟨Bp I.cells B,λb l=>(B.lt b l.2).2⟩
   .rw [Zt _ _ h]at f;exact hs.hold j m f
  .by_cases h:i=j
   .subst h;rw [Yd]at f;cases f;cases y
   .rw [Zt _ _ h]at f;by_cases q:i=D
    .subst q;rw [Yd]at g;cases g;exact hs.sep j i m _ r f hi y b l n.2
    .rw [Zt _ _ q]at g;exact hs.sep j D m z r f g y b l n
  .by_cases h:i=j
   .subst h;rw [Yd]at f;cases f;exact hs.scope i _ G hi b l.2
   .rw [Zt _ _ h]at f;exact hs.scope j m u f b l
abbrev U:Nat:=18446744073709551616
theorem Zi0(n:Nat):IntKind.u64.wrap (n:Int)=((n%U:Nat):Int):=by rw [Zok];simp [U]
theorem Zdc{n:Nat}(h:n<U):IntKind.u64.wrap (n:Int)=(n:Int):=by rw [Zi0,Nat.mod_eq_of_lt h]
section
variable {o:Oper} {t t':TypeId} {x y:Operand} {m n:Nat}
theorem Bl(a:o.op= .binOp .add t x y t')(e:ev env x=some (.int .u64 (m:Int)))(f:ev env y=some (.int .u64 (n:Int))):Mo P N sc o env H (.int .u64 (((m+n)%U:Nat):Int)):=Fo a e f λw=>by rw [<-Zi0];simp [binOp,Op.intArith]
theorem Cl(a:o.op= .binOp .mul t x y t')(e:ev env x=some (.int .u64 (m:Int)))(f:ev env y=some (.int .u64 (n:Int))):Mo P N sc o env H (.int .u64 (((m*n)%U:Nat):Int)):=Fo a e f λw=>by rw [<-Zi0];simp [binOp,Op.intArith]
theorem Zd4(a:o.op= .binOp .sub t x y t')(e:ev env x=some (.int .u64 (m:Int)))(f:ev env y=some (.int .u64 (n:Int)))(g:n<U:=by decide):Mo P N sc o env H (.int .u64 (((m+(U-n))%U:Nat):Int)):=Fo a e f λw=>by
 have:((m:Int)-(n:Int))%18446744073709551616=(((m+(U-n))%U:Nat):Int):=by simp only [U]at *;omega
 rw [<-this,<-Zok];simp [binOp,Op.intArith]
theorem Yd8(j:o.op= .binOp .quo t x y t')(l:ev env x=some (.int .u64 (m:Int)))(q:ev env y=some (.int .u64 (n:Int)))(h:m<U:=by omega)(r:0<n:=by omega):Mo P N sc o env H (.int .u64 ((m/n:Nat):Int)):=Fo j l q λw=>by
 have a:m/n<U:=Nat.lt_of_le_of_lt (Nat.div_le_self m n) h;have e:(m:Int).tdiv (n:Int)=((m/n:Nat):Int):=by rw [Int.tdiv_eq_ediv_of_nonneg O];simp
 have f:=Zdc a;have g:¬((n:Int)=0):=O;simp only [binOp,ne_eq,not_true_eq_false,if_false,Op.intDiv,g,e,f,Sem.run_pure]
theorem u_rem(e:o.op= .binOp .rem t x y t')(f:ev env x=some (.int .u64 (m:Int)))(g:ev env y=some (.int .u64 (n:Int)))(h:0<n):Mo P N sc o env H (.int .u64 ((m%n:Nat):Int)):=Fo e f g λw=>by
 have a:(m:Int).tmod (n:Int)=((m%n:Nat):Int):=by rw [Int.tmod_eq_emod_of_nonneg O];simp
 simp [binOp,Op.intDiv,show ¬n=0 by omega,a]
theorem Zdm(m:Nat):BitVec.ofInt 64 (m:Int)=BitVec.ofNat 64 m:=by apply BitVec.eq_of_toNat_eq;simp
theorem Ylo(h:o.op= .binOp .or t x y t')(j:ev env x=some (.int .u64 (m:Int)))(l:ev env y=some (.int .u64 (n:Int)))(a:m<U)(e:n<U):Mo P N sc o env H (.int .u64 ((m ||| n:Nat):Int)):=Fo h j l λw=>by
 have f:m ||| n<U:=Nat.or_lt_two_pow (n:=64) a e;have g:(BitVec.ofInt 64 (m:Int) ||| BitVec.ofInt 64 (n:Int)).toNat=m ||| n:=by rw [Zdm,Zdm,BitVec.toNat_or,BitVec.toNat_ofNat,BitVec.toNat_ofNat,Nat.mod_eq_of_lt a,Nat.mod_eq_of_lt e]
 simp only [binOp,ne_eq,not_true_eq_false,if_false,Op.intBits,Sem.run_pure];rw [show(BitVec.ofInt IntKind.u64.bits (m:Int) ||| BitVec.ofInt IntKind.u64.bits (n:Int)).toNat=m ||| n from g,Zdc f]
theorem Zsc(h:o.op= .binOp .and t x y t')(j:ev env x=some (.int .u64 (m:Int)))(l:ev env y=some (.int .u64 (n:Int)))(a:m<U:=by omega)(g:n<U:=by decide):Mo P N sc o env H (.int .u64 ((m &&& n:Nat):Int)):=Fo h j l λw=>by
 have e:m &&& n<U:=Nat.lt_of_le_of_lt Nat.and_le_left a;have f:(BitVec.ofInt 64 (m:Int) &&& BitVec.ofInt 64 (n:Int)).toNat=m &&& n:=by rw [Zdm,Zdm,BitVec.toNat_and,BitVec.toNat_ofNat,BitVec.toNat_ofNat,Nat.mod_eq_of_lt a,Nat.mod_eq_of_lt g]
 simp only [binOp,ne_eq,not_true_eq_false,if_false,Op.intBits,Sem.run_pure];rw [show(BitVec.ofInt IntKind.u64.bits (m:Int) &&& BitVec.ofInt IntKind.u64.bits (n:Int)).toNat=m &&& n from f,Zdc e]
theorem Zm7(j:o.op= .binOp .shl t x y t')(l:ev env x=some (.int .u64 (m:Int)))(q:ev env y=some (.int k n'))(e:n'=(n:Int))(r:n<=64:=by omega):Mo P N sc o env H (.int .u64 (((m*2^n)%U:Nat):Int)):=λa w hs=>by
 subst e;have f:min n 64=n:=O;have g:IntKind.u64.wrap ((m:Int)*2^n)=(((m*2^n)%U:Nat):Int):=by rw [<-Zi0];simp
 have h:¬((n:Int)<0):=O;simp [execOp,j,hs.ev l,hs.ev q,eqGuard,binOp,Op.shift,IntKind.bits,f,g,h]
theorem Zm6(j:o.op= .binOp .shr t x y t')(l:ev env x=some (.int .u64 (m:Int)))(q:ev env y=some (.int k n'))(e:n'=(n:Int))(r:n<=64:=by omega):Mo P N sc o env H (.int .u64 ((m/2^n:Nat):Int)):=λa w hs=>by
 subst e;have f:min n 64=n:=O;have g:(m:Int).fdiv (2^n)=((m/2^n:Nat):Int):=by rw [Int.fdiv_eq_ediv_of_nonneg _ (by exact Int.pow_nonneg O)];simp
 have h:¬((n:Int)<0):=O;simp [execOp,j,hs.ev l,hs.ev q,eqGuard,binOp,Op.shift,IntKind.bits,f,g,h]
theorem Gx{n':Nat}(e:o.op= .binOp .shr t x y t')(g:ev env x=some (.int .u64 (m:Int)))(h:ev env y=some (.int k (n:Int)))(a:Nat.ble n 64=true)(f:2^n=n'):Mo P N sc o env H (.int .u64 ((m/n':Nat):Int)):=by rw [<-f];exact Zm6 e g h rfl (by simpa using a)
theorem Zg2{r:Int}{m:Int}(f:o.op= .convert t t' x)(j:ev env x=some (.int k m)){ds:TypeDesc}(e:P.underlying t=some ds)(h:P.underlying t'=some (.int k'))(g:k'.wrap m=r):Mo P N sc o env H (.int k' r):=λa w hs=>by subst g;cases ds<;>simp [execOp,f,hs.ev j,convert,run_underlying e,run_underlying h,Conv.intToInt]
end
theorem Zb5 {o:Oper} {x y:Operand}   {m n:Int} (e:o.op= .call { callee:= .builtin .max,args:=#[x,y],argTypes:=ats })
  (f:ev env x=some (.int k m)) (g:ev env y=some (.int k n)):Mo P N sc o env H (.int k (max m n)):=λa w hs=>by
 simp [execOp,e,resolve,hs.ev f,hs.ev g,invoke,builtin,Builtin.max_,Builtin.max2];by_cases h:n>m
 .rw [if_pos h];omega
 .rw [if_neg h];omega
def Kn(v:Value)(n:Nat):Value:=match v with
 | .slice a _ c=> .slice a n c
 | u=>u
theorem Gq(v:Value)(n:Nat):(Kn v n).ownBlock=v.ownBlock:=by
 cases v with
 | slice a l c=>cases a<;>rfl
 | _=>rfl
theorem Yat {α:Type} {o:Oper} {x y:Operand} {t e:TypeId} {v:Value} {ii k i:Nat}  {m:Int}  {enc:α->Value} {xs:List α} (l:o.op= .slice t x none (some y) none)
  (s:ev env x=some v) (u:ev env y=some (.int kd m)) (G:lk H ii=some p) (I:Rd p k enc v xs) (r:P.underlying t=some (.slice e)) (g:∀w,(sizeOf e).run P w= .ok k w)
   (h:m=(i:Int):=by omega) (j:i<=xs.length:=by omega):Mo P N sc o env H (Kn v i):=λa w hs=>by
 obtain⟨z,c,rfl,D,R,S⟩:=I w (hs.hold ii p G);subst h;have f:i<=c:=Nat.le_trans j D;have B:∀q:Addr,q.add 0=q:=λq=>by simp [Addr.add]
 cases z with
 | none=>simp [execOp,l,hs.ev s,hs.ev u,Instr.sliceAt,Instr.slice,Instr.sliceBounds,Instr.sliceBound,asIntOf,run_underlying r,g,f,Kn]
 | some q=>simp [execOp,l,hs.ev s,hs.ev u,Instr.sliceAt,Instr.slice,Instr.sliceBounds,Instr.sliceBound,asIntOf,run_underlying r,g,f,Kn,B]
theorem Zdg{α:Type}{k:Nat}{enc:α->Value}{v:Value}{xs:List α}(n:Nat)(r:n<=xs.length)(h:RowAt w k enc v xs):RowAt w k enc (Kn v n) (xs.take n):=by
 obtain⟨a,c,rfl,q,l,e⟩:=h;have j:(xs.take n).length=n:=by rw [List.length_take];omega
 refine⟨a,c,by rw [j];rfl,by rw [j];omega,l,?_⟩;rcases e with rfl|⟨g,f,rfl,e⟩
 .exact .inl O7
 .refine .inr ⟨g,f,rfl,λi x hi=>e i x ?_⟩;rw [List.getElem?_take]at hi;split at hi
  .exact hi
  .cases hi
theorem Zlr{α:Type}{v:Value}{xs:List α}{n b:Nat}(h:xs.take n≠[]/\(Kn v n).ownBlock=some b):xs≠[]/\v.ownBlock=some b:=
 ⟨λe=>h.1 (by rw [e,List.take_nil]),by rw [<-Gq v n];exact h.2⟩
theorem Yfn{α:Type}{k:Nat}{enc:α->Value}{v:Value}{xs:List α}(i j n:Nat)(hi:lk H i=some (Ys k enc v xs))(l:Nat.beq i 0=false)(u:n<=xs.length:=by omega):∀a w,Sat N sc env H a w->Sat N sc env ((j,Ys k enc (Kn v n) (xs.take n))::H) a w:=
 λa w hs=>hs.add j _ ⟨Zdg n u (hs.hold i _ hi).1,λb f=>(hs.hold i _ hi).2 b (Zlr f)⟩
  (λr B z q Lp b f h=>by
   rcases Lp with Lp|Lp
   .cases Lp
   .have s:=Zlr f;by_cases g:r=i
    .subst g;rw [hi]at q;cases q;cases Lp
    .exact hs.sep r i B _ g q hi Lp b h s)
  (λb f=>hs.scope i _ (λe=>by subst e;simp at l) hi b (Zlr f))
theorem Ynd{α:Type}{k:Nat}{e:TypeId}{enc:α->Value}(s:∀x,(enc x).cells.size=k){v:Value}{xs:List α}(n:Nat)(u:n<=xs.length)(h:w.ownsRow 0 e k v xs.length (cellsOf enc xs)) :
  w.ownsRow 0 e k (Kn v n) (xs.take n).length (cellsOf enc (xs.take n)):=by
 have G:(xs.take n).length=n:=by rw [List.length_take];omega
 refine⟨by rw [Xc s],?_⟩;rw [G];rcases h.2 with⟨rfl,S⟩|⟨g,f,j,rfl,B,D,I,l,q,a⟩
 .have:n=0:=O;subst this;exact .inl ⟨rfl,rfl⟩
 .refine .inr ⟨g,f,j,rfl,B,D,O,l,q,?_⟩;have z:∀(xs:List α) (n:Nat),n<=xs.length->cellsOf enc (xs.take n)=(cellsOf enc xs).take (n*k):=by
   intro xs
   induction xs with
   | nil=>intro n h;simp [cellsOf]
   | cons x r R=>
    intro n h;cases n with
    | zero=>simp [cellsOf]
    | succ n=>
     have:=R n (by simpa using h);simp only [cellsOf,List.take_succ_cons,List.flatMap_cons]at this ⊢;rw [this,show(n+1)*k=(enc x).cells.toList.length+n*k from by simp [s,Nat.add_mul];omega,List.take_length_add_append]
  rw [z xs n u,<-a,List.take_take,Nat.min_eq_left (Nat.mul_le_mul_right k u)]
theorem s_opre{α:Type}{t:TypeId}{k:Nat}{e:TypeId}{enc:α->Value}{v:Value}{xs:List α}(i n:Nat)(hi:lk H i=some (Oe k e enc v xs))(f:Nat.beq i 0=false)(j:Enc P t k enc)(l:n<=xs.length) :
  ∀a w,Sat N sc env H a w->Sat N sc env ((i,Oe k e enc (Kn v n) (xs.take n))::H) a w:=
 Zox i hi rfl (λw h=>Ynd j.cells n l h) (λb g=>by simpa [Oe,Gq]using g) f
theorem Ln{α:Type}{k:Nat}{enc:α->Value}{v:Value}{xs:List α}(i:Nat)(hi:lk H i=some p)(e:Rd p k enc v xs):∀a w,Sat N sc env H a w->xs.length<=9223372036854775807:=λa w hs=>by obtain⟨f,c,rfl,g,h,_⟩:=e w (hs.hold i p hi);have j:maxLen=9223372036854775807:=rfl;omega
theorem Fj(v:Value)(m n:Nat):Kn (Kn v m) n=Kn v n:=by cases v<;>rfl
theorem Zxa{α:Type}{k:Nat}{enc:α->Value}{v:Value}{xs:List α}(i:Nat)(hi:lk H i=some p)(e:Rd p k enc v xs):∀a w,Sat N sc env H a w->Kn v xs.length=v:=λa w hs=>by obtain⟨f,c,rfl,_⟩:=e w (hs.hold i p hi);rfl
end Go.Sky
namespace Go.Sky
open Go.RowKit (Below)
variable{f:FuncId}{vs:List Value}{pre r:List Pc}{args cs:Array Value}{o:Oper}{x y:Operand}{t:TypeId}{i k d:Nat}{v:Value}{w0:World}{M0:Nat->Prop}{ops:Array Oper}{rest:List Oper}{parts:Array (Nat×Operand)}
variable {P:Program} {N:Nat} {sc:Nat->Prop} {env env':Ph} {H H':Hp} {Q Q':Exit->Act->World->Prop} {M:Nat->Prop}
def Qs:Nat->List Value->Ph
  | _,[]=>[]
  | n,v::r=>(n,v)::Qs (n+1) r
def Yv:Nat->List Pc->Hp
  | _,[]=>[]
  | n,p::r=>(n,p)::Yv (n+1) r
def AllRo:List Pc->Prop
  | []=>True
  | p::r=>p.own=false/\AllRo r
theorem AllRo.mem:∀{l:List Pc},AllRo l->∀p∈l,p.own=false
  | p::r,h,q,a=>by
    cases a with
    | head=>exact h.1
    | tail _ a=>exact AllRo.mem h.2 q a
theorem Ht:∀(l:List Value) (n t:Nat) (v:Value),lk (Qs n l) t=some v->n<=t/\l[t-n]? = some v
  | [],_,_,_,h=>by cases h
  | u::r,n,t,v,h=>by
    simp only [Qs]at h;by_cases a:n=t
    . subst a;rw [Yd]at h;cases h;simp
    . rw [Zt _ _ a]at h;obtain⟨c,b⟩:=Ht r (n+1) t v h;refine⟨O,?_⟩;rw [show t-n=(t-(n+1))+1 by omega];simpa using b
theorem Nf:∀(l:List Pc) (n t:Nat) (v:Pc),lk (Yv n l) t=some v->n<=t/\v∈l
  | [],_,_,_,h=>by cases h
  | u::r,n,t,v,h=>by
    simp only [Yv]at h;by_cases a:n=t
    . subst a;rw [Yd]at h;cases h;simp
    . rw [Zt _ _ a]at h;obtain⟨c,b⟩:=Nf r (n+1) t v h;exact⟨O,List.mem_cons_of_mem _ b⟩
theorem cal_in  {fn:Func} {c:Code}   {al:Bool} {G:Type} {φ:G->Prop} {Yh:G->Value} {a:G->List Pc} {N:Nat}
    (u:P.funcs[f]? = some fn) (s:fn.body=some c) (n:fn.ntmps=N) (j:Nat.ble vs.length N=true) (l:AllRo pre)
    (h:∀w0 (sc:Nat->Prop),(∀b,w0.heap.size<=b->sc b)->(∀b,sc b->w0.heap.size<=b\/∃q∈pre,q.fp b)->
      E P N sc c (Zb8 P fn w0 pre al φ Yh a) (Qs 0 vs) ((0,Yo w0 (λ_=>False))::Yv 1 pre)) :
    Cal P f vs.toArray pre al φ Yh a:=
  Ydp (λw0=>(0,Yo w0 (λ_=>False))::Yv 1 pre) u s n (env0:=Qs 0 vs) (λt v z=>by simpa using(Ht vs 0 t v z).2) (by simpa using j)
    (λw i p hi=>by
      by_cases g:0=i
      . subst g;rw [Yd]at hi;cases hi;exact .inl ⟨rfl,rfl⟩
      . rw [Zt _ _ g]at hi;obtain⟨_,m⟩:=Nf pre 1 i p hi;exact .inr ⟨λe=>g e.symm,m,l.mem p m⟩) h
theorem Cal.bare{al a:Bool}{G:Type}{φ:G->Prop}{Yh:G->Value}{c:G->List Pc}(h:Cal P f args pre al φ Yh c):Cal P f args pre a φ Yh (λ_=>[]):=
  λw b=>(h w b).mono λe n ⟨g,l,m,j,_⟩=>⟨g,l,m,j,λp b=>by cases b⟩
def Ones(N:Nat)(sc:Nat->Prop)(env:Ph)(H:Hp):List Value->Prop
  | []=>True
  | v::r=>One N sc env H v/\Ones N sc env H r
theorem Ones.mem:∀{l:List Value},Ones N sc env H l->∀u∈l,One N sc env H u
  | v::r,h,u,a=>by
    cases a with
    | head=>exact h.1
    | tail _ a=>exact Ones.mem h.2 u a
def t_stp   {g:TypeId} {b j:Nat} {cs':Array Value}     (s:o.op= .store t x y) (p:o.dst=none)
    (B:ev env x=some (.pointer (some ⟨b,j,none⟩))) (D:ev env y=some v) (m:lk H i=some (box b g cs)) (e:i≠0) (u:v.cells=vs.toArray) (q:∀w,(sizeOf t).run P w= .ok k w) (c:vs.length=k)
    (a:Nat.ble (j+vs.length) cs.size=true) (l:Ones N sc env H vs)
    (h:lk H 0=some (Yo w0 M0)) (z:∀b,w0.heap.size<=b->sc b) (n:M b) :
    T P N sc M o env H (G:=Unit) (λ_=>True) (λ_=>env) (λ_=>(i,box b g (Fl cs j vs))::H):=
  Zj8 s p B D m e u q c (Nat.le_of_ble_eq_true a) l.mem rfl h z n
theorem Yda{al:Bool}{α:Type}{e:TypeId}{enc:α->Value}{xs ys:List α}(i:Nat)(hi:lk H i=some (Oe k e enc v xs))(b:Nat.beq i 0=false)(c:Enc P t k enc)(a:xs=ys)(h:Give H al r) :
    Give H al (Ys k enc v ys::r):=by subst a;exact Yif i hi b c h
theorem Zlo{p q:Pc}(i:Nat)(hi:lk H i=some p)(b:Nat.beq i 0=false)(c:p.own=false)(a:p=q)(h:Give H true r) :
    Give H true (q::r):=by subst a;exact Gj i hi b c h
theorem Zgb    {b:Bool} (g:lk env d=some (.bool b))
    (j:b=true->L P N sc ops rest Q ((d,.bool true)::env) H) (h:b=false->L P N sc ops rest Q ((d,.bool false)::env) H):L P N sc ops rest Q env H:=by
  cases b with
  | true=>
    refine λa w hs=>j rfl a w ⟨hs.size,hs.defers,λt v c=>?_,hs.hold,hs.sep,hs.scope⟩;by_cases e:d=t
    . subst e;rw [Yd]at c;cases c;exact hs.env _ _ g
    . rw [Zt _ _ e]at c;exact hs.env _ _ c
  | false=>
    refine λa w hs=>h rfl a w ⟨hs.size,hs.defers,λt v c=>?_,hs.hold,hs.sep,hs.scope⟩;by_cases e:d=t
    . subst e;rw [Yd]at c;cases c;exact hs.env _ _ g
    . rw [Zt _ _ e]at c;exact hs.env _ _ c
theorem Fe {α:Type}  {e:TypeId}   {n by_:Nat} {m:Int}   {enc:α->Value} {ti:TypeInfo} (p:α)
    (S:o.op= .makeSlice t x y) (F:o.dst=some d) (Y:ev env x=some (.int .i64 m)) (Z:ev env y=some (.int .i64 m)) 
    (V:P.underlying t=some (.slice e)) (hi:P.info? e=some ti) (hz:ti.zero=some (enc p)) (I:∀x,(enc x).cells.size=k) (g:0<k) (j:ti.size=k) (h:ti.bytes=by_)
     
    (s:lk H 0=some (Yo w0 M0)) (W:∀b,w0.heap.size<=b->sc b) (z:Nat.blt d N=true:=by rfl) (R:m=(n:Int):=by omega) (B:by_*n<=281474976710656:=by omega) (c:0<by_:=by decide) :
    T P N sc M o env H (G:=Value) (λ_=>True) (λv=>(d,v)::env) (λv=>(i,Oe k e enc v (List.replicate n p))::H):=λa w hs K Q u=>
  t_mk p S F z Y Z R V hi hz I g j h B c s W a w hs K Q λb q w' _ l D=>u (.slice (some ⟨b,0,none⟩) n n) q w' trivial l D
def t_bsn {α:Type}  {e:TypeId} {n:Nat}      {enc:α->Value} (xs:List α)
    (B:o.op= .buildSlice t n parts) (q:o.dst=some d) (m:Nat.blt d N=true)
    (D:∀a w,Sat N sc env H a w->(Instr.buildSlice t n (parts.map λ(i,x)=>(i,a.eval x))).run P w= .ok (.slice (some ⟨w.heap.size,0,none⟩) n n) (w.alloc (.cells cs e)))
    (c:cs.toList=cellsOf enc xs) (z:xs.length=n) (s:∀x,(enc x).cells.size=k) (u:n<=maxLen)
    (j:lk H 0=some (Yo w0 M0)) (F:∀b,w0.heap.size<=b->sc b) :
    T P N sc M o env H (G:=Value) (λ_=>True) (λv=>(d,v)::env) (λv=>(i,Oe k e enc v xs)::H):=λa w hs K Q l=>
  t_bs xs B q m D c z s u j F a w hs K Q λb h I _ g p=>l (.slice (some ⟨b,0,none⟩) n n) h I trivial g p
end Go.Sky
namespace Go.Sky
open Go.RowKit (Below)
variable{o:Oper}{f:FuncId}{xs:List Operand}{ats:Array TypeId}{vs:List Value}{x y z:Operand}{t t':TypeId}{k:IntKind}{m:Nat}{v:Value}{p:Pc}
variable {P:Program} {N:Nat} {sc:Nat->Prop} {env env':Ph} {H H':Hp} {Q Q':Exit->Act->World->Prop} {M:Nat->Prop}
def Zel:Array Value->Sem Value:=λa=>do
 let (x, y, b) ← Extern.MathBitsCarry.three "Sub64" a
 pure (Extern.MathBitsCarry.pair ((x+Extern.MathBitsCarry.m64-y-b)%Extern.MathBitsCarry.m64) (if x<y+b then 1 else 0))
theorem Ycf{P:Program}(x y c:Nat)(a:c<=1)(w:World) :
  (Zel #[.int .u64 x,.int .u64 y,.int .u64 c]).run P w =
   .ok (.tuple #[.int .u64 (((x+U-y-c)%U:Nat):Int),.int .u64 ((if x<y+c then 1 else 0:Nat):Int)]) w:=by
 have:c=0\/c=1:=O;rcases this with rfl|rfl<;>rfl
theorem Ik {a:Act} {w:World} (hs:Sat N sc env H a w)      (d:o.op= .call { callee:= .value (.func f),args:=xs.toArray,argTypes:=ats })
  (b:EvL env xs vs):(execOp a.eval o).run P w=(callFunc f vs.toArray).run P w:=by
 have c:=b.map hs;simp [execOp,d,resolve,invoke,Act.eval,Deferred.ofValue,c]
theorem Zq6     {a b c:Nat} (i:o.op= .call { callee:= .value (.func f),args:=#[x,y,z],argTypes:=ats })
  (j:ev env x=some (.int .u64 (a:Int))) (l:ev env y=some (.int .u64 (b:Int))) (n:ev env z=some (.int .u64 (c:Int))) (q:c<=1)
  (d:∀args w,(callFunc f args).run P w=((add64Entry args).run P w).andThen λv w'=> .ok (.value v) w') :
  Mo P N sc o env H (.tuple #[.int .u64 (((a+b+c)%U:Nat):Int),.int .u64 (((a+b+c)/U:Nat):Int)]):=λs w hs=>by
 have h:=run_add64 (P:=P) (a:Int) b c O O O O w;have e:(((a:Int)+b+c)%18446744073709551616)=(((a+b+c)%U:Nat):Int):=by simp only [U];omega
 have g:(((a:Int)+b+c)/18446744073709551616)=(((a+b+c)/U:Nat):Int):=by simp only [U];omega
 rw [e,g]at h;rw [Ik hs (xs:=[x,y,z]) (vs:=[_,_,_]) i ⟨j,l,n,trivial⟩,d,h];rfl
def brw(a b c:Nat):Nat:=if a<b+c then 1 else 0
theorem Ykh(a b c:Nat):brw a b c<=1:=by unfold brw;split<;>omega
theorem Yoq     {a b c:Nat} (g:o.op= .call { callee:= .value (.func f),args:=#[x,y,z],argTypes:=ats })
  (i:ev env x=some (.int .u64 (a:Int))) (j:ev env y=some (.int .u64 (b:Int))) (l:ev env z=some (.int .u64 (c:Int))) (e:c<=1)
  (d:∀args w,(callFunc f args).run P w=((Zel args).run P w).andThen λv w'=> .ok (.value v) w') :
  Mo P N sc o env H (.tuple #[.int .u64 (((a+U-b-c)%U:Nat):Int),.int .u64 (brw a b c:Int)]):=λs w hs=>by
 have h:=Ycf (P:=P) a b c e w;rw [Ik hs (xs:=[x,y,z]) (vs:=[_,_,_]) g ⟨i,j,l,trivial⟩,d,h];rfl
theorem Zef{ds:TypeDesc}(b:o.op= .convert t t' x)(d:ev env x=some (.int k (m:Int)))(a:P.underlying t=some ds)(c:P.underlying t'=some (.int .u8)) :
  Mo P N sc o env H (.int .u8 ((m%256:Nat):Int)):=Zg2 b d a c (by simp [IntKind.wrap,IntKind.bits,IntKind.signed])
def Zq8{ds:TypeDesc}(c:o.op= .convert t t' x)(e:ev env x=some (.int k (m:Int)))(a:P.underlying t=some ds)(d:P.underlying t'=some (.int .u64))(b:m<U) :
  Mo P N sc o env H (.int .u64 (m:Int)):=Zg2 c e a d (Zdc b)
def Zby{m:Int}{ds:TypeDesc}(c:o.op= .convert t t' x)(e:ev env x=some (.int k m))(a:P.underlying t=some ds)(d:P.underlying t'=some (.int .i64))(b:Ng m) :
  Mo P N sc o env H (.int .i64 m):=Zg2 c e a d (Zbb b)
theorem Kc(t:Nat){v':Value}(d:lk env t=some v)(h:v=v'):∀a w,Sat N sc env H a w->Sat N sc ((t,v')::env) H a w:=λa w hs=>by
 subst h;refine⟨hs.size,hs.defers,λs u b=>?_,hs.hold,hs.sep,hs.scope⟩;by_cases c:t=s
 .subst c;rw [Yd]at b;cases b;exact hs.env _ _ d
 .rw [Zt _ _ c]at b;exact hs.env _ _ b
theorem Qy(i j:Nat)(hi:lk H i=some p)(h:Nat.beq i 0=false)(n:p.own=false):∀a w,Sat N sc env H a w->Sat N sc env ((j,p)::H) a w:=λa w hs=>
 hs.add j p (hs.hold i p hi) (λq r _ l Lp b d g=>by
  rcases Lp with Lp|Lp
  .rw [n]at Lp;cases Lp
  .by_cases c:q=i
   .subst c;rw [hi]at l;cases l;rw [n]at Lp;cases Lp
   .exact hs.sep q i r p c l hi Lp b g d) (λb d=>hs.scope i p (λe=>by subst e;simp at h) hi b d)
theorem Zmb{P:Program}(w:World)(f:Value->ByteArray->Sem (ForInStep ByteArray))(a:∀(n:Nat) (r:ByteArray),f (.int .u8 (n:Int)) r=pure (.yield (r.push (UInt8.ofNat n)))):∀(l:List Nat) (s:ByteArray),
  (forIn (m:=Sem) (l.map λn:Nat=>Value.int .u8 (n:Int)) s f).run P w= .ok (l.foldl (λs n=>s.push (UInt8.ofNat n)) s) w
 | [],s=>rfl
 | n::r,s=>by have b:=Zmb (P:=P) w f a r (s.push (UInt8.ofNat n));simp only [List.map_cons,List.forIn_cons,a,Sem.run_bind,Sem.run_pure,Result.andThen_ok,List.foldl_cons];exact b
theorem Zls:∀(l:List Nat) (s:ByteArray),l.foldl (λs n=>s.push (UInt8.ofNat n)) s=⟨s.data ++ (l.map UInt8.ofNat).toArray⟩
 | [],s=>O7
 | n::r,s=>by rw [List.foldl_cons,Zls r];simp [ByteArray.push]
theorem d_b2s  {e:TypeId}   {i:Nat}  {xs:List Nat} (V:o.op= .convert t t' x) (s:ev env x=some v) (R:lk H i=some p) (W:Rd p 1 (λn:Nat=>Value.int .u8 (n:Int)) v xs)
  (Y:P.underlying t=some (.slice e)) (D:P.underlying t'=some .string) (S:P.underlying e=some (.int .u8)):Mo P N sc o env H (.string ⟨(xs.map UInt8.ofNat).toArray⟩):=λa w hs=>by
 obtain⟨B,c,rfl,Z,h2,G⟩:=W w (hs.hold i p R);have l:(Conv.bytesToString (.slice B xs.length c)).run P w= .ok (.string ⟨(xs.map UInt8.ofNat).toArray⟩) w:=by
  cases B with
  | none=>
   rcases G with rfl|⟨g,F,h,_⟩
   .rfl
   .cases h
  | some q=>
   have b:(loadCells q xs.length).run P w= .ok (xs.map λn:Nat=>Value.int .u8 (n:Int)).toArray w:=by
    have:=run_loadCells_list (P:=P) w q (xs.map λn:Nat=>Value.int .u8 (n:Int)) (λj u d=>by
     rcases G with rfl|⟨g,F,h,I⟩
     .simp at d
     .cases h;rw [List.getElem?_map]at d;cases s:xs[j]? with
      | none=>rw [s]at d;cases d
      | some y=>
       rw [s]at d;cases d;have:=I j y s 0 (.int .u8 (y:Int)) rfl;rw [Py];simpa using this)
    simpa using this
   simp only [Conv.bytesToString,Sem.run_bind,b,Result.andThen_ok];simp only [List.forIn_toArray];rw [Zmb (P:=P) w _ (λn r=>rfl) xs ByteArray.empty,Zls];simp [ByteArray.empty,ByteArray.emptyWithCapacity];rfl
 have:(convert t t' (.slice B xs.length c)).run P w= .ok (.string ⟨(xs.map UInt8.ofNat).toArray⟩) w:=by simp only [convert,Sem.run_bind,run_underlying Y,run_underlying D,Result.andThen_ok,run_underlying S,l]
 simp only [execOp,V,hs.ev s];simp [this]
end Go.Sky
namespace Go.Sky
open Go.RowKit (Below)
variable{o:Oper}{f:FuncId}{xs:List Operand}{ats:Array TypeId}{d i k:Nat}{vs:List Value}{pre:List Pc}{w0:World}{M0:Nat->Prop}{fn:Func}{x y:Operand}{t:TypeId}{v:Value}{p:Pc}{kd:IntKind}
variable {P:Program} {N:Nat} {sc:Nat->Prop} {env env':Ph} {H H':Hp} {Q Q':Exit->Act->World->Prop} {M:Nat->Prop}
def Yld(P:Program)(f:FuncId)(args:Array Value)(pre:List Pc){G:Type}(φ:G->Prop)(Yh:G->Value)(a:G->Pc):Prop:=
 ∀w,(∀p∈pre,p.holds w)->Calls P f args w λe c=>∃g,e= .returned (Yh g)/\φ g/\Below w.heap.size w c/\(a g).holds c/\∀b,(a g).fp b->w.heap.size<=b
theorem Zde     {n:Nat}   {G:Type} {φ:G->Prop} {Yh:G->Value} {s:G->Pc}  
  (W:Yld P f vs.toArray pre φ Yh s)
  (ho:o.op= .call { callee:= .value (.func f),args:=xs.toArray,argTypes:=ats }) (Y:o.dst=some d) (V:Nat.blt d N=true)
  (h:EvL env xs vs) (l:∀args w,(callFunc f args).run P w= .ok (.enter f args) w) (r:PreOk H false pre)
  (R:lk H 0=some (Yo w0 M0)) (hw:∀b,w0.heap.size<=b->sc b) :
  T P N sc M o env H φ (λg=>(d,Yh g)::env) (λg=>(n,s g)::H):=λa w hs K Q S=>by
 have hr:(execOp a.eval o).run P w= .ok (.enter f vs.toArray) w:=by rw [Ik hs ho h,l]
 unfold Oper.wp;rw [hr];refine(W w (λp hp=>by obtain⟨i,s,_,hi,q,_,_⟩:=r.mem p hp;exact q w (hs.hold i s hi))).mono ?_
 rintro e I ⟨g,rfl,Z,c,B,m⟩;show K (a.put o.dst (Yh g)) I;rw [Y];have D:Sat N sc env H a I:=hs.chg0 (Chg.of_below c);refine S g _ _ Z (Sat.put (D.add n (s g) B (λj F _ hj _ b u z=>?_) (λb u=>hw b (Nat.le_trans (hs.hold 0 _ R).size (m b u)))) d _ V) (Chg.of_below c);have:=F.lt w b (hs.hold j F hj) z;have:=m b u;omega
def Yk9(P:Program)(fn:Func)(w0:World){G:Type}(φ:G->Prop)(Yh:G->Value)(a:G->Pc):Exit->Act->World->Prop:=
 bodyPost P fn λe c=>∃g,e= .returned (Yh g)/\φ g/\Below w0.heap.size w0 c/\(a g).holds c/\∀b,(a g).fp b->w0.heap.size<=b
theorem Zrk   {c:Code}   {G:Type} {φ:G->Prop} {Yh:G->Value} {F:G->Pc} {N:Nat}
  (S:P.funcs[f]? = some fn) (g:fn.body=some c) (I:fn.ntmps=N) (n:Nat.ble vs.length N=true) (B:AllRo pre)
  (h:∀w0 (sc:Nat->Prop),(∀b,w0.heap.size<=b->sc b)->(∀b,sc b->w0.heap.size<=b\/∃q∈pre,q.fp b)->
   E P N sc c (Yk9 P fn w0 φ Yh F) (Qs 0 vs) ((0,Yo w0 (λ_=>False))::Yv 1 pre)) :
  Yld P f vs.toArray pre φ Yh F:=λw W=>by
 refine calls_of_wp S g (h w (λb=>w.heap.size<=b\/∃q∈pre,q.fp b) (λb g=> .inl g) (λb g=>g) _ w ?_);have n:vs.length<=N:=by simpa using n
 have a:∀i p,lk ((0,Yo w (λ_=>False))::Yv 1 pre) i=some p->(i=0/\p=Yo w (λ_=>False))\/(i≠0/\p∈pre/\p.own=false):=λi p hi=>by
   by_cases m:0=i
   .subst m;rw [Yd]at hi;cases hi;exact .inl ⟨rfl,rfl⟩
   .rw [Zt _ _ m]at hi;obtain⟨_,l⟩:=Nf pre 1 i p hi;exact .inr ⟨λe=>m e.symm,l,B.mem p l⟩
 refine⟨by simp [I];omega,rfl,λt v Y=>?_,λi p hi=>?_,λi j p q V hi Z z b g R=>?_,λi p s hi b g=>?_⟩
 .have D:vs.toArray[t]? = some v:=by simpa using(Ht vs 0 t v Y).2
  have u:=(Array.getElem?_eq_some_iff.1 D).1;rw [Array.getD_eq_getD_getElem?,Array.getElem?_append_left u,D];rfl
 .rcases a i p hi with⟨_,rfl⟩|⟨_,l,_⟩
  .exact Chg.refl _ w
  .exact W p l
 .rcases a i p hi with⟨_,rfl⟩|⟨_,l,r⟩
  .cases z
  .rw [r]at z;cases z
 .rcases a i p hi with⟨m,_⟩|⟨_,l,_⟩
  .exact absurd m s
  .exact .inr ⟨p,l,g⟩
theorem Zgz  {G:Type} {φ:G->Prop} {Yh:G->Value} {m:G->Pc}  {e:Exit} (B:e= .ret\/e= .normal)
  (g:G) (v:Value) (l:∀a w,Sat N sc env H a w->(results fn a.tmps).run P w= .ok v w) (I:Yh g=v) (D:φ g) (u:lk H 0=some (Yo w0 (λ_=>False)))
  (i:Nat) (r:Nat.beq i 0=false) (hi:lk H i=some (m g)) (j:(m g).own=true) :
  X N sc e (Yk9 P fn w0 φ Yh m) env H:=λa w hs=>by
 have c:i≠0:=λe=>by subst e;simp at r
 have n:a.defers=[]/\∃v,(results fn a.tmps).run P w= .ok v w/\(∃g,Ending.returned v= .returned (Yh g)/\φ g/\Below w0.heap.size w0 w/\(m g).holds w/\∀b,(m g).fp b->w0.heap.size<=b):=by
  refine⟨hs.defers,v,l a w hs,g,by rw [I],D,Kt (hs.hold 0 _ u),hs.hold i _ hi,λb z=>?_⟩;have F:=hs.sep i 0 _ _ c hi u j b z;rcases Nat.lt_or_ge b w0.heap.size with s|q
  .exact absurd ⟨s,λh=>h⟩ F
  .exact q
 rcases B with rfl|rfl
 .exact n
 .exact n
theorem Zq5{α:Type}{s e:TypeId}{enc:α->Value}{xs:List α}(g:o.op= .binOp .eql t x y s)(j:ev env x=some v)(l:ev env y=some (.slice none 0 0))(m:lk H i=some p)(n:Rd p k enc v xs)(r:P.underlying t=some (.slice e)) :
  Mo P N sc o env H (.bool (v.ownBlock.isNone)):=λa w hs=>by
 obtain⟨b,c,rfl,_⟩:=n w (hs.hold i p m);have h:=Lib.run_eql_slice_nil (P:=P) w t e b xs.length c 0 0 r;cases b with
 | none=>simp [execOp,g,hs.ev j,hs.ev l,eqGuard,h,Value.ownBlock]
 | some q=>simp [execOp,g,hs.ev j,hs.ev l,eqGuard,h,Value.ownBlock]
theorem Pp {α:Type}   {e:TypeId} {j by_:Nat} {u:Value} {enc:α->Value} {xs ys:List α}  {ti:TypeInfo} {z:Value}  
  (ho:o.op= .call { callee:= .builtin .append,args:=#[x,y],argTypes:=#[t,t] }) (hd:o.dst=some d) (hN:Nat.blt d N=true)
  (hx:ev env x=some v) (hy:ev env y=some u) (W:lk H i=some (Oe k e enc v xs)) (D:i≠0) (hj:lk H j=some p) (hr:Rd p k enc u ys)
  (ht:P.underlying t=some (.slice e)) (hi:P.info? e=some ti) (hz:ti.zero=some z) (he:Enc P e k enc) (a1:ti.size=k) (Z:ti.bytes=by_) (a3:z.cells.size=k)
  (Y:(xs.length+ys.length)*by_<=140737488355328) (s:0<by_)
  (h0:lk H 0=some (Yo w0 M0)) (hw:∀b,w0.heap.size<=b->sc b) :
  T P N sc (λ_=>True) o env H (G:=Value) (λ_=>True) (λv'=>(d,v')::env) (λv'=>(i,Oe k e enc v' (xs ++ ys))::H):=by
 by_cases R:ys=[]
 .subst R;intro a w hs K Q hK;have l:w.ownsRow 0 e k v xs.length (cellsOf enc xs):=hs.hold i _ W;obtain⟨S,c,rfl,h1,h2,h3⟩:=hr w (hs.hold j p hj);have F:∃m n r,v= .slice m n r/\n=xs.length/\n<=r:=by
   rcases l.2 with⟨rfl,hn⟩|⟨g,V,a4,rfl,_,_,h,_⟩
   .exact⟨none,0,0,rfl,hn.symm,Nat.le_refl _⟩
   .exact⟨_,_,V,rfl,rfl,h⟩
  obtain⟨m,n,r,rfl,rfl,h⟩:=F;have I:(Builtin.append_ #[t,t] o.type #[.slice m xs.length r,.slice S ([]:List α).length c]).run P w= .ok (.slice m xs.length r) w:=by
   have B:(Builtin.firstCells ti.size 0 (.slice S 0 c)).run P w= .ok #[] w:=by
    cases S with
    | none=>rfl
    | some q=>simp [Builtin.firstCells,loadCells,loadCellsFrom]
   cases m with
   | none=>simp [Builtin.append_,run_underlying ht,sizeOf,typeInfo,hi,Builtin.lenOf,B,h]
   | some q=>simp [Builtin.append_,run_underlying ht,sizeOf,typeInfo,hi,Builtin.lenOf,B,h,storeCells]
  have a2:(execOp a.eval o).run P w= .ok (.value (.slice m xs.length r)) w:=by simp only [execOp,ho,resolve,invoke,builtin,Sem.run_bind,Sem.run_pure,Result.andThen_ok,List.map_toArray,List.map_cons,List.map_nil,hs.ev hx,hs.ev hy,I]
  unfold Oper.wp;rw [a2];show K (a.put o.dst _) _;rw [hd];refine hK _ _ _ trivial ((Sat.upd hs W rfl D (q:=Oe k e enc (.slice m xs.length r) (xs ++ [])) (Chg.refl _ w) ?_ (λb Y=> .inl Y) h0 hw).put d _ hN) (Chg.refl _ w);rw [List.append_nil];exact l
 .exact t_app (i2:=0) ho hd hN hx hy W D hj hr R ht hi hz he a1 Z a3 Y s h0 hw
def Zek(v:Value)(n k:Nat):Value:=match v with
 | .slice a l c=> .slice (if c=n then a else a.map (·.add (n*k))) (l-n) (c-n)
 | u=>u
theorem Zeb(v:Value)(n k:Nat):(Zek v n k).ownBlock=v.ownBlock:=by
 cases v with
 | slice a l c=>
  cases a with
  | none=>simp only [Zek];split<;>rfl
  | some q=>
   simp only [Zek];split
   .rfl
   .simp only [Option.map_some,Value.ownBlock,Addr.add];split<;>rfl
 | _=>rfl
theorem d_suf {α:Type}   {e:TypeId}  {ii:Nat}  {m:Int}  {enc:α->Value} {xs:List α} (n:o.op= .slice t x (some y) none none)
  (s:ev env x=some v) (u:ev env y=some (.int kd m)) (j:lk H ii=some p) (q:Rd p k enc v xs) (r:P.underlying t=some (.slice e)) (h:∀w,(sizeOf e).run P w= .ok k w)
  (b:m=(i:Int)) (g:i<=xs.length):Mo P N sc o env H (Zek v i k):=λa w hs=>by
 obtain⟨z,c,rfl,B,D,F⟩:=q w (hs.hold ii p j);subst b;have l:(i:Int)<=(xs.length:Int):=O;simp [execOp,n,hs.ev s,hs.ev u,Instr.sliceAt,Instr.slice,Instr.sliceBounds,Instr.sliceBound,asIntOf,run_underlying r,h,g,Zek]
theorem Znn{α:Type}{w:World}{enc:α->Value}{xs:List α}(n:Nat)(z:n<=xs.length)(h:RowAt w k enc v xs):RowAt w k enc (Zek v n k) (xs.drop n):=by
 obtain⟨a,c,rfl,r,s,l⟩:=h;refine⟨if c=n then a else a.map (·.add (n*k)),c-n,by simp only [Zek,List.length_drop],by rw [List.length_drop];omega,O,?_⟩;by_cases b:xs.drop n=[]
 .exact .inl b
 .have m:n<xs.length:=by
   rcases Nat.lt_or_ge n xs.length with h|h
   .exact h
   .exact absurd (List.drop_of_length_le h) b
  rcases l with rfl|⟨g,e,rfl,l⟩
  .simp at m
  .refine .inr ⟨g,e+n*k,?_,λi x hi j u q=>?_⟩
   .rw [if_neg O];simp [Py]
   .rw [List.getElem?_drop]at hi;have:=l (n+i) x hi j u q;rw [Nat.add_mul]at this;rw [Nat.add_assoc e,<-this]
theorem Zw7{α:Type}{xs:List α}{n b:Nat}(h:xs.drop n≠[]/\(Zek v n k).ownBlock=some b):xs≠[]/\v.ownBlock=some b:=
 ⟨λe=>h.1 (by rw [e,List.drop_nil]),by rw [<-Zeb v n k];exact h.2⟩
theorem s_suf{α:Type}{enc:α->Value}{xs:List α}(i j n:Nat)(hi:lk H i=some (Ys k enc v xs))(l:Nat.beq i 0=false)(s:n<=xs.length):∀a w,Sat N sc env H a w->Sat N sc env ((j,Ys k enc (Zek v n k) (xs.drop n))::H) a w:=
 λa w hs=>hs.add j _ ⟨Znn n s (hs.hold i _ hi).1,λb c=>(hs.hold i _ hi).2 b (Zw7 c)⟩
  (λq z u m Lp b c h=>by
   rcases Lp with Lp|Lp
   .cases Lp
   .have r:=Zw7 c;by_cases g:q=i
    .subst g;rw [hi]at m;cases m;cases Lp
    .exact hs.sep q i z _ g m hi Lp b h r)
  (λb c=>hs.scope i _ (λe=>by subst e;simp at l) hi b (Zw7 c))
end Go.Sky
namespace Go.Sky
open Go.RowKit (Below)
variable{o:Oper}{t:TypeId}{parts:List (Nat×Operand)}{ivs:List (Nat×Value)}{cells cs:Array Value}{z:Value}{k:Nat}{w0:World}{M0:Nat->Prop}
variable {P:Program} {N:Nat} {sc:Nat->Prop} {env env':Ph} {H H':Hp} {Q Q':Exit->Act->World->Prop} {M:Nat->Prop}
def EvP(e:Ph):List (Nat×Operand)->List (Nat×Value)->Prop
 | [],[]=>True
 | (i,x)::r,(j,v)::vs=>i=j/\ev e x=some v/\EvP e r vs
 | _,_=>False
theorem EvP.map{a:Act}{w:World}(h:Sat N sc env H a w):∀{xs:List (Nat×Operand)} {vs:List (Nat×Value)},EvP env xs vs->xs.map (λ(i,x)=>(i,a.eval x))=vs
 | [],[],_=>rfl
 | (i,x)::r,(j,v)::vs,hh=>by obtain⟨rfl,b,c⟩:=hh;simp only [List.map_cons,h.ev b,EvP.map h c]
 | [],_::_,hh=>hh.elim
 | _::_,[],hh=>hh.elim
theorem Qq      (c:o.op= .build t parts.toArray) (d:EvP env parts ivs)
  (b:∀a w,Sat N sc env H a w->P.built t ivs=some cells):Mo P N sc o env H (.agg cells):=λa w hs=>by
 have h:=run_build (P:=P) w t (parts.toArray.map λ(i,x)=>(i,a.eval x)) cells (by rw [List.map_toArray,d.map hs];exact b a w hs);simp only [execOp,c,Sem.run_bind,h,Result.andThen_ok,Sem.run_pure]
 try rfl
theorem Qz  {a:TypeInfo} {fs:Array Field}  {pl:List (Nat×Nat)} (parts:List (Nat×Value))  (hi:P.info? t=some a) (d:P.underlying t=some (.struct fs)) (e:a.zero=some z)
  (c:fs.toList.mapM (λf=>(P.info? f.type).map λi=>(f.offset,i.size))=some pl) (b:Instr.fill (pl.toArray[·]?) z.cells parts=some cells):P.built t parts=some cells:=by
 unfold Program.built;simp only [hi,d,e,c,b]
theorem Zis(w:World)(t e:TypeId)(a:P.underlying t=some (.slice e))(hs:∀w,(sizeOf e).run P w= .ok k w) :
  (Instr.buildSlice t 0 #[]).run P w= .ok (.slice (some ⟨w.heap.size,0,none⟩) 0 0) (w.alloc (.cells #[] e)):=by
 simp [Instr.buildSlice,run_underlying a,hs,Instr.fill,newRow];rw [show(Array.range 0)=#[] by decide,Array.map_empty]
theorem Qb {α:Type}  {e:TypeId} {n:Nat}   {d i:Nat}    {enc:α->Value} {ti:TypeInfo}  (xs:List α)
  (s:o.op= .buildSlice t n parts.toArray) (l:o.dst=some d) (y:EvP env parts ivs)
  (u:P.underlying t=some (.slice e)) (hi:P.info? e=some ti) (D:ti.zero=some z) (g:Nat.ble (n*ti.size) 16777216=true) 
  (m:Instr.fill (λi=>some (i*ti.size,ti.size)) ((List.range (n*ti.size)).map (z.cells[· % z.cells.size]!)).toArray ivs=some cs)
  (f:cs.toList=cellsOf enc xs) (r:xs.length=n) (p:∀x,(enc x).cells.size=k) (q:Nat.ble n 16777216=true)
  (h:lk H 0=some (Yo w0 M0)) (B:∀b,w0.heap.size<=b->sc b) (j:Nat.blt d N=true:=by rfl) (c:Nat.blt 0 (n*ti.size)=true:=by rfl) :
  T P N sc M o env H (G:=Value) (λ_=>True) (λv=>(d,v)::env) (λv=>(i,Oe k e enc v xs)::H):=
 t_bsn xs s l j (λa w hs=>run_buildSlice w t e n _ cs ti z u hi D (by have:=Nat.le_of_ble_eq_true g;omega) (by have:=Nat.blt_eq▸c;simp at c;omega) (by rw [show(parts.toArray.map λ(i,x)=>(i,a.eval x)).toList=ivs by rw [List.map_toArray,y.map hs],show(Array.range (n*ti.size)).map (z.cells[· % z.cells.size]!)=((List.range (n*ti.size)).map (z.cells[· % z.cells.size]!)).toArray by rw [<-List.map_toArray,<-Array.toList_range,Array.toArray_toList]];exact m)) f r p (by have:=Nat.le_of_ble_eq_true q;simp only [maxLen];omega) h B
theorem Yeg {α:Type}  {e:TypeId}  {d i:Nat}   {enc:α->Value} 
  (j:o.op= .buildSlice t 0 #[]) (h:o.dst=some d) (g:Nat.blt d N=true) (l:P.underlying t=some (.slice e)) (c:Enc P e k enc)
  (f:lk H 0=some (Yo w0 M0)) (m:∀b,w0.heap.size<=b->sc b) :
  T P N sc M o env H (G:=Value) (λ_=>True) (λv=>(d,v)::env) (λv=>(i,Oe k e enc v [])::H):=
 t_bsn (n:=0) (cs:=#[]) (parts:=#[]) [] j h g (λa w hs=>by rw [Array.map_empty];exact Zis w t e l c.size) rfl rfl c.cells (by simp [maxLen]) f m
theorem Qx{α:Type}(i k:Nat)(e:TypeId)(enc:α->Value):∀a w,Sat N sc env H a w->Sat N sc env ((i,Oe k e enc (.slice none 0 0) [])::H) a w:=λa w hs=>
 hs.add i _ ⟨by simp [cellsOf],.inl ⟨rfl,rfl⟩⟩ (λj h f g Lp b c d=>by cases c) (λb c=>by cases c)
theorem Yiy{α:Type}{enc:α->Value}{v:Value}{xs:List α}{p:Pc}(i:Nat)(hi:lk H i=some p)(d:Rd p k enc v xs):∀a w,Sat N sc env H a w->(v.ownBlock=none->xs=[]):=λa w hs h=>by
 obtain⟨f,c,rfl,j,l,b⟩:=d w (hs.hold i p hi);rcases b with b|⟨g,e,rfl,_⟩
 .exact b
 .cases h
end Go.Sky
namespace Go.Sky
variable{t te:TypeId}{k i:Nat}{v u:Value}{xs:List Nat}{o:Oper}{x y:Operand}{p:Pc}{r:List Pc}{w w0:World}{cur:Array Value}{M0:Nat->Prop}
abbrev Mm (n:Nat):Value:= .int .u64 (n:Int)
abbrev Ziy (n:Nat):Value:= .int .u8 (n:Int)
abbrev Hc (n:Nat):Value:= .int .i64 (n:Int)
abbrev Yg (n:Int):Value:= .int .i64 n
theorem Bb(xs:List Nat):(tz xs).length<=xs.length/\xs.take (tz xs).length=tz xs:=by
 induction hn:xs.length generalizing xs with
 | zero=>
   have:xs=[]:=List.eq_nil_of_length_eq_zero hn;subst this;simp [tz]
 | succ n d=>
  rcases Zbh xs with rfl|⟨b,y,rfl⟩
  .simp at hn
  .by_cases a:y=0
   .subst a;rw [Ka];obtain⟨e,c⟩:=d b (by simpa using hn);have f:b.length=n:=by simpa using hn
    exact⟨O,by rw [List.take_append_of_le_length O];exact c⟩
   .rw [Hl _ _ a];exact⟨O,List.take_length⟩
theorem Zb9{P:Program}{N:Nat}{sc:Nat->Prop}{env:Ph}{H:Hp}{enc:Nat->Value}{e:TypeId}(i:Nat)(hi:lk H i=some (Oe k e enc v xs))(b:Nat.beq i 0=false)(c:Enc P t k enc) :
  ∀a w,Sat N sc env H a w->Sat N sc env ((i,Oe k e enc (Kn v (tz xs).length) (tz xs))::H) a w:=by
 have h:=s_opre (N:=N) (sc:=sc) (env:=env) i (tz xs).length hi b c (Bb xs).1;rwa [(Bb xs).2]at h
abbrev Eu (v:Value) (x:Nat):Pc:=Ys 1 Mm v (dg U x)
theorem Xr:2<=U:=by simp [U]
def Qh(x:Nat):ByteArray:=⟨((dg 256 x).reverse.map UInt8.ofNat).toArray⟩
theorem Dk(x:Nat):(Qh x).size=(dg 256 x).length:=by simp [Qh,ByteArray.size]
theorem Zvo(x i:Nat)(h:i<(dg 256 x).length):((Qh x).data.toList.getD i 0).toNat=x/256^((dg 256 x).length-1-i)%256:=by
 have c:i<((dg 256 x).reverse.map UInt8.ofNat).length:=by simpa using h
 have d:(Qh x).data.toList=(dg 256 x).reverse.map UInt8.ofNat:=by simp [Qh]
 rw [d];simp only [List.getD,List.getElem?_eq_getElem c,Option.getD_some,List.getElem_map,List.getElem_reverse];have a:=Hf (b:=256) O ((dg 256 x).length-1-i) x;have e:(dg 256 x).length-1-i<(dg 256 x).length:=O;rw [show(dg 256 x).getD ((dg 256 x).length-1-i) 0=(dg 256 x)[(dg 256 x).length-1-i] by simp [List.getD,e]]at a;rw [a];simp
open Go.RowKit (Below)
variable {P:Program} {N:Nat} {sc:Nat->Prop} {env env':Ph} {H H':Hp} {Q Q':Exit->Act->World->Prop} {M:Nat->Prop}
theorem d_mid {α:Type}  {z:Operand} {e:TypeId}  {ii j:Nat} {S l:IntKind} {m n:Int}  {enc:α->Value} {xs:List α} (B:o.op= .slice t x (some y) (some z) none)
  (G:ev env x=some v) (I:ev env y=some (.int S m)) (R:ev env z=some (.int l n)) (s:lk H ii=some p) (D:Rd p k enc v xs) (F:P.underlying t=some (.slice e)) (h:∀w,(sizeOf e).run P w= .ok k w)
  (d:m=(i:Int)) (f:n=(j:Int)) (b:i<=j) (g:j<=xs.length):Mo P N sc o env H (Kn (Zek v i k) (j-i)):=λa w hs=>by
 obtain⟨V,c,rfl,W,Y,Z⟩:=D w (hs.hold ii p s);subst d f;have h4:¬(c:Int)<(j:Int):=O;have h5:¬(j:Int)<(i:Int):=O;have q:j<=c:=O;simp [execOp,B,hs.ev G,hs.ev I,hs.ev R,Instr.sliceAt,Instr.slice,Instr.sliceBounds,Instr.sliceBound,asIntOf,run_underlying F,h,g,b,q,Zek,Kn]
theorem Zdj {α:Type}  {e:TypeId} {enc:α->Value}  {xs ys:List α}   (i:Nat) (hi:lk H i=some (Oe k e enc v xs)) (f:Nat.beq i 0=false) (j:Enc P t k enc)
  (c:∀w,RowAt w k enc v xs->RowAt w k enc u ys) (a:u.ownBlock=v.ownBlock) (h:PreOk H false r):PreOk H false (Ys k enc u ys::r):=
 ⟨⟨i,_,λe=>by subst e;simp at f,hi,λw g=>⟨c w (Bp j.cells g),λb d=>(g.lt b (by rw [<-a];exact d.2)).2⟩,λb d=>a.symm.trans d.2,λh=>by cases h⟩,h⟩
theorem Zja{α:Type}{enc:α->Value}{xs:List α}(lo hi:Nat)(a:lo<=hi:=by omega)(b:hi<=xs.length:=by omega):∀w,RowAt w k enc v xs->RowAt w k enc (Kn (Zek v lo k) (hi-lo)) ((xs.drop lo).take (hi-lo)):=
 λw h=>Zdg _ (by rw [List.length_drop];omega) (Znn lo O h)
theorem Zjs(v:Value)(lo n k:Nat):(Kn (Zek v lo k) n).ownBlock=v.ownBlock:=by rw [Gq,Zeb]
theorem Yfy{enc:Nat->Value}{ys zs:List Nat}{n:Nat}(a:tz ys=zs)(b:n=zs.length)(h:∀w,RowAt w k enc v xs->RowAt w k enc u ys):∀w,RowAt w k enc v xs->RowAt w k enc (Kn u n) zs:=λw c=>by have:=Zdg zs.length (by rw [<-a];exact(Bb ys).1) (h w c);rw [<-a,(Bb ys).2]at this;rw [b,<-a];exact this
theorem Zrj{α:Type}{enc:α->Value}(a:∀x,(enc x).cells.size=k)(xs:List α)(n:Nat)(c:n<=xs.length):cellsOf enc (xs.take n)=(cellsOf enc xs).take (n*k):=by
 have h:=Ie enc (xs.take n) (xs.drop n);rw [List.take_append_drop]at h;have b:(cellsOf enc (xs.take n)).length=n*k:=by rw [Xc a,List.length_take,Nat.min_eq_left c]
 rw [h,<-b,List.take_left]
def spl{α:Type}(xs:List α)(lo:Nat)(ys:List α):List α:=xs.take lo ++ ys ++ xs.drop (lo+ys.length)
theorem Il{α:Type}(xs:List α)(lo:Nat)(ys:List α)(h:lo+ys.length<=xs.length):(spl xs lo ys).length=xs.length:=by simp [spl];omega
theorem Ync {α:Type}  {g a:Nat}   {e:TypeId} {enc:α->Value} {xs ys:List α} (m:∀x,(enc x).cells.size=k) (lo:Nat) (d:lo+ys.length<=xs.length)
  (V:w.heap[g]? = some (.cells cur e (0,0))) (l:xs.length<=a) (n:a<=maxLen) (s:cur.size=a*k) (f:cur.toList.take (xs.length*k)=cellsOf enc xs) :
  (w.setRow g (cur.toList.take (lo*k) ++ cellsOf enc ys ++ cur.toList.drop (lo*k+(cellsOf enc ys).length)).toArray).ownsRow 0 e k (.slice (some ⟨g,0,none⟩) xs.length a) (spl xs lo ys).length (cellsOf enc (spl xs lo ys)):=by
 have c:cur.toList.length=a*k:=by rw [Array.length_toList,s]
 have b:=Xc m ys;have z:(lo+ys.length)*k<=xs.length*k:=Nat.mul_le_mul_right _ d;have G:xs.length*k<=a*k:=Nat.mul_le_mul_right _ l;rw [Nat.add_mul]at z;refine⟨by rw [Xc m],.inr ⟨g,a,_,by rw [Il _ _ _ d],Nat.zero_le _,setRow_heap w g cur _ e _ V,by rw [Il _ _ _ d];exact l,n,?_,?_⟩⟩
 .simp only [List.size_toArray,List.length_append,List.length_take,List.length_drop,c,b];omega
 .rw [Il _ _ _ d];have I:cellsOf enc (xs.take lo)=cur.toList.take (lo*k):=by rw [Zrj m xs lo O,<-f,List.take_take,Nat.min_eq_left O]
  have R:cellsOf enc (xs.drop (lo+ys.length))=(cur.toList.take (xs.length*k)).drop ((lo+ys.length)*k):=by have h:=Ie enc (xs.take (lo+ys.length)) (xs.drop (lo+ys.length));rw [List.take_append_drop,<-f]at h;rw [h];exact(List.drop_left' (by rw [Xc m,List.length_take,Nat.min_eq_left d])).symm
  rw [spl,Ie,Ie,I,R,b,Nat.add_mul];apply List.ext_getElem?;intro q;have j:(cur.toList.take (lo*k)).length=lo*k:=by rw [List.length_take,c];omega
  by_cases B:q<xs.length*k
  .rw [List.getElem?_take,if_pos B];by_cases S:q<lo*k+ys.length*k
   .have D:∀C,((cur.toList.take (lo*k) ++ cellsOf enc ys) ++ C)[q]? = (cur.toList.take (lo*k) ++ cellsOf enc ys)[q]?:=λC=>List.getElem?_append_left (by rw [List.length_append,j,b];exact S);rw [D,D]
   .have F:∀C,((cur.toList.take (lo*k) ++ cellsOf enc ys) ++ C)[q]? = C[q-(lo*k+ys.length*k)]?:=λC=>by rw [List.getElem?_append_right (by rw [List.length_append,j,b];omega),List.length_append,j,b]
    rw [F,F];rw [List.getElem?_drop,List.getElem?_drop,List.getElem?_take,if_pos O]
  .rw [List.getElem?_take,if_neg B,List.getElem?_eq_none];simp only [List.length_append,List.length_take,List.length_drop,c,b];omega
def Dst(v u:Value)(a k lo n:Nat):Prop:=∀g c,v= .slice (some ⟨g,0,none⟩) a c->a<=c->∃b,u= .slice (some ⟨g,lo*k,none⟩) n b
theorem Yja(v:Value)(a k:Nat):Dst v v a k 0 a:=λg c h _=>⟨c,by rw [h,Nat.zero_mul]⟩
theorem Yam(v:Value){a:Nat}(lo n:Nat)(h:lo<a):Dst v (Kn (Zek v lo k) n) a k lo n:=λg c b d=>by refine⟨c-lo,?_⟩;rw [b];simp only [Zek,Kn];rw [if_neg O];simp [Py]
theorem Ycg{α:Type}{enc:α->Value}{ys:List α}(b:Enc P t k enc)(h:RowAt w k enc u ys):(Builtin.firstCells k ys.length u).run P w= .ok (cellsOf enc ys).toArray w/\(Builtin.lenOf u).run P w= .ok ys.length w:=by
 obtain⟨R,c,rfl,S,D,l⟩:=h;refine⟨?_,by simp [Builtin.lenOf]⟩;rcases l with rfl|⟨g,f,rfl,l⟩
 .cases R with
  | none=>simp [Builtin.firstCells,cellsOf]
  | some q=>simp [Builtin.firstCells,cellsOf,loadCells,loadCellsFrom]
 .have B:∀q u,(cellsOf enc ys)[q]? = some u->w.cell? ((⟨g,f,none⟩:Addr).add q)=some u:=λq u G=>by
   have s:q<ys.length*k:=by rw [<-Xc b.cells ys];exact(List.getElem?_eq_some_iff.1 G).1
   have d:=b.pos;have n:q/k<ys.length:=Nat.div_lt_of_lt_mul (by rw [Nat.mul_comm];exact s);have a:ys[q/k]? = some ys[q/k]:=List.getElem?_eq_getElem n;have z:q%k<(enc ys[q/k]).cells.toList.length:=by rw [Array.length_toList,b.cells];exact Nat.mod_lt _ d
   have I:=List.getElem?_eq_getElem z;have m:=Hy b.cells ys _ _ a _ _ I;have F:=l _ _ a _ _ I;have e:q/k*k+q%k=q:=by rw [Nat.mul_comm];exact Nat.div_add_mod q k
   rw [e]at m;rw [Nat.add_assoc,e]at F;rw [G]at m;cases m;rw [Py];exact F
  have V:=Xc b.cells ys;have:=run_loadCells (P:=P) (w:=w) ⟨g,f,none⟩ (ys.length*k) (λj=>(cellsOf enc ys).getD j undef) (λj W=>B j _ (by rw [List.getElem?_eq_getElem O];simp [List.getD,List.getElem?_eq_getElem (show j<(cellsOf enc ys).length by omega)]));rw [show(List.range (ys.length*k)).map (λj=>(cellsOf enc ys).getD j undef)=cellsOf enc ys by
   apply List.ext_getElem
   .simp [V]
   .intro i S D;simp [List.getD,List.getElem?_eq_getElem D]]at this
  exact this
theorem Zya {α:Type} {a:Act}  {lo:Nat} {e:TypeId}  {enc:α->Value} {xs ys:List α}   (hs:Sat N sc env H a w) (R:lk H i=some (Oe k e enc v xs)) (D:i≠0) (B:Enc P t k enc)
  (G:lo+ys.length<=xs.length) (hp:0<xs.length) (W:lk H 0=some (Yo w0 M0)) (Z:∀b,w0.heap.size<=b->sc b)  {n:Nat} (s:Dst v u xs.length k lo n) :
  ∃g c w',u= .slice (some ⟨g,lo*k,none⟩) n c/\(storeCells ⟨g,lo*k,none⟩ (cellsOf enc ys)).run P w= .ok () w'/\Sat N sc env ((i,Oe k e enc v (spl xs lo ys))::H) a w'/\Chg (λ_=>True) w w':=by
 have l:w.ownsRow 0 e k v xs.length (cellsOf enc xs):=hs.hold i _ R;rcases l.2 with⟨rfl,hn⟩|⟨g,d,cur,rfl,hb,S,j,z,h,f⟩
 .omega
 .obtain⟨V,s⟩:=s g d rfl j;have I:=Xc B.cells ys;have F:(lo+ys.length)*k<=d*k:=Nat.mul_le_mul_right _ O;rw [Nat.add_mul]at F;have m:=run_storeCells_at P g (lo*k) e (cellsOf enc ys) 0 cur w S (by rw [I,h];omega) (λu s=>by obtain⟨y,_,hy⟩:=List.mem_flatMap.1 s;exact B.one y u hy)
  simp only [Nat.add_zero]at m;exact⟨g,V,_,s,m,hs.upd R rfl D (q:=Oe k e enc (.slice (some ⟨g,0,none⟩) xs.length d) (spl xs lo ys)) (Kk (M:=λk=>(Value.slice (some ⟨g,0,none⟩) xs.length d).ownBlock=some k) _ rfl) (Ync B.cells lo G S j z h f) (λk Y=> .inl Y) W Z,Kk _ trivial⟩
theorem t_cpy {α:Type}   {t' e:TypeId} {j n d:Nat} {z:Value} {enc:α->Value} {xs ys:List α}    (lo:Nat)
  (ho:o.op= .call { callee:= .builtin .copy,args:=#[x,y],argTypes:=#[t,t'] }) (W:o.dst=some d) (S:Nat.blt d N=true)
  (hx:ev env x=some u) (hy:ev env y=some z) (I:lk H i=some (Oe k e enc v xs)) (h:i≠0) (Y:lk H j=some p) (hr:Rd p k enc z ys)
  (hu:Dst v u xs.length k lo n) (Z:ys.length<=n) (l:lo+ys.length<=xs.length) (hp:0<xs.length) (ht:P.underlying t=some (.slice te)) (f:Enc P te k enc)
  (B:lk H 0=some (Yo w0 M0)) (hw:∀b,w0.heap.size<=b->sc b) :
  T P N sc (λ_=>True) o env H (G:=Unit) (λ_=>True) (λ_=>(d,.int .i64 (ys.length:Int))::env) (λ_=>(i,Oe k e enc v (spl xs lo ys))::H):=λa w hs K Q R=>by
 obtain⟨g,c,w',rfl,s,q,V⟩:=Zya (ys:=ys) hs I h f l hp B hw hu;obtain⟨D,F⟩:=Ycg f (hr w (hs.hold j p Y));have m:(execOp a.eval o).run P w= .ok (.value (.int .i64 (ys.length:Int))) w':=by simp [execOp,ho,resolve,invoke,builtin,hs.ev hx,hs.ev hy,Builtin.copy_,run_underlying ht,F,Nat.min_eq_left Z,f.size,D,s,goInt]
 unfold Oper.wp;rw [m];show K (a.put o.dst _) _;rw [W];exact R () _ _ trivial (q.put d _ S) V
theorem t_clr {α:Type}   {e:TypeId} {n:Nat} {zv:Value} {enc:α->Value} {xs:List α} {z:α}   (lo:Nat)
  (ho:o.op= .call { callee:= .builtin .clear,args:=#[x],argTypes:=#[t] }) (hd:o.dst=none)
  (hx:ev env x=some u) (Y:lk H i=some (Oe k e enc v xs)) (s:i≠0)
  (hu:Dst v u xs.length k lo n) (hn:0<n) (B:lo+n<=xs.length) (ht:P.underlying t=some (.slice te)) (j:Enc P te k enc)
  (hz:∀w,(zeroValue te).run P w= .ok (enc z) w) (S:k=1)
  (V:lk H 0=some (Yo w0 M0)) (hw:∀b,w0.heap.size<=b->sc b) :
  T P N sc (λ_=>True) o env H (G:=Unit) (λ_=>True) (λ_=>env) (λ_=>(i,Oe k e enc v (spl xs lo (List.replicate n z)))::H):=λa w hs K Q Z=>by
 obtain⟨g,c,w',rfl,I,F,hc⟩:=Zya (ys:=List.replicate n z) hs Y s j (by simpa using B) O V hw hu;obtain⟨m,rfl⟩:∃m,n=m+1:=⟨n-1,O⟩;have d:(enc z).cells.toList=[(enc z).cells[0]'(by rw [j.cells];omega)]:=by
  have h:(enc z).cells.size=1:=by rw [j.cells,S]
  apply List.ext_getElem
  .simp [h]
  .intro i W l;simp at l;subst l;simp
 have R:(Builtin.zeroCells (enc z).cells (m+1)).toList=cellsOf enc (List.replicate (m+1) z):=by
  have h:(enc z).cells.size=1:=by rw [j.cells,S]
  have f:∀q,cellsOf enc (List.replicate q z)=List.replicate q ((enc z).cells[0]' O):=by
   intro q
   induction q with
   | zero=>rfl
   | succ q ih=>rw [List.replicate_succ,List.replicate_succ,<-ih];simp [cellsOf,d]
  rw [f];apply List.ext_getElem
  .simp [Builtin.zeroCells,h]
  .intro i W l;simp [Builtin.zeroCells,h,Nat.mod_one]
 have D:(execOp a.eval o).run P w= .ok (.value (.tuple #[])) w':=by simp [execOp,ho,resolve,invoke,builtin,hs.ev hx,Builtin.clear_,run_underlying ht,hz,R,I]
 unfold Oper.wp;rw [D];show K (a.put o.dst _) _;rw [hd];exact Z () _ _ trivial (F.put_none _) hc
end Go.Sky
namespace Go.Sky
variable{listed:Array Bool}{m i:Nat}{ts:List Nat}{ops:Array Oper}{o:Oper}{F:Ph->Hp->Prop}{rest:List (Nat×Nat)}
variable {P:Program} {N:Nat} {sc:Nat->Prop} {env env':Ph} {H H':Hp} {Q Q':Exit->Act->World->Prop} {M:Nat->Prop}
theorem Zh {l : List Oper}  {n: Nat}  (a : List (Nat × Nat))
     (h:LD P N sc M l.toArray (A P N sc M l.toArray ts Q n (Cc a listed)) a env H) (b:(Region.noSelect l.toArray && Fy l.toArray ts a listed && Nat.beq (a.length+n) m)=true:=by kernel_rfl):A P N sc M l.toArray ts Q m listed env H:=
  a_lin _ a b h (λ_ _ h=>h)
def aact   {n:Nat}   {G:Type} {φ:G->Prop} {a:G->Ph} {b:G->Hp} (e:T P N sc M o env H φ a b) (d:ops[i]? = some o) (c:o.guard=none)
    (h:∀g,φ g->A P N sc M ops ts Q n (listed.setIfInBounds i true) (a g) (b g)):Zrz P N sc M ops ts Q n listed env H i:=⟨o,G,φ,a,b,d,c,e,h⟩
theorem Qd    {n:Nat} (i j:Nat) 
    (c:Zrz P N sc M ops ts Q n listed env H i) (d:Zrz P N sc M ops ts Q n listed env H j) (a:((Region.ready .any ops listed == [i,j]) && !(Ch ops ts listed) && !([i,j]:List Nat).isEmpty && Nat.beq (n+1) m)=true:=by kernel_rfl):A P N sc M ops ts Q m listed env H:=by
  rw [Bool.and_eq_true]at a;have e:=Nat.eq_of_beq_eq_true a.2;subst e;exact a_br [i,j] a.1 (λq b=>by
    simp only [List.mem_cons,List.not_mem_nil,or_false]at b;rcases b with rfl|rfl
    . exact c
    . exact d)
theorem Fi{G:Type}{φ:G->Prop}{a:G->Ph}{b:G->Hp}(d:ops[i]? = some o)(e:T P N sc M o env H φ a b)(h:∀g,φ g->LD P N sc M ops F rest (a g) (b g))(c:o.guard=none:=by rfl):LD P N sc M ops F ((i,1)::rest) env H:=r1 e d c h
theorem r3'{G:Type}{φ:G->Prop}{a:G->Ph}{b:G->Hp}(d:ops[i]? = some o)(e:T P N sc (λ_=>True) o env H φ a b)(h:∀g,φ g->LD P N sc M ops F rest (a g) (b g))(c:o.guard=none:=by rfl):LD P N sc M ops F ((i,3)::rest) env H:=r3 e d c h
theorem Gb   {n:Nat}   {G:Type} {φ:G->Prop} {a:G->Ph} {b:G->Hp} (d:ops[i]? = some o) (e:T P N sc M o env H φ a b)
    (h:∀g,φ g->A P N sc M ops ts Q n (listed.setIfInBounds i true) (a g) (b g)) (c:o.guard=none:=by rfl):Zrz P N sc M ops ts Q n listed env H i:=aact e d c h
end Go.Sky
namespace Go.Sky
variable{o:Oper}{t t':TypeId}{x y:Operand}{a b:Bool}{ops:Array Oper}{F:Ph->Hp->Prop}{rest:List (Nat×Nat)}
variable {P:Program} {N:Nat} {sc:Nat->Prop} {env env':Ph} {H H':Hp} {Q Q':Exit->Act->World->Prop} {M:Nat->Prop}
theorem d_eqb(c:o.op= .binOp .eql t x y t')(e:ev env x=some (.bool a))(f:ev env y=some (.bool b))(d:P.underlying t=some .bool):Mo P N sc o env H (.bool (a == b)):=λg w hs=>by simp [execOp,c,hs.ev e,hs.ev f,eqGuard,run_eql_bool w t a b d]
theorem d_neb(c:o.op= .binOp .neq t x y t')(e:ev env x=some (.bool a))(f:ev env y=some (.bool b))(d:P.underlying t=some .bool):Mo P N sc o env H (.bool (a != b)):=λg w hs=>by simp [execOp,c,hs.ev e,hs.ev f,eqGuard,run_neq_bool w t a b d,bne]
theorem Xj   {i:Nat}   {d:Nat} {v:Value} (g:ops[i]? = some o) (e:o.dst=some d) (hs:Stb P N sc M o env H v)
  (h:LD P N sc M ops F rest ((d,v)::env) H) (f:o.guard=none:=by rfl) (c:Nat.blt d N=true:=by rfl):LD P N sc M ops F ((i,0)::rest) env H:=r0 hs g f e c h
end Go.Sky
namespace Go.Sky
open Go.RowKit (Below)
variable{b:Nat}{t:TypeId}{cs:Array Value}{o:Oper}{x:Operand}{f:FuncId}{xs:List Operand}{ats:Array TypeId}{vs:List Value}{pre:List Pc}{w0:World}{M0:Nat->Prop}{fn:Func}
variable {P:Program} {N:Nat} {sc:Nat->Prop} {env env':Ph} {H H':Hp} {Q Q':Exit->Act->World->Prop} {M:Nat->Prop}
def Kl(b:Nat)(t:TypeId)(cs:Array Value):Pc:=
  { own:=false,fp:=λk=>k=b,holds:=λw=>w.heap[b]? = some (.cells cs t (0,0))
    lt:=λw k h c=>by subst c;exact(Array.getElem?_eq_some_iff.1 h).1
    stable:=λw e h a=>by rw [<-h];exact a.block b (Array.getElem?_eq_some_iff.1 h).1 (λd=>d rfl) }
theorem Zen(i:Nat)(hi:lk H i=some (box b t cs))(p:Nat.beq i 0=false):∀a w,Sat N sc env H a w->Sat N sc env ((i,Kl b t cs)::H) a w:=λa w hs=>by
    have v:i≠0:=λe=>by subst e;simp at p
    refine⟨hs.size,hs.defers,hs.env,λj h c=>?_,λj u h s n c d r b k l=>?_,λj h q c b k=>?_⟩
    . by_cases g:i=j
      . subst g;rw [Yd]at c;cases c;have y:=hs.hold i (box _ t cs) hi;exact y
      . rw [Zt _ _ g]at c;exact hs.hold j h c
    . by_cases g:i=j
      . subst g;rw [Yd]at c;cases c;cases r
      . rw [Zt _ _ g]at c;by_cases m:i=u
        . subst m;rw [Yd]at d;cases d;exact hs.sep j i h (box _ t cs) n c hi r b k l
        . rw [Zt _ _ m]at d;exact hs.sep j u h s n c d r b k l
    . by_cases g:i=j
      . subst g;rw [Yd]at c;cases c;exact hs.scope i (box _ t cs) v hi b k
      . rw [Zt _ _ g]at c;exact hs.scope j h q c b k
theorem d_lr   {c:TypeId} {i j:Nat}  {v:Value} (g:o.op= .load t x)
    (m:ev env x=some (.pointer (some ⟨b,j,none⟩))) (e:lk H i=some (Kl b c cs)) (k:∀w,(isAgg t).run P w= .ok false w) (l:cs[j]? = some v):Mo P N sc o env H v:=λa w hs=>by
  have d:w.heap[b]? = some (.cells cs c (0,0)):=hs.hold i _ e;have h:w.cell? ⟨b,j,none⟩=cs[j]?:=by simp [World.cell?,d]
  rw [l]at h;simp [execOp,g,hs.ev m,Instr.loadAt,Instr.sureAddr,loadVar,k,load,Sem.run,h]
def Zdb(P:Program)(f:FuncId)(args:Array Value)(pre:List Pc)(al:Bool)(b:Nat)(t:TypeId)(cs:Array Value){G:Type}(φ:G->Prop)(Yh:G->Value)(cs':G->Array Value)(a:G->List Pc):Prop:=
  ∀w,(∀p∈pre,p.holds w/\¬p.fp b)->(box b t cs).holds w->Calls P f args w λe c=>∃g,e= .returned (Yh g)/\φ g/\Chg (λk=>k=b) w c/\(box b t (cs' g)).holds c/\
    ∀p∈a g,p.holds c/\p.own=false/\∀k,p.fp k->w.heap.size<=k\/(al=true/\∃q∈pre,q.fp k)
theorem Qr     {d n i:Nat}     {al:Bool} {G:Type} {φ:G->Prop} {Yh:G->Value} {cs':G->Array Value} {W:G->List Pc}  
    (hc:Zdb P f vs.toArray pre al b t cs φ Yh cs' W)
    (ho:o.op= .call { callee:= .value (.func f),args:=xs.toArray,argTypes:=ats }) (hd:o.dst=some d) (hN:Nat.blt d N=true)
    (D:EvL env xs vs) (I:∀args w,(callFunc f args).run P w= .ok (.enter f args) w) (hH:lk H i=some (box b t cs)) (a4:i≠0) (v:PreOk (drp i H) al pre)
    (h0:lk H 0=some (Yo w0 M0)) (hw:∀b,w0.heap.size<=b->sc b) (hM:M b) :
    T P N sc M o env H φ (λg=>(d,Yh g)::env) (λg=>adds n (W g) ((i,box b t (cs' g))::H)):=λa w hs K Q hK=>by
  have hr:(execOp a.eval o).run P w= .ok (.enter f vs.toArray) w:=by rw [Ik hs ho D,I]
  unfold Oper.wp;rw [hr];have B:(box b t cs).holds w:=hs.hold i _ hH;refine(hc w (λp hp=>by obtain⟨j,V,_,l,Y,m,_⟩:=v.mem p hp;obtain⟨S,l⟩:=Dd _ _ _ _ l;exact⟨Y w (hs.hold j V l),λhb=>hs.sep i j _ V (Ne.symm S) hH l rfl b rfl (m b hb)⟩) B).mono ?_
  rintro e w' ⟨g,rfl,hg,c,F,Z⟩;show K (a.put o.dst (Yh g)) w';rw [hd];have a6:Sat N sc env ((i,box b t (cs' g))::H) a w':=hs.upd hH rfl a4 c F (λk R=> .inl R) h0 hw;have a2:Chg M w w':=⟨c.os,c.tape,c.output,c.size,λk R hn=>c.block k R (λe=>hn (by subst e;exact hM))⟩;refine hK g _ _ hg (Sat.put (a6.adds (w1:=w) (W g) n ?_) d _ hN) a2;intro p hp;obtain⟨h1,h2,h3⟩:=Z p hp;refine⟨h1,h2,λk R=>?_,λj jt l u k R y=>?_⟩
  . rcases h3 k R with h|⟨_,q,hq,z⟩
    . exact hw k (Nat.le_trans (hs.hold 0 _ h0).size h)
    . obtain⟨j,V,a0,l,_,m,_⟩:=v.mem q hq;exact hs.scope j V a0 (Dd _ _ _ _ l).2 k (m k z)
  . have a7:k<w.heap.size:=by
      by_cases r:i=j
      . subst r;rw [Yd]at l;cases l;have:k=b:=y;subst this;exact(Array.getElem?_eq_some_iff.1 B).1
      . rw [Zt _ _ r]at l;exact jt.lt w k (hs.hold j jt l) y
    rcases h3 k R with h|⟨a3,q,hq,z⟩
    . omega
    . obtain⟨j',V,a0,s,_,m,a5⟩:=v.mem q hq;obtain⟨S,s⟩:=Dd _ _ _ _ s;by_cases r:i=j
      . subst r;rw [Yd]at l;cases l;exact hs.sep i j' _ V (Ne.symm S) hH s rfl k y (m k z)
      . rw [Zt _ _ r]at l;by_cases a1:j=j'
        . subst a1;rw [s]at l;cases l;rw [a5 a3]at u;cases u
        . exact hs.sep j j' jt V a1 l s u k y (m k z)
def Ylc(P:Program)(fn:Func)(w0:World)(pre:List Pc)(al:Bool)(b:Nat)(t:TypeId){G:Type}(φ:G->Prop)(Yh:G->Value)(cs':G->Array Value)(a:G->List Pc):Exit->Act->World->Prop:=
  bodyPost P fn λe c => ∃ g, e = .returned (Yh g) /\ φ g /\ Chg (λk => k = b) w0 c /\ (box b t (cs' g)).holds c /\
        ∀p∈a g,p.holds c/\p.own=false/\∀k,p.fp k->w0.heap.size<=k\/(al=true/\∃q∈pre,q.fp k)
theorem Em   {c:Code}   {al:Bool}    {G:Type} {φ:G->Prop} {Yh:G->Value} {cs':G->Array Value} {u:G->List Pc} {N:Nat}
    (Z:P.funcs[f]? = some fn) (Y:fn.body=some c) (W:fn.ntmps=N) (r:Nat.ble vs.length N=true) (R:AllRo pre)
    (h:∀w0 (sc:Nat->Prop),(∀k,w0.heap.size<=k->sc k)->(∀k,sc k->w0.heap.size<=k\/k=b\/∃q∈pre,q.fp k)->
      E P N sc c (Ylc P fn w0 pre al b t φ Yh cs' u) (Qs 0 vs) ((0,Yo w0 (λk=>k=b))::(1,box b t cs)::Yv 2 pre)) :
    Zdb P f vs.toArray pre al b t cs φ Yh cs' u:=λw S y=>by
  refine calls_of_wp Z Y (h w (λk=>w.heap.size<=k\/k=b\/∃q∈pre,q.fp k) (λk l=> .inl l) (λk l=>l) _ w ?_);have r:vs.length<=N:=by simpa using r
  have a:∀i p,lk ((0,Yo w (λk=>k=b))::(1,box b t cs)::Yv 2 pre) i=some p->(i=0/\p=Yo w (λk=>k=b))\/(i=1/\p=box b t cs)\/(i≠0/\i≠1/\p∈pre/\p.own=false):=λi p hi=>by
      by_cases m:0=i
      . subst m;rw [Yd]at hi;cases hi;exact .inl ⟨rfl,rfl⟩
      . rw [Zt _ _ m]at hi;by_cases g:1=i
        . subst g;rw [Yd]at hi;cases hi;exact .inr (.inl ⟨rfl,rfl⟩)
        . rw [Zt _ _ g]at hi;obtain⟨_,d⟩:=Nf pre 2 i p hi;exact .inr (.inr ⟨λe=>m e.symm,λe=>g e.symm,d,R.mem p d⟩)
  refine⟨by simp [W];omega,rfl,λt v ht=>?_,λi p hi=>?_,λi j p q F hi hj I k l n=>?_,λi p z hi k l=>?_⟩
  . have g:vs.toArray[t]? = some v:=by simpa using(Ht vs 0 t v ht).2
    have D:=(Array.getElem?_eq_some_iff.1 g).1;rw [Array.getD_eq_getD_getElem?,Array.getElem?_append_left D,g];rfl
  . rcases a i p hi with⟨_,rfl⟩|⟨_,rfl⟩|⟨_,_,d,_⟩
    . exact Chg.refl _ w
    . exact y
    . exact(S p d).1
  . rcases a i p hi with⟨_,rfl⟩|⟨g,rfl⟩|⟨_,_,d,s⟩
    . cases I
    . have B:k=b:=l;subst B;rcases a j q hj with⟨_,rfl⟩|⟨V,rfl⟩|⟨_,_,d,_⟩
      . exact n.2 rfl
      . exact F (g.trans V.symm)
      . exact(S q d).2 n
    . rw [s]at I;cases I
  . rcases a i p hi with⟨m,_⟩|⟨_,rfl⟩|⟨_,_,d,_⟩
    . exact absurd m z
    . exact .inr (.inl l)
    . exact .inr (.inr ⟨p,d,l⟩)
theorem Ew   {al:Bool}    {G:Type} {φ:G->Prop} {Yh:G->Value} {cs':G->Array Value} {l:G->List Pc}  {e:Exit} (he:e= .ret\/e= .normal) (W:∀k,sc k->w0.heap.size<=k\/k=b\/∃q∈pre,q.fp k)
    (g:G) (v:Value) (y:∀a w,Sat N sc env H a w->(results fn a.tmps).run P w= .ok v w) (hv:Yh g=v) (hg:φ g) (i:Nat) (hi:lk H i=some (box b t cs)) (F:cs' g=cs) (a0:Nat.beq i 0=false) (Y:lk H 0=some (Yo w0 (λk=>k=b))) (c:Give (drp i H) al (l g)) :
    X N sc e (Ylc P fn w0 pre al b t φ Yh cs' l) env H:=λa w hs=>by
  have z : a.defers = [] /\ ∃ v, (results fn a.tmps).run P w = .ok v w /\ (∃ g, Ending.returned v = .returned (Yh g) /\ φ g /\ Chg (λk => k = b) w0 w /\ (box b t (cs' g)).holds w /\
        ∀p∈l g,p.holds w/\p.own=false/\∀k,p.fp k->w0.heap.size<=k\/(al=true/\∃q∈pre,q.fp k)):=by
    refine⟨hs.defers,v,y a w hs,g,by rw [hv],hg,hs.hold 0 _ Y,by rw [F];exact hs.hold i _ hi,λp hp=>?_⟩;obtain⟨Z,h|⟨h1,h2⟩⟩:=c.mem p hp
    case inr=>exact⟨h1 w,Z,λb hb=>absurd hb (h2 b)⟩
    obtain⟨j,B,r,m,n,I,D⟩:=h;obtain⟨V,m⟩:=Dd _ _ _ _ m;refine⟨n w (hs.hold j B m),Z,λk hk=>?_⟩;have d:=I k hk;have s:k≠b:=λe=>by subst e;exact hs.sep i j _ B (Ne.symm V) hi m rfl k rfl d
    cases al with
    | true=>
      rcases W k (hs.scope j B r m k d)with h|h|h
      . exact .inl h
      . exact absurd h s
      . exact .inr ⟨rfl,h⟩
    | false=>
      have u:=D rfl;have hn:=hs.sep j 0 B _ r m Y u k d;refine .inl ?_;rcases Nat.lt_or_ge k w0.heap.size with S|R
      . exact absurd ⟨S,s⟩ hn
      . exact R
  rcases he with rfl|rfl
  . exact z
  . exact z
end Go.Sky
namespace Go.Sky
open Go.RowKit (Below)
variable{o:Oper}{f:FuncId}{xs:List Operand}{vs fs:List Value}{c x y:Operand}{ats:Array TypeId}{i k:Nat}{t t':TypeId}{cs:Array Value}{pre:List Pc}{M0:Nat->Prop}{ops:Array Oper}{ts:List Nat}{listed:Array Bool}{v:Value}{p:Pc}{rest:List Oper}
variable {P:Program} {N:Nat} {sc:Nat->Prop} {env env':Ph} {H H':Hp} {Q Q':Exit->Act->World->Prop} {M:Nat->Prop}
theorem d_mkf(d:o.op= .makeFunc (.func f) xs.toArray #[])(e:EvL env xs vs):Mo P N sc o env H (.func (.func f) vs.toArray #[]):=λa w hs=>by have b:=e.map hs;simp [execOp,d,Instr.makeFunc,b]
theorem Zmw {a:Act} {w:World} (hs:Sat N sc env H a w)       (g:o.op= .call { callee:= .value c,args:=xs.toArray,argTypes:=ats })
  (d:ev env c=some (.func (.func f) fs.toArray #[])) (b:EvL env xs vs):(execOp a.eval o).run P w=(callFunc f (fs ++ vs).toArray).run P w:=by
 have e:=b.map hs;simp [execOp,g,resolve,invoke,hs.ev d,Deferred.ofValue,e]
theorem Zsh      {d n b:Nat}     {al:Bool} {G:Type} {φ:G->Prop} {Yh:G->Value} {cs':G->Array Value} {q:G->List Pc} {w0:World} 
  (V:Zdb P f (fs ++ vs).toArray pre al b t cs φ Yh cs' q)
  (Y:o.op= .call { callee:= .value c,args:=xs.toArray,argTypes:=ats }) (u:ev env c=some (.func (.func f) fs.toArray #[])) (W:o.dst=some d) (S:Nat.blt d N=true)
  (h:EvL env xs vs) (e:∀args w,(callFunc f args).run P w= .ok (.enter f args) w) (F:lk H i=some (box b t cs)) (z:i≠0) (m:PreOk (drp i H) al pre)
  (D:lk H 0=some (Yo w0 M0)) (hw:∀b,w0.heap.size<=b->sc b) (R:M b) :
  T P N sc M o env H φ (λg=>(d,Yh g)::env) (λg=>adds n (q g) ((i,box b t (cs' g))::H)):=λa w hs K Q I=>by
 have Z:(execOp a.eval o).run P w= .ok (.enter f (fs ++ vs).toArray) w:=by rw [Zmw hs Y u h,e]
 let o2:Oper:={ o with op:= .call { callee:= .value (.func f),args:=((fs ++ vs).map Operand.const).toArray,argTypes:=ats } };have j:∀l:List Value,EvL env (l.map Operand.const) l:=λl=>by
  induction l with
  | nil=>trivial
  | cons v r ih=>exact⟨rfl,ih⟩
 have B:(execOp a.eval o2).run P w= .ok (.enter f (fs ++ vs).toArray) w:=by rw [Ik hs (o:=o2) rfl (j _),e]
 have s:o2.wp P a w K Q:=Qr (n:=n) (i:=i) (M:=M) V (o:=o2) rfl W S (j _) e F z m D hw R a w hs K Q I;unfold Oper.wp at s ⊢;rw [B]at s;rw [Z];exact s
theorem Zc9    {n m:Nat} (i j k:Nat) 
  (d:Zrz P N sc M ops ts Q n listed env H i) (e:Zrz P N sc M ops ts Q n listed env H j) (g:Zrz P N sc M ops ts Q n listed env H k) (a:((Region.ready .any ops listed == [i,j,k]) && !(Ch ops ts listed) && !([i,j,k]:List Nat).isEmpty && Nat.beq (n+1) m)=true:=by kernel_rfl):A P N sc M ops ts Q m listed env H:=by
 rw [Bool.and_eq_true]at a;have h:=Nat.eq_of_beq_eq_true a.2;subst h;exact a_br [i,j,k] a.1 (λq b=>by
  simp only [List.mem_cons,List.not_mem_nil,or_false]at b;rcases b with rfl|rfl|rfl
  .exact d
  .exact e
  .exact g)
theorem d_fld    {f:Nat} {fs:Array Field} {b:Field}   (g:o.op= .field t x f)
  (l:ev env x=some (.agg cs)) (h:P.underlying t=some (.struct fs)) (e:fs[f]? = some b) (d:∀w,(isAgg b.type).run P w= .ok false w) (j:cs[b.offset]? = some v):Mo P N sc o env H v:=λa w hs=>by
 simp [execOp,g,hs.ev l,Instr.field,run_underlying h,e,asAgg,part,d,j]
theorem Zxj{s b:ByteArray}(g:o.op= .binOp .eql t x y t')(h:ev env x=some (.string s))(j:ev env y=some (.string b))(d:b.data.toList=[]) :
  Mo P N sc o env H (.bool (decide (s.size=0))):=λa w hs=>by
 have e:(s.toList == b.toList)=decide (s.size=0):=by rw [ByteArray.toList_eq,ByteArray.toList_eq,d];have:s.size=s.data.toList.length:=rfl;rw [this];cases s.data.toList<;>simp
 simp [execOp,g,hs.ev h,hs.ev j,eqGuard,binOp_string_eql,e]
theorem Zob  {b:BinOp}   {xs ys:Array Value} {r:Value} (g:o.op= .binOp b t x y t') (j:ev env x=some (.agg xs)) (l:ev env y=some (.agg ys))
  (e:P.eqGuardType P.depth t=false) (h:∀w,(binOp b t (.agg xs) (.agg ys)).run P w= .ok r w):Mo P N sc o env H r:=λa w hs=>by
 have d:=run_eqGuard_agg (P:=P) w b t x y xs ys e;simp only [execOp,g,hs.ev j,hs.ev l,Sem.run_bind,d,h w,Result.andThen_ok,Sem.run_pure]
abbrev SL:=Option Addr×Nat×Nat
abbrev Xi (s:SL):Value:= .slice s.1 s.2.1 s.2.2
theorem Xy{α:Type}{enc:α->Value}{xs:List α}(i:Nat)(hi:lk H i=some p)(d:Rd p k enc v xs):∀a w,Sat N sc env H a w->∃s:SL,v=Xi s:=λa w hs=>by obtain⟨b,c,rfl,_⟩:=d w (hs.hold i p hi);exact⟨(b,xs.length,c),rfl⟩
theorem Zbw{c:Code}{α:Type}{p:α->Prop}(b:∀a w,Sat N sc env H a w->∃x,p x)(h:∀x,p x->E P N sc c Q env H):E P N sc c Q env H:=λa w hs=>by obtain⟨x,d⟩:=b a w hs;exact h x d a w hs
theorem Zr1{e:Exit}{α:Type}{p:α->Prop}(b:∀a w,Sat N sc env H a w->∃x,p x)(h:∀x,p x->X N sc e Q env H):X N sc e Q env H:=λa w hs=>by obtain⟨x,d⟩:=b a w hs;exact h x d a w hs
theorem Zlk{α:Type}{p:α->Prop}(b:∀a w,Sat N sc env H a w->∃x,p x)(h:∀x,p x->L P N sc ops rest Q env H):L P N sc ops rest Q env H:=λa w hs=>by obtain⟨x,d⟩:=b a w hs;exact h x d a w hs
def Lg{β:Type}(q:β->Pc)(zs:List β):Pc:=
 {own:=false,fp:=λb=>∃z∈zs,(q z).fp b,holds:=λw=>∀z∈zs,(q z).holds w
  lt:=λw b h e=>by obtain⟨z,d,e⟩:=e;exact(q z).lt w b (h z d) e
  stable:=λw n h a z d=>(q z).stable w n (h z d) ⟨a.os,a.tape,a.output,a.size,λk j l=>a.block k j (λg=>l (λm=>g ⟨z,d,m⟩))⟩ }
def Xt{β:Type}(k:Nat)(enc:β->Value)(q:β->Pc)(v:Value)(zs:List β):Pc:=
 {own:=false,fp:=λb=>(zs≠[]/\v.ownBlock=some b)\/∃z∈zs,(q z).fp b,holds:=λw=>(Ys k enc v zs).holds w/\(Lg q zs).holds w
  lt:=λw b h d=>by
   rcases d with d|d
   .exact(Ys k enc v zs).lt w b h.1 d
   .exact(Lg q zs).lt w b h.2 d
  stable:=λw m h a=>⟨(Ys k enc v zs).stable w m h.1 ⟨a.os,a.tape,a.output,a.size,λk g j=>a.block k g (λe=>j (λl=>e (.inl l)))⟩,
   (Lg q zs).stable w m h.2 ⟨a.os,a.tape,a.output,a.size,λk g j=>a.block k g (λe=>j (λl=>e (.inr l)))⟩⟩ }
def Zb{β:Type}{enc:β->Value}{q:β->Pc}{zs:List β} : Rd (Xt k enc q v zs) k enc v zs:=λw h=>h.1.1
theorem Zd6{q:Pc}(i j:Nat)(hi:lk H i=some p)(l:Nat.beq i 0=false)(u:p.own=false)(s:∀w,p.holds w->q.holds w)(n:∀b,q.fp b->p.fp b)(z:q.own=false):∀a w,Sat N sc env H a w->Sat N sc env ((j,q)::H) a w:=λa w hs=>
 hs.add j q (s w (hs.hold i p hi)) (λr B _ m Lp b g h=>by
  rcases Lp with Lp|Lp
  .rw [z]at Lp;cases Lp
  .by_cases d:r=i
   .subst d;rw [hi]at m;cases m;rw [u]at Lp;cases Lp
   .exact hs.sep r i B p d m hi Lp b h (n b g)) (λb g=>hs.scope i p (λe=>by subst e;simp at l) hi b (n b g))
def Zag{β:Type}{q:β->Pc}{zs:List β}(i j:Nat)(z:β)(hi:lk H i=some (Lg q zs))(d:Nat.beq i 0=false)(e:z∈zs)(l:(q z).own=false):∀a w,Sat N sc env H a w->Sat N sc env ((j,q z)::H) a w:=
 Zd6 i j hi d rfl (λw h=>h z e) (λb g=>⟨z,e,g⟩) l
def La{β:Type}{enc:β->Value}{q:β->Pc}{zs:List β}(i j:Nat)(z:β)(hi:lk H i=some (Xt k enc q v zs))(d:Nat.beq i 0=false)(e:z∈zs)(l:(q z).own=false):∀a w,Sat N sc env H a w->Sat N sc env ((j,q z)::H) a w:=
 Zd6 i j hi d rfl (λw h=>h.2 z e) (λb g=> .inr ⟨z,e,g⟩) l
def Zbj{β:Type}{enc:β->Value}{q:β->Pc}{zs:List β}(i j:Nat)(hi:lk H i=some (Xt k enc q v zs))(d:Nat.beq i 0=false):∀a w,Sat N sc env H a w->Sat N sc env ((j,Lg q zs)::H) a w:=
 Zd6 i j hi d rfl (λw h=>h.2) (λb e=> .inr e) rfl
theorem Ze{β:Type}{zs:List β}{d:β}(h:i<zs.length:=by omega):zs.getD i d∈zs:=by rw [List.getD_eq_getElem?_getD,List.getElem?_eq_getElem h];exact List.getElem_mem h
theorem Zwe{q r:Pc}(i j n:Nat)(hi:lk H i=some p)(m:lk H j=some q)(z:Nat.beq i 0=false)(B:Nat.beq j 0=false)(R:p.own=false)(D:q.own=false)(I:∀w,p.holds w->q.holds w->r.holds w)(F:∀b,r.fp b->p.fp b\/q.fp b)(S:r.own=false) :
  ∀a w,Sat N sc env H a w->Sat N sc env ((n,r)::H) a w:=λa w hs=>
 hs.add n r (I w (hs.hold i p hi) (hs.hold j q m)) (λs G _ d Lp b u l=>by
  rcases Lp with Lp|Lp
  .rw [S]at Lp;cases Lp
  .rcases F b u with h|h
   .by_cases g:s=i
    .subst g;rw [hi]at d;cases d;rw [R]at Lp;cases Lp
    .exact hs.sep s i G p g d hi Lp b l h
   .by_cases g:s=j
    .subst g;rw [m]at d;cases d;rw [D]at Lp;cases Lp
    .exact hs.sep s j G q g d m Lp b l h) (λb u=>by
  rcases F b u with h|h
  .exact hs.scope i p (λe=>by subst e;simp at z) hi b h
  .exact hs.scope j q (λe=>by subst e;simp at B) m b h)
def Qm{β:Type}{enc:β->Value}{q:β->Pc}{zs:List β}(i j n:Nat)(hi:lk H i=some (Ys k enc v zs))(m:lk H j=some (Lg q zs))(d:Nat.beq i 0=false)(e:Nat.beq j 0=false) :
  ∀a w,Sat N sc env H a w->Sat N sc env ((n,Xt k enc q v zs)::H) a w:=
 Zwe i j n hi m d e rfl rfl (λw g h=>⟨g,h⟩) (λb l=>l) rfl
theorem Yn{β:Type}(q:β->Pc)(n:Nat):∀a w,Sat N sc env H a w->Sat N sc env ((n,Lg q ([]:List β))::H) a w:=λa w hs=>
 hs.add n _ (λz d=>by cases d) (λh j _ _ Lp b e g=>by obtain⟨z,d,_⟩:=e;cases d) (λb e=>by obtain⟨z,d,_⟩:=e;cases d)
theorem Zq{β:Type}{q:β->Pc}{zs:List β}{z:β}(i j n:Nat)(hi:lk H i=some (Lg q zs))(s:lk H j=some (q z))(e:Nat.beq i 0=false)(g:Nat.beq j 0=false)(u:(q z).own=false) :
  ∀a w,Sat N sc env H a w->Sat N sc env ((n,Lg q (zs ++ [z]))::H) a w:=
 Zwe i j n hi s e g rfl u (λw m r y l=>by
  rcases List.mem_append.1 l with h|h
  .exact m y h
  .rw [List.mem_singleton.1 h];exact r) (λb d=>by
  obtain⟨y,l,d⟩:=d;rcases List.mem_append.1 l with h|h
  .exact .inl ⟨y,h,d⟩
  .rw [List.mem_singleton.1 h]at d;exact .inr d) rfl
end Go.Sky
namespace Go.Sky
open Go.RowKit (Below)
variable{o:Oper}{H0:Hp}{ks ts:List Nat}{t ty:TypeId}{d:Nat}{cs:Array Value}{M0:Nat->Prop}{p:Pc}{ops:Array Oper}{listed:Array Bool}{x:Operand}{k:IntKind}{rest:List Oper}{pos:String}
variable {P:Program} {N:Nat} {sc:Nat->Prop} {env env':Ph} {H H':Hp} {Q Q':Exit->Act->World->Prop} {M:Nat->Prop}
def Off(H:Hp)(ks:List Nat):Nat->Prop:=λx=>∀k∈ks,∀p,lk H k=some p->¬p.fp x
def Agr(H0 H:Hp):List Nat->Prop
 | []=>True
 | k::r=>lk H k=lk H0 k/\Agr H0 H r
theorem Agr.mem{H0 H:Hp} : ∀{ks:List Nat},Agr H0 H ks->∀k∈ks,lk H k=lk H0 k
 | k::r,h,j,a=>by
  cases a with
  | head=>exact h.1
  | tail _ a=>exact Agr.mem h.2 j a
def rst(ks:List Nat):Hp->Hp
 | []=>[]
 | (i,p)::r=>cond (ks.any (Nat.beq i)) ((i,p)::rst ks r) (rst ks r)
theorem Zhp(ks:List Nat):∀(H:Hp) (i:Nat) (p:Pc),lk (rst ks H) i=some p->i∈ks/\lk H i=some p
 | [],_,_,h=>by cases h
 | (j,q)::r,i,p,h=>by
  unfold rst at h;cases hb:ks.any (Nat.beq j)with
  | true=>
   rw [hb]at h;simp only [cond_true]at h;by_cases c:j=i
   .subst c;rw [Yd]at h ⊢;obtain⟨x,l,g⟩:=List.any_eq_true.1 hb;have:=Nat.eq_of_beq_eq_true g;subst this;exact⟨l,h⟩
   .rw [Zt _ _ c]at h ⊢;exact Zhp ks r i p h
  | false=>
   rw [hb]at h;simp only [cond_false]at h;obtain⟨b,f⟩:=Zhp ks r i p h;refine⟨b,?_⟩;have a:j≠i:=λe=>by subst e;have:ks.any (Nat.beq j)=true:=List.any_eq_true.2 ⟨j,b,O7⟩;rw [hb]at this;cases this
   rw [Zt _ _ a];exact f
theorem Nm {id:Nat} {l:List Oper} (ks:List Nat) (ts:List Nat) 
  (h:A P N sc (Off H ks) l.toArray ts Q l.length (Array.replicate l.length false) env H) (a:P.follows .mixedOrders=true:=by kernel_rfl):E P N sc (.region id l.toArray true) Q env H:=It (Off H ks) ts h a
theorem Bc{v:Value}(z:Mo P N sc o env (rst ks H) v)(m:Agr H0 H ks):Stb P N sc (Off H0 ks) o env H v:=λa w hs h c=>by refine z a h ⟨hs.size,hs.defers,hs.env,λi b hi=>?_,λi j b B f hi r=>hs.sep i j b B f (Zhp _ _ _ _ hi).2 (Zhp _ _ _ _ r).2,λi b l hi=>hs.scope i b l (Zhp _ _ _ _ hi).2⟩;obtain⟨g,e⟩:=Zhp _ _ _ _ hi;refine b.stable w h (hs.hold i b e) ⟨c.os,c.tape,c.output,c.size,λq y s=>c.block q y (λu=>s (λn=>?_))⟩;exact u i g b (by rw [<-m.mem i g];exact e) n
theorem Yeh   {i:Nat} {z:Value}  {w0:World}    (r:o.op= .alloc t) (m:o.dst=some d) (g:Nat.blt d N=true)
  (v:∀w,(zeroValue t).run P w= .ok z w) (l:z.cells=cs) (e:lk H 0=some (Yo w0 M0)) (u:∀b,w0.heap.size<=b->sc b) (h:Agr H0 H ks) :
  T P N sc (Off H0 ks) o env H (G:=Nat) (λb=>Off H0 ks b) (λb=>(d,.pointer (some ⟨b,0,none⟩))::env) (λb=>(i,box b t cs)::H):=λa w hs K Q f=>by
 subst l;have s:(execOp a.eval o).run P w= .ok (.value (.pointer (some ⟨w.heap.size,0,none⟩))) (w.alloc (.cells z.cells t)):=by simp [execOp,r,Instr.alloc,v,newVar,newRow]
 unfold Oper.wp;rw [s];show K (a.put o.dst _) _;rw [m];exact f w.heap.size _ _ (λk q p c n=>by rw [<-h.mem k q]at c;exact absurd (p.lt w _ (hs.hold k p c) n) (Nat.lt_irrefl _)) ((hs.new e u i (box w.heap.size t z.cells) (.cells z.cells t) (heap_alloc_new w _) (λb j=>j)).put d _ g) (Chg.alloc _ _ _)
theorem Ox{q:Pc}(i:Nat)(h:p=q)(hi:lk H i=some p)(b:Nat.beq i 0=false):∀a w,Sat N sc env H a w->Sat N sc env ((i,q)::H) a w:=λa w hs=>by subst h;exact Zox i hi rfl (λ_ h=>h) (λ_ h=>h) b a w hs
def Zmp{n:Nat}(hi:∀a w,Sat N sc env H a w->Sat N sc env' H' a w)(h:A P N sc M ops ts Q n listed env' H'):A P N sc M ops ts Q n listed env H:=λa w hs=>h a w (hi a w hs)
theorem Yd9{m r:Int}(b:o.op= .unOp .neg t x)(e:ev env x=some (.int .u64 m))(c:(-m)%18446744073709551616=r):Mo P N sc o env H (.int .u64 r):=λa w hs=>by rw [<-c,<-Zok];simp [execOp,b,hs.ev e,Op.unary,Op.intArith]
theorem Yos{b:TypeId}{m r:Int}{ds:TypeDesc}(c:o.op= .convert t b x)(g:ev env x=some (.int k m))(a:P.underlying t=some ds)(f:P.underlying b=some (.int .u64))(e:m%18446744073709551616=r) :
  Mo P N sc o env H (.int .u64 r):=Zg2 c g a f (by rw [Zok];exact e)
theorem Sat.yieldedu{a:Act}{w:World}(h:Sat N sc env H a w){j:Nat}(e:(ops[j]?).bind (·.dst)=some d)(c:lk env d=some undef):Go.yielded ops a.tmps j=none:=by
 have b:=h.env d _ c;unfold Go.yielded;rw [e];simp only [Option.bind_some];rw [Array.getD_eq_getD_getElem?]at b;cases hx:a.tmps[d]? with
 | none=>rfl
 | some v=>rw [hx]at b;simp only [Option.getD_some]at b;subst b;rfl
theorem gsku      {c:Array Edge} {f:Op} {j e:Nat} {b:Bool} (m:(ops[j]?).bind (·.dst)=some e) (l:lk env e=some undef) (i:Nat.blt d N=true)
  (h:L P N sc ops rest Q ((d,undef)::env) H):L P N sc ops (⟨some d,f,ty,pos,c,some (j,b)⟩::rest) Q env H:=λa w hs=>
 wpList_step λK g=>by
  have q:=hs.yieldedu m l;have n:Region.wanted ⟨some d,f,ty,pos,c,some (j,b)⟩ (yielded ops a.tmps)=false:=by simp [Region.wanted,q]
  rw [n,if_neg O7];exact g _ _ (h _ _ (hs.put d undef i))
def nop:Pc:={ own:=false,fp:=λ_=>False,holds:=λ_=>True,lt:=λ_ _ _ h=>h.elim,stable:=λ_ _ _ _=>trivial }
theorem s_move(i j:Nat)(hi:lk H i=some p)(n:Nat.beq i 0=false)(r:Nat.beq j 0=false)(q:Nat.beq i j=false):∀a w,Sat N sc env H a w->Sat N sc env ((j,p)::(i,nop)::H) a w:=λa w hs=>by
 have n:i≠0:=λe=>by subst e;simp at n
 have r:j≠0:=λe=>by subst e;simp at r
 have q:i≠j:=λe=>by subst e;simp at q
 refine⟨hs.size,hs.defers,hs.env,λk kt f=>?_,λk u kt v s f c y b m h=>?_,λk kt z f b m=>?_⟩
 .by_cases l:j=k
  .subst l;rw [Yd]at f;cases f;exact hs.hold i p hi
  .rw [Zt _ _ l]at f;by_cases g:i=k
   .subst g;rw [Yd]at f;cases f;trivial
   .rw [Zt _ _ g]at f;exact hs.hold k kt f
 .by_cases l:j=k
  .subst l;rw [Yd]at f;cases f;rw [Zt _ _ s]at c;by_cases g:i=u
   .subst g;rw [Yd]at c;cases c;exact h
   .rw [Zt _ _ g]at c;exact hs.sep i u p v g hi c y b m h
  .rw [Zt _ _ l]at f;by_cases g:i=k
   .subst g;rw [Yd]at f;cases f;cases y
   .rw [Zt _ _ g]at f;by_cases B:j=u
    .subst B;rw [Yd]at c;cases c;exact hs.sep k i kt p (Ne.symm g) f hi y b m h
    .rw [Zt _ _ B]at c;by_cases D:i=u
     .subst D;rw [Yd]at c;cases c;exact h
     .rw [Zt _ _ D]at c;exact hs.sep k u kt v s f c y b m h
 .by_cases l:j=k
  .subst l;rw [Yd]at f;cases f;exact hs.scope i p n hi b m
  .rw [Zt _ _ l]at f;by_cases g:i=k
   .subst g;rw [Yd]at f;cases f;exact m.elim
   .rw [Zt _ _ g]at f;exact hs.scope k kt z f b m
theorem fill3(h j a b c e f g:Value):Instr.fill (λi=>some (i*2,2)) ((List.range (3*2)).map ((Value.agg #[h,j]).cells[· % (Value.agg #[h,j]).cells.size]!)).toArray [(0,.agg #[a,b]),(1,.agg #[c,e]),(2,.agg #[f,g])]=some #[a,b,c,e,f,g]:=by
 simp [Instr.fill,Value.cells,List.range,List.range.loop]
 try rfl
end Go.Sky
namespace Go.Sky
variable{o xs ys:List Nat}{k c b x y m w a i s h:Nat}{P:Program}{sc:Nat->Prop}{t:TypeId}{kd:IntKind}
theorem Zvw(k:Nat):U^k=256^(8*k):=by rw [show U=256^8 from rfl,<-Nat.pow_mul]
theorem Zda(k:Nat):U^k=2^(64*k):=by rw [show U=2^64 from rfl,<-Nat.pow_mul]
theorem Xw:0<U:=by simp [U]
theorem Ykz(h:Yh U (o.take k)+c*U^k=Yh U (xs.take k)+Yh U (ys.take k))(f:k<o.length) :
  Yh U ((o.set k ((xs.getD k 0+ys.getD k 0+c)%U)).take (k+1))+(xs.getD k 0+ys.getD k 0+c)/U*U^(k+1)=Yh U (xs.take (k+1))+Yh U (ys.take (k+1)):=by
 rw [Co _ _ _ _ f,Ql,Ql,Nat.pow_succ];generalize xs.getD k 0=a at *;generalize ys.getD k 0=b at *;generalize U^k=B at *;have d:=Nat.mod_add_div (a+b+c) U;have e:(a+b+c)%U*B+(a+b+c)/U*(B*U)=(a+b+c)*B:=by
  conv=>rhs;rw [<-d]
  rw [Nat.add_mul,Nat.mul_comm B U,<-Nat.mul_assoc,Nat.mul_comm ((a+b+c)/U) U]
 rw [Nat.add_mul,Nat.add_mul]at e;omega
theorem Yem(j:c<=1)(l:xs.getD k 0<U)(n:ys.getD k 0<U)(h:Yh U (o.take k)+Yh U (ys.take k)=Yh U (xs.take k)+c*U^k)(g:k<o.length) :
  Yh U ((o.set k ((xs.getD k 0+U-ys.getD k 0-c)%U)).take (k+1))+Yh U (ys.take (k+1))=Yh U (xs.take (k+1))+brw (xs.getD k 0) (ys.getD k 0) c*U^(k+1):=by
 unfold brw;rw [Co _ _ _ _ g,Ql,Ql,Nat.pow_succ];generalize xs.getD k 0=a at *;generalize ys.getD k 0=b at *;generalize U^k=B at *;by_cases f:a<b+c
 .rw [if_pos f];have d:(a+U-b-c)%U+b+c=a+U:=by rw [Nat.mod_eq_of_lt O];omega
  have e:((a+U-b-c)%U+b+c)*B=(a+U)*B:=by rw [d]
  rw [Nat.add_mul,Nat.add_mul,Nat.add_mul]at e;rw [Nat.one_mul,Nat.mul_comm B U];omega
 .rw [if_neg f];have d:(a+U-b-c)%U+b+c=a:=by rw [show a+U-b-c=(a-b-c)+U by omega,Nat.add_mod_right,Nat.mod_eq_of_lt O];omega
  have e:((a+U-b-c)%U+b+c)*B=a*B:=by rw [d]
  rw [Nat.add_mul,Nat.add_mul]at e;omega
theorem Zm5(b:Nat)(xs:List Nat)(k:Nat)(d:k<xs.length):Yh b xs=Yh b (xs.take k)+xs.getD k 0*b^k+b^(k+1)*Yh b (xs.drop (k+1)):=by
 conv=>lhs;rw [<-List.take_append_drop (k+1) xs]
 rw [Ns,Ql,List.length_take,Nat.min_eq_left O]
theorem Zrd(l:0<b)(n:∀d∈xs,d<b)(f:k<xs.length)(g:k<ys.length)(e:xs.drop (k+1)=ys.drop (k+1))(h:xs.getD k 0<ys.getD k 0):Yh b xs<Yh b ys:=by
 rw [Zm5 b xs k f,Zm5 b ys k g,e];have p:Yh b (xs.take k)<b^k:=by have:=Zg1 l (xs.take k) (λd e=>n d (List.mem_of_mem_take e));rwa [List.length_take,Nat.min_eq_left O]at this
 have j:(xs.getD k 0+1)*b^k<=ys.getD k 0*b^k:=Nat.mul_le_mul_right _ h;rw [Nat.add_mul]at j;omega
theorem Zgj(d:k<xs.length)(e:k<ys.length)(f:xs.drop (k+1)=ys.drop (k+1))(h:xs.getD k 0=ys.getD k 0):xs.drop k=ys.drop k:=by rw [List.drop_eq_getElem_cons d,List.drop_eq_getElem_cons e,f];simp [List.getD,d,e]at h;rw [h]
theorem Za2(d:2<=b)(h:(dg b x).length<(dg b y).length):x<y:=by have e:=(Xp d (dg b x).length x).1 (Nat.le_refl _);have f:=(Nh d (dg b x).length y).1 h;omega
theorem Zyn(h:0<x):bl x=(dg U x).length*64-(64-bl ((dg U x).getD ((dg U x).length-1) 0))/\bl ((dg U x).getD ((dg U x).length-1) 0)<=64/\0<(dg U x).length/\0<bl ((dg U x).getD ((dg U x).length-1) 0):=by
 have d:0<(dg U x).length:=by rw [Nh Xr,Nat.pow_zero];omega
 have f:U^((dg U x).length-1)<=x:=(Nh Xr _ x).1 O;have e:x<U^(dg U x).length:=(Xp Xr _ x).1 (Nat.le_refl _);have g:x/U^((dg U x).length-1)<U:=by rw [Nat.div_lt_iff_lt_mul (Nat.pow_pos Xw),Nat.mul_comm,<-Nat.pow_succ,show((dg U x).length-1).succ=(dg U x).length by omega];exact e
 rw [Hf Xr,Nat.mod_eq_of_lt g,Zda,Ga];have j:64*((dg U x).length-1)<bl x:=by rw [Zb7,<-Zda];exact f
 have l:bl x<=64*(dg U x).length:=by rw [Qg,<-Zda];exact e
 refine⟨?_,?_,d,?_⟩<;>omega
theorem Zlj(x:Nat):(dg 256 x).length=(bl x+7)/8:=by
 have d:∀k,(dg 256 x).length<=k↔(bl x+7)/8<=k:=λk=>by rw [Xp O,show 256^k=2^(8*k) by rw [show 256=2^8 from rfl,<-Nat.pow_mul],<-Qg];omega
 have e:=(d (dg 256 x).length).1 (Nat.le_refl _);have f:=(d ((bl x+7)/8)).2 (Nat.le_refl _);omega
theorem lenU(x:Nat):(dg U x).length=((dg 256 x).length+7)/8:=by
 have d:∀k,(dg U x).length<=k↔((dg 256 x).length+7)/8<=k:=λk=>by rw [Xp Xr,Zvw,<-Xp O];omega
 have e:=(d (dg U x).length).1 (Nat.le_refl _);have f:=(d (((dg 256 x).length+7)/8)).2 (Nat.le_refl _);omega
theorem Zex(f:xs.length=ys.length)(h:∀i,i<xs.length->xs.getD i 0=ys.getD i 0):xs=ys:=by apply List.ext_getElem f;intro i d e;have:=h i d;simpa [List.getD,d,e]using this
theorem Oq{α:Type}(o:List α)(i j:Nat)(d z:α)(hi:i<o.length):(o.set i d).getD j z=if i=j then d else o.getD j z:=by
 by_cases h:i=j
 .subst h;simp [List.getD,hi]
 .rw [if_neg h];simp [List.getD,List.getElem?_set_ne h]
theorem Ib(n i:Nat):(List.replicate n 0).getD i 0=0:=by simp only [List.getD,List.getElem?_replicate];split<;>rfl
theorem Zrm(x k:Nat):x/U^(k/8)%U/2^(k%8*8)%256=x/256^k%256:=by
 have g:=Nat.div_add_mod k 8;have j:k%8<8:=Nat.mod_lt _ O;have d:U=256^(k%8)*256^(8-k%8):=by rw [<-Nat.pow_add,show k%8+(8-k%8)=8 by omega]
 have e:(2:Nat)^(k%8*8)=256^(k%8):=by rw [show(256:Nat)=2^8 from rfl,<-Nat.pow_mul,Nat.mul_comm]
 have f:x/U^(k/8)/256^(k%8)=x/256^k:=by rw [Nat.div_div_eq_div_mul,Zvw,<-Nat.pow_add,g]
 rw [e]
 conv=>lhs;rw [d]
 rw [Nat.mod_mul_right_div_self,<-d,f,show 8-k%8=(8-k%8-1)+1 by omega,Nat.pow_succ,Nat.mod_mul_left_mod]
def hi(x m w:Nat):Nat:=x/256^m*256^m/U^w%U
theorem Yic(h:m<=8*w):hi x m w=x/U^w%U:=by unfold hi;rw [Zvw,show 8*w=m+(8*w-m) by omega,Nat.pow_add,<-Nat.div_div_eq_div_mul,Nat.mul_div_cancel _ (Nat.pow_pos O),Nat.div_div_eq_div_mul]
theorem hi_lt(h:8*w+8<=m):hi x m w=0:=by unfold hi;rw [Zvw,show m=8*w+(8+(m-8*w-8)) by omega,Nat.pow_add 256 (8*w),Nat.mul_comm (256^(8*w)),<-Nat.mul_assoc,Nat.mul_div_cancel _ (Nat.pow_pos O),Nat.pow_add 256 8];rw [show U=256^8 from rfl,Nat.mul_left_comm,Nat.mul_mod_right]
theorem Yib{r:Nat}(h:m=8*w+r)(d:r<=8):hi x m w=x/256^m*256^r%U:=by
 unfold hi;subst h;rw [Zvw]
 conv=>lhs;rw [Nat.pow_add 256 (8*w) r,Nat.mul_comm (256^(8*w)),<-Nat.mul_assoc,Nat.mul_div_cancel _ (Nat.pow_pos O)]
 rw [Nat.mul_comm (256^r) (256^(8*w)),<-Nat.pow_add]
theorem Yn3(x k:Nat):hi x (k+1) (k/8) ||| (x/256^k%256*2^(k%8*8))%U=hi x k (k/8):=by
 have B:=Nat.div_add_mod k 8;have v:k%8<8:=Nat.mod_lt _ O;rw [Yib (r:=k%8+1) O O,Yib (r:=k%8) O O];have j:(2:Nat)^(k%8*8)=256^(k%8):=by rw [show(256:Nat)=2^8 from rfl,<-Nat.pow_mul,Nat.mul_comm]
 rw [j];generalize k%8=r at *;have q:x/256^(k+1)=x/256^k/256:=by rw [Nat.pow_succ,Nat.div_div_eq_div_mul]
 rw [q];generalize x/256^k=z;have e:U=256^(r+1)*256^(7-r):=by rw [<-Nat.pow_add,show r+1+(7-r)=8 by omega]
 have d:z%256*256^r<256^(r+1):=by rw [Nat.pow_succ,Nat.mul_comm (256^r)];exact(Nat.mul_lt_mul_right (Nat.pow_pos O)).2 (Nat.mod_lt _ O)
 have f:256^(r+1)<=U:=by rw [e];exact Nat.le_mul_of_pos_right _ (Nat.pow_pos O)
 rw [Nat.mod_eq_of_lt (Nat.lt_of_lt_of_le d f)];have p:z/256*256^(r+1)%U=256^(r+1)*(z/256%256^(7-r)):=by rw [e,Nat.mul_comm (z/256),Nat.mul_mod_mul_left]
 rw [p];have g:(256:Nat)^(r+1)=2^(8*(r+1)):=by rw [show(256:Nat)=2^8 from rfl,<-Nat.pow_mul]
 have Lp:=Nat.two_pow_add_eq_or_of_lt (b:=z%256*256^r) (i:=8*(r+1)) (by rw [<-g];exact d) (z/256%256^(7-r));rw [<-g]at Lp;rw [<-Lp];have u:z=256*(z/256)+z%256:=(Nat.div_add_mod z 256).symm;have l:z*256^r=256^(r+1)*(z/256)+z%256*256^r:=by
  conv=>lhs;rw [u]
  rw [Nat.add_mul,Nat.pow_succ,Nat.mul_comm (256^r) 256,Nat.mul_assoc,Nat.mul_assoc,Nat.mul_comm (z/256)]
 rw [l,e];have n:256^(r+1)*(z/256)+z%256*256^r=z%256*256^r+256^(r+1)*(z/256):=O;rw [n,Nat.mod_mul,Nat.add_mul_mod_self_left,Nat.mod_eq_of_lt d,Nat.add_mul_div_left _ _ (Nat.pow_pos O),Nat.div_eq_of_lt d,Nat.zero_add];omega
theorem Nz(x:Nat):(dg U x).length=(bl x+63)/64:=by
 have d:∀k,(dg U x).length<=k↔(bl x+63)/64<=k:=λk=>by rw [Xp Xr,Zda,<-Qg];omega
 have e:=(d (dg U x).length).1 (Nat.le_refl _);have f:=(d ((bl x+63)/64)).2 (Nat.le_refl _);omega
theorem bl_add(x y:Nat):bl (x+y)<=max (bl x) (bl y)+1:=by rw [Qg,Nat.pow_succ];have d:=Dx x;have e:=Dx y;have f:2^bl x<=2^max (bl x) (bl y):=Nat.pow_le_pow_right O O;have g:2^bl y<=2^max (bl x) (bl y):=Nat.pow_le_pow_right O O;omega
theorem Zmf(x y:Nat):bl (x*y)<=bl x+bl y:=by
 rw [Qg,Nat.pow_add];rcases Nat.eq_zero_or_pos y with rfl|d
 .rw [Nat.mul_zero];exact Nat.mul_pos (Nat.pow_pos O) (Nat.pow_pos O)
 .exact Nat.mul_lt_mul_of_lt_of_le (Dx x) (Nat.le_of_lt (Dx y)) (Nat.pow_pos O)
theorem Zi2(b:Nat)(o:List Nat)(n p r:Nat)(d:p<o.length)(f:p<n):Yh b ((o.set p r).take n)+o.getD p 0*b^p=Yh b (o.take n)+r*b^p:=by
 induction n with
 | zero=>omega
 | succ n e=>
  rw [Ql b (o.set p r) n,Ql b o n,Oq _ _ _ _ _ d];by_cases h:p=n
  .subst h;rw [if_pos rfl,Zms];omega
  .rw [if_neg h];have:=e O;omega
theorem Ycu(d:x<U)(e:y<U)(f:a<U)(g:c<U) :
  ((x*y%U+a+0)%U+c+0)%U+U*(((x*y/U+(x*y%U+a+0)/U)%U+((x*y%U+a+0)%U+c+0)/U)%U)=x*y+a+c/\
  ((x*y/U+(x*y%U+a+0)/U)%U+((x*y%U+a+0)%U+c+0)/U)%U<U:=by
 have h:x*y<=18446744073709551615*18446744073709551615:=Nat.mul_le_mul (by simp only [U]at d;omega) (by simp only [U]at e;omega);generalize x*y=p at *;simp only [U]at *;omega
theorem Yhk  {V r d n:Nat} (q:Yh U (o.take n)+c*U^(i+k)=V+xs.getD i 0*U^i*Yh U (ys.take k)) (g:i+k<o.length) (f:i+k<n)
  (j:r+U*d=xs.getD i 0*ys.getD k 0+o.getD (i+k) 0+c):Yh U ((o.set (i+k) r).take n)+d*U^(i+(k+1))=V+xs.getD i 0*U^i*Yh U (ys.take (k+1)):=by
 have p:=Zi2 U o n (i+k) r g f;rw [Ql,show i+(k+1)=i+k+1 by omega,Nat.pow_succ];have l:xs.getD i 0*U^i*(ys.getD k 0*U^k)=xs.getD i 0*ys.getD k 0*U^(i+k):=by rw [Nat.pow_add];ac_rfl
 rw [Nat.mul_add,l];have e:(r+U*d)*U^(i+k)=(xs.getD i 0*ys.getD k 0+o.getD (i+k) 0+c)*U^(i+k):=by rw [j]
 rw [Nat.add_mul,Nat.add_mul,Nat.add_mul,Nat.mul_comm U d,Nat.mul_assoc d,Nat.mul_comm U]at e;omega
theorem Zil  {N:Nat}  {env:Ph} {H:Hp} {o:Oper} {x y:Operand}  {s:ByteArray}  {m:Int}  (g:o.op= .index t x y)
  (l:ev env x=some (.string s)) (n:ev env y=some (.int kd m)) (j:P.underlying t=some .string)
  (e:m=(i:Int)) (f:i<256) (hs:s.size=256) (d:∀i,i<256->(s.data.toList.getD i 0).toNat=bl i):Mo P N sc o env H (.int .u8 (bl i:Int)):=by
 rw [<-d i f];exact Yjo g l n j e 
theorem Yhl  (z:x<U) (B:y<U) (hi lo:Nat)
  (u:hi=(((x/4294967296)*(y/4294967296)%U+(((x/4294967296)*(y &&& 4294967295)%U+((x &&& 4294967295)*(y &&& 4294967295)%U)/4294967296)%U)/4294967296)%U +
   (((((x/4294967296)*(y &&& 4294967295)%U+((x &&& 4294967295)*(y &&& 4294967295)%U)/4294967296)%U &&& 4294967295)+(x &&& 4294967295)*(y/4294967296)%U)%U)/4294967296)%U)
  (G:lo=x*y%U):hi=x*y/U:=by
 have v:∀n:Nat,n &&& 4294967295=n%4294967296:=λn=>Nat.and_two_pow_sub_one_eq_mod n 32;subst u;simp only [v];have j:=Nat.div_add_mod x 4294967296;have l:=Nat.div_add_mod y 4294967296;have F:=Nat.mod_lt x (show 4294967296>0 by omega);have D:=Nat.mod_lt y (show 4294967296>0 by omega);have f:x/4294967296<=4294967295:=by simp only [U]at z;omega
 have g:y/4294967296<=4294967295:=by simp only [U]at B;omega
 generalize x/4294967296=a at *;generalize x%4294967296=b at *;generalize y/4294967296=c at *;generalize y%4294967296=d at *;subst j;subst l;have e:(4294967296*a+b)*(4294967296*c+d)=18446744073709551616*(a*c)+4294967296*(a*d)+4294967296*(b*c)+b*d:=by rw [Nat.add_mul,Nat.mul_add,Nat.mul_add,Nat.mul_mul_mul_comm,Nat.mul_assoc 4294967296 a d,Nat.mul_left_comm b 4294967296 c];omega
 rw [e];have H:a*c<=4294967295*4294967295:=Nat.mul_le_mul f g;have I:a*d<=4294967295*4294967295:=Nat.mul_le_mul f O;have M:b*c<=4294967295*4294967295:=Nat.mul_le_mul O g;have N:b*d<=4294967295*4294967295:=Nat.mul_le_mul O O;generalize a*c=p at *;generalize a*d=q at *;generalize b*c=r at *;generalize b*d=s at *;simp only [U];omega
def Ybh(m:Nat):bl (m%256)<=8:=(Qg 8 _).2 (Nat.mod_lt _ O)
theorem Au(m:Nat):Ng ((bl (m%256):Nat):Int):=by have:=Ybh m;exact⟨O,O⟩
theorem Ce{c:Int}(m:Nat)(d:0<=c)(e:c<=1000):Ng (c+((bl (m%256):Nat):Int)):=by have:=Ybh m;exact⟨O,O⟩
theorem Ar{c:Int}{n:Nat}(d:m<256)(h:c+(bl m:Int)=(bl n:Int)):Value.int .i64 (c+((bl (m%256):Nat):Int))=Value.int .i64 (bl n:Int):=by rw [Nat.mod_eq_of_lt d,h]
theorem Zqi{α:Type}(xs:List α)(i:Nat)(d:α)(h:i<xs.length):xs.reverse.getD i d=xs.getD (xs.length-1-i) d:=by
 have e:i<xs.reverse.length:=by simpa using h
 have f:xs.length-1-i<xs.length:=O;simp [List.getD,List.getElem?_eq_getElem f,List.getElem?_eq_getElem e]
theorem hi_top(h:(dg 256 x).length<=m):hi x m w=0:=by have:=(Xp (b:=256) O m x).1 h;unfold hi;rw [Nat.div_eq_of_lt this];simp
theorem Yia(h:k/8≠w):hi x (k+1) w=hi x k w:=by
 by_cases d:k+1<=8*w
 .rw [Yic d,Yic O]
 .rw [hi_lt O,hi_lt O]
set_option maxRecDepth 20000
def Yk5:U=2^64:=rfl
theorem Yg4(a b s:Nat)(d:b<2^s):a*2^s ||| b=a*2^s+b:=by rw [Nat.mul_comm,Nat.two_pow_add_eq_or_of_lt d]
theorem Zez{l:Nat}(hs:s<=64)(d:l<U):l/2^(64-s)<2^s:=by rw [Nat.div_lt_iff_lt_mul (Nat.two_pow_pos _),<-Nat.pow_add,show s+(64-s)=64 by omega];exact d
theorem Zih{l:Nat}(hs:s<=64):l*2^s/U=l/2^(64-s):=by rw [Yk5,show(2:Nat)^64=2^(64-s)*2^s by rw [<-Nat.pow_add,show 64-s+s=64 by omega],Nat.mul_div_mul_right _ _ (Nat.two_pow_pos s)]
theorem Yg3{l:Nat}(hs:s<=64)(d:h*2^s<U)(e:l<U):(h*2^s%U) ||| (l/2^(64-s))=(h*U+l)*2^s/U:=by rw [Nat.mod_eq_of_lt d,Yg4 _ _ _ (Zez hs e),Nat.add_mul,show h*U*2^s=U*(h*2^s) by rw [Nat.mul_right_comm,Nat.mul_comm],Nat.mul_add_div Xw,Zih hs]
theorem Ycw(h l s:Nat):l*2^s%U=(h*U+l)*2^s%U:=by rw [Nat.add_mul,show h*U*2^s=U*(h*2^s) by rw [Nat.mul_right_comm,Nat.mul_comm],Nat.mul_add_mod]
def Zvt(x:Nat):x &&& 4294967295=x%4294967296:=Nat.and_two_pow_sub_one_eq_mod x 32
def dvI(u v d y0 q r:Nat):Prop:=q*d+r=u/\q<=4294967297/\(u*4294967296+v)/(d*4294967296+y0)<=q
section
variable {u v y1 y0 q r:Nat}
theorem dv_Q(e:v<4294967296)(d:u<y1*4294967296+y0):(u*4294967296+v)/(y1*4294967296+y0)<4294967296:=by rw [Nat.div_lt_iff_lt_mul O];have:(u+1)*4294967296<=(y1*4294967296+y0)*4294967296:=Nat.mul_le_mul_right _ d;omega
theorem dv0(j:2147483648<=y1)(l:y1<4294967296)(g:y0<4294967296)(D:v<4294967296)(B:u<y1*4294967296+y0):dvI u v y1 y0 (u/y1) (u%y1):=by
 refine⟨by rw [Nat.mul_comm];exact Nat.div_add_mod u y1,?_,?_⟩
 .rw [<-Nat.lt_succ_iff,Nat.div_lt_iff_lt_mul O];show u<4294967298*y1;omega
 .have f:0<y1*4294967296+y0:=O;refine Nat.le_of_lt_succ ((Nat.div_lt_iff_lt_mul f).2 ?_);have n:=Nat.div_add_mod u y1;have p:=Nat.mod_lt u (show 0<y1 by omega);generalize u/y1=q at *;have d:u+1<=y1*(q+1):=by rw [Nat.mul_add];omega
  have z:(u+1)*4294967296<=y1*(q+1)*4294967296:=Nat.mul_le_mul_right _ d;have e:(q+1)*(y1*4294967296+y0)=y1*(q+1)*4294967296+(q+1)*y0:=by rw [Nat.mul_add,Nat.mul_comm y1 (q+1),Nat.mul_assoc (q+1) y1]
  show u*4294967296+v<(q+1)*(y1*4294967296+y0);rw [e];omega
theorem Yi7(hi:q*y1+r=u):q*(y1*4294967296+y0)+r*4294967296=u*4294967296+q*y0:=by rw [Nat.mul_add,<-hi,Nat.add_mul,Nat.mul_assoc];omega
theorem Zq3(j:0<y1)(hi:dvI u v y1 y0 q r)(f:q*y0<=4294967296*r+v):q=(u*4294967296+v)/(y1*4294967296+y0):=by obtain⟨d,g,e⟩:=hi;refine Nat.le_antisymm ((Nat.le_div_iff_mul_le O).2 ?_) e;have:=Yi7 (y0:=y0) d;omega
theorem Zjn(B:0<y1)(hi:dvI u v y1 y0 q r)(l:v<4294967296)(j:u<y1*4294967296+y0)(e:4294967296<=q\/4294967296*r+v<q*y0) :
  1<=q/\dvI u v y1 y0 (q-1) (r+y1):=by
 obtain⟨f,n,z⟩:=hi;have d:(u*4294967296+v)/(y1*4294967296+y0)<q:=by
  rcases e with e|e
  .exact Nat.lt_of_lt_of_le (dv_Q l j) e
  .rw [Nat.div_lt_iff_lt_mul O];have:=Yi7 (y0:=y0) f;omega
 have g:1<=q:=Nat.lt_of_le_of_lt (Nat.zero_le _) d;refine⟨g,?_,O,Nat.le_sub_one_of_lt d⟩;obtain⟨p,rfl⟩:∃p,q=p+1:=⟨q-1,O⟩;rw [Nat.add_mul]at f;simp only [Nat.add_sub_cancel];omega
theorem Zgh(d:0<y1)(g:y0<4294967296)(hi:dvI u v y1 y0 q r)(e:q<=4294967296)(f:4294967296<=r):q=(u*4294967296+v)/(y1*4294967296+y0):=by refine Zq3 d hi ?_;have j:q*y0<=4294967296*y0:=Nat.mul_le_mul_right _ e;have l:4294967296*4294967296<=4294967296*r:=Nat.mul_le_mul_left _ f;omega
theorem Zt2(f:q<4294967296)(d:y0<4294967296):q*y0<18446744073709551616:=by have e:q*y0<=4294967295*y0:=Nat.mul_le_mul_right _ O;omega
end
theorem wsub(g:a%U=c%U)(j:b%U=m%U)(l:m<=c)(d:c-m<U):(a+(U-b%U))%U=c-m:=by have e:b%U<U:=Nat.mod_lt _ Xw;have f:(c-m)%U=c-m:=Nat.mod_eq_of_lt d;simp only [U]at *;omega
theorem Yal{u v:Nat}(e:0<y)(g:y<U):((u*4294967296%U+v)%U+(U-((u*4294967296+v)/y*y)%U))%U=(u*4294967296+v)%y:=by have d:=Nat.div_add_mod (u*4294967296+v) y;have f:=Nat.mod_lt (u*4294967296+v) e;rw [Nat.mul_comm y]at d;rw [wsub (c:=u*4294967296+v) (m:=(u*4294967296+v)/y*y) (by simp only [U];omega) rfl O O];omega
theorem Yon{A D:Nat}(g:0<y)(e:D=A*4294967296+b):D/y=A/y*4294967296+(A%y*4294967296+b)/y/\D%y=(A%y*4294967296+b)%y:=by
 have f:=Nat.div_add_mod A y;have d:D=y*(A/y*4294967296)+(A%y*4294967296+b):=by
  conv=>lhs;rw [e,<-f]
  rw [Nat.add_mul,Nat.mul_assoc];omega
 constructor
 .conv=>lhs;rw [d]
  rw [Nat.mul_add_div g]
 .conv=>lhs;rw [d]
  rw [Nat.mul_add_mod]
theorem dv_two{D u v d e:Nat}(j:0<y)(l:u=D/U)(n:v=D%U)(g:d=v/4294967296)(f:e=v%4294967296) :
  D/y=(u*4294967296+d)/y*4294967296+((u*4294967296+d)%y*4294967296+e)/y/\D%y=((u*4294967296+d)%y*4294967296+e)%y:=
 Yon j (by subst l n g f;simp only [U];omega)
def Zni(n y s:Nat):n*2^s/(y*2^s)=n/y:=Nat.mul_div_mul_right _ _ (Nat.two_pow_pos s)
theorem Znh(n y s:Nat):n*2^s%(y*2^s)/2^s=n%y:=by rw [Nat.mul_mod_mul_right,Nat.mul_div_cancel _ (Nat.two_pow_pos s)]
theorem Yhd(f:0<y)(g:y<U)(hs:s=64-bl y):9223372036854775808<=y*2^s/\y*2^s<U:=by
 have j:bl y<=64:=(Qg 64 y).2 g;have d:=Dx y;have e:=(Zrp f).1;have l:(2:Nat)^bl y*2^s=U:=by rw [<-Nat.pow_add,show bl y+s=64 by omega]
 have n:y*2^s<2^bl y*2^s:=Nat.mul_lt_mul_of_pos_right d (Nat.two_pow_pos s);have p:2^(bl y-1)*2^s<=y*2^s:=Nat.mul_le_mul_right _ e;have z:2^(bl y-1)*2^s=9223372036854775808:=by
  have:1<=bl y:=by
   rcases Nat.eq_zero_or_pos (bl y)with h|h
   .rw [h]at d;omega
   .exact h
  rw [<-Nat.pow_add,show bl y-1+s=63 by omega]
 omega
theorem rsub{u:Nat}(e:0<y)(f:u<U):(u+(U-(u/y*y)%U))%U=u%y:=by have d:=Nat.div_add_mod u y;rw [Nat.mul_comm y]at d;rw [wsub (c:=u) (m:=u/y*y) rfl rfl O O];omega
theorem Zbf{n:Nat}(h:m=n):Value.int .u64 (m:Int)= .int .u64 (n:Int):=by rw [h]
theorem Zcu{m n:Int}(h:m=n):Value.int .i64 m= .int .i64 n:=by rw [h]
theorem Zu3(d:1<=a)(h:a<U):(a+(U-1))%U=a-1:=by rw [show a+(U-1)=a-1+U by simp only [U]at *;omega,Nat.add_mod_right,Nat.mod_eq_of_lt O]
def shl_lt(e:h<y)(d:y*2^s<U):h*2^s<U:=Nat.lt_of_le_of_lt (Nat.mul_le_mul_right _ (Nat.le_of_lt e)) d
theorem top_lt{l:Nat}(g:l<U)(f:h<y):(h*U+l)*2^s/U<y*2^s:=by
 rw [Nat.div_lt_iff_lt_mul Xw];have d:(h+1)*U<=y*U:=Nat.mul_le_mul_right _ f;have e:h*U+l<y*U:=by rw [Nat.add_mul]at d;omega
 rw [Nat.mul_right_comm];exact Nat.mul_lt_mul_of_pos_right e (Nat.two_pow_pos s)
end Go.Sky
namespace Go.Sky
set_option maxRecDepth 20000
variable{r b w:Nat}{o xs:List Nat}
theorem Zpr(a b s:Nat)(c:b<2^s):b ||| a*2^s=a*2^s+b:=by rw [Nat.or_comm,Yg4 _ _ _ c]
theorem Zfl(Y t:Nat)(a:t<=64):Y*2^t%U=Y%2^(64-t)*2^t:=by rw [Yk5,show(2:Nat)^64=2^(64-t)*2^t by rw [<-Nat.pow_add,show 64-t+t=64 by omega],Nat.mul_mod_mul_right]
theorem Zl0(c:b<=64)(a:r<U):r/2^b<2^(64-b):=by have:=Zez (l:=r) (s:=64-b) O a;rwa [show 64-(64-b)=b by omega]at this
theorem Zss(Y b:Nat)(a:b<=64):Y%U/2^b ||| (Y/U%U)*2^(64-b)%U=Y/2^b%U:=by
 have e:Y%U<U:=Nat.mod_lt _ Xw;rw [Zfl _ _ O,Zpr _ _ _ (Zl0 a e),show 64-(64-b)=b by omega];have f:Y/U%U%2^b=Y/U%2^b:=by rw [Yk5];exact Nat.mod_mod_of_dvd _ (Nat.pow_dvd_pow 2 a)
 rw [f];have c:U=2^b*2^(64-b):=by rw [<-Nat.pow_add,show b+(64-b)=64 by omega]
 have g:=Nat.div_add_mod Y U;have h:Y/2^b=2^(64-b)*(Y/U)+Y%U/2^b:=by
  conv=>lhs;rw [<-g]
  conv=>lhs;rw [show U*(Y/U)=2^b*(2^(64-b)*(Y/U)) by rw [<-Nat.mul_assoc,<-c]]
  rw [Nat.mul_add_div (Nat.two_pow_pos b)]
 rw [h];have d:=Zl0 a e;generalize Y/U=q at *;generalize Y%U=r at *
 conv=>rhs;rw [c,Nat.mul_comm (2^b)]
 rw [Nat.mod_mul,Nat.mul_add_div (Nat.two_pow_pos _),Nat.mul_add_mod,Nat.mod_eq_of_lt d,Nat.div_eq_of_lt d,Nat.add_zero,Nat.add_comm,Nat.mul_comm]
theorem Yb8(Y b:Nat)(c:b<=64)(a:Y/U=0):Y%U/2^b=Y/2^b%U:=by have:=Zss Y b c;rw [a]at this;simpa using this
theorem Ydi{α:Type}(xs:List α)(w j:Nat)(d:α):(xs.drop w).getD j d=xs.getD (w+j) d:=by simp [List.getD,List.getElem?_drop]
theorem Zao{x s:Nat}(c:w=s/64)(a:b=s%64):x/2^s=x/U^w/2^b:=by rw [Zda,Nat.div_div_eq_div_mul,<-Nat.pow_add,show 64*w+b=s by omega]
theorem Zuw(x b i:Nat):x/2^b/U^i=x/U^i/2^b:=by rw [Nat.div_div_eq_div_mul,Nat.mul_comm,<-Nat.div_div_eq_div_mul]
theorem Yao(x w j:Nat):((dg U x).drop w).getD j 0=x/U^w/U^j%U:=by rw [Ydi,Hf Xr,Nat.pow_add,Nat.div_div_eq_div_mul]
theorem Zzz{x n:Nat}(h:(dg U x).length<=w+n):x/U^w<U^n:=by rw [Nat.div_lt_iff_lt_mul (Nat.pow_pos Xw),<-Nat.pow_add,Nat.add_comm];exact(Xp Xr _ _).1 h
theorem drop_set{α:Type}(o:List α)(k:Nat)(d:α)(h:k<o.length):(o.set k d).drop k=d::o.drop (k+1):=by rw [List.drop_set,if_neg O,Nat.sub_self,List.drop_eq_getElem_cons h];rfl
theorem Zcy{α:Type}(z:α)(o:List α)(k:Nat)(h:k<o.length):o.drop k=o.getD k z::o.drop (k+1):=by rw [List.drop_eq_getElem_cons h];simp [List.getD,List.getElem?_eq_getElem h]
theorem Zv5{d k:Nat}(g:0<d)(h:k+1<=o.length)(i:k+1<=xs.length)(a:Yh U (o.drop (k+1))*d+r=Yh U (xs.drop (k+1))) :
  Yh U ((o.set k ((r*U+xs.getD k 0)/d)).drop k)*d+(r*U+xs.getD k 0)%d=Yh U (xs.drop k):=by
 rw [drop_set _ _ _ O,Zcy 0 xs k O];simp only [Yh];have c:=Nat.div_add_mod (r*U+xs.getD k 0) d;rw [<-a];generalize (r*U+xs.getD k 0)/d=q at *;generalize (r*U+xs.getD k 0)%d=m at *;generalize Yh U (o.drop (k+1))=V at *;rw [Nat.add_mul,Nat.mul_add,Nat.mul_comm q d];have e:U*V*d=U*(V*d):=Nat.mul_assoc _ _ _;have f:U*r=r*U:=Nat.mul_comm _ _;omega
theorem Ye7  {i n:Nat} (j:b<=63) (k:n=o.length) (l:w+i+1<n) (d:o.getD (w+i) 0<2^b) (h:o.getD (w+i+1) 0=0) (m:xs.getD i 0<U)
  (g:Yh U (o.take n)=Yh U (xs.take i)*2^b*U^w) :
  Yh U (((o.set (w+i) (o.getD (w+i) 0 ||| xs.getD i 0*2^b%U)).set (w+i+1) (xs.getD i 0/2^(64-b))).take n)=Yh U (xs.take (i+1))*2^b*U^w:=by
 have a:=Zi2 U (o.set (w+i) (o.getD (w+i) 0 ||| xs.getD i 0*2^b%U)) n (w+i+1) (xs.getD i 0/2^(64-b)) O8 O;have c:=Zi2 U o n (w+i) (o.getD (w+i) 0 ||| xs.getD i 0*2^b%U) O O;rw [Oq _ _ _ _ _ O,if_neg O,h]at a;rw [Zfl _ _ O,Zpr _ _ _ d,<-Zfl _ _ O]at c ;rw [Zfl _ _ O,Zpr _ _ _ d,<-Zfl _ _ O]at a ⊢;rw [<-Zih (by omega:b<=64)]at a ⊢;rw [Ql];generalize xs.getD i 0=X at *;generalize o.getD (w+i) 0=C at *;have e:X*2^b*U^(w+i)=(X*2^b%U)*U^(w+i)+X*2^b/U*U^(w+i+1):=by
  conv=>lhs;rw [<-Nat.div_add_mod (X*2^b) U]
  rw [Nat.add_mul,Nat.pow_succ U (w+i),Nat.mul_comm U,Nat.mul_assoc (X*2^b/U),Nat.mul_comm U];omega
 have f:(Yh U (xs.take i)+X*U^i)*2^b*U^w=Yh U (xs.take i)*2^b*U^w+X*2^b*U^(w+i):=by rw [Nat.add_mul,Nat.add_mul,Nat.pow_add];congr 1;rw [Nat.mul_right_comm X,Nat.mul_assoc,Nat.mul_assoc,Nat.mul_comm (U^i)];simp only [Nat.mul_assoc]
 rw [f,<-g,e];rw [Nat.add_mul]at c;omega
theorem Zmv(o:List Nat)(j:Nat)(h:o.getD j 0=0):o.set j 0=o:=by
 rcases Nat.lt_or_ge j o.length with a|a
 .refine Zex O7 (λi _=>?_);rw [Oq _ _ _ _ _ a];split
  .rename_i e;rw [<-e,h]
  .rfl
 .exact List.set_eq_of_length_le a
theorem Zuv{d n:Nat}(c:n<U)(a:r<d):(r*U+n)/d<U:=by rw [Nat.div_lt_iff_lt_mul O];have:(r+1)*U<=d*U:=Nat.mul_le_mul_right _ a;rw [Nat.mul_comm U];rw [Nat.add_mul]at this;omega
end Go.Sky

