/- Rules, arithmetic and contracts: part 2. No conditions but those that each theorem names. -/
import Derived.Test.YteikicbnfbgpnaaGreatEn00
import Derived.Laws.Externs
import Derived.Lib.SliceRun
import Derived.Great.BuildSlice
import Derived.Laws.Small
import Derived.Laws.StructEq
set_option linter.all false
namespace Go.Sky
open Go.RowKit Below
variable{op:Op}{b b':Bool}{cs:Array Value}{c:Code}{ch:Hp}{p:Pc}{k:Nat}{n':Int}{k' kd:IntKind}{ats:Array TypeId}{w:World}
variable {P:Program} {N:Nat} {sc:Nat->Prop} {env env':Pw} {H H':Hp} {Q Q':Exit->Act->World->Prop} {M:Nat->Prop}
section
variable {ops:Array Oper} {rest:List Oper} {d:Nat} {ty:TypeId} {pos:String} {af:Array Edge} {v:Value} {x:Operand}
theorem dt(e:Lj P N sc ⟨some d,op,ty,pos,af,none⟩ env H v)(h:L P N sc ops rest Q ((d,v)::env) H)(a:Nat.blt d N=true:=by rfl) :
  L P N sc ops (⟨some d,op,ty,pos,af,none⟩::rest) Q env H:=l_det rfl rfl a e h
theorem tt {o:Oper} {G:Type} {φ:G->Prop} {a:G->Pw} {e:G->Hp} (i:T P N sc (λ_=>True) o env H φ a e) 
  (h:∀g,φ g->L P N sc ops rest Q (a g) (e g)) (f:o.guard=none:=by rfl):L P N sc ops (o::rest) Q env H:=l_step f i h
theorem Ej  {j e:Nat}  (l:Lj P N sc ⟨some d,op,ty,pos,af,some (j,b)⟩ env H v) (i:(ops[j]?).bind (·.dst)=some e) (g:lk env e=some (.bool b))  
  (h:L P N sc ops rest Q ((d,v)::env) H) (a:Nat.blt e N=true:=by rfl) (f:Nat.blt d N=true:=by rfl):L P N sc ops (⟨some d,op,ty,pos,af,some (j,b)⟩::rest) Q env H:=l_gdet rfl i g a rfl f l h
def gsk  {j e:Nat}  (l:(ops[j]?).bind (·.dst)=some e) (i:lk env e=some (.bool b')) (a:(b' == b)=false) (f:Nat.blt e N=true) (g:Nat.blt d N=true)
  (h:L P N sc ops rest Q ((d,undef)::env) H):L P N sc ops (⟨some d,op,ty,pos,af,some (j,b)⟩::rest) Q env H:=Yqw rfl l i f a rfl g h
def gtt {o:Oper} {G:Type} {φ:G->Prop} {a:G->Pw} {i:G->Hp} {j e:Nat}  (q:T P N sc (λ_=>True) o env H φ a i) (m:o.guard=some (j,b)) (n:(ops[j]?).bind (·.dst)=some e) (l:lk env e=some (.bool b)) (f:Nat.blt e N=true)
  (h:∀g,φ g->L P N sc ops rest Q (a g) (i g)):L P N sc ops (o::rest) Q env H:=Yqv m n l f q h
end
section
variable {ops:Array Oper} {F:Pw->Hp->Prop} {rest:List (Nat×Nat)} {i:Nat} {o:Oper}
def Stb(P:Program)(N:Nat)(sc:Nat->Prop)(M:Nat->Prop)(o:Oper)(env:Pw)(H:Hp)(v:Value):Prop:=
 ∀a w,Sat N sc env H a w->∀e,Chg M w e->(execOp a.eval o).run P e= .ok (.value v) e
def Xq{v:Value}(f:Lj P N sc o env H v):Stb P N sc (λ_=>False) o env H v:=λa w hs g e=>f a g (hs.chg0 e)
theorem st1{v:Value}(k:Nat){b:Nat}{t:TypeId}(y:lk H k=some (box b t cs))(D:Lj P N sc o env (drp k H) v):Stb P N sc (λx=>x=b) o env H v:=λa w hs n l=>by
 refine D a n ?_;have f:Sat N sc env (drp k H) a w:=⟨hs.size,hs.defers,hs.env,λi g hi=>hs.hold i g (Ca _ _ _ _ hi).2,
  λi j g G h hi u=>hs.sep i j g G h (Ca _ _ _ _ hi).2 (Ca _ _ _ _ u).2,λi g r hi=>hs.scope i g r (Ca _ _ _ _ hi).2⟩
 refine⟨f.size,f.defers,f.env,λi g hi=>?_,f.sep,f.scope⟩;obtain⟨h,m⟩:=Ca _ _ _ _ hi;refine g.stable w n (f.hold i g hi) ⟨l.os,l.tape,l.output,l.size,λq B z=>l.block q B (λe=>z (λs=>?_))⟩;subst e;exact hs.sep k i _ g (iL h) y m rfl q rfl s
theorem r0{d:Nat}{v:Value}(hs:Stb P N sc M o env H v)(l:ops[i]? = some o)(j:o.guard=none)(g:o.dst=some d)(f:Nat.blt d N=true)(h:LD P N sc M ops F rest ((d,v)::env) H) :
  LD P N sc M ops F ((i,0)::rest) env H:=⟨o,d,v,l,g,f,λa w e=>⟨by simp [Region.wanted,j],hs a w e⟩,h⟩
theorem Ei {d j e:Nat}  {v:Value} (hs:Stb P N sc M o env H v) (s:ops[i]? = some o) (q:o.guard=some (j,b)) (r:(ops[j]?).bind (·.dst)=some e) (n:lk env e=some (.bool b)) (m:o.dst=some d) 
  (h:LD P N sc M ops F rest ((d,v)::env) H) (g:Nat.blt e N=true:=by rfl) (l:Nat.blt d N=true:=by rfl) :
  LD P N sc M ops F ((i,0)::rest) env H:=⟨o,d,v,s,m,l,λa w f=>⟨by simp [Region.wanted,q,f.yielded r n g],hs a w f⟩,h⟩
theorem r1{G:Type}{φ:G->Prop}{e:G->Pw}{f:G->Hp}(m:T P N sc M o env H φ e f)(l:ops[i]? = some o)(j:o.guard=none)(h:∀g,φ g->LD P N sc M ops F rest (e g) (f g)) :
  LD P N sc M ops F ((i,1)::rest) env H:=⟨o,G,φ,e,f,l,λa w _=>by simp [Region.wanted,j],m,h⟩
theorem r1g {G:Type} {φ:G->Prop} {f:G->Pw} {m:G->Hp} {j e:Nat}  (u:T P N sc M o env H φ f m) (t:ops[i]? = some o) (r:o.guard=some (j,b)) (s:(ops[j]?).bind (·.dst)=some e) (q:lk env e=some (.bool b)) (n:Nat.blt e N=true)
  (h:∀g,φ g->LD P N sc M ops F rest (f g) (m g)) :
  LD P N sc M ops F ((i,1)::rest) env H:=⟨o,G,φ,f,m,t,λa w l=>by simp [Region.wanted,r,l.yielded s q n],u,h⟩
theorem r3{G:Type}{φ:G->Prop}{e:G->Pw}{f:G->Hp}(m:T P N sc (λ_=>True) o env H φ e f)(l:ops[i]? = some o)(j:o.guard=none)(h:∀g,φ g->LD P N sc M ops F rest (e g) (f g)) :
  LD P N sc M ops F ((i,3)::rest) env H:=⟨o,G,φ,e,f,l,λa w _=>by simp [Region.wanted,j],m,h⟩
theorem r2 {d j e:Nat}  (t:ops[i]? = some o) (r:o.guard=some (j,b)) (s:(ops[j]?).bind (·.dst)=some e) (q:lk env e=some (.bool b')) (g:(b' == b)=false) (l:Nat.blt e N=true) (n:o.dst=some d) (m:Nat.blt d N=true)
  (h:LD P N sc M ops F rest ((d,undef)::env) H) :
  LD P N sc M ops F ((i,2)::rest) env H:=⟨o,d,t,n,m,λa w f=>by simp [Region.wanted,r,f.yielded s q l];simpa using g,h⟩
def r_fin(h:F env H):LD P N sc M ops F [] env H:=h
theorem Zey{o:Oper}{d:Nat}{v:Value}(h:Lj P N sc o env H v)(g:o.dst=some d)(f:Nat.blt d N=true:=by rfl):T P N sc M o env H (G:=Unit) (λ_=>True) (λ_=>(d,v)::env) (λ_=>H):=λa w hs K Q e=>by unfold Oper.wp;rw [h a w hs];show K (a.put o.dst v) w;rw [g];exact e () _ _ aA (hs.put d v f) (Chg.refl _ _)
end
def Ysw{G:Type}(N:Nat)(sc:Nat->Prop)(cs:Pw)(ch:Hp)(j:G->Pw)(h:G->Hp)(f:G->Prop)(μ:G->Nat)(g:G):Act->World->Prop:=
 λa w=>∃e,f e/\μ e<μ g/\Sat N sc (j e ++ cs) (h e ++ ch) a w
def e_lp  {G:Type} (cs:Pw) (ch:Hp) (j:G->Pw) (h:G->Hp) (a:G->Prop) (μ:G->Nat) (f:G) (m:a f) (hs:Sub (j f ++ cs) env) (l:HSub (h f ++ ch) H)
  (e:∀g,a g->E P N sc c (Exit.then (Ysw N sc cs ch j h a μ g) Q) (j g ++ cs) (h g ++ ch)) :
  E P N sc (.loop c) Q env H:=e_loop (λg=>j g ++ cs) (λg=>h g ++ ch) a μ f m hs l e
def x_rnd{G:Type}{cs:Pw}{l:G->Pw}{j:G->Hp}{h:G->Prop}{μ:G->Nat}{g:G}(e:G)(m:h e)(n:μ e<μ g)(hs:Sub (l e ++ cs) env)(q:HSub (j e ++ ch) H) :
  X N sc .normal (Exit.then (Ysw N sc cs ch l j h μ g) Q) env H:=λa w f=>⟨e,m,n,f.weaken hs q⟩
def JnK{G:Type}(N:Nat)(sc:Nat->Prop)(cs:Pw)(ch:Hp)(h:G->Pw)(f:G->Hp)(e:G->Prop):Act->World->Prop:=
 λa w=>∃g,e g/\Sat N sc (h g ++ cs) (f g ++ ch) a w
theorem e_jn {x y:Code} {G:Type} (cs:Pw) (ch:Hp) (m:G->Pw) (l:G->Hp) (h:G->Prop) (q:Sub cs env) (n:HSub ch H)
  (s:E P N sc x (Exit.then (JnK N sc cs ch m l h) Q) env H)
  (t:∀g,h g->E P N sc y Q (m g ++ cs) (l g ++ ch)):E P N sc (.seq x y) Q env H:=λa w hs=>by
 refine wp_seq (Code.wp_mono (λe a w j=>?_) (s a w hs));cases e with
 | normal=>obtain⟨g,r,f⟩:=j;exact t g r a w f
 | _=>exact j
def x_jn{G:Type}{cs:Pw}{j:G->Pw}{h:G->Hp}{f:G->Prop}(g:G)(l:f g)(hs:Sub (j g ++ cs) env)(m:HSub (h g ++ ch) H) :
  X N sc .normal (Exit.then (JnK N sc cs ch j h f) Q) env H:=λa w e=>⟨g,l,e.weaken hs m⟩
def Zg(hi:∀a w,Sat N sc env H a w->Sat N sc env' H' a w)(h:E P N sc c Q env' H'):E P N sc c Q env H:=λa w hs=>h a w (hi a w hs)
def Zs{e:Exit}(hi:∀a w,Sat N sc env H a w->Sat N sc env' H' a w)(h:X N sc e Q env' H'):X N sc e Q env H:=λa w hs=>h a w (hi a w hs)
def Xf{ops:Array Oper}{rest:List Oper}(hi:∀a w,Sat N sc env H a w->Sat N sc env' H' a w)(h:L P N sc ops rest Q env' H'):L P N sc ops rest Q env H:=λa w hs=>h a w (hi a w hs)
def Pg{p:Prop}(e:∀a w,Sat N sc env H a w->p)(h:p->E P N sc c Q env H):E P N sc c Q env H:=λa w hs=>h (e a w hs) a w hs
def Ygi{e:Exit}{p:Prop}(f:∀a w,Sat N sc env H a w->p)(h:p->X N sc e Q env H):X N sc e Q env H:=λa w hs=>h (f a w hs) a w hs
theorem Zqf(i:Nat){q:Pc}(hi:lk H i=some p)(y:q.own=p.own)(t:∀w,p.holds w->q.holds w)(n:∀b,q.fp b->p.fp b)(B:Nat.beq i 0=false):∀a w,Sat N sc env H a w->Sat N sc env ((i,q)::H) a w:=λa w hs=>by
  have R:i≠0:=λe=>by subst e;simp at B
  refine⟨hs.size,hs.defers,hs.env,λj s f=>?_,λj I s z h f g G b r m=>?_,λj s D f b r=>?_⟩
  .by_cases l:i=j
   .subst l;rw [Yg]at f;cases f;exact t w (hs.hold i p hi)
   .rw [Zx l]at f;exact hs.hold j s f
  .by_cases l:i=j
   .subst l;rw [Yg]at f;cases f;rw [Zx h]at g;exact hs.sep i I p z h hi g (by rw [<-y];exact G) b (n b r) m
   .rw [Zx l]at f;by_cases u:i=I
    .subst u;rw [Yg]at g;cases g;exact hs.sep j i s p h f hi G b r (n b m)
    .rw [Zx u]at g;exact hs.sep j I s z h f g G b r m
  .by_cases l:i=j
   .subst l;rw [Yg]at f;cases f;exact hs.scope i p R hi b (n b r)
   .rw [Zx l]at f;exact hs.scope j s D f b r
theorem Xn{α:Type}{t:TypeId}{e:TypeId}{enc:α->Value}{v:Value}{xs:List α}(i:Nat)(hi:lk H i=some (Oa k e enc v xs))(s:Nat.beq i 0=false)(I:Enc P t k enc):∀a w,Sat N sc env H a w->Sat N sc env ((i,Yx k enc v xs)::H) a w:=λa w hs=>by
  have G:i≠0:=λe=>by subst e;simp at s
  refine⟨hs.size,hs.defers,hs.env,λj m f=>?_,λj D m z r f g y b l n=>?_,λj m u f b l=>?_⟩
  .by_cases h:i=j
   .subst h;rw [Yg]at f;cases f;have B:=hs.hold i _ hi;exact⟨Am I.cells B,λb l=>(B.lt b l.2).2⟩
   .rw [Zx h]at f;exact hs.hold j m f
  .by_cases h:i=j
   .subst h;rw [Yg]at f;cases f;cases y
   .rw [Zx h]at f;by_cases q:i=D
    .subst q;rw [Yg]at g;cases g;exact hs.sep j i m _ r f hi y b l n.2
    .rw [Zx q]at g;exact hs.sep j D m z r f g y b l n
  .by_cases h:i=j
   .subst h;rw [Yg]at f;cases f;exact hs.scope i _ G hi b l.2
   .rw [Zx h]at f;exact hs.scope j m u f b l
abbrev U:Nat:=18446744073709551616
theorem Zj2(n:Nat):IntKind.u64.wrap (n:Int)=((n%U:Nat):Int):=by rw [Zp1];simp [U]
theorem Zdz{n:Nat}(h:n<U):IntKind.u64.wrap (n:Int)=(n:Int):=by rw [Zj2,aX h]
section
variable {o:Oper} {t t':TypeId} {x y:Operand} {m n:Nat}
theorem Ag(a:o.op= .binOp .add t x y t')(e:ev env x=some (.int .u64 (m:Int)))(f:ev env y=some (.int .u64 (n:Int))):Lj P N sc o env H (.int .u64 (((m+n)%U:Nat):Int)):=Eb a e f λw=>by rw [<-Zj2];simp [binOp,Op.intArith]
theorem Bd(a:o.op= .binOp .mul t x y t')(e:ev env x=some (.int .u64 (m:Int)))(f:ev env y=some (.int .u64 (n:Int))):Lj P N sc o env H (.int .u64 (((m*n)%U:Nat):Int)):=Eb a e f λw=>by rw [<-Zj2];simp [binOp,Op.intArith]
theorem Zex(a:o.op= .binOp .sub t x y t')(e:ev env x=some (.int .u64 (m:Int)))(f:ev env y=some (.int .u64 (n:Int)))(g:n<U:=by decide):Lj P N sc o env H (.int .u64 (((m+(U-n))%U:Nat):Int)):=Eb a e f λw=>by
 have:((m:Int)-(n:Int))%18446744073709551616=(((m+(U-n))%U:Nat):Int):=by simp only [U]at *;omega
 rw [<-this,<-Zp1];simp [binOp,Op.intArith]
theorem Ygu(j:o.op= .binOp .quo t x y t')(l:ev env x=some (.int .u64 (m:Int)))(q:ev env y=some (.int .u64 (n:Int)))(h:m<U:=by omega)(r:0<n:=by omega):Lj P N sc o env H (.int .u64 ((m/n:Nat):Int)):=Eb j l q λw=>by
 have a:m/n<U:=bA (eQ m n) h;have e:(m:Int).tdiv (n:Int)=((m/n:Nat):Int):=by rw [lK O];simp
 have f:=Zdz a;have g:¬((n:Int)=0):=O;simp only [binOp,ne_eq,jI,nL,Op.intDiv,g,e,f,Sem.run_pure]
theorem u_rem(e:o.op= .binOp .rem t x y t')(f:ev env x=some (.int .u64 (m:Int)))(g:ev env y=some (.int .u64 (n:Int)))(h:0<n):Lj P N sc o env H (.int .u64 ((m%n:Nat):Int)):=Eb e f g λw=>by
 have a:(m:Int).tmod (n:Int)=((m%n:Nat):Int):=by rw [lL O];simp
 simp [binOp,Op.intDiv,show ¬n=0 by omega,a]
theorem Zee(m:Nat):BitVec.ofInt 64 (m:Int)=BitVec.ofNat 64 m:=by apply BitVec.eq_of_toNat_eq;simp
theorem Yof(h:o.op= .binOp .or t x y t')(j:ev env x=some (.int .u64 (m:Int)))(l:ev env y=some (.int .u64 (n:Int)))(a:m<U)(e:n<U):Lj P N sc o env H (.int .u64 ((m ||| n:Nat):Int)):=Eb h j l λw=>by
 have f:m ||| n<U:=kI (n:=64) a e;have g:(BitVec.ofInt 64 (m:Int) ||| BitVec.ofInt 64 (n:Int)).toNat=m ||| n:=by rw [Zee,Zee,BitVec.toNat_or,kC,kC,aX a,aX e]
 simp only [binOp,ne_eq,jI,nL,Op.intBits,Sem.run_pure];rw [show(BitVec.ofInt IntKind.u64.bits (m:Int) ||| BitVec.ofInt IntKind.u64.bits (n:Int)).toNat=m ||| n from g,Zdz f]
theorem Zts(h:o.op= .binOp .and t x y t')(j:ev env x=some (.int .u64 (m:Int)))(l:ev env y=some (.int .u64 (n:Int)))(a:m<U:=by omega)(g:n<U:=by decide):Lj P N sc o env H (.int .u64 ((m &&& n:Nat):Int)):=Eb h j l λw=>by
 have e:m &&& n<U:=bA Nat.and_le_left a;have f:(BitVec.ofInt 64 (m:Int) &&& BitVec.ofInt 64 (n:Int)).toNat=m &&& n:=by rw [Zee,Zee,BitVec.toNat_and,kC,kC,aX a,aX g]
 simp only [binOp,ne_eq,jI,nL,Op.intBits,Sem.run_pure];rw [show(BitVec.ofInt IntKind.u64.bits (m:Int) &&& BitVec.ofInt IntKind.u64.bits (n:Int)).toNat=m &&& n from f,Zdz e]
theorem Zol{k:IntKind}(j:o.op= .binOp .shl t x y t')(l:ev env x=some (.int .u64 (m:Int)))(q:ev env y=some (.int k n'))(e:n'=(n:Int))(r:n<=64:=by omega):Lj P N sc o env H (.int .u64 (((m*2^n)%U:Nat):Int)):=λa w hs=>by
 subst e;have f:min n 64=n:=O;have g:IntKind.u64.wrap ((m:Int)*2^n)=(((m*2^n)%U:Nat):Int):=by rw [<-Zj2];simp
 have h:¬((n:Int)<0):=O;simp [execOp,j,hs.ev l,hs.ev q,eqGuard,binOp,Op.shift,IntKind.bits,f,g,h]
theorem Zok{k:IntKind}(j:o.op= .binOp .shr t x y t')(l:ev env x=some (.int .u64 (m:Int)))(q:ev env y=some (.int k n'))(e:n'=(n:Int))(r:n<=64:=by omega):Lj P N sc o env H (.int .u64 ((m/2^n:Nat):Int)):=λa w hs=>by
 subst e;have f:min n 64=n:=O;have g:(m:Int).fdiv (2^n)=((m/2^n:Nat):Int):=by rw [Int.fdiv_eq_ediv_of_nonneg _ (by exact Int.pow_nonneg O)];simp
 have h:¬((n:Int)<0):=O;simp [execOp,j,hs.ev l,hs.ev q,eqGuard,binOp,Op.shift,IntKind.bits,f,g,h]
theorem Fk (n':Nat){k:IntKind}(e:o.op= .binOp .shr t x y t')(g:ev env x=some (.int .u64 (m:Int)))(h:ev env y=some (.int k (n:Int)))(a:Nat.ble n 64=true)(f:2^n=n'):Lj P N sc o env H (.int .u64 ((m/n':Nat):Int)):=by rw [<-f];exact Zok e g h rfl (by simpa using a)
theorem Zhz{k:IntKind}{r:Int}{m:Int}(f:o.op= .convert t t' x)(j:ev env x=some (.int k m)){ds:TypeDesc}(e:P.underlying t=some ds)(h:P.underlying t'=some (.int k'))(g:k'.wrap m=r):Lj P N sc o env H (.int k' r):=λa w hs=>by subst g;cases ds<;>simp [execOp,f,hs.ev j,convert,run_underlying e,run_underlying h,Conv.intToInt]
end
theorem Zco {o:Oper} {x y:Operand}  {k:IntKind} {m n:Int} (e:o.op= .call { callee:= .builtin .max,args:=#[x,y],argTypes:=ats })
  (f:ev env x=some (.int k m)) (g:ev env y=some (.int k n)):Lj P N sc o env H (.int k (max m n)):=λa w hs=>by
 simp [execOp,e,resolve,hs.ev f,hs.ev g,invoke,builtin,Builtin.max_,Builtin.max2];by_cases h:n>m
 .rw [aG h];omega
 .rw [aD h];omega
def Kz(v:Value)(n:Nat):Value:=match v with
 | .slice a _ c=> .slice a n c
 | u=>u
theorem Fa(v:Value)(n:Nat):(Kz v n).ownBlock=v.ownBlock:=by
 cases v with
 | slice a l c=>cases a<;>rfl
 | _=>rfl
theorem Ycx (ii:Nat)(i:Nat) {α:Type} {o:Oper} {x y:Operand} {t e:TypeId} {v:Value}   {m:Int}  {enc:α->Value} {xs:List α} (l:o.op= .slice t x none (some y) none)
  (s:ev env x=some v) (u:ev env y=some (.int kd m)) (G:lk H ii=some p) (I:Rd p k enc v xs) (r:P.underlying t=some (.slice e)) (g:∀w,(sizeOf e).run P w= .ok k w)
   (h:m=(i:Int):=by omega) (j:i<=xs.length:=by omega):Lj P N sc o env H (Kz v i):=λa w hs=>by
 obtain⟨z,c,rfl,D,R,S⟩:=I w (hs.hold ii p G);subst h;have f:i<=c:=aB j D;have B:∀q:Addr,q.add 0=q:=λq=>by simp [Addr.add]
 cases z with
 | none=>simp [execOp,l,hs.ev s,hs.ev u,Instr.sliceAt,Instr.slice,Instr.sliceBounds,Instr.sliceBound,asIntOf,run_underlying r,g,f,Kz]
 | some q=>simp [execOp,l,hs.ev s,hs.ev u,Instr.sliceAt,Instr.slice,Instr.sliceBounds,Instr.sliceBound,asIntOf,run_underlying r,g,f,Kz,B]
theorem Zd8{α:Type}{enc:α->Value}{v:Value}{xs:List α}(n:Nat)(r:n<=xs.length)(h:RowAt w k enc v xs):RowAt w k enc (Kz v n) (xs.take n):=by
 obtain⟨a,c,rfl,q,l,e⟩:=h;have j:(xs.take n).length=n:=by rw [aQ];omega
 refine⟨a,c,by rw [j];rfl,by rw [j];omega,l,?_⟩;rcases e with rfl|⟨g,f,rfl,e⟩
 .exact .inl O7
 .refine .inr ⟨g,f,rfl,λi x hi=>e i x ?_⟩;rw [cT]at hi;split at hi
  .exact hi
  .cases hi
theorem Zm2{α:Type}{v:Value}{xs:List α}{n b:Nat}(h:xs.take n≠[]/\(Kz v n).ownBlock=some b):xs≠[]/\v.ownBlock=some b:=
 ⟨λe=>h.1 (by rw [e,List.take_nil]),by rw [<-Fa v n];exact h.2⟩
theorem Yia{α:Type}{enc:α->Value}{v:Value}{xs:List α}(i j n:Nat)(hi:lk H i=some (Yx k enc v xs))(l:Nat.beq i 0=false)(u:n<=xs.length:=by omega):∀a w,Sat N sc env H a w->Sat N sc env ((j,Yx k enc (Kz v n) (xs.take n))::H) a w:=
 λa w hs=>hs.add j _ ⟨Zd8 n u (hs.hold i _ hi).1,λb f=>(hs.hold i _ hi).2 b (Zm2 f)⟩
  (λr B z q Lz b f h=>by
   rcases Lz with Lz|Lz
   .cases Lz
   .have s:=Zm2 f;by_cases g:r=i
    .subst g;rw [hi]at q;cases q;cases Lz
    .exact hs.sep r i B _ g q hi Lz b h s)
  (λb f=>hs.scope i _ (λe=>by subst e;simp at l) hi b (Zm2 f))
theorem Yqa{α:Type}{e:TypeId}{enc:α->Value}(s:∀x,(enc x).cells.size=k){v:Value}{xs:List α}(n:Nat)(u:n<=xs.length)(h:w.ownsRow 0 e k v xs.length (cellsOf enc xs)) :
  w.ownsRow 0 e k (Kz v n) (xs.take n).length (cellsOf enc (xs.take n)):=by
 have G:(xs.take n).length=n:=by rw [aQ];omega
 refine⟨by rw [Xk s],?_⟩;rw [G];rcases h.2 with⟨rfl,S⟩|⟨g,f,j,rfl,B,D,I,l,q,a⟩
 .have:n=0:=O;subst this;exact .inl ⟨rfl,rfl⟩
 .refine .inr ⟨g,f,j,rfl,B,D,O,l,q,?_⟩;have z:∀(xs:List α) (n:Nat),n<=xs.length->cellsOf enc (xs.take n)=(cellsOf enc xs).take (n*k):=by
   intro xs
   induction xs with
   | nil=>intro n h;simp [cellsOf]
   | cons x r R=>
    intro n h;cases n with
    | zero=>simp [cellsOf]
    | succ n=>
     have:=R n (by simpa using h);simp only [cellsOf,kY,iC]at this ⊢;rw [this,show(n+1)*k=(enc x).cells.toList.length+n*k from by simp [s,bG];omega,lD]
  rw [z xs n u,<-a,iP,dJ (aJ k u)]
theorem s_opre{α:Type}{t:TypeId}{e:TypeId}{enc:α->Value}{v:Value}{xs:List α}(i n:Nat)(hi:lk H i=some (Oa k e enc v xs))(f:Nat.beq i 0=false)(j:Enc P t k enc)(l:n<=xs.length) :
  ∀a w,Sat N sc env H a w->Sat N sc env ((i,Oa k e enc (Kz v n) (xs.take n))::H) a w:=
 Zqf i hi rfl (λw h=>Yqa j.cells n l h) (λb g=>by simpa [Oa,Fa]using g) f
theorem Mh{α:Type}{enc:α->Value}{v:Value}{xs:List α}(i:Nat)(hi:lk H i=some p)(e:Rd p k enc v xs):∀a w,Sat N sc env H a w->xs.length<=9223372036854775807:=λa w hs=>by obtain⟨f,c,rfl,g,h,_⟩:=e w (hs.hold i p hi);have j:maxLen=9223372036854775807:=rfl;omega
theorem Fx(v:Value)(m n:Nat):Kz (Kz v m) n=Kz v n:=by cases v<;>rfl
theorem Zyx{α:Type}{enc:α->Value}{v:Value}{xs:List α}(i:Nat)(hi:lk H i=some p)(e:Rd p k enc v xs):∀a w,Sat N sc env H a w->Kz v xs.length=v:=λa w hs=>by obtain⟨f,c,rfl,_⟩:=e w (hs.hold i p hi);rfl
end Go.Sky
namespace Go.Sky
open Go.RowKit Below
variable{f:FuncId}{vs:List Value}{pre r:List Pc}{args cs:Array Value}{o:Oper}{x y:Operand}{t tb:TypeId}{i k d:Nat}{v:Value}{w0:World}{M0:Nat->Prop}{ops:Array Oper}{rest:List Oper}{parts:Array (Nat×Operand)}
variable {P:Program} {N:Nat} {sc:Nat->Prop} {env env':Pw} {H H':Hp} {Q Q':Exit->Act->World->Prop} {M:Nat->Prop}
def Pa:Nat->List Value->Pw
  | _,[]=>[]
  | n,v::r=>(n,v)::Pa (n+1) r
def Xb:Nat->List Pc->Hp
  | _,[]=>[]
  | n,p::r=>(n,p)::Xb (n+1) r
def AllRo:List Pc->Prop
  | []=>True
  | p::r=>p.own=false/\AllRo r
theorem AllRo.mem:∀{l:List Pc},AllRo l->∀p∈l,p.own=false
  | p::r,h,q,a=>by
    cases a with
    | head=>exact h.1
    | tail _ a=>exact AllRo.mem h.2 q a
theorem Ge:∀(l:List Value) (n t:Nat) (v:Value),lk (Pa n l) t=some v->n<=t/\l[t-n]? = some v
  | [],_,_,_,h=>by cases h
  | u::r,n,t,v,h=>by
    simp only [Pa]at h;by_cases a:n=t
    . subst a;rw [Yg]at h;cases h;simp
    . rw [Zx a]at h;obtain⟨c,b⟩:=Ge r (n+1) t v h;refine⟨O,?_⟩;rw [show t-n=(t-(n+1))+1 by omega];simpa using b
theorem Nt:∀(l:List Pc) (n t:Nat) (v:Pc),lk (Xb n l) t=some v->n<=t/\v∈l
  | [],_,_,_,h=>by cases h
  | u::r,n,t,v,h=>by
    simp only [Xb]at h;by_cases a:n=t
    . subst a;rw [Yg]at h;cases h;simp
    . rw [Zx a]at h;obtain⟨c,b⟩:=Nt r (n+1) t v h;exact⟨O,bH _ b⟩
theorem cal_in  {fn:Func} {c:Code}   {al:Bool} {G:Type} {φ:G->Prop} {Yn:G->Value} {a:G->List Pc} {N:Nat}
    (u:P.funcs[f]? = some fn) (s:fn.body=some c) (n:fn.ntmps=N) (j:Nat.ble vs.length N=true) (l:AllRo pre)
    (h:∀w0 (sc:Nat->Prop),(∀b,w0.heap.size<=b->sc b)->(∀b,sc b->w0.heap.size<=b\/∃q∈pre,q.fp b)->
      E P N sc c (Zcr P fn w0 pre al φ Yn a) (Pa 0 vs) ((0,Yt w0 (λ_=>False))::Xb 1 pre)) :
    Cal P f vs.toArray pre al φ Yn a:=
  Yga (λw0=>(0,Yt w0 (λ_=>False))::Xb 1 pre) u s n (env0:=Pa 0 vs) (λt v z=>by simpa using(Ge vs 0 t v z).2) (by simpa using j)
    (λw i p hi=>by
      by_cases g:0=i
      . subst g;rw [Yg]at hi;cases hi;exact .inl ⟨rfl,rfl⟩
      . rw [Zx g]at hi;obtain⟨_,m⟩:=Nt pre 1 i p hi;exact .inr ⟨λe=>g e.symm,m,l.mem p m⟩) h
theorem Cal.bare{al a:Bool}{G:Type}{φ:G->Prop}{Yn:G->Value}{c:G->List Pc}(h:Cal P f args pre al φ Yn c):Cal P f args pre a φ Yn (λ_=>[]):=
  λw b=>(h w b).mono λe n ⟨g,l,m,j,_⟩=>⟨g,l,m,j,λp b=>by cases b⟩
def Ones(N:Nat)(sc:Nat->Prop)(env:Pw)(H:Hp):List Value->Prop
  | []=>True
  | v::r=>One N sc env H v/\Ones N sc env H r
theorem Ones.mem:∀{l:List Value},Ones N sc env H l->∀u∈l,One N sc env H u
  | v::r,h,u,a=>by
    cases a with
    | head=>exact h.1
    | tail _ a=>exact Ones.mem h.2 u a
def t_stp    {b j:Nat} {cs':Array Value}     (q:o.op= .store t x y) (n:o.dst=none)
    (z:ev env x=some (.pointer (some ⟨b,j,none⟩))) (B:ev env y=some v) (l:lk H i=some (box b tb cs)) (e:i≠0) (s:v.cells=vs.toArray) (p:∀w,(sizeOf t).run P w= .ok k w) (c:vs.length=k)
    (a:Nat.ble (j+vs.length) cs.size=true) (h:Ones N sc env H vs)
    (g:lk H 0=some (Yt w0 M0)) (u:∀b,w0.heap.size<=b->sc b) (m:M b) :
    T P N sc M o env H (G:=Unit) (λ_=>True) (λ_=>env) (λ_=>(i,box b tb (Fd cs j vs))::H):=
  Zi6 _ q n z B l e s p c (jD a) h.mem rfl g u m
theorem t_stw    {b:Nat}      (n:o.op= .store t x y) (l:o.dst=none)
    (u:ev env x=some (.pointer (some ⟨b,0,none⟩))) (z:ev env y=some v) (h:lk H i=some (box b tb cs)) (c:i≠0) (q:v.cells=vs.toArray) (m:∀w,(sizeOf t).run P w= .ok k w) (a:vs.length=k)
    (p:cs.size=k) (g:Ones N sc env H vs)
    (e:lk H 0=some (Yt w0 M0)) (s:∀b,w0.heap.size<=b->sc b) (j:M b) :
    T P N sc M o env H (G:=Unit) (λ_=>True) (λ_=>env) (λ_=>(i,box b tb vs.toArray)::H):=
  Zi6 _ n l u z h c q m a O g.mem (by unfold Fd;rw [dS,iV (by rw [dI];omega)];simp) e s j
theorem Yfv{al:Bool}{α:Type}{e:TypeId}{enc:α->Value}{xs ys:List α}(i:Nat)(hi:lk H i=some (Oa k e enc v xs))(b:Nat.beq i 0=false)(c:Enc P t k enc)(a:xs=ys)(h:Give H al r) :
    Give H al (Yx k enc v ys::r):=by subst a;exact Ylb i hi b c h
theorem Zmz{p q:Pc}(i:Nat)(hi:lk H i=some p)(b:Nat.beq i 0=false)(c:p.own=false)(a:p=q)(h:Give H true r) :
    Give H true (q::r):=by subst a;exact Gq i hi b c h
theorem Zg6 (d:Nat)    {b:Bool} (g:lk env d=some (.bool b))
    (j:b=true->L P N sc ops rest Q ((d,.bool true)::env) H) (h:b=false->L P N sc ops rest Q ((d,.bool false)::env) H):L P N sc ops rest Q env H:=by
  cases b with
  | true=>
    refine λa w hs=>j rfl a w ⟨hs.size,hs.defers,λt v c=>?_,hs.hold,hs.sep,hs.scope⟩;by_cases e:d=t
    . subst e;rw [Yg]at c;cases c;exact hs.env _ _ g
    . rw [Zx e]at c;exact hs.env _ _ c
  | false=>
    refine λa w hs=>h rfl a w ⟨hs.size,hs.defers,λt v c=>?_,hs.hold,hs.sep,hs.scope⟩;by_cases e:d=t
    . subst e;rw [Yg]at c;cases c;exact hs.env _ _ g
    . rw [Zx e]at c;exact hs.env _ _ c
theorem Hi (i:Nat)(n:Nat)(c:Nat) {α:Type}  {e:TypeId}    {m:Int}   {enc:α->Value} {ti:TypeInfo} (q:α)
    (V:o.op= .makeSlice t x y) (I:o.dst=some d) (Z:ev env x=some (.int .i64 m)) (hy:ev env y=some (.int .i64 m)) 
    (W:P.underlying t=some (.slice e)) (hi:P.info? e=some ti) (hz:ti.zero=some (enc q)) (R:∀x,(enc x).cells.size=k) (h:0<k) (l:ti.size=k) (j:ti.bytes=c)
     
    (u:lk H 0=some (Yt w0 M0)) (Y:∀b,w0.heap.size<=b->sc b) (B:Nat.blt d N=true:=by rfl) (S:m=(n:Int):=by omega) (D:c*n<=281474976710656:=by omega) (g:0<c:=by decide) :
    T P N sc M o env H (G:=Value) (λ_=>True) (λv=>(d,v)::env) (λv=>(i,Oa k e enc v (List.replicate n q))::H):=λa w hs K Q z=>
  t_mk q V I B Z hy S W hi hz R h l j D g u Y a w hs K Q λb s w' _ p F=>z (.slice (some ⟨b,0,none⟩) n n) s w' aA p F
def t_bsn {α:Type}  {e:TypeId} {n:Nat}      {enc:α->Value} (xs:List α)
    (B:o.op= .buildSlice t n parts) (q:o.dst=some d) (m:Nat.blt d N=true)
    (D:∀a w,Sat N sc env H a w->(Instr.buildSlice t n (parts.map λ(i,x)=>(i,a.eval x))).run P w= .ok (.slice (some ⟨w.heap.size,0,none⟩) n n) (w.alloc (.cells cs e)))
    (c:cs.toList=cellsOf enc xs) (z:xs.length=n) (s:∀x,(enc x).cells.size=k) (u:n<=maxLen)
    (j:lk H 0=some (Yt w0 M0)) (F:∀b,w0.heap.size<=b->sc b) :
    T P N sc M o env H (G:=Value) (λ_=>True) (λv=>(d,v)::env) (λv=>(i,Oa k e enc v xs)::H):=λa w hs K Q l=>
  t_bs xs B q m D c z s u j F a w hs K Q λb h I _ g p=>l (.slice (some ⟨b,0,none⟩) n n) h I aA g p
end Go.Sky
namespace Go.Sky
open Go.RowKit Below
variable{a b m:Nat}{o:Oper}{f:FuncId}{xs:List Operand}{ats:Array TypeId}{vs:List Value}{x y z:Operand}{t t':TypeId}{k:IntKind}{v:Value}{p:Pc}
variable {P:Program} {N:Nat} {sc:Nat->Prop} {env env':Pw} {H H':Hp} {Q Q':Exit->Act->World->Prop} {M:Nat->Prop}
def Zfd:Array Value->Sem Value:=λc=>do
 let (x, y, b) ← Extern.MathBitsCarry.three "Sub64" c
 pure (Extern.MathBitsCarry.pair ((x+Extern.MathBitsCarry.m64-y-b)%Extern.MathBitsCarry.m64) (if x<y+b then 1 else 0))
theorem Yet{P:Program}(x y c:Nat)(d:c<=1)(w:World) :
  (Zfd #[.int .u64 x,.int .u64 y,.int .u64 c]).run P w =
   .ok (.tuple #[.int .u64 (((x+U-y-c)%U:Nat):Int),.int .u64 ((if x<y+c then 1 else 0:Nat):Int)]) w:=by
 have:c=0\/c=1:=O;rcases this with rfl|rfl<;>rfl
theorem Hb {a:Act} {w:World} (hs:Sat N sc env H a w)      (e:o.op= .call { callee:= .value (.func f),args:=xs.toArray,argTypes:=ats })
  (c:EvL env xs vs):(execOp a.eval o).run P w=(callFunc f vs.toArray).run P w:=by
 have d:=c.map hs;simp [execOp,e,resolve,invoke,Act.eval,Deferred.ofValue,d]
theorem Zsj (c:Nat)      (i:o.op= .call { callee:= .value (.func f),args:=#[x,y,z],argTypes:=ats })
  (j:ev env x=some (.int .u64 (a:Int))) (l:ev env y=some (.int .u64 (b:Int))) (n:ev env z=some (.int .u64 (c:Int))) (q:c<=1)
  (d:∀args w,(callFunc f args).run P w=((add64Entry args).run P w).andThen λv w'=> .ok (.value v) w') :
  Lj P N sc o env H (.tuple #[.int .u64 (((a+b+c)%U:Nat):Int),.int .u64 (((a+b+c)/U:Nat):Int)]):=λs w hs=>by
 have h:=run_add64 (P:=P) (a:Int) b c O O O O w;have e:(((a:Int)+b+c)%18446744073709551616)=(((a+b+c)%U:Nat):Int):=by simp only [U];omega
 have g:(((a:Int)+b+c)/18446744073709551616)=(((a+b+c)/U:Nat):Int):=by simp only [U];omega
 rw [e,g]at h;rw [Hb hs (xs:=[x,y,z]) (vs:=[_,_,_]) i ⟨j,l,n,aA⟩,d,h];rfl
def brw(a b c:Nat):Nat:=if a<b+c then 1 else 0
theorem Yna{c:Nat}:brw a b c<=1:=by unfold brw;split<;>omega
theorem Yro     {c:Nat} (g:o.op= .call { callee:= .value (.func f),args:=#[x,y,z],argTypes:=ats })
  (i:ev env x=some (.int .u64 (a:Int))) (j:ev env y=some (.int .u64 (b:Int))) (l:ev env z=some (.int .u64 (c:Int))) (e:c<=1)
  (d:∀args w,(callFunc f args).run P w=((Zfd args).run P w).andThen λv w'=> .ok (.value v) w') :
  Lj P N sc o env H (.tuple #[.int .u64 (((a+U-b-c)%U:Nat):Int),.int .u64 (brw a b c:Int)]):=λs w hs=>by
 have h:=Yet (P:=P) a b c e w;rw [Hb hs (xs:=[x,y,z]) (vs:=[_,_,_]) g ⟨i,j,l,aA⟩,d,h];rfl
theorem Ze8{ds:TypeDesc}(d:o.op= .convert t t' x)(g:ev env x=some (.int k (m:Int)))(c:P.underlying t=some ds)(e:P.underlying t'=some (.int .u8)) :
  Lj P N sc o env H (.int .u8 ((m%256:Nat):Int)):=Zhz d g c e (by simp [IntKind.wrap,IntKind.bits,IntKind.signed])
def Zsl{ds:TypeDesc}(e:o.op= .convert t t' x)(h:ev env x=some (.int k (m:Int)))(c:P.underlying t=some ds)(g:P.underlying t'=some (.int .u64))(d:m<U) :
  Lj P N sc o env H (.int .u64 (m:Int)):=Zhz e h c g (Zdz d)
def Za2{m:Int}{ds:TypeDesc}(e:o.op= .convert t t' x)(h:ev env x=some (.int k m))(c:P.underlying t=some ds)(g:P.underlying t'=some (.int .i64))(d:Nz m) :
  Lj P N sc o env H (.int .i64 m):=Zhz e h c g (Zbu d)
theorem Kk(t:Nat){v':Value}(e:lk env t=some v)(h:v=v'):∀a w,Sat N sc env H a w->Sat N sc ((t,v')::env) H a w:=λa w hs=>by
 subst h;refine⟨hs.size,hs.defers,λs u c=>?_,hs.hold,hs.sep,hs.scope⟩;by_cases d:t=s
 .subst d;rw [Yg]at c;cases c;exact hs.env _ _ e
 .rw [Zx d]at c;exact hs.env _ _ c
theorem Xu(i j:Nat)(hi:lk H i=some p)(h:Nat.beq i 0=false)(n:p.own=false):∀a w,Sat N sc env H a w->Sat N sc env ((j,p)::H) a w:=λa w hs=>
 hs.add j p (hs.hold i p hi) (λq r _ l Lz b d g=>by
  rcases Lz with Lz|Lz
  .rw [n]at Lz;cases Lz
  .by_cases c:q=i
   .subst c;rw [hi]at l;cases l;rw [n]at Lz;cases Lz
   .exact hs.sep q i r p c l hi Lz b g d) (λb d=>hs.scope i p (λe=>by subst e;simp at h) hi b d)
theorem Znn (P:Program)(w:World)(f:Value->ByteArray->Sem (ForInStep ByteArray))(c:∀(n:Nat) (r:ByteArray),f (.int .u8 (n:Int)) r=pure (.yield (r.push (UInt8.ofNat n)))):∀(l:List Nat) (s:ByteArray),
  (forIn (m:=Sem) (l.map λn:Nat=>Value.int .u8 (n:Int)) s f).run P w= .ok (l.foldl (λs n=>s.push (UInt8.ofNat n)) s) w
 | [],s=>rfl
 | n::r,s=>by have d:=Znn P w f c r (s.push (UInt8.ofNat n));simp only [bZ,List.forIn_cons,c,Sem.run_bind,Sem.run_pure,Result.andThen_ok,gY];exact d
theorem Zm3:∀(l:List Nat) (s:ByteArray),l.foldl (λs n=>s.push (UInt8.ofNat n)) s=⟨s.data ++ (l.map UInt8.ofNat).toArray⟩
 | [],s=>O7
 | n::r,s=>by rw [gY,Zm3 r];simp [ByteArray.push]
theorem d_b2s  {e:TypeId}   {i:Nat}  {xs:List Nat} (W:o.op= .convert t t' x) (B:ev env x=some v) (S:lk H i=some p) (Y:Rd p 1 (λn:Nat=>Value.int .u8 (n:Int)) v xs)
  (Z:P.underlying t=some (.slice e)) (F:P.underlying t'=some .string) (V:P.underlying e=some (.int .u8)):Lj P N sc o env H (.string ⟨(xs.map UInt8.ofNat).toArray⟩):=λa w hs=>by
 obtain⟨D,c,rfl,h1,h2,I⟩:=Y w (hs.hold i p S);have s:(Conv.bytesToString (.slice D xs.length c)).run P w= .ok (.string ⟨(xs.map UInt8.ofNat).toArray⟩) w:=by
  cases D with
  | none=>
   rcases I with rfl|⟨g,G,h,_⟩
   .rfl
   .cases h
  | some q=>
   have d:(loadCells q xs.length).run P w= .ok (xs.map λn:Nat=>Value.int .u8 (n:Int)).toArray w:=by
    have:=run_loadCells_list (P:=P) w q (xs.map λn:Nat=>Value.int .u8 (n:Int)) (λj u l=>by
     rcases I with rfl|⟨g,G,h,R⟩
     .simp at l
     .cases h;rw [eI]at l;cases B:xs[j]? with
      | none=>rw [B]at l;cases l
      | some y=>
       rw [B]at l;cases l;have:=R j y B 0 (.int .u8 (y:Int)) rfl;rw [Ok];simpa using this)
    simpa using this
   simp only [Conv.bytesToString,Sem.run_bind,d,Result.andThen_ok];simp only [List.forIn_toArray];rw [Znn P w _ (λn r=>rfl) xs ByteArray.empty,Zm3];simp [ByteArray.empty,ByteArray.emptyWithCapacity];rfl
 have:(convert t t' (.slice D xs.length c)).run P w= .ok (.string ⟨(xs.map UInt8.ofNat).toArray⟩) w:=by simp only [convert,Sem.run_bind,run_underlying Z,run_underlying F,Result.andThen_ok,run_underlying V,s]
 simp only [execOp,W,hs.ev B];simp [this]
end Go.Sky
namespace Go.Sky
open Go.RowKit Below
variable{o:Oper}{f:FuncId}{xs:List Operand}{ats:Array TypeId}{d k:Nat}{vs:List Value}{pre:List Pc}{w0:World}{M0:Nat->Prop}{fn:Func}{v:Value}{x y:Operand}{t:TypeId}{p:Pc}{kd:IntKind}
variable {P:Program} {N:Nat} {sc:Nat->Prop} {env env':Pw} {H H':Hp} {Q Q':Exit->Act->World->Prop} {M:Nat->Prop}
def Yn5(P:Program)(f:FuncId)(args:Array Value)(pre:List Pc){G:Type}(φ:G->Prop)(Yn:G->Value)(a:G->Pc):Prop:=
 ∀w,(∀p∈pre,p.holds w)->Calls P f args w λe c=>∃g,e= .returned (Yn g)/\φ g/\Below w.heap.size w c/\(a g).holds c/\∀b,(a g).fp b->w.heap.size<=b
theorem Zd3 (n:Nat)        {G:Type} {φ:G->Prop} {Yn:G->Value} {s:G->Pc}  
  (W:Yn5 P f vs.toArray pre φ Yn s)
  (ho:o.op= .call { callee:= .value (.func f),args:=xs.toArray,argTypes:=ats }) (Y:o.dst=some d) (V:Nat.blt d N=true)
  (h:EvL env xs vs) (l:∀args w,(callFunc f args).run P w= .ok (.enter f args) w) (r:PreOk H false pre)
  (R:lk H 0=some (Yt w0 M0)) (hw:∀b,w0.heap.size<=b->sc b) :
  T P N sc M o env H φ (λg=>(d,Yn g)::env) (λg=>(n,s g)::H):=λa w hs K Q S=>by
 have hr:(execOp a.eval o).run P w= .ok (.enter f vs.toArray) w:=by rw [Hb hs ho h,l]
 unfold Oper.wp;rw [hr];refine(W w (λp hp=>by obtain⟨i,s,_,hi,q,_,_⟩:=r.mem p hp;exact q w (hs.hold i s hi))).mono ?_
 rintro e I ⟨g,rfl,Z,c,B,m⟩;show K (a.put o.dst (Yn g)) I;rw [Y];have D:Sat N sc env H a I:=hs.chg0 (Chg.of_below c);refine S g _ _ Z (Sat.put (D.add n (s g) B (λj F _ hj _ b u z=>?_) (λb u=>hw b (aB (hs.hold 0 _ R).size (m b u)))) d _ V) (Chg.of_below c);have:=F.lt w b (hs.hold j F hj) z;have:=m b u;omega
def Yn1(P:Program)(fn:Func)(w0:World){G:Type}(φ:G->Prop)(Yn:G->Value)(a:G->Pc):Exit->Act->World->Prop:=
 bodyPost P fn λe c=>∃g,e= .returned (Yn g)/\φ g/\Below w0.heap.size w0 c/\(a g).holds c/\∀b,(a g).fp b->w0.heap.size<=b
theorem Zs1   {c:Code}   {G:Type} {φ:G->Prop} {Yn:G->Value} {F:G->Pc} {N:Nat}
  (S:P.funcs[f]? = some fn) (g:fn.body=some c) (I:fn.ntmps=N) (n:Nat.ble vs.length N=true) (B:AllRo pre)
  (h:∀w0 (sc:Nat->Prop),(∀b,w0.heap.size<=b->sc b)->(∀b,sc b->w0.heap.size<=b\/∃q∈pre,q.fp b)->
   E P N sc c (Yn1 P fn w0 φ Yn F) (Pa 0 vs) ((0,Yt w0 (λ_=>False))::Xb 1 pre)) :
  Yn5 P f vs.toArray pre φ Yn F:=λw W=>by
 refine calls_of_wp S g (h w (λb=>w.heap.size<=b\/∃q∈pre,q.fp b) (λb g=> .inl g) (λb g=>g) _ w ?_);have n:vs.length<=N:=by simpa using n
 have a:∀i p,lk ((0,Yt w (λ_=>False))::Xb 1 pre) i=some p->(i=0/\p=Yt w (λ_=>False))\/(i≠0/\p∈pre/\p.own=false):=λi p hi=>by
   by_cases m:0=i
   .subst m;rw [Yg]at hi;cases hi;exact .inl ⟨rfl,rfl⟩
   .rw [Zx m]at hi;obtain⟨_,l⟩:=Nt pre 1 i p hi;exact .inr ⟨λe=>m e.symm,l,B.mem p l⟩
 refine⟨by simp [I];omega,rfl,λt v Y=>?_,λi p hi=>?_,λi j p q V hi Z z b g R=>?_,λi p s hi b g=>?_⟩
 .have D:vs.toArray[t]? = some v:=by simpa using(Ge vs 0 t v Y).2
  have u:=(aY.1 D).1;rw [bN,eT u,D];rfl
 .rcases a i p hi with⟨_,rfl⟩|⟨_,l,_⟩
  .exact Chg.refl _ w
  .exact W p l
 .rcases a i p hi with⟨_,rfl⟩|⟨_,l,r⟩
  .cases z
  .rw [r]at z;cases z
 .rcases a i p hi with⟨m,_⟩|⟨_,l,_⟩
  .exact absurd m s
  .exact .inr ⟨p,l,g⟩
theorem Zhw  {G:Type} {φ:G->Prop} {Yn:G->Value} {m:G->Pc}  {e:Exit} (B:e= .ret\/e= .normal)
  (g:G)  (l:∀a w,Sat N sc env H a w->(results fn a.tmps).run P w= .ok v w) (I:Yn g=v) (D:φ g) (u:lk H 0=some (Yt w0 (λ_=>False)))
  (i:Nat) (r:Nat.beq i 0=false) (hi:lk H i=some (m g)) (j:(m g).own=true) :
  X N sc e (Yn1 P fn w0 φ Yn m) env H:=λa w hs=>by
 have c:i≠0:=λe=>by subst e;simp at r
 have n:a.defers=[]/\∃v,(results fn a.tmps).run P w= .ok v w/\(∃g,Ending.returned v= .returned (Yn g)/\φ g/\Below w0.heap.size w0 w/\(m g).holds w/\∀b,(m g).fp b->w0.heap.size<=b):=by
  refine⟨hs.defers,v,l a w hs,g,by rw [I],D,Ie (hs.hold 0 _ u),hs.hold i _ hi,λb z=>?_⟩;have F:=hs.sep i 0 _ _ c hi u j b z;rcases aZ b w0.heap.size with s|q
  .exact absurd ⟨s,λh=>h⟩ F
  .exact q
 rcases B with rfl|rfl
 .exact n
 .exact n
theorem Zsi{α:Type}{s e:TypeId}{i:Nat}{enc:α->Value}{xs:List α}(g:o.op= .binOp .eql t x y s)(j:ev env x=some v)(l:ev env y=some (.slice none 0 0))(m:lk H i=some p)(n:Rd p k enc v xs)(r:P.underlying t=some (.slice e)) :
  Lj P N sc o env H (.bool (v.ownBlock.isNone)):=λa w hs=>by
 obtain⟨b,c,rfl,_⟩:=n w (hs.hold i p m);have h:=Lib.run_eql_slice_nil (P:=P) w t e b xs.length c 0 0 r;cases b with
 | none=>simp [execOp,g,hs.ev j,hs.ev l,eqGuard,h,Value.ownBlock]
 | some q=>simp [execOp,g,hs.ev j,hs.ev l,eqGuard,h,Value.ownBlock]
theorem Px (i:Nat)(j:Nat)(r:Nat) {α:Type}   {e:TypeId}  {u:Value} {enc:α->Value} {xs ys:List α}  {ti:TypeInfo} {z:Value}  
  (ho:o.op= .call { callee:= .builtin .append,args:=#[x,y],argTypes:=#[t,t] }) (hd:o.dst=some d) (hN:Nat.blt d N=true)
  (hx:ev env x=some v) (hy:ev env y=some u) (Y:lk H i=some (Oa k e enc v xs)) (F:i≠0) (hj:lk H j=some p) (hr:Rd p k enc u ys)
  (ht:P.underlying t=some (.slice e)) (hi:P.info? e=some ti) (hz:ti.zero=some z) (he:Enc P e k enc) (a2:ti.size=k) (a1:ti.bytes=r) (a4:z.cells.size=k)
  (Z:(xs.length+ys.length)*r<=140737488355328) (B:0<r)
  (h0:lk H 0=some (Yt w0 M0)) (hw:∀b,w0.heap.size<=b->sc b) :
  T P N sc (λ_=>True) o env H (G:=Value) (λ_=>True) (λv'=>(d,v')::env) (λv'=>(i,Oa k e enc v' (xs ++ ys))::H):=by
 by_cases S:ys=[]
 .subst S;intro a w hs K Q hK;have l:w.ownsRow 0 e k v xs.length (cellsOf enc xs):=hs.hold i _ Y;obtain⟨V,c,rfl,h1,h2,h3⟩:=hr w (hs.hold j p hj);have I:∃m n s,v= .slice m n s/\n=xs.length/\n<=s:=by
   rcases l.2 with⟨rfl,hn⟩|⟨g,W,a5,rfl,_,_,h,_⟩
   .exact⟨none,0,0,rfl,hn.symm,aI _⟩
   .exact⟨_,_,W,rfl,rfl,h⟩
  obtain⟨m,n,s,rfl,rfl,h⟩:=I;have R:(Builtin.append_ #[t,t] o.type #[.slice m xs.length s,.slice V ([]:List α).length c]).run P w= .ok (.slice m xs.length s) w:=by
   have D:(Builtin.firstCells ti.size 0 (.slice V 0 c)).run P w= .ok #[] w:=by
    cases V with
    | none=>rfl
    | some q=>simp [Builtin.firstCells,loadCells,loadCellsFrom]
   cases m with
   | none=>simp [Builtin.append_,run_underlying ht,sizeOf,typeInfo,hi,Builtin.lenOf,D,h]
   | some q=>simp [Builtin.append_,run_underlying ht,sizeOf,typeInfo,hi,Builtin.lenOf,D,h,storeCells]
  have a3:(execOp a.eval o).run P w= .ok (.value (.slice m xs.length s)) w:=by simp only [execOp,ho,resolve,invoke,builtin,Sem.run_bind,Sem.run_pure,Result.andThen_ok,gR,bZ,gD,hs.ev hx,hs.ev hy,R]
  unfold Oper.wp;rw [a3];show K (a.put o.dst _) _;rw [hd];refine hK _ _ _ aA ((Sat.upd hs Y rfl F (q:=Oa k e enc (.slice m xs.length s) (xs ++ [])) (Chg.refl _ w) ?_ (λb Z=> .inl Z) h0 hw).put d _ hN) (Chg.refl _ w);rw [iA];exact l
 .exact t_app (i2:=0) ho hd hN hx hy Y F hj hr S ht hi hz he a2 a1 a4 Z B h0 hw
def Zfc(v:Value)(n k:Nat):Value:=match v with
 | .slice a l c=> .slice (if c=n then a else a.map (·.add (n*k))) (l-n) (c-n)
 | u=>u
theorem Ze5(v:Value)(n k:Nat):(Zfc v n k).ownBlock=v.ownBlock:=by
 cases v with
 | slice a l c=>
  cases a with
  | none=>simp only [Zfc];split<;>rfl
  | some q=>
   simp only [Zfc];split
   .rfl
   .simp only [Option.map_some,Value.ownBlock,Addr.add];split<;>rfl
 | _=>rfl
theorem d_suf {α:Type}   {e:TypeId}  {ii i:Nat}  {m:Int}  {enc:α->Value} {xs:List α} (n:o.op= .slice t x (some y) none none)
  (s:ev env x=some v) (u:ev env y=some (.int kd m)) (j:lk H ii=some p) (q:Rd p k enc v xs) (r:P.underlying t=some (.slice e)) (h:∀w,(sizeOf e).run P w= .ok k w)
  (b:m=(i:Int)) (g:i<=xs.length):Lj P N sc o env H (Zfc v i k):=λa w hs=>by
 obtain⟨z,c,rfl,B,D,F⟩:=q w (hs.hold ii p j);subst b;have l:(i:Int)<=(xs.length:Int):=O;simp [execOp,n,hs.ev s,hs.ev u,Instr.sliceAt,Instr.slice,Instr.sliceBounds,Instr.sliceBound,asIntOf,run_underlying r,h,g,Zfc]
theorem Zo2{α:Type}{w:World}{enc:α->Value}{xs:List α}(n:Nat)(z:n<=xs.length)(h:RowAt w k enc v xs):RowAt w k enc (Zfc v n k) (xs.drop n):=by
 obtain⟨a,c,rfl,r,s,l⟩:=h;refine⟨if c=n then a else a.map (·.add (n*k)),c-n,by simp only [Zfc,eD],by rw [eD];omega,O,?_⟩;by_cases b:xs.drop n=[]
 .exact .inl b
 .have m:n<xs.length:=by
   rcases aZ n xs.length with h|h
   .exact h
   .exact absurd (iV h) b
  rcases l with rfl|⟨g,e,rfl,l⟩
  .simp at m
  .refine .inr ⟨g,e+n*k,?_,λi x hi j u q=>?_⟩
   .rw [aD O];simp [Ok]
   .rw [fZ]at hi;have:=l (n+i) x hi j u q;rw [bG]at this;rw [gC e,<-this]
theorem Zyu{α:Type}{xs:List α}{n b:Nat}(h:xs.drop n≠[]/\(Zfc v n k).ownBlock=some b):xs≠[]/\v.ownBlock=some b:=
 ⟨λe=>h.1 (by rw [e,List.drop_nil]),by rw [<-Ze5 v n k];exact h.2⟩
theorem s_suf{α:Type}{enc:α->Value}{xs:List α}(i j n:Nat)(hi:lk H i=some (Yx k enc v xs))(l:Nat.beq i 0=false)(s:n<=xs.length):∀a w,Sat N sc env H a w->Sat N sc env ((j,Yx k enc (Zfc v n k) (xs.drop n))::H) a w:=
 λa w hs=>hs.add j _ ⟨Zo2 n s (hs.hold i _ hi).1,λb c=>(hs.hold i _ hi).2 b (Zyu c)⟩
  (λq z u m Lz b c h=>by
   rcases Lz with Lz|Lz
   .cases Lz
   .have r:=Zyu c;by_cases g:q=i
    .subst g;rw [hi]at m;cases m;cases Lz
    .exact hs.sep q i z _ g m hi Lz b h r)
  (λb c=>hs.scope i _ (λe=>by subst e;simp at l) hi b (Zyu c))
end Go.Sky
namespace Go.Sky
open Go.RowKit Below
variable{o:Oper}{t:TypeId}{parts:List (Nat×Operand)}{cells cs:Array Value}{z:Value}{k d:Nat}{w0:World}{M0:Nat->Prop}
variable {P:Program} {N:Nat} {sc:Nat->Prop} {env env':Pw} {H H':Hp} {Q Q':Exit->Act->World->Prop} {M:Nat->Prop}
def EvP(e:Pw):List (Nat×Operand)->List (Nat×Value)->Prop
 | [],[]=>True
 | (i,x)::r,(j,v)::vs=>i=j/\ev e x=some v/\EvP e r vs
 | _,_=>False
theorem EvP.map{a:Act}{w:World}(h:Sat N sc env H a w):∀{xs:List (Nat×Operand)} {vs:List (Nat×Value)},EvP env xs vs->xs.map (λ(i,x)=>(i,a.eval x))=vs
 | [],[],_=>rfl
 | (i,x)::r,(j,v)::vs,hh=>by obtain⟨rfl,b,c⟩:=hh;simp only [bZ,h.ev b,EvP.map h c]
 | [],_::_,hh=>hh.elim
 | _::_,[],hh=>hh.elim
theorem Qv (b:List (Nat×Value))      (e:o.op= .build t parts.toArray) (f:EvP env parts b)
  (c:∀a w,Sat N sc env H a w->P.built t b=some cells):Lj P N sc o env H (.agg cells):=λa w hs=>by
 have h:=run_build (P:=P) w t (parts.toArray.map λ(i,x)=>(i,a.eval x)) cells (by rw [gR,f.map hs];exact c a w hs);simp only [execOp,e,Sem.run_bind,h,Result.andThen_ok,Sem.run_pure]
 try rfl
theorem Ph  {b:TypeInfo} {a:Array Field}  {pl:List (Nat×Nat)} {parts:List (Nat×Value)}  (hi:P.info? t=some b) (g:P.underlying t=some (.struct a)) (h:b.zero=some z)
  (e:a.toList.mapM (λf=>(P.info? f.type).map λi=>(f.offset,i.size))=some pl) (c:Instr.fill (pl.toArray[·]?) z.cells parts=some cells):P.built t parts=some cells:=by
 unfold Program.built;simp only [hi,g,h,e,c]
theorem Zjr(w:World)(t e:TypeId)(a:P.underlying t=some (.slice e))(hs:∀w,(sizeOf e).run P w= .ok k w) :
  (Instr.buildSlice t 0 #[]).run P w= .ok (.slice (some ⟨w.heap.size,0,none⟩) 0 0) (w.alloc (.cells #[] e)):=by
 simp [Instr.buildSlice,run_underlying a,hs,Instr.fill,newRow];rw [show(Array.range 0)=#[] by decide,Array.map_empty]
theorem Xv (c:List (Nat×Value))(i:Nat) {α:Type}  {e:TypeId} {n:Nat}       {enc:α->Value} {ti:TypeInfo}  (xs:List α)
  (u:o.op= .buildSlice t n parts.toArray) (m:o.dst=some d) (B:EvP env parts c)
  (y:P.underlying t=some (.slice e)) (hi:P.info? e=some ti) (F:ti.zero=some z) (h:Nat.ble (n*ti.size) 16777216=true) 
  (p:Instr.fill (λi=>some (i*ti.size,ti.size)) ((List.range (n*ti.size)).map (z.cells[· % z.cells.size]!)).toArray c=some cs)
  (g:cs.toList=cellsOf enc xs) (s:xs.length=n) (q:∀x,(enc x).cells.size=k) (r:Nat.ble n 16777216=true)
  (j:lk H 0=some (Yt w0 M0)) (D:∀b,w0.heap.size<=b->sc b) (l:Nat.blt d N=true:=by rfl) (f:Nat.blt 0 (n*ti.size)=true:=by rfl) :
  T P N sc M o env H (G:=Value) (λ_=>True) (λv=>(d,v)::env) (λv=>(i,Oa k e enc v xs)::H):=
 t_bsn xs u m l (λa w hs=>run_buildSlice w t e n _ cs ti z y hi F (by have:=jD h;omega) (by have:=Nat.blt_eq▸f;simp at f;omega) (by rw [show(parts.toArray.map λ(i,x)=>(i,a.eval x)).toList=c by rw [gR,B.map hs],show(Array.range (n*ti.size)).map (z.cells[· % z.cells.size]!)=((List.range (n*ti.size)).map (z.cells[· % z.cells.size]!)).toArray by rw [<-gR,<-Array.toList_range,Array.toArray_toList]];exact p)) g s q (by have:=jD r;simp only [maxLen];omega) j D
theorem Yg3 (i:Nat) {α:Type}  {e:TypeId}     {enc:α->Value} 
  (j:o.op= .buildSlice t 0 #[]) (h:o.dst=some d) (g:Nat.blt d N=true) (l:P.underlying t=some (.slice e)) (c:Enc P e k enc)
  (f:lk H 0=some (Yt w0 M0)) (m:∀b,w0.heap.size<=b->sc b) :
  T P N sc M o env H (G:=Value) (λ_=>True) (λv=>(d,v)::env) (λv=>(i,Oa k e enc v [])::H):=
 t_bsn (n:=0) (cs:=#[]) (parts:=#[]) [] j h g (λa w hs=>by rw [Array.map_empty];exact Zjr w t e l c.size) rfl rfl c.cells (by simp [maxLen]) f m
theorem Qy{α:Type}(i k:Nat)(e:TypeId)(enc:α->Value):∀a w,Sat N sc env H a w->Sat N sc env ((i,Oa k e enc (.slice none 0 0) [])::H) a w:=λa w hs=>
 hs.add i _ ⟨by simp [cellsOf],.inl ⟨rfl,rfl⟩⟩ (λj l g h Lz b c f=>by cases c) (λb c=>by cases c)
theorem Ylr{α:Type}{enc:α->Value}{v:Value}{xs:List α}{p:Pc}(i:Nat)(hi:lk H i=some p)(e:Rd p k enc v xs):∀a w,Sat N sc env H a w->(v.ownBlock=none->xs=[]):=λa w hs h=>by
 obtain⟨j,c,rfl,l,m,b⟩:=e w (hs.hold i p hi);rcases b with b|⟨g,f,rfl,_⟩
 .exact b
 .cases h
end Go.Sky
namespace Go.Sky
variable{t te:TypeId}{k i lo:Nat}{v u:Value}{xs:List Nat}{o:Oper}{x y:Operand}{p:Pc}{r:List Pc}{w w0:World}{cur:Array Value}{M0:Nat->Prop}
abbrev Ld (n:Nat):Value:= .int .u64 (n:Int)
abbrev Zj0 (n:Nat):Value:= .int .u8 (n:Int)
abbrev Ih (n:Nat):Value:= .int .i64 (n:Int)
abbrev Yi (n:Int):Value:= .int .i64 n
theorem Bv(xs:List Nat):(tz xs).length<=xs.length/\xs.take (tz xs).length=tz xs:=by
 induction hn:xs.length generalizing xs with
 | zero=>
   have:xs=[]:=aC hn;subst this;simp [tz]
 | succ n d=>
  rcases Zb2 xs with rfl|⟨b,y,rfl⟩
  .simp at hn
  .by_cases a:y=0
   .subst a;rw [Kp];obtain⟨e,c⟩:=d b (by simpa using hn);have f:b.length=n:=by simpa using hn
    exact⟨O,by rw [fG O];exact c⟩
   .rw [Hy a];exact⟨O,bK⟩
theorem Zba{P:Program}{N:Nat}{sc:Nat->Prop}{env:Pw}{H:Hp}{enc:Nat->Value}{e:TypeId}(i:Nat)(hi:lk H i=some (Oa k e enc v xs))(b:Nat.beq i 0=false)(c:Enc P t k enc) :
  ∀a w,Sat N sc env H a w->Sat N sc env ((i,Oa k e enc (Kz v (tz xs).length) (tz xs))::H) a w:=by
 have h:=s_opre (N:=N) (sc:=sc) (env:=env) i (tz xs).length hi b c (Bv xs).1;rwa [(Bv xs).2]at h
abbrev Dq (v:Value) (x:Nat):Pc:=Yx 1 Ld v (dg U x)
theorem Qb:2<=U:=by simp [U]
def Qp(x:Nat):ByteArray:=⟨((dg 256 x).reverse.map UInt8.ofNat).toArray⟩
theorem Ee(x:Nat):(Qp x).size=(dg 256 x).length:=by simp [Qp,ByteArray.size]
theorem Zno(x i:Nat)(h:i<(dg 256 x).length):((Qp x).data.toList.getD i 0).toNat=x/256^((dg 256 x).length-1-i)%256:=by
 have c:i<((dg 256 x).reverse.map UInt8.ofNat).length:=by simpa using h
 have d:(Qp x).data.toList=(dg 256 x).reverse.map UInt8.ofNat:=by simp [Qp]
 rw [d];simp only [List.getD,aM c,fE,List.getElem_map,List.getElem_reverse];have a:=Hr (b:=256) O ((dg 256 x).length-1-i) x;have e:(dg 256 x).length-1-i<(dg 256 x).length:=O;rw [show(dg 256 x).getD ((dg 256 x).length-1-i) 0=(dg 256 x)[(dg 256 x).length-1-i] by simp [List.getD,e]]at a;rw [a];simp
open Go.RowKit Below
variable {P:Program} {N:Nat} {sc:Nat->Prop} {env env':Pw} {H H':Hp} {Q Q':Exit->Act->World->Prop} {M:Nat->Prop}
theorem d_mid {α:Type}  {z:Operand} {e:TypeId}  {ii j:Nat} {S l:IntKind} {m n:Int}  {enc:α->Value} {xs:List α} (B:o.op= .slice t x (some y) (some z) none)
  (G:ev env x=some v) (I:ev env y=some (.int S m)) (R:ev env z=some (.int l n)) (s:lk H ii=some p) (D:Rd p k enc v xs) (F:P.underlying t=some (.slice e)) (h:∀w,(sizeOf e).run P w= .ok k w)
  (d:m=(i:Int)) (f:n=(j:Int)) (b:i<=j) (g:j<=xs.length):Lj P N sc o env H (Kz (Zfc v i k) (j-i)):=λa w hs=>by
 obtain⟨V,c,rfl,W,Y,Z⟩:=D w (hs.hold ii p s);subst d f;have h4:¬(c:Int)<(j:Int):=O;have h5:¬(j:Int)<(i:Int):=O;have q:j<=c:=O;simp [execOp,B,hs.ev G,hs.ev I,hs.ev R,Instr.sliceAt,Instr.slice,Instr.sliceBounds,Instr.sliceBound,asIntOf,run_underlying F,h,g,b,q,Zfc,Kz]
theorem Zeb {α:Type}  {e:TypeId} {enc:α->Value}  {xs ys:List α}   (i:Nat) (hi:lk H i=some (Oa k e enc v xs)) (f:Nat.beq i 0=false) (j:Enc P t k enc)
  (c:∀w,RowAt w k enc v xs->RowAt w k enc u ys) (a:u.ownBlock=v.ownBlock) (h:PreOk H false r):PreOk H false (Yx k enc u ys::r):=
 ⟨⟨i,_,λe=>by subst e;simp at f,hi,λw g=>⟨c w (Am j.cells g),λb d=>(g.lt b (by rw [<-a];exact d.2)).2⟩,λb d=>a.symm.trans d.2,λh=>by cases h⟩,h⟩
theorem Zke{α:Type}{enc:α->Value}{xs:List α}(lo hi:Nat)(a:lo<=hi:=by omega)(b:hi<=xs.length:=by omega):∀w,RowAt w k enc v xs->RowAt w k enc (Kz (Zfc v lo k) (hi-lo)) ((xs.drop lo).take (hi-lo)):=
 λw h=>Zd8 _ (by rw [eD];omega) (Zo2 lo O h)
theorem Zk1{n:Nat}:(Kz (Zfc v lo k) n).ownBlock=v.ownBlock:=by rw [Fa,Ze5]
theorem Yij{enc:Nat->Value}{ys zs:List Nat}{n:Nat}(a:tz ys=zs)(b:n=zs.length)(h:∀w,RowAt w k enc v xs->RowAt w k enc u ys):∀w,RowAt w k enc v xs->RowAt w k enc (Kz u n) zs:=λw c=>by have:=Zd8 zs.length (by rw [<-a];exact(Bv ys).1) (h w c);rw [<-a,(Bv ys).2]at this;rw [b,<-a];exact this
theorem Zs0{α:Type}{enc:α->Value}(a:∀x,(enc x).cells.size=k)(xs:List α)(n:Nat)(c:n<=xs.length):cellsOf enc (xs.take n)=(cellsOf enc xs).take (n*k):=by
 have h:=Iw enc (xs.take n) (xs.drop n);rw [fJ]at h;have b:(cellsOf enc (xs.take n)).length=n*k:=by rw [Xk a,aQ,dJ c]
 rw [h,<-b,nM]
def spl{α:Type}(xs:List α)(lo:Nat)(ys:List α):List α:=xs.take lo ++ ys ++ xs.drop (lo+ys.length)
theorem He{α:Type}{xs:List α}{ys:List α}(h:lo+ys.length<=xs.length):(spl xs lo ys).length=xs.length:=by simp [spl];omega
theorem Yp9 {α:Type}  {g a:Nat}   {e:TypeId} {enc:α->Value} {xs ys:List α} (m:∀x,(enc x).cells.size=k) (lo:Nat) (d:lo+ys.length<=xs.length)
  (V:w.heap[g]? = some (.cells cur e (0,0))) (l:xs.length<=a) (n:a<=maxLen) (s:cur.size=a*k) (f:cur.toList.take (xs.length*k)=cellsOf enc xs) :
  (w.setRow g (cur.toList.take (lo*k) ++ cellsOf enc ys ++ cur.toList.drop (lo*k+(cellsOf enc ys).length)).toArray).ownsRow 0 e k (.slice (some ⟨g,0,none⟩) xs.length a) (spl xs lo ys).length (cellsOf enc (spl xs lo ys)):=by
 have c:cur.toList.length=a*k:=by rw [dI,s]
 have b:=Xk m ys;have z:(lo+ys.length)*k<=xs.length*k:=aJ _ d;have G:xs.length*k<=a*k:=aJ _ l;rw [bG]at z;refine⟨by rw [Xk m],.inr ⟨g,a,_,by rw [He d],bD _,setRow_heap w g cur _ e _ V,by rw [He d];exact l,n,?_,?_⟩⟩
 .simp only [iE,aS,aQ,eD,c,b];omega
 .rw [He d];have I:cellsOf enc (xs.take lo)=cur.toList.take (lo*k):=by rw [Zs0 m xs lo O,<-f,iP,dJ O]
  have R:cellsOf enc (xs.drop (lo+ys.length))=(cur.toList.take (xs.length*k)).drop ((lo+ys.length)*k):=by have h:=Iw enc (xs.take (lo+ys.length)) (xs.drop (lo+ys.length));rw [fJ,<-f]at h;rw [h];exact(List.drop_left' (by rw [Xk m,aQ,dJ d])).symm
  rw [spl,Iw,Iw,I,R,b,bG];apply jH;intro q;have j:(cur.toList.take (lo*k)).length=lo*k:=by rw [aQ,c];omega
  by_cases B:q<xs.length*k
  .rw [cT,aG B];by_cases S:q<lo*k+ys.length*k
   .have D:∀C,((cur.toList.take (lo*k) ++ cellsOf enc ys) ++ C)[q]? = (cur.toList.take (lo*k) ++ cellsOf enc ys)[q]?:=λC=>cS (by rw [aS,j,b];exact S);rw [D,D]
   .have F:∀C,((cur.toList.take (lo*k) ++ cellsOf enc ys) ++ C)[q]? = C[q-(lo*k+ys.length*k)]?:=λC=>by rw [dC (by rw [aS,j,b];omega),aS,j,b]
    rw [F,F];rw [fZ,fZ,cT,aG O]
  .rw [cT,aD B,bF];simp only [aS,aQ,eD,c,b];omega
def Dst(v u:Value)(a k lo n:Nat):Prop:=∀g c,v= .slice (some ⟨g,0,none⟩) a c->a<=c->∃b,u= .slice (some ⟨g,lo*k,none⟩) n b
theorem Yl2{a:Nat}:Dst v v a k 0 a:=λg c h _=>⟨c,by rw [h,gP]⟩
theorem Ycr{a:Nat}{n:Nat}(h:lo<a):Dst v (Kz (Zfc v lo k) n) a k lo n:=λg c b d=>by refine⟨c-lo,?_⟩;rw [b];simp only [Zfc,Kz];rw [aD O];simp [Ok]
theorem Yeu{α:Type}{enc:α->Value}{ys:List α}(b:Enc P t k enc)(h:RowAt w k enc u ys):(Builtin.firstCells k ys.length u).run P w= .ok (cellsOf enc ys).toArray w/\(Builtin.lenOf u).run P w= .ok ys.length w:=by
 obtain⟨R,c,rfl,S,D,l⟩:=h;refine⟨?_,by simp [Builtin.lenOf]⟩;rcases l with rfl|⟨g,f,rfl,l⟩
 .cases R with
  | none=>simp [Builtin.firstCells,cellsOf]
  | some q=>simp [Builtin.firstCells,cellsOf,loadCells,loadCellsFrom]
 .have B:∀q u,(cellsOf enc ys)[q]? = some u->w.cell? ((⟨g,f,none⟩:Addr).add q)=some u:=λq u G=>by
   have s:q<ys.length*k:=by rw [<-Xk b.cells ys];exact(dZ.1 G).1
   have d:=b.pos;have n:q/k<ys.length:=iD (by rw [aO];exact s);have a:ys[q/k]? = some ys[q/k]:=aM n;have z:q%k<(enc ys[q/k]).cells.toList.length:=by rw [dI,b.cells];exact bR _ d
   have I:=aM z;have m:=Gg b.cells ys _ _ a _ _ I;have F:=l _ _ a _ _ I;have e:q/k*k+q%k=q:=by rw [aO];exact cD q k
   rw [e]at m;rw [gC,e]at F;rw [G]at m;cases m;rw [Ok];exact F
  have V:=Xk b.cells ys;have:=run_loadCells (P:=P) (w:=w) ⟨g,f,none⟩ (ys.length*k) (λj=>(cellsOf enc ys).getD j undef) (λj W=>B j _ (by rw [aM O];simp [List.getD,aM (show j<(cellsOf enc ys).length by omega)]));rw [show(List.range (ys.length*k)).map (λj=>(cellsOf enc ys).getD j undef)=cellsOf enc ys by
   apply iN
   .simp [V]
   .intro i S D;simp [List.getD,aM D]]at this
  exact this
theorem Zz0 {α:Type} {a:Act}   {e:TypeId}  {enc:α->Value} {xs ys:List α}   (hs:Sat N sc env H a w) (R:lk H i=some (Oa k e enc v xs)) (D:i≠0) (B:Enc P t k enc)
  (G:lo+ys.length<=xs.length) (hp:0<xs.length) (W:lk H 0=some (Yt w0 M0)) (Z:∀b,w0.heap.size<=b->sc b)  {n:Nat} (s:Dst v u xs.length k lo n) :
  ∃g c w',u= .slice (some ⟨g,lo*k,none⟩) n c/\(storeCells ⟨g,lo*k,none⟩ (cellsOf enc ys)).run P w= .ok () w'/\Sat N sc env ((i,Oa k e enc v (spl xs lo ys))::H) a w'/\Chg (λ_=>True) w w':=by
 have l:w.ownsRow 0 e k v xs.length (cellsOf enc xs):=hs.hold i _ R;rcases l.2 with⟨rfl,hn⟩|⟨g,d,cur,rfl,hb,S,j,z,h,f⟩
 .omega
 .obtain⟨V,s⟩:=s g d rfl j;have I:=Xk B.cells ys;have F:(lo+ys.length)*k<=d*k:=aJ _ O;rw [bG]at F;have m:=run_storeCells_at P g (lo*k) e (cellsOf enc ys) 0 cur w S (by rw [I,h];omega) (λu s=>by obtain⟨y,_,hy⟩:=kO.1 s;exact B.one y u hy)
  simp only [eH]at m;exact⟨g,V,_,s,m,hs.upd R rfl D (q:=Oa k e enc (.slice (some ⟨g,0,none⟩) xs.length d) (spl xs lo ys)) (Kx (M:=λk=>(Value.slice (some ⟨g,0,none⟩) xs.length d).ownBlock=some k) rfl) (Yp9 B.cells lo G S j z h f) (λk Y=> .inl Y) W Z,Kx aA⟩
theorem t_cpy (i:Nat)(j:Nat) {α:Type}   {t' e:TypeId} {n d:Nat} {z:Value} {enc:α->Value} {xs ys:List α}    (lo:Nat)
  (ho:o.op= .call { callee:= .builtin .copy,args:=#[x,y],argTypes:=#[t,t'] }) (W:o.dst=some d) (S:Nat.blt d N=true)
  (hx:ev env x=some u) (hy:ev env y=some z) (I:lk H i=some (Oa k e enc v xs)) (h:i≠0) (Y:lk H j=some p) (hr:Rd p k enc z ys)
  (hu:Dst v u xs.length k lo n) (Z:ys.length<=n) (l:lo+ys.length<=xs.length) (hp:0<xs.length) (ht:P.underlying t=some (.slice te)) (f:Enc P te k enc)
  (B:lk H 0=some (Yt w0 M0)) (hw:∀b,w0.heap.size<=b->sc b) :
  T P N sc (λ_=>True) o env H (G:=Unit) (λ_=>True) (λ_=>(d,.int .i64 (ys.length:Int))::env) (λ_=>(i,Oa k e enc v (spl xs lo ys))::H):=λa w hs K Q R=>by
 obtain⟨g,c,w',rfl,s,q,V⟩:=Zz0 (ys:=ys) hs I h f l hp B hw hu;obtain⟨D,F⟩:=Yeu f (hr w (hs.hold j p Y));have m:(execOp a.eval o).run P w= .ok (.value (.int .i64 (ys.length:Int))) w':=by simp [execOp,ho,resolve,invoke,builtin,hs.ev hx,hs.ev hy,Builtin.copy_,run_underlying ht,F,dJ Z,f.size,D,s,goInt]
 unfold Oper.wp;rw [m];show K (a.put o.dst _) _;rw [W];exact R () _ _ aA (q.put d _ S) V
theorem t_clr {α:Type}   {e:TypeId} {n:Nat} {zv:Value} {enc:α->Value} {xs:List α} {z:α}   (lo:Nat)
  (ho:o.op= .call { callee:= .builtin .clear,args:=#[x],argTypes:=#[t] }) (hd:o.dst=none)
  (hx:ev env x=some u) (Y:lk H i=some (Oa k e enc v xs)) (s:i≠0)
  (hu:Dst v u xs.length k lo n) (hn:0<n) (B:lo+n<=xs.length) (ht:P.underlying t=some (.slice te)) (j:Enc P te k enc)
  (hz:∀w,(zeroValue te).run P w= .ok (enc z) w) (S:k=1)
  (V:lk H 0=some (Yt w0 M0)) (hw:∀b,w0.heap.size<=b->sc b) :
  T P N sc (λ_=>True) o env H (G:=Unit) (λ_=>True) (λ_=>env) (λ_=>(i,Oa k e enc v (spl xs lo (List.replicate n z)))::H):=λa w hs K Q Z=>by
 obtain⟨g,c,w',rfl,I,F,hc⟩:=Zz0 (ys:=List.replicate n z) hs Y s j (by simpa using B) O V hw hu;obtain⟨m,rfl⟩:∃m,n=m+1:=⟨n-1,O⟩;have d:(enc z).cells.toList=[(enc z).cells[0]'(by rw [j.cells];omega)]:=by
  have h:(enc z).cells.size=1:=by rw [j.cells,S]
  apply iN
  .simp [h]
  .intro i W l;simp at l;subst l;simp
 have R:(Builtin.zeroCells (enc z).cells (m+1)).toList=cellsOf enc (List.replicate (m+1) z):=by
  have h:(enc z).cells.size=1:=by rw [j.cells,S]
  have f:∀q,cellsOf enc (List.replicate q z)=List.replicate q ((enc z).cells[0]' O):=by
   intro q
   induction q with
   | zero=>rfl
   | succ q ih=>rw [jX,jX,<-ih];simp [cellsOf,d]
  rw [f];apply iN
  .simp [Builtin.zeroCells,h]
  .intro i W l;simp [Builtin.zeroCells,h,nI]
 have D:(execOp a.eval o).run P w= .ok (.value (.tuple #[])) w':=by simp [execOp,ho,resolve,invoke,builtin,hs.ev hx,Builtin.clear_,run_underlying ht,hz,R,I]
 unfold Oper.wp;rw [D];show K (a.put o.dst _) _;rw [hd];exact Z () _ _ aA (F.put_none _) hc
end Go.Sky
namespace Go.Sky
variable{listed:Array Bool}{m i:Nat}{ts:List Nat}{ops:Array Oper}{o:Oper}{F:Pw->Hp->Prop}{rest:List (Nat×Nat)}
variable {P:Program} {N:Nat} {sc:Nat->Prop} {env env':Pw} {H H':Hp} {Q Q':Exit->Act->World->Prop} {M:Nat->Prop}
theorem Zj (n:Nat) {l : List Oper}    (a : List (Nat × Nat))
     (h:LD P N sc M l.toArray (A P N sc M l.toArray ts Q n (Ev a listed)) a env H) (b:(Region.noSelect l.toArray && Fs l.toArray ts a listed && Nat.beq (a.length+n) m)=true:=by kernel_rfl):A P N sc M l.toArray ts Q m listed env H:=
  a_lin a b h (λ_ _ h=>h)
def aact   {n:Nat}   {G:Type} {φ:G->Prop} {a:G->Pw} {b:G->Hp} (e:T P N sc M o env H φ a b) (d:ops[i]? = some o) (c:o.guard=none)
    (h:∀g,φ g->A P N sc M ops ts Q n (listed.setIfInBounds i true) (a g) (b g)):Zfv P N sc M ops ts Q n listed env H i:=⟨o,G,φ,a,b,d,c,e,h⟩
theorem Qw (n:Nat)     (i j:Nat) 
    (c:Zfv P N sc M ops ts Q n listed env H i) (d:Zfv P N sc M ops ts Q n listed env H j) (a:((Region.ready .any ops listed == [i,j]) && !(Fl ops ts listed) && !([i,j]:List Nat).isEmpty && Nat.beq (n+1) m)=true:=by kernel_rfl):A P N sc M ops ts Q m listed env H:=by
  rw [aR]at a;have e:=dM a.2;subst e;exact Ynw [i,j] a.1 (λq b=>by
    simp only [bE,dX,iF]at b;rcases b with rfl|rfl
    . exact c
    . exact d)
theorem Kr{G:Type}{φ:G->Prop}{a:G->Pw}{b:G->Hp}(d:ops[i]? = some o)(e:T P N sc M o env H φ a b)(h:∀g,φ g->LD P N sc M ops F rest (a g) (b g))(c:o.guard=none:=by rfl):LD P N sc M ops F ((i,1)::rest) env H:=r1 e d c h
theorem r3'{G:Type}{φ:G->Prop}{a:G->Pw}{b:G->Hp}(d:ops[i]? = some o)(e:T P N sc (λ_=>True) o env H φ a b)(h:∀g,φ g->LD P N sc M ops F rest (a g) (b g))(c:o.guard=none:=by rfl):LD P N sc M ops F ((i,3)::rest) env H:=r3 e d c h
def Kl   {n:Nat}   {G:Type} {φ:G->Prop} {a:G->Pw} {b:G->Hp} (d:ops[i]? = some o) (c:o.guard=none) (e:T P N sc M o env H φ a b)
    (h:∀g,φ g->A P N sc M ops ts Q n (listed.setIfInBounds i true) (a g) (b g)):Zfv P N sc M ops ts Q n listed env H i:=aact e d c h
end Go.Sky
namespace Go.Sky
variable{o:Oper}{t t':TypeId}{x y:Operand}{a b:Bool}{ops:Array Oper}{F:Pw->Hp->Prop}{rest:List (Nat×Nat)}
variable {P:Program} {N:Nat} {sc:Nat->Prop} {env env':Pw} {H H':Hp} {Q Q':Exit->Act->World->Prop} {M:Nat->Prop}
theorem d_eqb(c:o.op= .binOp .eql t x y t')(e:ev env x=some (.bool a))(f:ev env y=some (.bool b))(d:P.underlying t=some .bool):Lj P N sc o env H (.bool (a == b)):=λg w hs=>by simp [execOp,c,hs.ev e,hs.ev f,eqGuard,run_eql_bool w t a b d]
theorem d_neb(c:o.op= .binOp .neq t x y t')(e:ev env x=some (.bool a))(f:ev env y=some (.bool b))(d:P.underlying t=some .bool):Lj P N sc o env H (.bool (a != b)):=λg w hs=>by simp [execOp,c,hs.ev e,hs.ev f,eqGuard,run_neq_bool w t a b d,bne]
theorem Xj   {i:Nat}   {d:Nat} {v:Value} (g:ops[i]? = some o) (e:o.dst=some d) (hs:Stb P N sc M o env H v)
  (h:LD P N sc M ops F rest ((d,v)::env) H) (f:o.guard=none:=by rfl) (c:Nat.blt d N=true:=by rfl):LD P N sc M ops F ((i,0)::rest) env H:=r0 hs g f e c h
end Go.Sky
namespace Go.Sky
open Go.RowKit Below
variable{b:Nat}{t:TypeId}{cs:Array Value}{o:Oper}{x:Operand}{v:Value}{f:FuncId}{xs:List Operand}{ats:Array TypeId}{vs:List Value}{pre:List Pc}{w0:World}{M0:Nat->Prop}{fn:Func}
variable {P:Program} {N:Nat} {sc:Nat->Prop} {env env':Pw} {H H':Hp} {Q Q':Exit->Act->World->Prop} {M:Nat->Prop}
def Ky(b:Nat)(t:TypeId)(cs:Array Value):Pc:=
  { own:=false,fp:=λk=>k=b,holds:=λw=>w.heap[b]? = some (.cells cs t (0,0))
    lt:=λw k h c=>by subst c;exact(aY.1 h).1
    stable:=λw e h a=>by rw [<-h];exact a.block b (aY.1 h).1 (λd=>d rfl) }
theorem Zff(i:Nat)(hi:lk H i=some (box b t cs))(p:Nat.beq i 0=false):∀a w,Sat N sc env H a w->Sat N sc env ((i,Ky b t cs)::H) a w:=λa w hs=>by
    have y:i≠0:=λe=>by subst e;simp at p
    refine⟨hs.size,hs.defers,hs.env,λj h c=>?_,λj u h s n c d r b k l=>?_,λj h q c b k=>?_⟩
    . by_cases g:i=j
      . subst g;rw [Yg]at c;cases c;have z:=hs.hold i (box _ t cs) hi;exact z
      . rw [Zx g]at c;exact hs.hold j h c
    . by_cases g:i=j
      . subst g;rw [Yg]at c;cases c;cases r
      . rw [Zx g]at c;by_cases m:i=u
        . subst m;rw [Yg]at d;cases d;exact hs.sep j i h (box _ t cs) n c hi r b k l
        . rw [Zx m]at d;exact hs.sep j u h s n c d r b k l
    . by_cases g:i=j
      . subst g;rw [Yg]at c;cases c;exact hs.scope i (box _ t cs) y hi b k
      . rw [Zx g]at c;exact hs.scope j h q c b k
theorem d_lr   {c:TypeId} {i j:Nat}   (g:o.op= .load t x)
    (m:ev env x=some (.pointer (some ⟨b,j,none⟩))) (e:lk H i=some (Ky b c cs)) (k:∀w,(isAgg t).run P w= .ok false w) (l:cs[j]? = some v):Lj P N sc o env H v:=λa w hs=>by
  have d:w.heap[b]? = some (.cells cs c (0,0)):=hs.hold i _ e;have h:w.cell? ⟨b,j,none⟩=cs[j]?:=by simp [World.cell?,d]
  rw [l]at h;simp [execOp,g,hs.ev m,Instr.loadAt,Instr.sureAddr,loadVar,k,load,Sem.run,h]
def Zdy(P:Program)(f:FuncId)(args:Array Value)(pre:List Pc)(al:Bool)(b:Nat)(t:TypeId)(cs:Array Value){G:Type}(φ:G->Prop)(Yn:G->Value)(cs':G->Array Value)(a:G->List Pc):Prop:=
  ∀w,(∀p∈pre,p.holds w/\¬p.fp b)->(box b t cs).holds w->Calls P f args w λe c=>∃g,e= .returned (Yn g)/\φ g/\Chg (λk=>k=b) w c/\(box b t (cs' g)).holds c/\
    ∀p∈a g,p.holds c/\p.own=false/\∀k,p.fp k->w.heap.size<=k\/(al=true/\∃q∈pre,q.fp k)
theorem Qz (n:Nat)(i:Nat)     {d:Nat}     {al:Bool} {G:Type} {φ:G->Prop} {Yn:G->Value} {cs':G->Array Value} {Y:G->List Pc}  
    (hc:Zdy P f vs.toArray pre al b t cs φ Yn cs' Y)
    (ho:o.op= .call { callee:= .value (.func f),args:=xs.toArray,argTypes:=ats }) (hd:o.dst=some d) (hN:Nat.blt d N=true)
    (F:EvL env xs vs) (R:∀args w,(callFunc f args).run P w= .ok (.enter f args) w) (hH:lk H i=some (box b t cs)) (a5:i≠0) (y:PreOk (drp i H) al pre)
    (h0:lk H 0=some (Yt w0 M0)) (hw:∀b,w0.heap.size<=b->sc b) (hM:M b) :
    T P N sc M o env H φ (λg=>(d,Yn g)::env) (λg=>adds n (Y g) ((i,box b t (cs' g))::H)):=λa w hs K Q hK=>by
  have hr:(execOp a.eval o).run P w= .ok (.enter f vs.toArray) w:=by rw [Hb hs ho F,R]
  unfold Oper.wp;rw [hr];have D:(box b t cs).holds w:=hs.hold i _ hH;refine(hc w (λp hp=>by obtain⟨j,W,_,l,Z,m,_⟩:=y.mem p hp;obtain⟨V,l⟩:=Ca _ _ _ _ l;exact⟨Z w (hs.hold j W l),λhb=>hs.sep i j _ W (iL V) hH l rfl b rfl (m b hb)⟩) D).mono ?_
  rintro e w' ⟨g,rfl,hg,c,I,a0⟩;show K (a.put o.dst (Yn g)) w';rw [hd];have a7:Sat N sc env ((i,box b t (cs' g))::H) a w':=hs.upd hH rfl a5 c I (λk S=> .inl S) h0 hw;have a3:Chg M w w':=⟨c.os,c.tape,c.output,c.size,λk S hn=>c.block k S (λe=>hn (by subst e;exact hM))⟩;refine hK g _ _ hg (Sat.put (a7.adds (w1:=w) (Y g) n ?_) d _ hN) a3;intro p hp;obtain⟨h1,h2,h3⟩:=a0 p hp;refine⟨h1,h2,λk S=>?_,λj jt l u k S z=>?_⟩
  . rcases h3 k S with h|⟨_,q,hq,B⟩
    . exact hw k (aB (hs.hold 0 _ h0).size h)
    . obtain⟨j,W,a1,l,_,m,_⟩:=y.mem q hq;exact hs.scope j W a1 (Ca _ _ _ _ l).2 k (m k B)
  . have a8:k<w.heap.size:=by
      by_cases r:i=j
      . subst r;rw [Yg]at l;cases l;have:k=b:=z;subst this;exact(aY.1 D).1
      . rw [Zx r]at l;exact jt.lt w k (hs.hold j jt l) z
    rcases h3 k S with h|⟨a4,q,hq,B⟩
    . omega
    . obtain⟨j',W,a1,s,_,m,a6⟩:=y.mem q hq;obtain⟨V,s⟩:=Ca _ _ _ _ s;by_cases r:i=j
      . subst r;rw [Yg]at l;cases l;exact hs.sep i j' _ W (iL V) hH s rfl k z (m k B)
      . rw [Zx r]at l;by_cases a2:j=j'
        . subst a2;rw [s]at l;cases l;rw [a6 a4]at u;cases u
        . exact hs.sep j j' jt W a2 l s u k z (m k B)
def Yn4(P:Program)(fn:Func)(w0:World)(pre:List Pc)(al:Bool)(b:Nat)(t:TypeId){G:Type}(φ:G->Prop)(Yn:G->Value)(cs':G->Array Value)(a:G->List Pc):Exit->Act->World->Prop:=
  bodyPost P fn λe c => ∃ g, e = .returned (Yn g) /\ φ g /\ Chg (λk => k = b) w0 c /\ (box b t (cs' g)).holds c /\
        ∀p∈a g,p.holds c/\p.own=false/\∀k,p.fp k->w0.heap.size<=k\/(al=true/\∃q∈pre,q.fp k)
theorem Dk   {c:Code}   {al:Bool}    {G:Type} {φ:G->Prop} {Yn:G->Value} {cs':G->Array Value} {u:G->List Pc} {N:Nat}
    (Z:P.funcs[f]? = some fn) (Y:fn.body=some c) (W:fn.ntmps=N) (r:Nat.ble vs.length N=true) (R:AllRo pre)
    (h:∀w0 (sc:Nat->Prop),(∀k,w0.heap.size<=k->sc k)->(∀k,sc k->w0.heap.size<=k\/k=b\/∃q∈pre,q.fp k)->
      E P N sc c (Yn4 P fn w0 pre al b t φ Yn cs' u) (Pa 0 vs) ((0,Yt w0 (λk=>k=b))::(1,box b t cs)::Xb 2 pre)) :
    Zdy P f vs.toArray pre al b t cs φ Yn cs' u:=λw S y=>by
  refine calls_of_wp Z Y (h w (λk=>w.heap.size<=k\/k=b\/∃q∈pre,q.fp k) (λk l=> .inl l) (λk l=>l) _ w ?_);have r:vs.length<=N:=by simpa using r
  have a:∀i p,lk ((0,Yt w (λk=>k=b))::(1,box b t cs)::Xb 2 pre) i=some p->(i=0/\p=Yt w (λk=>k=b))\/(i=1/\p=box b t cs)\/(i≠0/\i≠1/\p∈pre/\p.own=false):=λi p hi=>by
      by_cases m:0=i
      . subst m;rw [Yg]at hi;cases hi;exact .inl ⟨rfl,rfl⟩
      . rw [Zx m]at hi;by_cases g:1=i
        . subst g;rw [Yg]at hi;cases hi;exact .inr (.inl ⟨rfl,rfl⟩)
        . rw [Zx g]at hi;obtain⟨_,d⟩:=Nt pre 2 i p hi;exact .inr (.inr ⟨λe=>m e.symm,λe=>g e.symm,d,R.mem p d⟩)
  refine⟨by simp [W];omega,rfl,λt v ht=>?_,λi p hi=>?_,λi j p q F hi hj I k l n=>?_,λi p z hi k l=>?_⟩
  . have g:vs.toArray[t]? = some v:=by simpa using(Ge vs 0 t v ht).2
    have D:=(aY.1 g).1;rw [bN,eT D,g];rfl
  . rcases a i p hi with⟨_,rfl⟩|⟨_,rfl⟩|⟨_,_,d,_⟩
    . exact Chg.refl _ w
    . exact y
    . exact(S p d).1
  . rcases a i p hi with⟨_,rfl⟩|⟨g,rfl⟩|⟨_,_,d,s⟩
    . cases I
    . have B:k=b:=l;subst B;rcases a j q hj with⟨_,rfl⟩|⟨V,rfl⟩|⟨_,_,d,_⟩
      . exact n.2 rfl
      . exact F (g.trans V.symm)
      . exact(S q d).2 n
    . rw [s]at I;cases I
  . rcases a i p hi with⟨m,_⟩|⟨_,rfl⟩|⟨_,_,d,_⟩
    . exact absurd m z
    . exact .inr (.inl l)
    . exact .inr (.inr ⟨p,d,l⟩)
theorem Dr   {al:Bool}    {G:Type} {φ:G->Prop} {Yn:G->Value} {cs':G->Array Value} {l:G->List Pc}  {e:Exit} (he:e= .ret\/e= .normal) (W:∀k,sc k->w0.heap.size<=k\/k=b\/∃q∈pre,q.fp k)
    (g:G)  (y:∀a w,Sat N sc env H a w->(results fn a.tmps).run P w= .ok v w) (hv:Yn g=v) (hg:φ g) (i:Nat) (hi:lk H i=some (box b t cs)) (F:cs' g=cs) (a0:Nat.beq i 0=false) (Y:lk H 0=some (Yt w0 (λk=>k=b))) (c:Give (drp i H) al (l g)) :
    X N sc e (Yn4 P fn w0 pre al b t φ Yn cs' l) env H:=λa w hs=>by
  have z : a.defers = [] /\ ∃ v, (results fn a.tmps).run P w = .ok v w /\ (∃ g, Ending.returned v = .returned (Yn g) /\ φ g /\ Chg (λk => k = b) w0 w /\ (box b t (cs' g)).holds w /\
        ∀p∈l g,p.holds w/\p.own=false/\∀k,p.fp k->w0.heap.size<=k\/(al=true/\∃q∈pre,q.fp k)):=by
    refine⟨hs.defers,v,y a w hs,g,by rw [hv],hg,hs.hold 0 _ Y,by rw [F];exact hs.hold i _ hi,λp hp=>?_⟩;obtain⟨Z,h|⟨h1,h2⟩⟩:=c.mem p hp
    case inr=>exact⟨h1 w,Z,λb hb=>absurd hb (h2 b)⟩
    obtain⟨j,B,r,m,n,I,D⟩:=h;obtain⟨V,m⟩:=Ca _ _ _ _ m;refine⟨n w (hs.hold j B m),Z,λk hk=>?_⟩;have d:=I k hk;have s:k≠b:=λe=>by subst e;exact hs.sep i j _ B (iL V) hi m rfl k rfl d
    cases al with
    | true=>
      rcases W k (hs.scope j B r m k d)with h|h|h
      . exact .inl h
      . exact absurd h s
      . exact .inr ⟨rfl,h⟩
    | false=>
      have u:=D rfl;have hn:=hs.sep j 0 B _ r m Y u k d;refine .inl ?_;rcases aZ k w0.heap.size with S|R
      . exact absurd ⟨S,s⟩ hn
      . exact R
  rcases he with rfl|rfl
  . exact z
  . exact z
end Go.Sky
namespace Go.Sky
open Go.RowKit Below
variable{o:Oper}{f:FuncId}{xs:List Operand}{c x y:Operand}{ats:Array TypeId}{t t':TypeId}{cs:Array Value}{pre:List Pc}{M0:Nat->Prop}{ops:Array Oper}{ts:List Nat}{listed:Array Bool}{v:Value}{k:Nat}{p:Pc}{rest:List Oper}
variable {P:Program} {N:Nat} {sc:Nat->Prop} {env env':Pw} {H H':Hp} {Q Q':Exit->Act->World->Prop} {M:Nat->Prop}
theorem d_mkf (vs:List Value)(d:o.op= .makeFunc (.func f) xs.toArray #[])(e:EvL env xs vs):Lj P N sc o env H (.func (.func f) vs.toArray #[]):=λa w hs=>by have b:=e.map hs;simp [execOp,d,Instr.makeFunc,b]
theorem Zn9 {a:Act} {w:World} (hs:Sat N sc env H a w)      {d vs:List Value} (h:o.op= .call { callee:= .value c,args:=xs.toArray,argTypes:=ats })
  (e:ev env c=some (.func (.func f) d.toArray #[])) (b:EvL env xs vs):(execOp a.eval o).run P w=(callFunc f (d ++ vs).toArray).run P w:=by
 have g:=b.map hs;simp [execOp,h,resolve,invoke,hs.ev e,Deferred.ofValue,g]
theorem Ztx (n:Nat)(i:Nat)(j:List Value)(vs:List Value)      {d b:Nat}     {al:Bool} {G:Type} {φ:G->Prop} {Yn:G->Value} {cs':G->Array Value} {s:G->List Pc} {w0:World} 
  (W:Zdy P f (j ++ vs).toArray pre al b t cs φ Yn cs' s)
  (Z:o.op= .call { callee:= .value c,args:=xs.toArray,argTypes:=ats }) (z:ev env c=some (.func (.func f) j.toArray #[])) (Y:o.dst=some d) (V:Nat.blt d N=true)
  (h:EvL env xs vs) (e:∀args w,(callFunc f args).run P w= .ok (.enter f args) w) (I:lk H i=some (box b t cs)) (B:i≠0) (q:PreOk (drp i H) al pre)
  (F:lk H 0=some (Yt w0 M0)) (hw:∀b,w0.heap.size<=b->sc b) (S:M b) :
  T P N sc M o env H φ (λg=>(d,Yn g)::env) (λg=>adds n (s g) ((i,box b t (cs' g))::H)):=λa w hs K Q R=>by
 have hr:(execOp a.eval o).run P w= .ok (.enter f (j ++ vs).toArray) w:=by rw [Zn9 hs Z z h,e]
 let o2:Oper:={ o with op:= .call { callee:= .value (.func f),args:=((j ++ vs).map Operand.const).toArray,argTypes:=ats } };have m:∀l:List Value,EvL env (l.map Operand.const) l:=λl=>by
  induction l with
  | nil=>trivial
  | cons v r ih=>exact⟨rfl,ih⟩
 have D:(execOp a.eval o2).run P w= .ok (.enter f (j ++ vs).toArray) w:=by rw [Hb hs (o:=o2) rfl (m _),e]
 have u:o2.wp P a w K Q:=Qz n i (M:=M) W (o:=o2) rfl Y V (m _) e I B q F hw S a w hs K Q R;unfold Oper.wp at u ⊢;rw [D]at u;rw [hr];exact u
theorem Zdw (n:Nat)    {m:Nat} (i j k:Nat) 
  (d:Zfv P N sc M ops ts Q n listed env H i) (e:Zfv P N sc M ops ts Q n listed env H j) (g:Zfv P N sc M ops ts Q n listed env H k) (a:((Region.ready .any ops listed == [i,j,k]) && !(Fl ops ts listed) && !([i,j,k]:List Nat).isEmpty && Nat.beq (n+1) m)=true:=by kernel_rfl):A P N sc M ops ts Q m listed env H:=by
 rw [aR]at a;have h:=dM a.2;subst h;exact Ynw [i,j,k] a.1 (λq b=>by
  simp only [bE,dX,iF]at b;rcases b with rfl|rfl|rfl
  .exact d
  .exact e
  .exact g)
theorem d_fld    {f:Nat} {d:Array Field} {b:Field}   (h:o.op= .field t x f)
  (l:ev env x=some (.agg cs)) (i:P.underlying t=some (.struct d)) (g:d[f]? = some b) (e:∀w,(isAgg b.type).run P w= .ok false w) (j:cs[b.offset]? = some v):Lj P N sc o env H v:=λa w hs=>by
 simp [execOp,h,hs.ev l,Instr.field,run_underlying i,g,asAgg,part,e,j]
theorem Zy7{s b:ByteArray}(g:o.op= .binOp .eql t x y t')(h:ev env x=some (.string s))(i:ev env y=some (.string b))(d:b.data.toList=[]) :
  Lj P N sc o env H (.bool (decide (s.size=0))):=λa w hs=>by
 have e:(s.toList == b.toList)=decide (s.size=0):=by rw [ByteArray.toList_eq,ByteArray.toList_eq,d];have:s.size=s.data.toList.length:=rfl;rw [this];cases s.data.toList<;>simp
 simp [execOp,g,hs.ev h,hs.ev i,eqGuard,binOp_string_eql,e]
theorem Zpt  {b:BinOp}   {xs ys:Array Value} {r:Value} (g:o.op= .binOp b t x y t') (i:ev env x=some (.agg xs)) (j:ev env y=some (.agg ys))
  (e:P.eqGuardType P.depth t=false) (h:∀w,(binOp b t (.agg xs) (.agg ys)).run P w= .ok r w):Lj P N sc o env H r:=λa w hs=>by
 have d:=run_eqGuard_agg (P:=P) w b t x y xs ys e;simp only [execOp,g,hs.ev i,hs.ev j,Sem.run_bind,d,h w,Result.andThen_ok,Sem.run_pure]
abbrev SL:=Option Addr×Nat×Nat
abbrev Xm (s:SL):Value:= .slice s.1 s.2.1 s.2.2
theorem Xe{α:Type}{enc:α->Value}{xs:List α}(i:Nat)(hi:lk H i=some p)(d:Rd p k enc v xs):∀a w,Sat N sc env H a w->∃s:SL,v=Xm s:=λa w hs=>by obtain⟨b,c,rfl,_⟩:=d w (hs.hold i p hi);exact⟨(b,xs.length,c),rfl⟩
theorem Dn{c:Code}{α:Type}{p:α->Prop}(b:∀a w,Sat N sc env H a w->∃x,p x)(h:∀x,p x->E P N sc c Q env H):E P N sc c Q env H:=λa w hs=>by obtain⟨x,d⟩:=b a w hs;exact h x d a w hs
theorem Ztj{e:Exit}{α:Type}{p:α->Prop}(b:∀a w,Sat N sc env H a w->∃x,p x)(h:∀x,p x->X N sc e Q env H):X N sc e Q env H:=λa w hs=>by obtain⟨x,d⟩:=b a w hs;exact h x d a w hs
theorem Zju{α:Type}{p:α->Prop}(b:∀a w,Sat N sc env H a w->∃x,p x)(h:∀x,p x->L P N sc ops rest Q env H):L P N sc ops rest Q env H:=λa w hs=>by obtain⟨x,d⟩:=b a w hs;exact h x d a w hs
def Nj{β:Type}(q:β->Pc)(zs:List β):Pc:=
 {own:=false,fp:=λb=>∃z∈zs,(q z).fp b,holds:=λw=>∀z∈zs,(q z).holds w
  lt:=λw b h e=>by obtain⟨z,d,e⟩:=e;exact(q z).lt w b (h z d) e
  stable:=λw m h a z d=>(q z).stable w m (h z d) ⟨a.os,a.tape,a.output,a.size,λk i j=>a.block k i (λg=>j (λl=>g ⟨z,d,l⟩))⟩ }
def Xs{β:Type}(k:Nat)(enc:β->Value)(q:β->Pc)(v:Value)(zs:List β):Pc:=
 {own:=false,fp:=λb=>(zs≠[]/\v.ownBlock=some b)\/∃z∈zs,(q z).fp b,holds:=λw=>(Yx k enc v zs).holds w/\(Nj q zs).holds w
  lt:=λw b h d=>by
   rcases d with d|d
   .exact(Yx k enc v zs).lt w b h.1 d
   .exact(Nj q zs).lt w b h.2 d
  stable:=λw l h a=>⟨(Yx k enc v zs).stable w l h.1 ⟨a.os,a.tape,a.output,a.size,λk g i=>a.block k g (λe=>i (λj=>e (.inl j)))⟩,
   (Nj q zs).stable w l h.2 ⟨a.os,a.tape,a.output,a.size,λk g i=>a.block k g (λe=>i (λj=>e (.inr j)))⟩⟩ }
def Zc{β:Type}{enc:β->Value}{q:β->Pc}{zs:List β} : Rd (Xs k enc q v zs) k enc v zs:=λw h=>h.1.1
theorem Zc1{q:Pc}(i j:Nat)(hi:lk H i=some p)(l:Nat.beq i 0=false)(u:p.own=false)(s:∀w,p.holds w->q.holds w)(n:∀b,q.fp b->p.fp b)(z:q.own=false):∀a w,Sat N sc env H a w->Sat N sc env ((j,q)::H) a w:=λa w hs=>
 hs.add j q (s w (hs.hold i p hi)) (λr B _ m Lz b g h=>by
  rcases Lz with Lz|Lz
  .rw [z]at Lz;cases Lz
  .by_cases d:r=i
   .subst d;rw [hi]at m;cases m;rw [u]at Lz;cases Lz
   .exact hs.sep r i B p d m hi Lz b h (n b g)) (λb g=>hs.scope i p (λe=>by subst e;simp at l) hi b (n b g))
def Zay{β:Type}{q:β->Pc}{zs:List β}(i j:Nat)(z:β)(hi:lk H i=some (Nj q zs))(d:Nat.beq i 0=false)(e:z∈zs)(l:(q z).own=false):∀a w,Sat N sc env H a w->Sat N sc env ((j,q z)::H) a w:=
 Zc1 i j hi d rfl (λw h=>h z e) (λb g=>⟨z,e,g⟩) l
def Ni{β:Type}{enc:β->Value}{q:β->Pc}{zs:List β}(i j:Nat)(z:β)(hi:lk H i=some (Xs k enc q v zs))(d:Nat.beq i 0=false)(e:z∈zs)(l:(q z).own=false):∀a w,Sat N sc env H a w->Sat N sc env ((j,q z)::H) a w:=
 Zc1 i j hi d rfl (λw h=>h.2 z e) (λb g=> .inr ⟨z,e,g⟩) l
def Zb4{β:Type}{enc:β->Value}{q:β->Pc}{zs:List β}(i j:Nat)(hi:lk H i=some (Xs k enc q v zs))(d:Nat.beq i 0=false):∀a w,Sat N sc env H a w->Sat N sc env ((j,Nj q zs)::H) a w:=
 Zc1 i j hi d rfl (λw h=>h.2) (λb e=> .inr e) rfl
theorem Zd{β:Type}{zs:List β}{i:Nat}{d:β}(h:i<zs.length:=by omega):zs.getD i d∈zs:=by rw [aE,aM h];exact fY h
theorem Zxw{q r:Pc}(i j n:Nat)(hi:lk H i=some p)(m:lk H j=some q)(z:Nat.beq i 0=false)(B:Nat.beq j 0=false)(R:p.own=false)(D:q.own=false)(I:∀w,p.holds w->q.holds w->r.holds w)(F:∀b,r.fp b->p.fp b\/q.fp b)(S:r.own=false) :
  ∀a w,Sat N sc env H a w->Sat N sc env ((n,r)::H) a w:=λa w hs=>
 hs.add n r (I w (hs.hold i p hi) (hs.hold j q m)) (λs G _ d Lz b u l=>by
  rcases Lz with Lz|Lz
  .rw [S]at Lz;cases Lz
  .rcases F b u with h|h
   .by_cases g:s=i
    .subst g;rw [hi]at d;cases d;rw [R]at Lz;cases Lz
    .exact hs.sep s i G p g d hi Lz b l h
   .by_cases g:s=j
    .subst g;rw [m]at d;cases d;rw [D]at Lz;cases Lz
    .exact hs.sep s j G q g d m Lz b l h) (λb u=>by
  rcases F b u with h|h
  .exact hs.scope i p (λe=>by subst e;simp at z) hi b h
  .exact hs.scope j q (λe=>by subst e;simp at B) m b h)
def Xw{β:Type}{enc:β->Value}{q:β->Pc}{zs:List β}(i j n:Nat)(hi:lk H i=some (Yx k enc v zs))(m:lk H j=some (Nj q zs))(d:Nat.beq i 0=false)(e:Nat.beq j 0=false) :
  ∀a w,Sat N sc env H a w->Sat N sc env ((n,Xs k enc q v zs)::H) a w:=
 Zxw i j n hi m d e rfl rfl (λw g h=>⟨g,h⟩) (λb l=>l) rfl
theorem Yo{β:Type}(q:β->Pc)(n:Nat):∀a w,Sat N sc env H a w->Sat N sc env ((n,Nj q ([]:List β))::H) a w:=λa w hs=>
 hs.add n _ (λz d=>by cases d) (λh i _ _ Lz b e g=>by obtain⟨z,d,_⟩:=e;cases d) (λb e=>by obtain⟨z,d,_⟩:=e;cases d)
theorem Zp{β:Type}{q:β->Pc}{zs:List β}{z:β}(i j n:Nat)(hi:lk H i=some (Nj q zs))(s:lk H j=some (q z))(e:Nat.beq i 0=false)(g:Nat.beq j 0=false)(u:(q z).own=false) :
  ∀a w,Sat N sc env H a w->Sat N sc env ((n,Nj q (zs ++ [z]))::H) a w:=
 Zxw i j n hi s e g rfl u (λw m r y l=>by
  rcases cZ.1 l with h|h
  .exact m y h
  .rw [bO.1 h];exact r) (λb d=>by
  obtain⟨y,l,d⟩:=d;rcases cZ.1 l with h|h
  .exact .inl ⟨y,h,d⟩
  .rw [bO.1 h]at d;exact .inr d) rfl
theorem Zxv{β:Type}{q:β->Pc}{zs ys:List β}(i n:Nat)(hi:lk H i=some (Nj q zs))(e:Nat.beq i 0=false)(hs:∀y∈ys,y∈zs) :
  ∀a w,Sat N sc env H a w->Sat N sc env ((n,Nj q ys)::H) a w:=
 Zc1 i n hi e rfl (λw h y g=>h y (hs y g)) (λb d=>by obtain⟨y,g,d⟩:=d;exact⟨y,hs y g,d⟩) rfl
end Go.Sky
namespace Go.Sky
open Go.RowKit Below
variable{o:Oper}{H0:Hp}{ks ts:List Nat}{t ty:TypeId}{d:Nat}{cs:Array Value}{M0:Nat->Prop}{p:Pc}{ops:Array Oper}{listed:Array Bool}{x:Operand}{m:Int}{k:IntKind}{rest:List Oper}{pos:String}
variable {P:Program} {N:Nat} {sc:Nat->Prop} {env env':Pw} {H H':Hp} {Q Q':Exit->Act->World->Prop} {M:Nat->Prop}
def Off(H:Hp)(ks:List Nat):Nat->Prop:=λx=>∀k∈ks,∀p,lk H k=some p->¬p.fp x
def Agr(H0 H:Hp):List Nat->Prop
 | []=>True
 | k::r=>lk H k=lk H0 k/\Agr H0 H r
theorem Agr.mem{H0 H:Hp} : ∀{ks:List Nat},Agr H0 H ks->∀k∈ks,lk H k=lk H0 k
 | k::r,h,j,a=>by
  cases a with
  | head=>exact h.1
  | tail _ a=>exact Agr.mem h.2 j a
def rst(ks:List Nat):Hp->Hp
 | []=>[]
 | (i,p)::r=>cond (ks.any (Nat.beq i)) ((i,p)::rst ks r) (rst ks r)
theorem Zio(ks:List Nat):∀(H:Hp) (i:Nat) (p:Pc),lk (rst ks H) i=some p->i∈ks/\lk H i=some p
 | [],_,_,h=>by cases h
 | (j,q)::r,i,p,h=>by
  unfold rst at h;cases hb:ks.any (Nat.beq j)with
  | true=>
   rw [hb]at h;simp only [cond_true]at h;by_cases c:j=i
   .subst c;rw [Yg]at h ⊢;obtain⟨x,l,g⟩:=List.any_eq_true.1 hb;have:=dM g;subst this;exact⟨l,h⟩
   .rw [Zx c]at h ⊢;exact Zio ks r i p h
  | false=>
   rw [hb]at h;simp only [cond_false]at h;obtain⟨b,f⟩:=Zio ks r i p h;refine⟨b,?_⟩;have a:j≠i:=λe=>by subst e;have:ks.any (Nat.beq j)=true:=List.any_eq_true.2 ⟨j,b,O7⟩;rw [hb]at this;cases this
   rw [Zx a];exact f
theorem Po {id:Nat} {l:List Oper} (ks:List Nat) (ts:List Nat) 
  (h:A P N sc (Off H ks) l.toArray ts Q l.length (Array.replicate l.length false) env H) (a:P.follows .mixedOrders=true:=by kernel_rfl):E P N sc (.region id l.toArray true) Q env H:=Ku (Off H ks) ts h a
theorem Eg{v:Value}(B:Lj P N sc o env (rst ks H) v)(n:Agr H0 H ks):Stb P N sc (Off H0 ks) o env H v:=λa w hs h c=>by refine B a h ⟨hs.size,hs.defers,hs.env,λi b hi=>?_,λi j b D f hi s=>hs.sep i j b D f (Zio _ _ _ _ hi).2 (Zio _ _ _ _ s).2,λi b l hi=>hs.scope i b l (Zio _ _ _ _ hi).2⟩;obtain⟨g,e⟩:=Zio _ _ _ _ hi;refine b.stable w h (hs.hold i b e) ⟨c.os,c.tape,c.output,c.size,λq z u=>c.block q z (λy=>u (λr=>?_))⟩;exact y i g b (by rw [<-n.mem i g];exact e) r
theorem Yg4   {i:Nat} {z:Value}  {w0:World}    (s:o.op= .alloc t) (n:o.dst=some d) (g:Nat.blt d N=true)
  (y:∀w,(zeroValue t).run P w= .ok z w) (l:z.cells=cs) (e:lk H 0=some (Yt w0 M0)) (v:∀b,w0.heap.size<=b->sc b) (h:Agr H0 H ks) :
  T P N sc (Off H0 ks) o env H (G:=Nat) (λb=>Off H0 ks b) (λb=>(d,.pointer (some ⟨b,0,none⟩))::env) (λb=>(i,box b t cs)::H):=λa w hs K Q f=>by
 subst l;have u:(execOp a.eval o).run P w= .ok (.value (.pointer (some ⟨w.heap.size,0,none⟩))) (w.alloc (.cells z.cells t)):=by simp [execOp,s,Instr.alloc,y,newVar,newRow]
 unfold Oper.wp;rw [u];show K (a.put o.dst _) _;rw [n];exact f w.heap.size _ _ (λk r p c q=>by rw [<-h.mem k r]at c;exact absurd (p.lt w _ (hs.hold k p c) q) (Nat.lt_irrefl _)) ((hs.new e v i (box w.heap.size t z.cells) (.cells z.cells t) (heap_alloc_new w _) (λb j=>j)).put d _ g) (Chg.alloc _ _ _)
theorem Np{q:Pc}(i:Nat)(h:p=q)(hi:lk H i=some p)(b:Nat.beq i 0=false):∀a w,Sat N sc env H a w->Sat N sc env ((i,q)::H) a w:=λa w hs=>by subst h;exact Zqf i hi rfl (λ_ h=>h) (λ_ h=>h) b a w hs
def Zdv{n:Nat}(hi:∀a w,Sat N sc env H a w->Sat N sc env' H' a w)(h:A P N sc M ops ts Q n listed env' H'):A P N sc M ops ts Q n listed env H:=λa w hs=>h a w (hi a w hs)
theorem Ygv (r:Int)(b:o.op= .unOp .neg t x)(e:ev env x=some (.int .u64 m))(c:(-m)%18446744073709551616=r):Lj P N sc o env H (.int .u64 r):=λa w hs=>by rw [<-c,<-Zp1];simp [execOp,b,hs.ev e,Op.unary,Op.intArith]
theorem Yrq{b:TypeId}{r:Int}{ds:TypeDesc}(c:o.op= .convert t b x)(g:ev env x=some (.int k m))(a:P.underlying t=some ds)(f:P.underlying b=some (.int .u64))(e:m%18446744073709551616=r) :
  Lj P N sc o env H (.int .u64 r):=Zhz c g a f (by rw [Zp1];exact e)
theorem Sat.yieldedu{a:Act}{w:World}(h:Sat N sc env H a w){j:Nat}(e:(ops[j]?).bind (·.dst)=some d)(c:lk env d=some undef):Go.yielded ops a.tmps j=none:=by
 have b:=h.env d _ c;unfold Go.yielded;rw [e];simp only [Option.bind_some];rw [bN]at b;cases hx:a.tmps[d]? with
 | none=>rfl
 | some v=>rw [hx]at b;simp only [fE]at b;subst b;rfl
theorem gsku      {c:Array Edge} {f:Op} {j e:Nat} {b:Bool} (n:(ops[j]?).bind (·.dst)=some e) (l:lk env e=some undef) (i:Nat.blt d N=true)
  (h:L P N sc ops rest Q ((d,undef)::env) H):L P N sc ops (⟨some d,f,ty,pos,c,some (j,b)⟩::rest) Q env H:=λa w hs=>
 wpList_step λK g=>by
  have r:=hs.yieldedu n l;have q:Region.wanted ⟨some d,f,ty,pos,c,some (j,b)⟩ (yielded ops a.tmps)=false:=by simp [Region.wanted,r]
  rw [q,aD O7];exact g _ _ (h _ _ (hs.put d undef i))
def nop:Pc:={ own:=false,fp:=λ_=>False,holds:=λ_=>True,lt:=λ_ _ _ h=>h.elim,stable:=λ_ _ _ _=>trivial }
theorem s_move(i j:Nat)(hi:lk H i=some p)(q:Nat.beq i 0=false)(s:Nat.beq j 0=false)(r:Nat.beq i j=false):∀a w,Sat N sc env H a w->Sat N sc env ((j,p)::(i,nop)::H) a w:=λa w hs=>by
 have q:i≠0:=λe=>by subst e;simp at q
 have s:j≠0:=λe=>by subst e;simp at s
 have r:i≠j:=λe=>by subst e;simp at r
 refine⟨hs.size,hs.defers,hs.env,λk kt f=>?_,λk v kt y u f c z b n h=>?_,λk kt B f b n=>?_⟩
 .by_cases l:j=k
  .subst l;rw [Yg]at f;cases f;exact hs.hold i p hi
  .rw [Zx l]at f;by_cases g:i=k
   .subst g;rw [Yg]at f;cases f;trivial
   .rw [Zx g]at f;exact hs.hold k kt f
 .by_cases l:j=k
  .subst l;rw [Yg]at f;cases f;rw [Zx u]at c;by_cases g:i=v
   .subst g;rw [Yg]at c;cases c;exact h
   .rw [Zx g]at c;exact hs.sep i v p y g hi c z b n h
  .rw [Zx l]at f;by_cases g:i=k
   .subst g;rw [Yg]at f;cases f;cases z
   .rw [Zx g]at f;by_cases D:j=v
    .subst D;rw [Yg]at c;cases c;exact hs.sep k i kt p (iL g) f hi z b n h
    .rw [Zx D]at c;by_cases F:i=v
     .subst F;rw [Yg]at c;cases c;exact h
     .rw [Zx F]at c;exact hs.sep k v kt y u f c z b n h
 .by_cases l:j=k
  .subst l;rw [Yg]at f;cases f;exact hs.scope i p q hi b n
  .rw [Zx l]at f;by_cases g:i=k
   .subst g;rw [Yg]at f;cases f;exact n.elim
   .rw [Zx g]at f;exact hs.scope k kt B f b n
theorem fill3{h j a b c e f g:Value}:Instr.fill (λi=>some (i*2,2)) ((List.range (3*2)).map ((Value.agg #[h,j]).cells[· % (Value.agg #[h,j]).cells.size]!)).toArray [(0,.agg #[a,b]),(1,.agg #[c,e]),(2,.agg #[f,g])]=some #[a,b,c,e,f,g]:=by
 simp [Instr.fill,Value.cells,List.range,List.range.loop]
 try rfl
end Go.Sky
namespace Go.Sky
variable{o xs ys:List Nat}{k c b x y i m w a s h:Nat}{P:Program}{sc:Nat->Prop}{t:TypeId}{kd:IntKind}
theorem Zxe(k:Nat):U^k=256^(8*k):=by rw [show U=256^8 from rfl,<-kF]
theorem Zdx(k:Nat):U^k=2^(64*k):=by rw [show U=2^64 from rfl,<-kF]
theorem Qh:0<U:=by simp [U]
theorem Ynr(h:Yn U (o.take k)+c*U^k=Yn U (xs.take k)+Yn U (ys.take k))(f:k<o.length) :
  Yn U ((o.set k ((xs.getD k 0+ys.getD k 0+c)%U)).take (k+1))+(xs.getD k 0+ys.getD k 0+c)/U*U^(k+1)=Yn U (xs.take (k+1))+Yn U (ys.take (k+1)):=by
 rw [Bh _ _ _ f,Qt,Qt,bX];generalize xs.getD k 0=a at *;generalize ys.getD k 0=b at *;generalize U^k=B at *;have d:=Nat.mod_add_div (a+b+c) U;have e:(a+b+c)%U*B+(a+b+c)/U*(B*U)=(a+b+c)*B:=by
  conv=>rhs;rw [<-d]
  rw [bG,aO B U,<-cY,aO ((a+b+c)/U) U]
 rw [bG,bG]at e;omega
theorem Yha(j:c<=1)(l:xs.getD k 0<U)(n:ys.getD k 0<U)(h:Yn U (o.take k)+Yn U (ys.take k)=Yn U (xs.take k)+c*U^k)(g:k<o.length) :
  Yn U ((o.set k ((xs.getD k 0+U-ys.getD k 0-c)%U)).take (k+1))+Yn U (ys.take (k+1))=Yn U (xs.take (k+1))+brw (xs.getD k 0) (ys.getD k 0) c*U^(k+1):=by
 unfold brw;rw [Bh _ _ _ g,Qt,Qt,bX];generalize xs.getD k 0=a at *;generalize ys.getD k 0=b at *;generalize U^k=B at *;by_cases f:a<b+c
 .rw [aG f];have d:(a+U-b-c)%U+b+c=a+U:=by rw [aX O];omega
  have e:((a+U-b-c)%U+b+c)*B=(a+U)*B:=by rw [d]
  rw [bG,bG,bG]at e;rw [lZ,aO B U];omega
 .rw [aD f];have d:(a+U-b-c)%U+b+c=a:=by rw [show a+U-b-c=(a-b-c)+U by omega,oD,aX O];omega
  have e:((a+U-b-c)%U+b+c)*B=a*B:=by rw [d]
  rw [bG,bG]at e;omega
theorem Zoj(b:Nat)(xs:List Nat)(k:Nat)(d:k<xs.length):Yn b xs=Yn b (xs.take k)+xs.getD k 0*b^k+b^(k+1)*Yn b (xs.drop (k+1)):=by
 conv=>lhs;rw [<-fJ (k+1) xs]
 rw [Mi,Qt,aQ,dJ O]
theorem Zss(l:0<b)(n:∀d∈xs,d<b)(f:k<xs.length)(g:k<ys.length)(e:xs.drop (k+1)=ys.drop (k+1))(h:xs.getD k 0<ys.getD k 0):Yn b xs<Yn b ys:=by
 rw [Zoj b xs k f,Zoj b ys k g,e];have p:Yn b (xs.take k)<b^k:=by have:=Zhy l (xs.take k) (λd e=>n d (eV e));rwa [aQ,dJ O]at this
 have j:(xs.getD k 0+1)*b^k<=ys.getD k 0*b^k:=aJ _ h;rw [bG]at j;omega
theorem Zhe (xs:List Nat)(ys:List Nat)(d:k<xs.length)(e:k<ys.length)(f:xs.drop (k+1)=ys.drop (k+1))(h:xs.getD k 0=ys.getD k 0):xs.drop k=ys.drop k:=by rw [eA d,eA e,f];simp [List.getD,d,e]at h;rw [h]
theorem Zbk(d:2<=b)(h:(dg b x).length<(dg b y).length):x<y:=by have e:=(Xt d (dg b x).length x).1 (aI _);have f:=(Nv d (dg b x).length y).1 h;omega
theorem Yad(h:0<x):bl x=(dg U x).length*64-(64-bl ((dg U x).getD ((dg U x).length-1) 0))/\bl ((dg U x).getD ((dg U x).length-1) 0)<=64/\0<(dg U x).length/\0<bl ((dg U x).getD ((dg U x).length-1) 0):=by
 have d:0<(dg U x).length:=by rw [Nv Qb,fL];omega
 have f:U^((dg U x).length-1)<=x:=(Nv Qb _ x).1 O;have e:x<U^(dg U x).length:=(Xt Qb _ x).1 (aI _);have g:x/U^((dg U x).length-1)<U:=by rw [cF (cH Qh),aO,<-bX,show((dg U x).length-1).succ=(dg U x).length by omega];exact e
 rw [Hr Qb,aX g,Zdx,Gj];have j:64*((dg U x).length-1)<bl x:=by rw [Zcq,<-Zdx];exact f
 have l:bl x<=64*(dg U x).length:=by rw [Qo,<-Zdx];exact e
 refine⟨?_,?_,d,?_⟩<;>omega
theorem Zip(x:Nat):(dg 256 x).length=(bl x+7)/8:=by
 have d:∀k,(dg 256 x).length<=k↔(bl x+7)/8<=k:=λk=>by rw [Xt O,show 256^k=2^(8*k) by rw [show 256=2^8 from rfl,<-kF],<-Qo];omega
 have e:=(d (dg 256 x).length).1 (aI _);have f:=(d ((bl x+7)/8)).2 (aI _);omega
theorem lenU(x:Nat):(dg U x).length=((dg 256 x).length+7)/8:=by
 have d:∀k,(dg U x).length<=k↔((dg 256 x).length+7)/8<=k:=λk=>by rw [Xt Qb,Zxe,<-Xt O];omega
 have e:=(d (dg U x).length).1 (aI _);have f:=(d (((dg 256 x).length+7)/8)).2 (aI _);omega
theorem Zfo(f:xs.length=ys.length)(h:∀i,i<xs.length->xs.getD i 0=ys.getD i 0):xs=ys:=by apply iN f;intro i d e;have:=h i d;simpa [List.getD,d,e]using this
theorem Nf{α:Type}{o:List α}{j:Nat}{d z:α}(hi:i<o.length):(o.set i d).getD j z=if i=j then d else o.getD j z:=by
 by_cases h:i=j
 .subst h;simp [List.getD,hi]
 .rw [aD h];simp [List.getD,jM h]
theorem Iu(n i:Nat):(List.replicate n 0).getD i 0=0:=by simp only [List.getD,iQ];split<;>rfl
theorem Zs3(x k:Nat):x/U^(k/8)%U/2^(k%8*8)%256=x/256^k%256:=by
 have g:=cD k 8;have j:k%8<8:=bR _ O;have d:U=256^(k%8)*256^(8-k%8):=by rw [<-bW,show k%8+(8-k%8)=8 by omega]
 have e:(2:Nat)^(k%8*8)=256^(k%8):=by rw [show(256:Nat)=2^8 from rfl,<-kF,aO]
 have f:x/U^(k/8)/256^(k%8)=x/256^k:=by rw [aV,Zxe,<-bW,g]
 rw [e]
 conv=>lhs;rw [d]
 rw [Nat.mod_mul_right_div_self,<-d,f,show 8-k%8=(8-k%8-1)+1 by omega,bX,Nat.mod_mul_left_mod]
def hi(x m w:Nat):Nat:=x/256^m*256^m/U^w%U
theorem Yk8(h:m<=8*w):hi x m w=x/U^w%U:=by unfold hi;rw [Zxe,show 8*w=m+(8*w-m) by omega,bW,<-aV,kD _ (cH O),aV]
theorem hi_lt(h:8*w+8<=m):hi x m w=0:=by unfold hi;rw [Zxe,show m=8*w+(8+(m-8*w-8)) by omega,bW 256 (8*w),aO (256^(8*w)),<-cY,kD _ (cH O),bW 256 8];rw [show U=256^8 from rfl,oE,Nat.mul_mod_right]
theorem Yk7{r:Nat}(h:m=8*w+r)(d:r<=8):hi x m w=x/256^m*256^r%U:=by
 unfold hi;subst h;rw [Zxe]
 conv=>lhs;rw [bW 256 (8*w) r,aO (256^(8*w)),<-cY,kD _ (cH O)]
 rw [aO (256^r) (256^(8*w)),<-bW]
theorem Yq0(x k:Nat):hi x (k+1) (k/8) ||| (x/256^k%256*2^(k%8*8))%U=hi x k (k/8):=by
 have B:=cD k 8;have v:k%8<8:=bR _ O;rw [Yk7 (r:=k%8+1) O O,Yk7 (r:=k%8) O O];have j:(2:Nat)^(k%8*8)=256^(k%8):=by rw [show(256:Nat)=2^8 from rfl,<-kF,aO]
 rw [j];generalize k%8=r at *;have q:x/256^(k+1)=x/256^k/256:=by rw [bX,aV]
 rw [q];generalize x/256^k=z;have e:U=256^(r+1)*256^(7-r):=by rw [<-bW,show r+1+(7-r)=8 by omega]
 have d:z%256*256^r<256^(r+1):=by rw [bX,aO (256^r)];exact(nK (cH O)).2 (bR _ O)
 have f:256^(r+1)<=U:=by rw [e];exact dW _ (cH O)
 rw [aX (dG d f)];have p:z/256*256^(r+1)%U=256^(r+1)*(z/256%256^(7-r)):=by rw [e,aO (z/256),Nat.mul_mod_mul_left]
 rw [p];have g:(256:Nat)^(r+1)=2^(8*(r+1)):=by rw [show(256:Nat)=2^8 from rfl,<-kF]
 have Lz:=lE (b:=z%256*256^r) (i:=8*(r+1)) (by rw [<-g];exact d) (z/256%256^(7-r));rw [<-g]at Lz;rw [<-Lz];have u:z=256*(z/256)+z%256:=(cD z 256).symm;have l:z*256^r=256^(r+1)*(z/256)+z%256*256^r:=by
  conv=>lhs;rw [u]
  rw [bG,bX,aO (256^r) 256,cY,cY,aO (z/256)]
 rw [l,e];have n:256^(r+1)*(z/256)+z%256*256^r=z%256*256^r+256^(r+1)*(z/256):=O;rw [n,nJ,jV,aX d,nH _ _ (cH O),cN d,cC];omega
theorem Mt(x:Nat):(dg U x).length=(bl x+63)/64:=by
 have d:∀k,(dg U x).length<=k↔(bl x+63)/64<=k:=λk=>by rw [Xt Qb,Zdx,<-Qo];omega
 have e:=(d (dg U x).length).1 (aI _);have f:=(d ((bl x+63)/64)).2 (aI _);omega
theorem bl_add:bl (x+y)<=max (bl x) (bl y)+1:=by rw [Qo,bX];have d:=Co x;have e:=Co y;have f:2^bl x<=2^max (bl x) (bl y):=dK O O;have g:2^bl y<=2^max (bl x) (bl y):=dK O O;omega
theorem Znt(x y:Nat):bl (x*y)<=bl x+bl y:=by
 rw [Qo,bW];rcases aW y with rfl|d
 .rw [iG];exact gI (cH O) (cH O)
 .exact jN (Co x) (eE (Co y)) (cH O)
theorem Zj4(b:Nat)(o:List Nat)(n p r:Nat)(d:p<o.length)(f:p<n):Yn b ((o.set p r).take n)+o.getD p 0*b^p=Yn b (o.take n)+r*b^p:=by
 induction n with
 | zero=>omega
 | succ n e=>
  rw [Qt b (o.set p r) n,Qt b o n,Nf d];by_cases h:p=n
  .subst h;rw [aG rfl,Zn5];omega
  .rw [aD h];have:=e O;omega
theorem Yfd(d:x<U)(e:y<U)(f:a<U)(g:c<U) :
  ((x*y%U+a+0)%U+c+0)%U+U*(((x*y/U+(x*y%U+a+0)/U)%U+((x*y%U+a+0)%U+c+0)/U)%U)=x*y+a+c/\
  ((x*y/U+(x*y%U+a+0)/U)%U+((x*y%U+a+0)%U+c+0)/U)%U<U:=by
 have h:x*y<=18446744073709551615*18446744073709551615:=aU (by simp only [U]at d;omega) (by simp only [U]at e;omega);generalize x*y=p at *;simp only [U]at *;omega
theorem Ykf  {V r d n:Nat} (q:Yn U (o.take n)+c*U^(i+k)=V+xs.getD i 0*U^i*Yn U (ys.take k)) (g:i+k<o.length) (f:i+k<n)
  (j:r+U*d=xs.getD i 0*ys.getD k 0+o.getD (i+k) 0+c):Yn U ((o.set (i+k) r).take n)+d*U^(i+(k+1))=V+xs.getD i 0*U^i*Yn U (ys.take (k+1)):=by
 have p:=Zj4 U o n (i+k) r g f;rw [Qt,show i+(k+1)=i+k+1 by omega,bX];have l:xs.getD i 0*U^i*(ys.getD k 0*U^k)=xs.getD i 0*ys.getD k 0*U^(i+k):=by rw [bW];ac_rfl
 rw [gG,l];have e:(r+U*d)*U^(i+k)=(xs.getD i 0*ys.getD k 0+o.getD (i+k) 0+c)*U^(i+k):=by rw [j]
 rw [bG,bG,bG,aO U d,cY d,aO U]at e;omega
theorem Zjn  {N:Nat}  {env:Pw} {H:Hp} {o:Oper} {x y:Operand}  {s:ByteArray}  {m:Int}  (g:o.op= .index t x y)
  (l:ev env x=some (.string s)) (n:ev env y=some (.int kd m)) (j:P.underlying t=some .string)
  (e:m=(i:Int)) (f:i<256) (hs:s.size=256) (d:∀i,i<256->(s.data.toList.getD i 0).toNat=bl i):Lj P N sc o env H (.int .u8 (bl i:Int)):=by
 rw [<-d i f];exact Ycz g l n j e 
theorem Ykg  (z:x<U) (B:y<U) {hi lo:Nat}
  (u:hi=(((x/4294967296)*(y/4294967296)%U+(((x/4294967296)*(y &&& 4294967295)%U+((x &&& 4294967295)*(y &&& 4294967295)%U)/4294967296)%U)/4294967296)%U +
   (((((x/4294967296)*(y &&& 4294967295)%U+((x &&& 4294967295)*(y &&& 4294967295)%U)/4294967296)%U &&& 4294967295)+(x &&& 4294967295)*(y/4294967296)%U)%U)/4294967296)%U)
  (G:lo=x*y%U):hi=x*y/U:=by
 have v:∀n:Nat,n &&& 4294967295=n%4294967296:=λn=>kP n 32;subst u;simp only [v];have j:=cD x 4294967296;have l:=cD y 4294967296;have F:=bR x (show 4294967296>0 by omega);have D:=bR y (show 4294967296>0 by omega);have f:x/4294967296<=4294967295:=by simp only [U]at z;omega
 have g:y/4294967296<=4294967295:=by simp only [U]at B;omega
 generalize x/4294967296=a at *;generalize x%4294967296=b at *;generalize y/4294967296=c at *;generalize y%4294967296=d at *;subst j;subst l;have e:(4294967296*a+b)*(4294967296*c+d)=18446744073709551616*(a*c)+4294967296*(a*d)+4294967296*(b*c)+b*d:=by rw [bG,gG,gG,Nat.mul_mul_mul_comm,cY 4294967296 a d,oE b 4294967296 c];omega
 rw [e];have H:a*c<=4294967295*4294967295:=aU f g;have I:a*d<=4294967295*4294967295:=aU f O;have M:b*c<=4294967295*4294967295:=aU O g;have N:b*d<=4294967295*4294967295:=aU O O;generalize a*c=p at *;generalize a*d=q at *;generalize b*c=r at *;generalize b*d=s at *;simp only [U];omega
def Zk3(m:Nat):bl (m%256)<=8:=(Qo 8 _).2 (bR _ O)
theorem Zap:Nz ((bl (m%256):Nat):Int):=by have:=Zk3 m;exact⟨O,O⟩
theorem Cx{c:Int}(d:0<=c)(e:c<=1000):Nz (c+((bl (m%256):Nat):Int)):=by have:=Zk3 m;exact⟨O,O⟩
theorem Zao (n:Nat){c:Int}(d:m<256)(h:c+(bl m:Int)=(bl n:Int)):Value.int .i64 (c+((bl (m%256):Nat):Int))=Value.int .i64 (bl n:Int):=by rw [aX d,h]
theorem Zrw{α:Type}{xs:List α}{d:α}(h:i<xs.length):xs.reverse.getD i d=xs.getD (xs.length-1-i) d:=by
 have e:i<xs.reverse.length:=by simpa using h
 have f:xs.length-1-i<xs.length:=O;simp [List.getD,aM f,aM e]
theorem hi_top(h:(dg 256 x).length<=m):hi x m w=0:=by have:=(Xt (b:=256) O m x).1 h;unfold hi;rw [cN this];simp
theorem Yk6(h:k/8≠w):hi x (k+1) w=hi x k w:=by
 by_cases d:k+1<=8*w
 .rw [Yk8 d,Yk8 O]
 .rw [hi_lt O,hi_lt O]
set_option maxRecDepth 20000
def Ynx:U=2^64:=rfl
theorem Yjx(d:b<2^s):a*2^s ||| b=a*2^s+b:=by rw [aO,lE d]
theorem Zfq{l:Nat}(hs:s<=64)(d:l<U):l/2^(64-s)<2^s:=by rw [cF (dQ _),<-bW,show s+(64-s)=64 by omega];exact d
theorem Zji{l:Nat}(hs:s<=64):l*2^s/U=l/2^(64-s):=by rw [Ynx,show(2:Nat)^64=2^(64-s)*2^s by rw [<-bW,show 64-s+s=64 by omega],nC _ _ (dQ s)]
theorem Yjw{l:Nat}(hs:s<=64)(d:h*2^s<U)(e:l<U):(h*2^s%U) ||| (l/2^(64-s))=(h*U+l)*2^s/U:=by rw [aX d,Yjx (Zfq hs e),bG,show h*U*2^s=U*(h*2^s) by rw [iW,aO],gO Qh,Zji hs]
theorem Yff(h l s:Nat):l*2^s%U=(h*U+l)*2^s%U:=by rw [bG,show h*U*2^s=U*(h*2^s) by rw [iW,aO],iB]
def Zxa(x:Nat):x &&& 4294967295=x%4294967296:=kP x 32
def dvI(u v d y0 q r:Nat):Prop:=q*d+r=u/\q<=4294967297/\(u*4294967296+v)/(d*4294967296+y0)<=q
section
variable {u v y1 y0 q r:Nat}
theorem dv_Q(e:v<4294967296)(d:u<y1*4294967296+y0):(u*4294967296+v)/(y1*4294967296+y0)<4294967296:=by rw [cF O];have:(u+1)*4294967296<=(y1*4294967296+y0)*4294967296:=aJ _ d;omega
theorem dv0(j:2147483648<=y1)(l:y1<4294967296)(g:y0<4294967296)(D:v<4294967296)(B:u<y1*4294967296+y0):dvI u v y1 y0 (u/y1) (u%y1):=by
 refine⟨by rw [aO];exact cD u y1,?_,?_⟩
 .rw [<-Nat.lt_succ_iff,cF O];show u<4294967298*y1;omega
 .have f:0<y1*4294967296+y0:=O;refine oF ((cF f).2 ?_);have n:=cD u y1;have p:=bR u (show 0<y1 by omega);generalize u/y1=q at *;have d:u+1<=y1*(q+1):=by rw [gG];omega
  have z:(u+1)*4294967296<=y1*(q+1)*4294967296:=aJ _ d;have e:(q+1)*(y1*4294967296+y0)=y1*(q+1)*4294967296+(q+1)*y0:=by rw [gG,aO y1 (q+1),cY (q+1) y1]
  show u*4294967296+v<(q+1)*(y1*4294967296+y0);rw [e];omega
theorem Ylz(hi:q*y1+r=u):q*(y1*4294967296+y0)+r*4294967296=u*4294967296+q*y0:=by rw [gG,<-hi,bG,cY];omega
theorem Zsg(j:0<y1)(hi:dvI u v y1 y0 q r)(f:q*y0<=4294967296*r+v):q=(u*4294967296+v)/(y1*4294967296+y0):=by obtain⟨d,g,e⟩:=hi;refine jZ ((jC O).2 ?_) e;have:=Ylz (y0:=y0) d;omega
theorem Zkv(B:0<y1)(hi:dvI u v y1 y0 q r)(l:v<4294967296)(j:u<y1*4294967296+y0)(e:4294967296<=q\/4294967296*r+v<q*y0) :
  1<=q/\dvI u v y1 y0 (q-1) (r+y1):=by
 obtain⟨f,n,z⟩:=hi;have d:(u*4294967296+v)/(y1*4294967296+y0)<q:=by
  rcases e with e|e
  .exact dG (dv_Q l j) e
  .rw [cF O];have:=Ylz (y0:=y0) f;omega
 have g:1<=q:=bA (bD _) d;refine⟨g,?_,O,Nat.le_sub_one_of_lt d⟩;obtain⟨p,rfl⟩:∃p,q=p+1:=⟨q-1,O⟩;rw [bG]at f;simp only [eZ];omega
theorem Zhc(d:0<y1)(g:y0<4294967296)(hi:dvI u v y1 y0 q r)(e:q<=4294967296)(f:4294967296<=r):q=(u*4294967296+v)/(y1*4294967296+y0):=by refine Zsg d hi ?_;have j:q*y0<=4294967296*y0:=aJ _ e;have l:4294967296*4294967296<=4294967296*r:=bB _ f;omega
theorem Zvj(f:q<4294967296)(d:y0<4294967296):q*y0<18446744073709551616:=by have e:q*y0<=4294967295*y0:=aJ _ O;omega
end
theorem wsub (c:Nat)(g:a%U=c%U)(j:b%U=m%U)(l:m<=c)(d:c-m<U):(a+(U-b%U))%U=c-m:=by have e:b%U<U:=bR _ Qh;have f:(c-m)%U=c-m:=aX d;simp only [U]at *;omega
theorem Ycq{u v:Nat}(e:0<y)(g:y<U):((u*4294967296%U+v)%U+(U-((u*4294967296+v)/y*y)%U))%U=(u*4294967296+v)%y:=by have d:=cD (u*4294967296+v) y;have f:=bR (u*4294967296+v) e;rw [aO y]at d;rw [wsub (u*4294967296+v) (m:=(u*4294967296+v)/y*y) (by simp only [U];omega) rfl O O];omega
theorem Yri{A D:Nat}(g:0<y)(e:D=A*4294967296+b):D/y=A/y*4294967296+(A%y*4294967296+b)/y/\D%y=(A%y*4294967296+b)%y:=by
 have f:=cD A y;have d:D=y*(A/y*4294967296)+(A%y*4294967296+b):=by
  conv=>lhs;rw [e,<-f]
  rw [bG,cY];omega
 constructor
 .conv=>lhs;rw [d]
  rw [gO g]
 .conv=>lhs;rw [d]
  rw [iB]
theorem dv_two{D u v d e:Nat}(j:0<y)(l:u=D/U)(n:v=D%U)(g:d=v/4294967296)(f:e=v%4294967296) :
  D/y=(u*4294967296+d)/y*4294967296+((u*4294967296+d)%y*4294967296+e)/y/\D%y=((u*4294967296+d)%y*4294967296+e)%y:=
 Yri j (by subst l n g f;simp only [U];omega)
def Zow(n y s:Nat):n*2^s/(y*2^s)=n/y:=nC _ _ (dQ s)
theorem Zov(n y s:Nat):n*2^s%(y*2^s)/2^s=n%y:=by rw [nD,kD _ (dQ s)]
theorem Yj8(f:0<y)(g:y<U)(hs:s=64-bl y):9223372036854775808<=y*2^s/\y*2^s<U:=by
 have j:bl y<=64:=(Qo 64 y).2 g;have d:=Co y;have e:=(Zs7 f).1;have l:(2:Nat)^bl y*2^s=U:=by rw [<-bW,show bl y+s=64 by omega]
 have n:y*2^s<2^bl y*2^s:=eO d (dQ s);have p:2^(bl y-1)*2^s<=y*2^s:=aJ _ e;have z:2^(bl y-1)*2^s=9223372036854775808:=by
  have:1<=bl y:=by
   rcases aW (bl y)with h|h
   .rw [h]at d;omega
   .exact h
  rw [<-bW,show bl y-1+s=63 by omega]
 omega
theorem rsub{u:Nat}(e:0<y)(f:u<U):(u+(U-(u/y*y)%U))%U=u%y:=by have d:=cD u y;rw [aO y]at d;rw [wsub u (m:=u/y*y) rfl rfl O O];omega
theorem Zby{n:Nat}(h:m=n):Value.int .u64 (m:Int)= .int .u64 (n:Int):=by rw [h]
theorem Zce{m n:Int}(h:m=n):Value.int .i64 m= .int .i64 n:=by rw [h]
theorem Zwm(d:1<=a)(h:a<U):(a+(U-1))%U=a-1:=by rw [show a+(U-1)=a-1+U by simp only [U]at *;omega,oD,aX O]
def shl_lt(e:h<y)(d:y*2^s<U):h*2^s<U:=bA (aJ _ (eE e)) d
theorem top_lt{l:Nat}(g:l<U)(f:h<y):(h*U+l)*2^s/U<y*2^s:=by
 rw [cF Qh];have d:(h+1)*U<=y*U:=aJ _ f;have e:h*U+l<y*U:=by rw [bG]at d;omega
 rw [iW];exact eO e (dQ s)
end Go.Sky
namespace Go.Sky
set_option maxRecDepth 20000
variable{b r w k:Nat}{o xs:List Nat}
theorem Zra{a s:Nat}(c:b<2^s):b ||| a*2^s=a*2^s+b:=by rw [Nat.or_comm,Yjx c]
theorem Zgc{Y t:Nat}(a:t<=64):Y*2^t%U=Y%2^(64-t)*2^t:=by rw [Ynx,show(2:Nat)^64=2^(64-t)*2^t by rw [<-bW,show 64-t+t=64 by omega],nD]
theorem Znb(c:b<=64)(a:r<U):r/2^b<2^(64-b):=by have:=Zfq (l:=r) (s:=64-b) O a;rwa [show 64-(64-b)=b by omega]at this
theorem Zt8(Y b:Nat)(a:b<=64):Y%U/2^b ||| (Y/U%U)*2^(64-b)%U=Y/2^b%U:=by
 have e:Y%U<U:=bR _ Qh;rw [Zgc O,Zra (Znb a e),show 64-(64-b)=b by omega];have f:Y/U%U%2^b=Y/U%2^b:=by rw [Ynx];exact Nat.mod_mod_of_dvd _ (Nat.pow_dvd_pow 2 a)
 rw [f];have c:U=2^b*2^(64-b):=by rw [<-bW,show b+(64-b)=64 by omega]
 have g:=cD Y U;have h:Y/2^b=2^(64-b)*(Y/U)+Y%U/2^b:=by
  conv=>lhs;rw [<-g]
  conv=>lhs;rw [show U*(Y/U)=2^b*(2^(64-b)*(Y/U)) by rw [<-cY,<-c]]
  rw [gO (dQ b)]
 rw [h];have d:=Znb a e;generalize Y/U=q at *;generalize Y%U=r at *
 conv=>rhs;rw [c,aO (2^b)]
 rw [nJ,gO (dQ _),iB,aX d,cN d,eH,iX,aO]
theorem Yem{Y:Nat}(c:b<=64)(a:Y/U=0):Y%U/2^b=Y/2^b%U:=by have:=Zt8 Y b c;rw [a]at this;simpa using this
theorem Yf4{α:Type}(xs:List α)(w j:Nat)(d:α):(xs.drop w).getD j d=xs.getD (w+j) d:=by simp [List.getD,fZ]
theorem Za8{x s:Nat}(c:w=s/64)(a:b=s%64):x/2^s=x/U^w/2^b:=by rw [Zdx,aV,<-bW,show 64*w+b=s by omega]
theorem Zwg(x b i:Nat):x/2^b/U^i=x/U^i/2^b:=by rw [aV,aO,<-aV]
theorem Yct(x w j:Nat):((dg U x).drop w).getD j 0=x/U^w/U^j%U:=by rw [Yf4,Hr Qb,bW,aV]
theorem Ybz{x n:Nat}(h:(dg U x).length<=w+n):x/U^w<U^n:=by rw [cF (cH Qh),<-bW,iX];exact(Xt Qb _ _).1 h
theorem drop_set{α:Type}{o:List α}{d:α}(h:k<o.length):(o.set k d).drop k=d::o.drop (k+1):=by rw [List.drop_set,aD O,gE,eA h];rfl
theorem Zdh{α:Type}(z:α)(o:List α)(k:Nat)(h:k<o.length):o.drop k=o.getD k z::o.drop (k+1):=by rw [eA h];simp [List.getD,aM h]
theorem Zxm{d:Nat}(g:0<d)(h:k+1<=o.length)(i:k+1<=xs.length)(a:Yn U (o.drop (k+1))*d+r=Yn U (xs.drop (k+1))) :
  Yn U ((o.set k ((r*U+xs.getD k 0)/d)).drop k)*d+(r*U+xs.getD k 0)%d=Yn U (xs.drop k):=by
 rw [drop_set O,Zdh 0 xs k O];simp only [Yn];have c:=cD (r*U+xs.getD k 0) d;rw [<-a];generalize (r*U+xs.getD k 0)/d=q at *;generalize (r*U+xs.getD k 0)%d=m at *;generalize Yn U (o.drop (k+1))=V at *;rw [bG,gG,aO q d];have e:U*V*d=U*(V*d):=cY _ _ _;have f:U*r=r*U:=aO _ _;omega
theorem Yhv  {i n:Nat} (j:b<=63) (l:n=o.length) (m:w+i+1<n) (d:o.getD (w+i) 0<2^b) (h:o.getD (w+i+1) 0=0) (p:xs.getD i 0<U)
  (g:Yn U (o.take n)=Yn U (xs.take i)*2^b*U^w) :
  Yn U (((o.set (w+i) (o.getD (w+i) 0 ||| xs.getD i 0*2^b%U)).set (w+i+1) (xs.getD i 0/2^(64-b))).take n)=Yn U (xs.take (i+1))*2^b*U^w:=by
 have a:=Zj4 U (o.set (w+i) (o.getD (w+i) 0 ||| xs.getD i 0*2^b%U)) n (w+i+1) (xs.getD i 0/2^(64-b)) O8 O;have c:=Zj4 U o n (w+i) (o.getD (w+i) 0 ||| xs.getD i 0*2^b%U) O O;rw [Nf O,aD O,h]at a;rw [Zgc O,Zra d,<-Zgc O]at c ;rw [Zgc O,Zra d,<-Zgc O]at a ⊢;rw [<-Zji (by omega:b<=64)]at a ⊢;rw [Qt];generalize xs.getD i 0=X at *;generalize o.getD (w+i) 0=C at *;have e:X*2^b*U^(w+i)=(X*2^b%U)*U^(w+i)+X*2^b/U*U^(w+i+1):=by
  conv=>lhs;rw [<-cD (X*2^b) U]
  rw [bG,bX U (w+i),aO U,cY (X*2^b/U),aO U];omega
 have f:(Yn U (xs.take i)+X*U^i)*2^b*U^w=Yn U (xs.take i)*2^b*U^w+X*2^b*U^(w+i):=by rw [bG,bG,bW];congr 1;rw [iW X,cY,cY,aO (U^i)];simp only [cY]
 rw [f,<-g,e];rw [bG]at c;omega
theorem Zn8(o:List Nat)(j:Nat)(h:o.getD j 0=0):o.set j 0=o:=by
 rcases aZ j o.length with a|a
 .refine Zfo O7 (λi _=>?_);rw [Nf a];split
  .rename_i e;rw [<-e,h]
  .rfl
 .exact List.set_eq_of_length_le a
theorem Zwd{d n:Nat}(c:n<U)(a:r<d):(r*U+n)/d<U:=by rw [cF O];have:(r+1)*U<=d*U:=aJ _ a;rw [aO U];rw [bG]at this;omega
end Go.Sky

