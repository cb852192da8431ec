/- Rules, arithmetic and contracts: part 2. No conditions but those that each theorem names. -/
import Derived.Test.YtpmihempjefadaaGreatAo00
import Derived.Laws.Externs
import Derived.Lib.SliceRun
import Derived.Great.BuildSlice
import Derived.Laws.Small
import Derived.Laws.StructEq
set_option linter.all false
namespace Go.Sky
open Go.RowKit Below
variable{op:Op}{b b':Bool}{cs:Array Value}{c:Code}{ch:Hp}{p:Pc}{k:Nat}{n':Int}{k' kd:IntKind}{ats:Array TypeId}{w:World}
variable {P:Program} {N:Nat} {sc:Nat->Prop} {env env':Qi} {H H':Hp} {Q Q':Exit->Act->World->Prop} {M:Nat->Prop}
section
variable {ops:Array Oper} {rest:List Oper} {d:Nat} {ty:TypeId} {pos:String} {af:Array Edge} {v:Value} {x:Operand}
theorem dt(e:Ms P N sc ⟨some d,op,ty,pos,af,none⟩ env H v)(h:L P N sc ops rest Q ((d,v)::env) H)(a:Nat.blt d N=true:=by rfl) :
  L P N sc ops (⟨some d,op,ty,pos,af,none⟩::rest) Q env H:=l_det rfl rfl a e h
theorem tt {o:Oper} {G:Type} {φ:G->Prop} {a:G->Qi} {e:G->Hp} (i:T P N sc (λ_=>True) o env H φ a e) 
  (h:∀g,φ g->L P N sc ops rest Q (a g) (e g)) (f:o.guard=none:=by rfl):L P N sc ops (o::rest) Q env H:=l_step f i h
theorem Gl  {j e:Nat}  (l:Ms P N sc ⟨some d,op,ty,pos,af,some (j,b)⟩ env H v) (i:(ops[j]?).bind (·.dst)=some e) (g:lk env e=some (.bool b))  
  (h:L P N sc ops rest Q ((d,v)::env) H) (a:Nat.blt e N=true:=by rfl) (f:Nat.blt d N=true:=by rfl):L P N sc ops (⟨some d,op,ty,pos,af,some (j,b)⟩::rest) Q env H:=l_gdet rfl i g a rfl f l h
def gsk  {j e:Nat}  (l:(ops[j]?).bind (·.dst)=some e) (i:lk env e=some (.bool b')) (a:(b' == b)=false) (f:Nat.blt e N=true) (g:Nat.blt d N=true)
  (h:L P N sc ops rest Q ((d,undef)::env) H):L P N sc ops (⟨some d,op,ty,pos,af,some (j,b)⟩::rest) Q env H:=Yl5 rfl l i f a rfl g h
def gtt {o:Oper} {G:Type} {φ:G->Prop} {a:G->Qi} {i:G->Hp} {j e:Nat}  (q:T P N sc (λ_=>True) o env H φ a i) (m:o.guard=some (j,b)) (n:(ops[j]?).bind (·.dst)=some e) (l:lk env e=some (.bool b)) (f:Nat.blt e N=true)
  (h:∀g,φ g->L P N sc ops rest Q (a g) (i g)):L P N sc ops (o::rest) Q env H:=Yl4 m n l f q h
end
section
variable {ops:Array Oper} {F:Qi->Hp->Prop} {rest:List (Nat×Nat)} {i:Nat} {o:Oper}
def Stb(P:Program)(N:Nat)(sc:Nat->Prop)(M:Nat->Prop)(o:Oper)(env:Qi)(H:Hp)(v:Value):Prop:=
 ∀a w,Sat N sc env H a w->∀e,Chg M w e->(execOp a.eval o).run P e= .ok (.value v) e
def Pt{v:Value}(f:Ms P N sc o env H v):Stb P N sc (λ_=>False) o env H v:=λa w hs g e=>f a g (hs.chg0 e)
theorem st1{v:Value}(k:Nat){b:Nat}{t:TypeId}(y:lk H k=some (box b t cs))(D:Ms P N sc o env (drp k H) v):Stb P N sc (λx=>x=b) o env H v:=λa w hs n l=>by
 refine D a n ?_;have f:Sat N sc env (drp k H) a w:=⟨hs.size,hs.defers,hs.env,λi g hi=>hs.hold i g (Hx _ _ _ _ hi).2,
  λi j g G h hi u=>hs.sep i j g G h (Hx _ _ _ _ hi).2 (Hx _ _ _ _ u).2,λi g r hi=>hs.scope i g r (Hx _ _ _ _ hi).2⟩
 refine⟨f.size,f.defers,f.env,λi g hi=>?_,f.sep,f.scope⟩;obtain⟨h,m⟩:=Hx _ _ _ _ hi;refine g.stable w n (f.hold i g hi) ⟨l.os,l.tape,l.output,l.size,λq B z=>l.block q B (λe=>z (λs=>?_))⟩;subst e;exact hs.sep k i _ g (jG h) y m rfl q rfl s
theorem r0{d:Nat}{v:Value}(hs:Stb P N sc M o env H v)(l:ops[i]? = some o)(j:o.guard=none)(g:o.dst=some d)(f:Nat.blt d N=true)(h:LD P N sc M ops F rest ((d,v)::env) H) :
  LD P N sc M ops F ((i,0)::rest) env H:=⟨o,d,v,l,g,f,λa w e=>⟨by simp [Region.wanted,j],hs a w e⟩,h⟩
theorem r0g {d j e:Nat}  {v:Value} (hs:Stb P N sc M o env H v) (s:ops[i]? = some o) (q:o.guard=some (j,b)) (r:(ops[j]?).bind (·.dst)=some e) (n:lk env e=some (.bool b)) (m:o.dst=some d) 
  (h:LD P N sc M ops F rest ((d,v)::env) H) (g:Nat.blt e N=true:=by rfl) (l:Nat.blt d N=true:=by rfl) :
  LD P N sc M ops F ((i,0)::rest) env H:=⟨o,d,v,s,m,l,λa w f=>⟨by simp [Region.wanted,q,f.yielded r n g],hs a w f⟩,h⟩
theorem r1{G:Type}{φ:G->Prop}{e:G->Qi}{f:G->Hp}(m:T P N sc M o env H φ e f)(l:ops[i]? = some o)(j:o.guard=none)(h:∀g,φ g->LD P N sc M ops F rest (e g) (f g)) :
  LD P N sc M ops F ((i,1)::rest) env H:=⟨o,G,φ,e,f,l,λa w _=>by simp [Region.wanted,j],m,h⟩
theorem r1g {G:Type} {φ:G->Prop} {f:G->Qi} {m:G->Hp} {j e:Nat}  (u:T P N sc M o env H φ f m) (t:ops[i]? = some o) (r:o.guard=some (j,b)) (s:(ops[j]?).bind (·.dst)=some e) (q:lk env e=some (.bool b)) (n:Nat.blt e N=true)
  (h:∀g,φ g->LD P N sc M ops F rest (f g) (m g)) :
  LD P N sc M ops F ((i,1)::rest) env H:=⟨o,G,φ,f,m,t,λa w l=>by simp [Region.wanted,r,l.yielded s q n],u,h⟩
theorem r3{G:Type}{φ:G->Prop}{e:G->Qi}{f:G->Hp}(m:T P N sc (λ_=>True) o env H φ e f)(l:ops[i]? = some o)(j:o.guard=none)(h:∀g,φ g->LD P N sc M ops F rest (e g) (f g)) :
  LD P N sc M ops F ((i,3)::rest) env H:=⟨o,G,φ,e,f,l,λa w _=>by simp [Region.wanted,j],m,h⟩
theorem r2 {d j e:Nat}  (t:ops[i]? = some o) (r:o.guard=some (j,b)) (s:(ops[j]?).bind (·.dst)=some e) (q:lk env e=some (.bool b')) (g:(b' == b)=false) (l:Nat.blt e N=true) (n:o.dst=some d) (m:Nat.blt d N=true)
  (h:LD P N sc M ops F rest ((d,undef)::env) H) :
  LD P N sc M ops F ((i,2)::rest) env H:=⟨o,d,t,n,m,λa w f=>by simp [Region.wanted,r,f.yielded s q l];simpa using g,h⟩
def r_fin(h:F env H):LD P N sc M ops F [] env H:=h
theorem Am{o:Oper}{d:Nat}{v:Value}(h:Ms P N sc o env H v)(g:o.dst=some d)(f:Nat.blt d N=true:=by rfl):T P N sc M o env H (G:=Unit) (λ_=>True) (λ_=>(d,v)::env) (λ_=>H):=λa w hs K Q e=>by unfold Oper.wp;rw [h a w hs];show K (a.put o.dst v) w;rw [g];exact e () _ _ aA (hs.put d v f) (Chg.refl _ _)
end
def Yjh{G:Type}(N:Nat)(sc:Nat->Prop)(cs:Qi)(ch:Hp)(j:G->Qi)(h:G->Hp)(f:G->Prop)(μ:G->Nat)(g:G):Act->World->Prop:=
 λa w=>∃e,f e/\μ e<μ g/\Sat N sc (j e ++ cs) (h e ++ ch) a w
def e_lp  {G:Type} (cs:Qi) (ch:Hp) (j:G->Qi) (h:G->Hp) (a:G->Prop) (μ:G->Nat) (f:G) (m:a f) (hs:Sub (j f ++ cs) env) (l:HSub (h f ++ ch) H)
  (e:∀g,a g->E P N sc c (Exit.then (Yjh N sc cs ch j h a μ g) Q) (j g ++ cs) (h g ++ ch)) :
  E P N sc (.loop c) Q env H:=e_loop (λg=>j g ++ cs) (λg=>h g ++ ch) a μ f m hs l e
def x_rnd{G:Type}{cs:Qi}{l:G->Qi}{j:G->Hp}{h:G->Prop}{μ:G->Nat}{g:G}(e:G)(m:h e)(n:μ e<μ g)(hs:Sub (l e ++ cs) env)(q:HSub (j e ++ ch) H) :
  X N sc .normal (Exit.then (Yjh N sc cs ch l j h μ g) Q) env H:=λa w f=>⟨e,m,n,f.weaken hs q⟩
def JnK{G:Type}(N:Nat)(sc:Nat->Prop)(cs:Qi)(ch:Hp)(h:G->Qi)(f:G->Hp)(e:G->Prop):Act->World->Prop:=
 λa w=>∃g,e g/\Sat N sc (h g ++ cs) (f g ++ ch) a w
theorem e_jn {x y:Code} {G:Type} (cs:Qi) (ch:Hp) (m:G->Qi) (l:G->Hp) (h:G->Prop) (q:Sub cs env) (n:HSub ch H)
  (s:E P N sc x (Exit.then (JnK N sc cs ch m l h) Q) env H)
  (t:∀g,h g->E P N sc y Q (m g ++ cs) (l g ++ ch)):E P N sc (.seq x y) Q env H:=λa w hs=>by
 refine wp_seq (Code.wp_mono (λe a w j=>?_) (s a w hs));cases e with
 | normal=>obtain⟨g,r,f⟩:=j;exact t g r a w f
 | _=>exact j
def x_jn{G:Type}{cs:Qi}{j:G->Qi}{h:G->Hp}{f:G->Prop}(g:G)(l:f g)(hs:Sub (j g ++ cs) env)(m:HSub (h g ++ ch) H) :
  X N sc .normal (Exit.then (JnK N sc cs ch j h f) Q) env H:=λa w e=>⟨g,l,e.weaken hs m⟩
def Zr(hi:∀a w,Sat N sc env H a w->Sat N sc env' H' a w)(h:E P N sc c Q env' H'):E P N sc c Q env H:=λa w hs=>h a w (hi a w hs)
def Xg{e:Exit}(hi:∀a w,Sat N sc env H a w->Sat N sc env' H' a w)(h:X N sc e Q env' H'):X N sc e Q env H:=λa w hs=>h a w (hi a w hs)
def Nm{ops:Array Oper}{rest:List Oper}(hi:∀a w,Sat N sc env H a w->Sat N sc env' H' a w)(h:L P N sc ops rest Q env' H'):L P N sc ops rest Q env H:=λa w hs=>h a w (hi a w hs)
def Li{p:Prop}(e:∀a w,Sat N sc env H a w->p)(h:p->E P N sc c Q env H):E P N sc c Q env H:=λa w hs=>h (e a w hs) a w hs
def Yco{e:Exit}{p:Prop}(f:∀a w,Sat N sc env H a w->p)(h:p->X N sc e Q env H):X N sc e Q env H:=λa w hs=>h (f a w hs) a w hs
theorem Zof(i:Nat){q:Pc}(hi:lk H i=some p)(y:q.own=p.own)(t:∀w,p.holds w->q.holds w)(n:∀b,q.fp b->p.fp b)(B:Nat.beq i 0=false):∀a w,Sat N sc env H a w->Sat N sc env ((i,q)::H) a w:=λa w hs=>by
  have R:i≠0:=λe=>by subst e;simp at B
  refine⟨hs.size,hs.defers,hs.env,λj s f=>?_,λj I s z h f g G b r m=>?_,λj s D f b r=>?_⟩
  .by_cases l:i=j
   .subst l;rw [Zm]at f;cases f;exact t w (hs.hold i p hi)
   .rw [Zh l]at f;exact hs.hold j s f
  .by_cases l:i=j
   .subst l;rw [Zm]at f;cases f;rw [Zh h]at g;exact hs.sep i I p z h hi g (by rw [<-y];exact G) b (n b r) m
   .rw [Zh l]at f;by_cases u:i=I
    .subst u;rw [Zm]at g;cases g;exact hs.sep j i s p h f hi G b r (n b m)
    .rw [Zh u]at g;exact hs.sep j I s z h f g G b r m
  .by_cases l:i=j
   .subst l;rw [Zm]at f;cases f;exact hs.scope i p R hi b (n b r)
   .rw [Zh l]at f;exact hs.scope j s D f b r
theorem Nc{α:Type}{t:TypeId}{e:TypeId}{enc:α->Value}{v:Value}{xs:List α}(i:Nat)(hi:lk H i=some (On k e enc v xs))(s:Nat.beq i 0=false)(I:Enc P t k enc):∀a w,Sat N sc env H a w->Sat N sc env ((i,Yt k enc v xs)::H) a w:=λa w hs=>by
  have G:i≠0:=λe=>by subst e;simp at s
  refine⟨hs.size,hs.defers,hs.env,λj m f=>?_,λj D m z r f g y b l n=>?_,λj m u f b l=>?_⟩
  .by_cases h:i=j
   .subst h;rw [Zm]at f;cases f;have B:=hs.hold i _ hi;exact⟨Bo I.cells B,λb l=>(B.lt b l.2).2⟩
   .rw [Zh h]at f;exact hs.hold j m f
  .by_cases h:i=j
   .subst h;rw [Zm]at f;cases f;cases y
   .rw [Zh h]at f;by_cases q:i=D
    .subst q;rw [Zm]at g;cases g;exact hs.sep j i m _ r f hi y b l n.2
    .rw [Zh q]at g;exact hs.sep j D m z r f g y b l n
  .by_cases h:i=j
   .subst h;rw [Zm]at f;cases f;exact hs.scope i _ G hi b l.2
   .rw [Zh h]at f;exact hs.scope j m u f b l
abbrev U:Nat:=18446744073709551616
theorem Zii(n:Nat):IntKind.u64.wrap (n:Int)=((n%U:Nat):Int):=by rw [Znw];simp [U]
theorem Zde{n:Nat}(h:n<U):IntKind.u64.wrap (n:Int)=(n:Int):=by rw [Zii,aU h]
section
variable {o:Oper} {t t':TypeId} {x y:Operand} {m n:Nat}
theorem Bj(a:o.op= .binOp .add t x y t')(e:ev env x=some (.int .u64 (m:Int)))(f:ev env y=some (.int .u64 (n:Int))):Ms P N sc o env H (.int .u64 (((m+n)%U:Nat):Int)):=Da a e f λw=>by rw [<-Zii];simp [binOp,Op.intArith]
theorem Cn(a:o.op= .binOp .mul t x y t')(e:ev env x=some (.int .u64 (m:Int)))(f:ev env y=some (.int .u64 (n:Int))):Ms P N sc o env H (.int .u64 (((m*n)%U:Nat):Int)):=Da a e f λw=>by rw [<-Zii];simp [binOp,Op.intArith]
theorem Zea(a:o.op= .binOp .sub t x y t')(e:ev env x=some (.int .u64 (m:Int)))(f:ev env y=some (.int .u64 (n:Int)))(g:n<U:=by decide):Ms P N sc o env H (.int .u64 (((m+(U-n))%U:Nat):Int)):=Da a e f λw=>by
 have:((m:Int)-(n:Int))%18446744073709551616=(((m+(U-n))%U:Nat):Int):=by simp only [U]at *;omega
 rw [<-this,<-Znw];simp [binOp,Op.intArith]
theorem Yc0(j:o.op= .binOp .quo t x y t')(l:ev env x=some (.int .u64 (m:Int)))(q:ev env y=some (.int .u64 (n:Int)))(h:m<U:=by omega)(r:0<n:=by omega):Ms P N sc o env H (.int .u64 ((m/n:Nat):Int)):=Da j l q λw=>by
 have a:m/n<U:=bC (fV m n) h;have e:(m:Int).tdiv (n:Int)=((m/n:Nat):Int):=by rw [lE O];simp
 have f:=Zde a;have g:¬((n:Int)=0):=O;simp only [binOp,ne_eq,iX,mX,Op.intDiv,g,e,f,Sem.run_pure]
theorem u_rem(e:o.op= .binOp .rem t x y t')(f:ev env x=some (.int .u64 (m:Int)))(g:ev env y=some (.int .u64 (n:Int)))(h:0<n):Ms P N sc o env H (.int .u64 ((m%n:Nat):Int)):=Da e f g λw=>by
 have a:(m:Int).tmod (n:Int)=((m%n:Nat):Int):=by rw [lF O];simp
 simp [binOp,Op.intDiv,show ¬n=0 by omega,a]
theorem Zdn(m:Nat):BitVec.ofInt 64 (m:Int)=BitVec.ofNat 64 m:=by apply BitVec.eq_of_toNat_eq;simp
theorem Yj3(h:o.op= .binOp .or t x y t')(j:ev env x=some (.int .u64 (m:Int)))(l:ev env y=some (.int .u64 (n:Int)))(a:m<U)(e:n<U):Ms P N sc o env H (.int .u64 ((m ||| n:Nat):Int)):=Da h j l λw=>by
 have f:m ||| n<U:=jZ (n:=64) a e;have g:(BitVec.ofInt 64 (m:Int) ||| BitVec.ofInt 64 (n:Int)).toNat=m ||| n:=by rw [Zdn,Zdn,BitVec.toNat_or,jQ,jQ,aU a,aU e]
 simp only [binOp,ne_eq,iX,mX,Op.intBits,Sem.run_pure];rw [show(BitVec.ofInt IntKind.u64.bits (m:Int) ||| BitVec.ofInt IntKind.u64.bits (n:Int)).toNat=m ||| n from g,Zde f]
theorem Zq5(h:o.op= .binOp .and t x y t')(j:ev env x=some (.int .u64 (m:Int)))(l:ev env y=some (.int .u64 (n:Int)))(a:m<U:=by omega)(g:n<U:=by decide):Ms P N sc o env H (.int .u64 ((m &&& n:Nat):Int)):=Da h j l λw=>by
 have e:m &&& n<U:=bC Nat.and_le_left a;have f:(BitVec.ofInt 64 (m:Int) &&& BitVec.ofInt 64 (n:Int)).toNat=m &&& n:=by rw [Zdn,Zdn,BitVec.toNat_and,jQ,jQ,aU a,aU g]
 simp only [binOp,ne_eq,iX,mX,Op.intBits,Sem.run_pure];rw [show(BitVec.ofInt IntKind.u64.bits (m:Int) &&& BitVec.ofInt IntKind.u64.bits (n:Int)).toNat=m &&& n from f,Zde e]
theorem Zmj{k:IntKind}(j:o.op= .binOp .shl t x y t')(l:ev env x=some (.int .u64 (m:Int)))(q:ev env y=some (.int k n'))(e:n'=(n:Int))(r:n<=64:=by omega):Ms P N sc o env H (.int .u64 (((m*2^n)%U:Nat):Int)):=λa w hs=>by
 subst e;have f:min n 64=n:=O;have g:IntKind.u64.wrap ((m:Int)*2^n)=(((m*2^n)%U:Nat):Int):=by rw [<-Zii];simp
 have h:¬((n:Int)<0):=O;simp [execOp,j,hs.ev l,hs.ev q,eqGuard,binOp,Op.shift,IntKind.bits,f,g,h]
theorem Zmi{k:IntKind}(j:o.op= .binOp .shr t x y t')(l:ev env x=some (.int .u64 (m:Int)))(q:ev env y=some (.int k n'))(e:n'=(n:Int))(r:n<=64:=by omega):Ms P N sc o env H (.int .u64 ((m/2^n:Nat):Int)):=λa w hs=>by
 subst e;have f:min n 64=n:=O;have g:(m:Int).fdiv (2^n)=((m/2^n:Nat):Int):=by rw [Int.fdiv_eq_ediv_of_nonneg _ (by exact Int.pow_nonneg O)];simp
 have h:¬((n:Int)<0):=O;simp [execOp,j,hs.ev l,hs.ev q,eqGuard,binOp,Op.shift,IntKind.bits,f,g,h]
theorem Fq (n':Nat){k:IntKind}(e:o.op= .binOp .shr t x y t')(g:ev env x=some (.int .u64 (m:Int)))(h:ev env y=some (.int k (n:Int)))(a:Nat.ble n 64=true)(f:2^n=n'):Ms P N sc o env H (.int .u64 ((m/n':Nat):Int)):=by rw [<-f];exact Zmi e g h rfl (by simpa using a)
theorem Zgu{k:IntKind}{r:Int}{m:Int}(f:o.op= .convert t t' x)(j:ev env x=some (.int k m)){ds:TypeDesc}(e:P.underlying t=some ds)(h:P.underlying t'=some (.int k'))(g:k'.wrap m=r):Ms P N sc o env H (.int k' r):=λa w hs=>by subst g;cases ds<;>simp [execOp,f,hs.ev j,convert,run_underlying e,run_underlying h,Conv.intToInt]
end
theorem Zb5 {o:Oper} {x y:Operand}  {k:IntKind} {m n:Int} (e:o.op= .call { callee:= .builtin .max,args:=#[x,y],argTypes:=ats })
  (f:ev env x=some (.int k m)) (g:ev env y=some (.int k n)):Ms P N sc o env H (.int k (max m n)):=λa w hs=>by
 simp [execOp,e,resolve,hs.ev f,hs.ev g,invoke,builtin,Builtin.max_,Builtin.max2];by_cases h:n>m
 .rw [aF h];omega
 .rw [aD h];omega
def Gi(v:Value)(n:Nat):Value:=match v with
 | .slice a _ c=> .slice a n c
 | u=>u
theorem Gp(v:Value)(n:Nat):(Gi v n).ownBlock=v.ownBlock:=by
 cases v with
 | slice a l c=>cases a<;>rfl
 | _=>rfl
theorem d_pre (ii:Nat) {α:Type} {o:Oper} {x y:Operand} {t e:TypeId} {v:Value} {i:Nat}  {m:Int}  {enc:α->Value} {xs:List α} (l:o.op= .slice t x none (some y) none)
  (s:ev env x=some v) (u:ev env y=some (.int kd m)) (G:lk H ii=some p) (I:Rd p k enc v xs) (r:P.underlying t=some (.slice e)) (g:∀w,(sizeOf e).run P w= .ok k w)
   (h:m=(i:Int):=by omega) (j:i<=xs.length:=by omega):Ms P N sc o env H (Gi v i):=λa w hs=>by
 obtain⟨z,c,rfl,D,R,S⟩:=I w (hs.hold ii p G);subst h;have f:i<=c:=aB j D;have B:∀q:Addr,q.add 0=q:=λq=>by simp [Addr.add]
 cases z with
 | none=>simp [execOp,l,hs.ev s,hs.ev u,Instr.sliceAt,Instr.slice,Instr.sliceBounds,Instr.sliceBound,asIntOf,run_underlying r,g,f,Gi]
 | some q=>simp [execOp,l,hs.ev s,hs.ev u,Instr.sliceAt,Instr.slice,Instr.sliceBounds,Instr.sliceBound,asIntOf,run_underlying r,g,f,Gi,B]
theorem Zg6{α:Type}{enc:α->Value}{v:Value}{xs:List α}(n:Nat)(r:n<=xs.length)(h:RowAt w k enc v xs):RowAt w k enc (Gi v n) (xs.take n):=by
 obtain⟨a,c,rfl,q,l,e⟩:=h;have j:(xs.take n).length=n:=by rw [aS];omega
 refine⟨a,c,by rw [j];rfl,by rw [j];omega,l,?_⟩;rcases e with rfl|⟨g,f,rfl,e⟩
 .exact .inl O8
 .refine .inr ⟨g,f,rfl,λi x hi=>e i x ?_⟩;rw [cS]at hi;split at hi
  .exact hi
  .cases hi
theorem Zvx{α:Type}{v:Value}{xs:List α}{n b:Nat}(h:xs.take n≠[]/\(Gi v n).ownBlock=some b):xs≠[]/\v.ownBlock=some b:=
 ⟨λe=>h.1 (by rw [e,List.take_nil]),by rw [<-Gp v n];exact h.2⟩
theorem s_pre{α:Type}{enc:α->Value}{v:Value}{xs:List α}(i j n:Nat)(hi:lk H i=some (Yt k enc v xs))(l:Nat.beq i 0=false)(u:n<=xs.length:=by omega):∀a w,Sat N sc env H a w->Sat N sc env ((j,Yt k enc (Gi v n) (xs.take n))::H) a w:=
 λa w hs=>hs.add j _ ⟨Zg6 n u (hs.hold i _ hi).1,λb f=>(hs.hold i _ hi).2 b (Zvx f)⟩
  (λr B z q Lf b f h=>by
   rcases Lf with Lf|Lf
   .cases Lf
   .have s:=Zvx f;by_cases g:r=i
    .subst g;rw [hi]at q;cases q;cases Lf
    .exact hs.sep r i B _ g q hi Lf b h s)
  (λb f=>hs.scope i _ (λe=>by subst e;simp at l) hi b (Zvx f))
theorem Ylc{α:Type}{e:TypeId}{enc:α->Value}(s:∀x,(enc x).cells.size=k){v:Value}{xs:List α}(n:Nat)(u:n<=xs.length)(h:w.ownsRow 0 e k v xs.length (cellsOf enc xs)) :
  w.ownsRow 0 e k (Gi v n) (xs.take n).length (cellsOf enc (xs.take n)):=by
 have G:(xs.take n).length=n:=by rw [aS];omega
 refine⟨by rw [Xe s],?_⟩;rw [G];rcases h.2 with⟨rfl,S⟩|⟨g,f,j,rfl,B,D,I,l,q,a⟩
 .have:n=0:=O;subst this;exact .inl ⟨rfl,rfl⟩
 .refine .inr ⟨g,f,j,rfl,B,D,O,l,q,?_⟩;have z:∀(xs:List α) (n:Nat),n<=xs.length->cellsOf enc (xs.take n)=(cellsOf enc xs).take (n*k):=by
   intro xs
   induction xs with
   | nil=>intro n h;simp [cellsOf]
   | cons x r R=>
    intro n h;cases n with
    | zero=>simp [cellsOf]
    | succ n=>
     have:=R n (by simpa using h);simp only [cellsOf,kW,iA]at this ⊢;rw [this,show(n+1)*k=(enc x).cells.toList.length+n*k from by simp [s,bL];omega,kY]
  rw [z xs n u,<-a,kA,dY (aP k u)]
theorem s_opre{α:Type}{t:TypeId}{e:TypeId}{enc:α->Value}{v:Value}{xs:List α}(i n:Nat)(hi:lk H i=some (On k e enc v xs))(f:Nat.beq i 0=false)(j:Enc P t k enc)(l:n<=xs.length) :
  ∀a w,Sat N sc env H a w->Sat N sc env ((i,On k e enc (Gi v n) (xs.take n))::H) a w:=
 Zof i hi rfl (λw h=>Ylc j.cells n l h) (λb g=>by simpa [On,Gp]using g) f
theorem Ez{α:Type}{enc:α->Value}{v:Value}{xs:List α}(i:Nat)(hi:lk H i=some p)(e:Rd p k enc v xs):∀a w,Sat N sc env H a w->xs.length<=9223372036854775807:=λa w hs=>by obtain⟨f,c,rfl,g,h,_⟩:=e w (hs.hold i p hi);have j:maxLen=9223372036854775807:=rfl;omega
theorem Zdj(v:Value)(m n:Nat):Gi (Gi v m) n=Gi v n:=by cases v<;>rfl
theorem Yha{α:Type}{enc:α->Value}{v:Value}{xs:List α}(i:Nat)(hi:lk H i=some p)(e:Rd p k enc v xs):∀a w,Sat N sc env H a w->Gi v xs.length=v:=λa w hs=>by obtain⟨f,c,rfl,_⟩:=e w (hs.hold i p hi);rfl
end Go.Sky
namespace Go.Sky
open Go.RowKit Below
variable{f:FuncId}{vs:List Value}{pre r:List Pc}{args cs:Array Value}{o:Oper}{x y:Operand}{t tb:TypeId}{i k d:Nat}{v:Value}{w0:World}{M0:Nat->Prop}{ops:Array Oper}{rest:List Oper}{parts:Array (Nat×Operand)}
variable {P:Program} {N:Nat} {sc:Nat->Prop} {env env':Qi} {H H':Hp} {Q Q':Exit->Act->World->Prop} {M:Nat->Prop}
def Qf:Nat->List Value->Qi
  | _,[]=>[]
  | n,v::r=>(n,v)::Qf (n+1) r
def Yg:Nat->List Pc->Hp
  | _,[]=>[]
  | n,p::r=>(n,p)::Yg (n+1) r
def AllRo:List Pc->Prop
  | []=>True
  | p::r=>p.own=false/\AllRo r
theorem AllRo.mem:∀{l:List Pc},AllRo l->∀p∈l,p.own=false
  | p::r,h,q,a=>by
    cases a with
    | head=>exact h.1
    | tail _ a=>exact AllRo.mem h.2 q a
theorem Hu:∀(l:List Value) (n t:Nat) (v:Value),lk (Qf n l) t=some v->n<=t/\l[t-n]? = some v
  | [],_,_,_,h=>by cases h
  | u::r,n,t,v,h=>by
    simp only [Qf]at h;by_cases a:n=t
    . subst a;rw [Zm]at h;cases h;simp
    . rw [Zh a]at h;obtain⟨c,b⟩:=Hu r (n+1) t v h;refine⟨O,?_⟩;rw [show t-n=(t-(n+1))+1 by omega];simpa using b
theorem Ot:∀(l:List Pc) (n t:Nat) (v:Pc),lk (Yg n l) t=some v->n<=t/\v∈l
  | [],_,_,_,h=>by cases h
  | u::r,n,t,v,h=>by
    simp only [Yg]at h;by_cases a:n=t
    . subst a;rw [Zm]at h;cases h;simp
    . rw [Zh a]at h;obtain⟨c,b⟩:=Ot r (n+1) t v h;exact⟨O,bM _ b⟩
theorem cal_in  {fn:Func} {c:Code}   {al:Bool} {G:Type} {φ:G->Prop} {val:G->Value} {a:G->List Pc} {N:Nat}
    (u:P.funcs[f]? = some fn) (s:fn.body=some c) (n:fn.ntmps=N) (j:Nat.ble vs.length N=true) (l:AllRo pre)
    (h:∀w0 (sc:Nat->Prop),(∀b,w0.heap.size<=b->sc b)->(∀b,sc b->w0.heap.size<=b\/∃q∈pre,q.fp b)->
      E P N sc c (Zah P fn w0 pre al φ val a) (Qf 0 vs) ((0,Zt w0 (λ_=>False))::Yg 1 pre)) :
    Cal P f vs.toArray pre al φ val a:=
  Yce (λw0=>(0,Zt w0 (λ_=>False))::Yg 1 pre) u s n (env0:=Qf 0 vs) (λt v z=>by simpa using(Hu vs 0 t v z).2) (by simpa using j)
    (λw i p hi=>by
      by_cases g:0=i
      . subst g;rw [Zm]at hi;cases hi;exact .inl ⟨rfl,rfl⟩
      . rw [Zh g]at hi;obtain⟨_,m⟩:=Ot pre 1 i p hi;exact .inr ⟨λe=>g e.symm,m,l.mem p m⟩) h
theorem Cal.bare{al a:Bool}{G:Type}{φ:G->Prop}{val:G->Value}{c:G->List Pc}(h:Cal P f args pre al φ val c):Cal P f args pre a φ val (λ_=>[]):=
  λw b=>(h w b).mono λe n ⟨g,l,m,j,_⟩=>⟨g,l,m,j,λp b=>by cases b⟩
def Ones(N:Nat)(sc:Nat->Prop)(env:Qi)(H:Hp):List Value->Prop
  | []=>True
  | v::r=>One N sc env H v/\Ones N sc env H r
theorem Ones.mem:∀{l:List Value},Ones N sc env H l->∀u∈l,One N sc env H u
  | v::r,h,u,a=>by
    cases a with
    | head=>exact h.1
    | tail _ a=>exact Ones.mem h.2 u a
def t_stp    {b j:Nat} {cs':Array Value}     (q:o.op= .store t x y) (n:o.dst=none)
    (z:ev env x=some (.pointer (some ⟨b,j,none⟩))) (B:ev env y=some v) (l:lk H i=some (box b tb cs)) (e:i≠0) (s:v.cells=vs.toArray) (p:∀w,(sizeOf t).run P w= .ok k w) (c:vs.length=k)
    (a:Nat.ble (j+vs.length) cs.size=true) (h:Ones N sc env H vs)
    (g:lk H 0=some (Zt w0 M0)) (u:∀b,w0.heap.size<=b->sc b) (m:M b) :
    T P N sc M o env H (G:=Unit) (λ_=>True) (λ_=>env) (λ_=>(i,box b tb (Gr cs j vs))::H):=
  Zhu _ q n z B l e s p c (iV a) h.mem rfl g u m
theorem t_stw    {b:Nat}      (n:o.op= .store t x y) (l:o.dst=none)
    (u:ev env x=some (.pointer (some ⟨b,0,none⟩))) (z:ev env y=some v) (h:lk H i=some (box b tb cs)) (q:v.cells=vs.toArray) (m:∀w,(sizeOf t).run P w= .ok k w) (a:vs.length=k)
    (p:cs.size=k) (g:Ones N sc env H vs)
    (e:lk H 0=some (Zt w0 M0)) (s:∀b,w0.heap.size<=b->sc b) (j:M b) (c:i≠0:=by decide) :
    T P N sc M o env H (G:=Unit) (λ_=>True) (λ_=>env) (λ_=>(i,box b tb vs.toArray)::H):=
  Zhu _ n l u z h c q m a O g.mem (by unfold Gr;rw [eX,iP (by rw [eA];omega)];simp) e s j
theorem Ybw{al:Bool}{α:Type}{e:TypeId}{enc:α->Value}{xs ys:List α}(i:Nat)(hi:lk H i=some (On k e enc v xs))(b:Nat.beq i 0=false)(c:Enc P t k enc)(a:xs=ys)(h:Give H al r) :
    Give H al (Yt k enc v ys::r):=by subst a;exact Ygn i hi b c h
theorem Zk7{p q:Pc}(i:Nat)(hi:lk H i=some p)(b:Nat.beq i 0=false)(c:p.own=false)(a:p=q)(h:Give H true r) :
    Give H true (q::r):=by subst a;exact Gk i hi b c h
theorem Xx (d:Nat)    {b:Bool} (g:lk env d=some (.bool b))
    (j:b=true->L P N sc ops rest Q ((d,.bool true)::env) H) (h:b=false->L P N sc ops rest Q ((d,.bool false)::env) H):L P N sc ops rest Q env H:=by
  cases b with
  | true=>
    refine λa w hs=>j rfl a w ⟨hs.size,hs.defers,λt v c=>?_,hs.hold,hs.sep,hs.scope⟩;by_cases e:d=t
    . subst e;rw [Zm]at c;cases c;exact hs.env _ _ g
    . rw [Zh e]at c;exact hs.env _ _ c
  | false=>
    refine λa w hs=>h rfl a w ⟨hs.size,hs.defers,λt v c=>?_,hs.hold,hs.sep,hs.scope⟩;by_cases e:d=t
    . subst e;rw [Zm]at c;cases c;exact hs.env _ _ g
    . rw [Zh e]at c;exact hs.env _ _ c
theorem Ew (i:Nat)(n:Nat)(c:Nat) {α:Type}  {e:TypeId}    {m:Int}   {enc:α->Value} {ti:TypeInfo} (q:α)
    (V:o.op= .makeSlice t x y) (I:o.dst=some d) (Z:ev env x=some (.int .i64 m)) (hy:ev env y=some (.int .i64 m)) 
    (W:P.underlying t=some (.slice e)) (hi:P.info? e=some ti) (hz:ti.zero=some (enc q)) (R:∀x,(enc x).cells.size=k) (h:0<k) (l:ti.size=k) (j:ti.bytes=c)
     
    (u:lk H 0=some (Zt w0 M0)) (Y:∀b,w0.heap.size<=b->sc b) (B:Nat.blt d N=true:=by rfl) (S:m=(n:Int):=by omega) (D:c*n<=281474976710656:=by omega) (g:0<c:=by decide) :
    T P N sc M o env H (G:=Value) (λ_=>True) (λv=>(d,v)::env) (λv=>(i,On k e enc v (List.replicate n q))::H):=λa w hs K Q z=>
  t_mk q V I B Z hy S W hi hz R h l j D g u Y a w hs K Q λb s w' _ p F=>z (.slice (some ⟨b,0,none⟩) n n) s w' aA p F
def t_bsn {α:Type}  {e:TypeId} {n:Nat}      {enc:α->Value} (xs:List α)
    (B:o.op= .buildSlice t n parts) (q:o.dst=some d) (m:Nat.blt d N=true)
    (D:∀a w,Sat N sc env H a w->(Instr.buildSlice t n (parts.map λ(i,x)=>(i,a.eval x))).run P w= .ok (.slice (some ⟨w.heap.size,0,none⟩) n n) (w.alloc (.cells cs e)))
    (c:cs.toList=cellsOf enc xs) (z:xs.length=n) (s:∀x,(enc x).cells.size=k) (u:n<=maxLen)
    (j:lk H 0=some (Zt w0 M0)) (F:∀b,w0.heap.size<=b->sc b) :
    T P N sc M o env H (G:=Value) (λ_=>True) (λv=>(d,v)::env) (λv=>(i,On k e enc v xs)::H):=λa w hs K Q l=>
  t_bs xs B q m D c z s u j F a w hs K Q λb h I _ g p=>l (.slice (some ⟨b,0,none⟩) n n) h I aA g p
end Go.Sky
namespace Go.Sky
open Go.RowKit Below
variable{a b m:Nat}{o:Oper}{f:FuncId}{xs:List Operand}{ats:Array TypeId}{vs:List Value}{x y z:Operand}{t t':TypeId}{k:IntKind}{v:Value}{p:Pc}
variable {P:Program} {N:Nat} {sc:Nat->Prop} {env env':Qi} {H H':Hp} {Q Q':Exit->Act->World->Prop} {M:Nat->Prop}
def Zem:Array Value->Sem Value:=λc=>do
 let (x, y, b) ← Extern.MathBitsCarry.three "Sub64" c
 pure (Extern.MathBitsCarry.pair ((x+Extern.MathBitsCarry.m64-y-b)%Extern.MathBitsCarry.m64) (if x<y+b then 1 else 0))
theorem Ya4{P:Program}(x y c:Nat)(d:c<=1)(w:World) :
  (Zem #[.int .u64 x,.int .u64 y,.int .u64 c]).run P w =
   .ok (.tuple #[.int .u64 (((x+U-y-c)%U:Nat):Int),.int .u64 ((if x<y+c then 1 else 0:Nat):Int)]) w:=by
 have:c=0\/c=1:=O;rcases this with rfl|rfl<;>rfl
theorem Gg {a:Act} {w:World} (hs:Sat N sc env H a w)      (e:o.op= .call { callee:= .value (.func f),args:=xs.toArray,argTypes:=ats })
  (c:EvL env xs vs):(execOp a.eval o).run P w=(callFunc f vs.toArray).run P w:=by
 have d:=c.map hs;simp [execOp,e,resolve,invoke,Act.eval,Deferred.ofValue,d]
theorem Zp6 (c:Nat)      (i:o.op= .call { callee:= .value (.func f),args:=#[x,y,z],argTypes:=ats })
  (j:ev env x=some (.int .u64 (a:Int))) (l:ev env y=some (.int .u64 (b:Int))) (n:ev env z=some (.int .u64 (c:Int))) (q:c<=1)
  (d:∀args w,(callFunc f args).run P w=((add64Entry args).run P w).andThen λv w'=> .ok (.value v) w') :
  Ms P N sc o env H (.tuple #[.int .u64 (((a+b+c)%U:Nat):Int),.int .u64 (((a+b+c)/U:Nat):Int)]):=λs w hs=>by
 have h:=run_add64 (P:=P) (a:Int) b c O O O O w;have e:(((a:Int)+b+c)%18446744073709551616)=(((a+b+c)%U:Nat):Int):=by simp only [U];omega
 have g:(((a:Int)+b+c)/18446744073709551616)=(((a+b+c)/U:Nat):Int):=by simp only [U];omega
 rw [e,g]at h;rw [Gg hs (xs:=[x,y,z]) (vs:=[_,_,_]) i ⟨j,l,n,aA⟩,d,h];rfl
def brw(a b c:Nat):Nat:=if a<b+c then 1 else 0
theorem brw_le{c:Nat}:brw a b c<=1:=by unfold brw;split<;>omega
theorem Ym3     {c:Nat} (g:o.op= .call { callee:= .value (.func f),args:=#[x,y,z],argTypes:=ats })
  (i:ev env x=some (.int .u64 (a:Int))) (j:ev env y=some (.int .u64 (b:Int))) (l:ev env z=some (.int .u64 (c:Int))) (e:c<=1)
  (d:∀args w,(callFunc f args).run P w=((Zem args).run P w).andThen λv w'=> .ok (.value v) w') :
  Ms P N sc o env H (.tuple #[.int .u64 (((a+U-b-c)%U:Nat):Int),.int .u64 (brw a b c:Int)]):=λs w hs=>by
 have h:=Ya4 (P:=P) a b c e w;rw [Gg hs (xs:=[x,y,z]) (vs:=[_,_,_]) g ⟨i,j,l,aA⟩,d,h];rfl
theorem Zgj{ds:TypeDesc}(d:o.op= .convert t t' x)(g:ev env x=some (.int k (m:Int)))(c:P.underlying t=some ds)(e:P.underlying t'=some (.int .u8)) :
  Ms P N sc o env H (.int .u8 ((m%256:Nat):Int)):=Zgu d g c e (by simp [IntKind.wrap,IntKind.bits,IntKind.signed])
def Zwc{ds:TypeDesc}(e:o.op= .convert t t' x)(h:ev env x=some (.int k (m:Int)))(c:P.underlying t=some ds)(g:P.underlying t'=some (.int .u64))(d:m<U) :
  Ms P N sc o env H (.int .u64 (m:Int)):=Zgu e h c g (Zde d)
def Zc2{m:Int}{ds:TypeDesc}(e:o.op= .convert t t' x)(h:ev env x=some (.int k m))(c:P.underlying t=some ds)(g:P.underlying t'=some (.int .i64))(d:Mw m) :
  Ms P N sc o env H (.int .i64 m):=Zgu e h c g (Zei d)
theorem Ki(t:Nat){v':Value}(e:lk env t=some v)(h:v=v'):∀a w,Sat N sc env H a w->Sat N sc ((t,v')::env) H a w:=λa w hs=>by
 subst h;refine⟨hs.size,hs.defers,λs u c=>?_,hs.hold,hs.sep,hs.scope⟩;by_cases d:t=s
 .subst d;rw [Zm]at c;cases c;exact hs.env _ _ e
 .rw [Zh d]at c;exact hs.env _ _ c
theorem Kj(i j:Nat)(hi:lk H i=some p)(h:Nat.beq i 0=false)(n:p.own=false):∀a w,Sat N sc env H a w->Sat N sc env ((j,p)::H) a w:=λa w hs=>
 hs.add j p (hs.hold i p hi) (λq r _ l Lf b d g=>by
  rcases Lf with Lf|Lf
  .rw [n]at Lf;cases Lf
  .by_cases c:q=i
   .subst c;rw [hi]at l;cases l;rw [n]at Lf;cases Lf
   .exact hs.sep q i r p c l hi Lf b g d) (λb d=>hs.scope i p (λe=>by subst e;simp at h) hi b d)
theorem Zlx (P:Program)(w:World)(f:Value->ByteArray->Sem (ForInStep ByteArray))(c:∀(n:Nat) (r:ByteArray),f (.int .u8 (n:Int)) r=pure (.yield (r.push (UInt8.ofNat n)))):∀(l:List Nat) (s:ByteArray),
  (forIn (m:=Sem) (l.map λn:Nat=>Value.int .u8 (n:Int)) s f).run P w= .ok (l.foldl (λs n=>s.push (UInt8.ofNat n)) s) w
 | [],s=>rfl
 | n::r,s=>by have d:=Zlx P w f c r (s.push (UInt8.ofNat n));simp only [cQ,List.forIn_cons,c,Sem.run_bind,Sem.run_pure,Result.andThen_ok,gV];exact d
theorem Zk9:∀(l:List Nat) (s:ByteArray),l.foldl (λs n=>s.push (UInt8.ofNat n)) s=⟨s.data ++ (l.map UInt8.ofNat).toArray⟩
 | [],s=>O8
 | n::r,s=>by rw [gV,Zk9 r];simp [ByteArray.push]
theorem d_b2s  {e:TypeId}   {i:Nat}  {xs:List Nat} (W:o.op= .convert t t' x) (B:ev env x=some v) (S:lk H i=some p) (Y:Rd p 1 (λn:Nat=>Value.int .u8 (n:Int)) v xs)
  (Z:P.underlying t=some (.slice e)) (F:P.underlying t'=some .string) (V:P.underlying e=some (.int .u8)):Ms P N sc o env H (.string ⟨(xs.map UInt8.ofNat).toArray⟩):=λa w hs=>by
 obtain⟨D,c,rfl,h1,h2,I⟩:=Y w (hs.hold i p S);have s:(Conv.bytesToString (.slice D xs.length c)).run P w= .ok (.string ⟨(xs.map UInt8.ofNat).toArray⟩) w:=by
  cases D with
  | none=>
   rcases I with rfl|⟨g,G,h,_⟩
   .rfl
   .cases h
  | some q=>
   have d:(loadCells q xs.length).run P w= .ok (xs.map λn:Nat=>Value.int .u8 (n:Int)).toArray w:=by
    have:=run_loadCells_list (P:=P) w q (xs.map λn:Nat=>Value.int .u8 (n:Int)) (λj u l=>by
     rcases I with rfl|⟨g,G,h,R⟩
     .simp at l
     .cases h;rw [eY]at l;cases B:xs[j]? with
      | none=>rw [B]at l;cases l
      | some y=>
       rw [B]at l;cases l;have:=R j y B 0 (.int .u8 (y:Int)) rfl;rw [Px];simpa using this)
    simpa using this
   simp only [Conv.bytesToString,Sem.run_bind,d,Result.andThen_ok];simp only [List.forIn_toArray];rw [Zlx P w _ (λn r=>rfl) xs ByteArray.empty,Zk9];simp [ByteArray.empty,ByteArray.emptyWithCapacity];rfl
 have:(convert t t' (.slice D xs.length c)).run P w= .ok (.string ⟨(xs.map UInt8.ofNat).toArray⟩) w:=by simp only [convert,Sem.run_bind,run_underlying Z,run_underlying F,Result.andThen_ok,run_underlying V,s]
 simp only [execOp,W,hs.ev B];simp [this]
end Go.Sky
namespace Go.Sky
open Go.RowKit Below
variable{o:Oper}{f:FuncId}{xs:List Operand}{ats:Array TypeId}{d k:Nat}{vs:List Value}{pre:List Pc}{w0:World}{M0:Nat->Prop}{fn:Func}{v:Value}{x y:Operand}{t:TypeId}{p:Pc}{kd:IntKind}
variable {P:Program} {N:Nat} {sc:Nat->Prop} {env env':Qi} {H H':Hp} {Q Q':Exit->Act->World->Prop} {M:Nat->Prop}
def Yjp(P:Program)(f:FuncId)(args:Array Value)(pre:List Pc){G:Type}(φ:G->Prop)(val:G->Value)(a:G->Pc):Prop:=
 ∀w,(∀p∈pre,p.holds w)->Calls P f args w λe c=>∃g,e= .returned (val g)/\φ g/\Below w.heap.size w c/\(a g).holds c/\∀b,(a g).fp b->w.heap.size<=b
theorem Zik (n:Nat)        {G:Type} {φ:G->Prop} {val:G->Value} {s:G->Pc}  
  (W:Yjp P f vs.toArray pre φ val s)
  (ho:o.op= .call { callee:= .value (.func f),args:=xs.toArray,argTypes:=ats }) (Y:o.dst=some d) (V:Nat.blt d N=true)
  (h:EvL env xs vs) (l:∀args w,(callFunc f args).run P w= .ok (.enter f args) w) (r:PreOk H false pre)
  (R:lk H 0=some (Zt w0 M0)) (hw:∀b,w0.heap.size<=b->sc b) :
  T P N sc M o env H φ (λg=>(d,val g)::env) (λg=>(n,s g)::H):=λa w hs K Q S=>by
 have hr:(execOp a.eval o).run P w= .ok (.enter f vs.toArray) w:=by rw [Gg hs ho h,l]
 unfold Oper.wp;rw [hr];refine(W w (λp hp=>by obtain⟨i,s,_,hi,q,_,_⟩:=r.mem p hp;exact q w (hs.hold i s hi))).mono ?_
 rintro e I ⟨g,rfl,Z,c,B,m⟩;show K (a.put o.dst (val g)) I;rw [Y];have D:Sat N sc env H a I:=hs.chg0 (Chg.of_below c);refine S g _ _ Z (Sat.put (D.add n (s g) B (λj F _ hj _ b u z=>?_) (λb u=>hw b (aB (hs.hold 0 _ R).size (m b u)))) d _ V) (Chg.of_below c);have:=F.lt w b (hs.hold j F hj) z;have:=m b u;omega
def Yjk(P:Program)(fn:Func)(w0:World){G:Type}(φ:G->Prop)(val:G->Value)(a:G->Pc):Exit->Act->World->Prop:=
 bodyPost P fn λe c=>∃g,e= .returned (val g)/\φ g/\Below w0.heap.size w0 c/\(a g).holds c/\∀b,(a g).fp b->w0.heap.size<=b
theorem Zqg   {c:Code}   {G:Type} {φ:G->Prop} {val:G->Value} {F:G->Pc} {N:Nat}
  (S:P.funcs[f]? = some fn) (g:fn.body=some c) (I:fn.ntmps=N) (n:Nat.ble vs.length N=true) (B:AllRo pre)
  (h:∀w0 (sc:Nat->Prop),(∀b,w0.heap.size<=b->sc b)->(∀b,sc b->w0.heap.size<=b\/∃q∈pre,q.fp b)->
   E P N sc c (Yjk P fn w0 φ val F) (Qf 0 vs) ((0,Zt w0 (λ_=>False))::Yg 1 pre)) :
  Yjp P f vs.toArray pre φ val F:=λw W=>by
 refine calls_of_wp S g (h w (λb=>w.heap.size<=b\/∃q∈pre,q.fp b) (λb g=> .inl g) (λb g=>g) _ w ?_);have n:vs.length<=N:=by simpa using n
 have a:∀i p,lk ((0,Zt w (λ_=>False))::Yg 1 pre) i=some p->(i=0/\p=Zt w (λ_=>False))\/(i≠0/\p∈pre/\p.own=false):=λi p hi=>by
   by_cases m:0=i
   .subst m;rw [Zm]at hi;cases hi;exact .inl ⟨rfl,rfl⟩
   .rw [Zh m]at hi;obtain⟨_,l⟩:=Ot pre 1 i p hi;exact .inr ⟨λe=>m e.symm,l,B.mem p l⟩
 refine⟨by simp [I];omega,rfl,λt v Y=>?_,λi p hi=>?_,λi j p q V hi Z z b g R=>?_,λi p s hi b g=>?_⟩
 .have D:vs.toArray[t]? = some v:=by simpa using(Hu vs 0 t v Y).2
  have u:=(aO.1 D).1;rw [bK,eQ u,D];rfl
 .rcases a i p hi with⟨_,rfl⟩|⟨_,l,_⟩
  .exact Chg.refl _ w
  .exact W p l
 .rcases a i p hi with⟨_,rfl⟩|⟨_,l,r⟩
  .cases z
  .rw [r]at z;cases z
 .rcases a i p hi with⟨m,_⟩|⟨_,l,_⟩
  .exact absurd m s
  .exact .inr ⟨p,l,g⟩
theorem Zgs  {G:Type} {φ:G->Prop} {val:G->Value} {m:G->Pc}  {e:Exit} (B:e= .ret\/e= .normal)
  (g:G)  (l:∀a w,Sat N sc env H a w->(results fn a.tmps).run P w= .ok v w) (I:val g=v) (D:φ g) (u:lk H 0=some (Zt w0 (λ_=>False)))
  (i:Nat) (r:Nat.beq i 0=false) (hi:lk H i=some (m g)) (j:(m g).own=true) :
  X N sc e (Yjk P fn w0 φ val m) env H:=λa w hs=>by
 have c:i≠0:=λe=>by subst e;simp at r
 have n:a.defers=[]/\∃v,(results fn a.tmps).run P w= .ok v w/\(∃g,Ending.returned v= .returned (val g)/\φ g/\Below w0.heap.size w0 w/\(m g).holds w/\∀b,(m g).fp b->w0.heap.size<=b):=by
  refine⟨hs.defers,v,l a w hs,g,by rw [I],D,Iy (hs.hold 0 _ u),hs.hold i _ hi,λb z=>?_⟩;have F:=hs.sep i 0 _ _ c hi u j b z;rcases aX b w0.heap.size with s|q
  .exact absurd ⟨s,λh=>h⟩ F
  .exact q
 rcases B with rfl|rfl
 .exact n
 .exact n
theorem Zp5{α:Type}{s e:TypeId}{i:Nat}{enc:α->Value}{xs:List α}(g:o.op= .binOp .eql t x y s)(j:ev env x=some v)(l:ev env y=some (.slice none 0 0))(m:lk H i=some p)(n:Rd p k enc v xs)(r:P.underlying t=some (.slice e)) :
  Ms P N sc o env H (.bool (v.ownBlock.isNone)):=λa w hs=>by
 obtain⟨b,c,rfl,_⟩:=n w (hs.hold i p m);have h:=Lib.run_eql_slice_nil (P:=P) w t e b xs.length c 0 0 r;cases b with
 | none=>simp [execOp,g,hs.ev j,hs.ev l,eqGuard,h,Value.ownBlock]
 | some q=>simp [execOp,g,hs.ev j,hs.ev l,eqGuard,h,Value.ownBlock]
theorem Fs (i:Nat)(j:Nat)(r:Nat) {α:Type}   {e:TypeId}  {u:Value} {enc:α->Value} {xs ys:List α}  {ti:TypeInfo} {z:Value}  
  (ho:o.op= .call { callee:= .builtin .append,args:=#[x,y],argTypes:=#[t,t] }) (hd:o.dst=some d) (hN:Nat.blt d N=true)
  (hx:ev env x=some v) (hy:ev env y=some u) (Y:lk H i=some (On k e enc v xs)) (F:i≠0) (hj:lk H j=some p) (hr:Rd p k enc u ys)
  (ht:P.underlying t=some (.slice e)) (hi:P.info? e=some ti) (hz:ti.zero=some z) (he:Enc P e k enc) (a2:ti.size=k) (a1:ti.bytes=r) (a4:z.cells.size=k)
  (Z:(xs.length+ys.length)*r<=140737488355328) (B:0<r)
  (h0:lk H 0=some (Zt w0 M0)) (hw:∀b,w0.heap.size<=b->sc b) :
  T P N sc (λ_=>True) o env H (G:=Value) (λ_=>True) (λv'=>(d,v')::env) (λv'=>(i,On k e enc v' (xs ++ ys))::H):=by
 by_cases S:ys=[]
 .subst S;intro a w hs K Q hK;have l:w.ownsRow 0 e k v xs.length (cellsOf enc xs):=hs.hold i _ Y;obtain⟨V,c,rfl,h1,h2,h3⟩:=hr w (hs.hold j p hj);have I:∃m n s,v= .slice m n s/\n=xs.length/\n<=s:=by
   rcases l.2 with⟨rfl,hn⟩|⟨g,W,a5,rfl,_,_,h,_⟩
   .exact⟨none,0,0,rfl,hn.symm,aI _⟩
   .exact⟨_,_,W,rfl,rfl,h⟩
  obtain⟨m,n,s,rfl,rfl,h⟩:=I;have R:(Builtin.append_ #[t,t] o.type #[.slice m xs.length s,.slice V ([]:List α).length c]).run P w= .ok (.slice m xs.length s) w:=by
   have D:(Builtin.firstCells ti.size 0 (.slice V 0 c)).run P w= .ok #[] w:=by
    cases V with
    | none=>rfl
    | some q=>simp [Builtin.firstCells,loadCells,loadCellsFrom]
   cases m with
   | none=>simp [Builtin.append_,run_underlying ht,sizeOf,typeInfo,hi,Builtin.lenOf,D,h]
   | some q=>simp [Builtin.append_,run_underlying ht,sizeOf,typeInfo,hi,Builtin.lenOf,D,h,storeCells]
  have a3:(execOp a.eval o).run P w= .ok (.value (.slice m xs.length s)) w:=by simp only [execOp,ho,resolve,invoke,builtin,Sem.run_bind,Sem.run_pure,Result.andThen_ok,gN,cQ,iQ,hs.ev hx,hs.ev hy,R]
  unfold Oper.wp;rw [a3];show K (a.put o.dst _) _;rw [hd];refine hK _ _ _ aA ((Sat.upd hs Y rfl F (q:=On k e enc (.slice m xs.length s) (xs ++ [])) (Chg.refl _ w) ?_ (λb Z=> .inl Z) h0 hw).put d _ hN) (Chg.refl _ w);rw [iT];exact l
 .exact t_app (i2:=0) ho hd hN hx hy Y F hj hr S ht hi hz he a2 a1 a4 Z B h0 hw
def Af(v:Value)(n k:Nat):Value:=match v with
 | .slice a l c=> .slice (if c=n then a else a.map (·.add (n*k))) (l-n) (c-n)
 | u=>u
theorem Zee(v:Value)(n k:Nat):(Af v n k).ownBlock=v.ownBlock:=by
 cases v with
 | slice a l c=>
  cases a with
  | none=>simp only [Af];split<;>rfl
  | some q=>
   simp only [Af];split
   .rfl
   .simp only [Option.map_some,Value.ownBlock,Addr.add];split<;>rfl
 | _=>rfl
theorem d_suf (ii:Nat)(i:Nat) {α:Type}   {e:TypeId}    {m:Int}  {enc:α->Value} {xs:List α} (n:o.op= .slice t x (some y) none none)
  (s:ev env x=some v) (u:ev env y=some (.int kd m)) (j:lk H ii=some p) (q:Rd p k enc v xs) (r:P.underlying t=some (.slice e)) (h:∀w,(sizeOf e).run P w= .ok k w)
  (b:m=(i:Int)) (g:i<=xs.length:=by omega):Ms P N sc o env H (Af v i k):=λa w hs=>by
 obtain⟨z,c,rfl,B,D,F⟩:=q w (hs.hold ii p j);subst b;have l:(i:Int)<=(xs.length:Int):=O;simp [execOp,n,hs.ev s,hs.ev u,Instr.sliceAt,Instr.slice,Instr.sliceBounds,Instr.sliceBound,asIntOf,run_underlying r,h,g,Af]
theorem Zg5{α:Type}{w:World}{enc:α->Value}{xs:List α}(n:Nat)(z:n<=xs.length)(h:RowAt w k enc v xs):RowAt w k enc (Af v n k) (xs.drop n):=by
 obtain⟨a,c,rfl,r,s,l⟩:=h;refine⟨if c=n then a else a.map (·.add (n*k)),c-n,by simp only [Af,eH],by rw [eH];omega,O,?_⟩;by_cases b:xs.drop n=[]
 .exact .inl b
 .have m:n<xs.length:=by
   rcases aX n xs.length with h|h
   .exact h
   .exact absurd (iP h) b
  rcases l with rfl|⟨g,e,rfl,l⟩
  .simp at m
  .refine .inr ⟨g,e+n*k,?_,λi x hi j u q=>?_⟩
   .rw [aD O];simp [Px]
   .rw [gO]at hi;have:=l (n+i) x hi j u q;rw [bL]at this;rw [fY e,<-this]
theorem Zvw{α:Type}{xs:List α}{n b:Nat}(h:xs.drop n≠[]/\(Af v n k).ownBlock=some b):xs≠[]/\v.ownBlock=some b:=
 ⟨λe=>h.1 (by rw [e,List.drop_nil]),by rw [<-Zee v n k];exact h.2⟩
theorem s_suf{α:Type}{enc:α->Value}{xs:List α}(i j n:Nat)(hi:lk H i=some (Yt k enc v xs))(l:Nat.beq i 0=false)(s:n<=xs.length:=by omega):∀a w,Sat N sc env H a w->Sat N sc env ((j,Yt k enc (Af v n k) (xs.drop n))::H) a w:=
 λa w hs=>hs.add j _ ⟨Zg5 n s (hs.hold i _ hi).1,λb c=>(hs.hold i _ hi).2 b (Zvw c)⟩
  (λq z u m Lf b c h=>by
   rcases Lf with Lf|Lf
   .cases Lf
   .have r:=Zvw c;by_cases g:q=i
    .subst g;rw [hi]at m;cases m;cases Lf
    .exact hs.sep q i z _ g m hi Lf b h r)
  (λb c=>hs.scope i _ (λe=>by subst e;simp at l) hi b (Zvw c))
end Go.Sky
namespace Go.Sky
open Go.RowKit Below
variable{o:Oper}{t:TypeId}{parts:List (Nat×Operand)}{cells cs:Array Value}{z:Value}{k d:Nat}{w0:World}{M0:Nat->Prop}
variable {P:Program} {N:Nat} {sc:Nat->Prop} {env env':Qi} {H H':Hp} {Q Q':Exit->Act->World->Prop} {M:Nat->Prop}
def EvP(e:Qi):List (Nat×Operand)->List (Nat×Value)->Prop
 | [],[]=>True
 | (i,x)::r,(j,v)::vs=>i=j/\ev e x=some v/\EvP e r vs
 | _,_=>False
theorem EvP.map{a:Act}{w:World}(h:Sat N sc env H a w):∀{xs:List (Nat×Operand)} {vs:List (Nat×Value)},EvP env xs vs->xs.map (λ(i,x)=>(i,a.eval x))=vs
 | [],[],_=>rfl
 | (i,x)::r,(j,v)::vs,hh=>by obtain⟨rfl,b,c⟩:=hh;simp only [cQ,h.ev b,EvP.map h c]
 | [],_::_,hh=>hh.elim
 | _::_,[],hh=>hh.elim
theorem Xt (b:List (Nat×Value))      (e:o.op= .build t parts.toArray) (f:EvP env parts b)
  (c:∀a w,Sat N sc env H a w->P.built t b=some cells):Ms P N sc o env H (.agg cells):=λa w hs=>by
 have h:=run_build (P:=P) w t (parts.toArray.map λ(i,x)=>(i,a.eval x)) cells (by rw [gN,f.map hs];exact c a w hs);simp only [execOp,e,Sem.run_bind,h,Result.andThen_ok,Sem.run_pure]
 try rfl
theorem Xz  {b:TypeInfo} {a:Array Field}  {pl:List (Nat×Nat)} {parts:List (Nat×Value)}  (hi:P.info? t=some b) (g:P.underlying t=some (.struct a)) (h:b.zero=some z)
  (e:a.toList.mapM (λf=>(P.info? f.type).map λi=>(f.offset,i.size))=some pl) (c:Instr.fill (pl.toArray[·]?) z.cells parts=some cells):P.built t parts=some cells:=by
 unfold Program.built;simp only [hi,g,h,e,c]
theorem Zic(w:World)(t e:TypeId)(a:P.underlying t=some (.slice e))(hs:∀w,(sizeOf e).run P w= .ok k w) :
  (Instr.buildSlice t 0 #[]).run P w= .ok (.slice (some ⟨w.heap.size,0,none⟩) 0 0) (w.alloc (.cells #[] e)):=by
 simp [Instr.buildSlice,run_underlying a,hs,Instr.fill,newRow];rw [show(Array.range 0)=#[] by decide,Array.map_empty]
theorem Oe (c:List (Nat×Value))(i:Nat) {α:Type}  {e:TypeId} {n:Nat}       {enc:α->Value} {ti:TypeInfo}  (xs:List α)
  (u:o.op= .buildSlice t n parts.toArray) (m:o.dst=some d) (B:EvP env parts c)
  (y:P.underlying t=some (.slice e)) (hi:P.info? e=some ti) (F:ti.zero=some z) (h:Nat.ble (n*ti.size) 16777216=true) 
  (p:Instr.fill (λi=>some (i*ti.size,ti.size)) ((List.range (n*ti.size)).map (z.cells[· % z.cells.size]!)).toArray c=some cs)
  (g:cs.toList=cellsOf enc xs) (s:xs.length=n) (q:∀x,(enc x).cells.size=k) (r:Nat.ble n 16777216=true)
  (j:lk H 0=some (Zt w0 M0)) (D:∀b,w0.heap.size<=b->sc b) (l:Nat.blt d N=true:=by rfl) (f:Nat.blt 0 (n*ti.size)=true:=by rfl) :
  T P N sc M o env H (G:=Value) (λ_=>True) (λv=>(d,v)::env) (λv=>(i,On k e enc v xs)::H):=
 t_bsn xs u m l (λa w hs=>run_buildSlice w t e n _ cs ti z y hi F (by have:=iV h;omega) (by have:=Nat.blt_eq▸f;simp at f;omega) (by rw [show(parts.toArray.map λ(i,x)=>(i,a.eval x)).toList=c by rw [gN,B.map hs],show(Array.range (n*ti.size)).map (z.cells[· % z.cells.size]!)=((List.range (n*ti.size)).map (z.cells[· % z.cells.size]!)).toArray by rw [<-gN,<-Array.toList_range,Array.toArray_toList]];exact p)) g s q (by have:=iV r;simp only [maxLen];omega) j D
theorem Yc7 (i:Nat) {α:Type}  {e:TypeId}     {enc:α->Value} 
  (j:o.op= .buildSlice t 0 #[]) (h:o.dst=some d) (g:Nat.blt d N=true) (l:P.underlying t=some (.slice e)) (c:Enc P e k enc)
  (f:lk H 0=some (Zt w0 M0)) (m:∀b,w0.heap.size<=b->sc b) :
  T P N sc M o env H (G:=Value) (λ_=>True) (λv=>(d,v)::env) (λv=>(i,On k e enc v [])::H):=
 t_bsn (n:=0) (cs:=#[]) (parts:=#[]) [] j h g (λa w hs=>by rw [Array.map_empty];exact Zic w t e l c.size) rfl rfl c.cells (by simp [maxLen]) f m
theorem Hb{α:Type}(i k:Nat)(e:TypeId)(enc:α->Value):∀a w,Sat N sc env H a w->Sat N sc env ((i,On k e enc (.slice none 0 0) [])::H) a w:=λa w hs=>
 hs.add i _ ⟨by simp [cellsOf],.inl ⟨rfl,rfl⟩⟩ (λj l g h Lf b c f=>by cases c) (λb c=>by cases c)
theorem Yhb{α:Type}{enc:α->Value}{v:Value}{xs:List α}{p:Pc}(i:Nat)(hi:lk H i=some p)(e:Rd p k enc v xs):∀a w,Sat N sc env H a w->(v.ownBlock=none->xs=[]):=λa w hs h=>by
 obtain⟨j,c,rfl,l,m,b⟩:=e w (hs.hold i p hi);rcases b with b|⟨g,f,rfl,_⟩
 .exact b
 .cases h
end Go.Sky
namespace Go.Sky
variable{t te:TypeId}{k i lo:Nat}{v u:Value}{xs:List Nat}{o:Oper}{x y:Operand}{p:Pc}{r:List Pc}{w w0:World}{cur:Array Value}{M0:Nat->Prop}
abbrev Md (n:Nat):Value:= .int .u64 (n:Int)
abbrev Yb2 (n:Nat):Value:= .int .u8 (n:Int)
abbrev Ymt (n:Nat):Value:= .int .i64 (n:Int)
abbrev Xf (n:Int):Value:= .int .i64 n
theorem Zdg(xs:List Nat):(tz xs).length<=xs.length/\xs.take (tz xs).length=tz xs:=by
 induction hn:xs.length generalizing xs with
 | zero=>
   have:xs=[]:=aG hn;subst this;simp [tz]
 | succ n d=>
  rcases Zbi xs with rfl|⟨b,y,rfl⟩
  .simp at hn
  .by_cases a:y=0
   .subst a;rw [Lu];obtain⟨e,c⟩:=d b (by simpa using hn);have f:b.length=n:=by simpa using hn
    exact⟨O,by rw [fF O];exact c⟩
   .rw [Hk a];exact⟨O,bT⟩
theorem Zj4{P:Program}{N:Nat}{sc:Nat->Prop}{env:Qi}{H:Hp}{enc:Nat->Value}{e:TypeId}(i:Nat)(hi:lk H i=some (On k e enc v xs))(b:Nat.beq i 0=false)(c:Enc P t k enc) :
  ∀a w,Sat N sc env H a w->Sat N sc env ((i,On k e enc (Gi v (tz xs).length) (tz xs))::H) a w:=by
 have h:=s_opre (N:=N) (sc:=sc) (env:=env) i (tz xs).length hi b c (Zdg xs).1;rwa [(Zdg xs).2]at h
abbrev Eu (v:Value) (x:Nat):Pc:=Yt 1 Md v (dg U x)
theorem Xm:2<=U:=by simp [U]
def Xo(x:Nat):ByteArray:=⟨((dg 256 x).reverse.map UInt8.ofNat).toArray⟩
theorem Fk(x:Nat):(Xo x).size=(dg 256 x).length:=by simp [Xo,ByteArray.size]
theorem Zua(x i:Nat)(h:i<(dg 256 x).length):((Xo x).data.toList.getD i 0).toNat=x/256^((dg 256 x).length-1-i)%256:=by
 have c:i<((dg 256 x).reverse.map UInt8.ofNat).length:=by simpa using h
 have d:(Xo x).data.toList=(dg 256 x).reverse.map UInt8.ofNat:=by simp [Xo]
 rw [d];simp only [List.getD,aM c,fC,List.getElem_map,List.getElem_reverse];have a:=Fb (b:=256) O ((dg 256 x).length-1-i) x;have e:(dg 256 x).length-1-i<(dg 256 x).length:=O;rw [show(dg 256 x).getD ((dg 256 x).length-1-i) 0=(dg 256 x)[(dg 256 x).length-1-i] by simp [List.getD,e]]at a;rw [a];simp
open Go.RowKit Below
variable {P:Program} {N:Nat} {sc:Nat->Prop} {env env':Qi} {H H':Hp} {Q Q':Exit->Act->World->Prop} {M:Nat->Prop}
theorem d_mid {α:Type}  {z:Operand} {e:TypeId}  {ii j:Nat} {S l:IntKind} {m n:Int}  {enc:α->Value} {xs:List α} (B:o.op= .slice t x (some y) (some z) none)
  (G:ev env x=some v) (I:ev env y=some (.int S m)) (R:ev env z=some (.int l n)) (s:lk H ii=some p) (D:Rd p k enc v xs) (F:P.underlying t=some (.slice e)) (h:∀w,(sizeOf e).run P w= .ok k w)
  (d:m=(i:Int)) (f:n=(j:Int)) (b:i<=j) (g:j<=xs.length):Ms P N sc o env H (Gi (Af v i k) (j-i)):=λa w hs=>by
 obtain⟨V,c,rfl,W,Y,Z⟩:=D w (hs.hold ii p s);subst d f;have h4:¬(c:Int)<(j:Int):=O;have h5:¬(j:Int)<(i:Int):=O;have q:j<=c:=O;simp [execOp,B,hs.ev G,hs.ev I,hs.ev R,Instr.sliceAt,Instr.slice,Instr.sliceBounds,Instr.sliceBound,asIntOf,run_underlying F,h,g,b,q,Af,Gi]
theorem Zdi {α:Type}  {e:TypeId} {enc:α->Value}  {xs ys:List α}   (i:Nat) (hi:lk H i=some (On k e enc v xs)) (f:Nat.beq i 0=false) (j:Enc P t k enc)
  (c:∀w,RowAt w k enc v xs->RowAt w k enc u ys) (a:u.ownBlock=v.ownBlock) (h:PreOk H false r):PreOk H false (Yt k enc u ys::r):=
 ⟨⟨i,_,λe=>by subst e;simp at f,hi,λw g=>⟨c w (Bo j.cells g),λb d=>(g.lt b (by rw [<-a];exact d.2)).2⟩,λb d=>a.symm.trans d.2,λh=>by cases h⟩,h⟩
theorem Zir{α:Type}{enc:α->Value}{xs:List α}(lo hi:Nat)(a:lo<=hi:=by omega)(b:hi<=xs.length:=by omega):∀w,RowAt w k enc v xs->RowAt w k enc (Gi (Af v lo k) (hi-lo)) ((xs.drop lo).take (hi-lo)):=
 λw h=>Zg6 _ (by rw [eH];omega) (Zg5 lo O h)
theorem Zi9{n:Nat}:(Gi (Af v lo k) n).ownBlock=v.ownBlock:=by rw [Gp,Zee]
theorem Yee{enc:Nat->Value}{ys zs:List Nat}{n:Nat}(a:tz ys=zs)(b:n=zs.length)(h:∀w,RowAt w k enc v xs->RowAt w k enc u ys):∀w,RowAt w k enc v xs->RowAt w k enc (Gi u n) zs:=λw c=>by have:=Zg6 zs.length (by rw [<-a];exact(Zdg ys).1) (h w c);rw [<-a,(Zdg ys).2]at this;rw [b,<-a];exact this
theorem Zqe{α:Type}{enc:α->Value}(a:∀x,(enc x).cells.size=k)(xs:List α)(n:Nat)(c:n<=xs.length):cellsOf enc (xs.take n)=(cellsOf enc xs).take (n*k):=by
 have h:=Ky enc (xs.take n) (xs.drop n);rw [fH]at h;have b:(cellsOf enc (xs.take n)).length=n*k:=by rw [Xe a,aS,dY c]
 rw [h,<-b,mY]
def spl{α:Type}(xs:List α)(lo:Nat)(ys:List α):List α:=xs.take lo ++ ys ++ xs.drop (lo+ys.length)
theorem Ii{α:Type}{xs:List α}{ys:List α}(h:lo+ys.length<=xs.length):(spl xs lo ys).length=xs.length:=by simp [spl];omega
theorem Ylb {α:Type}  {g a:Nat}   {e:TypeId} {enc:α->Value} {xs ys:List α} (m:∀x,(enc x).cells.size=k) (lo:Nat) (d:lo+ys.length<=xs.length)
  (V:w.heap[g]? = some (.cells cur e (0,0))) (l:xs.length<=a) (n:a<=maxLen) (s:cur.size=a*k) (f:cur.toList.take (xs.length*k)=cellsOf enc xs) :
  (w.setRow g (cur.toList.take (lo*k) ++ cellsOf enc ys ++ cur.toList.drop (lo*k+(cellsOf enc ys).length)).toArray).ownsRow 0 e k (.slice (some ⟨g,0,none⟩) xs.length a) (spl xs lo ys).length (cellsOf enc (spl xs lo ys)):=by
 have c:cur.toList.length=a*k:=by rw [eA,s]
 have b:=Xe m ys;have z:(lo+ys.length)*k<=xs.length*k:=aP _ d;have G:xs.length*k<=a*k:=aP _ l;rw [bL]at z;refine⟨by rw [Xe m],.inr ⟨g,a,_,by rw [Ii d],bI _,setRow_heap w g cur _ e _ V,by rw [Ii d];exact l,n,?_,?_⟩⟩
 .simp only [iY,bE,aS,eH,c,b];omega
 .rw [Ii d];have I:cellsOf enc (xs.take lo)=cur.toList.take (lo*k):=by rw [Zqe m xs lo O,<-f,kA,dY O]
  have R:cellsOf enc (xs.drop (lo+ys.length))=(cur.toList.take (xs.length*k)).drop ((lo+ys.length)*k):=by have h:=Ky enc (xs.take (lo+ys.length)) (xs.drop (lo+ys.length));rw [fH,<-f]at h;rw [h];exact(List.drop_left' (by rw [Xe m,aS,dY d])).symm
  rw [spl,Ky,Ky,I,R,b,bL];apply iW;intro q;have j:(cur.toList.take (lo*k)).length=lo*k:=by rw [aS,c];omega
  by_cases B:q<xs.length*k
  .rw [cS,aF B];by_cases S:q<lo*k+ys.length*k
   .have D:∀C,((cur.toList.take (lo*k) ++ cellsOf enc ys) ++ C)[q]? = (cur.toList.take (lo*k) ++ cellsOf enc ys)[q]?:=λC=>cW (by rw [bE,j,b];exact S);rw [D,D]
   .have F:∀C,((cur.toList.take (lo*k) ++ cellsOf enc ys) ++ C)[q]? = C[q-(lo*k+ys.length*k)]?:=λC=>by rw [dP (by rw [bE,j,b];omega),bE,j,b]
    rw [F,F];rw [gO,gO,cS,aF O]
  .rw [cS,aD B,bQ];simp only [bE,aS,eH,c,b];omega
def Dst(v u:Value)(a k lo n:Nat):Prop:=∀g c,v= .slice (some ⟨g,0,none⟩) a c->a<=c->∃b,u= .slice (some ⟨g,lo*k,none⟩) n b
theorem Yhn{a:Nat}:Dst v v a k 0 a:=λg c h _=>⟨c,by rw [h,iO]⟩
theorem Zzj{a:Nat}{n:Nat}(h:lo<a):Dst v (Gi (Af v lo k) n) a k lo n:=λg c b d=>by refine⟨c-lo,?_⟩;rw [b];simp only [Af,Gi];rw [aD O];simp [Px]
theorem Ya5{α:Type}{enc:α->Value}{ys:List α}(b:Enc P t k enc)(h:RowAt w k enc u ys):(Builtin.firstCells k ys.length u).run P w= .ok (cellsOf enc ys).toArray w/\(Builtin.lenOf u).run P w= .ok ys.length w:=by
 obtain⟨R,c,rfl,S,D,l⟩:=h;refine⟨?_,by simp [Builtin.lenOf]⟩;rcases l with rfl|⟨g,f,rfl,l⟩
 .cases R with
  | none=>simp [Builtin.firstCells,cellsOf]
  | some q=>simp [Builtin.firstCells,cellsOf,loadCells,loadCellsFrom]
 .have B:∀q u,(cellsOf enc ys)[q]? = some u->w.cell? ((⟨g,f,none⟩:Addr).add q)=some u:=λq u G=>by
   have s:q<ys.length*k:=by rw [<-Xe b.cells ys];exact(cI.1 G).1
   have d:=b.pos;have n:q/k<ys.length:=jC (by rw [aR];exact s);have a:ys[q/k]? = some ys[q/k]:=aM n;have z:q%k<(enc ys[q/k]).cells.toList.length:=by rw [eA,b.cells];exact bO _ d
   have I:=aM z;have m:=Ga b.cells ys _ _ a _ _ I;have F:=l _ _ a _ _ I;have e:q/k*k+q%k=q:=by rw [aR];exact cP q k
   rw [e]at m;rw [fY,e]at F;rw [G]at m;cases m;rw [Px];exact F
  have V:=Xe b.cells ys;have:=run_loadCells (P:=P) (w:=w) ⟨g,f,none⟩ (ys.length*k) (λj=>(cellsOf enc ys).getD j undef) (λj W=>B j _ (by rw [aM O];simp [List.getD,aM (show j<(cellsOf enc ys).length by omega)]));rw [show(List.range (ys.length*k)).map (λj=>(cellsOf enc ys).getD j undef)=cellsOf enc ys by
   apply gM
   .simp [V]
   .intro i S D;simp [List.getD,aM D]]at this
  exact this
theorem Zxa {α:Type} {a:Act}   {e:TypeId}  {enc:α->Value} {xs ys:List α}   (hs:Sat N sc env H a w) (R:lk H i=some (On k e enc v xs)) (D:i≠0) (B:Enc P t k enc)
  (G:lo+ys.length<=xs.length) (hp:0<xs.length) (W:lk H 0=some (Zt w0 M0)) (Z:∀b,w0.heap.size<=b->sc b)  {n:Nat} (s:Dst v u xs.length k lo n) :
  ∃g c w',u= .slice (some ⟨g,lo*k,none⟩) n c/\(storeCells ⟨g,lo*k,none⟩ (cellsOf enc ys)).run P w= .ok () w'/\Sat N sc env ((i,On k e enc v (spl xs lo ys))::H) a w'/\Chg (λ_=>True) w w':=by
 have l:w.ownsRow 0 e k v xs.length (cellsOf enc xs):=hs.hold i _ R;rcases l.2 with⟨rfl,hn⟩|⟨g,d,cur,rfl,hb,S,j,z,h,f⟩
 .omega
 .obtain⟨V,s⟩:=s g d rfl j;have I:=Xe B.cells ys;have F:(lo+ys.length)*k<=d*k:=aP _ O;rw [bL]at F;have m:=run_storeCells_at P g (lo*k) e (cellsOf enc ys) 0 cur w S (by rw [I,h];omega) (λu s=>by obtain⟨y,_,hy⟩:=jH.1 s;exact B.one y u hy)
  simp only [fR]at m;exact⟨g,V,_,s,m,hs.upd R rfl D (q:=On k e enc (.slice (some ⟨g,0,none⟩) xs.length d) (spl xs lo ys)) (Hm (M:=λk=>(Value.slice (some ⟨g,0,none⟩) xs.length d).ownBlock=some k) rfl) (Ylb B.cells lo G S j z h f) (λk Y=> .inl Y) W Z,Hm aA⟩
theorem t_cpy (i:Nat)(j:Nat) {α:Type}   {t' e:TypeId} {n d:Nat} {z:Value} {enc:α->Value} {xs ys:List α}    (lo:Nat)
  (ho:o.op= .call { callee:= .builtin .copy,args:=#[x,y],argTypes:=#[t,t'] }) (W:o.dst=some d) (S:Nat.blt d N=true)
  (hx:ev env x=some u) (hy:ev env y=some z) (I:lk H i=some (On k e enc v xs)) (h:i≠0) (Y:lk H j=some p) (hr:Rd p k enc z ys)
  (hu:Dst v u xs.length k lo n) (Z:ys.length<=n) (l:lo+ys.length<=xs.length) (hp:0<xs.length) (ht:P.underlying t=some (.slice te)) (f:Enc P te k enc)
  (B:lk H 0=some (Zt w0 M0)) (hw:∀b,w0.heap.size<=b->sc b) :
  T P N sc (λ_=>True) o env H (G:=Unit) (λ_=>True) (λ_=>(d,.int .i64 (ys.length:Int))::env) (λ_=>(i,On k e enc v (spl xs lo ys))::H):=λa w hs K Q R=>by
 obtain⟨g,c,w',rfl,s,q,V⟩:=Zxa (ys:=ys) hs I h f l hp B hw hu;obtain⟨D,F⟩:=Ya5 f (hr w (hs.hold j p Y));have m:(execOp a.eval o).run P w= .ok (.value (.int .i64 (ys.length:Int))) w':=by simp [execOp,ho,resolve,invoke,builtin,hs.ev hx,hs.ev hy,Builtin.copy_,run_underlying ht,F,dY Z,f.size,D,s,goInt]
 unfold Oper.wp;rw [m];show K (a.put o.dst _) _;rw [W];exact R () _ _ aA (q.put d _ S) V
theorem t_clr {α:Type}   {e:TypeId} {n:Nat} {zv:Value} {enc:α->Value} {xs:List α} {z:α}   (lo:Nat)
  (ho:o.op= .call { callee:= .builtin .clear,args:=#[x],argTypes:=#[t] }) (hd:o.dst=none)
  (hx:ev env x=some u) (Y:lk H i=some (On k e enc v xs)) (s:i≠0)
  (hu:Dst v u xs.length k lo n) (hn:0<n) (B:lo+n<=xs.length) (ht:P.underlying t=some (.slice te)) (j:Enc P te k enc)
  (hz:∀w,(zeroValue te).run P w= .ok (enc z) w) (S:k=1)
  (V:lk H 0=some (Zt w0 M0)) (hw:∀b,w0.heap.size<=b->sc b) :
  T P N sc (λ_=>True) o env H (G:=Unit) (λ_=>True) (λ_=>env) (λ_=>(i,On k e enc v (spl xs lo (List.replicate n z)))::H):=λa w hs K Q Z=>by
 obtain⟨g,c,w',rfl,I,F,hc⟩:=Zxa (ys:=List.replicate n z) hs Y s j (by simpa using B) O V hw hu;obtain⟨m,rfl⟩:∃m,n=m+1:=⟨n-1,O⟩;have d:(enc z).cells.toList=[(enc z).cells[0]'(by rw [j.cells];omega)]:=by
  have h:(enc z).cells.size=1:=by rw [j.cells,S]
  apply gM
  .simp [h]
  .intro i W l;simp at l;subst l;simp
 have R:(Builtin.zeroCells (enc z).cells (m+1)).toList=cellsOf enc (List.replicate (m+1) z):=by
  have h:(enc z).cells.size=1:=by rw [j.cells,S]
  have f:∀q,cellsOf enc (List.replicate q z)=List.replicate q ((enc z).cells[0]' O):=by
   intro q
   induction q with
   | zero=>rfl
   | succ q ih=>rw [jO,jO,<-ih];simp [cellsOf,d]
  rw [f];apply gM
  .simp [Builtin.zeroCells,h]
  .intro i W l;simp [Builtin.zeroCells,h,mU]
 have D:(execOp a.eval o).run P w= .ok (.value (.tuple #[])) w':=by simp [execOp,ho,resolve,invoke,builtin,hs.ev hx,Builtin.clear_,run_underlying ht,hz,R,I]
 unfold Oper.wp;rw [D];show K (a.put o.dst _) _;rw [hd];exact Z () _ _ aA (F.put_none _) hc
end Go.Sky
namespace Go.Sky
variable{listed:Array Bool}{m i:Nat}{ts:List Nat}{ops:Array Oper}{o:Oper}{rest:List (Nat×Nat)}
variable {P:Program} {N:Nat} {sc:Nat->Prop} {env env':Qi} {H H':Hp} {Q Q':Exit->Act->World->Prop} {M:Nat->Prop}
theorem Zv (n:Nat) {l : List Oper}    (a : List (Nat × Nat))
     (h:LD P N sc M l.toArray (A P N sc M l.toArray ts Q n (Fy a listed)) a env H) (b:(Region.noSelect l.toArray && Ff l.toArray ts a listed && Nat.beq (a.length+n) m)=true:=by kernel_rfl):A P N sc M l.toArray ts Q m listed env H:=
  a_lin a b h (λ_ _ h=>h)
def aact   {n:Nat}   {G:Type} {φ:G->Prop} {a:G->Qi} {b:G->Hp} (e:T P N sc M o env H φ a b) (d:ops[i]? = some o) (c:o.guard=none)
    (h:∀g,φ g->A P N sc M ops ts Q n (listed.setIfInBounds i true) (a g) (b g)):Ze7 P N sc M ops ts Q n listed env H i:=⟨o,G,φ,a,b,d,c,e,h⟩
theorem Np (n:Nat)     (i j:Nat) 
    (c:Ze7 P N sc M ops ts Q n listed env H i) (d:Ze7 P N sc M ops ts Q n listed env H j) (a:((Region.ready .any ops listed == [i,j]) && !(Fc ops ts listed) && !([i,j]:List Nat).isEmpty && Nat.beq (n+1) m)=true:=by kernel_rfl):A P N sc M ops ts Q m listed env H:=by
  rw [aQ]at a;have e:=dL a.2;subst e;exact Yje [i,j] a.1 (λq b=>by
    simp only [aZ,dJ,gG]at b;rcases b with rfl|rfl
    . exact c
    . exact d)
theorem Bp{F:Qi->Hp->Prop}{G:Type}{φ:G->Prop}{a:G->Qi}{b:G->Hp}(d:ops[i]? = some o)(e:T P N sc M o env H φ a b)(h:∀g,φ g->LD P N sc M ops F rest (a g) (b g))(c:o.guard=none:=by rfl):LD P N sc M ops F ((i,1)::rest) env H:=r1 e d c h
theorem r3'{F:Qi->Hp->Prop}{G:Type}{φ:G->Prop}{a:G->Qi}{b:G->Hp}(d:ops[i]? = some o)(e:T P N sc (λ_=>True) o env H φ a b)(h:∀g,φ g->LD P N sc M ops F rest (a g) (b g))(c:o.guard=none:=by rfl):LD P N sc M ops F ((i,3)::rest) env H:=r3 e d c h
def Zag   {n:Nat}   {G:Type} {φ:G->Prop} {a:G->Qi} {b:G->Hp} (d:ops[i]? = some o) (c:o.guard=none) (e:T P N sc M o env H φ a b)
    (h:∀g,φ g->A P N sc M ops ts Q n (listed.setIfInBounds i true) (a g) (b g)):Ze7 P N sc M ops ts Q n listed env H i:=aact e d c h
end Go.Sky
namespace Go.Sky
variable{o:Oper}{t t':TypeId}{x y:Operand}{a b:Bool}{ops:Array Oper}{rest:List (Nat×Nat)}
variable {P:Program} {N:Nat} {sc:Nat->Prop} {env env':Qi} {H H':Hp} {Q Q':Exit->Act->World->Prop} {M:Nat->Prop}
theorem d_eqb(c:o.op= .binOp .eql t x y t')(e:ev env x=some (.bool a))(f:ev env y=some (.bool b))(d:P.underlying t=some .bool):Ms P N sc o env H (.bool (a == b)):=λg w hs=>by simp [execOp,c,hs.ev e,hs.ev f,eqGuard,run_eql_bool w t a b d]
theorem d_neb(c:o.op= .binOp .neq t x y t')(e:ev env x=some (.bool a))(f:ev env y=some (.bool b))(d:P.underlying t=some .bool):Ms P N sc o env H (.bool (a != b)):=λg w hs=>by simp [execOp,c,hs.ev e,hs.ev f,eqGuard,run_neq_bool w t a b d,bne]
theorem Qd  {F:Qi->Hp->Prop} {i:Nat}   {d:Nat} {v:Value} (g:ops[i]? = some o) (e:o.dst=some d) (hs:Stb P N sc M o env H v)
  (h:LD P N sc M ops F rest ((d,v)::env) H) (f:o.guard=none:=by rfl) (c:Nat.blt d N=true:=by rfl):LD P N sc M ops F ((i,0)::rest) env H:=r0 hs g f e c h
end Go.Sky
namespace Go.Sky
open Go.RowKit Below
variable{b:Nat}{t:TypeId}{cs:Array Value}{o:Oper}{x:Operand}{v:Value}{f:FuncId}{xs:List Operand}{ats:Array TypeId}{vs:List Value}{pre:List Pc}{w0:World}{M0:Nat->Prop}{fn:Func}
variable {P:Program} {N:Nat} {sc:Nat->Prop} {env env':Qi} {H H':Hp} {Q Q':Exit->Act->World->Prop} {M:Nat->Prop}
def Nb(b:Nat)(t:TypeId)(cs:Array Value):Pc:=
  { own:=false,fp:=λk=>k=b,holds:=λw=>w.heap[b]? = some (.cells cs t (0,0))
    lt:=λw k h c=>by subst c;exact(aO.1 h).1
    stable:=λw e h a=>by rw [<-h];exact a.block b (aO.1 h).1 (λd=>d rfl) }
theorem Zcg(i:Nat)(hi:lk H i=some (box b t cs))(p:Nat.beq i 0=false):∀a w,Sat N sc env H a w->Sat N sc env ((i,Nb b t cs)::H) a w:=λa w hs=>by
    have y:i≠0:=λe=>by subst e;simp at p
    refine⟨hs.size,hs.defers,hs.env,λj h c=>?_,λj u h s n c d r b k l=>?_,λj h q c b k=>?_⟩
    . by_cases g:i=j
      . subst g;rw [Zm]at c;cases c;have z:=hs.hold i (box _ t cs) hi;exact z
      . rw [Zh g]at c;exact hs.hold j h c
    . by_cases g:i=j
      . subst g;rw [Zm]at c;cases c;cases r
      . rw [Zh g]at c;by_cases m:i=u
        . subst m;rw [Zm]at d;cases d;exact hs.sep j i h (box _ t cs) n c hi r b k l
        . rw [Zh m]at d;exact hs.sep j u h s n c d r b k l
    . by_cases g:i=j
      . subst g;rw [Zm]at c;cases c;exact hs.scope i (box _ t cs) y hi b k
      . rw [Zh g]at c;exact hs.scope j h q c b k
theorem d_lr   {c:TypeId} {i j:Nat}   (g:o.op= .load t x)
    (m:ev env x=some (.pointer (some ⟨b,j,none⟩))) (e:lk H i=some (Nb b c cs)) (k:∀w,(isAgg t).run P w= .ok false w) (l:cs[j]? = some v):Ms P N sc o env H v:=λa w hs=>by
  have d:w.heap[b]? = some (.cells cs c (0,0)):=hs.hold i _ e;have h:w.cell? ⟨b,j,none⟩=cs[j]?:=by simp [World.cell?,d]
  rw [l]at h;simp [execOp,g,hs.ev m,Instr.loadAt,Instr.sureAddr,loadVar,k,load,Sem.run,h]
def Zdd(P:Program)(f:FuncId)(args:Array Value)(pre:List Pc)(al:Bool)(b:Nat)(t:TypeId)(cs:Array Value){G:Type}(φ:G->Prop)(val:G->Value)(cs':G->Array Value)(a:G->List Pc):Prop:=
  ∀w,(∀p∈pre,p.holds w/\¬p.fp b)->(box b t cs).holds w->Calls P f args w λe c=>∃g,e= .returned (val g)/\φ g/\Chg (λk=>k=b) w c/\(box b t (cs' g)).holds c/\
    ∀p∈a g,p.holds c/\p.own=false/\∀k,p.fp k->w.heap.size<=k\/(al=true/\∃q∈pre,q.fp k)
theorem Qm (n:Nat)(i:Nat)     {d:Nat}     {al:Bool} {G:Type} {φ:G->Prop} {val:G->Value} {cs':G->Array Value} {Y:G->List Pc}  
    (hc:Zdd P f vs.toArray pre al b t cs φ val cs' Y)
    (ho:o.op= .call { callee:= .value (.func f),args:=xs.toArray,argTypes:=ats }) (hd:o.dst=some d) (hN:Nat.blt d N=true)
    (F:EvL env xs vs) (R:∀args w,(callFunc f args).run P w= .ok (.enter f args) w) (hH:lk H i=some (box b t cs)) (a5:i≠0) (y:PreOk (drp i H) al pre)
    (h0:lk H 0=some (Zt w0 M0)) (hw:∀b,w0.heap.size<=b->sc b) (hM:M b) :
    T P N sc M o env H φ (λg=>(d,val g)::env) (λg=>adds n (Y g) ((i,box b t (cs' g))::H)):=λa w hs K Q hK=>by
  have hr:(execOp a.eval o).run P w= .ok (.enter f vs.toArray) w:=by rw [Gg hs ho F,R]
  unfold Oper.wp;rw [hr];have D:(box b t cs).holds w:=hs.hold i _ hH;refine(hc w (λp hp=>by obtain⟨j,W,_,l,Z,m,_⟩:=y.mem p hp;obtain⟨V,l⟩:=Hx _ _ _ _ l;exact⟨Z w (hs.hold j W l),λhb=>hs.sep i j _ W (jG V) hH l rfl b rfl (m b hb)⟩) D).mono ?_
  rintro e w' ⟨g,rfl,hg,c,I,a0⟩;show K (a.put o.dst (val g)) w';rw [hd];have a7:Sat N sc env ((i,box b t (cs' g))::H) a w':=hs.upd hH rfl a5 c I (λk S=> .inl S) h0 hw;have a3:Chg M w w':=⟨c.os,c.tape,c.output,c.size,λk S hn=>c.block k S (λe=>hn (by subst e;exact hM))⟩;refine hK g _ _ hg (Sat.put (a7.adds (w1:=w) (Y g) n ?_) d _ hN) a3;intro p hp;obtain⟨h1,h2,h3⟩:=a0 p hp;refine⟨h1,h2,λk S=>?_,λj jt l u k S z=>?_⟩
  . rcases h3 k S with h|⟨_,q,hq,B⟩
    . exact hw k (aB (hs.hold 0 _ h0).size h)
    . obtain⟨j,W,a1,l,_,m,_⟩:=y.mem q hq;exact hs.scope j W a1 (Hx _ _ _ _ l).2 k (m k B)
  . have a8:k<w.heap.size:=by
      by_cases r:i=j
      . subst r;rw [Zm]at l;cases l;have:k=b:=z;subst this;exact(aO.1 D).1
      . rw [Zh r]at l;exact jt.lt w k (hs.hold j jt l) z
    rcases h3 k S with h|⟨a4,q,hq,B⟩
    . omega
    . obtain⟨j',W,a1,s,_,m,a6⟩:=y.mem q hq;obtain⟨V,s⟩:=Hx _ _ _ _ s;by_cases r:i=j
      . subst r;rw [Zm]at l;cases l;exact hs.sep i j' _ W (jG V) hH s rfl k z (m k B)
      . rw [Zh r]at l;by_cases a2:j=j'
        . subst a2;rw [s]at l;cases l;rw [a6 a4]at u;cases u
        . exact hs.sep j j' jt W a2 l s u k z (m k B)
def Yjn(P:Program)(fn:Func)(w0:World)(pre:List Pc)(al:Bool)(b:Nat)(t:TypeId){G:Type}(φ:G->Prop)(val:G->Value)(cs':G->Array Value)(a:G->List Pc):Exit->Act->World->Prop:=
  bodyPost P fn λe c => ∃ g, e = .returned (val g) /\ φ g /\ Chg (λk => k = b) w0 c /\ (box b t (cs' g)).holds c /\
        ∀p∈a g,p.holds c/\p.own=false/\∀k,p.fp k->w0.heap.size<=k\/(al=true/\∃q∈pre,q.fp k)
theorem Eo   {c:Code}   {al:Bool}    {G:Type} {φ:G->Prop} {val:G->Value} {cs':G->Array Value} {u:G->List Pc} {N:Nat}
    (Z:P.funcs[f]? = some fn) (Y:fn.body=some c) (W:fn.ntmps=N) (r:Nat.ble vs.length N=true) (R:AllRo pre)
    (h:∀w0 (sc:Nat->Prop),(∀k,w0.heap.size<=k->sc k)->(∀k,sc k->w0.heap.size<=k\/k=b\/∃q∈pre,q.fp k)->
      E P N sc c (Yjn P fn w0 pre al b t φ val cs' u) (Qf 0 vs) ((0,Zt w0 (λk=>k=b))::(1,box b t cs)::Yg 2 pre)) :
    Zdd P f vs.toArray pre al b t cs φ val cs' u:=λw S y=>by
  refine calls_of_wp Z Y (h w (λk=>w.heap.size<=k\/k=b\/∃q∈pre,q.fp k) (λk l=> .inl l) (λk l=>l) _ w ?_);have r:vs.length<=N:=by simpa using r
  have a:∀i p,lk ((0,Zt w (λk=>k=b))::(1,box b t cs)::Yg 2 pre) i=some p->(i=0/\p=Zt w (λk=>k=b))\/(i=1/\p=box b t cs)\/(i≠0/\i≠1/\p∈pre/\p.own=false):=λi p hi=>by
      by_cases m:0=i
      . subst m;rw [Zm]at hi;cases hi;exact .inl ⟨rfl,rfl⟩
      . rw [Zh m]at hi;by_cases g:1=i
        . subst g;rw [Zm]at hi;cases hi;exact .inr (.inl ⟨rfl,rfl⟩)
        . rw [Zh g]at hi;obtain⟨_,d⟩:=Ot pre 2 i p hi;exact .inr (.inr ⟨λe=>m e.symm,λe=>g e.symm,d,R.mem p d⟩)
  refine⟨by simp [W];omega,rfl,λt v ht=>?_,λi p hi=>?_,λi j p q F hi hj I k l n=>?_,λi p z hi k l=>?_⟩
  . have g:vs.toArray[t]? = some v:=by simpa using(Hu vs 0 t v ht).2
    have D:=(aO.1 g).1;rw [bK,eQ D,g];rfl
  . rcases a i p hi with⟨_,rfl⟩|⟨_,rfl⟩|⟨_,_,d,_⟩
    . exact Chg.refl _ w
    . exact y
    . exact(S p d).1
  . rcases a i p hi with⟨_,rfl⟩|⟨g,rfl⟩|⟨_,_,d,s⟩
    . cases I
    . have B:k=b:=l;subst B;rcases a j q hj with⟨_,rfl⟩|⟨V,rfl⟩|⟨_,_,d,_⟩
      . exact n.2 rfl
      . exact F (g.trans V.symm)
      . exact(S q d).2 n
    . rw [s]at I;cases I
  . rcases a i p hi with⟨m,_⟩|⟨_,rfl⟩|⟨_,_,d,_⟩
    . exact absurd m z
    . exact .inr (.inl l)
    . exact .inr (.inr ⟨p,d,l⟩)
theorem Dc   {al:Bool}    {G:Type} {φ:G->Prop} {val:G->Value} {cs':G->Array Value} {l:G->List Pc}  {e:Exit} (he:e= .ret\/e= .normal) (W:∀k,sc k->w0.heap.size<=k\/k=b\/∃q∈pre,q.fp k)
    (g:G)  (y:∀a w,Sat N sc env H a w->(results fn a.tmps).run P w= .ok v w) (hv:val g=v) (hg:φ g) (i:Nat) (hi:lk H i=some (box b t cs)) (F:cs' g=cs) (a0:Nat.beq i 0=false) (Y:lk H 0=some (Zt w0 (λk=>k=b))) (c:Give (drp i H) al (l g)) :
    X N sc e (Yjn P fn w0 pre al b t φ val cs' l) env H:=λa w hs=>by
  have z : a.defers = [] /\ ∃ v, (results fn a.tmps).run P w = .ok v w /\ (∃ g, Ending.returned v = .returned (val g) /\ φ g /\ Chg (λk => k = b) w0 w /\ (box b t (cs' g)).holds w /\
        ∀p∈l g,p.holds w/\p.own=false/\∀k,p.fp k->w0.heap.size<=k\/(al=true/\∃q∈pre,q.fp k)):=by
    refine⟨hs.defers,v,y a w hs,g,by rw [hv],hg,hs.hold 0 _ Y,by rw [F];exact hs.hold i _ hi,λp hp=>?_⟩;obtain⟨Z,h|⟨h1,h2⟩⟩:=c.mem p hp
    case inr=>exact⟨h1 w,Z,λb hb=>absurd hb (h2 b)⟩
    obtain⟨j,B,r,m,n,I,D⟩:=h;obtain⟨V,m⟩:=Hx _ _ _ _ m;refine⟨n w (hs.hold j B m),Z,λk hk=>?_⟩;have d:=I k hk;have s:k≠b:=λe=>by subst e;exact hs.sep i j _ B (jG V) hi m rfl k rfl d
    cases al with
    | true=>
      rcases W k (hs.scope j B r m k d)with h|h|h
      . exact .inl h
      . exact absurd h s
      . exact .inr ⟨rfl,h⟩
    | false=>
      have u:=D rfl;have hn:=hs.sep j 0 B _ r m Y u k d;refine .inl ?_;rcases aX k w0.heap.size with S|R
      . exact absurd ⟨S,s⟩ hn
      . exact R
  rcases he with rfl|rfl
  . exact z
  . exact z
end Go.Sky
namespace Go.Sky
open Go.RowKit Below
variable{o:Oper}{f:FuncId}{xs:List Operand}{c x y:Operand}{ats:Array TypeId}{t t':TypeId}{cs:Array Value}{pre:List Pc}{M0:Nat->Prop}{ops:Array Oper}{ts:List Nat}{listed:Array Bool}{v:Value}{k:Nat}{p:Pc}{rest:List Oper}
variable {P:Program} {N:Nat} {sc:Nat->Prop} {env env':Qi} {H H':Hp} {Q Q':Exit->Act->World->Prop} {M:Nat->Prop}
theorem d_mkf (vs:List Value)(d:o.op= .makeFunc (.func f) xs.toArray #[])(e:EvL env xs vs):Ms P N sc o env H (.func (.func f) vs.toArray #[]):=λa w hs=>by have b:=e.map hs;simp [execOp,d,Instr.makeFunc,b]
theorem Zl9 {a:Act} {w:World} (hs:Sat N sc env H a w)      {d vs:List Value} (h:o.op= .call { callee:= .value c,args:=xs.toArray,argTypes:=ats })
  (e:ev env c=some (.func (.func f) d.toArray #[])) (b:EvL env xs vs):(execOp a.eval o).run P w=(callFunc f (d ++ vs).toArray).run P w:=by
 have g:=b.map hs;simp [execOp,h,resolve,invoke,hs.ev e,Deferred.ofValue,g]
theorem Zq9 (n:Nat)(i:Nat)(j:List Value)(vs:List Value)      {d b:Nat}     {al:Bool} {G:Type} {φ:G->Prop} {val:G->Value} {cs':G->Array Value} {s:G->List Pc} {w0:World} 
  (W:Zdd P f (j ++ vs).toArray pre al b t cs φ val cs' s)
  (Z:o.op= .call { callee:= .value c,args:=xs.toArray,argTypes:=ats }) (z:ev env c=some (.func (.func f) j.toArray #[])) (Y:o.dst=some d) (V:Nat.blt d N=true)
  (h:EvL env xs vs) (e:∀args w,(callFunc f args).run P w= .ok (.enter f args) w) (I:lk H i=some (box b t cs)) (B:i≠0) (q:PreOk (drp i H) al pre)
  (F:lk H 0=some (Zt w0 M0)) (hw:∀b,w0.heap.size<=b->sc b) (S:M b) :
  T P N sc M o env H φ (λg=>(d,val g)::env) (λg=>adds n (s g) ((i,box b t (cs' g))::H)):=λa w hs K Q R=>by
 have hr:(execOp a.eval o).run P w= .ok (.enter f (j ++ vs).toArray) w:=by rw [Zl9 hs Z z h,e]
 let o2:Oper:={ o with op:= .call { callee:= .value (.func f),args:=((j ++ vs).map Operand.const).toArray,argTypes:=ats } };have m:∀l:List Value,EvL env (l.map Operand.const) l:=λl=>by
  induction l with
  | nil=>trivial
  | cons v r ih=>exact⟨rfl,ih⟩
 have D:(execOp a.eval o2).run P w= .ok (.enter f (j ++ vs).toArray) w:=by rw [Gg hs (o:=o2) rfl (m _),e]
 have u:o2.wp P a w K Q:=Qm n i (M:=M) W (o:=o2) rfl Y V (m _) e I B q F hw S a w hs K Q R;unfold Oper.wp at u ⊢;rw [D]at u;rw [hr];exact u
theorem Yjd (n:Nat)    {m:Nat} (i j k:Nat) 
  (d:Ze7 P N sc M ops ts Q n listed env H i) (e:Ze7 P N sc M ops ts Q n listed env H j) (g:Ze7 P N sc M ops ts Q n listed env H k) (a:((Region.ready .any ops listed == [i,j,k]) && !(Fc ops ts listed) && !([i,j,k]:List Nat).isEmpty && Nat.beq (n+1) m)=true:=by kernel_rfl):A P N sc M ops ts Q m listed env H:=by
 rw [aQ]at a;have h:=dL a.2;subst h;exact Yje [i,j,k] a.1 (λq b=>by
  simp only [aZ,dJ,gG]at b;rcases b with rfl|rfl|rfl
  .exact d
  .exact e
  .exact g)
theorem d_fld    {f:Nat} {d:Array Field} {b:Field}   (h:o.op= .field t x f)
  (l:ev env x=some (.agg cs)) (i:P.underlying t=some (.struct d)) (g:d[f]? = some b) (e:∀w,(isAgg b.type).run P w= .ok false w) (j:cs[b.offset]? = some v):Ms P N sc o env H v:=λa w hs=>by
 simp [execOp,h,hs.ev l,Instr.field,run_underlying i,g,asAgg,part,e,j]
theorem Zwb{s b:ByteArray}(g:o.op= .binOp .eql t x y t')(h:ev env x=some (.string s))(i:ev env y=some (.string b))(d:b.data.toList=[]) :
  Ms P N sc o env H (.bool (decide (s.size=0))):=λa w hs=>by
 have e:(s.toList == b.toList)=decide (s.size=0):=by rw [ByteArray.toList_eq,ByteArray.toList_eq,d];have:s.size=s.data.toList.length:=rfl;rw [this];cases s.data.toList<;>simp
 simp [execOp,g,hs.ev h,hs.ev i,eqGuard,binOp_string_eql,e]
theorem d_eqg  {b:BinOp}   {xs ys:Array Value} {r:Value} (g:o.op= .binOp b t x y t') (i:ev env x=some (.agg xs)) (j:ev env y=some (.agg ys))
  (e:P.eqGuardType P.depth t=false) (h:∀w,(binOp b t (.agg xs) (.agg ys)).run P w= .ok r w):Ms P N sc o env H r:=λa w hs=>by
 have d:=run_eqGuard_agg (P:=P) w b t x y xs ys e;simp only [execOp,g,hs.ev i,hs.ev j,Sem.run_bind,d,h w,Result.andThen_ok,Sem.run_pure]
abbrev SL:=Option Addr×Nat×Nat
abbrev Xp (s:SL):Value:= .slice s.1 s.2.1 s.2.2
theorem Ml{α:Type}{enc:α->Value}{xs:List α}(i:Nat)(hi:lk H i=some p)(d:Rd p k enc v xs):∀a w,Sat N sc env H a w->∃s:SL,v=Xp s:=λa w hs=>by obtain⟨b,c,rfl,_⟩:=d w (hs.hold i p hi);exact⟨(b,xs.length,c),rfl⟩
theorem Ztf{c:Code}{α:Type}{p:α->Prop}(b:∀a w,Sat N sc env H a w->∃x,p x)(h:∀x,p x->E P N sc c Q env H):E P N sc c Q env H:=λa w hs=>by obtain⟨x,d⟩:=b a w hs;exact h x d a w hs
theorem Znv{e:Exit}{α:Type}{p:α->Prop}(b:∀a w,Sat N sc env H a w->∃x,p x)(h:∀x,p x->X N sc e Q env H):X N sc e Q env H:=λa w hs=>by obtain⟨x,d⟩:=b a w hs;exact h x d a w hs
theorem l_ex{α:Type}{p:α->Prop}(b:∀a w,Sat N sc env H a w->∃x,p x)(h:∀x,p x->L P N sc ops rest Q env H):L P N sc ops rest Q env H:=λa w hs=>by obtain⟨x,d⟩:=b a w hs;exact h x d a w hs
def Hf{β:Type}(q:β->Pc)(zs:List β):Pc:=
 {own:=false,fp:=λb=>∃z∈zs,(q z).fp b,holds:=λw=>∀z∈zs,(q z).holds w
  lt:=λw b h e=>by obtain⟨z,d,e⟩:=e;exact(q z).lt w b (h z d) e
  stable:=λw m h a z d=>(q z).stable w m (h z d) ⟨a.os,a.tape,a.output,a.size,λk i j=>a.block k i (λg=>j (λl=>g ⟨z,d,l⟩))⟩ }
def Qj{β:Type}(k:Nat)(enc:β->Value)(q:β->Pc)(v:Value)(zs:List β):Pc:=
 {own:=false,fp:=λb=>(zs≠[]/\v.ownBlock=some b)\/∃z∈zs,(q z).fp b,holds:=λw=>(Yt k enc v zs).holds w/\(Hf q zs).holds w
  lt:=λw b h d=>by
   rcases d with d|d
   .exact(Yt k enc v zs).lt w b h.1 d
   .exact(Hf q zs).lt w b h.2 d
  stable:=λw l h a=>⟨(Yt k enc v zs).stable w l h.1 ⟨a.os,a.tape,a.output,a.size,λk g i=>a.block k g (λe=>i (λj=>e (.inl j)))⟩,
   (Hf q zs).stable w l h.2 ⟨a.os,a.tape,a.output,a.size,λk g i=>a.block k g (λe=>i (λj=>e (.inr j)))⟩⟩ }
def Yf{β:Type}{enc:β->Value}{q:β->Pc}{zs:List β} : Rd (Qj k enc q v zs) k enc v zs:=λw h=>h.1.1
theorem Zcf{q:Pc}(i j:Nat)(hi:lk H i=some p)(l:Nat.beq i 0=false)(u:p.own=false)(s:∀w,p.holds w->q.holds w)(n:∀b,q.fp b->p.fp b)(z:q.own=false):∀a w,Sat N sc env H a w->Sat N sc env ((j,q)::H) a w:=λa w hs=>
 hs.add j q (s w (hs.hold i p hi)) (λr B _ m Lf b g h=>by
  rcases Lf with Lf|Lf
  .rw [z]at Lf;cases Lf
  .by_cases d:r=i
   .subst d;rw [hi]at m;cases m;rw [u]at Lf;cases Lf
   .exact hs.sep r i B p d m hi Lf b h (n b g)) (λb g=>hs.scope i p (λe=>by subst e;simp at l) hi b (n b g))
def Zbk{β:Type}{q:β->Pc}{zs:List β}(i j:Nat)(z:β)(hi:lk H i=some (Hf q zs))(d:Nat.beq i 0=false)(e:z∈zs)(l:(q z).own=false):∀a w,Sat N sc env H a w->Sat N sc env ((j,q z)::H) a w:=
 Zcf i j hi d rfl (λw h=>h z e) (λb g=>⟨z,e,g⟩) l
def Zep{β:Type}{enc:β->Value}{q:β->Pc}{zs:List β}(i j:Nat)(z:β)(hi:lk H i=some (Qj k enc q v zs))(d:Nat.beq i 0=false)(e:z∈zs)(l:(q z).own=false):∀a w,Sat N sc env H a w->Sat N sc env ((j,q z)::H) a w:=
 Zcf i j hi d rfl (λw h=>h.2 z e) (λb g=> .inr ⟨z,e,g⟩) l
def Zeo{β:Type}{enc:β->Value}{q:β->Pc}{zs:List β}(i j:Nat)(hi:lk H i=some (Qj k enc q v zs))(d:Nat.beq i 0=false):∀a w,Sat N sc env H a w->Sat N sc env ((j,Hf q zs)::H) a w:=
 Zcf i j hi d rfl (λw h=>h.2) (λb e=> .inr e) rfl
theorem Zi{β:Type}{zs:List β}{i:Nat}{d:β}(h:i<zs.length:=by omega):zs.getD i d∈zs:=by rw [aE,aM h];exact fX h
theorem Zu4{q r:Pc}(i j n:Nat)(hi:lk H i=some p)(m:lk H j=some q)(z:Nat.beq i 0=false)(B:Nat.beq j 0=false)(R:p.own=false)(D:q.own=false)(I:∀w,p.holds w->q.holds w->r.holds w)(F:∀b,r.fp b->p.fp b\/q.fp b)(S:r.own=false) :
  ∀a w,Sat N sc env H a w->Sat N sc env ((n,r)::H) a w:=λa w hs=>
 hs.add n r (I w (hs.hold i p hi) (hs.hold j q m)) (λs G _ d Lf b u l=>by
  rcases Lf with Lf|Lf
  .rw [S]at Lf;cases Lf
  .rcases F b u with h|h
   .by_cases g:s=i
    .subst g;rw [hi]at d;cases d;rw [R]at Lf;cases Lf
    .exact hs.sep s i G p g d hi Lf b l h
   .by_cases g:s=j
    .subst g;rw [m]at d;cases d;rw [D]at Lf;cases Lf
    .exact hs.sep s j G q g d m Lf b l h) (λb u=>by
  rcases F b u with h|h
  .exact hs.scope i p (λe=>by subst e;simp at z) hi b h
  .exact hs.scope j q (λe=>by subst e;simp at B) m b h)
def Cc{β:Type}{enc:β->Value}{q:β->Pc}{zs:List β}(i j n:Nat)(hi:lk H i=some (Yt k enc v zs))(m:lk H j=some (Hf q zs))(d:Nat.beq i 0=false)(e:Nat.beq j 0=false) :
  ∀a w,Sat N sc env H a w->Sat N sc env ((n,Qj k enc q v zs)::H) a w:=
 Zu4 i j n hi m d e rfl rfl (λw g h=>⟨g,h⟩) (λb l=>l) rfl
theorem Oo{β:Type}(q:β->Pc)(n:Nat):∀a w,Sat N sc env H a w->Sat N sc env ((n,Hf q ([]:List β))::H) a w:=λa w hs=>
 hs.add n _ (λz d=>by cases d) (λh i _ _ Lf b e g=>by obtain⟨z,d,_⟩:=e;cases d) (λb e=>by obtain⟨z,d,_⟩:=e;cases d)
theorem Qs{β:Type}{q:β->Pc}{zs:List β}{z:β}(i j n:Nat)(hi:lk H i=some (Hf q zs))(s:lk H j=some (q z))(e:Nat.beq i 0=false)(g:Nat.beq j 0=false)(u:(q z).own=false) :
  ∀a w,Sat N sc env H a w->Sat N sc env ((n,Hf q (zs ++ [z]))::H) a w:=
 Zu4 i j n hi s e g rfl u (λw m r y l=>by
  rcases cY.1 l with h|h
  .exact m y h
  .rw [bZ.1 h];exact r) (λb d=>by
  obtain⟨y,l,d⟩:=d;rcases cY.1 l with h|h
  .exact .inl ⟨y,h,d⟩
  .rw [bZ.1 h]at d;exact .inr d) rfl
end Go.Sky
namespace Go.Sky
open Go.RowKit Below
variable{o:Oper}{H0:Hp}{ks:List Nat}{t ty:TypeId}{d:Nat}{cs:Array Value}{M0:Nat->Prop}{p:Pc}{x:Operand}{m:Int}{k:IntKind}{ops:Array Oper}{rest:List Oper}{pos:String}
variable {P:Program} {N:Nat} {sc:Nat->Prop} {env env':Qi} {H H':Hp} {Q Q':Exit->Act->World->Prop} {M:Nat->Prop}
def Off(H:Hp)(ks:List Nat):Nat->Prop:=λx=>∀k∈ks,∀p,lk H k=some p->¬p.fp x
def Agr(H0 H:Hp):List Nat->Prop
 | []=>True
 | k::r=>lk H k=lk H0 k/\Agr H0 H r
theorem Agr.mem{H0 H:Hp} : ∀{ks:List Nat},Agr H0 H ks->∀k∈ks,lk H k=lk H0 k
 | k::r,h,j,a=>by
  cases a with
  | head=>exact h.1
  | tail _ a=>exact Agr.mem h.2 j a
def rst(ks:List Nat):Hp->Hp
 | []=>[]
 | (i,p)::r=>cond (ks.any (Nat.beq i)) ((i,p)::rst ks r) (rst ks r)
theorem Zhc(ks:List Nat):∀(H:Hp) (i:Nat) (p:Pc),lk (rst ks H) i=some p->i∈ks/\lk H i=some p
 | [],_,_,h=>by cases h
 | (j,q)::r,i,p,h=>by
  unfold rst at h;cases hb:ks.any (Nat.beq j)with
  | true=>
   rw [hb]at h;simp only [cond_true]at h;by_cases c:j=i
   .subst c;rw [Zm]at h ⊢;obtain⟨x,l,g⟩:=jI.1 hb;have:=dL g;subst this;exact⟨l,h⟩
   .rw [Zh c]at h ⊢;exact Zhc ks r i p h
  | false=>
   rw [hb]at h;simp only [cond_false]at h;obtain⟨b,f⟩:=Zhc ks r i p h;refine⟨b,?_⟩;have a:j≠i:=λe=>by subst e;have:ks.any (Nat.beq j)=true:=jI.2 ⟨j,b,O8⟩;rw [hb]at this;cases this
   rw [Zh a];exact f
theorem Ni {id:Nat} {l:List Oper} (ks:List Nat) (ts:List Nat) 
  (h:A P N sc (Off H ks) l.toArray ts Q l.length (Array.replicate l.length false) env H) (a:P.follows .mixedOrders=true:=by kernel_rfl):E P N sc (.region id l.toArray true) Q env H:=Zad (Off H ks) ts h a
theorem Fu{v:Value}(B:Ms P N sc o env (rst ks H) v)(n:Agr H0 H ks):Stb P N sc (Off H0 ks) o env H v:=λa w hs h c=>by refine B a h ⟨hs.size,hs.defers,hs.env,λi b hi=>?_,λi j b D f hi s=>hs.sep i j b D f (Zhc _ _ _ _ hi).2 (Zhc _ _ _ _ s).2,λi b l hi=>hs.scope i b l (Zhc _ _ _ _ hi).2⟩;obtain⟨g,e⟩:=Zhc _ _ _ _ hi;refine b.stable w h (hs.hold i b e) ⟨c.os,c.tape,c.output,c.size,λq z u=>c.block q z (λy=>u (λr=>?_))⟩;exact y i g b (by rw [<-n.mem i g];exact e) r
theorem Yc8   {i:Nat} {z:Value}  {w0:World}    (s:o.op= .alloc t) (n:o.dst=some d) (g:Nat.blt d N=true)
  (y:∀w,(zeroValue t).run P w= .ok z w) (l:z.cells=cs) (e:lk H 0=some (Zt w0 M0)) (v:∀b,w0.heap.size<=b->sc b) (h:Agr H0 H ks) :
  T P N sc (Off H0 ks) o env H (G:=Nat) (λb=>Off H0 ks b) (λb=>(d,.pointer (some ⟨b,0,none⟩))::env) (λb=>(i,box b t cs)::H):=λa w hs K Q f=>by
 subst l;have u:(execOp a.eval o).run P w= .ok (.value (.pointer (some ⟨w.heap.size,0,none⟩))) (w.alloc (.cells z.cells t)):=by simp [execOp,s,Instr.alloc,y,newVar,newRow]
 unfold Oper.wp;rw [u];show K (a.put o.dst _) _;rw [n];exact f w.heap.size _ _ (λk r p c q=>by rw [<-h.mem k r]at c;exact absurd (p.lt w _ (hs.hold k p c) q) (Nat.lt_irrefl _)) ((hs.new e v i (box w.heap.size t z.cells) (.cells z.cells t) (heap_alloc_new w _) (λb j=>j)).put d _ g) (Chg.alloc _ _ _)
theorem Qb{q:Pc}(i:Nat)(h:p=q)(hi:lk H i=some p)(b:Nat.beq i 0=false):∀a w,Sat N sc env H a w->Sat N sc env ((i,q)::H) a w:=λa w hs=>by subst h;exact Zof i hi rfl (λ_ h=>h) (λ_ h=>h) b a w hs
theorem Yc1 (r:Int)(b:o.op= .unOp .neg t x)(e:ev env x=some (.int .u64 m))(c:(-m)%18446744073709551616=r):Ms P N sc o env H (.int .u64 r):=λa w hs=>by rw [<-c,<-Znw];simp [execOp,b,hs.ev e,Op.unary,Op.intArith]
theorem Ym7{b:TypeId}{r:Int}{ds:TypeDesc}(c:o.op= .convert t b x)(g:ev env x=some (.int k m))(a:P.underlying t=some ds)(f:P.underlying b=some (.int .u64))(e:m%18446744073709551616=r) :
  Ms P N sc o env H (.int .u64 r):=Zgu c g a f (by rw [Znw];exact e)
theorem Sat.yieldedu{a:Act}{w:World}(h:Sat N sc env H a w){j:Nat}(e:(ops[j]?).bind (·.dst)=some d)(c:lk env d=some undef):Go.yielded ops a.tmps j=none:=by
 have b:=h.env d _ c;unfold Go.yielded;rw [e];simp only [Option.bind_some];rw [bK]at b;cases hx:a.tmps[d]? with
 | none=>rfl
 | some v=>rw [hx]at b;simp only [fC]at b;subst b;rfl
theorem gsku      {c:Array Edge} {f:Op} {j e:Nat} {b:Bool} (n:(ops[j]?).bind (·.dst)=some e) (l:lk env e=some undef) (i:Nat.blt d N=true)
  (h:L P N sc ops rest Q ((d,undef)::env) H):L P N sc ops (⟨some d,f,ty,pos,c,some (j,b)⟩::rest) Q env H:=λa w hs=>
 wpList_step λK g=>by
  have r:=hs.yieldedu n l;have q:Region.wanted ⟨some d,f,ty,pos,c,some (j,b)⟩ (yielded ops a.tmps)=false:=by simp [Region.wanted,r]
  rw [q,aD O8];exact g _ _ (h _ _ (hs.put d undef i))
def nop:Pc:={ own:=false,fp:=λ_=>False,holds:=λ_=>True,lt:=λ_ _ _ h=>h.elim,stable:=λ_ _ _ _=>trivial }
theorem s_move(i j:Nat)(hi:lk H i=some p)(q:Nat.beq i 0=false)(s:Nat.beq j 0=false)(r:Nat.beq i j=false):∀a w,Sat N sc env H a w->Sat N sc env ((j,p)::(i,nop)::H) a w:=λa w hs=>by
 have q:i≠0:=λe=>by subst e;simp at q
 have s:j≠0:=λe=>by subst e;simp at s
 have r:i≠j:=λe=>by subst e;simp at r
 refine⟨hs.size,hs.defers,hs.env,λk kt f=>?_,λk v kt y u f c z b n h=>?_,λk kt B f b n=>?_⟩
 .by_cases l:j=k
  .subst l;rw [Zm]at f;cases f;exact hs.hold i p hi
  .rw [Zh l]at f;by_cases g:i=k
   .subst g;rw [Zm]at f;cases f;trivial
   .rw [Zh g]at f;exact hs.hold k kt f
 .by_cases l:j=k
  .subst l;rw [Zm]at f;cases f;rw [Zh u]at c;by_cases g:i=v
   .subst g;rw [Zm]at c;cases c;exact h
   .rw [Zh g]at c;exact hs.sep i v p y g hi c z b n h
  .rw [Zh l]at f;by_cases g:i=k
   .subst g;rw [Zm]at f;cases f;cases z
   .rw [Zh g]at f;by_cases D:j=v
    .subst D;rw [Zm]at c;cases c;exact hs.sep k i kt p (jG g) f hi z b n h
    .rw [Zh D]at c;by_cases F:i=v
     .subst F;rw [Zm]at c;cases c;exact h
     .rw [Zh F]at c;exact hs.sep k v kt y u f c z b n h
 .by_cases l:j=k
  .subst l;rw [Zm]at f;cases f;exact hs.scope i p q hi b n
  .rw [Zh l]at f;by_cases g:i=k
   .subst g;rw [Zm]at f;cases f;exact n.elim
   .rw [Zh g]at f;exact hs.scope k kt B f b n
theorem Yg0{h j a b c e f g:Value}:Instr.fill (λi=>some (i*2,2)) ((List.range (3*2)).map ((Value.agg #[h,j]).cells[· % (Value.agg #[h,j]).cells.size]!)).toArray [(0,.agg #[a,b]),(1,.agg #[c,e]),(2,.agg #[f,g])]=some #[a,b,c,e,f,g]:=by
 simp [Instr.fill,Value.cells,List.range,List.range.loop]
 try rfl
end Go.Sky
namespace Go.Sky
variable{o xs ys:List Nat}{k c b x y i m w a s h:Nat}{P:Program}{sc:Nat->Prop}{t:TypeId}{kd:IntKind}
theorem Zun(k:Nat):U^k=256^(8*k):=by rw [show U=256^8 from rfl,<-jS]
theorem Zdb(k:Nat):U^k=2^(64*k):=by rw [show U=2^64 from rfl,<-jS]
theorem Xs:0<U:=by simp [U]
theorem Yi5(h:val U (o.take k)+c*U^k=val U (xs.take k)+val U (ys.take k))(f:k<o.length) :
  val U ((o.set k ((xs.getD k 0+ys.getD k 0+c)%U)).take (k+1))+(xs.getD k 0+ys.getD k 0+c)/U*U^(k+1)=val U (xs.take (k+1))+val U (ys.take (k+1)):=by
 rw [Co _ _ _ f,Od,Od,cJ];generalize xs.getD k 0=a at *;generalize ys.getD k 0=b at *;generalize U^k=B at *;have d:=Nat.mod_add_div (a+b+c) U;have e:(a+b+c)%U*B+(a+b+c)/U*(B*U)=(a+b+c)*B:=by
  conv=>rhs;rw [<-d]
  rw [bL,aR B U,<-dB,aR ((a+b+c)/U) U]
 rw [bL,bL]at e;omega
theorem Ydc(j:c<=1)(l:xs.getD k 0<U)(n:ys.getD k 0<U)(h:val U (o.take k)+val U (ys.take k)=val U (xs.take k)+c*U^k)(g:k<o.length) :
  val U ((o.set k ((xs.getD k 0+U-ys.getD k 0-c)%U)).take (k+1))+val U (ys.take (k+1))=val U (xs.take (k+1))+brw (xs.getD k 0) (ys.getD k 0) c*U^(k+1):=by
 unfold brw;rw [Co _ _ _ g,Od,Od,cJ];generalize xs.getD k 0=a at *;generalize ys.getD k 0=b at *;generalize U^k=B at *;by_cases f:a<b+c
 .rw [aF f];have d:(a+U-b-c)%U+b+c=a+U:=by rw [aU O];omega
  have e:((a+U-b-c)%U+b+c)*B=(a+U)*B:=by rw [d]
  rw [bL,bL,bL]at e;rw [mZ,aR B U];omega
 .rw [aD f];have d:(a+U-b-c)%U+b+c=a:=by rw [show a+U-b-c=(a-b-c)+U by omega,nU,aU O];omega
  have e:((a+U-b-c)%U+b+c)*B=a*B:=by rw [d]
  rw [bL,bL]at e;omega
theorem Zmh(b:Nat)(xs:List Nat)(k:Nat)(d:k<xs.length):val b xs=val b (xs.take k)+xs.getD k 0*b^k+b^(k+1)*val b (xs.drop (k+1)):=by
 conv=>lhs;rw [<-fH (k+1) xs]
 rw [Ka,Od,aS,dY O]
theorem Yia(l:0<b)(n:∀d∈xs,d<b)(f:k<xs.length)(g:k<ys.length)(e:xs.drop (k+1)=ys.drop (k+1))(h:xs.getD k 0<ys.getD k 0):val b xs<val b ys:=by
 rw [Zmh b xs k f,Zmh b ys k g,e];have p:val b (xs.take k)<b^k:=by have:=Zjk l (xs.take k) (λd e=>n d (fP e));rwa [aS,dY O]at this
 have j:(xs.getD k 0+1)*b^k<=ys.getD k 0*b^k:=aP _ h;rw [bL]at j;omega
theorem Zp3(d:k<xs.length)(e:k<ys.length)(f:xs.drop (k+1)=ys.drop (k+1))(h:xs.getD k 0=ys.getD k 0):xs.drop k=ys.drop k:=by rw [eG d,eG e,f];simp [List.getD,d,e]at h;rw [h]
theorem Znh(d:2<=b)(h:(dg b x).length<(dg b y).length):x<y:=by have e:=(Xy d (dg b x).length x).1 (aI _);have f:=(Ij d (dg b x).length y).1 h;omega
theorem Zxj(h:0<x):bl x=(dg U x).length*64-(64-bl ((dg U x).getD ((dg U x).length-1) 0))/\bl ((dg U x).getD ((dg U x).length-1) 0)<=64/\0<(dg U x).length/\0<bl ((dg U x).getD ((dg U x).length-1) 0):=by
 have d:0<(dg U x).length:=by rw [Ij Xm,gX];omega
 have f:U^((dg U x).length-1)<=x:=(Ij Xm _ x).1 O;have e:x<U^(dg U x).length:=(Xy Xm _ x).1 (aI _);have g:x/U^((dg U x).length-1)<U:=by rw [cL (bW Xs),aR,<-cJ,show((dg U x).length-1).succ=(dg U x).length by omega];exact e
 rw [Fb Xm,aU g,Zdb,Gc];have j:64*((dg U x).length-1)<bl x:=by rw [Zb6,<-Zdb];exact f
 have l:bl x<=64*(dg U x).length:=by rw [Qt,<-Zdb];exact e
 refine⟨?_,?_,d,?_⟩<;>omega
theorem Zvl(x:Nat):(dg 256 x).length=(bl x+7)/8:=by
 have d:∀k,(dg 256 x).length<=k↔(bl x+7)/8<=k:=λk=>by rw [Xy O,show 256^k=2^(8*k) by rw [show 256=2^8 from rfl,<-jS],<-Qt];omega
 have e:=(d (dg 256 x).length).1 (aI _);have f:=(d ((bl x+7)/8)).2 (aI _);omega
theorem lenU(x:Nat):(dg U x).length=((dg 256 x).length+7)/8:=by
 have d:∀k,(dg U x).length<=k↔((dg 256 x).length+7)/8<=k:=λk=>by rw [Xy Xm,Zun,<-Xy O];omega
 have e:=(d (dg U x).length).1 (aI _);have f:=(d (((dg 256 x).length+7)/8)).2 (aI _);omega
theorem Ze0(f:xs.length=ys.length)(h:∀i,i<xs.length->xs.getD i 0=ys.getD i 0):xs=ys:=by apply gM f;intro i d e;have:=h i d;simpa [List.getD,d,e]using this
theorem Mc{α:Type}{o:List α}{j:Nat}{d z:α}(hi:i<o.length):(o.set i d).getD j z=if i=j then d else o.getD j z:=by
 by_cases h:i=j
 .subst h;simp [List.getD,hi]
 .rw [aD h];simp [List.getD,jB h]
theorem Ec(n i:Nat):(List.replicate n 0).getD i 0=0:=by simp only [List.getD,iG];split<;>rfl
theorem Zqi(x k:Nat):x/U^(k/8)%U/2^(k%8*8)%256=x/256^k%256:=by
 have g:=cP k 8;have j:k%8<8:=bO _ O;have d:U=256^(k%8)*256^(8-k%8):=by rw [<-bN,show k%8+(8-k%8)=8 by omega]
 have e:(2:Nat)^(k%8*8)=256^(k%8):=by rw [show(256:Nat)=2^8 from rfl,<-jS,aR]
 have f:x/U^(k/8)/256^(k%8)=x/256^k:=by rw [bA,Zun,<-bN,g]
 rw [e]
 conv=>lhs;rw [d]
 rw [Nat.mod_mul_right_div_self,<-d,f,show 8-k%8=(8-k%8-1)+1 by omega,cJ,Nat.mod_mul_left_mod]
def hi(x m w:Nat):Nat:=x/256^m*256^m/U^w%U
theorem Ygd(h:m<=8*w):hi x m w=x/U^w%U:=by unfold hi;rw [Zun,show 8*w=m+(8*w-m) by omega,bN,<-bA,jR _ (bW O),bA]
theorem hi_lt(h:8*w+8<=m):hi x m w=0:=by unfold hi;rw [Zun,show m=8*w+(8+(m-8*w-8)) by omega,bN 256 (8*w),aR (256^(8*w)),<-dB,jR _ (bW O),bN 256 8];rw [show U=256^8 from rfl,nV,Nat.mul_mod_right]
theorem Ygc{r:Nat}(h:m=8*w+r)(d:r<=8):hi x m w=x/256^m*256^r%U:=by
 unfold hi;subst h;rw [Zun]
 conv=>lhs;rw [bN 256 (8*w) r,aR (256^(8*w)),<-dB,jR _ (bW O)]
 rw [aR (256^r) (256^(8*w)),<-bN]
theorem Ymc(x k:Nat):hi x (k+1) (k/8) ||| (x/256^k%256*2^(k%8*8))%U=hi x k (k/8):=by
 have B:=cP k 8;have v:k%8<8:=bO _ O;rw [Ygc (r:=k%8+1) O O,Ygc (r:=k%8) O O];have j:(2:Nat)^(k%8*8)=256^(k%8):=by rw [show(256:Nat)=2^8 from rfl,<-jS,aR]
 rw [j];generalize k%8=r at *;have q:x/256^(k+1)=x/256^k/256:=by rw [cJ,bA]
 rw [q];generalize x/256^k=z;have e:U=256^(r+1)*256^(7-r):=by rw [<-bN,show r+1+(7-r)=8 by omega]
 have d:z%256*256^r<256^(r+1):=by rw [cJ,aR (256^r)];exact(mW (bW O)).2 (bO _ O)
 have f:256^(r+1)<=U:=by rw [e];exact eP _ (bW O)
 rw [aU (cZ d f)];have p:z/256*256^(r+1)%U=256^(r+1)*(z/256%256^(7-r)):=by rw [e,aR (z/256),Nat.mul_mod_mul_left]
 rw [p];have g:(256:Nat)^(r+1)=2^(8*(r+1)):=by rw [show(256:Nat)=2^8 from rfl,<-jS]
 have Lf:=kZ (b:=z%256*256^r) (i:=8*(r+1)) (by rw [<-g];exact d) (z/256%256^(7-r));rw [<-g]at Lf;rw [<-Lf];have u:z=256*(z/256)+z%256:=(cP z 256).symm;have l:z*256^r=256^(r+1)*(z/256)+z%256*256^r:=by
  conv=>lhs;rw [u]
  rw [bL,cJ,aR (256^r) 256,dB,dB,aR (z/256)]
 rw [l,e];have n:256^(r+1)*(z/256)+z%256*256^r=z%256*256^r+256^(r+1)*(z/256):=O;rw [n,mV,jN,aU d,mT _ _ (bW O),dI d,bR];omega
theorem Nv(x:Nat):(dg U x).length=(bl x+63)/64:=by
 have d:∀k,(dg U x).length<=k↔(bl x+63)/64<=k:=λk=>by rw [Xy Xm,Zdb,<-Qt];omega
 have e:=(d (dg U x).length).1 (aI _);have f:=(d ((bl x+63)/64)).2 (aI _);omega
theorem bl_add:bl (x+y)<=max (bl x) (bl y)+1:=by rw [Qt,cJ];have d:=Bd x;have e:=Bd y;have f:2^bl x<=2^max (bl x) (bl y):=dK O O;have g:2^bl y<=2^max (bl x) (bl y):=dK O O;omega
theorem Zwt(x y:Nat):bl (x*y)<=bl x+bl y:=by
 rw [Qt,bN];rcases aV y with rfl|d
 .rw [nW];exact fZ (bW O) (bW O)
 .exact jD (Bd x) (eU (Bd y)) (bW O)
theorem Zn1(b:Nat)(o:List Nat)(n p r:Nat)(d:p<o.length)(f:p<n):val b ((o.set p r).take n)+o.getD p 0*b^p=val b (o.take n)+r*b^p:=by
 induction n with
 | zero=>omega
 | succ n e=>
  rw [Od b (o.set p r) n,Od b o n,Mc d];by_cases h:p=n
  .subst h;rw [aF rfl,Zl5];omega
  .rw [aD h];have:=e O;omega
theorem Ybh(d:x<U)(e:y<U)(f:a<U)(g:c<U) :
  ((x*y%U+a+0)%U+c+0)%U+U*(((x*y/U+(x*y%U+a+0)/U)%U+((x*y%U+a+0)%U+c+0)/U)%U)=x*y+a+c/\
  ((x*y/U+(x*y%U+a+0)/U)%U+((x*y%U+a+0)%U+c+0)/U)%U<U:=by
 have h:x*y<=18446744073709551615*18446744073709551615:=aY (by simp only [U]at d;omega) (by simp only [U]at e;omega);generalize x*y=p at *;simp only [U]at *;omega
theorem Yfh  {V r d n:Nat} (q:val U (o.take n)+c*U^(i+k)=V+xs.getD i 0*U^i*val U (ys.take k)) (g:i+k<o.length) (f:i+k<n)
  (j:r+U*d=xs.getD i 0*ys.getD k 0+o.getD (i+k) 0+c):val U ((o.set (i+k) r).take n)+d*U^(i+(k+1))=V+xs.getD i 0*U^i*val U (ys.take (k+1)):=by
 have p:=Zn1 U o n (i+k) r g f;rw [Od,show i+(k+1)=i+k+1 by omega,cJ];have l:xs.getD i 0*U^i*(ys.getD k 0*U^k)=xs.getD i 0*ys.getD k 0*U^(i+k):=by rw [bN];ac_rfl
 rw [gK,l];have e:(r+U*d)*U^(i+k)=(xs.getD i 0*ys.getD k 0+o.getD (i+k) 0+c)*U^(i+k):=by rw [j]
 rw [bL,bL,bL,aR U d,dB d,aR U]at e;omega
theorem Zh8  {N:Nat}  {env:Qi} {H:Hp} {o:Oper} {x y:Operand}  {s:ByteArray}  {m:Int}  (g:o.op= .index t x y)
  (l:ev env x=some (.string s)) (n:ev env y=some (.int kd m)) (j:P.underlying t=some .string)
  (e:m=(i:Int)) (f:i<256) (hs:s.size=256) (d:∀i,i<256->(s.data.toList.getD i 0).toNat=bl i):Ms P N sc o env H (.int .u8 (bl i:Int)):=by
 rw [<-d i f];exact Yhw g l n j e 
theorem Yfi  (z:x<U) (B:y<U) {hi lo:Nat}
  (u:hi=(((x/4294967296)*(y/4294967296)%U+(((x/4294967296)*(y &&& 4294967295)%U+((x &&& 4294967295)*(y &&& 4294967295)%U)/4294967296)%U)/4294967296)%U +
   (((((x/4294967296)*(y &&& 4294967295)%U+((x &&& 4294967295)*(y &&& 4294967295)%U)/4294967296)%U &&& 4294967295)+(x &&& 4294967295)*(y/4294967296)%U)%U)/4294967296)%U)
  (G:lo=x*y%U):hi=x*y/U:=by
 have v:∀n:Nat,n &&& 4294967295=n%4294967296:=λn=>kI n 32;subst u;simp only [v];have j:=cP x 4294967296;have l:=cP y 4294967296;have F:=bO x (show 4294967296>0 by omega);have D:=bO y (show 4294967296>0 by omega);have f:x/4294967296<=4294967295:=by simp only [U]at z;omega
 have g:y/4294967296<=4294967295:=by simp only [U]at B;omega
 generalize x/4294967296=a at *;generalize x%4294967296=b at *;generalize y/4294967296=c at *;generalize y%4294967296=d at *;subst j;subst l;have e:(4294967296*a+b)*(4294967296*c+d)=18446744073709551616*(a*c)+4294967296*(a*d)+4294967296*(b*c)+b*d:=by rw [bL,gK,gK,Nat.mul_mul_mul_comm,dB 4294967296 a d,nV b 4294967296 c];omega
 rw [e];have H:a*c<=4294967295*4294967295:=aY f g;have I:a*d<=4294967295*4294967295:=aY f O;have M:b*c<=4294967295*4294967295:=aY O g;have N:b*d<=4294967295*4294967295:=aY O O;generalize a*c=p at *;generalize a*d=q at *;generalize b*c=r at *;generalize b*d=s at *;simp only [U];omega
def Yab(m:Nat):bl (m%256)<=8:=(Qt 8 _).2 (bO _ O)
theorem Az:Mw ((bl (m%256):Nat):Int):=by have:=Yab m;exact⟨O,O⟩
theorem Ce{c:Int}(d:0<=c)(e:c<=1000):Mw (c+((bl (m%256):Nat):Int)):=by have:=Yab m;exact⟨O,O⟩
theorem Ax (n:Nat){c:Int}(d:m<256)(h:c+(bl m:Int)=(bl n:Int)):Value.int .i64 (c+((bl (m%256):Nat):Int))=Value.int .i64 (bl n:Int):=by rw [aU d,h]
theorem Zpi{α:Type}{xs:List α}{d:α}(h:i<xs.length):xs.reverse.getD i d=xs.getD (xs.length-1-i) d:=by
 have e:i<xs.reverse.length:=by simpa using h
 have f:xs.length-1-i<xs.length:=O;simp [List.getD,aM f,aM e]
theorem hi_top(h:(dg 256 x).length<=m):hi x m w=0:=by have:=(Xy (b:=256) O m x).1 h;unfold hi;rw [dI this];simp
theorem Ygb(h:k/8≠w):hi x (k+1) w=hi x k w:=by
 by_cases d:k+1<=8*w
 .rw [Ygd d,Ygd O]
 .rw [hi_lt O,hi_lt O]
set_option maxRecDepth 20000
def Yjf:U=2^64:=rfl
theorem Ye3(d:b<2^s):a*2^s ||| b=a*2^s+b:=by rw [aR,kZ d]
theorem Ze2{l:Nat}(hs:s<=64)(d:l<U):l/2^(64-s)<2^s:=by rw [cL (dZ _),<-bN,show s+(64-s)=64 by omega];exact d
theorem Zh4{l:Nat}(hs:s<=64):l*2^s/U=l/2^(64-s):=by rw [Yjf,show(2:Nat)^64=2^(64-s)*2^s by rw [<-bN,show 64-s+s=64 by omega],mP _ _ (dZ s)]
theorem Ye2{l:Nat}(hs:s<=64)(d:h*2^s<U)(e:l<U):(h*2^s%U) ||| (l/2^(64-s))=(h*U+l)*2^s/U:=by rw [aU d,Ye3 (Ze2 hs e),bL,show h*U*2^s=U*(h*2^s) by rw [iR,aR],gW Xs,Zh4 hs]
theorem Ybk(h l s:Nat):l*2^s%U=(h*U+l)*2^s%U:=by rw [bL,show h*U*2^s=U*(h*2^s) by rw [iR,aR],iU]
def Zuh(x:Nat):x &&& 4294967295=x%4294967296:=kI x 32
def dvI(u v d y0 q r:Nat):Prop:=q*d+r=u/\q<=4294967297/\(u*4294967296+v)/(d*4294967296+y0)<=q
section
variable {u v y1 y0 q r:Nat}
theorem dv_Q(e:v<4294967296)(d:u<y1*4294967296+y0):(u*4294967296+v)/(y1*4294967296+y0)<4294967296:=by rw [cL O];have:(u+1)*4294967296<=(y1*4294967296+y0)*4294967296:=aP _ d;omega
theorem dv0(j:2147483648<=y1)(l:y1<4294967296)(g:y0<4294967296)(D:v<4294967296)(B:u<y1*4294967296+y0):dvI u v y1 y0 (u/y1) (u%y1):=by
 refine⟨by rw [aR];exact cP u y1,?_,?_⟩
 .rw [<-Nat.lt_succ_iff,cL O];show u<4294967298*y1;omega
 .have f:0<y1*4294967296+y0:=O;refine nX ((cL f).2 ?_);have n:=cP u y1;have p:=bO u (show 0<y1 by omega);generalize u/y1=q at *;have d:u+1<=y1*(q+1):=by rw [gK];omega
  have z:(u+1)*4294967296<=y1*(q+1)*4294967296:=aP _ d;have e:(q+1)*(y1*4294967296+y0)=y1*(q+1)*4294967296+(q+1)*y0:=by rw [gK,aR y1 (q+1),dB (q+1) y1]
  show u*4294967296+v<(q+1)*(y1*4294967296+y0);rw [e];omega
theorem Yhk(hi:q*y1+r=u):q*(y1*4294967296+y0)+r*4294967296=u*4294967296+q*y0:=by rw [gK,<-hi,bL,dB];omega
theorem Zp2(j:0<y1)(hi:dvI u v y1 y0 q r)(f:q*y0<=4294967296*r+v):q=(u*4294967296+v)/(y1*4294967296+y0):=by obtain⟨d,g,e⟩:=hi;refine jP ((kG O).2 ?_) e;have:=Yhk (y0:=y0) d;omega
theorem Zi6(B:0<y1)(hi:dvI u v y1 y0 q r)(l:v<4294967296)(j:u<y1*4294967296+y0)(e:4294967296<=q\/4294967296*r+v<q*y0) :
  1<=q/\dvI u v y1 y0 (q-1) (r+y1):=by
 obtain⟨f,n,z⟩:=hi;have d:(u*4294967296+v)/(y1*4294967296+y0)<q:=by
  rcases e with e|e
  .exact cZ (dv_Q l j) e
  .rw [cL O];have:=Yhk (y0:=y0) f;omega
 have g:1<=q:=bC (bI _) d;refine⟨g,?_,O,Nat.le_sub_one_of_lt d⟩;obtain⟨p,rfl⟩:∃p,q=p+1:=⟨q-1,O⟩;rw [bL]at f;simp only [fN];omega
theorem Zgc(d:0<y1)(g:y0<4294967296)(hi:dvI u v y1 y0 q r)(e:q<=4294967296)(f:4294967296<=r):q=(u*4294967296+v)/(y1*4294967296+y0):=by refine Zp2 d hi ?_;have j:q*y0<=4294967296*y0:=aP _ e;have l:4294967296*4294967296<=4294967296*r:=bH _ f;omega
theorem Zsi(f:q<4294967296)(d:y0<4294967296):q*y0<18446744073709551616:=by have e:q*y0<=4294967295*y0:=aP _ O;omega
end
theorem wsub (c:Nat)(g:a%U=c%U)(j:b%U=m%U)(l:m<=c)(d:c-m<U):(a+(U-b%U))%U=c-m:=by have e:b%U<U:=bO _ Xs;have f:(c-m)%U=c-m:=aU d;simp only [U]at *;omega
theorem Zzi{u v:Nat}(e:0<y)(g:y<U):((u*4294967296%U+v)%U+(U-((u*4294967296+v)/y*y)%U))%U=(u*4294967296+v)%y:=by have d:=cP (u*4294967296+v) y;have f:=bO (u*4294967296+v) e;rw [aR y]at d;rw [wsub (u*4294967296+v) (m:=(u*4294967296+v)/y*y) (by simp only [U];omega) rfl O O];omega
theorem Ym1{A D:Nat}(g:0<y)(e:D=A*4294967296+b):D/y=A/y*4294967296+(A%y*4294967296+b)/y/\D%y=(A%y*4294967296+b)%y:=by
 have f:=cP A y;have d:D=y*(A/y*4294967296)+(A%y*4294967296+b):=by
  conv=>lhs;rw [e,<-f]
  rw [bL,dB];omega
 constructor
 .conv=>lhs;rw [d]
  rw [gW g]
 .conv=>lhs;rw [d]
  rw [iU]
theorem dv_two{D u v d e:Nat}(j:0<y)(l:u=D/U)(n:v=D%U)(g:d=v/4294967296)(f:e=v%4294967296) :
  D/y=(u*4294967296+d)/y*4294967296+((u*4294967296+d)%y*4294967296+e)/y/\D%y=((u*4294967296+d)%y*4294967296+e)%y:=
 Ym1 j (by subst l n g f;simp only [U];omega)
def Zmu(n y s:Nat):n*2^s/(y*2^s)=n/y:=mP _ _ (dZ s)
theorem Zmt(n y s:Nat):n*2^s%(y*2^s)/2^s=n%y:=by rw [mQ,jR _ (dZ s)]
theorem Yfe(f:0<y)(g:y<U)(hs:s=64-bl y):9223372036854775808<=y*2^s/\y*2^s<U:=by
 have j:bl y<=64:=(Qt 64 y).2 g;have d:=Bd y;have e:=(Zqk f).1;have l:(2:Nat)^bl y*2^s=U:=by rw [<-bN,show bl y+s=64 by omega]
 have n:y*2^s<2^bl y*2^s:=eJ d (dZ s);have p:2^(bl y-1)*2^s<=y*2^s:=aP _ e;have z:2^(bl y-1)*2^s=9223372036854775808:=by
  have:1<=bl y:=by
   rcases aV (bl y)with h|h
   .rw [h]at d;omega
   .exact h
  rw [<-bN,show bl y-1+s=63 by omega]
 omega
theorem rsub{u:Nat}(e:0<y)(f:u<U):(u+(U-(u/y*y)%U))%U=u%y:=by have d:=cP u y;rw [aR y]at d;rw [wsub u (m:=u/y*y) rfl rfl O O];omega
theorem Zbg{n:Nat}(h:m=n):Value.int .u64 (m:Int)= .int .u64 (n:Int):=by rw [h]
theorem Yf6{m n:Int}(h:m=n):Value.int .i64 m= .int .i64 n:=by rw [h]
theorem Zto(d:1<=a)(h:a<U):(a+(U-1))%U=a-1:=by rw [show a+(U-1)=a-1+U by simp only [U]at *;omega,nU,aU O]
def shl_lt(e:h<y)(d:y*2^s<U):h*2^s<U:=bC (aP _ (eU e)) d
theorem top_lt{l:Nat}(g:l<U)(f:h<y):(h*U+l)*2^s/U<y*2^s:=by
 rw [cL Xs];have d:(h+1)*U<=y*U:=aP _ f;have e:h*U+l<y*U:=by rw [bL]at d;omega
 rw [iR];exact eJ e (dZ s)
end Go.Sky
namespace Go.Sky
set_option maxRecDepth 20000
variable{b r w k:Nat}{o xs:List Nat}
theorem Zow{a s:Nat}(c:b<2^s):b ||| a*2^s=a*2^s+b:=by rw [Nat.or_comm,Ye3 c]
theorem Zfh{Y t:Nat}(a:t<=64):Y*2^t%U=Y%2^(64-t)*2^t:=by rw [Yjf,show(2:Nat)^64=2^(64-t)*2^t by rw [<-bN,show 64-t+t=64 by omega],mQ]
theorem Zlm(c:b<=64)(a:r<U):r/2^b<2^(64-b):=by have:=Ze2 (l:=r) (s:=64-b) O a;rwa [show 64-(64-b)=b by omega]at this
theorem Zrk(Y b:Nat)(a:b<=64):Y%U/2^b ||| (Y/U%U)*2^(64-b)%U=Y/2^b%U:=by
 have e:Y%U<U:=bO _ Xs;rw [Zfh O,Zow (Zlm a e),show 64-(64-b)=b by omega];have f:Y/U%U%2^b=Y/U%2^b:=by rw [Yjf];exact Nat.mod_mod_of_dvd _ (Nat.pow_dvd_pow 2 a)
 rw [f];have c:U=2^b*2^(64-b):=by rw [<-bN,show b+(64-b)=64 by omega]
 have g:=cP Y U;have h:Y/2^b=2^(64-b)*(Y/U)+Y%U/2^b:=by
  conv=>lhs;rw [<-g]
  conv=>lhs;rw [show U*(Y/U)=2^b*(2^(64-b)*(Y/U)) by rw [<-dB,<-c]]
  rw [gW (dZ b)]
 rw [h];have d:=Zlm a e;generalize Y/U=q at *;generalize Y%U=r at *
 conv=>rhs;rw [c,aR (2^b)]
 rw [mV,gW (dZ _),iU,aU d,dI d,fR,iB,aR]
theorem Ya0{Y:Nat}(c:b<=64)(a:Y/U=0):Y%U/2^b=Y/2^b%U:=by have:=Zrk Y b c;rw [a]at this;simpa using this
theorem Yb6{α:Type}(xs:List α)(w j:Nat)(d:α):(xs.drop w).getD j d=xs.getD (w+j) d:=by simp [List.getD,gO]
theorem Zat{x s:Nat}(c:w=s/64)(a:b=s%64):x/2^s=x/U^w/2^b:=by rw [Zdb,bA,<-bN,show 64*w+b=s by omega]
theorem Zti(x b i:Nat):x/2^b/U^i=x/U^i/2^b:=by rw [bA,aR,<-bA]
theorem Zzl(x w j:Nat):((dg U x).drop w).getD j 0=x/U^w/U^j%U:=by rw [Yb6,Fb Xm,bN,bA]
theorem Zyu{x n:Nat}(h:(dg U x).length<=w+n):x/U^w<U^n:=by rw [cL (bW Xs),<-bN,iB];exact(Xy Xm _ _).1 h
theorem drop_set{α:Type}{o:List α}{d:α}(h:k<o.length):(o.set k d).drop k=d::o.drop (k+1):=by rw [List.drop_set,aD O,lA,eG h];rfl
theorem Zth{α:Type}(z:α)(o:List α)(k:Nat)(h:k<o.length):o.drop k=o.getD k z::o.drop (k+1):=by rw [eG h];simp [List.getD,aM h]
theorem Zux{d:Nat}(g:0<d)(h:k+1<=o.length)(i:k+1<=xs.length)(a:val U (o.drop (k+1))*d+r=val U (xs.drop (k+1))) :
  val U ((o.set k ((r*U+xs.getD k 0)/d)).drop k)*d+(r*U+xs.getD k 0)%d=val U (xs.drop k):=by
 rw [drop_set O,Zth 0 xs k O];simp only [val];have c:=cP (r*U+xs.getD k 0) d;rw [<-a];generalize (r*U+xs.getD k 0)/d=q at *;generalize (r*U+xs.getD k 0)%d=m at *;generalize val U (o.drop (k+1))=V at *;rw [bL,gK,aR q d];have e:U*V*d=U*(V*d):=dB _ _ _;have f:U*r=r*U:=aR _ _;omega
theorem Yd0  {i n:Nat} (j:b<=63) (l:n=o.length) (m:w+i+1<n) (d:o.getD (w+i) 0<2^b) (h:o.getD (w+i+1) 0=0) (p:xs.getD i 0<U)
  (g:val U (o.take n)=val U (xs.take i)*2^b*U^w) :
  val U (((o.set (w+i) (o.getD (w+i) 0 ||| xs.getD i 0*2^b%U)).set (w+i+1) (xs.getD i 0/2^(64-b))).take n)=val U (xs.take (i+1))*2^b*U^w:=by
 have a:=Zn1 U (o.set (w+i) (o.getD (w+i) 0 ||| xs.getD i 0*2^b%U)) n (w+i+1) (xs.getD i 0/2^(64-b)) O9 O;have c:=Zn1 U o n (w+i) (o.getD (w+i) 0 ||| xs.getD i 0*2^b%U) O O;rw [Mc O,aD O,h]at a;rw [Zfh O,Zow d,<-Zfh O]at c ;rw [Zfh O,Zow d,<-Zfh O]at a ⊢;rw [<-Zh4 (by omega:b<=64)]at a ⊢;rw [Od];generalize xs.getD i 0=X at *;generalize o.getD (w+i) 0=C at *;have e:X*2^b*U^(w+i)=(X*2^b%U)*U^(w+i)+X*2^b/U*U^(w+i+1):=by
  conv=>lhs;rw [<-cP (X*2^b) U]
  rw [bL,cJ U (w+i),aR U,dB (X*2^b/U),aR U];omega
 have f:(val U (xs.take i)+X*U^i)*2^b*U^w=val U (xs.take i)*2^b*U^w+X*2^b*U^(w+i):=by rw [bL,bL,bN];congr 1;rw [iR X,dB,dB,aR (U^i)];simp only [dB]
 rw [f,<-g,e];rw [bL]at c;omega
theorem Zl8(o:List Nat)(j:Nat)(h:o.getD j 0=0):o.set j 0=o:=by
 rcases aX j o.length with a|a
 .refine Ze0 O8 (λi _=>?_);rw [Mc a];split
  .rename_i e;rw [<-e,h]
  .rfl
 .exact List.set_eq_of_length_le a
theorem Ztg{d n:Nat}(c:n<U)(a:r<d):(r*U+n)/d<U:=by rw [cL O];have:(r+1)*U<=d*U:=aP _ a;rw [aR U];rw [bL]at this;omega
end Go.Sky

