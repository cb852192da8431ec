/- Rules, arithmetic and contracts: part 2. No conditions but those that each theorem names. -/
import Derived.Test.YtpmihempjefadaaGreatGa00
import Derived.Laws.Externs
import Derived.Lib.SliceRun
import Derived.Great.BuildSlice
import Derived.Laws.Small
import Derived.Laws.StructEq
set_option linter.all false
namespace Go.Sky
open Go.RowKit Below
variable{op:Op}{b b':Bool}{cs:Array Value}{c:Code}{ch:Hp}{p:Pc}{k:Nat}{n':Int}{k' kd:IntKind}{ats:Array TypeId}{w:World}
variable {P:Program} {N:Nat} {sc:Nat->Prop} {env env':Xu} {H H':Hp} {Q Q':Exit->Act->World->Prop} {M:Nat->Prop}
section
variable {ops:Array Oper} {rest:List Oper} {d:Nat} {ty:TypeId} {pos:String} {af:Array Edge} {v:Value} {x:Operand}
theorem dt(e:Ni P N sc ⟨some d,op,ty,pos,af,none⟩ env H v)(h:L P N sc ops rest Q ((d,v)::env) H)(a:Nat.blt d N=true:=by rfl) :
  L P N sc ops (⟨some d,op,ty,pos,af,none⟩::rest) Q env H:=l_det rfl rfl a e h
theorem tt {o:Oper} {G:Type} {φ:G->Prop} {a:G->Xu} {e:G->Hp} (i:T P N sc (λ_=>True) o env H φ a e) 
  (h:∀g,φ g->L P N sc ops rest Q (a g) (e g)) (f:o.guard=none:=by rfl):L P N sc ops (o::rest) Q env H:=l_step f i h
theorem Et  {j e:Nat}  (l:Ni P N sc ⟨some d,op,ty,pos,af,some (j,b)⟩ env H v) (i:(ops[j]?).bind (·.dst)=some e) (g:lk env e=some (.bool b))  
  (h:L P N sc ops rest Q ((d,v)::env) H) (a:Nat.blt e N=true:=by rfl) (f:Nat.blt d N=true:=by rfl):L P N sc ops (⟨some d,op,ty,pos,af,some (j,b)⟩::rest) Q env H:=l_gdet rfl i g a rfl f l h
def gsk  {j e:Nat}  (l:(ops[j]?).bind (·.dst)=some e) (i:lk env e=some (.bool b')) (a:(b' == b)=false) (f:Nat.blt e N=true) (g:Nat.blt d N=true)
  (h:L P N sc ops rest Q ((d,undef)::env) H):L P N sc ops (⟨some d,op,ty,pos,af,some (j,b)⟩::rest) Q env H:=Yd8 rfl l i f a rfl g h
def gtt {o:Oper} {G:Type} {φ:G->Prop} {a:G->Xu} {i:G->Hp} {j e:Nat}  (q:T P N sc (λ_=>True) o env H φ a i) (m:o.guard=some (j,b)) (n:(ops[j]?).bind (·.dst)=some e) (l:lk env e=some (.bool b)) (f:Nat.blt e N=true)
  (h:∀g,φ g->L P N sc ops rest Q (a g) (i g)):L P N sc ops (o::rest) Q env H:=Yd7 m n l f q h
end
section
variable {ops:Array Oper} {F:Xu->Hp->Prop} {rest:List (Nat×Nat)} {i:Nat} {o:Oper}
def Stb(P:Program)(N:Nat)(sc:Nat->Prop)(M:Nat->Prop)(o:Oper)(env:Xu)(H:Hp)(v:Value):Prop:=
 ∀a w,Sat N sc env H a w->∀e,Chg M w e->(execOp a.eval o).run P e= .ok (.value v) e
def Pz{v:Value}(f:Ni P N sc o env H v):Stb P N sc (λ_=>False) o env H v:=λa w hs g e=>f a g (hs.chg0 e)
theorem st1{v:Value}(k:Nat){b:Nat}{t:TypeId}(y:lk H k=some (box b t cs))(D:Ni P N sc o env (drp k H) v):Stb P N sc (λx=>x=b) o env H v:=λa w hs n l=>by
 refine D a n ?_;have f:Sat N sc env (drp k H) a w:=⟨hs.size,hs.defers,hs.env,λi g hi=>hs.hold i g (Hg _ _ _ _ hi).2,
  λi j g G h hi u=>hs.sep i j g G h (Hg _ _ _ _ hi).2 (Hg _ _ _ _ u).2,λi g r hi=>hs.scope i g r (Hg _ _ _ _ hi).2⟩
 refine⟨f.size,f.defers,f.env,λi g hi=>?_,f.sep,f.scope⟩;obtain⟨h,m⟩:=Hg _ _ _ _ hi;refine g.stable w n (f.hold i g hi) ⟨l.os,l.tape,l.output,l.size,λq B z=>l.block q B (λe=>z (λs=>?_))⟩;subst e;exact hs.sep k i _ g (fS h) y m rfl q rfl s
theorem r0{d:Nat}{v:Value}(hs:Stb P N sc M o env H v)(l:ops[i]? = some o)(j:o.guard=none)(g:o.dst=some d)(f:Nat.blt d N=true)(h:LD P N sc M ops F rest ((d,v)::env) H) :
  LD P N sc M ops F ((i,0)::rest) env H:=⟨o,d,v,l,g,f,λa w e=>⟨by simp [Region.wanted,j],hs a w e⟩,h⟩
theorem r0g {d j e:Nat}  {v:Value} (hs:Stb P N sc M o env H v) (s:ops[i]? = some o) (q:o.guard=some (j,b)) (r:(ops[j]?).bind (·.dst)=some e) (n:lk env e=some (.bool b)) (m:o.dst=some d) 
  (h:LD P N sc M ops F rest ((d,v)::env) H) (g:Nat.blt e N=true:=by rfl) (l:Nat.blt d N=true:=by rfl) :
  LD P N sc M ops F ((i,0)::rest) env H:=⟨o,d,v,s,m,l,λa w f=>⟨by simp [Region.wanted,q,f.yielded r n g],hs a w f⟩,h⟩
theorem r1{G:Type}{φ:G->Prop}{e:G->Xu}{f:G->Hp}(m:T P N sc M o env H φ e f)(l:ops[i]? = some o)(j:o.guard=none)(h:∀g,φ g->LD P N sc M ops F rest (e g) (f g)) :
  LD P N sc M ops F ((i,1)::rest) env H:=⟨o,G,φ,e,f,l,λa w _=>by simp [Region.wanted,j],m,h⟩
theorem r1g {G:Type} {φ:G->Prop} {f:G->Xu} {m:G->Hp} {j e:Nat}  (u:T P N sc M o env H φ f m) (t:ops[i]? = some o) (r:o.guard=some (j,b)) (s:(ops[j]?).bind (·.dst)=some e) (q:lk env e=some (.bool b)) (n:Nat.blt e N=true)
  (h:∀g,φ g->LD P N sc M ops F rest (f g) (m g)) :
  LD P N sc M ops F ((i,1)::rest) env H:=⟨o,G,φ,f,m,t,λa w l=>by simp [Region.wanted,r,l.yielded s q n],u,h⟩
theorem r3{G:Type}{φ:G->Prop}{e:G->Xu}{f:G->Hp}(m:T P N sc (λ_=>True) o env H φ e f)(l:ops[i]? = some o)(j:o.guard=none)(h:∀g,φ g->LD P N sc M ops F rest (e g) (f g)) :
  LD P N sc M ops F ((i,3)::rest) env H:=⟨o,G,φ,e,f,l,λa w _=>by simp [Region.wanted,j],m,h⟩
theorem r2 {d j e:Nat}  (t:ops[i]? = some o) (r:o.guard=some (j,b)) (s:(ops[j]?).bind (·.dst)=some e) (q:lk env e=some (.bool b')) (g:(b' == b)=false) (l:Nat.blt e N=true) (n:o.dst=some d) (m:Nat.blt d N=true)
  (h:LD P N sc M ops F rest ((d,undef)::env) H) :
  LD P N sc M ops F ((i,2)::rest) env H:=⟨o,d,t,n,m,λa w f=>by simp [Region.wanted,r,f.yielded s q l];simpa using g,h⟩
def r_fin(h:F env H):LD P N sc M ops F [] env H:=h
theorem Bh{o:Oper}{d:Nat}{v:Value}(h:Ni P N sc o env H v)(g:o.dst=some d)(f:Nat.blt d N=true:=by rfl):T P N sc M o env H (G:=Unit) (λ_=>True) (λ_=>(d,v)::env) (λ_=>H):=λa w hs K Q e=>by unfold Oper.wp;rw [h a w hs];show K (a.put o.dst v) w;rw [g];exact e () _ _ aA (hs.put d v f) (Chg.refl _ _)
end
def Yfr{G:Type}(N:Nat)(sc:Nat->Prop)(cs:Xu)(ch:Hp)(j:G->Xu)(h:G->Hp)(f:G->Prop)(μ:G->Nat)(g:G):Act->World->Prop:=
 λa w=>∃e,f e/\μ e<μ g/\Sat N sc (j e ++ cs) (h e ++ ch) a w
def e_lp  {G:Type} (cs:Xu) (ch:Hp) (j:G->Xu) (h:G->Hp) (a:G->Prop) (μ:G->Nat) (f:G) (m:a f) (hs:Sub (j f ++ cs) env) (l:HSub (h f ++ ch) H)
  (e:∀g,a g->E P N sc c (Exit.then (Yfr N sc cs ch j h a μ g) Q) (j g ++ cs) (h g ++ ch)) :
  E P N sc (.loop c) Q env H:=e_loop (λg=>j g ++ cs) (λg=>h g ++ ch) a μ f m hs l e
def x_rnd{G:Type}{cs:Xu}{l:G->Xu}{j:G->Hp}{h:G->Prop}{μ:G->Nat}{g:G}(e:G)(m:h e)(n:μ e<μ g)(hs:Sub (l e ++ cs) env)(q:HSub (j e ++ ch) H) :
  X N sc .normal (Exit.then (Yfr N sc cs ch l j h μ g) Q) env H:=λa w f=>⟨e,m,n,f.weaken hs q⟩
def JnK{G:Type}(N:Nat)(sc:Nat->Prop)(cs:Xu)(ch:Hp)(h:G->Xu)(f:G->Hp)(e:G->Prop):Act->World->Prop:=
 λa w=>∃g,e g/\Sat N sc (h g ++ cs) (f g ++ ch) a w
theorem e_jn {x y:Code} {G:Type} (cs:Xu) (ch:Hp) (m:G->Xu) (l:G->Hp) (h:G->Prop) (q:Sub cs env) (n:HSub ch H)
  (s:E P N sc x (Exit.then (JnK N sc cs ch m l h) Q) env H)
  (t:∀g,h g->E P N sc y Q (m g ++ cs) (l g ++ ch)):E P N sc (.seq x y) Q env H:=λa w hs=>by
 refine wp_seq (Code.wp_mono (λe a w j=>?_) (s a w hs));cases e with
 | normal=>obtain⟨g,r,f⟩:=j;exact t g r a w f
 | _=>exact j
def x_jn{G:Type}{cs:Xu}{j:G->Xu}{h:G->Hp}{f:G->Prop}(g:G)(l:f g)(hs:Sub (j g ++ cs) env)(m:HSub (h g ++ ch) H) :
  X N sc .normal (Exit.then (JnK N sc cs ch j h f) Q) env H:=λa w e=>⟨g,l,e.weaken hs m⟩
def Zg(hi:∀a w,Sat N sc env H a w->Sat N sc env' H' a w)(h:E P N sc c Q env' H'):E P N sc c Q env H:=λa w hs=>h a w (hi a w hs)
def Xh{e:Exit}(hi:∀a w,Sat N sc env H a w->Sat N sc env' H' a w)(h:X N sc e Q env' H'):X N sc e Q env H:=λa w hs=>h a w (hi a w hs)
def Qy{ops:Array Oper}{rest:List Oper}(hi:∀a w,Sat N sc env H a w->Sat N sc env' H' a w)(h:L P N sc ops rest Q env' H'):L P N sc ops rest Q env H:=λa w hs=>h a w (hi a w hs)
def Oo{p:Prop}(e:∀a w,Sat N sc env H a w->p)(h:p->E P N sc c Q env H):E P N sc c Q env H:=λa w hs=>h (e a w hs) a w hs
theorem Zj7(i:Nat){q:Pc}(hi:lk H i=some p)(y:q.own=p.own)(t:∀w,p.holds w->q.holds w)(n:∀b,q.fp b->p.fp b)(B:Nat.beq i 0=false):∀a w,Sat N sc env H a w->Sat N sc env ((i,q)::H) a w:=λa w hs=>by
  have R:i≠0:=λe=>by subst e;simp at B
  refine⟨hs.size,hs.defers,hs.env,λj s f=>?_,λj I s z h f g G b r m=>?_,λj s D f b r=>?_⟩
  .by_cases l:i=j
   .subst l;rw [Zz]at f;cases f;exact t w (hs.hold i p hi)
   .rw [Zj l]at f;exact hs.hold j s f
  .by_cases l:i=j
   .subst l;rw [Zz]at f;cases f;rw [Zj h]at g;exact hs.sep i I p z h hi g (by rw [<-y];exact G) b (n b r) m
   .rw [Zj l]at f;by_cases u:i=I
    .subst u;rw [Zz]at g;cases g;exact hs.sep j i s p h f hi G b r (n b m)
    .rw [Zj u]at g;exact hs.sep j I s z h f g G b r m
  .by_cases l:i=j
   .subst l;rw [Zz]at f;cases f;exact hs.scope i p R hi b (n b r)
   .rw [Zj l]at f;exact hs.scope j s D f b r
theorem Pd{α:Type}{t:TypeId}{e:TypeId}{enc:α->Value}{v:Value}{xs:List α}(i:Nat)(hi:lk H i=some (Nl k e enc v xs))(s:Nat.beq i 0=false)(I:Enc P t k enc):∀a w,Sat N sc env H a w->Sat N sc env ((i,Ym k enc v xs)::H) a w:=λa w hs=>by
  have G:i≠0:=λe=>by subst e;simp at s
  refine⟨hs.size,hs.defers,hs.env,λj m f=>?_,λj D m z r f g y b l n=>?_,λj m u f b l=>?_⟩
  .by_cases h:i=j
   .subst h;rw [Zz]at f;cases f;have B:=hs.hold i _ hi;exact⟨Fp I.cells B,λb l=>(B.lt b l.2).2⟩
   .rw [Zj h]at f;exact hs.hold j m f
  .by_cases h:i=j
   .subst h;rw [Zz]at f;cases f;cases y
   .rw [Zj h]at f;by_cases q:i=D
    .subst q;rw [Zz]at g;cases g;exact hs.sep j i m _ r f hi y b l n.2
    .rw [Zj q]at g;exact hs.sep j D m z r f g y b l n
  .by_cases h:i=j
   .subst h;rw [Zz]at f;cases f;exact hs.scope i _ G hi b l.2
   .rw [Zj h]at f;exact hs.scope j m u f b l
abbrev U:Nat:=18446744073709551616
theorem Zfc(n:Nat):IntKind.u64.wrap (n:Int)=((n%U:Nat):Int):=by rw [Zjr];simp [U]
theorem Zad{n:Nat}(h:n<U):IntKind.u64.wrap (n:Int)=(n:Int):=by rw [Zfc,aQ h]
section
variable {o:Oper} {t t':TypeId} {x y:Operand} {m n:Nat}
theorem Gm(a:o.op= .binOp .add t x y t')(e:ev env x=some (.int .u64 (m:Int)))(f:ev env y=some (.int .u64 (n:Int))):Ni P N sc o env H (.int .u64 (((m+n)%U:Nat):Int)):=Ia a e f λw=>by rw [<-Zfc];simp [binOp,Op.intArith]
theorem Gc(a:o.op= .binOp .mul t x y t')(e:ev env x=some (.int .u64 (m:Int)))(f:ev env y=some (.int .u64 (n:Int))):Ni P N sc o env H (.int .u64 (((m*n)%U:Nat):Int)):=Ia a e f λw=>by rw [<-Zfc];simp [binOp,Op.intArith]
theorem Za5(a:o.op= .binOp .sub t x y t')(e:ev env x=some (.int .u64 (m:Int)))(f:ev env y=some (.int .u64 (n:Int)))(g:n<U:=by decide):Ni P N sc o env H (.int .u64 (((m+(U-n))%U:Nat):Int)):=Ia a e f λw=>by
 have:((m:Int)-(n:Int))%18446744073709551616=(((m+(U-n))%U:Nat):Int):=by simp only [U]at *;omega
 rw [<-this,<-Zjr];simp [binOp,Op.intArith]
theorem Zwx(j:o.op= .binOp .quo t x y t')(l:ev env x=some (.int .u64 (m:Int)))(q:ev env y=some (.int .u64 (n:Int)))(h:m<U:=by omega)(r:0<n:=by omega):Ni P N sc o env H (.int .u64 ((m/n:Nat):Int)):=Ia j l q λw=>by
 have a:m/n<U:=bC (eP m n) h;have e:(m:Int).tdiv (n:Int)=((m/n:Nat):Int):=by rw [kA O];simp
 have f:=Zad a;have g:¬((n:Int)=0):=O;simp only [binOp,ne_eq,gQ,lQ,Op.intDiv,g,e,f,Sem.run_pure]
theorem u_rem(e:o.op= .binOp .rem t x y t')(f:ev env x=some (.int .u64 (m:Int)))(g:ev env y=some (.int .u64 (n:Int)))(h:0<n):Ni P N sc o env H (.int .u64 ((m%n:Nat):Int)):=Ia e f g λw=>by
 have a:(m:Int).tmod (n:Int)=((m%n:Nat):Int):=by rw [kB O];simp
 simp [binOp,Op.intDiv,show ¬n=0 by omega,a]
theorem Zam(m:Nat):BitVec.ofInt 64 (m:Int)=BitVec.ofNat 64 m:=by apply BitVec.eq_of_toNat_eq;simp
theorem Ycn(h:o.op= .binOp .or t x y t')(j:ev env x=some (.int .u64 (m:Int)))(l:ev env y=some (.int .u64 (n:Int)))(a:m<U)(e:n<U):Ni P N sc o env H (.int .u64 ((m ||| n:Nat):Int)):=Ia h j l λw=>by
 have f:m ||| n<U:=iY (n:=64) a e;have g:(BitVec.ofInt 64 (m:Int) ||| BitVec.ofInt 64 (n:Int)).toNat=m ||| n:=by rw [Zam,Zam,BitVec.toNat_or,iR,iR,aQ a,aQ e]
 simp only [binOp,ne_eq,gQ,lQ,Op.intBits,Sem.run_pure];rw [show(BitVec.ofInt IntKind.u64.bits (m:Int) ||| BitVec.ofInt IntKind.u64.bits (n:Int)).toNat=m ||| n from g,Zad f]
theorem Zmi(h:o.op= .binOp .and t x y t')(j:ev env x=some (.int .u64 (m:Int)))(l:ev env y=some (.int .u64 (n:Int)))(a:m<U:=by omega)(g:n<U:=by decide):Ni P N sc o env H (.int .u64 ((m &&& n:Nat):Int)):=Ia h j l λw=>by
 have e:m &&& n<U:=bC Nat.and_le_left a;have f:(BitVec.ofInt 64 (m:Int) &&& BitVec.ofInt 64 (n:Int)).toNat=m &&& n:=by rw [Zam,Zam,BitVec.toNat_and,iR,iR,aQ a,aQ g]
 simp only [binOp,ne_eq,gQ,lQ,Op.intBits,Sem.run_pure];rw [show(BitVec.ofInt IntKind.u64.bits (m:Int) &&& BitVec.ofInt IntKind.u64.bits (n:Int)).toNat=m &&& n from f,Zad e]
theorem Zii{k:IntKind}(j:o.op= .binOp .shl t x y t')(l:ev env x=some (.int .u64 (m:Int)))(q:ev env y=some (.int k n'))(e:n'=(n:Int))(r:n<=64:=by omega):Ni P N sc o env H (.int .u64 (((m*2^n)%U:Nat):Int)):=λa w hs=>by
 subst e;have f:min n 64=n:=O;have g:IntKind.u64.wrap ((m:Int)*2^n)=(((m*2^n)%U:Nat):Int):=by rw [<-Zfc];simp
 have h:¬((n:Int)<0):=O;simp [execOp,j,hs.ev l,hs.ev q,eqGuard,binOp,Op.shift,IntKind.bits,f,g,h]
theorem Zih{k:IntKind}(j:o.op= .binOp .shr t x y t')(l:ev env x=some (.int .u64 (m:Int)))(q:ev env y=some (.int k n'))(e:n'=(n:Int))(r:n<=64:=by omega):Ni P N sc o env H (.int .u64 ((m/2^n:Nat):Int)):=λa w hs=>by
 subst e;have f:min n 64=n:=O;have g:(m:Int).fdiv (2^n)=((m/2^n:Nat):Int):=by rw [Int.fdiv_eq_ediv_of_nonneg _ (by exact Int.pow_nonneg O)];simp
 have h:¬((n:Int)<0):=O;simp [execOp,j,hs.ev l,hs.ev q,eqGuard,binOp,Op.shift,IntKind.bits,f,g,h]
theorem Ks (n':Nat){k:IntKind}(e:o.op= .binOp .shr t x y t')(g:ev env x=some (.int .u64 (m:Int)))(h:ev env y=some (.int k (n:Int)))(a:Nat.ble n 64=true)(f:2^n=n'):Ni P N sc o env H (.int .u64 ((m/n':Nat):Int)):=by rw [<-f];exact Zih e g h rfl (by simpa using a)
theorem Zjv{k:IntKind}{r:Int}{m:Int}(f:o.op= .convert t t' x)(j:ev env x=some (.int k m)){ds:TypeDesc}(e:P.underlying t=some ds)(h:P.underlying t'=some (.int k'))(g:k'.wrap m=r):Ni P N sc o env H (.int k' r):=λa w hs=>by subst g;cases ds<;>simp [execOp,f,hs.ev j,convert,run_underlying e,run_underlying h,Conv.intToInt]
end
theorem Zjl {o:Oper} {x y:Operand}  {k:IntKind} {m n:Int} (e:o.op= .call { callee:= .builtin .max,args:=#[x,y],argTypes:=ats })
  (f:ev env x=some (.int k m)) (g:ev env y=some (.int k n)):Ni P N sc o env H (.int k (max m n)):=λa w hs=>by
 simp [execOp,e,resolve,hs.ev f,hs.ev g,invoke,builtin,Builtin.max_,Builtin.max2];by_cases h:n>m
 .rw [aG h];omega
 .rw [aE h];omega
def Nr(v:Value)(n:Nat):Value:=match v with
 | .slice a _ c=> .slice a n c
 | u=>u
theorem Ki(v:Value)(n:Nat):(Nr v n).ownBlock=v.ownBlock:=by
 cases v with
 | slice a l c=>cases a<;>rfl
 | _=>rfl
theorem Ztv (ii:Nat)(i:Nat) {α:Type} {o:Oper} {x y:Operand} {t e:TypeId} {v:Value}   {m:Int}  {enc:α->Value} {xs:List α} (l:o.op= .slice t x none (some y) none)
  (s:ev env x=some v) (u:ev env y=some (.int kd m)) (G:lk H ii=some p) (I:Rd p k enc v xs) (r:P.underlying t=some (.slice e)) (g:∀w,(sizeOf e).run P w= .ok k w)
   (h:m=(i:Int):=by omega) (j:i<=xs.length:=by omega):Ni P N sc o env H (Nr v i):=λa w hs=>by
 obtain⟨z,c,rfl,D,R,S⟩:=I w (hs.hold ii p G);subst h;have f:i<=c:=aB j D;have B:∀q:Addr,q.add 0=q:=λq=>by simp [Addr.add]
 cases z with
 | none=>simp [execOp,l,hs.ev s,hs.ev u,Instr.sliceAt,Instr.slice,Instr.sliceBounds,Instr.sliceBound,asIntOf,run_underlying r,g,f,Nr]
 | some q=>simp [execOp,l,hs.ev s,hs.ev u,Instr.sliceAt,Instr.slice,Instr.sliceBounds,Instr.sliceBound,asIntOf,run_underlying r,g,f,Nr,B]
theorem Zag{α:Type}{enc:α->Value}{v:Value}{xs:List α}(n:Nat)(r:n<=xs.length)(h:RowAt w k enc v xs):RowAt w k enc (Nr v n) (xs.take n):=by
 obtain⟨a,c,rfl,q,l,e⟩:=h;have j:(xs.take n).length=n:=by rw [aN];omega
 refine⟨a,c,by rw [j];rfl,by rw [j];omega,l,?_⟩;rcases e with rfl|⟨g,f,rfl,e⟩
 .exact .inl O7
 .refine .inr ⟨g,f,rfl,λi x hi=>e i x ?_⟩;rw [cD]at hi;split at hi
  .exact hi
  .cases hi
theorem Zhg{α:Type}{v:Value}{xs:List α}{n b:Nat}(h:xs.take n≠[]/\(Nr v n).ownBlock=some b):xs≠[]/\v.ownBlock=some b:=
 ⟨λe=>h.1 (by rw [e,List.take_nil]),by rw [<-Ki v n];exact h.2⟩
theorem Zxv{α:Type}{enc:α->Value}{v:Value}{xs:List α}(i j n:Nat)(hi:lk H i=some (Ym k enc v xs))(l:Nat.beq i 0=false)(u:n<=xs.length:=by omega):∀a w,Sat N sc env H a w->Sat N sc env ((j,Ym k enc (Nr v n) (xs.take n))::H) a w:=
 λa w hs=>hs.add j _ ⟨Zag n u (hs.hold i _ hi).1,λb f=>(hs.hold i _ hi).2 b (Zhg f)⟩
  (λr B z q My b f h=>by
   rcases My with My|My
   .cases My
   .have s:=Zhg f;by_cases g:r=i
    .subst g;rw [hi]at q;cases q;cases My
    .exact hs.sep r i B _ g q hi My b h s)
  (λb f=>hs.scope i _ (λe=>by subst e;simp at l) hi b (Zhg f))
theorem Ydn{α:Type}{e:TypeId}{enc:α->Value}(s:∀x,(enc x).cells.size=k){v:Value}{xs:List α}(n:Nat)(u:n<=xs.length)(h:w.ownsRow 0 e k v xs.length (cellsOf enc xs)) :
  w.ownsRow 0 e k (Nr v n) (xs.take n).length (cellsOf enc (xs.take n)):=by
 have G:(xs.take n).length=n:=by rw [aN];omega
 refine⟨by rw [Yd s],?_⟩;rw [G];rcases h.2 with⟨rfl,S⟩|⟨g,f,j,rfl,B,D,I,l,q,a⟩
 .have:n=0:=O;subst this;exact .inl ⟨rfl,rfl⟩
 .refine .inr ⟨g,f,j,rfl,B,D,O,l,q,?_⟩;have z:∀(xs:List α) (n:Nat),n<=xs.length->cellsOf enc (xs.take n)=(cellsOf enc xs).take (n*k):=by
   intro xs
   induction xs with
   | nil=>intro n h;simp [cellsOf]
   | cons x r R=>
    intro n h;cases n with
    | zero=>simp [cellsOf]
    | succ n=>
     have:=R n (by simpa using h);simp only [cellsOf,mB,fT]at this ⊢;rw [this,show(n+1)*k=(enc x).cells.toList.length+n*k from by simp [s,bD];omega,jU]
  rw [z xs n u,<-a,gC,cW (aI k u)]
theorem s_opre{α:Type}{t:TypeId}{e:TypeId}{enc:α->Value}{v:Value}{xs:List α}(i n:Nat)(hi:lk H i=some (Nl k e enc v xs))(f:Nat.beq i 0=false)(j:Enc P t k enc)(l:n<=xs.length) :
  ∀a w,Sat N sc env H a w->Sat N sc env ((i,Nl k e enc (Nr v n) (xs.take n))::H) a w:=
 Zj7 i hi rfl (λw h=>Ydn j.cells n l h) (λb g=>by simpa [Nl,Ki]using g) f
theorem It{α:Type}{enc:α->Value}{v:Value}{xs:List α}(i:Nat)(hi:lk H i=some p)(e:Rd p k enc v xs):∀a w,Sat N sc env H a w->xs.length<=9223372036854775807:=λa w hs=>by obtain⟨f,c,rfl,g,h,_⟩:=e w (hs.hold i p hi);have j:maxLen=9223372036854775807:=rfl;omega
theorem Kx(v:Value)(m n:Nat):Nr (Nr v m) n=Nr v n:=by cases v<;>rfl
theorem Zqp{α:Type}{enc:α->Value}{v:Value}{xs:List α}(i:Nat)(hi:lk H i=some p)(e:Rd p k enc v xs):∀a w,Sat N sc env H a w->Nr v xs.length=v:=λa w hs=>by obtain⟨f,c,rfl,_⟩:=e w (hs.hold i p hi);rfl
end Go.Sky
namespace Go.Sky
open Go.RowKit Below
variable{f:FuncId}{vs:List Value}{pre r:List Pc}{args cs:Array Value}{o:Oper}{x y:Operand}{t:TypeId}{k d:Nat}{v:Value}{w0:World}{M0:Nat->Prop}{ops:Array Oper}{rest:List Oper}{parts:Array (Nat×Operand)}
variable {P:Program} {N:Nat} {sc:Nat->Prop} {env env':Xu} {H H':Hp} {Q Q':Exit->Act->World->Prop} {M:Nat->Prop}
def Pa:Nat->List Value->Xu
  | _,[]=>[]
  | n,v::r=>(n,v)::Pa (n+1) r
def Qc:Nat->List Pc->Hp
  | _,[]=>[]
  | n,p::r=>(n,p)::Qc (n+1) r
def AllRo:List Pc->Prop
  | []=>True
  | p::r=>p.own=false/\AllRo r
theorem AllRo.mem:∀{l:List Pc},AllRo l->∀p∈l,p.own=false
  | p::r,h,q,a=>by
    cases a with
    | head=>exact h.1
    | tail _ a=>exact AllRo.mem h.2 q a
theorem Kw:∀(l:List Value) (n t:Nat) (v:Value),lk (Pa n l) t=some v->n<=t/\l[t-n]? = some v
  | [],_,_,_,h=>by cases h
  | u::r,n,t,v,h=>by
    simp only [Pa]at h;by_cases a:n=t
    . subst a;rw [Zz]at h;cases h;simp
    . rw [Zj a]at h;obtain⟨c,b⟩:=Kw r (n+1) t v h;refine⟨O,?_⟩;rw [show t-n=(t-(n+1))+1 by omega];simpa using b
theorem Pt:∀(l:List Pc) (n t:Nat) (v:Pc),lk (Qc n l) t=some v->n<=t/\v∈l
  | [],_,_,_,h=>by cases h
  | u::r,n,t,v,h=>by
    simp only [Qc]at h;by_cases a:n=t
    . subst a;rw [Zz]at h;cases h;simp
    . rw [Zj a]at h;obtain⟨c,b⟩:=Pt r (n+1) t v h;exact⟨O,aT _ b⟩
theorem cal_in  {fn:Func} {c:Code}   {al:Bool} {G:Type} {φ:G->Prop} {val:G->Value} {a:G->List Pc} {N:Nat}
    (u:P.funcs[f]? = some fn) (s:fn.body=some c) (n:fn.ntmps=N) (j:Nat.ble vs.length N=true) (l:AllRo pre)
    (h:∀w0 (sc:Nat->Prop),(∀b,w0.heap.size<=b->sc b)->(∀b,sc b->w0.heap.size<=b\/∃q∈pre,q.fp b)->
      E P N sc c (Zhy P fn w0 pre al φ val a) (Pa 0 vs) ((0,Xm w0 (λ_=>False))::Qc 1 pre)) :
    Cal P f vs.toArray pre al φ val a:=
  Zwg (λw0=>(0,Xm w0 (λ_=>False))::Qc 1 pre) u s n (env0:=Pa 0 vs) (λt v z=>by simpa using(Kw vs 0 t v z).2) (by simpa using j)
    (λw i p hi=>by
      by_cases g:0=i
      . subst g;rw [Zz]at hi;cases hi;exact .inl ⟨rfl,rfl⟩
      . rw [Zj g]at hi;obtain⟨_,m⟩:=Pt pre 1 i p hi;exact .inr ⟨λe=>g e.symm,m,l.mem p m⟩) h
theorem Cal.bare{al a:Bool}{G:Type}{φ:G->Prop}{val:G->Value}{c:G->List Pc}(h:Cal P f args pre al φ val c):Cal P f args pre a φ val (λ_=>[]):=
  λw b=>(h w b).mono λe m ⟨g,j,l,i,_⟩=>⟨g,j,l,i,λp b=>by cases b⟩
def Ones(N:Nat)(sc:Nat->Prop)(env:Xu)(H:Hp):List Value->Prop
  | []=>True
  | v::r=>One N sc env H v/\Ones N sc env H r
theorem Ones.mem:∀{l:List Value},Ones N sc env H l->∀u∈l,One N sc env H u
  | v::r,h,u,a=>by
    cases a with
    | head=>exact h.1
    | tail _ a=>exact Ones.mem h.2 u a
theorem Zcd (i:Nat)   {e:TypeId} {b:Nat}      (p:o.op= .store t x y) (m:o.dst=none)
    (z:ev env x=some (.pointer (some ⟨b,0,none⟩))) (B:ev env y=some v) (j:lk H i=some (box b e cs)) (s:v.cells=vs.toArray) (n:∀w,(sizeOf t).run P w= .ok k w) (a:vs.length=k)
    (q:cs.size=k) (h:Ones N sc env H vs)
    (g:lk H 0=some (Xm w0 M0)) (u:∀b,w0.heap.size<=b->sc b) (l:M b) (c:i≠0:=by decide) :
    T P N sc M o env H (G:=Unit) (λ_=>True) (λ_=>env) (λ_=>(i,box b e vs.toArray)::H):=
  Zin _ p m z B j c s n a O h.mem (by unfold Gp;rw [fM,iW (by rw [dS];omega)];simp) g u l
theorem Zv7{al:Bool}{α:Type}{e:TypeId}{enc:α->Value}{xs ys:List α}(i:Nat)(hi:lk H i=some (Nl k e enc v xs))(b:Nat.beq i 0=false)(c:Enc P t k enc)(a:xs=ys)(h:Give H al r) :
    Give H al (Ym k enc v ys::r):=by subst a;exact Yag i hi b c h
theorem Zhf{p q:Pc}(i:Nat)(hi:lk H i=some p)(b:Nat.beq i 0=false)(c:p.own=false)(a:p=q)(h:Give H true r) :
    Give H true (q::r):=by subst a;exact Zd9 i hi b c h
theorem Gi (d:Nat)    {b:Bool} (g:lk env d=some (.bool b))
    (i:b=true->L P N sc ops rest Q ((d,.bool true)::env) H) (h:b=false->L P N sc ops rest Q ((d,.bool false)::env) H):L P N sc ops rest Q env H:=by
  cases b with
  | true=>
    refine λa w hs=>i rfl a w ⟨hs.size,hs.defers,λt v c=>?_,hs.hold,hs.sep,hs.scope⟩;by_cases e:d=t
    . subst e;rw [Zz]at c;cases c;exact hs.env _ _ g
    . rw [Zj e]at c;exact hs.env _ _ c
  | false=>
    refine λa w hs=>h rfl a w ⟨hs.size,hs.defers,λt v c=>?_,hs.hold,hs.sep,hs.scope⟩;by_cases e:d=t
    . subst e;rw [Zz]at c;cases c;exact hs.env _ _ g
    . rw [Zj e]at c;exact hs.env _ _ c
theorem Gd (i:Nat)(n:Nat)(c:Nat) {α:Type}  {e:TypeId}    {m:Int}   {enc:α->Value} {ti:TypeInfo} (q:α)
    (V:o.op= .makeSlice t x y) (I:o.dst=some d) (Z:ev env x=some (.int .i64 m)) (hy:ev env y=some (.int .i64 m)) 
    (W:P.underlying t=some (.slice e)) (hi:P.info? e=some ti) (hz:ti.zero=some (enc q)) (R:∀x,(enc x).cells.size=k) (h:0<k) (l:ti.size=k) (j:ti.bytes=c)
     
    (u:lk H 0=some (Xm w0 M0)) (Y:∀b,w0.heap.size<=b->sc b) (B:Nat.blt d N=true:=by rfl) (S:m=(n:Int):=by omega) (D:c*n<=281474976710656:=by omega) (g:0<c:=by decide) :
    T P N sc M o env H (G:=Value) (λ_=>True) (λv=>(d,v)::env) (λv=>(i,Nl k e enc v (List.replicate n q))::H):=λa w hs K Q z=>
  t_mk q V I B Z hy S W hi hz R h l j D g u Y a w hs K Q λb s w' _ p F=>z (.slice (some ⟨b,0,none⟩) n n) s w' aA p F
def t_bsn {α:Type}  {e:TypeId} {n:Nat}  {i:Nat}    {enc:α->Value} (xs:List α)
    (B:o.op= .buildSlice t n parts) (q:o.dst=some d) (m:Nat.blt d N=true)
    (D:∀a w,Sat N sc env H a w->(Instr.buildSlice t n (parts.map λ(i,x)=>(i,a.eval x))).run P w= .ok (.slice (some ⟨w.heap.size,0,none⟩) n n) (w.alloc (.cells cs e)))
    (c:cs.toList=cellsOf enc xs) (z:xs.length=n) (s:∀x,(enc x).cells.size=k) (u:n<=maxLen)
    (j:lk H 0=some (Xm w0 M0)) (F:∀b,w0.heap.size<=b->sc b) :
    T P N sc M o env H (G:=Value) (λ_=>True) (λv=>(d,v)::env) (λv=>(i,Nl k e enc v xs)::H):=λa w hs K Q l=>
  t_bs xs B q m D c z s u j F a w hs K Q λb h I _ g p=>l (.slice (some ⟨b,0,none⟩) n n) h I aA g p
end Go.Sky
namespace Go.Sky
open Go.RowKit Below
variable{a b m:Nat}{o:Oper}{f:FuncId}{xs:List Operand}{ats:Array TypeId}{vs:List Value}{x y z:Operand}{t t':TypeId}{k:IntKind}{v:Value}{p:Pc}
variable {P:Program} {N:Nat} {sc:Nat->Prop} {env env':Xu} {H H':Hp} {Q Q':Exit->Act->World->Prop} {M:Nat->Prop}
def Zbf:Array Value->Sem Value:=λc=>do
 let (x, y, b) ← Extern.MathBitsCarry.three "Sub64" c
 pure (Extern.MathBitsCarry.pair ((x+Extern.MathBitsCarry.m64-y-b)%Extern.MathBitsCarry.m64) (if x<y+b then 1 else 0))
theorem Zu9{P:Program}(x y c:Nat)(d:c<=1)(w:World) :
  (Zbf #[.int .u64 x,.int .u64 y,.int .u64 c]).run P w =
   .ok (.tuple #[.int .u64 (((x+U-y-c)%U:Nat):Int),.int .u64 ((if x<y+c then 1 else 0:Nat):Int)]) w:=by
 have:c=0\/c=1:=O;rcases this with rfl|rfl<;>rfl
theorem Lz {a:Act} {w:World} (hs:Sat N sc env H a w)      (e:o.op= .call { callee:= .value (.func f),args:=xs.toArray,argTypes:=ats })
  (c:EvL env xs vs):(execOp a.eval o).run P w=(callFunc f vs.toArray).run P w:=by
 have d:=c.map hs;simp [execOp,e,resolve,invoke,Act.eval,Deferred.ofValue,d]
theorem Zll (c:Nat)      (i:o.op= .call { callee:= .value (.func f),args:=#[x,y,z],argTypes:=ats })
  (j:ev env x=some (.int .u64 (a:Int))) (l:ev env y=some (.int .u64 (b:Int))) (n:ev env z=some (.int .u64 (c:Int))) (q:c<=1)
  (d:∀args w,(callFunc f args).run P w=((add64Entry args).run P w).andThen λv w'=> .ok (.value v) w') :
  Ni P N sc o env H (.tuple #[.int .u64 (((a+b+c)%U:Nat):Int),.int .u64 (((a+b+c)/U:Nat):Int)]):=λs w hs=>by
 have h:=run_add64 (P:=P) (a:Int) b c O O O O w;have e:(((a:Int)+b+c)%18446744073709551616)=(((a+b+c)%U:Nat):Int):=by simp only [U];omega
 have g:(((a:Int)+b+c)/18446744073709551616)=(((a+b+c)/U:Nat):Int):=by simp only [U];omega
 rw [e,g]at h;rw [Lz hs (xs:=[x,y,z]) (vs:=[_,_,_]) i ⟨j,l,n,aA⟩,d,h];rfl
def brw(a b c:Nat):Nat:=if a<b+c then 1 else 0
theorem Ybp{c:Nat}:brw a b c<=1:=by unfold brw;split<;>omega
theorem Yev     {c:Nat} (g:o.op= .call { callee:= .value (.func f),args:=#[x,y,z],argTypes:=ats })
  (i:ev env x=some (.int .u64 (a:Int))) (j:ev env y=some (.int .u64 (b:Int))) (l:ev env z=some (.int .u64 (c:Int))) (e:c<=1)
  (d:∀args w,(callFunc f args).run P w=((Zbf args).run P w).andThen λv w'=> .ok (.value v) w') :
  Ni P N sc o env H (.tuple #[.int .u64 (((a+U-b-c)%U:Nat):Int),.int .u64 (brw a b c:Int)]):=λs w hs=>by
 have h:=Zu9 (P:=P) a b c e w;rw [Lz hs (xs:=[x,y,z]) (vs:=[_,_,_]) g ⟨i,j,l,aA⟩,d,h];rfl
theorem Zbb{ds:TypeDesc}(d:o.op= .convert t t' x)(g:ev env x=some (.int k (m:Int)))(c:P.underlying t=some ds)(e:P.underlying t'=some (.int .u8)) :
  Ni P N sc o env H (.int .u8 ((m%256:Nat):Int)):=Zjv d g c e (by simp [IntKind.wrap,IntKind.bits,IntKind.signed])
def Zhq{ds:TypeDesc}(e:o.op= .convert t t' x)(h:ev env x=some (.int k (m:Int)))(c:P.underlying t=some ds)(g:P.underlying t'=some (.int .u64))(d:m<U) :
  Ni P N sc o env H (.int .u64 (m:Int)):=Zjv e h c g (Zad d)
def Bb{m:Int}{ds:TypeDesc}(e:o.op= .convert t t' x)(h:ev env x=some (.int k m))(c:P.underlying t=some ds)(g:P.underlying t'=some (.int .i64))(d:Qf m) :
  Ni P N sc o env H (.int .i64 m):=Zjv e h c g (Bq d)
theorem Ny(t:Nat){v':Value}(e:lk env t=some v)(h:v=v'):∀a w,Sat N sc env H a w->Sat N sc ((t,v')::env) H a w:=λa w hs=>by
 subst h;refine⟨hs.size,hs.defers,λs u c=>?_,hs.hold,hs.sep,hs.scope⟩;by_cases d:t=s
 .subst d;rw [Zz]at c;cases c;exact hs.env _ _ e
 .rw [Zj d]at c;exact hs.env _ _ c
theorem Nq(i j:Nat)(hi:lk H i=some p)(h:Nat.beq i 0=false)(n:p.own=false):∀a w,Sat N sc env H a w->Sat N sc env ((j,p)::H) a w:=λa w hs=>
 hs.add j p (hs.hold i p hi) (λq r _ l My b d g=>by
  rcases My with My|My
  .rw [n]at My;cases My
  .by_cases c:q=i
   .subst c;rw [hi]at l;cases l;rw [n]at My;cases My
   .exact hs.sep q i r p c l hi My b g d) (λb d=>hs.scope i p (λe=>by subst e;simp at h) hi b d)
theorem Zhv (P:Program)(w:World)(f:Value->ByteArray->Sem (ForInStep ByteArray))(c:∀(n:Nat) (r:ByteArray),f (.int .u8 (n:Int)) r=pure (.yield (r.push (UInt8.ofNat n)))):∀(l:List Nat) (s:ByteArray),
  (forIn (m:=Sem) (l.map λn:Nat=>Value.int .u8 (n:Int)) s f).run P w= .ok (l.foldl (λs n=>s.push (UInt8.ofNat n)) s) w
 | [],s=>rfl
 | n::r,s=>by have d:=Zhv P w f c r (s.push (UInt8.ofNat n));simp only [cH,List.forIn_cons,c,Sem.run_bind,Sem.run_pure,Result.andThen_ok,fQ];exact d
theorem Zhh:∀(l:List Nat) (s:ByteArray),l.foldl (λs n=>s.push (UInt8.ofNat n)) s=⟨s.data ++ (l.map UInt8.ofNat).toArray⟩
 | [],s=>O7
 | n::r,s=>by rw [fQ,Zhh r];simp [ByteArray.push]
theorem d_b2s  {e:TypeId}   {i:Nat}  {xs:List Nat} (W:o.op= .convert t t' x) (B:ev env x=some v) (S:lk H i=some p) (Y:Rd p 1 (λn:Nat=>Value.int .u8 (n:Int)) v xs)
  (Z:P.underlying t=some (.slice e)) (F:P.underlying t'=some .string) (V:P.underlying e=some (.int .u8)):Ni P N sc o env H (.string ⟨(xs.map UInt8.ofNat).toArray⟩):=λa w hs=>by
 obtain⟨D,c,rfl,h1,h2,I⟩:=Y w (hs.hold i p S);have s:(Conv.bytesToString (.slice D xs.length c)).run P w= .ok (.string ⟨(xs.map UInt8.ofNat).toArray⟩) w:=by
  cases D with
  | none=>
   rcases I with rfl|⟨g,G,h,_⟩
   .rfl
   .cases h
  | some q=>
   have d:(loadCells q xs.length).run P w= .ok (xs.map λn:Nat=>Value.int .u8 (n:Int)).toArray w:=by
    have:=run_loadCells_list (P:=P) w q (xs.map λn:Nat=>Value.int .u8 (n:Int)) (λj u l=>by
     rcases I with rfl|⟨g,G,h,R⟩
     .simp at l
     .cases h;rw [fI]at l;cases B:xs[j]? with
      | none=>rw [B]at l;cases l
      | some y=>
       rw [B]at l;cases l;have:=R j y B 0 (.int .u8 (y:Int)) rfl;rw [Mi];simpa using this)
    simpa using this
   simp only [Conv.bytesToString,Sem.run_bind,d,Result.andThen_ok];simp only [List.forIn_toArray];rw [Zhv P w _ (λn r=>rfl) xs ByteArray.empty,Zhh];simp [ByteArray.empty,ByteArray.emptyWithCapacity];rfl
 have:(convert t t' (.slice D xs.length c)).run P w= .ok (.string ⟨(xs.map UInt8.ofNat).toArray⟩) w:=by simp only [convert,Sem.run_bind,run_underlying Z,run_underlying F,Result.andThen_ok,run_underlying V,s]
 simp only [execOp,W,hs.ev B];simp [this]
end Go.Sky
namespace Go.Sky
open Go.RowKit Below
variable{o:Oper}{f:FuncId}{xs:List Operand}{ats:Array TypeId}{d k:Nat}{vs:List Value}{pre:List Pc}{w0:World}{M0:Nat->Prop}{fn:Func}{v:Value}{x y:Operand}{t:TypeId}{p:Pc}{kd:IntKind}
variable {P:Program} {N:Nat} {sc:Nat->Prop} {env env':Xu} {H H':Hp} {Q Q':Exit->Act->World->Prop} {M:Nat->Prop}
def Yfu(P:Program)(f:FuncId)(args:Array Value)(pre:List Pc){G:Type}(φ:G->Prop)(val:G->Value)(a:G->Pc):Prop:=
 ∀w,(∀p∈pre,p.holds w)->Calls P f args w λe c=>∃g,e= .returned (val g)/\φ g/\Below w.heap.size w c/\(a g).holds c/\∀b,(a g).fp b->w.heap.size<=b
theorem Zjz (n:Nat)        {G:Type} {φ:G->Prop} {val:G->Value} {s:G->Pc}  
  (W:Yfu P f vs.toArray pre φ val s)
  (ho:o.op= .call { callee:= .value (.func f),args:=xs.toArray,argTypes:=ats }) (Y:o.dst=some d) (V:Nat.blt d N=true)
  (h:EvL env xs vs) (l:∀args w,(callFunc f args).run P w= .ok (.enter f args) w) (r:PreOk H false pre)
  (R:lk H 0=some (Xm w0 M0)) (hw:∀b,w0.heap.size<=b->sc b) :
  T P N sc M o env H φ (λg=>(d,val g)::env) (λg=>(n,s g)::H):=λa w hs K Q S=>by
 have hr:(execOp a.eval o).run P w= .ok (.enter f vs.toArray) w:=by rw [Lz hs ho h,l]
 unfold Oper.wp;rw [hr];refine(W w (λp hp=>by obtain⟨i,s,_,hi,q,_,_⟩:=r.mem p hp;exact q w (hs.hold i s hi))).mono ?_
 rintro e I ⟨g,rfl,Z,c,B,m⟩;show K (a.put o.dst (val g)) I;rw [Y];have D:Sat N sc env H a I:=hs.chg0 (Chg.of_below c);refine S g _ _ Z (Sat.put (D.add n (s g) B (λj F _ hj _ b u z=>?_) (λb u=>hw b (aB (hs.hold 0 _ R).size (m b u)))) d _ V) (Chg.of_below c);have:=F.lt w b (hs.hold j F hj) z;have:=m b u;omega
def Ycc(P:Program)(fn:Func)(w0:World){G:Type}(φ:G->Prop)(val:G->Value)(a:G->Pc):Exit->Act->World->Prop:=
 bodyPost P fn λe c=>∃g,e= .returned (val g)/\φ g/\Below w0.heap.size w0 c/\(a g).holds c/\∀b,(a g).fp b->w0.heap.size<=b
theorem Zuh   {c:Code}   {G:Type} {φ:G->Prop} {val:G->Value} {F:G->Pc} {N:Nat}
  (S:P.funcs[f]? = some fn) (g:fn.body=some c) (I:fn.ntmps=N) (n:Nat.ble vs.length N=true) (B:AllRo pre)
  (h:∀w0 (sc:Nat->Prop),(∀b,w0.heap.size<=b->sc b)->(∀b,sc b->w0.heap.size<=b\/∃q∈pre,q.fp b)->
   E P N sc c (Ycc P fn w0 φ val F) (Pa 0 vs) ((0,Xm w0 (λ_=>False))::Qc 1 pre)) :
  Yfu P f vs.toArray pre φ val F:=λw W=>by
 refine calls_of_wp S g (h w (λb=>w.heap.size<=b\/∃q∈pre,q.fp b) (λb g=> .inl g) (λb g=>g) _ w ?_);have n:vs.length<=N:=by simpa using n
 have a:∀i p,lk ((0,Xm w (λ_=>False))::Qc 1 pre) i=some p->(i=0/\p=Xm w (λ_=>False))\/(i≠0/\p∈pre/\p.own=false):=λi p hi=>by
   by_cases m:0=i
   .subst m;rw [Zz]at hi;cases hi;exact .inl ⟨rfl,rfl⟩
   .rw [Zj m]at hi;obtain⟨_,l⟩:=Pt pre 1 i p hi;exact .inr ⟨λe=>m e.symm,l,B.mem p l⟩
 refine⟨by simp [I];omega,rfl,λt v Y=>?_,λi p hi=>?_,λi j p q V hi Z z b g R=>?_,λi p s hi b g=>?_⟩
 .have D:vs.toArray[t]? = some v:=by simpa using(Kw vs 0 t v Y).2
  have u:=(aR.1 D).1;rw [bF,eD u,D];rfl
 .rcases a i p hi with⟨_,rfl⟩|⟨_,l,_⟩
  .exact Chg.refl _ w
  .exact W p l
 .rcases a i p hi with⟨_,rfl⟩|⟨_,l,r⟩
  .cases z
  .rw [r]at z;cases z
 .rcases a i p hi with⟨m,_⟩|⟨_,l,_⟩
  .exact absurd m s
  .exact .inr ⟨p,l,g⟩
theorem Zjq  {G:Type} {φ:G->Prop} {val:G->Value} {m:G->Pc}  {e:Exit} (B:e= .ret\/e= .normal)
  (g:G)  (l:∀a w,Sat N sc env H a w->(results fn a.tmps).run P w= .ok v w) (I:val g=v) (D:φ g) (u:lk H 0=some (Xm w0 (λ_=>False)))
  (i:Nat) (r:Nat.beq i 0=false) (hi:lk H i=some (m g)) (j:(m g).own=true) :
  X N sc e (Ycc P fn w0 φ val m) env H:=λa w hs=>by
 have c:i≠0:=λe=>by subst e;simp at r
 have n:a.defers=[]/\∃v,(results fn a.tmps).run P w= .ok v w/\(∃g,Ending.returned v= .returned (val g)/\φ g/\Below w0.heap.size w0 w/\(m g).holds w/\∀b,(m g).fp b->w0.heap.size<=b):=by
  refine⟨hs.defers,v,l a w hs,g,by rw [I],D,Nw (hs.hold 0 _ u),hs.hold i _ hi,λb z=>?_⟩;have F:=hs.sep i 0 _ _ c hi u j b z;rcases bJ b w0.heap.size with s|q
  .exact absurd ⟨s,λh=>h⟩ F
  .exact q
 rcases B with rfl|rfl
 .exact n
 .exact n
theorem Zt1{α:Type}{s e:TypeId}{i:Nat}{enc:α->Value}{xs:List α}(g:o.op= .binOp .eql t x y s)(j:ev env x=some v)(l:ev env y=some (.slice none 0 0))(m:lk H i=some p)(n:Rd p k enc v xs)(r:P.underlying t=some (.slice e)) :
  Ni P N sc o env H (.bool (v.ownBlock.isNone)):=λa w hs=>by
 obtain⟨b,c,rfl,_⟩:=n w (hs.hold i p m);have h:=Lib.run_eql_slice_nil (P:=P) w t e b xs.length c 0 0 r;cases b with
 | none=>simp [execOp,g,hs.ev j,hs.ev l,eqGuard,h,Value.ownBlock]
 | some q=>simp [execOp,g,hs.ev j,hs.ev l,eqGuard,h,Value.ownBlock]
theorem Ha (i:Nat)(j:Nat)(r:Nat) {α:Type}   {e:TypeId}  {u:Value} {enc:α->Value} {xs ys:List α}  {ti:TypeInfo} {z:Value}  
  (ho:o.op= .call { callee:= .builtin .append,args:=#[x,y],argTypes:=#[t,t] }) (hd:o.dst=some d) (hN:Nat.blt d N=true)
  (hx:ev env x=some v) (hy:ev env y=some u) (Y:lk H i=some (Nl k e enc v xs)) (F:i≠0) (hj:lk H j=some p) (hr:Rd p k enc u ys)
  (ht:P.underlying t=some (.slice e)) (hi:P.info? e=some ti) (hz:ti.zero=some z) (he:Enc P e k enc) (a2:ti.size=k) (a1:ti.bytes=r) (a4:z.cells.size=k)
  (Z:(xs.length+ys.length)*r<=140737488355328) (B:0<r)
  (h0:lk H 0=some (Xm w0 M0)) (hw:∀b,w0.heap.size<=b->sc b) :
  T P N sc (λ_=>True) o env H (G:=Value) (λ_=>True) (λv'=>(d,v')::env) (λv'=>(i,Nl k e enc v' (xs ++ ys))::H):=by
 by_cases S:ys=[]
 .subst S;intro a w hs K Q hK;have l:w.ownsRow 0 e k v xs.length (cellsOf enc xs):=hs.hold i _ Y;obtain⟨V,c,rfl,h1,h2,h3⟩:=hr w (hs.hold j p hj);have I:∃m n s,v= .slice m n s/\n=xs.length/\n<=s:=by
   rcases l.2 with⟨rfl,hn⟩|⟨g,W,a5,rfl,_,_,h,_⟩
   .exact⟨none,0,0,rfl,hn.symm,aH _⟩
   .exact⟨_,_,W,rfl,rfl,h⟩
  obtain⟨m,n,s,rfl,rfl,h⟩:=I;have R:(Builtin.append_ #[t,t] o.type #[.slice m xs.length s,.slice V ([]:List α).length c]).run P w= .ok (.slice m xs.length s) w:=by
   have D:(Builtin.firstCells ti.size 0 (.slice V 0 c)).run P w= .ok #[] w:=by
    cases V with
    | none=>rfl
    | some q=>simp [Builtin.firstCells,loadCells,loadCellsFrom]
   cases m with
   | none=>simp [Builtin.append_,run_underlying ht,sizeOf,typeInfo,hi,Builtin.lenOf,D,h]
   | some q=>simp [Builtin.append_,run_underlying ht,sizeOf,typeInfo,hi,Builtin.lenOf,D,h,storeCells]
  have a3:(execOp a.eval o).run P w= .ok (.value (.slice m xs.length s)) w:=by simp only [execOp,ho,resolve,invoke,builtin,Sem.run_bind,Sem.run_pure,Result.andThen_ok,iG,cH,iX,hs.ev hx,hs.ev hy,R]
  unfold Oper.wp;rw [a3];show K (a.put o.dst _) _;rw [hd];refine hK _ _ _ aA ((Sat.upd hs Y rfl F (q:=Nl k e enc (.slice m xs.length s) (xs ++ [])) (Chg.refl _ w) ?_ (λb Z=> .inl Z) h0 hw).put d _ hN) (Chg.refl _ w);rw [jQ];exact l
 .exact t_app (i2:=0) ho hd hN hx hy Y F hj hr S ht hi hz he a2 a1 a4 Z B h0 hw
def Zbe(v:Value)(n k:Nat):Value:=match v with
 | .slice a l c=> .slice (if c=n then a else a.map (·.add (n*k))) (l-n) (c-n)
 | u=>u
theorem Za8(v:Value)(n k:Nat):(Zbe v n k).ownBlock=v.ownBlock:=by
 cases v with
 | slice a l c=>
  cases a with
  | none=>simp only [Zbe];split<;>rfl
  | some q=>
   simp only [Zbe];split
   .rfl
   .simp only [Option.map_some,Value.ownBlock,Addr.add];split<;>rfl
 | _=>rfl
theorem d_suf (ii:Nat)(i:Nat) {α:Type}   {e:TypeId}    {m:Int}  {enc:α->Value} {xs:List α} (n:o.op= .slice t x (some y) none none)
  (s:ev env x=some v) (u:ev env y=some (.int kd m)) (j:lk H ii=some p) (q:Rd p k enc v xs) (r:P.underlying t=some (.slice e)) (h:∀w,(sizeOf e).run P w= .ok k w)
  (b:m=(i:Int)) (g:i<=xs.length:=by omega):Ni P N sc o env H (Zbe v i k):=λa w hs=>by
 obtain⟨z,c,rfl,B,D,F⟩:=q w (hs.hold ii p j);subst b;have l:(i:Int)<=(xs.length:Int):=O;simp [execOp,n,hs.ev s,hs.ev u,Instr.sliceAt,Instr.slice,Instr.sliceBounds,Instr.sliceBound,asIntOf,run_underlying r,h,g,Zbe]
theorem Ziz{α:Type}{w:World}{enc:α->Value}{xs:List α}(n:Nat)(z:n<=xs.length)(h:RowAt w k enc v xs):RowAt w k enc (Zbe v n k) (xs.drop n):=by
 obtain⟨a,c,rfl,r,s,l⟩:=h;refine⟨if c=n then a else a.map (·.add (n*k)),c-n,by simp only [Zbe,dO],by rw [dO];omega,O,?_⟩;by_cases b:xs.drop n=[]
 .exact .inl b
 .have m:n<xs.length:=by
   rcases bJ n xs.length with h|h
   .exact h
   .exact absurd (iW h) b
  rcases l with rfl|⟨g,e,rfl,l⟩
  .simp at m
  .refine .inr ⟨g,e+n*k,?_,λi x hi j u q=>?_⟩
   .rw [aE O];simp [Mi]
   .rw [fN]at hi;have:=l (n+i) x hi j u q;rw [bD]at this;rw [gM e,<-this]
theorem Zqn{α:Type}{xs:List α}{n b:Nat}(h:xs.drop n≠[]/\(Zbe v n k).ownBlock=some b):xs≠[]/\v.ownBlock=some b:=
 ⟨λe=>h.1 (by rw [e,List.drop_nil]),by rw [<-Za8 v n k];exact h.2⟩
theorem s_suf{α:Type}{enc:α->Value}{xs:List α}(i j n:Nat)(hi:lk H i=some (Ym k enc v xs))(l:Nat.beq i 0=false)(s:n<=xs.length:=by omega):∀a w,Sat N sc env H a w->Sat N sc env ((j,Ym k enc (Zbe v n k) (xs.drop n))::H) a w:=
 λa w hs=>hs.add j _ ⟨Ziz n s (hs.hold i _ hi).1,λb c=>(hs.hold i _ hi).2 b (Zqn c)⟩
  (λq z u m My b c h=>by
   rcases My with My|My
   .cases My
   .have r:=Zqn c;by_cases g:q=i
    .subst g;rw [hi]at m;cases m;cases My
    .exact hs.sep q i z _ g m hi My b h r)
  (λb c=>hs.scope i _ (λe=>by subst e;simp at l) hi b (Zqn c))
end Go.Sky
namespace Go.Sky
open Go.RowKit Below
variable{o:Oper}{t:TypeId}{parts:List (Nat×Operand)}{cells cs:Array Value}{z:Value}{k d:Nat}{w0:World}{M0:Nat->Prop}
variable {P:Program} {N:Nat} {sc:Nat->Prop} {env env':Xu} {H H':Hp} {Q Q':Exit->Act->World->Prop} {M:Nat->Prop}
def EvP(e:Xu):List (Nat×Operand)->List (Nat×Value)->Prop
 | [],[]=>True
 | (i,x)::r,(j,v)::vs=>i=j/\ev e x=some v/\EvP e r vs
 | _,_=>False
theorem EvP.map{a:Act}{w:World}(h:Sat N sc env H a w):∀{xs:List (Nat×Operand)} {vs:List (Nat×Value)},EvP env xs vs->xs.map (λ(i,x)=>(i,a.eval x))=vs
 | [],[],_=>rfl
 | (i,x)::r,(j,v)::vs,hh=>by obtain⟨rfl,b,c⟩:=hh;simp only [cH,h.ev b,EvP.map h c]
 | [],_::_,hh=>hh.elim
 | _::_,[],hh=>hh.elim
theorem Xd (b:List (Nat×Value))      (e:o.op= .build t parts.toArray) (f:EvP env parts b)
  (c:∀a w,Sat N sc env H a w->P.built t b=some cells):Ni P N sc o env H (.agg cells):=λa w hs=>by
 have h:=run_build (P:=P) w t (parts.toArray.map λ(i,x)=>(i,a.eval x)) cells (by rw [iG,f.map hs];exact c a w hs);simp only [execOp,e,Sem.run_bind,h,Result.andThen_ok,Sem.run_pure]
 try rfl
theorem Yr  {b:TypeInfo} {a:Array Field}  {pl:List (Nat×Nat)} {parts:List (Nat×Value)}  (hi:P.info? t=some b) (g:P.underlying t=some (.struct a)) (h:b.zero=some z)
  (e:a.toList.mapM (λf=>(P.info? f.type).map λi=>(f.offset,i.size))=some pl) (c:Instr.fill (pl.toArray[·]?) z.cells parts=some cells):P.built t parts=some cells:=by
 unfold Program.built;simp only [hi,g,h,e,c]
theorem Ze5(w:World)(t e:TypeId)(a:P.underlying t=some (.slice e))(hs:∀w,(sizeOf e).run P w= .ok k w) :
  (Instr.buildSlice t 0 #[]).run P w= .ok (.slice (some ⟨w.heap.size,0,none⟩) 0 0) (w.alloc (.cells #[] e)):=by
 simp [Instr.buildSlice,run_underlying a,hs,Instr.fill,newRow];rw [show(Array.range 0)=#[] by decide,Array.map_empty]
theorem Xw (c:List (Nat×Value))(i:Nat) {α:Type}  {e:TypeId} {n:Nat}       {enc:α->Value} {ti:TypeInfo}  (xs:List α)
  (u:o.op= .buildSlice t n parts.toArray) (m:o.dst=some d) (B:EvP env parts c)
  (y:P.underlying t=some (.slice e)) (hi:P.info? e=some ti) (F:ti.zero=some z) (h:Nat.ble (n*ti.size) 16777216=true) 
  (p:Instr.fill (λi=>some (i*ti.size,ti.size)) ((List.range (n*ti.size)).map (z.cells[· % z.cells.size]!)).toArray c=some cs)
  (g:cs.toList=cellsOf enc xs) (s:xs.length=n) (q:∀x,(enc x).cells.size=k) (r:Nat.ble n 16777216=true)
  (j:lk H 0=some (Xm w0 M0)) (D:∀b,w0.heap.size<=b->sc b) (l:Nat.blt d N=true:=by rfl) (f:Nat.blt 0 (n*ti.size)=true:=by rfl) :
  T P N sc M o env H (G:=Value) (λ_=>True) (λv=>(d,v)::env) (λv=>(i,Nl k e enc v xs)::H):=
 t_bsn xs u m l (λa w hs=>run_buildSlice w t e n _ cs ti z y hi F (by have:=jD h;omega) (by have:=Nat.blt_eq▸f;simp at f;omega) (by rw [show(parts.toArray.map λ(i,x)=>(i,a.eval x)).toList=c by rw [iG,B.map hs],show(Array.range (n*ti.size)).map (z.cells[· % z.cells.size]!)=((List.range (n*ti.size)).map (z.cells[· % z.cells.size]!)).toArray by rw [<-iG,<-Array.toList_range,Array.toArray_toList]];exact p)) g s q (by have:=jD r;simp only [maxLen];omega) j D
theorem t_bs0 (i:Nat) {α:Type}  {e:TypeId}     {enc:α->Value} 
  (j:o.op= .buildSlice t 0 #[]) (h:o.dst=some d) (g:Nat.blt d N=true) (l:P.underlying t=some (.slice e)) (c:Enc P e k enc)
  (f:lk H 0=some (Xm w0 M0)) (m:∀b,w0.heap.size<=b->sc b) :
  T P N sc M o env H (G:=Value) (λ_=>True) (λv=>(d,v)::env) (λv=>(i,Nl k e enc v [])::H):=
 t_bsn (n:=0) (cs:=#[]) (parts:=#[]) [] j h g (λa w hs=>by rw [Array.map_empty];exact Ze5 w t e l c.size) rfl rfl c.cells (by simp [maxLen]) f m
theorem Ml{α:Type}(i k:Nat)(e:TypeId)(enc:α->Value):∀a w,Sat N sc env H a w->Sat N sc env ((i,Nl k e enc (.slice none 0 0) [])::H) a w:=λa w hs=>
 hs.add i _ ⟨by simp [cellsOf],.inl ⟨rfl,rfl⟩⟩ (λj l g h My b c f=>by cases c) (λb c=>by cases c)
theorem f_nil{α:Type}{enc:α->Value}{v:Value}{xs:List α}{p:Pc}(i:Nat)(hi:lk H i=some p)(e:Rd p k enc v xs):∀a w,Sat N sc env H a w->(v.ownBlock=none->xs=[]):=λa w hs h=>by
 obtain⟨j,c,rfl,l,m,b⟩:=e w (hs.hold i p hi);rcases b with b|⟨g,f,rfl,_⟩
 .exact b
 .cases h
end Go.Sky
namespace Go.Sky
variable{t te:TypeId}{k i lo:Nat}{v u:Value}{xs:List Nat}{o:Oper}{x y:Operand}{p:Pc}{r:List Pc}{w w0:World}{cur:Array Value}{M0:Nat->Prop}
abbrev Og (n:Nat):Value:= .int .u64 (n:Int)
abbrev Zfb (n:Nat):Value:= .int .u8 (n:Int)
abbrev Da (n:Nat):Value:= .int .i64 (n:Int)
abbrev Ys (n:Int):Value:= .int .i64 n
theorem Ff(xs:List Nat):(tz xs).length<=xs.length/\xs.take (tz xs).length=tz xs:=by
 induction hn:xs.length generalizing xs with
 | zero=>
   have:xs=[]:=aF hn;subst this;simp [tz]
 | succ n d=>
  rcases Ci xs with rfl|⟨b,y,rfl⟩
  .simp at hn
  .by_cases a:y=0
   .subst a;rw [Np];obtain⟨e,c⟩:=d b (by simpa using hn);have f:b.length=n:=by simpa using hn
    exact⟨O,by rw [jL O];exact c⟩
   .rw [Lf a];exact⟨O,bN⟩
theorem Zbg{P:Program}{N:Nat}{sc:Nat->Prop}{env:Xu}{H:Hp}{enc:Nat->Value}{e:TypeId}(i:Nat)(hi:lk H i=some (Nl k e enc v xs))(b:Nat.beq i 0=false)(c:Enc P t k enc) :
  ∀a w,Sat N sc env H a w->Sat N sc env ((i,Nl k e enc (Nr v (tz xs).length) (tz xs))::H) a w:=by
 have h:=s_opre (N:=N) (sc:=sc) (env:=env) i (tz xs).length hi b c (Ff xs).1;rwa [(Ff xs).2]at h
abbrev Iz (v:Value) (x:Nat):Pc:=Ym 1 Og v (dg U x)
theorem Yl:2<=U:=by simp [U]
def Yw(x:Nat):ByteArray:=⟨((dg 256 x).reverse.map UInt8.ofNat).toArray⟩
theorem Hj(x:Nat):(Yw x).size=(dg 256 x).length:=by simp [Yw,ByteArray.size]
theorem Zo5(x i:Nat)(h:i<(dg 256 x).length):((Yw x).data.toList.getD i 0).toNat=x/256^((dg 256 x).length-1-i)%256:=by
 have c:i<((dg 256 x).reverse.map UInt8.ofNat).length:=by simpa using h
 have d:(Yw x).data.toList=(dg 256 x).reverse.map UInt8.ofNat:=by simp [Yw]
 rw [d];simp only [List.getD,bB c,fZ,List.getElem_map,List.getElem_reverse];have a:=Kq (b:=256) O ((dg 256 x).length-1-i) x;have e:(dg 256 x).length-1-i<(dg 256 x).length:=O;rw [show(dg 256 x).getD ((dg 256 x).length-1-i) 0=(dg 256 x)[(dg 256 x).length-1-i] by simp [List.getD,e]]at a;rw [a];simp
open Go.RowKit Below
variable {P:Program} {N:Nat} {sc:Nat->Prop} {env env':Xu} {H H':Hp} {Q Q':Exit->Act->World->Prop} {M:Nat->Prop}
theorem d_mid {α:Type}  {z:Operand} {e:TypeId}  {ii j:Nat} {S l:IntKind} {m n:Int}  {enc:α->Value} {xs:List α} (B:o.op= .slice t x (some y) (some z) none)
  (G:ev env x=some v) (I:ev env y=some (.int S m)) (R:ev env z=some (.int l n)) (s:lk H ii=some p) (D:Rd p k enc v xs) (F:P.underlying t=some (.slice e)) (h:∀w,(sizeOf e).run P w= .ok k w)
  (d:m=(i:Int)) (f:n=(j:Int)) (b:i<=j) (g:j<=xs.length):Ni P N sc o env H (Nr (Zbe v i k) (j-i)):=λa w hs=>by
 obtain⟨V,c,rfl,W,Y,Z⟩:=D w (hs.hold ii p s);subst d f;have h4:¬(c:Int)<(j:Int):=O;have h5:¬(j:Int)<(i:Int):=O;have q:j<=c:=O;simp [execOp,B,hs.ev G,hs.ev I,hs.ev R,Instr.sliceAt,Instr.slice,Instr.sliceBounds,Instr.sliceBound,asIntOf,run_underlying F,h,g,b,q,Zbe,Nr]
theorem Zai {α:Type}  {e:TypeId} {enc:α->Value}  {xs ys:List α}   (i:Nat) (hi:lk H i=some (Nl k e enc v xs)) (f:Nat.beq i 0=false) (j:Enc P t k enc)
  (c:∀w,RowAt w k enc v xs->RowAt w k enc u ys) (a:u.ownBlock=v.ownBlock) (h:PreOk H false r):PreOk H false (Ym k enc u ys::r):=
 ⟨⟨i,_,λe=>by subst e;simp at f,hi,λw g=>⟨c w (Fp j.cells g),λb d=>(g.lt b (by rw [<-a];exact d.2)).2⟩,λb d=>a.symm.trans d.2,λh=>by cases h⟩,h⟩
theorem Zfk{α:Type}{enc:α->Value}{xs:List α}(lo hi:Nat)(a:lo<=hi:=by omega)(b:hi<=xs.length:=by omega):∀w,RowAt w k enc v xs->RowAt w k enc (Nr (Zbe v lo k) (hi-lo)) ((xs.drop lo).take (hi-lo)):=
 λw h=>Zag _ (by rw [dO];omega) (Ziz lo O h)
theorem Zft{n:Nat}:(Nr (Zbe v lo k) n).ownBlock=v.ownBlock:=by rw [Ki,Za8]
theorem Zx1{enc:Nat->Value}{ys zs:List Nat}{n:Nat}(a:tz ys=zs)(b:n=zs.length)(h:∀w,RowAt w k enc v xs->RowAt w k enc u ys):∀w,RowAt w k enc v xs->RowAt w k enc (Nr u n) zs:=λw c=>by have:=Zag zs.length (by rw [<-a];exact(Ff ys).1) (h w c);rw [<-a,(Ff ys).2]at this;rw [b,<-a];exact this
theorem Zlu{α:Type}{enc:α->Value}(a:∀x,(enc x).cells.size=k)(xs:List α)(n:Nat)(c:n<=xs.length):cellsOf enc (xs.take n)=(cellsOf enc xs).take (n*k):=by
 have h:=Lu enc (xs.take n) (xs.drop n);rw [gN]at h;have b:(cellsOf enc (xs.take n)).length=n*k:=by rw [Yd a,aN,cW c]
 rw [h,<-b,lT]
def spl{α:Type}(xs:List α)(lo:Nat)(ys:List α):List α:=xs.take lo ++ ys ++ xs.drop (lo+ys.length)
theorem Mo{α:Type}{xs:List α}{ys:List α}(h:lo+ys.length<=xs.length):(spl xs lo ys).length=xs.length:=by simp [spl];omega
theorem Ydm {α:Type}  {g a:Nat}   {e:TypeId} {enc:α->Value} {xs ys:List α} (m:∀x,(enc x).cells.size=k) (lo:Nat) (d:lo+ys.length<=xs.length)
  (V:w.heap[g]? = some (.cells cur e (0,0))) (l:xs.length<=a) (n:a<=maxLen) (s:cur.size=a*k) (f:cur.toList.take (xs.length*k)=cellsOf enc xs) :
  (w.setRow g (cur.toList.take (lo*k) ++ cellsOf enc ys ++ cur.toList.drop (lo*k+(cellsOf enc ys).length)).toArray).ownsRow 0 e k (.slice (some ⟨g,0,none⟩) xs.length a) (spl xs lo ys).length (cellsOf enc (spl xs lo ys)):=by
 have c:cur.toList.length=a*k:=by rw [dS,s]
 have b:=Yd m ys;have z:(lo+ys.length)*k<=xs.length*k:=aI _ d;have G:xs.length*k<=a*k:=aI _ l;rw [bD]at z;refine⟨by rw [Yd m],.inr ⟨g,a,_,by rw [Mo d],aZ _,setRow_heap w g cur _ e _ V,by rw [Mo d];exact l,n,?_,?_⟩⟩
 .simp only [gR,cI,aN,dO,c,b];omega
 .rw [Mo d];have I:cellsOf enc (xs.take lo)=cur.toList.take (lo*k):=by rw [Zlu m xs lo O,<-f,gC,cW O]
  have R:cellsOf enc (xs.drop (lo+ys.length))=(cur.toList.take (xs.length*k)).drop ((lo+ys.length)*k):=by have h:=Lu enc (xs.take (lo+ys.length)) (xs.drop (lo+ys.length));rw [gN,<-f]at h;rw [h];exact(List.drop_left' (by rw [Yd m,aN,cW d])).symm
  rw [spl,Lu,Lu,I,R,b,bD];apply gO;intro q;have j:(cur.toList.take (lo*k)).length=lo*k:=by rw [aN,c];omega
  by_cases B:q<xs.length*k
  .rw [cD,aG B];by_cases S:q<lo*k+ys.length*k
   .have D:∀C,((cur.toList.take (lo*k) ++ cellsOf enc ys) ++ C)[q]? = (cur.toList.take (lo*k) ++ cellsOf enc ys)[q]?:=λC=>dY (by rw [cI,j,b];exact S);rw [D,D]
   .have F:∀C,((cur.toList.take (lo*k) ++ cellsOf enc ys) ++ C)[q]? = C[q-(lo*k+ys.length*k)]?:=λC=>by rw [dU (by rw [cI,j,b];omega),cI,j,b]
    rw [F,F];rw [fN,fN,cD,aG O]
  .rw [cD,aE B,bI];simp only [cI,aN,dO,c,b];omega
def Dst(v u:Value)(a k lo n:Nat):Prop:=∀g c,v= .slice (some ⟨g,0,none⟩) a c->a<=c->∃b,u= .slice (some ⟨g,lo*k,none⟩) n b
theorem Ya1{a:Nat}:Dst v v a k 0 a:=λg c h _=>⟨c,by rw [h,gI]⟩
theorem Ztn{a:Nat}{n:Nat}(h:lo<a):Dst v (Nr (Zbe v lo k) n) a k lo n:=λg c b d=>by refine⟨c-lo,?_⟩;rw [b];simp only [Zbe,Nr];rw [aE O];simp [Mi]
theorem Zva{α:Type}{enc:α->Value}{ys:List α}(b:Enc P t k enc)(h:RowAt w k enc u ys):(Builtin.firstCells k ys.length u).run P w= .ok (cellsOf enc ys).toArray w/\(Builtin.lenOf u).run P w= .ok ys.length w:=by
 obtain⟨R,c,rfl,S,D,l⟩:=h;refine⟨?_,by simp [Builtin.lenOf]⟩;rcases l with rfl|⟨g,f,rfl,l⟩
 .cases R with
  | none=>simp [Builtin.firstCells,cellsOf]
  | some q=>simp [Builtin.firstCells,cellsOf,loadCells,loadCellsFrom]
 .have B:∀q u,(cellsOf enc ys)[q]? = some u->w.cell? ((⟨g,f,none⟩:Addr).add q)=some u:=λq u G=>by
   have s:q<ys.length*k:=by rw [<-Yd b.cells ys];exact(iJ.1 G).1
   have d:=b.pos;have n:q/k<ys.length:=fU (by rw [aJ];exact s);have a:ys[q/k]? = some ys[q/k]:=bB n;have z:q%k<(enc ys[q/k]).cells.toList.length:=by rw [dS,b.cells];exact bG _ d
   have I:=bB z;have m:=Kz b.cells ys _ _ a _ _ I;have F:=l _ _ a _ _ I;have e:q/k*k+q%k=q:=by rw [aJ];exact bP q k
   rw [e]at m;rw [gM,e]at F;rw [G]at m;cases m;rw [Mi];exact F
  have V:=Yd b.cells ys;have:=run_loadCells (P:=P) (w:=w) ⟨g,f,none⟩ (ys.length*k) (λj=>(cellsOf enc ys).getD j undef) (λj W=>B j _ (by rw [bB O];simp [List.getD,bB (show j<(cellsOf enc ys).length by omega)]));rw [show(List.range (ys.length*k)).map (λj=>(cellsOf enc ys).getD j undef)=cellsOf enc ys by
   apply iE
   .simp [V]
   .intro i S D;simp [List.getD,bB D]]at this
  exact this
theorem Zri {α:Type} {a:Act}   {e:TypeId}  {enc:α->Value} {xs ys:List α}   (hs:Sat N sc env H a w) (R:lk H i=some (Nl k e enc v xs)) (D:i≠0) (B:Enc P t k enc)
  (G:lo+ys.length<=xs.length) (hp:0<xs.length) (W:lk H 0=some (Xm w0 M0)) (Z:∀b,w0.heap.size<=b->sc b)  {n:Nat} (s:Dst v u xs.length k lo n) :
  ∃g c w',u= .slice (some ⟨g,lo*k,none⟩) n c/\(storeCells ⟨g,lo*k,none⟩ (cellsOf enc ys)).run P w= .ok () w'/\Sat N sc env ((i,Nl k e enc v (spl xs lo ys))::H) a w'/\Chg (λ_=>True) w w':=by
 have l:w.ownsRow 0 e k v xs.length (cellsOf enc xs):=hs.hold i _ R;rcases l.2 with⟨rfl,hn⟩|⟨g,d,cur,rfl,hb,S,j,z,h,f⟩
 .omega
 .obtain⟨V,s⟩:=s g d rfl j;have I:=Yd B.cells ys;have F:(lo+ys.length)*k<=d*k:=aI _ O;rw [bD]at F;have m:=run_storeCells_at P g (lo*k) e (cellsOf enc ys) 0 cur w S (by rw [I,h];omega) (λu s=>by obtain⟨y,_,hy⟩:=kT.1 s;exact B.one y u hy)
  simp only [eO]at m;exact⟨g,V,_,s,m,hs.upd R rfl D (q:=Nl k e enc (.slice (some ⟨g,0,none⟩) xs.length d) (spl xs lo ys)) (Hd (M:=λk=>(Value.slice (some ⟨g,0,none⟩) xs.length d).ownBlock=some k) rfl) (Ydm B.cells lo G S j z h f) (λk Y=> .inl Y) W Z,Hd aA⟩
theorem t_cpy (i:Nat)(j:Nat) {α:Type}   {t' e:TypeId} {n d:Nat} {z:Value} {enc:α->Value} {xs ys:List α}    (lo:Nat)
  (ho:o.op= .call { callee:= .builtin .copy,args:=#[x,y],argTypes:=#[t,t'] }) (W:o.dst=some d) (S:Nat.blt d N=true)
  (hx:ev env x=some u) (hy:ev env y=some z) (I:lk H i=some (Nl k e enc v xs)) (h:i≠0) (Y:lk H j=some p) (hr:Rd p k enc z ys)
  (hu:Dst v u xs.length k lo n) (Z:ys.length<=n) (l:lo+ys.length<=xs.length) (hp:0<xs.length) (ht:P.underlying t=some (.slice te)) (f:Enc P te k enc)
  (B:lk H 0=some (Xm w0 M0)) (hw:∀b,w0.heap.size<=b->sc b) :
  T P N sc (λ_=>True) o env H (G:=Unit) (λ_=>True) (λ_=>(d,.int .i64 (ys.length:Int))::env) (λ_=>(i,Nl k e enc v (spl xs lo ys))::H):=λa w hs K Q R=>by
 obtain⟨g,c,w',rfl,s,q,V⟩:=Zri (ys:=ys) hs I h f l hp B hw hu;obtain⟨D,F⟩:=Zva f (hr w (hs.hold j p Y));have m:(execOp a.eval o).run P w= .ok (.value (.int .i64 (ys.length:Int))) w':=by simp [execOp,ho,resolve,invoke,builtin,hs.ev hx,hs.ev hy,Builtin.copy_,run_underlying ht,F,cW Z,f.size,D,s,goInt]
 unfold Oper.wp;rw [m];show K (a.put o.dst _) _;rw [W];exact R () _ _ aA (q.put d _ S) V
theorem t_clr {α:Type}   {e:TypeId} {n:Nat} {zv:Value} {enc:α->Value} {xs:List α} {z:α}   (lo:Nat)
  (ho:o.op= .call { callee:= .builtin .clear,args:=#[x],argTypes:=#[t] }) (hd:o.dst=none)
  (hx:ev env x=some u) (Y:lk H i=some (Nl k e enc v xs)) (s:i≠0)
  (hu:Dst v u xs.length k lo n) (hn:0<n) (B:lo+n<=xs.length) (ht:P.underlying t=some (.slice te)) (j:Enc P te k enc)
  (hz:∀w,(zeroValue te).run P w= .ok (enc z) w) (S:k=1)
  (V:lk H 0=some (Xm w0 M0)) (hw:∀b,w0.heap.size<=b->sc b) :
  T P N sc (λ_=>True) o env H (G:=Unit) (λ_=>True) (λ_=>env) (λ_=>(i,Nl k e enc v (spl xs lo (List.replicate n z)))::H):=λa w hs K Q Z=>by
 obtain⟨g,c,w',rfl,I,F,hc⟩:=Zri (ys:=List.replicate n z) hs Y s j (by simpa using B) O V hw hu;obtain⟨m,rfl⟩:∃m,n=m+1:=⟨n-1,O⟩;have d:(enc z).cells.toList=[(enc z).cells[0]'(by rw [j.cells];omega)]:=by
  have h:(enc z).cells.size=1:=by rw [j.cells,S]
  apply iE
  .simp [h]
  .intro i W l;simp at l;subst l;simp
 have R:(Builtin.zeroCells (enc z).cells (m+1)).toList=cellsOf enc (List.replicate (m+1) z):=by
  have h:(enc z).cells.size=1:=by rw [j.cells,S]
  have f:∀q,cellsOf enc (List.replicate q z)=List.replicate q ((enc z).cells[0]' O):=by
   intro q
   induction q with
   | zero=>rfl
   | succ q ih=>rw [fY,fY,<-ih];simp [cellsOf,d]
  rw [f];apply iE
  .simp [Builtin.zeroCells,h]
  .intro i W l;simp [Builtin.zeroCells,h,nD]
 have D:(execOp a.eval o).run P w= .ok (.value (.tuple #[])) w':=by simp [execOp,ho,resolve,invoke,builtin,hs.ev hx,Builtin.clear_,run_underlying ht,hz,R,I]
 unfold Oper.wp;rw [D];show K (a.put o.dst _) _;rw [hd];exact Z () _ _ aA (F.put_none _) hc
end Go.Sky
namespace Go.Sky
variable{listed:Array Bool}{m i:Nat}{ts:List Nat}{ops:Array Oper}{o:Oper}{rest:List (Nat×Nat)}
variable {P:Program} {N:Nat} {sc:Nat->Prop} {env env':Xu} {H H':Hp} {Q Q':Exit->Act->World->Prop} {M:Nat->Prop}
theorem Yn (n:Nat) {l : List Oper}    (a : List (Nat × Nat))
     (h:LD P N sc M l.toArray (A P N sc M l.toArray ts Q n (Mg a listed)) a env H) (b:(Region.noSelect l.toArray && Ih l.toArray ts a listed && Nat.beq (a.length+n) m)=true:=by kernel_rfl):A P N sc M l.toArray ts Q m listed env H:=
  a_lin a b h (λ_ _ h=>h)
def aact   {n:Nat}   {G:Type} {φ:G->Prop} {a:G->Xu} {b:G->Hp} (e:T P N sc M o env H φ a b) (d:ops[i]? = some o) (c:o.guard=none)
    (h:∀g,φ g->A P N sc M ops ts Q n (listed.setIfInBounds i true) (a g) (b g)):Zbz P N sc M ops ts Q n listed env H i:=⟨o,G,φ,a,b,d,c,e,h⟩
theorem Ib (n:Nat)     (i j:Nat) 
    (c:Zbz P N sc M ops ts Q n listed env H i) (d:Zbz P N sc M ops ts Q n listed env H j) (a:((Region.ready .any ops listed == [i,j]) && !(Mz ops ts listed) && !([i,j]:List Nat).isEmpty && Nat.beq (n+1) m)=true:=by kernel_rfl):A P N sc M ops ts Q m listed env H:=by
  rw [aL]at a;have e:=cQ a.2;subst e;exact Yb8 [i,j] a.1 (λq b=>by
    simp only [bO,dV,gX]at b;rcases b with rfl|rfl
    . exact c
    . exact d)
theorem Ec{F:Xu->Hp->Prop}{G:Type}{φ:G->Prop}{a:G->Xu}{b:G->Hp}(d:ops[i]? = some o)(e:T P N sc M o env H φ a b)(h:∀g,φ g->LD P N sc M ops F rest (a g) (b g))(c:o.guard=none:=by rfl):LD P N sc M ops F ((i,1)::rest) env H:=r1 e d c h
theorem r3'{F:Xu->Hp->Prop}{G:Type}{φ:G->Prop}{a:G->Xu}{b:G->Hp}(d:ops[i]? = some o)(e:T P N sc (λ_=>True) o env H φ a b)(h:∀g,φ g->LD P N sc M ops F rest (a g) (b g))(c:o.guard=none:=by rfl):LD P N sc M ops F ((i,3)::rest) env H:=r3 e d c h
def Gr   {n:Nat}   {G:Type} {φ:G->Prop} {a:G->Xu} {b:G->Hp} (d:ops[i]? = some o) (c:o.guard=none) (e:T P N sc M o env H φ a b)
    (h:∀g,φ g->A P N sc M ops ts Q n (listed.setIfInBounds i true) (a g) (b g)):Zbz P N sc M ops ts Q n listed env H i:=aact e d c h
end Go.Sky
namespace Go.Sky
variable{o:Oper}{t t':TypeId}{x y:Operand}{a b:Bool}{ops:Array Oper}{rest:List (Nat×Nat)}
variable {P:Program} {N:Nat} {sc:Nat->Prop} {env env':Xu} {H H':Hp} {Q Q':Exit->Act->World->Prop} {M:Nat->Prop}
theorem d_eqb(c:o.op= .binOp .eql t x y t')(e:ev env x=some (.bool a))(f:ev env y=some (.bool b))(d:P.underlying t=some .bool):Ni P N sc o env H (.bool (a == b)):=λg w hs=>by simp [execOp,c,hs.ev e,hs.ev f,eqGuard,run_eql_bool w t a b d]
theorem d_neb(c:o.op= .binOp .neq t x y t')(e:ev env x=some (.bool a))(f:ev env y=some (.bool b))(d:P.underlying t=some .bool):Ni P N sc o env H (.bool (a != b)):=λg w hs=>by simp [execOp,c,hs.ev e,hs.ev f,eqGuard,run_neq_bool w t a b d,bne]
theorem Pe  {F:Xu->Hp->Prop} {i:Nat}   {d:Nat} {v:Value} (g:ops[i]? = some o) (e:o.dst=some d) (hs:Stb P N sc M o env H v)
  (h:LD P N sc M ops F rest ((d,v)::env) H) (f:o.guard=none:=by rfl) (c:Nat.blt d N=true:=by rfl):LD P N sc M ops F ((i,0)::rest) env H:=r0 hs g f e c h
end Go.Sky
namespace Go.Sky
open Go.RowKit Below
variable{b:Nat}{t:TypeId}{cs:Array Value}{o:Oper}{x:Operand}{v:Value}{f:FuncId}{xs:List Operand}{ats:Array TypeId}{vs:List Value}{pre:List Pc}{w0:World}{M0:Nat->Prop}{fn:Func}
variable {P:Program} {N:Nat} {sc:Nat->Prop} {env env':Xu} {H H':Hp} {Q Q':Exit->Act->World->Prop} {M:Nat->Prop}
def Ka(b:Nat)(t:TypeId)(cs:Array Value):Pc:=
  { own:=false,fp:=λk=>k=b,holds:=λw=>w.heap[b]? = some (.cells cs t (0,0))
    lt:=λw k h c=>by subst c;exact(aR.1 h).1
    stable:=λw e h a=>by rw [<-h];exact a.block b (aR.1 h).1 (λd=>d rfl) }
theorem Zj6(i:Nat)(hi:lk H i=some (box b t cs))(p:Nat.beq i 0=false):∀a w,Sat N sc env H a w->Sat N sc env ((i,Ka b t cs)::H) a w:=λa w hs=>by
    have y:i≠0:=λe=>by subst e;simp at p
    refine⟨hs.size,hs.defers,hs.env,λj h c=>?_,λj u h s n c d r b k l=>?_,λj h q c b k=>?_⟩
    . by_cases g:i=j
      . subst g;rw [Zz]at c;cases c;have z:=hs.hold i (box _ t cs) hi;exact z
      . rw [Zj g]at c;exact hs.hold j h c
    . by_cases g:i=j
      . subst g;rw [Zz]at c;cases c;cases r
      . rw [Zj g]at c;by_cases m:i=u
        . subst m;rw [Zz]at d;cases d;exact hs.sep j i h (box _ t cs) n c hi r b k l
        . rw [Zj m]at d;exact hs.sep j u h s n c d r b k l
    . by_cases g:i=j
      . subst g;rw [Zz]at c;cases c;exact hs.scope i (box _ t cs) y hi b k
      . rw [Zj g]at c;exact hs.scope j h q c b k
theorem d_lr   {c:TypeId} {i j:Nat}   (g:o.op= .load t x)
    (m:ev env x=some (.pointer (some ⟨b,j,none⟩))) (e:lk H i=some (Ka b c cs)) (k:∀w,(isAgg t).run P w= .ok false w) (l:cs[j]? = some v):Ni P N sc o env H v:=λa w hs=>by
  have d:w.heap[b]? = some (.cells cs c (0,0)):=hs.hold i _ e;have h:w.cell? ⟨b,j,none⟩=cs[j]?:=by simp [World.cell?,d]
  rw [l]at h;simp [execOp,g,hs.ev m,Instr.loadAt,Instr.sureAddr,loadVar,k,load,Sem.run,h]
def Zel(P:Program)(f:FuncId)(args:Array Value)(pre:List Pc)(al:Bool)(b:Nat)(t:TypeId)(cs:Array Value){G:Type}(φ:G->Prop)(val:G->Value)(a:G->Array Value)(c:G->List Pc):Prop:=
  ∀w,(∀p∈pre,p.holds w/\¬p.fp b)->(box b t cs).holds w->Calls P f args w λe d=>∃g,e= .returned (val g)/\φ g/\Chg (λk=>k=b) w d/\(box b t (a g)).holds d/\
    ∀p∈c g,p.holds d/\p.own=false/\∀k,p.fp k->w.heap.size<=k\/(al=true/\∃q∈pre,q.fp k)
theorem Qr (n:Nat)(i:Nat)     {d:Nat}     {al:Bool} {G:Type} {φ:G->Prop} {val:G->Value} {F:G->Array Value} {Z:G->List Pc}  
    (hc:Zel P f vs.toArray pre al b t cs φ val F Z)
    (ho:o.op= .call { callee:= .value (.func f),args:=xs.toArray,argTypes:=ats }) (hd:o.dst=some d) (hN:Nat.blt d N=true)
    (I:EvL env xs vs) (S:∀args w,(callFunc f args).run P w= .ok (.enter f args) w) (hH:lk H i=some (box b t cs)) (a6:i≠0) (y:PreOk (drp i H) al pre)
    (h0:lk H 0=some (Xm w0 M0)) (hw:∀b,w0.heap.size<=b->sc b) (hM:M b) :
    T P N sc M o env H φ (λg=>(d,val g)::env) (λg=>adds n (Z g) ((i,box b t (F g))::H)):=λa w hs K Q hK=>by
  have hr:(execOp a.eval o).run P w= .ok (.enter f vs.toArray) w:=by rw [Lz hs ho I,S]
  unfold Oper.wp;rw [hr];have D:(box b t cs).holds w:=hs.hold i _ hH;refine(hc w (λp hp=>by obtain⟨j,Y,_,l,a0,m,_⟩:=y.mem p hp;obtain⟨W,l⟩:=Hg _ _ _ _ l;exact⟨a0 w (hs.hold j Y l),λhb=>hs.sep i j _ Y (fS W) hH l rfl b rfl (m b hb)⟩) D).mono ?_
  rintro e w' ⟨g,rfl,hg,c,R,a1⟩;show K (a.put o.dst (val g)) w';rw [hd];have a8:Sat N sc env ((i,box b t (F g))::H) a w':=hs.upd hH rfl a6 c R (λk V=> .inl V) h0 hw;have a4:Chg M w w':=⟨c.os,c.tape,c.output,c.size,λk V hn=>c.block k V (λe=>hn (by subst e;exact hM))⟩;refine hK g _ _ hg (Sat.put (a8.adds (w1:=w) (Z g) n ?_) d _ hN) a4;intro p hp;obtain⟨h1,h2,h3⟩:=a1 p hp;refine⟨h1,h2,λk V=>?_,λj jt l u k V z=>?_⟩
  . rcases h3 k V with h|⟨_,q,hq,B⟩
    . exact hw k (aB (hs.hold 0 _ h0).size h)
    . obtain⟨j,Y,a2,l,_,m,_⟩:=y.mem q hq;exact hs.scope j Y a2 (Hg _ _ _ _ l).2 k (m k B)
  . have a9:k<w.heap.size:=by
      by_cases r:i=j
      . subst r;rw [Zz]at l;cases l;have:k=b:=z;subst this;exact(aR.1 D).1
      . rw [Zj r]at l;exact jt.lt w k (hs.hold j jt l) z
    rcases h3 k V with h|⟨a5,q,hq,B⟩
    . omega
    . obtain⟨j',Y,a2,s,_,m,a7⟩:=y.mem q hq;obtain⟨W,s⟩:=Hg _ _ _ _ s;by_cases r:i=j
      . subst r;rw [Zz]at l;cases l;exact hs.sep i j' _ Y (fS W) hH s rfl k z (m k B)
      . rw [Zj r]at l;by_cases a3:j=j'
        . subst a3;rw [s]at l;cases l;rw [a7 a5]at u;cases u
        . exact hs.sep j j' jt Y a3 l s u k z (m k B)
def Ycd(P:Program)(fn:Func)(w0:World)(pre:List Pc)(al:Bool)(b:Nat)(t:TypeId){G:Type}(φ:G->Prop)(val:G->Value)(a:G->Array Value)(c:G->List Pc):Exit->Act->World->Prop:=
  bodyPost P fn λe d => ∃ g, e = .returned (val g) /\ φ g /\ Chg (λk => k = b) w0 d /\ (box b t (a g)).holds d /\
        ∀p∈c g,p.holds d/\p.own=false/\∀k,p.fp k->w0.heap.size<=k\/(al=true/\∃q∈pre,q.fp k)
theorem Bc   {c:Code}   {al:Bool}    {G:Type} {φ:G->Prop} {val:G->Value} {m:G->Array Value} {y:G->List Pc} {N:Nat}
    (hf:P.funcs[f]? = some fn) (Z:fn.body=some c) (Y:fn.ntmps=N) (s:Nat.ble vs.length N=true) (S:AllRo pre)
    (h:∀w0 (sc:Nat->Prop),(∀k,w0.heap.size<=k->sc k)->(∀k,sc k->w0.heap.size<=k\/k=b\/∃q∈pre,q.fp k)->
      E P N sc c (Ycd P fn w0 pre al b t φ val m y) (Pa 0 vs) ((0,Xm w0 (λk=>k=b))::(1,box b t cs)::Qc 2 pre)) :
    Zel P f vs.toArray pre al b t cs φ val m y:=λw V z=>by
  refine calls_of_wp hf Z (h w (λk=>w.heap.size<=k\/k=b\/∃q∈pre,q.fp k) (λk l=> .inl l) (λk l=>l) _ w ?_);have s:vs.length<=N:=by simpa using s
  have a:∀i p,lk ((0,Xm w (λk=>k=b))::(1,box b t cs)::Qc 2 pre) i=some p->(i=0/\p=Xm w (λk=>k=b))\/(i=1/\p=box b t cs)\/(i≠0/\i≠1/\p∈pre/\p.own=false):=λi p hi=>by
      by_cases n:0=i
      . subst n;rw [Zz]at hi;cases hi;exact .inl ⟨rfl,rfl⟩
      . rw [Zj n]at hi;by_cases g:1=i
        . subst g;rw [Zz]at hi;cases hi;exact .inr (.inl ⟨rfl,rfl⟩)
        . rw [Zj g]at hi;obtain⟨_,d⟩:=Pt pre 2 i p hi;exact .inr (.inr ⟨λe=>n e.symm,λe=>g e.symm,d,S.mem p d⟩)
  refine⟨by simp [Y];omega,rfl,λt v ht=>?_,λi p hi=>?_,λi j p q I hi hj R k l r=>?_,λi p B hi k l=>?_⟩
  . have g:vs.toArray[t]? = some v:=by simpa using(Kw vs 0 t v ht).2
    have F:=(aR.1 g).1;rw [bF,eD F,g];rfl
  . rcases a i p hi with⟨_,rfl⟩|⟨_,rfl⟩|⟨_,_,d,_⟩
    . exact Chg.refl _ w
    . exact z
    . exact(V p d).1
  . rcases a i p hi with⟨_,rfl⟩|⟨g,rfl⟩|⟨_,_,d,u⟩
    . cases R
    . have D:k=b:=l;subst D;rcases a j q hj with⟨_,rfl⟩|⟨W,rfl⟩|⟨_,_,d,_⟩
      . exact r.2 rfl
      . exact I (g.trans W.symm)
      . exact(V q d).2 r
    . rw [u]at R;cases R
  . rcases a i p hi with⟨n,_⟩|⟨_,rfl⟩|⟨_,_,d,_⟩
    . exact absurd n B
    . exact .inr (.inl l)
    . exact .inr (.inr ⟨p,d,l⟩)
theorem Bp   {al:Bool}    {G:Type} {φ:G->Prop} {val:G->Value} {c:G->Array Value} {m:G->List Pc}  {e:Exit} (he:e= .ret\/e= .normal) (Y:∀k,sc k->w0.heap.size<=k\/k=b\/∃q∈pre,q.fp k)
    (g:G)  (z:∀a w,Sat N sc env H a w->(results fn a.tmps).run P w= .ok v w) (hv:val g=v) (hg:φ g) (i:Nat) (hi:lk H i=some (box b t cs)) (I:c g=cs) (a0:Nat.beq i 0=false) (Z:lk H 0=some (Xm w0 (λk=>k=b))) (d:Give (drp i H) al (m g)) :
    X N sc e (Ycd P fn w0 pre al b t φ val c m) env H:=λa w hs=>by
  have B : a.defers = [] /\ ∃ v, (results fn a.tmps).run P w = .ok v w /\ (∃ g, Ending.returned v = .returned (val g) /\ φ g /\ Chg (λk => k = b) w0 w /\ (box b t (c g)).holds w /\
        ∀p∈m g,p.holds w/\p.own=false/\∀k,p.fp k->w0.heap.size<=k\/(al=true/\∃q∈pre,q.fp k)):=by
    refine⟨hs.defers,v,z a w hs,g,by rw [hv],hg,hs.hold 0 _ Z,by rw [I];exact hs.hold i _ hi,λp hp=>?_⟩;obtain⟨ho,h|⟨h1,h2⟩⟩:=d.mem p hp
    case inr=>exact⟨h1 w,ho,λb hb=>absurd hb (h2 b)⟩
    obtain⟨j,D,s,n,r,R,F⟩:=h;obtain⟨W,n⟩:=Hg _ _ _ _ n;refine⟨r w (hs.hold j D n),ho,λk hk=>?_⟩;have l:=R k hk;have u:k≠b:=λe=>by subst e;exact hs.sep i j _ D (fS W) hi n rfl k rfl l
    cases al with
    | true=>
      rcases Y k (hs.scope j D s n k l)with h|h|h
      . exact .inl h
      . exact absurd h u
      . exact .inr ⟨rfl,h⟩
    | false=>
      have y:=F rfl;have hn:=hs.sep j 0 D _ s n Z y k l;refine .inl ?_;rcases bJ k w0.heap.size with V|S
      . exact absurd ⟨V,u⟩ hn
      . exact S
  rcases he with rfl|rfl
  . exact B
  . exact B
end Go.Sky
namespace Go.Sky
open Go.RowKit Below
variable{o:Oper}{f:FuncId}{xs:List Operand}{c x y:Operand}{ats:Array TypeId}{t t':TypeId}{cs:Array Value}{pre:List Pc}{M0:Nat->Prop}{ops:Array Oper}{ts:List Nat}{listed:Array Bool}{v:Value}{k:Nat}{p:Pc}{rest:List Oper}
variable {P:Program} {N:Nat} {sc:Nat->Prop} {env env':Xu} {H H':Hp} {Q Q':Exit->Act->World->Prop} {M:Nat->Prop}
theorem Ztw (vs:List Value)(d:o.op= .makeFunc (.func f) xs.toArray #[])(e:EvL env xs vs):Ni P N sc o env H (.func (.func f) vs.toArray #[]):=λa w hs=>by have b:=e.map hs;simp [execOp,d,Instr.makeFunc,b]
theorem Zh6 {a:Act} {w:World} (hs:Sat N sc env H a w)      {d vs:List Value} (h:o.op= .call { callee:= .value c,args:=xs.toArray,argTypes:=ats })
  (e:ev env c=some (.func (.func f) d.toArray #[])) (b:EvL env xs vs):(execOp a.eval o).run P w=(callFunc f (d ++ vs).toArray).run P w:=by
 have g:=b.map hs;simp [execOp,h,resolve,invoke,hs.ev e,Deferred.ofValue,g]
theorem Zml (n:Nat)(i:Nat)(m:List Value)(vs:List Value)      {d b:Nat}     {al:Bool} {G:Type} {φ:G->Prop} {val:G->Value} {j:G->Array Value} {u:G->List Pc} {w0:World} 
  (Y:Zel P f (m ++ vs).toArray pre al b t cs φ val j u)
  (ho:o.op= .call { callee:= .value c,args:=xs.toArray,argTypes:=ats }) (B:ev env c=some (.func (.func f) m.toArray #[])) (Z:o.dst=some d) (W:Nat.blt d N=true)
  (h:EvL env xs vs) (e:∀args w,(callFunc f args).run P w= .ok (.enter f args) w) (R:lk H i=some (box b t cs)) (D:i≠0) (s:PreOk (drp i H) al pre)
  (I:lk H 0=some (Xm w0 M0)) (hw:∀b,w0.heap.size<=b->sc b) (V:M b) :
  T P N sc M o env H φ (λg=>(d,val g)::env) (λg=>adds n (u g) ((i,box b t (j g))::H)):=λa w hs K Q S=>by
 have hr:(execOp a.eval o).run P w= .ok (.enter f (m ++ vs).toArray) w:=by rw [Zh6 hs ho B h,e]
 let o2:Oper:={ o with op:= .call { callee:= .value (.func f),args:=((m ++ vs).map Operand.const).toArray,argTypes:=ats } };have q:∀l:List Value,EvL env (l.map Operand.const) l:=λl=>by
  induction l with
  | nil=>trivial
  | cons v r ih=>exact⟨rfl,ih⟩
 have F:(execOp a.eval o2).run P w= .ok (.enter f (m ++ vs).toArray) w:=by rw [Lz hs (o:=o2) rfl (q _),e]
 have z:o2.wp P a w K Q:=Qr n i (M:=M) Y (o:=o2) rfl Z W (q _) e R D s I hw V a w hs K Q S;unfold Oper.wp at z ⊢;rw [F]at z;rw [hr];exact z
theorem a_br3 (n:Nat)    {m:Nat} (i j k:Nat) 
  (d:Zbz P N sc M ops ts Q n listed env H i) (e:Zbz P N sc M ops ts Q n listed env H j) (g:Zbz P N sc M ops ts Q n listed env H k) (a:((Region.ready .any ops listed == [i,j,k]) && !(Mz ops ts listed) && !([i,j,k]:List Nat).isEmpty && Nat.beq (n+1) m)=true:=by kernel_rfl):A P N sc M ops ts Q m listed env H:=by
 rw [aL]at a;have h:=cQ a.2;subst h;exact Yb8 [i,j,k] a.1 (λq b=>by
  simp only [bO,dV,gX]at b;rcases b with rfl|rfl|rfl
  .exact d
  .exact e
  .exact g)
theorem d_fld    {f:Nat} {d:Array Field} {b:Field}   (h:o.op= .field t x f)
  (l:ev env x=some (.agg cs)) (i:P.underlying t=some (.struct d)) (g:d[f]? = some b) (e:∀w,(isAgg b.type).run P w= .ok false w) (j:cs[b.offset]? = some v):Ni P N sc o env H v:=λa w hs=>by
 simp [execOp,h,hs.ev l,Instr.field,run_underlying i,g,asAgg,part,e,j]
theorem Zqz{s b:ByteArray}(g:o.op= .binOp .eql t x y t')(h:ev env x=some (.string s))(i:ev env y=some (.string b))(d:b.data.toList=[]) :
  Ni P N sc o env H (.bool (decide (s.size=0))):=λa w hs=>by
 have e:(s.toList == b.toList)=decide (s.size=0):=by rw [ByteArray.toList_eq,ByteArray.toList_eq,d];have:s.size=s.data.toList.length:=rfl;rw [this];cases s.data.toList<;>simp
 simp [execOp,g,hs.ev h,hs.ev i,eqGuard,binOp_string_eql,e]
theorem Zhp  {b:BinOp}   {xs ys:Array Value} {r:Value} (g:o.op= .binOp b t x y t') (i:ev env x=some (.agg xs)) (j:ev env y=some (.agg ys))
  (e:P.eqGuardType P.depth t=false) (h:∀w,(binOp b t (.agg xs) (.agg ys)).run P w= .ok r w):Ni P N sc o env H r:=λa w hs=>by
 have d:=run_eqGuard_agg (P:=P) w b t x y xs ys e;simp only [execOp,g,hs.ev i,hs.ev j,Sem.run_bind,d,h w,Result.andThen_ok,Sem.run_pure]
abbrev SL:=Option Addr×Nat×Nat
abbrev Lh (s:SL):Value:= .slice s.1 s.2.1 s.2.2
theorem Mp{α:Type}{enc:α->Value}{xs:List α}(i:Nat)(hi:lk H i=some p)(d:Rd p k enc v xs):∀a w,Sat N sc env H a w->∃s:SL,v=Lh s:=λa w hs=>by obtain⟨b,c,rfl,_⟩:=d w (hs.hold i p hi);exact⟨(b,xs.length,c),rfl⟩
theorem Yeo{c:Code}{α:Type}{p:α->Prop}(b:∀a w,Sat N sc env H a w->∃x,p x)(h:∀x,p x->E P N sc c Q env H):E P N sc c Q env H:=λa w hs=>by obtain⟨x,d⟩:=b a w hs;exact h x d a w hs
theorem Zmb{e:Exit}{α:Type}{p:α->Prop}(b:∀a w,Sat N sc env H a w->∃x,p x)(h:∀x,p x->X N sc e Q env H):X N sc e Q env H:=λa w hs=>by obtain⟨x,d⟩:=b a w hs;exact h x d a w hs
theorem l_ex{α:Type}{p:α->Prop}(b:∀a w,Sat N sc env H a w->∃x,p x)(h:∀x,p x->L P N sc ops rest Q env H):L P N sc ops rest Q env H:=λa w hs=>by obtain⟨x,d⟩:=b a w hs;exact h x d a w hs
def Zc1{β:Type}(q:β->Pc)(zs:List β):Pc:=
 {own:=false,fp:=λb=>∃z∈zs,(q z).fp b,holds:=λw=>∀z∈zs,(q z).holds w
  lt:=λw b h e=>by obtain⟨z,d,e⟩:=e;exact(q z).lt w b (h z d) e
  stable:=λw m h a z d=>(q z).stable w m (h z d) ⟨a.os,a.tape,a.output,a.size,λk i j=>a.block k i (λg=>j (λl=>g ⟨z,d,l⟩))⟩ }
def Nv{β:Type}(k:Nat)(enc:β->Value)(q:β->Pc)(v:Value)(zs:List β):Pc:=
 {own:=false,fp:=λb=>(zs≠[]/\v.ownBlock=some b)\/∃z∈zs,(q z).fp b,holds:=λw=>(Ym k enc v zs).holds w/\(Zc1 q zs).holds w
  lt:=λw b h d=>by
   rcases d with d|d
   .exact(Ym k enc v zs).lt w b h.1 d
   .exact(Zc1 q zs).lt w b h.2 d
  stable:=λw l h a=>⟨(Ym k enc v zs).stable w l h.1 ⟨a.os,a.tape,a.output,a.size,λk g i=>a.block k g (λe=>i (λj=>e (.inl j)))⟩,
   (Zc1 q zs).stable w l h.2 ⟨a.os,a.tape,a.output,a.size,λk g i=>a.block k g (λe=>i (λj=>e (.inr j)))⟩⟩ }
def Yz{β:Type}{enc:β->Value}{q:β->Pc}{zs:List β} : Rd (Nv k enc q v zs) k enc v zs:=λw h=>h.1.1
theorem Zck{q:Pc}(i j:Nat)(hi:lk H i=some p)(l:Nat.beq i 0=false)(u:p.own=false)(s:∀w,p.holds w->q.holds w)(n:∀b,q.fp b->p.fp b)(z:q.own=false):∀a w,Sat N sc env H a w->Sat N sc env ((j,q)::H) a w:=λa w hs=>
 hs.add j q (s w (hs.hold i p hi)) (λr B _ m My b g h=>by
  rcases My with My|My
  .rw [z]at My;cases My
  .by_cases d:r=i
   .subst d;rw [hi]at m;cases m;rw [u]at My;cases My
   .exact hs.sep r i B p d m hi My b h (n b g)) (λb g=>hs.scope i p (λe=>by subst e;simp at l) hi b (n b g))
def s_many{β:Type}{q:β->Pc}{zs:List β}(i j:Nat)(z:β)(hi:lk H i=some (Zc1 q zs))(d:Nat.beq i 0=false)(e:z∈zs)(l:(q z).own=false):∀a w,Sat N sc env H a w->Sat N sc env ((j,q z)::H) a w:=
 Zck i j hi d rfl (λw h=>h z e) (λb g=>⟨z,e,g⟩) l
def Zxx{β:Type}{enc:β->Value}{q:β->Pc}{zs:List β}(i j:Nat)(z:β)(hi:lk H i=some (Nv k enc q v zs))(d:Nat.beq i 0=false)(e:z∈zs)(l:(q z).own=false):∀a w,Sat N sc env H a w->Sat N sc env ((j,q z)::H) a w:=
 Zck i j hi d rfl (λw h=>h.2 z e) (λb g=> .inr ⟨z,e,g⟩) l
theorem Zo{β:Type}{zs:List β}{i:Nat}{d:β}(h:i<zs.length:=by omega):zs.getD i d∈zs:=by rw [aX,bB h];exact kS h
theorem Zxw{q r:Pc}(i j n:Nat)(hi:lk H i=some p)(m:lk H j=some q)(z:Nat.beq i 0=false)(B:Nat.beq j 0=false)(R:p.own=false)(D:q.own=false)(I:∀w,p.holds w->q.holds w->r.holds w)(F:∀b,r.fp b->p.fp b\/q.fp b)(S:r.own=false) :
  ∀a w,Sat N sc env H a w->Sat N sc env ((n,r)::H) a w:=λa w hs=>
 hs.add n r (I w (hs.hold i p hi) (hs.hold j q m)) (λs G _ d My b u l=>by
  rcases My with My|My
  .rw [S]at My;cases My
  .rcases F b u with h|h
   .by_cases g:s=i
    .subst g;rw [hi]at d;cases d;rw [R]at My;cases My
    .exact hs.sep s i G p g d hi My b l h
   .by_cases g:s=j
    .subst g;rw [m]at d;cases d;rw [D]at My;cases My
    .exact hs.sep s j G q g d m My b l h) (λb u=>by
  rcases F b u with h|h
  .exact hs.scope i p (λe=>by subst e;simp at z) hi b h
  .exact hs.scope j q (λe=>by subst e;simp at B) m b h)
def Dk{β:Type}{enc:β->Value}{q:β->Pc}{zs:List β}(i j n:Nat)(hi:lk H i=some (Ym k enc v zs))(m:lk H j=some (Zc1 q zs))(d:Nat.beq i 0=false)(e:Nat.beq j 0=false) :
  ∀a w,Sat N sc env H a w->Sat N sc env ((n,Nv k enc q v zs)::H) a w:=
 Zxw i j n hi m d e rfl rfl (λw g h=>⟨g,h⟩) (λb l=>l) rfl
theorem Li{β:Type}(q:β->Pc)(n:Nat):∀a w,Sat N sc env H a w->Sat N sc env ((n,Zc1 q ([]:List β))::H) a w:=λa w hs=>
 hs.add n _ (λz d=>by cases d) (λh i _ _ My b e g=>by obtain⟨z,d,_⟩:=e;cases d) (λb e=>by obtain⟨z,d,_⟩:=e;cases d)
theorem Pk{β:Type}{q:β->Pc}{zs:List β}{z:β}(i j n:Nat)(hi:lk H i=some (Zc1 q zs))(s:lk H j=some (q z))(e:Nat.beq i 0=false)(g:Nat.beq j 0=false)(u:(q z).own=false) :
  ∀a w,Sat N sc env H a w->Sat N sc env ((n,Zc1 q (zs ++ [z]))::H) a w:=
 Zxw i j n hi s e g rfl u (λw m r y l=>by
  rcases dH.1 l with h|h
  .exact m y h
  .rw [aK.1 h];exact r) (λb d=>by
  obtain⟨y,l,d⟩:=d;rcases dH.1 l with h|h
  .exact .inl ⟨y,h,d⟩
  .rw [aK.1 h]at d;exact .inr d) rfl
end Go.Sky
namespace Go.Sky
open Go.RowKit Below
variable{o:Oper}{H0:Hp}{ks:List Nat}{t ty:TypeId}{d:Nat}{cs:Array Value}{M0:Nat->Prop}{x:Operand}{k:IntKind}{ops:Array Oper}{rest:List Oper}{pos:String}
variable {P:Program} {N:Nat} {sc:Nat->Prop} {env env':Xu} {H H':Hp} {Q Q':Exit->Act->World->Prop} {M:Nat->Prop}
def Off(H:Hp)(ks:List Nat):Nat->Prop:=λx=>∀k∈ks,∀p,lk H k=some p->¬p.fp x
def Agr(H0 H:Hp):List Nat->Prop
 | []=>True
 | k::r=>lk H k=lk H0 k/\Agr H0 H r
theorem Agr.mem{H0 H:Hp} : ∀{ks:List Nat},Agr H0 H ks->∀k∈ks,lk H k=lk H0 k
 | k::r,h,j,a=>by
  cases a with
  | head=>exact h.1
  | tail _ a=>exact Agr.mem h.2 j a
def rst(ks:List Nat):Hp->Hp
 | []=>[]
 | (i,p)::r=>cond (ks.any (Nat.beq i)) ((i,p)::rst ks r) (rst ks r)
theorem Zd7(ks:List Nat):∀(H:Hp) (i:Nat) (p:Pc),lk (rst ks H) i=some p->i∈ks/\lk H i=some p
 | [],_,_,h=>by cases h
 | (j,q)::r,i,p,h=>by
  unfold rst at h;cases hb:ks.any (Nat.beq j)with
  | true=>
   rw [hb]at h;simp only [cond_true]at h;by_cases c:j=i
   .subst c;rw [Zz]at h ⊢;obtain⟨x,l,g⟩:=List.any_eq_true.1 hb;have:=cQ g;subst this;exact⟨l,h⟩
   .rw [Zj c]at h ⊢;exact Zd7 ks r i p h
  | false=>
   rw [hb]at h;simp only [cond_false]at h;obtain⟨b,f⟩:=Zd7 ks r i p h;refine⟨b,?_⟩;have a:j≠i:=λe=>by subst e;have:ks.any (Nat.beq j)=true:=List.any_eq_true.2 ⟨j,b,O7⟩;rw [hb]at this;cases this
   rw [Zj a];exact f
theorem Mr {id:Nat} {l:List Oper} (ks:List Nat) (ts:List Nat) 
  (h:A P N sc (Off H ks) l.toArray ts Q l.length (Array.replicate l.length false) env H) (a:P.follows .mixedOrders=true:=by kernel_rfl):E P N sc (.region id l.toArray true) Q env H:=Zaw (Off H ks) ts h a
theorem stf{v:Value}(y:Ni P N sc o env (rst ks H) v)(m:Agr H0 H ks):Stb P N sc (Off H0 ks) o env H v:=λa w hs h c=>by refine y a h ⟨hs.size,hs.defers,hs.env,λi b hi=>?_,λi j b z f hi p=>hs.sep i j b z f (Zd7 _ _ _ _ hi).2 (Zd7 _ _ _ _ p).2,λi b l hi=>hs.scope i b l (Zd7 _ _ _ _ hi).2⟩;obtain⟨g,e⟩:=Zd7 _ _ _ _ hi;refine b.stable w h (hs.hold i b e) ⟨c.os,c.tape,c.output,c.size,λq u r=>c.block q u (λs=>r (λn=>?_))⟩;exact s i g b (by rw [<-m.mem i g];exact e) n
theorem Zw6   {i:Nat} {z:Value}  {w0:World}    (r:o.op= .alloc t) (m:o.dst=some d) (g:Nat.blt d N=true)
  (v:∀w,(zeroValue t).run P w= .ok z w) (l:z.cells=cs) (e:lk H 0=some (Xm w0 M0)) (u:∀b,w0.heap.size<=b->sc b) (h:Agr H0 H ks) :
  T P N sc (Off H0 ks) o env H (G:=Nat) (λb=>Off H0 ks b) (λb=>(d,.pointer (some ⟨b,0,none⟩))::env) (λb=>(i,box b t cs)::H):=λa w hs K Q f=>by
 subst l;have s:(execOp a.eval o).run P w= .ok (.value (.pointer (some ⟨w.heap.size,0,none⟩))) (w.alloc (.cells z.cells t)):=by simp [execOp,r,Instr.alloc,v,newVar,newRow]
 unfold Oper.wp;rw [s];show K (a.put o.dst _) _;rw [m];exact f w.heap.size _ _ (λk q p c n=>by rw [<-h.mem k q]at c;exact absurd (p.lt w _ (hs.hold k p c) n) (mJ _)) ((hs.new e u i (box w.heap.size t z.cells) (.cells z.cells t) (heap_alloc_new w _) (λb j=>j)).put d _ g) (Chg.alloc _ _ _)
theorem t_off  {G:Type} {φ:G->Prop} {c:G->Xu} {g:G->Hp}   {b:Nat}   (i:Nat) (hi:lk H i=some (box b t cs)) (q:ks.all (λk=>!Nat.beq k i)=true) (m:Agr H0 H ks)
  (h:Off H0 ks b->T P N sc (Off H0 ks) o env H φ c g):T P N sc (Off H0 ks) o env H φ c g:=λa w hs=>
 h (λk j p l n=>by
  rw [<-m.mem k j]at l;have f:i≠k:=λe=>by subst e;have:=bR.1 q i j;simp at this
  exact hs.sep i k _ p f hi l rfl b rfl n) a w hs
theorem Gf{p q:Pc}(i:Nat)(h:p=q)(hi:lk H i=some p)(b:Nat.beq i 0=false):∀a w,Sat N sc env H a w->Sat N sc env ((i,q)::H) a w:=λa w hs=>by subst h;exact Zj7 i hi rfl (λ_ h=>h) (λ_ h=>h) b a w hs
theorem u_negm{m r:Int}(b:o.op= .unOp .neg t x)(e:ev env x=some (.int .u64 m))(c:(-m)%18446744073709551616=r):Ni P N sc o env H (.int .u64 r):=λa w hs=>by rw [<-c,<-Zjr];simp [execOp,b,hs.ev e,Op.unary,Op.intArith]
theorem Yey{b:TypeId}{m r:Int}{ds:TypeDesc}(c:o.op= .convert t b x)(g:ev env x=some (.int k m))(a:P.underlying t=some ds)(f:P.underlying b=some (.int .u64))(e:m%18446744073709551616=r) :
  Ni P N sc o env H (.int .u64 r):=Zjv c g a f (by rw [Zjr];exact e)
theorem Sat.yieldedu{a:Act}{w:World}(h:Sat N sc env H a w){j:Nat}(e:(ops[j]?).bind (·.dst)=some d)(c:lk env d=some undef):Go.yielded ops a.tmps j=none:=by
 have b:=h.env d _ c;unfold Go.yielded;rw [e];simp only [Option.bind_some];rw [bF]at b;cases hx:a.tmps[d]? with
 | none=>rfl
 | some v=>rw [hx]at b;simp only [fZ]at b;subst b;rfl
theorem gsku      {c:Array Edge} {f:Op} {j e:Nat} {b:Bool} (m:(ops[j]?).bind (·.dst)=some e) (l:lk env e=some undef) (i:Nat.blt d N=true)
  (h:L P N sc ops rest Q ((d,undef)::env) H):L P N sc ops (⟨some d,f,ty,pos,c,some (j,b)⟩::rest) Q env H:=λa w hs=>
 wpList_step λK g=>by
  have p:=hs.yieldedu m l;have n:Region.wanted ⟨some d,f,ty,pos,c,some (j,b)⟩ (yielded ops a.tmps)=false:=by simp [Region.wanted,p]
  rw [n,aE O7];exact g _ _ (h _ _ (hs.put d undef i))
def nop:Pc:={ own:=false,fp:=λ_=>False,holds:=λ_=>True,lt:=λ_ _ _ h=>h.elim,stable:=λ_ _ _ _=>trivial }
end Go.Sky
namespace Go.Sky
variable{o xs ys:List Nat}{k c b x y i m w a s h:Nat}{P:Program}{sc:Nat->Prop}{t:TypeId}{kd:IntKind}
theorem Zph(k:Nat):U^k=256^(8*k):=by rw [show U=256^8 from rfl,<-iU]
theorem Zac(k:Nat):U^k=2^(64*k):=by rw [show U=2^64 from rfl,<-iU]
theorem Yp:0<U:=by simp [U]
theorem Yb2(h:val U (o.take k)+c*U^k=val U (xs.take k)+val U (ys.take k))(f:k<o.length) :
  val U ((o.set k ((xs.getD k 0+ys.getD k 0+c)%U)).take (k+1))+(xs.getD k 0+ys.getD k 0+c)/U*U^(k+1)=val U (xs.take (k+1))+val U (ys.take (k+1)):=by
 rw [Gs _ _ _ f,Xq,Xq,bL];generalize xs.getD k 0=a at *;generalize ys.getD k 0=b at *;generalize U^k=B at *;have d:=iO (a+b+c) U;have e:(a+b+c)%U*B+(a+b+c)/U*(B*U)=(a+b+c)*B:=by
  conv=>rhs;rw [<-d]
  rw [bD,aJ B U,<-cF,aJ ((a+b+c)/U) U]
 rw [bD,bD]at e;omega
theorem Zxa(j:c<=1)(l:xs.getD k 0<U)(n:ys.getD k 0<U)(h:val U (o.take k)+val U (ys.take k)=val U (xs.take k)+c*U^k)(g:k<o.length) :
  val U ((o.set k ((xs.getD k 0+U-ys.getD k 0-c)%U)).take (k+1))+val U (ys.take (k+1))=val U (xs.take (k+1))+brw (xs.getD k 0) (ys.getD k 0) c*U^(k+1):=by
 unfold brw;rw [Gs _ _ _ g,Xq,Xq,bL];generalize xs.getD k 0=a at *;generalize ys.getD k 0=b at *;generalize U^k=B at *;by_cases f:a<b+c
 .rw [aG f];have d:(a+U-b-c)%U+b+c=a+U:=by rw [aQ O];omega
  have e:((a+U-b-c)%U+b+c)*B=(a+U)*B:=by rw [d]
  rw [bD,bD,bD]at e;rw [kI,aJ B U];omega
 .rw [aE f];have d:(a+U-b-c)%U+b+c=a:=by rw [show a+U-b-c=(a-b-c)+U by omega,mS,aQ O];omega
  have e:((a+U-b-c)%U+b+c)*B=a*B:=by rw [d]
  rw [bD,bD]at e;omega
theorem Zig(b:Nat)(xs:List Nat)(k:Nat)(d:k<xs.length):val b xs=val b (xs.take k)+xs.getD k 0*b^k+b^(k+1)*val b (xs.drop (k+1)):=by
 conv=>lhs;rw [<-gN (k+1) xs]
 rw [Ps,Xq,aN,cW O]
theorem Zlp(l:0<b)(n:∀d∈xs,d<b)(f:k<xs.length)(g:k<ys.length)(e:xs.drop (k+1)=ys.drop (k+1))(h:xs.getD k 0<ys.getD k 0):val b xs<val b ys:=by
 rw [Zig b xs k f,Zig b ys k g,e];have p:val b (xs.take k)<b^k:=by have:=Zdp l (xs.take k) (λd e=>n d (dX e));rwa [aN,cW O]at this
 have j:(xs.getD k 0+1)*b^k<=ys.getD k 0*b^k:=aI _ h;rw [bD]at j;omega
theorem Zdb (xs:List Nat)(ys:List Nat)(d:k<xs.length)(e:k<ys.length)(f:xs.drop (k+1)=ys.drop (k+1))(h:xs.getD k 0=ys.getD k 0):xs.drop k=ys.drop k:=by rw [fP d,fP e,f];simp [List.getD,d,e]at h;rw [h]
theorem Dx(d:2<=b)(h:(dg b x).length<(dg b y).length):x<y:=by have e:=(Yt d (dg b x).length x).1 (aH _);have f:=(Pg d (dg b x).length y).1 h;omega
theorem Zru(h:0<x):bl x=(dg U x).length*64-(64-bl ((dg U x).getD ((dg U x).length-1) 0))/\bl ((dg U x).getD ((dg U x).length-1) 0)<=64/\0<(dg U x).length/\0<bl ((dg U x).getD ((dg U x).length-1) 0):=by
 have d:0<(dg U x).length:=by rw [Pg Yl,fC];omega
 have f:U^((dg U x).length-1)<=x:=(Pg Yl _ x).1 O;have e:x<U^(dg U x).length:=(Yt Yl _ x).1 (aH _);have g:x/U^((dg U x).length-1)<U:=by rw [bQ (bK Yp),aJ,<-bL,show((dg U x).length-1).succ=(dg U x).length by omega];exact e
 rw [Kq Yl,aQ g,Zac,Lv];have j:64*((dg U x).length-1)<bl x:=by rw [Bl,<-Zac];exact f
 have l:bl x<=64*(dg U x).length:=by rw [Xo,<-Zac];exact e
 refine⟨?_,?_,d,?_⟩<;>omega
theorem Zg9(x:Nat):(dg 256 x).length=(bl x+7)/8:=by
 have d:∀k,(dg 256 x).length<=k↔(bl x+7)/8<=k:=λk=>by rw [Yt O,show 256^k=2^(8*k) by rw [show 256=2^8 from rfl,<-iU],<-Xo];omega
 have e:=(d (dg 256 x).length).1 (aH _);have f:=(d ((bl x+7)/8)).2 (aH _);omega
theorem lenU(x:Nat):(dg U x).length=((dg 256 x).length+7)/8:=by
 have d:∀k,(dg U x).length<=k↔((dg 256 x).length+7)/8<=k:=λk=>by rw [Yt Yl,Zph,<-Yt O];omega
 have e:=(d (dg U x).length).1 (aH _);have f:=(d (((dg 256 x).length+7)/8)).2 (aH _);omega
theorem Zbr(f:xs.length=ys.length)(h:∀i,i<xs.length->xs.getD i 0=ys.getD i 0):xs=ys:=by apply iE f;intro i d e;have:=h i d;simpa [List.getD,d,e]using this
theorem Pr{α:Type}{o:List α}{j:Nat}{d z:α}(hi:i<o.length):(o.set i d).getD j z=if i=j then d else o.getD j z:=by
 by_cases h:i=j
 .subst h;simp [List.getD,hi]
 .rw [aE h];simp [List.getD,gV h]
theorem Ik(n i:Nat):(List.replicate n 0).getD i 0=0:=by simp only [List.getD,gD];split<;>rfl
theorem Zlv(x k:Nat):x/U^(k/8)%U/2^(k%8*8)%256=x/256^k%256:=by
 have g:=bP k 8;have j:k%8<8:=bG _ O;have d:U=256^(k%8)*256^(8-k%8):=by rw [<-bH,show k%8+(8-k%8)=8 by omega]
 have e:(2:Nat)^(k%8*8)=256^(k%8):=by rw [show(256:Nat)=2^8 from rfl,<-iU,aJ]
 have f:x/U^(k/8)/256^(k%8)=x/256^k:=by rw [aS,Zph,<-bH,g]
 rw [e]
 conv=>lhs;rw [d]
 rw [Nat.mod_mul_right_div_self,<-d,f,show 8-k%8=(8-k%8-1)+1 by omega,bL,Nat.mod_mul_left_mod]
def hi(x m w:Nat):Nat:=x/256^m*256^m/U^w%U
theorem Zz8(h:m<=8*w):hi x m w=x/U^w%U:=by unfold hi;rw [Zph,show 8*w=m+(8*w-m) by omega,bH,<-aS,iS _ (bK O),aS]
theorem hi_lt(h:8*w+8<=m):hi x m w=0:=by unfold hi;rw [Zph,show m=8*w+(8+(m-8*w-8)) by omega,bH 256 (8*w),aJ (256^(8*w)),<-cF,iS _ (bK O),bH 256 8];rw [show U=256^8 from rfl,mT,Nat.mul_mod_right]
theorem Zz7{r:Nat}(h:m=8*w+r)(d:r<=8):hi x m w=x/256^m*256^r%U:=by
 unfold hi;subst h;rw [Zph]
 conv=>lhs;rw [bH 256 (8*w) r,aJ (256^(8*w)),<-cF,iS _ (bK O)]
 rw [aJ (256^r) (256^(8*w)),<-bH]
theorem Yef(x k:Nat):hi x (k+1) (k/8) ||| (x/256^k%256*2^(k%8*8))%U=hi x k (k/8):=by
 have B:=bP k 8;have v:k%8<8:=bG _ O;rw [Zz7 (r:=k%8+1) O O,Zz7 (r:=k%8) O O];have j:(2:Nat)^(k%8*8)=256^(k%8):=by rw [show(256:Nat)=2^8 from rfl,<-iU,aJ]
 rw [j];generalize k%8=r at *;have q:x/256^(k+1)=x/256^k/256:=by rw [bL,aS]
 rw [q];generalize x/256^k=z;have e:U=256^(r+1)*256^(7-r):=by rw [<-bH,show r+1+(7-r)=8 by omega]
 have d:z%256*256^r<256^(r+1):=by rw [bL,aJ (256^r)];exact(lP (bK O)).2 (bG _ O)
 have f:256^(r+1)<=U:=by rw [e];exact dL _ (bK O)
 rw [aQ (cL d f)];have p:z/256*256^(r+1)%U=256^(r+1)*(z/256%256^(7-r)):=by rw [e,aJ (z/256),Nat.mul_mod_mul_left]
 rw [p];have g:(256:Nat)^(r+1)=2^(8*(r+1)):=by rw [show(256:Nat)=2^8 from rfl,<-iU]
 have My:=jV (b:=z%256*256^r) (i:=8*(r+1)) (by rw [<-g];exact d) (z/256%256^(7-r));rw [<-g]at My;rw [<-My];have u:z=256*(z/256)+z%256:=(bP z 256).symm;have l:z*256^r=256^(r+1)*(z/256)+z%256*256^r:=by
  conv=>lhs;rw [u]
  rw [bD,bL,aJ (256^r) 256,cF,cF,aJ (z/256)]
 rw [l,e];have n:256^(r+1)*(z/256)+z%256*256^r=z%256*256^r+256^(r+1)*(z/256):=O;rw [n,lO,iI,aQ d,jJ _ _ (bK O),cS d,cP];omega
theorem Px(x:Nat):(dg U x).length=(bl x+63)/64:=by
 have d:∀k,(dg U x).length<=k↔(bl x+63)/64<=k:=λk=>by rw [Yt Yl,Zac,<-Xo];omega
 have e:=(d (dg U x).length).1 (aH _);have f:=(d ((bl x+63)/64)).2 (aH _);omega
theorem bl_add:bl (x+y)<=max (bl x) (bl y)+1:=by rw [Xo,bL];have d:=Ga x;have e:=Ga y;have f:2^bl x<=2^max (bl x) (bl y):=cN O O;have g:2^bl y<=2^max (bl x) (bl y):=cN O O;omega
theorem Zq8(x y:Nat):bl (x*y)<=bl x+bl y:=by
 rw [Xo,bH];rcases aU y with rfl|d
 .rw [jW];exact fF (bK O) (bK O)
 .exact gY (Ga x) (dZ (Ga y)) (bK O)
theorem Zju(b:Nat)(o:List Nat)(n p r:Nat)(d:p<o.length)(f:p<n):val b ((o.set p r).take n)+o.getD p 0*b^p=val b (o.take n)+r*b^p:=by
 induction n with
 | zero=>omega
 | succ n e=>
  rw [Xq b (o.set p r) n,Xq b o n,Pr d];by_cases h:p=n
  .subst h;rw [aG rfl,Zh2];omega
  .rw [aE h];have:=e O;omega
theorem Zvp(d:x<U)(e:y<U)(f:a<U)(g:c<U) :
  ((x*y%U+a+0)%U+c+0)%U+U*(((x*y/U+(x*y%U+a+0)/U)%U+((x*y%U+a+0)%U+c+0)/U)%U)=x*y+a+c/\
  ((x*y/U+(x*y%U+a+0)/U)%U+((x*y%U+a+0)%U+c+0)/U)%U<U:=by
 have h:x*y<=18446744073709551615*18446744073709551615:=aY (by simp only [U]at d;omega) (by simp only [U]at e;omega);generalize x*y=p at *;simp only [U]at *;omega
theorem Zy8  {V r d n:Nat} (q:val U (o.take n)+c*U^(i+k)=V+xs.getD i 0*U^i*val U (ys.take k)) (g:i+k<o.length) (f:i+k<n)
  (j:r+U*d=xs.getD i 0*ys.getD k 0+o.getD (i+k) 0+c):val U ((o.set (i+k) r).take n)+d*U^(i+(k+1))=V+xs.getD i 0*U^i*val U (ys.take (k+1)):=by
 have p:=Zju U o n (i+k) r g f;rw [Xq,show i+(k+1)=i+k+1 by omega,bL];have l:xs.getD i 0*U^i*(ys.getD k 0*U^k)=xs.getD i 0*ys.getD k 0*U^(i+k):=by rw [bH];ac_rfl
 rw [fE,l];have e:(r+U*d)*U^(i+k)=(xs.getD i 0*ys.getD k 0+o.getD (i+k) 0+c)*U^(i+k):=by rw [j]
 rw [bD,bD,bD,aJ U d,cF d,aJ U]at e;omega
theorem Ze1  {N:Nat}  {env:Xu} {H:Hp} {o:Oper} {x y:Operand}  {s:ByteArray}  {m:Int}  (g:o.op= .index t x y)
  (l:ev env x=some (.string s)) (n:ev env y=some (.int kd m)) (j:P.underlying t=some .string)
  (e:m=(i:Int)) (f:i<256) (hs:s.size=256) (d:∀i,i<256->(s.data.toList.getD i 0).toNat=bl i):Ni P N sc o env H (.int .u8 (bl i:Int)):=by
 rw [<-d i f];exact Ya7 g l n j e 
theorem Zza  (z:x<U) (B:y<U) {hi lo:Nat}
  (u:hi=(((x/4294967296)*(y/4294967296)%U+(((x/4294967296)*(y &&& 4294967295)%U+((x &&& 4294967295)*(y &&& 4294967295)%U)/4294967296)%U)/4294967296)%U +
   (((((x/4294967296)*(y &&& 4294967295)%U+((x &&& 4294967295)*(y &&& 4294967295)%U)/4294967296)%U &&& 4294967295)+(x &&& 4294967295)*(y/4294967296)%U)%U)/4294967296)%U)
  (G:lo=x*y%U):hi=x*y/U:=by
 have v:∀n:Nat,n &&& 4294967295=n%4294967296:=λn=>jF n 32;subst u;simp only [v];have j:=bP x 4294967296;have l:=bP y 4294967296;have F:=bG x (show 4294967296>0 by omega);have D:=bG y (show 4294967296>0 by omega);have f:x/4294967296<=4294967295:=by simp only [U]at z;omega
 have g:y/4294967296<=4294967295:=by simp only [U]at B;omega
 generalize x/4294967296=a at *;generalize x%4294967296=b at *;generalize y/4294967296=c at *;generalize y%4294967296=d at *;subst j;subst l;have e:(4294967296*a+b)*(4294967296*c+d)=18446744073709551616*(a*c)+4294967296*(a*d)+4294967296*(b*c)+b*d:=by rw [bD,fE,fE,Nat.mul_mul_mul_comm,cF 4294967296 a d,mT b 4294967296 c];omega
 rw [e];have H:a*c<=4294967295*4294967295:=aY f g;have I:a*d<=4294967295*4294967295:=aY f O;have M:b*c<=4294967295*4294967295:=aY O g;have N:b*d<=4294967295*4294967295:=aY O O;generalize a*c=p at *;generalize a*d=q at *;generalize b*c=r at *;generalize b*d=s at *;simp only [U];omega
def Zul(m:Nat):bl (m%256)<=8:=(Xo 8 _).2 (bG _ O)
theorem Es:Qf ((bl (m%256):Nat):Int):=by have:=Zul m;exact⟨O,O⟩
theorem Gj{c:Int}(d:0<=c)(e:c<=1000):Qf (c+((bl (m%256):Nat):Int)):=by have:=Zul m;exact⟨O,O⟩
theorem Ep (n:Nat){c:Int}(d:m<256)(h:c+(bl m:Int)=(bl n:Int)):Value.int .i64 (c+((bl (m%256):Nat):Int))=Value.int .i64 (bl n:Int):=by rw [aQ d,h]
theorem Zk0{α:Type}{xs:List α}{d:α}(h:i<xs.length):xs.reverse.getD i d=xs.getD (xs.length-1-i) d:=by
 have e:i<xs.reverse.length:=by simpa using h
 have f:xs.length-1-i<xs.length:=O;simp [List.getD,bB f,bB e]
theorem hi_top(h:(dg 256 x).length<=m):hi x m w=0:=by have:=(Yt (b:=256) O m x).1 h;unfold hi;rw [cS this];simp
theorem Zz6(h:k/8≠w):hi x (k+1) w=hi x k w:=by
 by_cases d:k+1<=8*w
 .rw [Zz8 d,Zz8 O]
 .rw [hi_lt O,hi_lt O]
set_option maxRecDepth 20000
def Yb9:U=2^64:=rfl
theorem Zyt(d:b<2^s):a*2^s ||| b=a*2^s+b:=by rw [aJ,jV d]
theorem Zbt{l:Nat}(hs:s<=64)(d:l<U):l/2^(64-s)<2^s:=by rw [bQ (dB _),<-bH,show s+(64-s)=64 by omega];exact d
theorem Zex{l:Nat}(hs:s<=64):l*2^s/U=l/2^(64-s):=by rw [Yb9,show(2:Nat)^64=2^(64-s)*2^s by rw [<-bH,show 64-s+s=64 by omega],lK _ _ (dB s)]
theorem Zys{l:Nat}(hs:s<=64)(d:h*2^s<U)(e:l<U):(h*2^s%U) ||| (l/2^(64-s))=(h*U+l)*2^s/U:=by rw [aQ d,Zyt (Zbt hs e),bD,show h*U*2^s=U*(h*2^s) by rw [gJ,aJ],fR Yp,Zex hs]
theorem Zvr(h l s:Nat):l*2^s%U=(h*U+l)*2^s%U:=by rw [bD,show h*U*2^s=U*(h*2^s) by rw [gJ,aJ],gL]
def Zpd(x:Nat):x &&& 4294967295=x%4294967296:=jF x 32
def dvI(u v d y0 q r:Nat):Prop:=q*d+r=u/\q<=4294967297/\(u*4294967296+v)/(d*4294967296+y0)<=q
section
variable {u v y1 y0 q r:Nat}
theorem dv_Q(e:v<4294967296)(d:u<y1*4294967296+y0):(u*4294967296+v)/(y1*4294967296+y0)<4294967296:=by rw [bQ O];have:(u+1)*4294967296<=(y1*4294967296+y0)*4294967296:=aI _ d;omega
theorem dv0(j:2147483648<=y1)(l:y1<4294967296)(g:y0<4294967296)(D:v<4294967296)(B:u<y1*4294967296+y0):dvI u v y1 y0 (u/y1) (u%y1):=by
 refine⟨by rw [aJ];exact bP u y1,?_,?_⟩
 .rw [<-Nat.lt_succ_iff,bQ O];show u<4294967298*y1;omega
 .have f:0<y1*4294967296+y0:=O;refine mU ((bQ f).2 ?_);have n:=bP u y1;have p:=bG u (show 0<y1 by omega);generalize u/y1=q at *;have d:u+1<=y1*(q+1):=by rw [fE];omega
  have z:(u+1)*4294967296<=y1*(q+1)*4294967296:=aI _ d;have e:(q+1)*(y1*4294967296+y0)=y1*(q+1)*4294967296+(q+1)*y0:=by rw [fE,aJ y1 (q+1),cF (q+1) y1]
  show u*4294967296+v<(q+1)*(y1*4294967296+y0);rw [e];omega
theorem Yay(hi:q*y1+r=u):q*(y1*4294967296+y0)+r*4294967296=u*4294967296+q*y0:=by rw [fE,<-hi,bD,cF];omega
theorem Zli(j:0<y1)(hi:dvI u v y1 y0 q r)(f:q*y0<=4294967296*r+v):q=(u*4294967296+v)/(y1*4294967296+y0):=by obtain⟨d,g,e⟩:=hi;refine iM ((jC O).2 ?_) e;have:=Yay (y0:=y0) d;omega
theorem Zfr(B:0<y1)(hi:dvI u v y1 y0 q r)(l:v<4294967296)(j:u<y1*4294967296+y0)(e:4294967296<=q\/4294967296*r+v<q*y0) :
  1<=q/\dvI u v y1 y0 (q-1) (r+y1):=by
 obtain⟨f,n,z⟩:=hi;have d:(u*4294967296+v)/(y1*4294967296+y0)<q:=by
  rcases e with e|e
  .exact cL (dv_Q l j) e
  .rw [bQ O];have:=Yay (y0:=y0) f;omega
 have g:1<=q:=bC (aZ _) d;refine⟨g,?_,O,Nat.le_sub_one_of_lt d⟩;obtain⟨p,rfl⟩:∃p,q=p+1:=⟨q-1,O⟩;rw [bD]at f;simp only [fL];omega
theorem Zc9(d:0<y1)(g:y0<4294967296)(hi:dvI u v y1 y0 q r)(e:q<=4294967296)(f:4294967296<=r):q=(u*4294967296+v)/(y1*4294967296+y0):=by refine Zli d hi ?_;have j:q*y0<=4294967296*y0:=aI _ e;have l:4294967296*4294967296<=4294967296*r:=bZ _ f;omega
theorem Znp(f:q<4294967296)(d:y0<4294967296):q*y0<18446744073709551616:=by have e:q*y0<=4294967295*y0:=aI _ O;omega
end
theorem wsub (c:Nat)(g:a%U=c%U)(j:b%U=m%U)(l:m<=c)(d:c-m<U):(a+(U-b%U))%U=c-m:=by have e:b%U<U:=bG _ Yp;have f:(c-m)%U=c-m:=aQ d;simp only [U]at *;omega
theorem Ztm{u v:Nat}(e:0<y)(g:y<U):((u*4294967296%U+v)%U+(U-((u*4294967296+v)/y*y)%U))%U=(u*4294967296+v)%y:=by have d:=bP (u*4294967296+v) y;have f:=bG (u*4294967296+v) e;rw [aJ y]at d;rw [wsub (u*4294967296+v) (m:=(u*4294967296+v)/y*y) (by simp only [U];omega) rfl O O];omega
theorem Yet{A D:Nat}(g:0<y)(e:D=A*4294967296+b):D/y=A/y*4294967296+(A%y*4294967296+b)/y/\D%y=(A%y*4294967296+b)%y:=by
 have f:=bP A y;have d:D=y*(A/y*4294967296)+(A%y*4294967296+b):=by
  conv=>lhs;rw [e,<-f]
  rw [bD,cF];omega
 constructor
 .conv=>lhs;rw [d]
  rw [fR g]
 .conv=>lhs;rw [d]
  rw [gL]
theorem dv_two{D u v d e:Nat}(j:0<y)(l:u=D/U)(n:v=D%U)(g:d=v/4294967296)(f:e=v%4294967296) :
  D/y=(u*4294967296+d)/y*4294967296+((u*4294967296+d)%y*4294967296+e)/y/\D%y=((u*4294967296+d)%y*4294967296+e)%y:=
 Yet j (by subst l n g f;simp only [U];omega)
def Ziu(n y s:Nat):n*2^s/(y*2^s)=n/y:=lK _ _ (dB s)
theorem Zit(n y s:Nat):n*2^s%(y*2^s)/2^s=n%y:=by rw [lL,iS _ (dB s)]
theorem Zy0(f:0<y)(g:y<U)(hs:s=64-bl y):9223372036854775808<=y*2^s/\y*2^s<U:=by
 have j:bl y<=64:=(Xo 64 y).2 g;have d:=Ga y;have e:=(Zlx f).1;have l:(2:Nat)^bl y*2^s=U:=by rw [<-bH,show bl y+s=64 by omega]
 have n:y*2^s<2^bl y*2^s:=dP d (dB s);have p:2^(bl y-1)*2^s<=y*2^s:=aI _ e;have z:2^(bl y-1)*2^s=9223372036854775808:=by
  have:1<=bl y:=by
   rcases aU (bl y)with h|h
   .rw [h]at d;omega
   .exact h
  rw [<-bH,show bl y-1+s=63 by omega]
 omega
theorem rsub{u:Nat}(e:0<y)(f:u<U):(u+(U-(u/y*y)%U))%U=u%y:=by have d:=bP u y;rw [aJ y]at d;rw [wsub u (m:=u/y*y) rfl rfl O O];omega
theorem Cf{n:Nat}(h:m=n):Value.int .u64 (m:Int)= .int .u64 (n:Int):=by rw [h]
theorem Ap{m n:Int}(h:m=n):Value.int .i64 m= .int .i64 n:=by rw [h]
theorem Zos(d:1<=a)(h:a<U):(a+(U-1))%U=a-1:=by rw [show a+(U-1)=a-1+U by simp only [U]at *;omega,mS,aQ O]
def shl_lt(e:h<y)(d:y*2^s<U):h*2^s<U:=bC (aI _ (dZ e)) d
theorem top_lt{l:Nat}(g:l<U)(f:h<y):(h*U+l)*2^s/U<y*2^s:=by
 rw [bQ Yp];have d:(h+1)*U<=y*U:=aI _ f;have e:h*U+l<y*U:=by rw [bD]at d;omega
 rw [gJ];exact dP e (dB s)
end Go.Sky
namespace Go.Sky
set_option maxRecDepth 20000
variable{b r w k:Nat}{o xs:List Nat}
theorem Zkj{a s:Nat}(c:b<2^s):b ||| a*2^s=a*2^s+b:=by rw [Nat.or_comm,Zyt c]
theorem Zci{Y t:Nat}(a:t<=64):Y*2^t%U=Y%2^(64-t)*2^t:=by rw [Yb9,show(2:Nat)^64=2^(64-t)*2^t by rw [<-bH,show 64-t+t=64 by omega],lL]
theorem Zhn(c:b<=64)(a:r<U):r/2^b<2^(64-b):=by have:=Zbt (l:=r) (s:=64-b) O a;rwa [show 64-(64-b)=b by omega]at this
theorem Zmv(Y b:Nat)(a:b<=64):Y%U/2^b ||| (Y/U%U)*2^(64-b)%U=Y/2^b%U:=by
 have e:Y%U<U:=bG _ Yp;rw [Zci O,Zkj (Zhn a e),show 64-(64-b)=b by omega];have f:Y/U%U%2^b=Y/U%2^b:=by rw [Yb9];exact Nat.mod_mod_of_dvd _ (Nat.pow_dvd_pow 2 a)
 rw [f];have c:U=2^b*2^(64-b):=by rw [<-bH,show b+(64-b)=64 by omega]
 have g:=bP Y U;have h:Y/2^b=2^(64-b)*(Y/U)+Y%U/2^b:=by
  conv=>lhs;rw [<-g]
  conv=>lhs;rw [show U*(Y/U)=2^b*(2^(64-b)*(Y/U)) by rw [<-cF,<-c]]
  rw [fR (dB b)]
 rw [h];have d:=Zhn a e;generalize Y/U=q at *;generalize Y%U=r at *
 conv=>rhs;rw [c,aJ (2^b)]
 rw [lO,fR (dB _),gL,aQ d,cS d,eO,gK,aJ]
theorem Zu4{Y:Nat}(c:b<=64)(a:Y/U=0):Y%U/2^b=Y/2^b%U:=by have:=Zmv Y b c;rw [a]at this;simpa using this
theorem Zwb{α:Type}(xs:List α)(w j:Nat)(d:α):(xs.drop w).getD j d=xs.getD (w+j) d:=by simp [List.getD,fN]
theorem Di{x s:Nat}(c:w=s/64)(a:b=s%64):x/2^s=x/U^w/2^b:=by rw [Zac,aS,<-bH,show 64*w+b=s by omega]
theorem Zoj(x b i:Nat):x/2^b/U^i=x/U^i/2^b:=by rw [aS,aJ,<-aS]
theorem Ztp(x w j:Nat):((dg U x).drop w).getD j 0=x/U^w/U^j%U:=by rw [Zwb,Kq Yl,bH,aS]
theorem Zs5{x n:Nat}(h:(dg U x).length<=w+n):x/U^w<U^n:=by rw [bQ (bK Yp),<-bH,gK];exact(Yt Yl _ _).1 h
theorem drop_set{α:Type}{o:List α}{d:α}(h:k<o.length):(o.set k d).drop k=d::o.drop (k+1):=by rw [List.drop_set,aE O,mV,fP h];rfl
theorem Zda{α:Type}(z:α)(o:List α)(k:Nat)(h:k<o.length):o.drop k=o.getD k z::o.drop (k+1):=by rw [fP h];simp [List.getD,bB h]
theorem Zpr{d:Nat}(g:0<d)(h:k+1<=o.length)(i:k+1<=xs.length)(a:val U (o.drop (k+1))*d+r=val U (xs.drop (k+1))) :
  val U ((o.set k ((r*U+xs.getD k 0)/d)).drop k)*d+(r*U+xs.getD k 0)%d=val U (xs.drop k):=by
 rw [drop_set O,Zda 0 xs k O];simp only [val];have c:=bP (r*U+xs.getD k 0) d;rw [<-a];generalize (r*U+xs.getD k 0)/d=q at *;generalize (r*U+xs.getD k 0)%d=m at *;generalize val U (o.drop (k+1))=V at *;rw [bD,fE,aJ q d];have e:U*V*d=U*(V*d):=cF _ _ _;have f:U*r=r*U:=aJ _ _;omega
theorem Zxp  {i n:Nat} (j:b<=63) (l:n=o.length) (m:w+i+1<n) (d:o.getD (w+i) 0<2^b) (h:o.getD (w+i+1) 0=0) (p:xs.getD i 0<U)
  (g:val U (o.take n)=val U (xs.take i)*2^b*U^w) :
  val U (((o.set (w+i) (o.getD (w+i) 0 ||| xs.getD i 0*2^b%U)).set (w+i+1) (xs.getD i 0/2^(64-b))).take n)=val U (xs.take (i+1))*2^b*U^w:=by
 have a:=Zju U (o.set (w+i) (o.getD (w+i) 0 ||| xs.getD i 0*2^b%U)) n (w+i+1) (xs.getD i 0/2^(64-b)) O9 O;have c:=Zju U o n (w+i) (o.getD (w+i) 0 ||| xs.getD i 0*2^b%U) O O;rw [Pr O,aE O,h]at a;rw [Zci O,Zkj d,<-Zci O]at c ;rw [Zci O,Zkj d,<-Zci O]at a ⊢;rw [<-Zex (by omega:b<=64)]at a ⊢;rw [Xq];generalize xs.getD i 0=X at *;generalize o.getD (w+i) 0=C at *;have e:X*2^b*U^(w+i)=(X*2^b%U)*U^(w+i)+X*2^b/U*U^(w+i+1):=by
  conv=>lhs;rw [<-bP (X*2^b) U]
  rw [bD,bL U (w+i),aJ U,cF (X*2^b/U),aJ U];omega
 have f:(val U (xs.take i)+X*U^i)*2^b*U^w=val U (xs.take i)*2^b*U^w+X*2^b*U^(w+i):=by rw [bD,bD,bH];congr 1;rw [gJ X,cF,cF,aJ (U^i)];simp only [cF]
 rw [f,<-g,e];rw [bD]at c;omega
theorem Zh5(o:List Nat)(j:Nat)(h:o.getD j 0=0):o.set j 0=o:=by
 rcases bJ j o.length with a|a
 .refine Zbr O7 (λi _=>?_);rw [Pr a];split
  .rename_i e;rw [<-e,h]
  .rfl
 .exact List.set_eq_of_length_le a
theorem Zoi{d n:Nat}(c:n<U)(a:r<d):(r*U+n)/d<U:=by rw [bQ O];have:(r+1)*U<=d*U:=aI _ a;rw [aJ U];rw [bD]at this;omega
end Go.Sky

