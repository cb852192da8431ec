/- Rules, arithmetic and contracts: part 4. No conditions but those that each theorem names. -/
import Derived.Test.YtoaklaecgjlfoaaRows
import Derived.WalkKit
import Derived.ProofKit
import Derived.OpenShut
import Derived.ShutString
import Derived.ChangeOld
import Derived.Deep.Slices
import Derived.Lib.SmallJoins
import Derived.Test.YtoaklaecgjlfoaaTm02
set_option linter.all false
namespace Go.Sky
open Go.ChangeShapes Go.WideShapes Go.ChangeAt Go.RowKit Go.Joins Go.Deep
open Go.Proofs
variable {P:Program} {W:World} {H:Type} {enc:TypeId×Value->H}
theorem Dm{α:Type}[Inhabited α]{p:Nat->α->Prop} : ∀n,(∀i,i<n->∃x,p i x)->∃xs:List α,xs.length=n/\∀i x,xs[i]? = some x->p i x
 | 0,_=>⟨[],rfl,λi x h=>by simp at h⟩
 | n+1,h=>by
  obtain⟨xs,c,d⟩:=Dm n λi hi=>h i O;obtain⟨x,e⟩:=h n O;refine⟨xs ++ [x],by simp [c],λi y a=>?_⟩;rcases bD i n with hi|hi
  .rw [aV O]at a;exact d i y a
  .rw [aR O,c]at a;rcases cE (i-n)with b|b
   .rw [b]at a;simp at a;subst a;rw [show i=n by omega];exact e
   .rw [bL (by simp;omega)]at a;cases a
end Go.Sky
namespace Go.Proofs.Ytoaklaecgjlfoaa
open Go Go.Joins Go.Sky
def Xv{a b:Bool}(h:a=true)(c:b=true):(a && b)=true:=by rw [h,c];rfl
def cf0:(λ(P:Program) (f:FuncId) (a:Func) (s:ChangeSpec) (c:OpenClaim)=>c.wf (OpenSpec.ofChange s)) Try.checked.prog 3 Try.f3 Rows.topMatchingSpec Rows.topMatchingRow=true:=O4
def cf1:(λ(P:Program) (f:FuncId) (a:Func) (s:ChangeSpec) (c:OpenClaim)=>laidOutB P) Try.checked.prog 3 Try.f3 Rows.topMatchingSpec Rows.topMatchingRow=true:=O4
def cf2:(λ(P:Program) (f:FuncId) (a:Func) (s:ChangeSpec) (c:OpenClaim)=>mapsRowed P) Try.checked.prog 3 Try.f3 Rows.topMatchingSpec Rows.topMatchingRow=true:=O4
def cf3:(λ(P:Program) (f:FuncId) (a:Func) (s:ChangeSpec) (c:OpenClaim)=>a.params.all (P.readableRec ·)) Try.checked.prog 3 Try.f3 Rows.topMatchingSpec Rows.topMatchingRow=true:=O4
def cf4:(λ(P:Program) (f:FuncId) (a:Func) (s:ChangeSpec) (c:OpenClaim)=>namedTie P c.named s.vars) Try.checked.prog 3 Try.f3 Rows.topMatchingSpec Rows.topMatchingRow=true:=O4
def cf5:(λ(P:Program) (f:FuncId) (a:Func) (s:ChangeSpec) (c:OpenClaim)=>c.stops == []) Try.checked.prog 3 Try.f3 Rows.topMatchingSpec Rows.topMatchingRow=true:=O4
def cf6:(λ(P:Program) (f:FuncId) (a:Func) (s:ChangeSpec) (c:OpenClaim)=>P.stops == []) Try.checked.prog 3 Try.f3 Rows.topMatchingSpec Rows.topMatchingRow=true:=O4
def cf7:(λ(P:Program) (f:FuncId) (a:Func) (s:ChangeSpec) (c:OpenClaim)=>c.knobs == []) Try.checked.prog 3 Try.f3 Rows.topMatchingSpec Rows.topMatchingRow=true:=O4
def cf8:(λ(P:Program) (f:FuncId) (a:Func) (s:ChangeSpec) (c:OpenClaim)=>P.stopKnobs == []) Try.checked.prog 3 Try.f3 Rows.topMatchingSpec Rows.topMatchingRow=true:=O4
def cf9:(λ(P:Program) (f:FuncId) (a:Func) (s:ChangeSpec) (c:OpenClaim)=>c.inPlace == P.inPlace f) Try.checked.prog 3 Try.f3 Rows.topMatchingSpec Rows.topMatchingRow=true:=O4
def cf10:(λ(P:Program) (f:FuncId) (a:Func) (s:ChangeSpec) (c:OpenClaim)=>c.unfollowed == P.unfollowed f) Try.checked.prog 3 Try.f3 Rows.topMatchingSpec Rows.topMatchingRow=true:=O4
def cf11:(λ(P:Program) (f:FuncId) (a:Func) (s:ChangeSpec) (c:OpenClaim)=>c.recurses == P.recurses f) Try.checked.prog 3 Try.f3 Rows.topMatchingSpec Rows.topMatchingRow=true:=O4
def cf12:(λ(P:Program) (f:FuncId) (a:Func) (s:ChangeSpec) (c:OpenClaim)=>c.named == P.varsNamed f) Try.checked.prog 3 Try.f3 Rows.topMatchingSpec Rows.topMatchingRow=true:=O4
def cf13:(λ(P:Program) (f:FuncId) (a:Func) (s:ChangeSpec) (c:OpenClaim)=>(c.maps == (a.params.toList ++ s.plain.varTypes P).any (P.mapsRec ·))) Try.checked.prog 3 Try.f3 Rows.topMatchingSpec Rows.topMatchingRow=true:=O4
def cf14:(λ(P:Program) (f:FuncId) (a:Func) (s:ChangeSpec) (c:OpenClaim)=>(c.ifaces == (a.params.toList ++ s.plain.varTypes P).any (P.ifacesRec ·))) Try.checked.prog 3 Try.f3 Rows.topMatchingSpec Rows.topMatchingRow=true:=O4
def cf15:(λ(P:Program) (f:FuncId) (a:Func) (s:ChangeSpec) (c:OpenClaim)=>c.mapsOut == P.mapsAmong a.resultTypes.toList) Try.checked.prog 3 Try.f3 Rows.topMatchingSpec Rows.topMatchingRow=true:=O4
def cf16:(λ(P:Program) (f:FuncId) (a:Func) (s:ChangeSpec) (c:OpenClaim)=>(c.loops == (a.params.toList ++ s.plain.varTypes P).any (P.loopsFrom ·))) Try.checked.prog 3 Try.f3 Rows.topMatchingSpec Rows.topMatchingRow=true:=O4
def cf17:(λ(P:Program) (f:FuncId) (a:Func) (s:ChangeSpec) (c:OpenClaim)=>(c.wideKeys == (a.params.toList ++ s.plain.varTypes P ++ a.resultTypes.toList).any (P.wideKeysFrom ·))) Try.checked.prog 3 Try.f3 Rows.topMatchingSpec Rows.topMatchingRow=true:=O4
def cf18:(λ(P:Program) (f:FuncId) (a:Func) (s:ChangeSpec) (c:OpenClaim)=>s.vars.all (P.varReadable ·)) Try.checked.prog 3 Try.f3 Rows.topMatchingSpec Rows.topMatchingRow=true:=O4
def cf19:(λ(P:Program) (f:FuncId) (a:Func) (s:ChangeSpec) (c:OpenClaim)=>a.resultTypes.all (λt=>P.readableRec t && decide (t<P.types.size))) Try.checked.prog 3 Try.f3 Rows.topMatchingSpec Rows.topMatchingRow=true:=O4
def cf20:(λ(P:Program) (f:FuncId) (a:Func) (s:ChangeSpec) (c:OpenClaim)=>(c.ifacesOut == a.resultTypes.toList.any (P.ifacesRec ·))) Try.checked.prog 3 Try.f3 Rows.topMatchingSpec Rows.topMatchingRow=true:=O4
def cf21:(λ(P:Program) (f:FuncId) (a:Func) (s:ChangeSpec) (c:OpenClaim)=>(c.loopsOut == a.resultTypes.toList.any (P.loopsFrom ·))) Try.checked.prog 3 Try.f3 Rows.topMatchingSpec Rows.topMatchingRow=true:=O4
def cf22:(λ(P:Program) (f:FuncId) (a:Func) (s:ChangeSpec) (c:OpenClaim)=>c.plainKeys == P.plainKeys) Try.checked.prog 3 Try.f3 Rows.topMatchingSpec Rows.topMatchingRow=true:=O4
def cf23:(λ(P:Program) (f:FuncId) (a:Func) (s:ChangeSpec) (c:OpenClaim)=>c.shortTexts.isNone) Try.checked.prog 3 Try.f3 Rows.topMatchingSpec Rows.topMatchingRow=true:=O4
def cf24:(λ(P:Program) (f:FuncId) (a:Func) (s:ChangeSpec) (c:OpenClaim)=>P.stopsHeard) Try.checked.prog 3 Try.f3 Rows.topMatchingSpec Rows.topMatchingRow=true:=O4
def cf25:(λ(P:Program) (f:FuncId) (a:Func) (s:ChangeSpec) (c:OpenClaim)=>P.mayEnter) Try.checked.prog 3 Try.f3 Rows.topMatchingSpec Rows.topMatchingRow=true:=O4
def cf26:(λ(P:Program) (f:FuncId) (a:Func) (s:ChangeSpec) (c:OpenClaim)=>c.lifted == P.liftsFinal) Try.checked.prog 3 Try.f3 Rows.topMatchingSpec Rows.topMatchingRow=true:=O4
def cf27:(λ(P:Program) (f:FuncId) (a:Func) (s:ChangeSpec) (c:OpenClaim)=>P.make == some c.make) Try.checked.prog 3 Try.f3 Rows.topMatchingSpec Rows.topMatchingRow=true:=O4
def cf28:(λ(P:Program) (f:FuncId) (a:Func) (s:ChangeSpec) (c:OpenClaim)=>c.kinds == (if c.domain.isEmpty then []else a.params.toList.map λt=>match P.underlying t with|some (.int k)=>some k|_=>none)) Try.checked.prog 3 Try.f3 Rows.topMatchingSpec Rows.topMatchingRow=true:=O4
def cf29:(λ(P:Program) (f:FuncId) (a:Func) (s:ChangeSpec) (c:OpenClaim)=>c.pinned == c.pinnedBy) Try.checked.prog 3 Try.f3 Rows.topMatchingSpec Rows.topMatchingRow=true:=O4
def cf30:(λ(P:Program) (f:FuncId) (a:Func) (s:ChangeSpec) (c:OpenClaim)=>(c.veiled == (a.params.toList ++ s.plain.varTypes P ++ a.resultTypes.toList).any (P.veiledRec ·))) Try.checked.prog 3 Try.f3 Rows.topMatchingSpec Rows.topMatchingRow=true:=O4
def cf31:(λ(P:Program) (f:FuncId) (a:Func) (s:ChangeSpec) (c:OpenClaim)=>c.veiledFits P a.params.toList (a.params.toList ++ s.plain.varTypes P ++ a.resultTypes.toList)) Try.checked.prog 3 Try.f3 Rows.topMatchingSpec Rows.topMatchingRow=true:=O4
set_option maxRecDepth 100000 in
def closed:joinedFacts Try.checked.prog 3 Try.f3 Rows.topMatchingSpec Rows.topMatchingRow=true:=(Xv (Xv (Xv (Xv (Xv (Xv (Xv (Xv (Xv (Xv (Xv (Xv (Xv (Xv (Xv (Xv (Xv (Xv (Xv (Xv (Xv (Xv (Xv (Xv (Xv (Xv (Xv (Xv (Xv (Xv (Xv cf0 cf1) cf2) cf3) cf4) cf5) cf6) cf7) cf8) cf9) cf10) cf11) cf12) cf13) cf14) cf15) cf16) cf17) cf18) cf19) cf20) cf21) cf22) cf23) cf24) cf25) cf26) cf27) cf28) cf29) cf30) cf31)
end Go.Proofs.Ytoaklaecgjlfoaa
namespace Go.Sky
abbrev qT (z:SL×List (Int×SL)):Pc:=pp (Qu z.1) z.2
abbrev T0:SL×List (Int×SL):=((none,0,0),[])
abbrev intsT (a:List (SL×List (Int×SL))):List (List Int):=a.map λz=>ints z.2
set_option maxRecDepth 20000
def Qd{y:Int}(h:y≠0):∀n:Nat,y^n≠0
 | 0=>by rw [eD];omega
 | n+1=>by rw [gG];exact aT (Qd h n) h
def shm(q:List Int)(c:Int)(s i:Nat):List Int:=mk (s+i) λt=>if t<s then 0 else c*cf q (t-s)
def Zkf(q:List Int)(c:Int)(s t:Nat):cf (shm q c s q.length) t=if s<=t/\t<s+q.length then c*cf q (t-s)else 0:=by
 unfold shm;rw [Le];by_cases b:t<s
 .rw [aG (by omega:¬(s<=t/\t<s+q.length))];split
  .rfl
  .rfl
 .by_cases a:t<s+q.length
  .rw [aK a,aG b,aK (show s<=t/\t<s+q.length by omega)]
  .rw [aG a,aG (show ¬(s<=t/\t<s+q.length) by omega)]
section
variable {p q:List Int}
theorem Cy(c:0<q.length)(b:q.length<=p.length):∀j,j<=p.length-q.length+1->∀t,p.length-j<=t->cf (Qp p q j) t=0
 | 0,_,t,d=>Zr (by unfold Qp;omega)
 | j+1,e,t,d=>by
  rcases bD t p.length with h|h
  .unfold Qp;rw [Zdp (by rw [Qw];exact h)];by_cases a:t=p.length-1-j
   .subst a;rw [aK O,show p.length-1-j-(p.length-1-j-(q.length-1))=q.length-1 by omega];omega
   .rw [Cy c b j O t O,cK,aG O];rfl
  .exact Zr (by rw [Qw];omega)
def RestInv(p q R:List Int)(j:Nat):Prop:=Tr R/\∀t,cf R t=cf (Qp p q j) t*cf q (q.length-1)^(p.length-q.length+1-j)
end
end Go.Sky
namespace Go.Sky
section
variable {P:Program} {N:Nat} {sc:Nat->Prop} {env env':Yd} {H H':Hp}
end
end Go.Sky
namespace Go.Sky
variable{a b s c y:List Int}
def rterm(a b:Int):Nat->List Int
 | 0=>[1]
 | i+1=>Yj (rterm a b i) (tzl [a,b])
def rsum(p:List Int)(a b d:Int):Nat->List Int
 | 0=>[]
 | i+1=>Dw (rsum p a b d i) (Ya (rterm a b i) (cf p i*d^(p.length-1-i)))
def hs(f:Nat->PS):Nat->PS
 | 0=>0
 | n+1=>hs f n+f n
def Zii(p:List Int):ps (tzl p)=ps p:=PS.ext' λi=>Py p i
abbrev RW:=List (Bool×ByteArray)
abbrev qR (z:SL×RW):Pc:=Ou 2 encW (Qu z.1) z.2
abbrev qZ (z:SL×List Int):Pc:=Ou 2 wv (Qu z.1) z.2
abbrev R0:SL×RW:=((none,0,0),[])
def short1(r:RW):Bool:=(decide (r.length<=14) || decide (r.length=26)) && r.all λc=>decide (c.2.size<=16)
def shortb(d:List RW):Bool:=d.all short1
theorem Mv (k:Nat){f:Nat->Int} : ∀{n:Nat},k<n->(∀i,i<n->i≠k->f i=0)->Zc f n=f k
 | 0,d,_=>absurd d (aZ _)
 | n+1,d,h=>by
  rw [Zf];by_cases e:k=n
  .subst e;rw [Pn λi hi=>h i O O,iB]
  .rw [h n O (λx=>e x.symm),Mv _ O (λi hi=>h i O),fG]
theorem Ld (q:List Int){p:List Int}{a b:Nat}(d:∀i,a<i->cf p i=0)(e:∀i,b<i->cf q i=0):(ps p*ps q).c (a+b)=cf p a*cf q b:=by
 rw [PS.mul_c,Mv a O λi hi f=>?_]
 .rw [Xc,Xc,show a+b-a=b by omega]
 .rw [Xc,Xc];rcases bD a i with h|h
  .rw [d i h,cK]
  .rw [e (a+b-i) O,cJ]
theorem Bl(s e:List Int)(c d:Int)(f:PS)(t:Nat):(ps (Fh (Ya s c) (Ya e d))*f).c t=c*(ps s*f).c t-d*(ps e*f).c t:=by rw [PS.mul_c,PS.mul_c,PS.mul_c,<-Xl,Int.sub_eq_add_neg,<-Int.neg_mul,<-Xl,<-Po];refine Zj λk _=>?_;rw [Xc,Xc,Xc,Ht,Yq,Yq];grind
theorem Zl7{q r:List Int}(o:Tr q)(e:q≠[])(h:∀t,(ps s*ps q).c t=cf r t)(u:∀t,q.length-1<=t->cf r t=0):∀t,cf s t=0:=by
 have d:=o.mem e;have l:0<q.length:=aD.2 e;have hs:tzl s=[]:=by
  rcases Cc (tzl s)with f|⟨w,y,f⟩
  .exact f
  .exfalso;have v:=Xd s;have j:tzl s≠[]:=by rw [f];simp
   have m:=v.mem j;have k:=Ld q (p:=tzl s) (a:=(tzl s).length-1) (b:=q.length-1) (λi hi=>Zr O) (λi hi=>Zr O);have n:ps (tzl s)=ps s:=PS.ext' λi=>Py s i;rw [n,h,u _ O]at k;rcases dL.1 k.symm with g|g
   .exact m g
   .exact d g
 exact(Xy s).1 hs
theorem Qc(h:∀t,cf s t=0)(f:PS)(t:Nat):(ps s*f).c t=0:=by rw [PS.mul_c];exact Pn λk _=>by rw [Xc,h,cK]
theorem Qb{p q:List Int}(f:Tr p)(g:Tr q)(d:p≠[])(e:q≠[]):(Yj p q).length=p.length+q.length-1:=by have h:=aD.2 d;have j:=aD.2 e;unfold Yj;rw [Ej,Yh];right;rw [Yh,Le,aK O,show p.length+q.length-1-1=(p.length-1)+(q.length-1) by omega,Ld _ (λi hi=>Zr O) (λi hi=>Zr O)];exact aT (f.mem d) (g.mem e)
def mono(s:Nat)(c:Int):List Int:=List.replicate s 0 ++ [c]
theorem Ck(s:Nat)(c:Int)(i:Nat):cf (mono s c) i=if i=s then c else 0:=by
 unfold mono;rw [Hx,bJ];split
 .rw [aG O];unfold cf;simp [aA,cT];split<;>rfl
 .rename_i h;split
  .rename_i d;subst d;simp [cf]
  .exact Zr (by simp;omega)
theorem Bm(s:Nat)(c:Int)(f:PS)(t:Nat):(ps (mono s c)*f).c t=if s<=t then c*f.c (t-s)else 0:=by
 rw [PS.mul_c];split
 .rw [Mv s O λi _ d=>by rw [Xc,Ck,aG d,cK],Xc,Ck,aK rfl]
 .exact Pn λk e=>by rw [Xc,Ck,aG O,cK]
theorem Ep{p q:List Int}(r:0<q.length)(o:q.length<=p.length):∀j,j<=p.length-q.length+1->∃s:List Int,∀t,cf q (q.length-1)^j*cf p t=(ps s*ps q).c t+cf (Qp p q j) t
 | 0,_=>⟨[],λt=>by rw [Qc (λt=>Zr (aW _)),eD];unfold Qp;omega⟩
 | j+1,z=>by
  obtain⟨s,u⟩:=Ep r o j O;refine⟨Fh (Ya s (cf q (q.length-1))) (Ya (mono (p.length-1-j-(q.length-1)) (cf (Qp p q j) (p.length-1-j))) (-1)),λt=>?_⟩;rw [Bl,Bm];have d:=u t;show _=_+cf (Zah q (Qp p q j) (p.length-1-j)) t;rw [gG];rcases bD t p.length with h|h
  .rw [Zdp (by rw [Qw];exact h)];generalize p.length-1-j-(q.length-1)=g;generalize cf (Qp p q j) (p.length-1-j)=R;generalize cf (Qp p q j) t=m at d ⊢;generalize (ps s*ps q).c t=X at d ⊢;generalize cf q (q.length-1)^j=L at d ⊢;generalize cf q (q.length-1)=l at d ⊢;have e:L*l*cf p t=l*X+m*l:=by rw [eU,dC l,<-eU,d];grind
   rw [e];by_cases f:g<=t
   .rw [aK f,Xc];by_cases n:t<g+q.length
    .rw [aK ⟨f,n⟩];omega
    .rw [aG O,Zr (p:=q) (i:=t-_) O];omega
   .rw [aG f,aG O];omega
  .have k:cf p t=0:=Zr h;have v:cf (Qp p q j) t=0:=Zr (by rw [Qw];exact h);have w:cf (Zah q (Qp p q j) (p.length-1-j)) t=0:=Zr (by rw [Fs,Qw];exact h);have x:cf q (t-(p.length-1-j-(q.length-1)))=0:=Zr O;rw [k,v,cJ,fG]at d;rw [k,w,aK O,Xc,x,<-d];simp
theorem Kd(p:List Int){q:List Int}(e:q≠[]):∃(k:Nat) (s:List Int),∀t,cf q (q.length-1)^k*cf p t=(ps s*ps q).c t+cf (Yn p q) t:=by
 have d:0<q.length:=aD.2 e;rcases bD p.length q.length with h|h
 .refine⟨0,[],λt=>?_⟩;rw [Qc (λt=>Zr (aW _)),eD];unfold Yn;rw [aK h];omega
 .obtain⟨s,hs⟩:=Ep d h _ (aH _);refine⟨p.length-q.length+1,s,λt=>?_⟩;rw [hs t];unfold Yn;rw [aG O,Py]
theorem Yz(p:List Int){q:List Int}(e:q≠[]):(Yn p q).length<q.length:=by
 have d:0<q.length:=aD.2 e;unfold Yn;split
 .assumption
 .have:=Ks (p:=Qp p q (p.length-q.length+1)) (n:=q.length-1) λi hi=>Cy d O _ (aH _) i O;omega
theorem Qr (q:List Int){p:List Int}(d:Tr p):Tr (Yn p q):=by
 unfold Yn;split
 .exact d
 .exact Xd _
def Sim(a b:List Int):Prop:=∃m n:Int,m≠0/\n≠0/\∀i,m*cf a i=n*cf b i
def Sim.refl(a:List Int):Sim a a:=⟨1,1,O3,O3,λ_=>rfl⟩
def Sim.symm : Sim a b->Sim b a:=λ⟨m,n,d,e,h⟩=>⟨n,m,e,d,λi=>(h i).symm⟩
theorem Sim.trans : Sim a b->Sim b c->Sim a c:=λ⟨m,n,d,e,h⟩ ⟨u,v,f,g,k⟩=>
 ⟨m*u,n*v,aT d f,aT e g,λi=>by have j:=h i;have l:=k i;grind⟩
theorem Sim.zero(h:Sim a b){i:Nat}(hi:cf a i=0):cf b i=0:=by
 obtain⟨m,n,e,d,h⟩:=h;have:=h i;rw [hi,cJ]at this;rcases dL.1 this.symm with h|h
 .exact absurd h d
 .exact h
theorem Sim.len_le(h:Sim a b)(f:Tr b):b.length<=a.length:=by
 rcases bD a.length b.length with e|e
 .exfalso;have d:b≠[]:=aD.1 O;exact f.mem d (h.zero (Zr O))
 .exact e
def Sim.len(h:Sim a b)(d:Tr a)(e:Tr b):a.length=b.length:=Nat.le_antisymm (h.symm.len_le d) (h.len_le e)
theorem Sim.nil(h:Sim a b)(e:Tr b)(d:a=[]):b=[]:=by have:=h.len_le e;rw [d]at this;exact aE (by simpa using this)
theorem Ii(c:Int):∀(p:List Int) (g:Int),0<=g->(p.map (· * c)).foldl (λg c=>(Int.gcd g c:Int)) (g*c.natAbs)=p.foldl (λg c=>(Int.gcd g c:Int)) g*c.natAbs
 | [],g,_=>rfl
 | x::p,g,hg=>by
  rw [bK,fW,fW,<-Ii c p _ O];congr 1;have:Int.gcd (g*(c.natAbs:Int)) (x*c)=Int.gcd g x*c.natAbs:=by unfold Int.gcd;rw [cN,cN,dD,Nat.gcd_mul_right]
  rw [this];push_cast;rfl
theorem Et(p:List Int)(c:Int):Zx (p.map (· * c))=Zx p*c.natAbs:=by have:=Ii c p 0 (cL _);rw [cK]at this;exact this
theorem Oe(p:List Int)(i:Nat):cf (Zq p) i*Zx p=cf p i:=by rw [Kn];exact fT (Qm p i)
def Zgx:Zq []=[]:=rfl
def Kh{p:List Int}(h:Tr p)(d:p≠[]):Zx p≠0:=λe=>h.mem d ((Hc p).1 e _)
theorem Pf{p:List Int}(h:Tr p)(e:p≠[]):Zx (Zq p)=1:=by
 have j:=Kh h e;have d:=Et (Zq p) (Zx p);rw [show(Zq p).map (· * Zx p)=p from La (by rw [cY,Zi]) λi _=>by rw [Gw O6];exact Oe p i]at d;have k:=Xo p;have f:Zx p*(Zx (Zq p)-1)=0:=by rw [Int.mul_sub,lH,dC];have:((Zx p).natAbs:Int)=Zx p:=O;rw [this]at d;omega
 rcases dL.1 f with g|g<;>omega
theorem Fj{p:List Int}(h:Zx p=1):Zq p=p:=La (Zi p) λi _=>by rw [Kn,h,Int.ediv_one]
theorem My{p:List Int}(h:Tr p):Zq (Zq p)=Zq p:=by
 by_cases d:p=[]
 .subst d;rfl
 .exact Fj (Pf h d)
theorem Ye{p:List Int}(h:Tr p):Sim (Zq p) p:=by
 by_cases d:p=[]
 .subst d;exact Sim.refl _
 .exact⟨Zx p,1,Kh h d,O3,λi=>by rw [fB,dC];exact Oe p i⟩
def Zw(p:List Int):List Int:=Nz (Zq p)
theorem Zcj{x:List Int}(q:Tr x)(r:Tr y)(t:x≠[])(f:Zx x=1)(g:Zx y=1)(h:Sim x y):x=y\/∀i,cf x i=- cf y i:=by
 have d:=h.len q r;obtain⟨m,n,o,p,e⟩:=h;have j:=Et x m;have k:=Et y n;rw [show x.map (· * m)=y.map (· * n)from La (by simp [d]) λi _=>by rw [Gw O6,Gw O6,dC,dC (cf y i)];exact e i,k,f,g]at j
 have l:m=n\/m=-n:=O;rcases l with rfl|rfl
 .exact .inl (La d λi _=>fS o (e i))
 .exact .inr λi=>fS p (by have:=e i;grind)
theorem Ko(g:List Int)(i:Nat):cf (Nz g) i=if g.length≠0/\cf g (g.length-1)<0 then-cf g i else cf g i:=by
 unfold Nz;split
 .rw [Yq];omega
 .rfl
theorem Xm{g:List Int}(h:Tr g):Tr (Nz g):=by
 unfold Nz;split
 .exact Qk
 .exact h
theorem Qv(g:List Int):Sim (Nz g) g:=by
 by_cases h:g.length≠0/\cf g (g.length-1)<0
 .exact⟨-1,1,O3,O3,λi=>by rw [Ko,aK h];omega⟩
 .exact⟨1,1,O3,O3,λi=>by rw [Ko,aG h]⟩
theorem Zdf:∀(f:Nat) {a b:List Int},Tr a->Tr b->Tr (eu f a b)
 | 0,_,_,h,_=>h
 | f+1,a,b,d,e=>by
  unfold eu;split
  .exact d
  .exact Zdf f e (Zs (Qr _ d))
theorem Zf1:∀(f:Nat) {a b:List Int},Tr a->Tr b->Zq a=a->Zq b=b->Zq (eu f a b)=eu f a b
 | 0,_,_,_,_,h,_=>h
 | f+1,a,b,d,i,e,g=>by
  unfold eu;split
  .exact e
  .exact Zf1 f i (Zs (Qr _ d)) g (My (Qr _ d))
theorem Ct{p q:List Int}(d:Tr p)(e:Tr q):Tr (gA p q):=by unfold gA;split<;>exact Zs ‹_›
theorem Cr{p q:List Int}(d:Tr p)(e:Tr q):Tr (gB p q):=by unfold gB;split<;>exact Zs ‹_›
theorem Zin{F:Nat}{p q:List Int}(d:Tr p)(e:Tr q):Qg F p q=Zw (eu F (gA p q) (gB p q)):=by
 unfold Qg Zw;rw [Zf1 F (Ct d e) (Cr d e)]
 .unfold gA;split
  .exact My e
  .exact My d
 .unfold gB;split
  .exact My d
  .exact My e
def chk:Nat->Nat->Nat->Nat->Nat->Bool
 | 0,_,d,_,_=>Nat.beq d 0
 | f+1,e,d,A,B=>Nat.beq d 0 || (bif Nat.blt e d then chk f d e B A else
   Nat.ble (A+(e-d+1)*B) 65537 && (List.range d).all λl=>chk f d l B (bif Nat.ble l 1 then 2 else A+(e-d+1)*B))
theorem Zc6(x y:Int):Ol x y∣x:=by
 unfold Ol;split
 .exact Int.neg_dvd.2 (gP ..)
 .exact gP ..
theorem Bo(x y:Int):Ol x y∣y:=by
 unfold Ol;split
 .exact Int.neg_dvd.2 (fJ ..)
 .exact fJ ..
def s8(l:List Int):Prop:=∀x∈l,(Og x.natAbs).size<=8
abbrev Z0:SL×List Int:=((none,0,0),[])
def pevn(p:List Int)(x y:Int)(n:Nat):Int:=Zc (λi=>cf p i*(x^i*y^(n-1-i))) n
def dn(p:List Int)(y:Int):Int:=y^(p.length-1)
def Mz(q:List Int):Yj [] q=[]:=Zcz (.inl rfl)
def Bf(p:List Int):Yj p []=[]:=Zcz (.inr rfl)
theorem Zi9(N D:Int):N/Ol N D*D=N*(D/Ol N D):=by have e:=fT (Zc6 N D);have f:=fT (Bo N D);generalize N/Ol N D=n at *;generalize D/Ol N D=d at *;generalize Ol N D=g at *;subst e f;grind
theorem Zg8{N D:Int}(h:0<D):0<D/Ol N D:=by
 have f:Ol N D=(Int.gcd N D:Int):=aG O;have g:=fT (Bo N D);rw [f]at g ⊢;generalize D/(Int.gcd N D:Int)=d at *;rcases fR 0 d with e|e
 .exact e
 .exfalso;have:d*(Int.gcd N D:Int)<=0:=fX e O;omega
section
variable {p q:List Int}
theorem Gs(v:Tr p)(m:Tr q)(h:p≠[])(e:q≠[]):∀j,j<=p.length->∀t,cf (Nc (Yj p q) q j) t=(ps (p.take (p.length-j))*ps q).c t
 | 0,_,t=>by rw [kV,eE];exact Pq p q t
 | j+1,D,t=>by
  have w:=Gs v m h e j O;have F:=aD.2 h;have G:=aD.2 e;have u:=Qb v m h e;have z:Nc (Yj p q) q (j+1)=Zdi q (Nc (Yj p q) q j) (p.length-1-j):=by show Zdi q _ _=_;rw [u];congr 1;omega
  have n:=m.mem e;have d:cf (Nc (Yj p q) q j) (p.length-1-j+q.length-1)=cf p (p.length-1-j)*cf q (q.length-1):=by rw [w,show p.length-1-j+q.length-1=(p.length-1-j)+(q.length-1) by omega,Ld _ (λi hi=>by rw [Lu,aG O]) (λi hi=>Zr O),Lu,aK O]
  have l:dq q (Nc (Yj p q) q j) (p.length-1-j)=cf p (p.length-1-j):=by unfold dq;rw [d];exact kC _ n
  have B:(ps (p.take (p.length-j))*ps q).c t=(ps (p.take (p.length-(j+1)))*ps q).c t+(ps (mono (p.length-1-j) (cf p (p.length-1-j)))*ps q).c t:=by
   rw [PS.mul_c,PS.mul_c,PS.mul_c,<-Po];refine Zj λk _=>?_;rw [Xc,Xc,Xc,Xc,Lu,Lu,Ck];by_cases f:k=p.length-1-j
   .rw [aK O,aG O,aK f,<-f];omega
   .rw [aG f];by_cases o:k<p.length-j
    .rw [aK o,aK O];omega
    .rw [aG o,aG O];omega
  rw [z];unfold Zdi;rw [Le,Gc,u,l,w,B,Bm,Xc];by_cases r:t<p.length+q.length-1
  .rw [aK r];by_cases g:p.length-1-j<=t
   .rw [aK g];by_cases x:t<p.length-1-j+q.length
    .rw [aK ⟨g,x⟩];omega
    .rw [aG O,Zr (p:=q) O];omega
   .rw [aG g,aG O];omega
  .rw [aG r,PS.mul_c];refine(Pn λk _=>?_).symm;rw [Xc,Xc,Lu];split
   .rw [Zr (p:=q) O,cJ]
   .rw [cK]
theorem Zfn(j:Tr p)(l:Tr q)(e:q≠[]):pdv (Yj p q) q/\Ke (Yj p q) q=p:=by
 by_cases d:p=[]
 .subst d;rw [Mz];exact⟨.inl rfl,rfl⟩
 have u:=aD.2 d;have v:=aD.2 e;have r:=Qb j l d e;have n:=l.mem e;have o:∀k,k<=p.length-1->cf (Nc (Yj p q) q (p.length-1-k)) (k+q.length-1)=cf p k*cf q (q.length-1):=λk f=>by rw [Gs j l d e _ O,show k+q.length-1=k+(q.length-1) by omega,Ld _ (λi hi=>by rw [Lu,aG O]) (λi hi=>Zr O),Lu,aK O]
 have h:(Yj p q).length-q.length=p.length-1:=O;have m:Yj p q≠[]:=aD.1 O;refine⟨.inr ⟨O,λk f=>?_,?_⟩,?_⟩
 .unfold Ad;rw [h]at f ⊢;rw [o k f];exact Int.mul_emod_left _ _
 .rw [h,show p.length-1+1=p.length by omega];refine(Xy _).2 λi=>?_;rw [Gs j l d e _ (aH _),eP,jT];exact Qc (λt=>Zr (aW _)) _ _
 .rw [Zij m];unfold pquo;rw [h,show p.length-1+1=p.length by omega,Zi1 (g:=cf p) λk f=>?_,Zfq,Ej j];unfold Zj4 dq;rw [h,o k O];exact kC _ n
end
def Dv(g a:List Int):Prop:=∃(k:Int) (s:List Int),k≠0/\∀t,k*cf a t=(ps s*ps g).c t
theorem Zc1(f:PS)(t:Nat):(ps [1]*f).c t=f.c t:=by rw [PS.mul_c,Mv 0 O λi _ d=>by rw [Xc,Zr (p:=[1]) (by simp;omega),cK],Xc,show cf [1] 0=1 from rfl,fB,kV]
theorem Dv.refl(a:List Int):Dv a a:=⟨1,[1],O3,λt=>by rw [Zc1,fB,Xc]⟩
theorem Dv.nil(g:List Int):Dv g []:=⟨1,[],O3,λt=>by rw [Qc (λt=>Zr (aW _)),Zr (aW _)];rfl⟩
theorem Dv.sim{g:List Int} : Dv g a->Sim a b->Dv g b:=λ⟨k,s,d,h⟩ ⟨m,n,j,f,e⟩=>
 ⟨k*n,Ya s m,aT d f,λt=>by rw [PS.mul_c,show(λi=>(ps (Ya s m)).c i*(ps g).c (t-i))=λi=>m*((ps s).c i*(ps g).c (t-i))from funext λi=>by rw [Xc,Xc,Xc,Yq];grind,Xl,<-PS.mul_c,<-h,Int.mul_assoc,<-e];grind⟩
theorem Dv.lin{g:List Int}(r:Dv g a)(w:Dv g b)(s:List Int)(L:Int)(o:L≠0)(h:∀t,L*cf c t=(ps s*ps a).c t+cf b t):Dv g c:=by
 obtain⟨k,u,x,j⟩:=r;obtain⟨m,v,z,l⟩:=w;refine⟨L*(k*m),Dw (Ya (Yj s u) m) (Ya v k),aT o (aT x z),λt=>?_⟩;have D:ps g=ps g:=rfl;have d:k*(ps s*ps a).c t=(ps (Yj s u)*ps g).c t:=by rw [Zlz,PS.mul_assoc',PS.mul_c,PS.mul_c,<-Xl];refine Zj λi _=>?_;rw [<-j,Xc,Xc];grind
 have e:(ps (Dw (Ya (Yj s u) m) (Ya v k))*ps g).c t=m*(ps (Yj s u)*ps g).c t+k*(ps v*ps g).c t:=by rw [PS.mul_c,PS.mul_c,PS.mul_c,<-Xl,<-Xl,<-Po];refine Zj λi _=>?_;rw [Xc,Xc,Xc,Xc,Znm,Yq,Yq];grind
 have f:=h t;have n:=l t;rw [e,<-d,<-n];generalize (ps s*ps a).c t=X at *;generalize cf c t=C at *;generalize cf b t=B at *;have:L*(k*m)*C=k*m*(L*C):=O2;rw [this,f];grind
theorem eu_dv:∀(f:Nat) {a b:List Int},Tr a->Tr b->eok f a b->Dv (eu f a b) a/\Dv (eu f a b) b
 | 0,a,b,j,g,h=>by rw [show b=[]from h];exact⟨Dv.refl _,Dv.nil _⟩
 | f+1,a,b,j,g,h=>by
  by_cases d:b=[]
  .subst d;rw [Ac];exact⟨Dv.refl _,Dv.nil _⟩
  .rcases h with h|h
   .exact absurd h d
   .have e:eu (f+1) a b=eu f b (Zq (Yn a b)):=by
     conv=>lhs;unfold eu
     rw [aG d]
    rw [e];have t1:=Qr b j;obtain⟨i,l⟩:=eu_dv f g (Zs t1) h.2;obtain⟨k,s,hs⟩:=Kd a d;exact⟨i.lin (l.sim (Ye t1)) s _ (Qd (g.mem d) k) hs,i⟩
theorem Dv.of_sim{g d:List Int} : Dv g a->Sim g d->Dv d a:=λ⟨k,s,f,h⟩ ⟨m,n,j,l,e⟩=>
 ⟨m*k,Ya s n,aT j f,λt=>by rw [eU,h,PS.mul_c,PS.mul_c,<-Xl];refine Zj λi _=>?_;rw [Xc,Xc,Xc,Xc,Yq];have:=e (t-i);grind⟩
theorem Dv.zero(f:Tr a)(h:Dv [] a):a=[]:=by
 obtain⟨k,s,g,h⟩:=h;rw [<-Ej f,Xy];intro i;have e:=h i;rw [PS.mul_comm',Qc (λt=>Zr (aW _))]at e;rcases dL.1 e with d|d
 .exact absurd d g
 .exact d
theorem Hk{F:Nat}{p q:List Int}(g:Tr p)(i:Tr q)(h:eok F (gA p q) (gB p q)):Dv (Qg F p q) p/\Dv (Qg F p q) q:=by
 have j:=Ct g i;have k:=Cr g i;obtain⟨d,e⟩:=eu_dv F j k h;have hs:Sim (eu F (gA p q) (gB p q)) (Qg F p q):=(Qv _).symm;have d:=d.of_sim hs;have e:=e.of_sim hs;by_cases f:p.length<q.length
 .rw [show gA p q=Zq q from aK f]at d;rw [show gB p q=Zq p from aK f]at e;exact⟨e.sim (Ye g),d.sim (Ye i)⟩
 .rw [show gA p q=Zq p from aG f]at d;rw [show gB p q=Zq q from aG f]at e;exact⟨d.sim (Ye g),e.sim (Ye i)⟩
def Gx (F:Nat){p q:List Int}(d:Tr p)(e:Tr q):Tr (Qg F p q):=Xm (Zdf F (Ct d e) (Cr d e))
theorem Zd5(p:List Int){c:Int}(h:c≠0):Sim p (Ya p c):=⟨c,1,h,O3,λi=>by rw [Yq];grind⟩
def fin8(d A:Nat):Bool:=Nat.ble d 2 || Nat.ble (64+(9-d)*A) 65536
def chk2:Nat->Nat->Nat->Nat->Nat->Bool
 | 0,d,_,A,_=>fin8 d A
 | f+1,d,e,A,B=>bif Nat.beq e 0 then fin8 d A else bif Nat.blt d e then chk2 f e d B A else
   (List.range e).all λl=>chk2 f e l B (bif Nat.ble l 1 then 2 else A+(d-e+1)*B)
def Ft{g:List Int}(h:Tr g):(Nz g).length=g.length:=(Qv g).len (Xm h) h
theorem Di(g:List Int):Zx (Nz g)=Zx g:=by
 have d:Zx (Nz g)∣Zx g:=Nb λi=>by
  have h:=Qm (Nz g) i;rw [Ko]at h;split at h
  .exact jX.1 h
  .exact h
 have e:Zx g∣Zx (Nz g):=Nb λi=>by
  rw [Ko];split
  .exact jX.2 (Qm g i)
  .exact Qm g i
 exact Int.dvd_antisymm (Xo _) (Xo _) d e
theorem Bi{F:Nat}{p q:List Int}(f:Tr p)(g:Tr q)(d:Qg F p q≠[]):Zx (Qg F p q)=1:=by rw [Zin f g]at d ⊢;unfold Zw at d ⊢;rw [Di];refine Pf (Zdf F (Ct f g) (Cr f g)) λe=>d ?_;rw [e];rfl
end Go.Sky
namespace Go.Sky
def Zag(xs:List Int):Prop:=xs.length=0\/(xs.length+2)*(xs.length+2)*(Kp xs+16)<=65536
instance (xs:List Int):Decidable (Zag xs):=by unfold Zag;infer_instance
def sqf(F:Nat)(xs:List Int):List Int:=Ke (Zw xs) (Qg F (Zw xs) (Zv (Zw xs)))
def sqOK(F:Nat)(xs:List Int):Prop:=(∀i,i<xs.length->bl (cf (Zw xs) (i+1)*((i:Int)+1)).natAbs<=65536)/\¬Zjj (Zw xs) (Zv (Zw xs))/\eok F (gA (Zw xs) (Zv (Zw xs))) (gB (Zw xs) (Zv (Zw xs)))/\
 Zet (Zw xs) (Qg F (Zw xs) (Zv (Zw xs)))=0/\pdv (Zw xs) (Qg F (Zw xs) (Zv (Zw xs)))
def Pb(x y:List Int):List Int:=if cf y (y.length-1)<0/\(x.length-y.length+1)%2=1 then Zq (Yn x y)else Ya (Zq (Yn x y)) (-1)
def cok:Nat->List Int->List Int->Prop
 | 0,_,y=>y=[]
 | f+1,x,y=>y=[]\/(Zet x y=0/\y.length<=x.length/\cok f y (Pb x y))
def Ql:Nat->List Int->List Int->List (List Int)
 | 0,x,_=>[x]
 | f+1,x,y=>if y=[]then [x]else x::Ql f y (Pb x y)
def Kt(f:Nat)(x:List Int):Ql f x []=[x]:=by cases f<;>rfl
def Zdo{f:Nat}{a b:List Int}(h:cok f a b)(c:b≠[]):∃g,f=g+1/\Zet a b=0/\b.length<=a.length/\cok g b (Pb a b)/\Ql f a b=a::Ql g b (Pb a b):=by
 cases f with
 | zero=>exact absurd h c
 | succ g=>
  rcases h with h|h
  .exact absurd h c
  .exact⟨g,rfl,h.1,h.2.1,h.2.2,by show(if b=[]then [a]else _)=_;rw [aG c]⟩
def Gu(F:Nat)(xs:List Int):List (List Int):=Ql F (sqf F xs) (Zq (Zv (sqf F xs)))
def Km(F:Nat)(xs:List Int):Prop:=sqOK F xs/\(∀i,i<xs.length->bl (cf (sqf F xs) (i+1)*((i:Int)+1)).natAbs<=65536)/\cok F (sqf F xs) (Zq (Zv (sqf F xs)))
def Yx{p:List Int}(h:Tr p):(Zw p).length=p.length:=by unfold Zw;rw [Ft (Zs h),Zi]
def Qn(s:Int×Int)(x:Int):Int×Int:=if x=0 then s else(if x=-s.2 then s.1+1 else s.1,x)
def chg(l:List Int):Int:=(l.foldl Qn (0,0)).1
def chg1_n(s:Int×Int)(x:Int):(Qn s x).1=s.1\/(Qn s x).1=s.1+1:=by
 unfold Qn;split
 .exact .inl rfl
 .dsimp only;split
  .exact .inr rfl
  .exact .inl rfl
def sgs(a:List (List Int))(x y:Int):List Int:=a.map λp=>(pev p x y).sign
def sgr(a:List (List Int)):List Int:=a.map λp=>(cf p (p.length-1)).sign
def sgl(a:List (List Int)):List Int:=a.map λp=>if p.length%2=0 then-(cf p (p.length-1)).sign else(cf p (p.length-1)).sign
def smost(xs:List Int):Nat:=(xs.take (xs.length-1)).foldl (λm c=>max m c.natAbs) 0
def sbound(xs:List Int):Int:=((smost xs/(cf xs (xs.length-1)).natAbs:Nat):Int)+2
def chk0(xs:List Int):Int:=if xs.length=0 then 3 else if Zag xs then 0 else 7
def ef(z:Int×Int):Bool:=decide (512<bl z.1.natAbs) || decide (512<bl z.2.natAbs)
def chk2r(xs:List Int)(x y a b:Int):Int:=if xs.length=0 then 3 else if 0<x*b-a*y then 3 else if Zag xs/\ef (x,y)=false/\ef (a,b)=false then 0 else 7
def Gq (P:Nat->Prop) : ∀n,P n->∃m,P m/\∀k,k<m->¬P k:=by
 intro n
 induction n using Nat.strongRecOn with
 | _ n d=>
  intro h;by_cases c:∃k,k<n/\P k
  .obtain⟨k,b,a⟩:=c;exact d k b a
  .exact⟨n,h,λk b a=>c ⟨k,b,a⟩⟩
def Zha{n:Nat}(h:2<=n):∃p,2<=p/\p∣n/\∀d,2<=d->d∣n->p<=d:=by
 obtain⟨p,⟨c,e⟩,f⟩:=Gq (λd=>2<=d/\d∣n) n ⟨h,Nat.dvd_refl n⟩;exact⟨p,c,e,λd g b=>by
  rcases bD d p with a|a
  .exact absurd ⟨g,b⟩ (f d a)
  .exact a⟩
def Zc8{n p:Nat}(l:2<=p)(f:p∣n)(g:∀d,2<=d->d∣n->p<=d)(q:0<n){x y:Int}(h:(p:Int)∣x*y):(p:Int)∣x\/(p:Int)∣y:=by
 by_cases e:(p:Int)∣x
 .exact .inl e
 .right;have j:Nat.gcd p x.natAbs=1:=by
   have c:=jA p x.natAbs;have k:0<Nat.gcd p x.natAbs:=Nat.gcd_pos_of_pos_left _ O;rcases bD (Nat.gcd p x.natAbs) 2 with a|a
   .omega
   .have m:=g _ a (Nat.dvd_trans c f);have o:=iU O c;exfalso;refine e (dM.1 ?_);rw [dD];have i:Nat.gcd p x.natAbs=p:=O;rw [<-i];exact kY _ _
  have b:=dM.2 h;rw [dD,cN]at b;refine dM.1 ?_;rw [dD];exact(show Nat.Coprime p x.natAbs from j).dvd_of_dvd_mul_left b
def gauss{g a:List Int}(Z:Zx g=1):∀(n:Nat) (k:Int) (s:List Int),k.natAbs=n->k≠0->(∀t,k*cf a t=(ps s*ps g).c t)->∃q:List Int,∀t,cf a t=(ps q*ps g).c t:=by
 intro n
 induction n using Nat.strongRecOn with
 | _ n ih=>
  intro k s l R h;rcases bD n 2 with N|N
  .have F:k*k=1:=by have:k=1\/k=-1:=O;rcases this with e|e<;>subst e<;>rfl
   refine⟨Ya s k,λt=>?_⟩;have e:(ps (Ya s k)*ps g).c t=k*(ps s*ps g).c t:=by rw [PS.mul_c,PS.mul_c,<-Xl];exact Zj λi _=>by rw [Xc,Xc,Xc,Yq];grind
   rw [e,<-h,<-eU,F,fB]
  .obtain⟨p,S,V,pm⟩:=Zha N;have H:∀{x y:Int},(p:Int)∣x*y->(p:Int)∣x\/(p:Int)∣y:=Zc8 S V pm O;have o:(p:Int)∣k:=dM.1 (by rw [dD,l];exact V);have v:∃j,¬(p:Int)∣cf g j:=aP λr=>by have:(p:Int)∣Zx g:=Nb λi=>aP λhy=>r ⟨i,hy⟩;rw [Z]at this;have:=kJ O3 this;omega
   obtain⟨j0,B⟩:=v;obtain⟨j,hj,D⟩:=Gq (λj=>¬(p:Int)∣cf g j) j0 B;have hs:∀i,(p:Int)∣cf s i:=λi0=>aP λw=>by
    obtain⟨i,hi,z⟩:=Gq (λi=>¬(p:Int)∣cf s i) i0 w;have P:=h (i+j);rw [PS.mul_c]at P;have M:∀m,m<=i+j+1->(p:Int)∣Zc (λk=>if k=i then 0 else(ps s).c k*(ps g).c (i+j-k)) m:=λm=>by
     induction m with
     | zero=>intro _;exact fQ _
     | succ m I=>
      intro hm;rw [Zf];refine Int.dvd_add (I O) ?_;split
      .exact fQ _
      .rename_i a0;rw [Xc,Xc];rcases bD m i with u|u
       .exact eV (aP λr=>z m u r) (fK _ _)
       .exact eV (aP λr=>D (i+j-m) O r) (Int.dvd_mul_left _ _)
    have W:Zc (λk=>(ps s).c k*(ps g).c (i+j-k)) (i+j+1)=Zc (λk=>if k=i then 0 else(ps s).c k*(ps g).c (i+j-k)) (i+j+1)+cf s i*cf g j:=by
     have Y:Zc (λk=>(ps s).c k*(ps g).c (i+j-k)) (i+j+1)=Zc (λk=>(if k=i then 0 else(ps s).c k*(ps g).c (i+j-k))+(if k=i then(ps s).c k*(ps g).c (i+j-k)else 0)) (i+j+1):=
      Zj λk _=>by split<;>omega
     rw [Y,Po,Mv i (f:=λk=>if k=i then(ps s).c k*(ps g).c (i+j-k)else 0) O (λq _ hq=>aG hq),aK rfl,Xc,Xc,show i+j-i=j by omega]
    rw [W]at P;have u:(p:Int)∣cf s i*cf g j:=by have d:cf s i*cf g j=k*cf a (i+j)-Zc (λk=>if k=i then 0 else(ps s).c k*(ps g).c (i+j-k)) (i+j+1):=O;rw [d];exact Int.dvd_sub (eV o (fK _ _)) (M _ (aH _))
    rcases H u with d|d
    .exact hi d
    .exact hj d
   obtain⟨c,b⟩:=o;have G:(p:Int)≠0:=O;refine ih c.natAbs ?_ c (s.map (· / (p:Int))) rfl ?_ ?_
   .rw [<-l,b,cN,dD];have:0<c.natAbs:=by
     rcases cE c.natAbs with Q|Q
     .rw [show c=0 by omega]at b;simp at b;exact absurd b R
     .exact Q
    have:=bI c.natAbs S;omega
   .intro e;rw [e]at b;simp at b;exact R b
   .intro t;refine fS G ?_;rw [<-eU,<-b,h,PS.mul_c,PS.mul_c,<-Xl];refine Zj λi _=>?_;rw [Xc,Xc,Xc,Gw O6,<-eU,jW (hs i)]
def Dx:List Int->Int->Int
 | [],_=>0
 | c::r,t=>c+t*Dx r t
def Dt:List Int->Int->List Int
 | [],_=>[]
 | [_],_=>[]
 | _::c::r,t=>Dx (c::r) t::Dt (c::r) t
def Bp:∀(u:List Int) (t:Int),(Dt u t).length=u.length-1
 | [],_=>rfl
 | [_],_=>rfl
 | _::c::r,t=>by unfold Dt;rw [bF,Bp (c::r) t];simp
def Zfz:∀(u:List Int) (t x:Int),Dx u x=Dx u t+(x-t)*Dx (Dt u t) x
 | [],t,x=>by simp [Dx,Dt]
 | [c],t,x=>by simp [Dx,Dt]
 | a::c::r,t,x=>by have b:=Zfz (c::r) t x;show a+x*Dx (c::r) x=a+t*Dx (c::r) t+(x-t)*(Dx (c::r) t+x*Dx (Dt (c::r) t) x);rw [b];generalize Dx (c::r) t=A;generalize Dx (Dt (c::r) t) x=B;grind
def Nk(a:Int)(u:List Int)(i:Nat):cf (a::u) i=if i=0 then a else cf u (i-1):=by
 cases i with
 | zero=>rfl
 | succ i=>simp [cf]
def He(i:Nat):cf [] i=0:=Zr (aW _)
def Zkg:∀(u:List Int) (t:Int) (i:Nat),cf u (i+1)=cf (Dt u t) i-t*cf (Dt u t) (i+1)
 | [],t,i=>by unfold Dt;simp [He]
 | [c],t,i=>by unfold Dt;rw [Nk,aG O];simp [He]
 | a::c::r,t,i=>by
  unfold Dt;rw [Nk,aG O,fD];cases i with
  | zero=>
   rw [Nk,aK rfl,Nk,aK rfl,Nk,aG O];show c=Dx (c::r) t-t*cf (Dt (c::r) t) 0
   match r with
   | []=>simp [Dx,Dt,cf]
   | d::r'=>unfold Dt;rw [Nk,aK rfl];show c=(c+t*Dx (d::r') t)-_;omega
  | succ i=>
   rw [Nk _ (Dt _ _) (i+1),aG O,Nk _ (Dt _ _),aG O,fD,fD];exact Zkg (c::r) t i
def Znl:∀(u:List Int) (t:Int),cf u 0=Dx u t-t*cf (Dt u t) 0
 | [],t=>by simp [Dx,Dt,cf]
 | [c],t=>by simp [Dx,Dt,cf]
 | a::c::r,t=>by unfold Dt;rw [Nk,aK rfl,Nk,aK rfl];show a=(a+t*Dx (c::r) t)-t*Dx (c::r) t;omega
def Zcq:∀(n:Nat) (u:List Int) (R:List Int),u.length=n->(∃i,cf u i≠0)->R.Nodup->(∀t∈R,Dx u t=0)->R.length<n
 | 0,u,R,c,a,_,_=>by obtain⟨i,hi⟩:=a;rw [aE c,He]at hi;exact absurd rfl hi
 | n+1,u,[],c,a,_,_=>O6
 | n+1,u,t::R,c,a,hd,hR=>by
  have e:=hR t (bM ..);have k:=Bp u t;have h:∃i,cf (Dt u t) i≠0:=aP λb=>by
   have d:∀i,cf (Dt u t) i=0:=λi=>aP λj=>b ⟨i,j⟩;obtain⟨i,hi⟩:=a;cases i with
   | zero=>rw [Znl u t,e,d]at hi;simp at hi
   | succ i=>rw [Zkg u t,d,d]at hi;simp at hi
  have:=Zcq n (Dt u t) R O h (eA.1 hd).2 λx b=>by
   have f:=hR x (bC _ b);rw [Zfz u t x,e,iB]at f;rcases dL.1 f with g|g
   .exfalso;have:x=t:=O;subst this;exact(eA.1 hd).1 b
   .exact g
  simp;omega
def kk:Nat->Nat
 | 0=>0
 | d+1=>30*kk d+1
def pts:List Int:=[0,1,2,3,4,5,6,7,8,9,10,11,12,13,14]
end Go.Sky

