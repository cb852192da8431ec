/- Rules, arithmetic and contracts: part 2. No conditions but those that each theorem names. -/
import Derived.Test.YteikicbnfbgpnaaGreatDb00
import Derived.Laws.Externs
import Derived.Lib.SliceRun
import Derived.Great.BuildSlice
import Derived.Laws.Small
import Derived.Laws.StructEq
set_option linter.all false
namespace Go.Sky
open Go.RowKit (Below)
variable {P:Program} {N:Nat} {sc:Nat→Prop} {env env':Qw} {H H':Hp} {Q Q':Exit→Act→World→Prop} {M:Nat→Prop}
section
variable {ops:Array Oper} {rest:List Oper} {d:Nat} {ty:TypeId} {pos:String} {af:Array Edge} {v:Value} {x:Operand}
theorem dt{op:Op}(hv:Nt P N sc ⟨some d,op,ty,pos,af,none⟩ env H v)(h:L P N sc ops rest Q ((d,v) :: env) H)(hN:Nat.blt d N=true:=by rfl) :
  L P N sc ops (⟨some d,op,ty,pos,af,none⟩ :: rest) Q env H:=l_det rfl rfl hN hv h
theorem tt {o:Oper} {G:Type} {φ:G→Prop} {genv:G→Qw} {gH:G→Hp} (ht:T P N sc (fun _=>True) o env H φ genv gH) 
  (h:∀g,φ g→L P N sc ops rest Q (genv g) (gH g)) (hg:o.guard=none:=by rfl):L P N sc ops (o :: rest) Q env H:=l_step hg ht h
theorem Ej {op:Op} {j e:Nat} {b:Bool} (hv:Nt P N sc ⟨some d,op,ty,pos,af,some (j,b)⟩ env H v) (hj:(ops[j]?).bind (·.dst)=some e) (he:lk env e=some (.bool b))  
  (h:L P N sc ops rest Q ((d,v) :: env) H) (heN:Nat.blt e N=true:=by rfl) (hN:Nat.blt d N=true:=by rfl):L P N sc ops (⟨some d,op,ty,pos,af,some (j,b)⟩ :: rest) Q env H:=l_gdet rfl hj he heN rfl hN hv h
theorem gsk {op:Op} {j e:Nat} {b b':Bool} (hj:(ops[j]?).bind (·.dst)=some e) (he:lk env e=some (.bool b')) (hbb:(b' == b)=false) (heN:Nat.blt e N=true) (hN:Nat.blt d N=true)
  (h:L P N sc ops rest Q ((d,undef) :: env) H):L P N sc ops (⟨some d,op,ty,pos,af,some (j,b)⟩ :: rest) Q env H:=Yhd rfl hj he heN hbb rfl hN h
theorem gtt {o:Oper} {G:Type} {φ:G→Prop} {genv:G→Qw} {gH:G→Hp} {j e:Nat} {b:Bool} (ht:T P N sc (fun _=>True) o env H φ genv gH) (hg:o.guard=some (j,b)) (hj:(ops[j]?).bind (·.dst)=some e) (he:lk env e=some (.bool b)) (heN:Nat.blt e N=true)
  (h:∀g,φ g→L P N sc ops rest Q (genv g) (gH g)):L P N sc ops (o :: rest) Q env H:=Yhc hg hj he heN ht h
end
section
variable {ops:Array Oper} {F:Qw→Hp→Prop} {rest:List (Nat×Nat)} {i:Nat} {o:Oper}
def Stb(P:Program)(N:Nat)(sc:Nat→Prop)(M:Nat→Prop)(o:Oper)(env:Qw)(H:Hp)(v:Value):Prop:=
 ∀a w,Sat N sc env H a w→∀w',Chg M w w'→(execOp a.eval o).run P w'= .ok (.value v) w'
theorem Qy{v:Value}(hv:Nt P N sc o env H v):Stb P N sc (fun _=>False) o env H v:=fun a w hs w' hc=>hv a w' (hs.chg0 hc)
theorem st1{v:Value}(k:Nat){b:Nat}{t:TypeId}{cs:Array Value}(hk:lk H k=some (box b t cs))(hv:Nt P N sc o env (drp k H) v):Stb P N sc (fun x=>x=b) o env H v:=fun a w hs w' hc=>by
 refine hv a w' ?_
 have hs':Sat N sc env (drp k H) a w:=⟨hs.size,hs.defers,hs.env,fun i it hi=>hs.hold i it (Fi _ _ _ _ hi).2,
  fun i j it jt hne hi hj=>hs.sep i j it jt hne (Fi _ _ _ _ hi).2 (Fi _ _ _ _ hj).2,fun i it h0 hi=>hs.scope i it h0 (Fi _ _ _ _ hi).2⟩
 refine⟨hs'.size,hs'.defers,hs'.env,fun i it hi=>?_,hs'.sep,hs'.scope⟩
 obtain⟨hne,hi'⟩:=Fi _ _ _ _ hi
 refine it.stable w w' (hs'.hold i it hi) ⟨hc.os,hc.tape,hc.output,hc.size,fun q hq hn=>hc.block q hq (fun e=>hn (fun hf=>?_))⟩
 subst e
 exact hs.sep k i _ it (Ne.symm hne) hk hi' rfl q rfl hf
theorem r0{d:Nat}{v:Value}(hs:Stb P N sc M o env H v)(ho:ops[i]? = some o)(hg:o.guard=none)(hd:o.dst=some d)(hN:Nat.blt d N=true)(h:LD P N sc M ops F rest ((d,v) :: env) H) :
  LD P N sc M ops F ((i,0) :: rest) env H:=⟨o,d,v,ho,hd,hN,fun a w hsat=>⟨by simp [Region.wanted,hg],hs a w hsat⟩,h⟩
theorem r0g {d j e:Nat} {b:Bool} {v:Value} (hs:Stb P N sc M o env H v) (ho:ops[i]? = some o) (hg:o.guard=some (j,b)) (hj:(ops[j]?).bind (·.dst)=some e) (he:lk env e=some (.bool b)) (hd:o.dst=some d) 
  (h:LD P N sc M ops F rest ((d,v) :: env) H) (heN:Nat.blt e N=true:=by rfl) (hN:Nat.blt d N=true:=by rfl) :
  LD P N sc M ops F ((i,0) :: rest) env H:=⟨o,d,v,ho,hd,hN,fun a w hsat=>⟨by simp [Region.wanted,hg,hsat.yielded hj he heN],hs a w hsat⟩,h⟩
theorem r1{G:Type}{φ:G→Prop}{genv:G→Qw}{gH:G→Hp}(ht:T P N sc M o env H φ genv gH)(ho:ops[i]? = some o)(hg:o.guard=none)(h:∀g,φ g→LD P N sc M ops F rest (genv g) (gH g)) :
  LD P N sc M ops F ((i,1) :: rest) env H:=⟨o,G,φ,genv,gH,ho,fun a w _=>by simp [Region.wanted,hg],ht,h⟩
theorem r1g {G:Type} {φ:G→Prop} {genv:G→Qw} {gH:G→Hp} {j e:Nat} {b:Bool} (ht:T P N sc M o env H φ genv gH) (ho:ops[i]? = some o) (hg:o.guard=some (j,b)) (hj:(ops[j]?).bind (·.dst)=some e) (he:lk env e=some (.bool b)) (heN:Nat.blt e N=true)
  (h:∀g,φ g→LD P N sc M ops F rest (genv g) (gH g)) :
  LD P N sc M ops F ((i,1) :: rest) env H:=⟨o,G,φ,genv,gH,ho,fun a w hsat=>by simp [Region.wanted,hg,hsat.yielded hj he heN],ht,h⟩
theorem r3{G:Type}{φ:G→Prop}{genv:G→Qw}{gH:G→Hp}(ht:T P N sc (fun _=>True) o env H φ genv gH)(ho:ops[i]? = some o)(hg:o.guard=none)(h:∀g,φ g→LD P N sc M ops F rest (genv g) (gH g)) :
  LD P N sc M ops F ((i,3) :: rest) env H:=⟨o,G,φ,genv,gH,ho,fun a w _=>by simp [Region.wanted,hg],ht,h⟩
theorem r2 {d j e:Nat} {b b':Bool} (ho:ops[i]? = some o) (hg:o.guard=some (j,b)) (hj:(ops[j]?).bind (·.dst)=some e) (he:lk env e=some (.bool b')) (hbb:(b' == b)=false) (heN:Nat.blt e N=true) (hd:o.dst=some d) (hN:Nat.blt d N=true)
  (h:LD P N sc M ops F rest ((d,undef) :: env) H) :
  LD P N sc M ops F ((i,2) :: rest) env H:=⟨o,d,ho,hd,hN,fun a w hsat=>by simp [Region.wanted,hg,hsat.yielded hj he heN];simpa using hbb,h⟩
theorem r_fin(h:F env H):LD P N sc M ops F [] env H:=h
theorem Zcc{o:Oper}{d:Nat}{v:Value}(hv:Nt P N sc o env H v)(hd:o.dst=some d)(hN:Nat.blt d N=true):T P N sc M o env H (G:=Unit) (fun _=>True) (fun _=>(d,v) :: env) (fun _=>H):=fun a w hs K Q hK=>by
 unfold Oper.wp
 rw [hv a w hs]
 show K (a.put o.dst v) w
 rw [hd]
 exact hK () _ _ trivial (hs.put d v hN) (Chg.refl _ _)
end
def Yi7{G:Type}(N:Nat)(sc:Nat→Prop)(cs:Qw)(ch:Hp)(ov:G→Qw)(oh:G→Hp)(inv:G→Prop)(μ:G→Nat)(g:G):Act→World→Prop:=
 fun a w=>∃g',inv g'∧μ g'<μ g∧Sat N sc (ov g' ++ cs) (oh g' ++ ch) a w
theorem e_lp {c:Code} {G:Type} (cs:Qw) (ch:Hp) (ov:G→Qw) (oh:G→Hp) (inv:G→Prop) (μ:G→Nat) (g₀:G) (h₀:inv g₀) (hs:Sub (ov g₀ ++ cs) env) (hh:HSub (oh g₀ ++ ch) H)
  (round:∀g,inv g→E P N sc c (Exit.then (Yi7 N sc cs ch ov oh inv μ g) Q) (ov g ++ cs) (oh g ++ ch)) :
  E P N sc (.loop c) Q env H:=e_loop (fun g=>ov g ++ cs) (fun g=>oh g ++ ch) inv μ g₀ h₀ hs hh round
theorem x_rnd{G:Type}{cs:Qw}{ch:Hp}{ov:G→Qw}{oh:G→Hp}{inv:G→Prop}{μ:G→Nat}{g:G}(g':G)(h1:inv g')(h2:μ g'<μ g)(hs:Sub (ov g' ++ cs) env)(hh:HSub (oh g' ++ ch) H) :
  X N sc .normal (Exit.then (Yi7 N sc cs ch ov oh inv μ g) Q) env H:=fun a w hsat=>⟨g',h1,h2,hsat.weaken hs hh⟩
def JnK{G:Type}(N:Nat)(sc:Nat→Prop)(cs:Qw)(ch:Hp)(ov:G→Qw)(oh:G→Hp)(inv:G→Prop):Act→World→Prop:=
 fun a w=>∃g,inv g∧Sat N sc (ov g ++ cs) (oh g ++ ch) a w
theorem e_jn {x y:Code} {G:Type} (cs:Qw) (ch:Hp) (ov:G→Qw) (oh:G→Hp) (inv:G→Prop) (hcs:Sub cs env) (hch:HSub ch H)
  (hx:E P N sc x (Exit.then (JnK N sc cs ch ov oh inv) Q) env H)
  (hy:∀g,inv g→E P N sc y Q (ov g ++ cs) (oh g ++ ch)):E P N sc (.seq x y) Q env H:=fun a w hs=>by
 refine wp_seq (Code.wp_mono (fun e a w hq=>?_) (hx a w hs))
 cases e with
 | normal=>obtain⟨g,hg,hsat⟩:=hq;exact hy g hg a w hsat
 | _=>exact hq
theorem x_jn{G:Type}{cs:Qw}{ch:Hp}{ov:G→Qw}{oh:G→Hp}{inv:G→Prop}(g:G)(h1:inv g)(hs:Sub (ov g ++ cs) env)(hh:HSub (oh g ++ ch) H) :
  X N sc .normal (Exit.then (JnK N sc cs ch ov oh inv) Q) env H:=fun a w hsat=>⟨g,h1,hsat.weaken hs hh⟩
theorem Zf{c:Code}(hi:∀a w,Sat N sc env H a w→Sat N sc env' H' a w)(h:E P N sc c Q env' H'):E P N sc c Q env H:=fun a w hs=>h a w (hi a w hs)
theorem Yg{e:Exit}(hi:∀a w,Sat N sc env H a w→Sat N sc env' H' a w)(h:X N sc e Q env' H'):X N sc e Q env H:=fun a w hs=>h a w (hi a w hs)
theorem Yp{ops:Array Oper}{rest:List Oper}(hi:∀a w,Sat N sc env H a w→Sat N sc env' H' a w)(h:L P N sc ops rest Q env' H'):L P N sc ops rest Q env H:=fun a w hs=>h a w (hi a w hs)
theorem Nw{c:Code}{p:Prop}(hp:∀a w,Sat N sc env H a w→p)(h:p→E P N sc c Q env H):E P N sc c Q env H:=fun a w hs=>h (hp a w hs) a w hs
theorem Zy2{e:Exit}{p:Prop}(hp:∀a w,Sat N sc env H a w→p)(h:p→X N sc e Q env H):X N sc e Q env H:=fun a w hs=>h (hp a w hs) a w hs
theorem Zlr(i:Nat){p q:Pc}(hi:lk H i=some p)(hown:q.own=p.own)(himp:∀w,p.holds w→q.holds w)(hfp:∀b,q.fp b→p.fp b)(hi0:Nat.beq i 0=false):∀a w,Sat N sc env H a w→Sat N sc env ((i,q) :: H) a w:=fun a w hs=>by
  have h0:i≠0:=fun e=>by subst e;simp at hi0
  refine⟨hs.size,hs.defers,hs.env,fun j jt hj=>?_,fun j j' jt jt' hne hj hj' ho b hb hb'=>?_,fun j jt hj0 hj b hb=>?_⟩
  ·by_cases hk:i=j
   ·subst hk;rw [Yb]at hj;cases hj;exact himp w (hs.hold i p hi)
   ·rw [Zl _ _ hk]at hj;exact hs.hold j jt hj
  ·by_cases hk:i=j
   ·subst hk;rw [Yb]at hj;cases hj
    rw [Zl _ _ hne]at hj'
    exact hs.sep i j' p jt' hne hi hj' (by rw [←hown];exact ho) b (hfp b hb) hb'
   ·rw [Zl _ _ hk]at hj
    by_cases hk':i=j'
    ·subst hk';rw [Yb]at hj';cases hj'
     exact hs.sep j i jt p hne hj hi ho b hb (hfp b hb')
    ·rw [Zl _ _ hk']at hj'
     exact hs.sep j j' jt jt' hne hj hj' ho b hb hb'
  ·by_cases hk:i=j
   ·subst hk;rw [Yb]at hj;cases hj;exact hs.scope i p h0 hi b (hfp b hb)
   ·rw [Zl _ _ hk]at hj;exact hs.scope j jt hj0 hj b hb
theorem Qd{α:Type}{t:TypeId}{k:Nat}{e:TypeId}{enc:α→Value}{v:Value}{xs:List α}(i:Nat)(hi:lk H i=some (Oa k e enc v xs))(hi0:Nat.beq i 0=false)(he:Enc P t k enc):∀a w,Sat N sc env H a w→Sat N sc env ((i,Yh k enc v xs) :: H) a w:=fun a w hs=>by
  have h0:i≠0:=fun e=>by subst e;simp at hi0
  refine⟨hs.size,hs.defers,hs.env,fun j jt hj=>?_,fun j j' jt jt' hne hj hj' ho b hb hb'=>?_,fun j jt hj0 hj b hb=>?_⟩
  ·by_cases hk:i=j
   ·subst hk;rw [Yb]at hj;cases hj
    have h1:=hs.hold i _ hi
    exact⟨Dt he.cells h1,fun b hb=>(h1.lt b hb.2).2⟩
   ·rw [Zl _ _ hk]at hj;exact hs.hold j jt hj
  ·by_cases hk:i=j
   ·subst hk;rw [Yb]at hj;cases hj;cases ho
   ·rw [Zl _ _ hk]at hj
    by_cases hk':i=j'
    ·subst hk';rw [Yb]at hj';cases hj'
     exact hs.sep j i jt _ hne hj hi ho b hb hb'.2
    ·rw [Zl _ _ hk']at hj'
     exact hs.sep j j' jt jt' hne hj hj' ho b hb hb'
  ·by_cases hk:i=j
   ·subst hk;rw [Yb]at hj;cases hj;exact hs.scope i _ h0 hi b hb.2
   ·rw [Zl _ _ hk]at hj;exact hs.scope j jt hj0 hj b hb
abbrev U:Nat:=18446744073709551616
theorem Zgk(n:Nat):IntKind.u64.wrap (n:Int)=((n%U:Nat):Int):=by rw [Zlg];simp [U]
theorem Zbi{n:Nat}(h:n<U):IntKind.u64.wrap (n:Int)=(n:Int):=by rw [Zgk,Nat.mod_eq_of_lt h]
section
variable {o:Oper} {t t':TypeId} {x y:Operand} {m n:Nat}
theorem Dm(ho:o.op= .binOp .add t x y t')(hx:ev env x=some (.int .u64 (m:Int)))(hy:ev env y=some (.int .u64 (n:Int))):Nt P N sc o env H (.int .u64 (((m+n)%U:Nat):Int)):=Hy ho hx hy fun w=>by
 rw [←Zgk];simp [binOp,Op.intArith]
theorem Ek(ho:o.op= .binOp .mul t x y t')(hx:ev env x=some (.int .u64 (m:Int)))(hy:ev env y=some (.int .u64 (n:Int))):Nt P N sc o env H (.int .u64 (((m*n)%U:Nat):Int)):=Hy ho hx hy fun w=>by
 rw [←Zgk];simp [binOp,Op.intArith]
theorem Zcb(ho:o.op= .binOp .sub t x y t')(hx:ev env x=some (.int .u64 (m:Int)))(hy:ev env y=some (.int .u64 (n:Int)))(hn:n<U:=by decide):Nt P N sc o env H (.int .u64 (((m+(U-n))%U:Nat):Int)):=Hy ho hx hy fun w=>by
 have:((m:Int)-(n:Int))%18446744073709551616=(((m+(U-n))%U:Nat):Int):=by simp only [U]at *;omega
 rw [←this,←Zlg];simp [binOp,Op.intArith]
theorem Zzc(ho:o.op= .binOp .quo t x y t')(hx:ev env x=some (.int .u64 (m:Int)))(hy:ev env y=some (.int .u64 (n:Int)))(hm:m<U:=by omega)(hn:0<n:=by omega):Nt P N sc o env H (.int .u64 ((m/n:Nat):Int)):=Hy ho hx hy fun w=>by
 have h1:m/n<U:=Nat.lt_of_le_of_lt (Nat.div_le_self m n) hm
 have h2:(m:Int).tdiv (n:Int)=((m/n:Nat):Int):=by rw [Int.tdiv_eq_ediv_of_nonneg O];simp
 have h3:=Zbi h1
 have h4:¬((n:Int)=0):=O
 simp only [binOp,ne_eq,not_true_eq_false,if_false,Op.intDiv,h4,h2,h3,Sem.run_pure]
theorem u_rem(ho:o.op= .binOp .rem t x y t')(hx:ev env x=some (.int .u64 (m:Int)))(hy:ev env y=some (.int .u64 (n:Int)))(hn:0<n):Nt P N sc o env H (.int .u64 ((m%n:Nat):Int)):=Hy ho hx hy fun w=>by
 have h2:(m:Int).tmod (n:Int)=((m%n:Nat):Int):=by rw [Int.tmod_eq_emod_of_nonneg O];simp
 simp [binOp,Op.intDiv,show ¬n=0 by omega,h2]
theorem Zbr(m:Nat):BitVec.ofInt 64 (m:Int)=BitVec.ofNat 64 m:=by
 apply BitVec.eq_of_toNat_eq;simp
theorem Yfl(ho:o.op= .binOp .or t x y t')(hx:ev env x=some (.int .u64 (m:Int)))(hy:ev env y=some (.int .u64 (n:Int)))(hm:m<U)(hn:n<U):Nt P N sc o env H (.int .u64 ((m ||| n:Nat):Int)):=Hy ho hx hy fun w=>by
 have h1:m ||| n<U:=Nat.or_lt_two_pow (n:=64) hm hn
 have h2:(BitVec.ofInt 64 (m:Int) ||| BitVec.ofInt 64 (n:Int)).toNat=m ||| n:=by
  rw [Zbr,Zbr,BitVec.toNat_or,BitVec.toNat_ofNat,BitVec.toNat_ofNat,Nat.mod_eq_of_lt hm,Nat.mod_eq_of_lt hn]
 simp only [binOp,ne_eq,not_true_eq_false,if_false,Op.intBits,Sem.run_pure]
 rw [show(BitVec.ofInt IntKind.u64.bits (m:Int) ||| BitVec.ofInt IntKind.u64.bits (n:Int)).toNat=m ||| n from h2,Zbi h1]
theorem Zog(ho:o.op= .binOp .and t x y t')(hx:ev env x=some (.int .u64 (m:Int)))(hy:ev env y=some (.int .u64 (n:Int)))(hm:m<U:=by omega)(hn:n<U:=by decide):Nt P N sc o env H (.int .u64 ((m &&& n:Nat):Int)):=Hy ho hx hy fun w=>by
 have h1:m &&& n<U:=Nat.lt_of_le_of_lt Nat.and_le_left hm
 have h2:(BitVec.ofInt 64 (m:Int) &&& BitVec.ofInt 64 (n:Int)).toNat=m &&& n:=by
  rw [Zbr,Zbr,BitVec.toNat_and,BitVec.toNat_ofNat,BitVec.toNat_ofNat,Nat.mod_eq_of_lt hm,Nat.mod_eq_of_lt hn]
 simp only [binOp,ne_eq,not_true_eq_false,if_false,Op.intBits,Sem.run_pure]
 rw [show(BitVec.ofInt IntKind.u64.bits (m:Int) &&& BitVec.ofInt IntKind.u64.bits (n:Int)).toNat=m &&& n from h2,Zbi h1]
theorem Zke{k:IntKind}{n':Int}(ho:o.op= .binOp .shl t x y t')(hx:ev env x=some (.int .u64 (m:Int)))(hy:ev env y=some (.int k n'))(hn':n'=(n:Int))(hn:n≤64:=by omega):Nt P N sc o env H (.int .u64 (((m*2^n)%U:Nat):Int)):=fun a w hs=>by
 subst hn'
 have h1:min n 64=n:=O
 have h2:IntKind.u64.wrap ((m:Int)*2^n)=(((m*2^n)%U:Nat):Int):=by rw [←Zgk];simp
 have h3:¬((n:Int)<0):=O
 simp [execOp,ho,hs.ev hx,hs.ev hy,eqGuard,binOp,Op.shift,IntKind.bits,h1,h2,h3]
theorem Zkd{k:IntKind}{n':Int}(ho:o.op= .binOp .shr t x y t')(hx:ev env x=some (.int .u64 (m:Int)))(hy:ev env y=some (.int k n'))(hn':n'=(n:Int))(hn:n≤64:=by omega):Nt P N sc o env H (.int .u64 ((m/2^n:Nat):Int)):=fun a w hs=>by
 subst hn'
 have h1:min n 64=n:=O
 have h2:(m:Int).fdiv (2^n)=((m/2^n:Nat):Int):=by rw [Int.fdiv_eq_ediv_of_nonneg _ (by exact Int.pow_nonneg O)];simp
 have h3:¬((n:Int)<0):=O
 simp [execOp,ho,hs.ev hx,hs.ev hy,eqGuard,binOp,Op.shift,IntKind.bits,h1,h2,h3]
theorem Gc{k:IntKind}{n':Nat}(ho:o.op= .binOp .shr t x y t')(hx:ev env x=some (.int .u64 (m:Int)))(hy:ev env y=some (.int k (n:Int)))(hn:Nat.ble n 64=true)(hp:2^n=n'):Nt P N sc o env H (.int .u64 ((m/n':Nat):Int)):=by
 rw [←hp];exact Zkd ho hx hy rfl (by simpa using hn)
theorem Ze1{k:IntKind}{r:Int}{m:Int}(ho:o.op= .convert t t' x)(hx:ev env x=some (.int k m)){k':IntKind}{ds:TypeDesc}(hs0:P.underlying t=some ds)(ht:P.underlying t'=some (.int k'))(hr:k'.wrap m=r):Nt P N sc o env H (.int k' r):=fun a w hs=>by
 subst hr
 cases ds<;>simp [execOp,ho,hs.ev hx,convert,run_underlying hs0,run_underlying ht,Conv.intToInt]
end
theorem Zf8 {o:Oper} {x y:Operand} {ats:Array TypeId} {k:IntKind} {m n:Int} (ho:o.op= .call { callee:= .builtin .max,args:=#[x,y],argTypes:=ats })
  (hx:ev env x=some (.int k m)) (hy:ev env y=some (.int k n)):Nt P N sc o env H (.int k (max m n)):=fun a w hs=>by
 simp [execOp,ho,resolve,hs.ev hx,hs.ev hy,invoke,builtin,Builtin.max_,Builtin.max2]
 by_cases h:n>m
 ·rw [if_pos h];omega
 ·rw [if_neg h];omega
def Le(v:Value)(n:Nat):Value:=match v with
 | .slice a _ c=> .slice a n c
 | u=>u
theorem Iw(v:Value)(n:Nat):(Le v n).ownBlock=v.ownBlock:=by
 cases v with
 | slice a l c=>cases a<;>rfl
 | _=>rfl
theorem Zv2 {α:Type} {o:Oper} {x y:Operand} {t e:TypeId} {v:Value} {ii k i:Nat} {kd:IntKind} {m:Int} {p:Pc} {enc:α→Value} {xs:List α} (ho:o.op= .slice t x none (some y) none)
  (hx:ev env x=some v) (hy:ev env y=some (.int kd m)) (hH:lk H ii=some p) (hr:Rd p k enc v xs) (ht:P.underlying t=some (.slice e)) (hs':∀w,(sizeOf e).run P w= .ok k w)
   (him:m=(i:Int):=by omega) (hle:i≤xs.length:=by omega):Nt P N sc o env H (Le v i):=fun a w hs=>by
 obtain⟨ad,c,rfl,h1,h2,h3⟩:=hr w (hs.hold ii p hH)
 subst him
 have hic:i≤c:=Nat.le_trans hle h1
 have h0:∀q:Addr,q.add 0=q:=fun q=>by simp [Addr.add]
 cases ad with
 | none=>simp [execOp,ho,hs.ev hx,hs.ev hy,Instr.sliceAt,Instr.slice,Instr.sliceBounds,Instr.sliceBound,asIntOf,run_underlying ht,hs',hic,Le]
 | some q=>simp [execOp,ho,hs.ev hx,hs.ev hy,Instr.sliceAt,Instr.slice,Instr.sliceBounds,Instr.sliceBound,asIntOf,run_underlying ht,hs',hic,Le,h0]
theorem Zbm{α:Type}{w:World}{k:Nat}{enc:α→Value}{v:Value}{xs:List α}(n:Nat)(hn:n≤xs.length)(h:RowAt w k enc v xs):RowAt w k enc (Le v n) (xs.take n):=by
 obtain⟨a,c,rfl,h1,h2,h3⟩:=h
 have hl:(xs.take n).length=n:=by rw [List.length_take];omega
 refine⟨a,c,by rw [hl];rfl,by rw [hl];omega,h2,?_⟩
 rcases h3 with rfl | ⟨g,off,rfl,h3⟩
 ·exact .inl O7
 ·refine .inr ⟨g,off,rfl,fun i x hi=>h3 i x ?_⟩
  rw [List.getElem?_take]at hi
  split at hi
  ·exact hi
  ·cases hi
theorem Ziz{α:Type}{v:Value}{xs:List α}{n b:Nat}(h:xs.take n≠[]∧(Le v n).ownBlock=some b):xs≠[]∧v.ownBlock=some b:=
 ⟨fun e=>h.1 (by rw [e,List.take_nil]),by rw [←Iw v n];exact h.2⟩
theorem Yal{α:Type}{k:Nat}{enc:α→Value}{v:Value}{xs:List α}(i j n:Nat)(hi:lk H i=some (Yh k enc v xs))(hi0:Nat.beq i 0=false)(hn:n≤xs.length:=by omega):∀a w,Sat N sc env H a w→Sat N sc env ((j,Yh k enc (Le v n) (xs.take n)) :: H) a w:=
 fun a w hs=>hs.add j _ ⟨Zbm n hn (hs.hold i _ hi).1,fun b hb=>(hs.hold i _ hi).2 b (Ziz hb)⟩
  (fun j' jt hne hj Ka b hb hb'=>by
   rcases Ka with Ka | Ka
   ·cases Ka
   ·have h1:=Ziz hb
    by_cases hij:j'=i
    ·subst hij;rw [hi]at hj;cases hj;cases Ka
    ·exact hs.sep j' i jt _ hij hj hi Ka b hb' h1)
  (fun b hb=>hs.scope i _ (fun e=>by subst e;simp at hi0) hi b (Ziz hb))
theorem Ygu{α:Type}{w:World}{k:Nat}{e:TypeId}{enc:α→Value}(hk:∀x,(enc x).cells.size=k){v:Value}{xs:List α}(n:Nat)(hn:n≤xs.length)(h:w.ownsRow 0 e k v xs.length (cellsOf enc xs)) :
  w.ownsRow 0 e k (Le v n) (xs.take n).length (cellsOf enc (xs.take n)):=by
 have hl:(xs.take n).length=n:=by rw [List.length_take];omega
 refine⟨by rw [Xe hk],?_⟩
 rw [hl]
 rcases h.2 with⟨rfl,h0⟩ | ⟨g,cap,cur,rfl,hb,hg,hnc,hcm,hcs,htake⟩
 ·have:n=0:=O
  subst this
  exact .inl ⟨rfl,rfl⟩
 ·refine .inr ⟨g,cap,cur,rfl,hb,hg,O,hcm,hcs,?_⟩
  have h1:∀(xs:List α) (n:Nat),n≤xs.length→cellsOf enc (xs.take n)=(cellsOf enc xs).take (n*k):=by
   intro xs
   induction xs with
   | nil=>intro n h;simp [cellsOf]
   | cons x r ih=>
    intro n h
    cases n with
    | zero=>simp [cellsOf]
    | succ n=>
     have:=ih n (by simpa using h)
     simp only [cellsOf,List.take_succ_cons,List.flatMap_cons]at this ⊢
     rw [this,show(n+1)*k=(enc x).cells.toList.length+n*k from by simp [hk,Nat.add_mul];omega,List.take_length_add_append]
  rw [h1 xs n hn,←htake,List.take_take,Nat.min_eq_left (Nat.mul_le_mul_right k hn)]
theorem s_opre{α:Type}{t:TypeId}{k:Nat}{e:TypeId}{enc:α→Value}{v:Value}{xs:List α}(i n:Nat)(hi:lk H i=some (Oa k e enc v xs))(hi0:Nat.beq i 0=false)(he:Enc P t k enc)(hn:n≤xs.length) :
  ∀a w,Sat N sc env H a w→Sat N sc env ((i,Oa k e enc (Le v n) (xs.take n)) :: H) a w:=
 Zlr i hi rfl (fun w h=>Ygu he.cells n hn h) (fun b hb=>by simpa [Oa,Iw]using hb) hi0
theorem Gp{α:Type}{k:Nat}{enc:α→Value}{v:Value}{xs:List α}{p:Pc}(i:Nat)(hi:lk H i=some p)(hr:Rd p k enc v xs):∀a w,Sat N sc env H a w→xs.length≤9223372036854775807:=fun a w hs=>by
 obtain⟨ad,c,rfl,h1,h2,_⟩:=hr w (hs.hold i p hi)
 have h3:maxLen=9223372036854775807:=rfl
 omega
theorem Hr(v:Value)(m n:Nat):Le (Le v m) n=Le v n:=by cases v<;>rfl
theorem Zsx{α:Type}{k:Nat}{enc:α→Value}{v:Value}{xs:List α}{p:Pc}(i:Nat)(hi:lk H i=some p)(hr:Rd p k enc v xs):∀a w,Sat N sc env H a w→Le v xs.length=v:=fun a w hs=>by
 obtain⟨ad,c,rfl,_⟩:=hr w (hs.hold i p hi);rfl
end Go.Sky
namespace Go.Sky
open Go.RowKit (Below)
variable {P:Program} {N:Nat} {sc:Nat→Prop} {env env':Qw} {H H':Hp} {Q Q':Exit→Act→World→Prop} {M:Nat→Prop}
def Pa:Nat→List Value→Qw
  | _,[]=>[]
  | n,v :: r=>(n,v) :: Pa (n+1) r
def Xu:Nat→List Pc→Hp
  | _,[]=>[]
  | n,p :: r=>(n,p) :: Xu (n+1) r
def AllRo:List Pc→Prop
  | []=>True
  | p :: r=>p.own=false∧AllRo r
theorem AllRo.mem:∀{l:List Pc},AllRo l→∀p∈l,p.own=false
  | p :: r,h,q,hq=>by
    cases hq with
    | head=>exact h.1
    | tail _ hq=>exact AllRo.mem h.2 q hq
theorem Hk:∀(l:List Value) (n t:Nat) (v:Value),lk (Pa n l) t=some v→n≤t∧l[t-n]? = some v
  | [],_,_,_,h=>by cases h
  | u :: r,n,t,v,h=>by
    simp only [Pa]at h
    by_cases hk:n=t
    · subst hk;rw [Yb]at h;cases h;simp
    · rw [Zl _ _ hk]at h
      obtain⟨h1,h2⟩:=Hk r (n+1) t v h
      refine⟨O,?_⟩
      rw [show t-n=(t-(n+1))+1 by omega]
      simpa using h2
theorem Oy:∀(l:List Pc) (n t:Nat) (v:Pc),lk (Xu n l) t=some v→n≤t∧v∈l
  | [],_,_,_,h=>by cases h
  | u :: r,n,t,v,h=>by
    simp only [Xu]at h
    by_cases hk:n=t
    · subst hk;rw [Yb]at h;cases h;simp
    · rw [Zl _ _ hk]at h
      obtain⟨h1,h2⟩:=Oy r (n+1) t v h
      exact⟨O,List.mem_cons_of_mem _ h2⟩
theorem cal_in {f:FuncId} {fn:Func} {c:Code} {vs:List Value} {pre:List Pc} {al:Bool} {G:Type} {φ:G→Prop} {Ye:G→Value} {its:G→List Pc} {N:Nat}
    (hf:P.funcs[f]? = some fn) (hb:fn.body=some c) (hN:fn.ntmps=N) (hle:Nat.ble vs.length N=true) (hro:AllRo pre)
    (h:∀w0 (sc:Nat→Prop),(∀b,w0.heap.size≤b→sc b)→(∀b,sc b→w0.heap.size≤b∨∃q∈pre,q.fp b)→
      E P N sc c (Zbg P fn w0 pre al φ Ye its) (Pa 0 vs) ((0,Xm w0 (fun _=>False)) :: Xu 1 pre)) :
    Cal P f vs.toArray pre al φ Ye its:=
  Zyu (fun w0=>(0,Xm w0 (fun _=>False)) :: Xu 1 pre) hf hb hN (env0:=Pa 0 vs) (fun t v ht=>by simpa using(Hk vs 0 t v ht).2) (by simpa using hle)
    (fun w i p hi=>by
      by_cases h0:0=i
      · subst h0;rw [Yb]at hi;cases hi;exact .inl ⟨rfl,rfl⟩
      · rw [Zl _ _ h0]at hi
        obtain⟨_,hm⟩:=Oy pre 1 i p hi
        exact .inr ⟨fun e=>h0 e.symm,hm,hro.mem p hm⟩) h
theorem Cal.bare{f:FuncId}{args:Array Value}{pre:List Pc}{al al':Bool}{G:Type}{φ:G→Prop}{Ye:G→Value}{its:G→List Pc}(h:Cal P f args pre al φ Ye its):Cal P f args pre al' φ Ye (fun _=>[]):=
  fun w hp=>(h w hp).mono fun e w' ⟨g,he,hg,hb,_⟩=>⟨g,he,hg,hb,fun p hp=>by cases hp⟩
def Ones(N:Nat)(sc:Nat→Prop)(env:Qw)(H:Hp):List Value→Prop
  | []=>True
  | v :: r=>One N sc env H v∧Ones N sc env H r
theorem Ones.mem:∀{l:List Value},Ones N sc env H l→∀u∈l,One N sc env H u
  | v :: r,h,u,hu=>by
    cases hu with
    | head=>exact h.1
    | tail _ hu=>exact Ones.mem h.2 u hu
theorem t_stp {o:Oper} {x y:Operand} {t tb:TypeId} {i b j k:Nat} {cs cs':Array Value} {v:Value} {vs:List Value} {w0:World} {M0:Nat→Prop} (ho:o.op= .store t x y) (hd:o.dst=none)
    (hx:ev env x=some (.pointer (some ⟨b,j,none⟩))) (hy:ev env y=some v) (hH:lk H i=some (box b tb cs)) (hi0:i≠0) (hv:v.cells=vs.toArray) (hk:∀w,(sizeOf t).run P w= .ok k w) (hlen:vs.length=k)
    (hfit:Nat.ble (j+vs.length) cs.size=true) (h1:Ones N sc env H vs)
    (h0:lk H 0=some (Xm w0 M0)) (hw:∀b,w0.heap.size≤b→sc b) (hM:M b) :
    T P N sc M o env H (G:=Unit) (fun _=>True) (fun _=>env) (fun _=>(i,box b tb (Hu cs j vs)) :: H):=
  Zhl ho hd hx hy hH hi0 hv hk hlen (Nat.le_of_ble_eq_true hfit) h1.mem rfl h0 hw hM
theorem Zyg{al:Bool}{α:Type}{t:TypeId}{k:Nat}{e:TypeId}{enc:α→Value}{v:Value}{xs ys:List α}{r:List Pc}(i:Nat)(hi:lk H i=some (Oa k e enc v xs))(hi0:Nat.beq i 0=false)(he:Enc P t k enc)(heq:xs=ys)(h:Give H al r) :
    Give H al (Yh k enc v ys :: r):=by subst heq;exact Ycq i hi hi0 he h
theorem Ziw{p q:Pc}{r:List Pc}(i:Nat)(hi:lk H i=some p)(hi0:Nat.beq i 0=false)(ho:p.own=false)(heq:p=q)(h:Give H true r) :
    Give H true (q :: r):=by subst heq;exact Ip i hi hi0 ho h
theorem Bo {ops:Array Oper} {rest:List Oper} {d:Nat} {b:Bool} (hd:lk env d=some (.bool b))
    (ht:b=true→L P N sc ops rest Q ((d,.bool true) :: env) H) (hf:b=false→L P N sc ops rest Q ((d,.bool false) :: env) H):L P N sc ops rest Q env H:=by
  cases b with
  | true=>
    refine fun a w hs=>ht rfl a w ⟨hs.size,hs.defers,fun t v htv=>?_,hs.hold,hs.sep,hs.scope⟩
    by_cases hk:d=t
    · subst hk;rw [Yb]at htv;cases htv;exact hs.env _ _ hd
    · rw [Zl _ _ hk]at htv;exact hs.env _ _ htv
  | false=>
    refine fun a w hs=>hf rfl a w ⟨hs.size,hs.defers,fun t v htv=>?_,hs.hold,hs.sep,hs.scope⟩
    by_cases hk:d=t
    · subst hk;rw [Yb]at htv;cases htv;exact hs.env _ _ hd
    · rw [Zl _ _ hk]at htv;exact hs.env _ _ htv
theorem Hm {α:Type} {o:Oper} {t e:TypeId} {k:Nat} {x y:Operand} {d i n by_:Nat} {m:Int} {w0:World} {M0:Nat→Prop} {enc:α→Value} {ti:TypeInfo} (z0:α)
    (ho:o.op= .makeSlice t x y) (hd:o.dst=some d) (hx:ev env x=some (.int .i64 m)) (hy:ev env y=some (.int .i64 m)) 
    (ht:P.underlying t=some (.slice e)) (hi:P.info? e=some ti) (hz:ti.zero=some (enc z0)) (hk:∀x,(enc x).cells.size=k) (hpos:0<k) (hks:ti.size=k) (hby:ti.bytes=by_)
     
    (h0:lk H 0=some (Xm w0 M0)) (hw:∀b,w0.heap.size≤b→sc b) (hN:Nat.blt d N=true:=by rfl) (hm:m=(n:Int):=by omega) (hb:by_*n≤281474976710656:=by omega) (hby1:0<by_:=by decide) :
    T P N sc M o env H (G:=Value) (fun _=>True) (fun v=>(d,v) :: env) (fun v=>(i,Oa k e enc v (List.replicate n z0)) :: H):=fun a w hs K Q hK=>
  t_mk z0 ho hd hN hx hy hm ht hi hz hk hpos hks hby hb hby1 h0 hw a w hs K Q fun b a' w' _ hs' hc=>hK (.slice (some ⟨b,0,none⟩) n n) a' w' trivial hs' hc
theorem t_bsn {α:Type} {o:Oper} {t e:TypeId} {k n:Nat} {parts:Array (Nat×Operand)} {d i:Nat} {cs:Array Value} {w0:World} {M0:Nat→Prop} {enc:α→Value} (xs:List α)
    (ho:o.op= .buildSlice t n parts) (hd:o.dst=some d) (hN:Nat.blt d N=true)
    (hr:∀a w,Sat N sc env H a w→(Instr.buildSlice t n (parts.map fun(i,x)=>(i,a.eval x))).run P w= .ok (.slice (some ⟨w.heap.size,0,none⟩) n n) (w.alloc (.cells cs e)))
    (hcs:cs.toList=cellsOf enc xs) (hn:xs.length=n) (hk:∀x,(enc x).cells.size=k) (hm:n≤maxLen)
    (h0:lk H 0=some (Xm w0 M0)) (hw:∀b,w0.heap.size≤b→sc b) :
    T P N sc M o env H (G:=Value) (fun _=>True) (fun v=>(d,v) :: env) (fun v=>(i,Oa k e enc v xs) :: H):=fun a w hs K Q hK=>
  t_bs xs ho hd hN hr hcs hn hk hm h0 hw a w hs K Q fun b a' w' _ hs' hc=>hK (.slice (some ⟨b,0,none⟩) n n) a' w' trivial hs' hc
end Go.Sky
namespace Go.Sky
open Go.RowKit (Below)
variable {P:Program} {N:Nat} {sc:Nat→Prop} {env env':Qw} {H H':Hp} {Q Q':Exit→Act→World→Prop} {M:Nat→Prop}
def Zcq:Array Value→Sem Value:=fun args=>do
 let (x, y, b) ← Extern.MathBitsCarry.three "Sub64" args
 pure (Extern.MathBitsCarry.pair ((x+Extern.MathBitsCarry.m64-y-b)%Extern.MathBitsCarry.m64) (if x<y+b then 1 else 0))
theorem Zxm{P:Program}(x y c:Nat)(hc:c≤1)(w:World) :
  (Zcq #[.int .u64 x,.int .u64 y,.int .u64 c]).run P w =
   .ok (.tuple #[.int .u64 (((x+U-y-c)%U:Nat):Int),.int .u64 ((if x<y+c then 1 else 0:Nat):Int)]) w:=by
 have:c=0∨c=1:=O
 rcases this with rfl | rfl<;>rfl
theorem Gg {a:Act} {w:World} (hs:Sat N sc env H a w) {o:Oper} {f:FuncId} {xs:List Operand} {ats:Array TypeId} {vs:List Value} (ho:o.op= .call { callee:= .value (.func f),args:=xs.toArray,argTypes:=ats })
  (hargs:EvL env xs vs):(execOp a.eval o).run P w=(callFunc f vs.toArray).run P w:=by
 have hm:=hargs.map hs
 simp [execOp,ho,resolve,invoke,Act.eval,Deferred.ofValue,hm]
theorem Znl {o:Oper} {f:FuncId} {x y z:Operand} {ats:Array TypeId} {a b c:Nat} (ho:o.op= .call { callee:= .value (.func f),args:=#[x,y,z],argTypes:=ats })
  (hx:ev env x=some (.int .u64 (a:Int))) (hy:ev env y=some (.int .u64 (b:Int))) (hz:ev env z=some (.int .u64 (c:Int))) (hc:c≤1)
  (hrun:∀args w,(callFunc f args).run P w=((add64Entry args).run P w).andThen fun v w'=> .ok (.value v) w') :
  Nt P N sc o env H (.tuple #[.int .u64 (((a+b+c)%U:Nat):Int),.int .u64 (((a+b+c)/U:Nat):Int)]):=fun s w hs=>by
 have h:=run_add64 (P:=P) (a:Int) b c O O O O w
 have h1:(((a:Int)+b+c)%18446744073709551616)=(((a+b+c)%U:Nat):Int):=by simp only [U];omega
 have h2:(((a:Int)+b+c)/18446744073709551616)=(((a+b+c)/U:Nat):Int):=by simp only [U];omega
 rw [h1,h2]at h
 rw [Gg hs (xs:=[x,y,z]) (vs:=[_,_,_]) ho ⟨hx,hy,hz,trivial⟩,hrun,h];rfl
def brw(a b c:Nat):Nat:=if a<b+c then 1 else 0
theorem Yei(a b c:Nat):brw a b c≤1:=by unfold brw;split<;>omega
theorem Yhz {o:Oper} {f:FuncId} {x y z:Operand} {ats:Array TypeId} {a b c:Nat} (ho:o.op= .call { callee:= .value (.func f),args:=#[x,y,z],argTypes:=ats })
  (hx:ev env x=some (.int .u64 (a:Int))) (hy:ev env y=some (.int .u64 (b:Int))) (hz:ev env z=some (.int .u64 (c:Int))) (hc:c≤1)
  (hrun:∀args w,(callFunc f args).run P w=((Zcq args).run P w).andThen fun v w'=> .ok (.value v) w') :
  Nt P N sc o env H (.tuple #[.int .u64 (((a+U-b-c)%U:Nat):Int),.int .u64 (brw a b c:Int)]):=fun s w hs=>by
 have h:=Zxm (P:=P) a b c hc w
 rw [Gg hs (xs:=[x,y,z]) (vs:=[_,_,_]) ho ⟨hx,hy,hz,trivial⟩,hrun,h];rfl
theorem Zck{o:Oper}{t t':TypeId}{x:Operand}{k:IntKind}{m:Nat}{ds:TypeDesc}(ho:o.op= .convert t t' x)(hx:ev env x=some (.int k (m:Int)))(hs0:P.underlying t=some ds)(ht:P.underlying t'=some (.int .u8)) :
  Nt P N sc o env H (.int .u8 ((m%256:Nat):Int)):=Ze1 ho hx hs0 ht (by simp [IntKind.wrap,IntKind.bits,IntKind.signed])
theorem Zs8{o:Oper}{t t':TypeId}{x:Operand}{k:IntKind}{m:Nat}{ds:TypeDesc}(ho:o.op= .convert t t' x)(hx:ev env x=some (.int k (m:Int)))(hs0:P.underlying t=some ds)(ht:P.underlying t'=some (.int .u64))(hm:m<U) :
  Nt P N sc o env H (.int .u64 (m:Int)):=Ze1 ho hx hs0 ht (Zbi hm)
theorem Za7{o:Oper}{t t':TypeId}{x:Operand}{k:IntKind}{m:Int}{ds:TypeDesc}(ho:o.op= .convert t t' x)(hx:ev env x=some (.int k m))(hs0:P.underlying t=some ds)(ht:P.underlying t'=some (.int .i64))(hm:Xx m) :
  Nt P N sc o env H (.int .i64 m):=Ze1 ho hx hs0 ht (Ae hm)
theorem My(t:Nat){v v':Value}(ht:lk env t=some v)(h:v=v'):∀a w,Sat N sc env H a w→Sat N sc ((t,v') :: env) H a w:=fun a w hs=>by
 subst h
 refine⟨hs.size,hs.defers,fun s u hu=>?_,hs.hold,hs.sep,hs.scope⟩
 by_cases hk:t=s
 ·subst hk;rw [Yb]at hu;cases hu;exact hs.env _ _ ht
 ·rw [Zl _ _ hk]at hu;exact hs.env _ _ hu
theorem Pj{p:Pc}(i j:Nat)(hi:lk H i=some p)(hi0:Nat.beq i 0=false)(ho:p.own=false):∀a w,Sat N sc env H a w→Sat N sc env ((j,p) :: H) a w:=fun a w hs=>
 hs.add j p (hs.hold i p hi) (fun j' jt _ hj Ka b hb hb'=>by
  rcases Ka with Ka | Ka
  ·rw [ho]at Ka;cases Ka
  ·by_cases hij:j'=i
   ·subst hij;rw [hi]at hj;cases hj;rw [ho]at Ka;cases Ka
   ·exact hs.sep j' i jt p hij hj hi Ka b hb' hb) (fun b hb=>hs.scope i p (fun e=>by subst e;simp at hi0) hi b hb)
theorem Zjj{P:Program}(w:World)(f:Value→ByteArray→Sem (ForInStep ByteArray))(hf:∀(n:Nat) (r:ByteArray),f (.int .u8 (n:Int)) r=pure (.yield (r.push (UInt8.ofNat n)))):∀(l:List Nat) (s:ByteArray),
  (forIn (m:=Sem) (l.map fun n:Nat=>Value.int .u8 (n:Int)) s f).run P w= .ok (l.foldl (fun s n=>s.push (UInt8.ofNat n)) s) w
 | [],s=>rfl
 | n :: r,s=>by
  have ih:=Zjj (P:=P) w f hf r (s.push (UInt8.ofNat n))
  simp only [List.map_cons,List.forIn_cons,hf,Sem.run_bind,Sem.run_pure,Result.andThen_ok,List.foldl_cons]
  exact ih
theorem Zi0:∀(l:List Nat) (s:ByteArray),l.foldl (fun s n=>s.push (UInt8.ofNat n)) s=⟨s.data ++ (l.map UInt8.ofNat).toArray⟩
 | [],s=>O7
 | n :: r,s=>by
  rw [List.foldl_cons,Zi0 r]
  simp [ByteArray.push]
theorem d_b2s {o:Oper} {t t' e:TypeId} {x:Operand} {v:Value} {i:Nat} {p:Pc} {xs:List Nat} (ho:o.op= .convert t t' x) (hx:ev env x=some v) (hH:lk H i=some p) (hr:Rd p 1 (fun n:Nat=>Value.int .u8 (n:Int)) v xs)
  (ht:P.underlying t=some (.slice e)) (ht':P.underlying t'=some .string) (he:P.underlying e=some (.int .u8)):Nt P N sc o env H (.string ⟨(xs.map UInt8.ofNat).toArray⟩):=fun a w hs=>by
 obtain⟨ad,c,rfl,h1,h2,h3⟩:=hr w (hs.hold i p hH)
 have hrun:(Conv.bytesToString (.slice ad xs.length c)).run P w= .ok (.string ⟨(xs.map UInt8.ofNat).toArray⟩) w:=by
  cases ad with
  | none=>
   rcases h3 with rfl | ⟨g,off,h,_⟩
   ·rfl
   ·cases h
  | some q=>
   have hcells:(loadCells q xs.length).run P w= .ok (xs.map fun n:Nat=>Value.int .u8 (n:Int)).toArray w:=by
    have:=run_loadCells_list (P:=P) w q (xs.map fun n:Nat=>Value.int .u8 (n:Int)) (fun j u hj=>by
     rcases h3 with rfl | ⟨g,off,h,h4⟩
     ·simp at hj
     ·cases h
      rw [List.getElem?_map]at hj
      cases hx:xs[j]? with
      | none=>rw [hx]at hj;cases hj
      | some y=>
       rw [hx]at hj
       cases hj
       have:=h4 j y hx 0 (.int .u8 (y:Int)) rfl
       rw [Pq]
       simpa using this)
    simpa using this
   simp only [Conv.bytesToString,Sem.run_bind,hcells,Result.andThen_ok]
   simp only [List.forIn_toArray]
   rw [Zjj (P:=P) w _ (fun n r=>rfl) xs ByteArray.empty,Zi0]
   simp [ByteArray.empty,ByteArray.emptyWithCapacity]
   rfl
 have:(convert t t' (.slice ad xs.length c)).run P w= .ok (.string ⟨(xs.map UInt8.ofNat).toArray⟩) w:=by
  simp only [convert,Sem.run_bind,run_underlying ht,run_underlying ht',Result.andThen_ok,run_underlying he,hrun]
 simp only [execOp,ho,hs.ev hx]
 simp [this]
end Go.Sky
namespace Go.Sky
open Go.RowKit (Below)
variable {P:Program} {N:Nat} {sc:Nat→Prop} {env env':Qw} {H H':Hp} {Q Q':Exit→Act→World→Prop} {M:Nat→Prop}
def Yi9(P:Program)(f:FuncId)(args:Array Value)(pre:List Pc){G:Type}(φ:G→Prop)(Ye:G→Value)(it:G→Pc):Prop:=
 ∀w,(∀p∈pre,p.holds w)→Calls P f args w fun e w'=>∃g,e= .returned (Ye g)∧φ g∧Below w.heap.size w w'∧(it g).holds w'∧∀b,(it g).fp b→w.heap.size≤b
theorem Zln {o:Oper} {f:FuncId} {xs:List Operand} {ats:Array TypeId} {d n:Nat} {vs:List Value} {pre:List Pc} {G:Type} {φ:G→Prop} {Ye:G→Value} {it:G→Pc} {w0:World} {M0:Nat→Prop}
  (hc:Yi9 P f vs.toArray pre φ Ye it)
  (ho:o.op= .call { callee:= .value (.func f),args:=xs.toArray,argTypes:=ats }) (hd:o.dst=some d) (hN:Nat.blt d N=true)
  (hargs:EvL env xs vs) (hcall:∀args w,(callFunc f args).run P w= .ok (.enter f args) w) (hpre:PreOk H false pre)
  (h0:lk H 0=some (Xm w0 M0)) (hw:∀b,w0.heap.size≤b→sc b) :
  T P N sc M o env H φ (fun g=>(d,Ye g) :: env) (fun g=>(n,it g) :: H):=fun a w hs K Q hK=>by
 have hr:(execOp a.eval o).run P w= .ok (.enter f vs.toArray) w:=by rw [Gg hs ho hargs,hcall]
 unfold Oper.wp
 rw [hr]
 refine(hc w (fun p hp=>by
  obtain⟨i,it,_,hi,himp,_,_⟩:=hpre.mem p hp
  exact himp w (hs.hold i it hi))).mono ?_
 rintro e w' ⟨g,rfl,hg,hbel,hit,hfp⟩
 show K (a.put o.dst (Ye g)) w'
 rw [hd]
 have hs':Sat N sc env H a w':=hs.chg0 (Chg.of_below hbel)
 refine hK g _ _ hg (Sat.put (hs'.add n (it g) hit (fun j jt _ hj _ b hb hb'=>?_) (fun b hb=>hw b (Nat.le_trans (hs.hold 0 _ h0).size (hfp b hb)))) d _ hN) (Chg.of_below hbel)
 have:=jt.lt w b (hs.hold j jt hj) hb'
 have:=hfp b hb
 omega
def Yfa(P:Program)(fn:Func)(w0:World){G:Type}(φ:G→Prop)(Ye:G→Value)(it:G→Pc):Exit→Act→World→Prop:=
 bodyPost P fn fun e w'=>∃g,e= .returned (Ye g)∧φ g∧Below w0.heap.size w0 w'∧(it g).holds w'∧∀b,(it g).fp b→w0.heap.size≤b
theorem Zwm {f:FuncId} {fn:Func} {c:Code} {vs:List Value} {pre:List Pc} {G:Type} {φ:G→Prop} {Ye:G→Value} {it:G→Pc} {N:Nat}
  (hf:P.funcs[f]? = some fn) (hb:fn.body=some c) (hN:fn.ntmps=N) (hle:Nat.ble vs.length N=true) (hro:AllRo pre)
  (h:∀w0 (sc:Nat→Prop),(∀b,w0.heap.size≤b→sc b)→(∀b,sc b→w0.heap.size≤b∨∃q∈pre,q.fp b)→
   E P N sc c (Yfa P fn w0 φ Ye it) (Pa 0 vs) ((0,Xm w0 (fun _=>False)) :: Xu 1 pre)) :
  Yi9 P f vs.toArray pre φ Ye it:=fun w hp=>by
 refine calls_of_wp hf hb (h w (fun b=>w.heap.size≤b∨∃q∈pre,q.fp b) (fun b hb=> .inl hb) (fun b hb=>hb) _ w ?_)
 have hle:vs.length≤N:=by simpa using hle
 have hpre:∀i p,lk ((0,Xm w (fun _=>False)) :: Xu 1 pre) i=some p→(i=0∧p=Xm w (fun _=>False))∨(i≠0∧p∈pre∧p.own=false):=fun i p hi=>by
   by_cases h0:0=i
   ·subst h0;rw [Yb]at hi;cases hi;exact .inl ⟨rfl,rfl⟩
   ·rw [Zl _ _ h0]at hi
    obtain⟨_,hm⟩:=Oy pre 1 i p hi
    exact .inr ⟨fun e=>h0 e.symm,hm,hro.mem p hm⟩
 refine⟨by simp [hN];omega,rfl,fun t v ht=>?_,fun i p hi=>?_,fun i j p q hne hi hj ho b hb hb'=>?_,fun i p hi0 hi b hb=>?_⟩
 ·have h1:vs.toArray[t]? = some v:=by simpa using(Hk vs 0 t v ht).2
  have hlt:=(Array.getElem?_eq_some_iff.1 h1).1
  rw [Array.getD_eq_getD_getElem?,Array.getElem?_append_left hlt,h1];rfl
 ·rcases hpre i p hi with⟨_,rfl⟩ | ⟨_,hm,_⟩
  ·exact Chg.refl _ w
  ·exact hp p hm
 ·rcases hpre i p hi with⟨_,rfl⟩ | ⟨_,hm,hown⟩
  ·cases ho
  ·rw [hown]at ho;cases ho
 ·rcases hpre i p hi with⟨h0,_⟩ | ⟨_,hm,_⟩
  ·exact absurd h0 hi0
  ·exact .inr ⟨p,hm,hb⟩
theorem Zlf {fn:Func} {G:Type} {φ:G→Prop} {Ye:G→Value} {it:G→Pc} {w0:World} {e:Exit} (he:e= .ret∨e= .normal)
  (g:G) (v:Value) (hres:∀a w,Sat N sc env H a w→(results fn a.tmps).run P w= .ok v w) (hv:Ye g=v) (hg:φ g) (h0:lk H 0=some (Xm w0 (fun _=>False)))
  (i:Nat) (hi0:Nat.beq i 0=false) (hi:lk H i=some (it g)) (hown:(it g).own=true) :
  X N sc e (Yfa P fn w0 φ Ye it) env H:=fun a w hs=>by
 have hi0':i≠0:=fun e=>by subst e;simp at hi0
 have key:a.defers=[]∧∃v,(results fn a.tmps).run P w= .ok v w∧(∃g,Ending.returned v= .returned (Ye g)∧φ g∧Below w0.heap.size w0 w∧(it g).holds w∧∀b,(it g).fp b→w0.heap.size≤b):=by
  refine⟨hs.defers,v,hres a w hs,g,by rw [hv],hg,Ha (hs.hold 0 _ h0),hs.hold i _ hi,fun b hb=>?_⟩
  have hn:=hs.sep i 0 _ _ hi0' hi h0 hown b hb
  rcases Nat.lt_or_ge b w0.heap.size with hlt | hge
  ·exact absurd ⟨hlt,fun h=>h⟩ hn
  ·exact hge
 rcases he with rfl | rfl
 ·exact key
 ·exact key
theorem Zv4{α:Type}{o:Oper}{x y:Operand}{t t' e:TypeId}{v:Value}{i k:Nat}{p:Pc}{enc:α→Value}{xs:List α}(ho:o.op= .binOp .eql t x y t')(hx:ev env x=some v)(hy:ev env y=some (.slice none 0 0))(hH:lk H i=some p)(hr:Rd p k enc v xs)(ht:P.underlying t=some (.slice e)) :
  Nt P N sc o env H (.bool (v.ownBlock.isNone)):=fun a w hs=>by
 obtain⟨ad,c,rfl,_⟩:=hr w (hs.hold i p hH)
 have h:=Lib.run_eql_slice_nil (P:=P) w t e ad xs.length c 0 0 ht
 cases ad with
 | none=>simp [execOp,ho,hs.ev hx,hs.ev hy,eqGuard,h,Value.ownBlock]
 | some q=>simp [execOp,ho,hs.ev hx,hs.ev hy,eqGuard,h,Value.ownBlock]
theorem Nz {α:Type} {o:Oper} {x y:Operand} {t e:TypeId} {i j k by_ d:Nat} {v u:Value} {enc:α→Value} {xs ys:List α} {p:Pc} {ti:TypeInfo} {z:Value} {w0:World} {M0:Nat→Prop}
  (ho:o.op= .call { callee:= .builtin .append,args:=#[x,y],argTypes:=#[t,t] }) (hd:o.dst=some d) (hN:Nat.blt d N=true)
  (hx:ev env x=some v) (hy:ev env y=some u) (hH:lk H i=some (Oa k e enc v xs)) (hi0:i≠0) (hj:lk H j=some p) (hr:Rd p k enc u ys)
  (ht:P.underlying t=some (.slice e)) (hi:P.info? e=some ti) (hz:ti.zero=some z) (he:Enc P e k enc) (hks:ti.size=k) (hby:ti.bytes=by_) (hzs:z.cells.size=k)
  (hb:(xs.length+ys.length)*by_≤140737488355328) (hby1:0<by_)
  (h0:lk H 0=some (Xm w0 M0)) (hw:∀b,w0.heap.size≤b→sc b) :
  T P N sc (fun _=>True) o env H (G:=Value) (fun _=>True) (fun v'=>(d,v') :: env) (fun v'=>(i,Oa k e enc v' (xs ++ ys)) :: H):=by
 by_cases hys:ys=[]
 ·subst hys
  intro a w hs K Q hK
  have hrow:w.ownsRow 0 e k v xs.length (cellsOf enc xs):=hs.hold i _ hH
  obtain⟨ad,c,rfl,h1,h2,h3⟩:=hr w (hs.hold j p hj)
  have hown:∃a0 n c0,v= .slice a0 n c0∧n=xs.length∧n≤c0:=by
   rcases hrow.2 with⟨rfl,hn⟩ | ⟨g,cap,cur,rfl,_,_,hle,_⟩
   ·exact⟨none,0,0,rfl,hn.symm,Nat.le_refl _⟩
   ·exact⟨_,_,cap,rfl,rfl,hle⟩
  obtain⟨a0,n,c0,rfl,rfl,hle⟩:=hown
  have hrun:(Builtin.append_ #[t,t] o.type #[.slice a0 xs.length c0,.slice ad ([]:List α).length c]).run P w= .ok (.slice a0 xs.length c0) w:=by
   have hfc:(Builtin.firstCells ti.size 0 (.slice ad 0 c)).run P w= .ok #[] w:=by
    cases ad with
    | none=>rfl
    | some q=>simp [Builtin.firstCells,loadCells,loadCellsFrom]
   cases a0 with
   | none=>simp [Builtin.append_,run_underlying ht,sizeOf,typeInfo,hi,Builtin.lenOf,hfc,hle]
   | some q=>simp [Builtin.append_,run_underlying ht,sizeOf,typeInfo,hi,Builtin.lenOf,hfc,hle,storeCells]
  have hr2:(execOp a.eval o).run P w= .ok (.value (.slice a0 xs.length c0)) w:=by
   simp only [execOp,ho,resolve,invoke,builtin,Sem.run_bind,Sem.run_pure,Result.andThen_ok,List.map_toArray,List.map_cons,List.map_nil,hs.ev hx,hs.ev hy,hrun]
  unfold Oper.wp
  rw [hr2]
  show K (a.put o.dst _) _
  rw [hd]
  refine hK _ _ _ trivial ((Sat.upd hs hH rfl hi0 (q:=Oa k e enc (.slice a0 xs.length c0) (xs ++ [])) (Chg.refl _ w) ?_ (fun b hb=> .inl hb) h0 hw).put d _ hN) (Chg.refl _ w)
  rw [List.append_nil];exact hrow
 ·exact t_app (i2:=0) ho hd hN hx hy hH hi0 hj hr hys ht hi hz he hks hby hzs hb hby1 h0 hw
def Zcp(v:Value)(n k:Nat):Value:=match v with
 | .slice a l c=> .slice (if c=n then a else a.map (·.add (n*k))) (l-n) (c-n)
 | u=>u
theorem Zcg(v:Value)(n k:Nat):(Zcp v n k).ownBlock=v.ownBlock:=by
 cases v with
 | slice a l c=>
  cases a with
  | none=>simp only [Zcp];split<;>rfl
  | some q=>
   simp only [Zcp]
   split
   ·rfl
   ·simp only [Option.map_some,Value.ownBlock,Addr.add];split<;>rfl
 | _=>rfl
theorem d_suf {α:Type} {o:Oper} {x y:Operand} {t e:TypeId} {v:Value} {ii k i:Nat} {kd:IntKind} {m:Int} {p:Pc} {enc:α→Value} {xs:List α} (ho:o.op= .slice t x (some y) none none)
  (hx:ev env x=some v) (hy:ev env y=some (.int kd m)) (hH:lk H ii=some p) (hr:Rd p k enc v xs) (ht:P.underlying t=some (.slice e)) (hs':∀w,(sizeOf e).run P w= .ok k w)
  (him:m=(i:Int)) (hle:i≤xs.length):Nt P N sc o env H (Zcp v i k):=fun a w hs=>by
 obtain⟨ad,c,rfl,h1,h2,h3⟩:=hr w (hs.hold ii p hH)
 subst him
 have hic:(i:Int)≤(xs.length:Int):=O
 simp [execOp,ho,hs.ev hx,hs.ev hy,Instr.sliceAt,Instr.slice,Instr.sliceBounds,Instr.sliceBound,asIntOf,run_underlying ht,hs',hle,Zcp]
theorem Zko{α:Type}{w:World}{k:Nat}{enc:α→Value}{v:Value}{xs:List α}(n:Nat)(hn:n≤xs.length)(h:RowAt w k enc v xs):RowAt w k enc (Zcp v n k) (xs.drop n):=by
 obtain⟨a,c,rfl,h1,h2,h3⟩:=h
 refine⟨if c=n then a else a.map (·.add (n*k)),c-n,by simp only [Zcp,List.length_drop],by rw [List.length_drop];omega,O,?_⟩
 by_cases hnil:xs.drop n=[]
 ·exact .inl hnil
 ·have hlt:n<xs.length:=by
   rcases Nat.lt_or_ge n xs.length with h | h
   ·exact h
   ·exact absurd (List.drop_of_length_le h) hnil
  rcases h3 with rfl | ⟨g,off,rfl,h3⟩
  ·simp at hlt
  ·refine .inr ⟨g,off+n*k,?_,fun i x hi j u hj=>?_⟩
   ·rw [if_neg O];simp [Pq]
   ·rw [List.getElem?_drop]at hi
    have:=h3 (n+i) x hi j u hj
    rw [Nat.add_mul]at this
    rw [Nat.add_assoc off,←this]
theorem Zss{α:Type}{v:Value}{xs:List α}{n k b:Nat}(h:xs.drop n≠[]∧(Zcp v n k).ownBlock=some b):xs≠[]∧v.ownBlock=some b:=
 ⟨fun e=>h.1 (by rw [e,List.drop_nil]),by rw [←Zcg v n k];exact h.2⟩
theorem s_suf{α:Type}{k:Nat}{enc:α→Value}{v:Value}{xs:List α}(i j n:Nat)(hi:lk H i=some (Yh k enc v xs))(hi0:Nat.beq i 0=false)(hn:n≤xs.length):∀a w,Sat N sc env H a w→Sat N sc env ((j,Yh k enc (Zcp v n k) (xs.drop n)) :: H) a w:=
 fun a w hs=>hs.add j _ ⟨Zko n hn (hs.hold i _ hi).1,fun b hb=>(hs.hold i _ hi).2 b (Zss hb)⟩
  (fun j' jt hne hj Ka b hb hb'=>by
   rcases Ka with Ka | Ka
   ·cases Ka
   ·have h1:=Zss hb
    by_cases hij:j'=i
    ·subst hij;rw [hi]at hj;cases hj;cases Ka
    ·exact hs.sep j' i jt _ hij hj hi Ka b hb' h1)
  (fun b hb=>hs.scope i _ (fun e=>by subst e;simp at hi0) hi b (Zss hb))
end Go.Sky
namespace Go.Sky
open Go.RowKit (Below)
variable {P:Program} {N:Nat} {sc:Nat→Prop} {env env':Qw} {H H':Hp} {Q Q':Exit→Act→World→Prop} {M:Nat→Prop}
def EvP(e:Qw):List (Nat×Operand)→List (Nat×Value)→Prop
 | [],[]=>True
 | (i,x) :: r,(j,v) :: vs=>i=j∧ev e x=some v∧EvP e r vs
 | _,_=>False
theorem EvP.map{a:Act}{w:World}(h:Sat N sc env H a w):∀{xs:List (Nat×Operand)} {vs:List (Nat×Value)},EvP env xs vs→xs.map (fun(i,x)=>(i,a.eval x))=vs
 | [],[],_=>rfl
 | (i,x) :: r,(j,v) :: vs,hh=>by
  obtain⟨rfl,h1,h2⟩:=hh
  simp only [List.map_cons,h.ev h1,EvP.map h h2]
 | [],_ :: _,hh=>hh.elim
 | _ :: _,[],hh=>hh.elim
theorem Qi {o:Oper} {t:TypeId} {parts:List (Nat×Operand)} {ivs:List (Nat×Value)} {cells:Array Value} (ho:o.op= .build t parts.toArray) (hv:EvP env parts ivs)
  (hb:∀a w,Sat N sc env H a w→P.built t ivs=some cells):Nt P N sc o env H (.agg cells):=fun a w hs=>by
 have h:=run_build (P:=P) w t (parts.toArray.map fun(i,x)=>(i,a.eval x)) cells (by rw [List.map_toArray,hv.map hs];exact hb a w hs)
 simp only [execOp,ho,Sem.run_bind,h,Result.andThen_ok,Sem.run_pure]
 try rfl
theorem Qn {t:TypeId} {it:TypeInfo} {fs:Array Field} {z:Value} {pl:List (Nat×Nat)} (parts:List (Nat×Value)) {cells:Array Value} (hi:P.info? t=some it) (hu:P.underlying t=some (.struct fs)) (hz:it.zero=some z)
  (hp:fs.toList.mapM (fun f=>(P.info? f.type).map fun i=>(f.offset,i.size))=some pl) (hf:Instr.fill (pl.toArray[·]?) z.cells parts=some cells):P.built t parts=some cells:=by
 unfold Program.built
 simp only [hi,hu,hz,hp,hf]
theorem Zgd(w:World)(t e:TypeId)(hu:P.underlying t=some (.slice e)){k:Nat}(hs:∀w,(sizeOf e).run P w= .ok k w) :
  (Instr.buildSlice t 0 #[]).run P w= .ok (.slice (some ⟨w.heap.size,0,none⟩) 0 0) (w.alloc (.cells #[] e)):=by
 simp [Instr.buildSlice,run_underlying hu,hs,Instr.fill,newRow]
 rw [show(Array.range 0)=#[] by decide,Array.map_empty]
theorem Qh {α:Type} {o:Oper} {t e:TypeId} {k n:Nat} {parts:List (Nat×Operand)} {ivs:List (Nat×Value)} {d i:Nat} {cs:Array Value} {w0:World} {M0:Nat→Prop} {enc:α→Value} {ti:TypeInfo} {z:Value} (xs:List α)
  (ho:o.op= .buildSlice t n parts.toArray) (hd:o.dst=some d) (hv:EvP env parts ivs)
  (hu:P.underlying t=some (.slice e)) (hi:P.info? e=some ti) (hz:ti.zero=some z) (hsm:Nat.ble (n*ti.size) 16777216=true) 
  (hf:Instr.fill (fun i=>some (i*ti.size,ti.size)) ((List.range (n*ti.size)).map (z.cells[· % z.cells.size]!)).toArray ivs=some cs)
  (hcs:cs.toList=cellsOf enc xs) (hn:xs.length=n) (hk:∀x,(enc x).cells.size=k) (hm:Nat.ble n 16777216=true)
  (h0:lk H 0=some (Xm w0 M0)) (hw:∀b,w0.heap.size≤b→sc b) (hN:Nat.blt d N=true:=by rfl) (hps:Nat.blt 0 (n*ti.size)=true:=by rfl) :
  T P N sc M o env H (G:=Value) (fun _=>True) (fun v=>(d,v) :: env) (fun v=>(i,Oa k e enc v xs) :: H):=
 t_bsn xs ho hd hN (fun a w hs=>run_buildSlice w t e n _ cs ti z hu hi hz (by have:=Nat.le_of_ble_eq_true hsm;omega) (by have:=Nat.blt_eq▸hps;simp at hps;omega) (by rw [show(parts.toArray.map fun(i,x)=>(i,a.eval x)).toList=ivs by rw [List.map_toArray,hv.map hs],show(Array.range (n*ti.size)).map (z.cells[· % z.cells.size]!)=((List.range (n*ti.size)).map (z.cells[· % z.cells.size]!)).toArray by rw [←List.map_toArray,←Array.toList_range,Array.toArray_toList]];exact hf)) hcs hn hk (by have:=Nat.le_of_ble_eq_true hm;simp only [maxLen];omega) h0 hw
theorem t_bs0 {α:Type} {o:Oper} {t e:TypeId} {k:Nat} {d i:Nat} {w0:World} {M0:Nat→Prop} {enc:α→Value} 
  (ho:o.op= .buildSlice t 0 #[]) (hd:o.dst=some d) (hN:Nat.blt d N=true) (hu:P.underlying t=some (.slice e)) (he:Enc P e k enc)
  (h0:lk H 0=some (Xm w0 M0)) (hw:∀b,w0.heap.size≤b→sc b) :
  T P N sc M o env H (G:=Value) (fun _=>True) (fun v=>(d,v) :: env) (fun v=>(i,Oa k e enc v []) :: H):=
 t_bsn (n:=0) (cs:=#[]) (parts:=#[]) [] ho hd hN (fun a w hs=>by rw [Array.map_empty];exact Zgd w t e hu he.size) rfl rfl he.cells (by simp [maxLen]) h0 hw
theorem Pm{α:Type}(i k:Nat)(e:TypeId)(enc:α→Value):∀a w,Sat N sc env H a w→Sat N sc env ((i,Oa k e enc (.slice none 0 0) []) :: H) a w:=fun a w hs=>
 hs.add i _ ⟨by simp [cellsOf],.inl ⟨rfl,rfl⟩⟩ (fun j jt hne hj Ka b hb hb'=>by cases hb) (fun b hb=>by cases hb)
theorem f_nil{α:Type}{k:Nat}{enc:α→Value}{v:Value}{xs:List α}{p:Pc}(i:Nat)(hi:lk H i=some p)(hr:Rd p k enc v xs):∀a w,Sat N sc env H a w→(v.ownBlock=none→xs=[]):=fun a w hs h=>by
 obtain⟨ad,c,rfl,h1,h2,h3⟩:=hr w (hs.hold i p hi)
 rcases h3 with h3 | ⟨g,off,rfl,_⟩
 ·exact h3
 ·cases h
end Go.Sky
namespace Go.Sky
abbrev Nl (n:Nat):Value:= .int .u64 (n:Int)
abbrev Zgh (n:Nat):Value:= .int .u8 (n:Int)
abbrev Ks (n:Nat):Value:= .int .i64 (n:Int)
abbrev Zx (n:Int):Value:= .int .i64 n
theorem Dg(xs:List Nat):(tz xs).length≤xs.length∧xs.take (tz xs).length=tz xs:=by
 induction hn:xs.length generalizing xs with
 | zero=>
   have:xs=[]:=List.eq_nil_of_length_eq_zero hn
   subst this;simp [tz]
 | succ n ih=>
  rcases Ak xs with rfl | ⟨ys,y,rfl⟩
  ·simp at hn
  ·by_cases hy:y=0
   ·subst hy
    rw [Mv]
    obtain⟨h1,h2⟩:=ih ys (by simpa using hn)
    have h3:ys.length=n:=by simpa using hn
    exact⟨O,by rw [List.take_append_of_le_length O];exact h2⟩
   ·rw [Kv _ _ hy]
    exact⟨O,List.take_length⟩
theorem Zaf{P:Program}{N:Nat}{sc:Nat→Prop}{env:Qw}{H:Hp}{enc:Nat→Value}{t:TypeId}{k:Nat}{e:TypeId}{v:Value}{xs:List Nat}(i:Nat)(hi:lk H i=some (Oa k e enc v xs))(hi0:Nat.beq i 0=false)(he:Enc P t k enc) :
  ∀a w,Sat N sc env H a w→Sat N sc env ((i,Oa k e enc (Le v (tz xs).length) (tz xs)) :: H) a w:=by
 have h:=s_opre (N:=N) (sc:=sc) (env:=env) i (tz xs).length hi hi0 he (Dg xs).1
 rwa [(Dg xs).2]at h
abbrev Fa (v:Value) (x:Nat):Pc:=Yh 1 Nl v (dg U x)
theorem Xi:2≤U:=by simp [U]
def Xz(x:Nat):ByteArray:=⟨((dg 256 x).reverse.map UInt8.ofNat).toArray⟩
theorem Fp(x:Nat):(Xz x).size=(dg 256 x).length:=by simp [Xz,ByteArray.size]
theorem Zq9(x i:Nat)(h:i<(dg 256 x).length):((Xz x).data.toList.getD i 0).toNat=x/256^((dg 256 x).length-1-i)%256:=by
 have h1:i<((dg 256 x).reverse.map UInt8.ofNat).length:=by simpa using h
 have h2:(Xz x).data.toList=(dg 256 x).reverse.map UInt8.ofNat:=by simp [Xz]
 rw [h2]
 simp only [List.getD,List.getElem?_eq_getElem h1,Option.getD_some,List.getElem_map,List.getElem_reverse]
 have h3:=Ir (b:=256) O ((dg 256 x).length-1-i) x
 have h4:(dg 256 x).length-1-i<(dg 256 x).length:=O
 rw [show(dg 256 x).getD ((dg 256 x).length-1-i) 0=(dg 256 x)[(dg 256 x).length-1-i] by simp [List.getD,h4]]at h3
 rw [h3]
 simp
open Go.RowKit (Below)
variable {P:Program} {N:Nat} {sc:Nat→Prop} {env env':Qw} {H H':Hp} {Q Q':Exit→Act→World→Prop} {M:Nat→Prop}
theorem d_mid {α:Type} {o:Oper} {x y z:Operand} {t e:TypeId} {v:Value} {ii k i j:Nat} {kd kd':IntKind} {m n:Int} {p:Pc} {enc:α→Value} {xs:List α} (ho:o.op= .slice t x (some y) (some z) none)
  (hx:ev env x=some v) (hy:ev env y=some (.int kd m)) (hz:ev env z=some (.int kd' n)) (hH:lk H ii=some p) (hr:Rd p k enc v xs) (ht:P.underlying t=some (.slice e)) (hs':∀w,(sizeOf e).run P w= .ok k w)
  (him:m=(i:Int)) (hin:n=(j:Int)) (hij:i≤j) (hle:j≤xs.length):Nt P N sc o env H (Le (Zcp v i k) (j-i)):=fun a w hs=>by
 obtain⟨ad,c,rfl,h1,h2,h3⟩:=hr w (hs.hold ii p hH)
 subst him hin
 have h4:¬(c:Int)<(j:Int):=O
 have h5:¬(j:Int)<(i:Int):=O
 have h6:j≤c:=O
 simp [execOp,ho,hs.ev hx,hs.ev hy,hs.ev hz,Instr.sliceAt,Instr.slice,Instr.sliceBounds,Instr.sliceBound,asIntOf,run_underlying ht,hs',hle,hij,h6,Zcp,Le]
theorem Zbo {α:Type} {k:Nat} {e:TypeId} {enc:α→Value} {v u:Value} {xs ys:List α} {t:TypeId} {r:List Pc} (i:Nat) (hi:lk H i=some (Oa k e enc v xs)) (hi0:Nat.beq i 0=false) (he:Enc P t k enc)
  (hrow:∀w,RowAt w k enc v xs→RowAt w k enc u ys) (hblk:u.ownBlock=v.ownBlock) (h:PreOk H false r):PreOk H false (Yh k enc u ys :: r):=
 ⟨⟨i,_,fun e=>by subst e;simp at hi0,hi,fun w hw=>⟨hrow w (Dt he.cells hw),fun b hb=>(hw.lt b (by rw [←hblk];exact hb.2)).2⟩,fun b hb=>hblk.symm.trans hb.2,fun h=>by cases h⟩,h⟩
theorem Zgu{α:Type}{k:Nat}{enc:α→Value}{v:Value}{xs:List α}(lo hi:Nat)(h1:lo≤hi:=by omega)(h2:hi≤xs.length:=by omega):∀w,RowAt w k enc v xs→RowAt w k enc (Le (Zcp v lo k) (hi-lo)) ((xs.drop lo).take (hi-lo)):=
 fun w h=>Zbm _ (by rw [List.length_drop];omega) (Zko lo O h)
theorem Zg7(v:Value)(lo n k:Nat):(Le (Zcp v lo k) n).ownBlock=v.ownBlock:=by rw [Iw,Zcg]
theorem Yat{k:Nat}{enc:Nat→Value}{v u:Value}{xs ys zs:List Nat}{n:Nat}(hz:tz ys=zs)(hn:n=zs.length)(h:∀w,RowAt w k enc v xs→RowAt w k enc u ys):∀w,RowAt w k enc v xs→RowAt w k enc (Le u n) zs:=fun w hw=>by
 have:=Zbm zs.length (by rw [←hz];exact(Dg ys).1) (h w hw)
 rw [←hz,(Dg ys).2]at this
 rw [hn,←hz];exact this
theorem Znv{α:Type}{enc:α→Value}{k:Nat}(hk:∀x,(enc x).cells.size=k)(xs:List α)(n:Nat)(hn:n≤xs.length):cellsOf enc (xs.take n)=(cellsOf enc xs).take (n*k):=by
 have h:=Lz enc (xs.take n) (xs.drop n)
 rw [List.take_append_drop]at h
 have hl:(cellsOf enc (xs.take n)).length=n*k:=by rw [Xe hk,List.length_take,Nat.min_eq_left hn]
 rw [h,←hl,List.take_left]
def spl{α:Type}(xs:List α)(lo:Nat)(ys:List α):List α:=xs.take lo ++ ys ++ xs.drop (lo+ys.length)
theorem Ke{α:Type}(xs:List α)(lo:Nat)(ys:List α)(h:lo+ys.length≤xs.length):(spl xs lo ys).length=xs.length:=by
 simp [spl];omega
theorem Ygt {α:Type} {w:World} {g cap:Nat} {cur:Array Value} {k:Nat} {e:TypeId} {enc:α→Value} {xs ys:List α} (hk:∀x,(enc x).cells.size=k) (lo:Nat) (hlo:lo+ys.length≤xs.length)
  (hg:w.heap[g]? = some (.cells cur e (0,0))) (hnc:xs.length≤cap) (hcm:cap≤maxLen) (hcs:cur.size=cap*k) (htake:cur.toList.take (xs.length*k)=cellsOf enc xs) :
  (w.setRow g (cur.toList.take (lo*k) ++ cellsOf enc ys ++ cur.toList.drop (lo*k+(cellsOf enc ys).length)).toArray).ownsRow 0 e k (.slice (some ⟨g,0,none⟩) xs.length cap) (spl xs lo ys).length (cellsOf enc (spl xs lo ys)):=by
 have hcur:cur.toList.length=cap*k:=by rw [Array.length_toList,hcs]
 have hly:=Xe hk ys
 have hle:(lo+ys.length)*k≤xs.length*k:=Nat.mul_le_mul_right _ hlo
 have hle2:xs.length*k≤cap*k:=Nat.mul_le_mul_right _ hnc
 rw [Nat.add_mul]at hle
 refine⟨by rw [Xe hk],.inr ⟨g,cap,_,by rw [Ke _ _ _ hlo],Nat.zero_le _,setRow_heap w g cur _ e _ hg,by rw [Ke _ _ _ hlo];exact hnc,hcm,?_,?_⟩⟩
 ·simp only [List.size_toArray,List.length_append,List.length_take,List.length_drop,hcur,hly]
  omega
 ·rw [Ke _ _ _ hlo]
  have e1:cellsOf enc (xs.take lo)=cur.toList.take (lo*k):=by
   rw [Znv hk xs lo O,←htake,List.take_take,Nat.min_eq_left O]
  have e2:cellsOf enc (xs.drop (lo+ys.length))=(cur.toList.take (xs.length*k)).drop ((lo+ys.length)*k):=by
   have h:=Lz enc (xs.take (lo+ys.length)) (xs.drop (lo+ys.length))
   rw [List.take_append_drop,←htake]at h
   rw [h]
   exact(List.drop_left' (by rw [Xe hk,List.length_take,Nat.min_eq_left hlo])).symm
  rw [spl,Lz,Lz,e1,e2,hly,Nat.add_mul]
  apply List.ext_getElem?
  intro q
  have hl1:(cur.toList.take (lo*k)).length=lo*k:=by rw [List.length_take,hcur];omega
  by_cases h1:q<xs.length*k
  ·rw [List.getElem?_take,if_pos h1]
   by_cases h2:q<lo*k+ys.length*k
   ·have hL:∀C,((cur.toList.take (lo*k) ++ cellsOf enc ys) ++ C)[q]? = (cur.toList.take (lo*k) ++ cellsOf enc ys)[q]?:=fun C=>List.getElem?_append_left (by rw [List.length_append,hl1,hly];exact h2)
    rw [hL,hL]
   ·have hR:∀C,((cur.toList.take (lo*k) ++ cellsOf enc ys) ++ C)[q]? = C[q-(lo*k+ys.length*k)]?:=fun C=>by
     rw [List.getElem?_append_right (by rw [List.length_append,hl1,hly];omega),List.length_append,hl1,hly]
    rw [hR,hR]
    rw [List.getElem?_drop,List.getElem?_drop,List.getElem?_take,if_pos O]
  ·rw [List.getElem?_take,if_neg h1,List.getElem?_eq_none]
   simp only [List.length_append,List.length_take,List.length_drop,hcur,hly]
   omega
def Dst(v u:Value)(len k lo n:Nat):Prop:=∀g c,v= .slice (some ⟨g,0,none⟩) len c→len≤c→∃c',u= .slice (some ⟨g,lo*k,none⟩) n c'
theorem Ydh(v:Value)(len k:Nat):Dst v v len k 0 len:=fun g c h _=>⟨c,by rw [h,Nat.zero_mul]⟩
theorem Zvv(v:Value){len k:Nat}(lo n:Nat)(h:lo<len):Dst v (Le (Zcp v lo k) n) len k lo n:=fun g c hv hc=>by
 refine⟨c-lo,?_⟩
 rw [hv]
 simp only [Zcp,Le]
 rw [if_neg O]
 simp [Pq]
theorem Zxn{α:Type}{w:World}{k:Nat}{enc:α→Value}{u:Value}{ys:List α}{t:TypeId}(he:Enc P t k enc)(h:RowAt w k enc u ys):(Builtin.firstCells k ys.length u).run P w= .ok (cellsOf enc ys).toArray w∧(Builtin.lenOf u).run P w= .ok ys.length w:=by
 obtain⟨ad,c,rfl,h1,h2,h3⟩:=h
 refine⟨?_,by simp [Builtin.lenOf]⟩
 rcases h3 with rfl | ⟨g,off,rfl,h3⟩
 ·cases ad with
  | none=>simp [Builtin.firstCells,cellsOf]
  | some q=>simp [Builtin.firstCells,cellsOf,loadCells,loadCellsFrom]
 ·have hyc:∀q u,(cellsOf enc ys)[q]? = some u→w.cell? ((⟨g,off,none⟩:Addr).add q)=some u:=fun q u hq=>by
   have hlt:q<ys.length*k:=by rw [←Xe he.cells ys];exact(List.getElem?_eq_some_iff.1 hq).1
   have hpos:=he.pos
   have hd1:q/k<ys.length:=Nat.div_lt_of_lt_mul (by rw [Nat.mul_comm];exact hlt)
   have hget:ys[q/k]? = some ys[q/k]:=List.getElem?_eq_getElem hd1
   have hq2:q%k<(enc ys[q/k]).cells.toList.length:=by rw [Array.length_toList,he.cells];exact Nat.mod_lt _ hpos
   have hu:=List.getElem?_eq_getElem hq2
   have h4:=Ie he.cells ys _ _ hget _ _ hu
   have h5:=h3 _ _ hget _ _ hu
   have hqq:q/k*k+q%k=q:=by rw [Nat.mul_comm];exact Nat.div_add_mod q k
   rw [hqq]at h4
   rw [Nat.add_assoc,hqq]at h5
   rw [hq]at h4
   cases h4
   rw [Pq]
   exact h5
  have hl:=Xe he.cells ys
  have:=run_loadCells (P:=P) (w:=w) ⟨g,off,none⟩ (ys.length*k) (fun j=>(cellsOf enc ys).getD j undef) (fun j hj=>hyc j _ (by rw [List.getElem?_eq_getElem O];simp [List.getD,List.getElem?_eq_getElem (show j<(cellsOf enc ys).length by omega)]))
  rw [show(List.range (ys.length*k)).map (fun j=>(cellsOf enc ys).getD j undef)=cellsOf enc ys by
   apply List.ext_getElem
   ·simp [hl]
   ·intro i h1 h2
    simp [List.getD,List.getElem?_eq_getElem h2]]at this
  exact this
theorem Zt1 {α:Type} {a:Act} {w:World} {i k lo:Nat} {e t:TypeId} {v:Value} {enc:α→Value} {xs ys:List α} {w0:World} {M0:Nat→Prop} (hs:Sat N sc env H a w) (hH:lk H i=some (Oa k e enc v xs)) (hi0:i≠0) (he:Enc P t k enc)
  (hlo:lo+ys.length≤xs.length) (hp:0<xs.length) (h0:lk H 0=some (Xm w0 M0)) (hw:∀b,w0.heap.size≤b→sc b) {u:Value} {n:Nat} (hu:Dst v u xs.length k lo n) :
  ∃g c w',u= .slice (some ⟨g,lo*k,none⟩) n c∧(storeCells ⟨g,lo*k,none⟩ (cellsOf enc ys)).run P w= .ok () w'∧Sat N sc env ((i,Oa k e enc v (spl xs lo ys)) :: H) a w'∧Chg (fun _=>True) w w':=by
 have hrow:w.ownsRow 0 e k v xs.length (cellsOf enc xs):=hs.hold i _ hH
 rcases hrow.2 with⟨rfl,hn⟩ | ⟨g,cap,cur,rfl,hb,hg,hnc,hcm,hcs,htake⟩
 ·omega
 ·obtain⟨c',hu⟩:=hu g cap rfl hnc
  have hly:=Xe he.cells ys
  have hle:(lo+ys.length)*k≤cap*k:=Nat.mul_le_mul_right _ O
  rw [Nat.add_mul]at hle
  have hst:=run_storeCells_at P g (lo*k) e (cellsOf enc ys) 0 cur w hg (by rw [hly,hcs];omega) (fun u hu=>by
   obtain⟨y,_,hy⟩:=List.mem_flatMap.1 hu
   exact he.one y u hy)
  simp only [Nat.add_zero]at hst
  exact⟨g,c',_,hu,hst,hs.upd hH rfl hi0 (q:=Oa k e enc (.slice (some ⟨g,0,none⟩) xs.length cap) (spl xs lo ys)) (Kx (M:=fun k=>(Value.slice (some ⟨g,0,none⟩) xs.length cap).ownBlock=some k) _ rfl) (Ygt he.cells lo hlo hg hnc hcm hcs htake) (fun k hk=> .inl hk) h0 hw,Kx _ trivial⟩
theorem t_cpy {α:Type} {o:Oper} {x y:Operand} {t t' e te:TypeId} {i j k n d:Nat} {v u z:Value} {enc:α→Value} {xs ys:List α} {p:Pc} {w0:World} {M0:Nat→Prop} (lo:Nat)
  (ho:o.op= .call { callee:= .builtin .copy,args:=#[x,y],argTypes:=#[t,t'] }) (hd:o.dst=some d) (hN:Nat.blt d N=true)
  (hx:ev env x=some u) (hy:ev env y=some z) (hH:lk H i=some (Oa k e enc v xs)) (hi0:i≠0) (hj:lk H j=some p) (hr:Rd p k enc z ys)
  (hu:Dst v u xs.length k lo n) (hn:ys.length≤n) (hlo:lo+ys.length≤xs.length) (hp:0<xs.length) (ht:P.underlying t=some (.slice te)) (he:Enc P te k enc)
  (h0:lk H 0=some (Xm w0 M0)) (hw:∀b,w0.heap.size≤b→sc b) :
  T P N sc (fun _=>True) o env H (G:=Unit) (fun _=>True) (fun _=>(d,.int .i64 (ys.length:Int)) :: env) (fun _=>(i,Oa k e enc v (spl xs lo ys)) :: H):=fun a w hs K Q hK=>by
 obtain⟨g,c,w',rfl,hst,hs',hc⟩:=Zt1 (ys:=ys) hs hH hi0 he hlo hp h0 hw hu
 obtain⟨h1,h2⟩:=Zxn he (hr w (hs.hold j p hj))
 have hr2:(execOp a.eval o).run P w= .ok (.value (.int .i64 (ys.length:Int))) w':=by
  simp [execOp,ho,resolve,invoke,builtin,hs.ev hx,hs.ev hy,Builtin.copy_,run_underlying ht,h2,Nat.min_eq_left hn,he.size,h1,hst,goInt]
 unfold Oper.wp
 rw [hr2]
 show K (a.put o.dst _) _
 rw [hd]
 exact hK () _ _ trivial (hs'.put d _ hN) hc
theorem t_clr {α:Type} {o:Oper} {x:Operand} {t e te:TypeId} {i k n:Nat} {v u zv:Value} {enc:α→Value} {xs:List α} {z:α} {w0:World} {M0:Nat→Prop} (lo:Nat)
  (ho:o.op= .call { callee:= .builtin .clear,args:=#[x],argTypes:=#[t] }) (hd:o.dst=none)
  (hx:ev env x=some u) (hH:lk H i=some (Oa k e enc v xs)) (hi0:i≠0)
  (hu:Dst v u xs.length k lo n) (hn:0<n) (hlo:lo+n≤xs.length) (ht:P.underlying t=some (.slice te)) (he:Enc P te k enc)
  (hz:∀w,(zeroValue te).run P w= .ok (enc z) w) (hk:k=1)
  (h0:lk H 0=some (Xm w0 M0)) (hw:∀b,w0.heap.size≤b→sc b) :
  T P N sc (fun _=>True) o env H (G:=Unit) (fun _=>True) (fun _=>env) (fun _=>(i,Oa k e enc v (spl xs lo (List.replicate n z))) :: H):=fun a w hs K Q hK=>by
 obtain⟨g,c,w',rfl,hst,hs',hc⟩:=Zt1 (ys:=List.replicate n z) hs hH hi0 he (by simpa using hlo) O h0 hw hu
 obtain⟨m,rfl⟩:∃m,n=m+1:=⟨n-1,O⟩
 have hcells:(enc z).cells.toList=[(enc z).cells[0]'(by rw [he.cells];omega)]:=by
  have h1:(enc z).cells.size=1:=by rw [he.cells,hk]
  apply List.ext_getElem
  ·simp [h1]
  ·intro i h2 h3
   simp at h3
   subst h3
   simp
 have hzc:(Builtin.zeroCells (enc z).cells (m+1)).toList=cellsOf enc (List.replicate (m+1) z):=by
  have h1:(enc z).cells.size=1:=by rw [he.cells,hk]
  have hrhs:∀q,cellsOf enc (List.replicate q z)=List.replicate q ((enc z).cells[0]' O):=by
   intro q
   induction q with
   | zero=>rfl
   | succ q ih=>rw [List.replicate_succ,List.replicate_succ,←ih];simp [cellsOf,hcells]
  rw [hrhs]
  apply List.ext_getElem
  ·simp [Builtin.zeroCells,h1]
  ·intro i h2 h3
   simp [Builtin.zeroCells,h1,Nat.mod_one]
 have hr2:(execOp a.eval o).run P w= .ok (.value (.tuple #[])) w':=by
  simp [execOp,ho,resolve,invoke,builtin,hs.ev hx,Builtin.clear_,run_underlying ht,hz,hzc,hst]
 unfold Oper.wp
 rw [hr2]
 show K (a.put o.dst _) _
 rw [hd]
 exact hK () _ _ trivial (hs'.put_none _) hc
end Go.Sky
namespace Go.Sky
variable {P:Program} {N:Nat} {sc:Nat→Prop} {env env':Qw} {H H':Hp} {Q Q':Exit→Act→World→Prop} {M:Nat→Prop}
theorem Zh {l : List Oper} {listed : Array Bool} {n m : Nat} {ts : List Nat} (plan : List (Nat × Nat))
     (h:LD P N sc M l.toArray (A P N sc M l.toArray ts Q n (Dw plan listed)) plan env H) (hp:(Region.noSelect l.toArray && Fh l.toArray ts plan listed && Nat.beq (plan.length+n) m)=true:=by kernel_rfl):A P N sc M l.toArray ts Q m listed env H:=
  a_lin _ plan hp h (fun _ _ h=>h)
theorem aact {ops:Array Oper} {ts:List Nat} {n i:Nat} {listed:Array Bool} {o:Oper} {G:Type} {φ:G→Prop} {genv:G→Qw} {gH:G→Hp} (ht:T P N sc M o env H φ genv gH) (ho:ops[i]? = some o) (hg:o.guard=none)
    (h:∀g,φ g→A P N sc M ops ts Q n (listed.setIfInBounds i true) (genv g) (gH g)):Zn5 P N sc M ops ts Q n listed env H i:=⟨o,G,φ,genv,gH,ho,hg,ht,h⟩
theorem Qp {ops:Array Oper} {ts:List Nat} {listed:Array Bool} {n m:Nat} (i j:Nat) 
    (h1:Zn5 P N sc M ops ts Q n listed env H i) (h2:Zn5 P N sc M ops ts Q n listed env H j) (hr:((Region.ready .any ops listed == [i,j]) && !(Ee ops ts listed) && !([i,j]:List Nat).isEmpty && Nat.beq (n+1) m)=true:=by kernel_rfl):A P N sc M ops ts Q m listed env H:=by
  rw [Bool.and_eq_true]at hr
  have h3:=Nat.eq_of_beq_eq_true hr.2
  subst h3
  exact a_br [i,j] hr.1 (fun q hq=>by
    simp only [List.mem_cons,List.not_mem_nil,or_false]at hq
    rcases hq with rfl | rfl
    · exact h1
    · exact h2)
theorem Ev{ops:Array Oper}{F:Qw→Hp→Prop}{i:Nat}{rest:List (Nat×Nat)}{o:Oper}{G:Type}{φ:G→Prop}{genv:G→Qw}{gH:G→Hp}(ho:ops[i]? = some o)(ht:T P N sc M o env H φ genv gH)(h:∀g,φ g→LD P N sc M ops F rest (genv g) (gH g))(hg:o.guard=none:=by rfl):LD P N sc M ops F ((i,1) :: rest) env H:=r1 ht ho hg h
theorem r3'{ops:Array Oper}{F:Qw→Hp→Prop}{i:Nat}{rest:List (Nat×Nat)}{o:Oper}{G:Type}{φ:G→Prop}{genv:G→Qw}{gH:G→Hp}(ho:ops[i]? = some o)(ht:T P N sc (fun _=>True) o env H φ genv gH)(h:∀g,φ g→LD P N sc M ops F rest (genv g) (gH g))(hg:o.guard=none:=by rfl):LD P N sc M ops F ((i,3) :: rest) env H:=r3 ht ho hg h
theorem Cw {ops:Array Oper} {ts:List Nat} {n i:Nat} {listed:Array Bool} {o:Oper} {G:Type} {φ:G→Prop} {genv:G→Qw} {gH:G→Hp} (ho:ops[i]? = some o) (ht:T P N sc M o env H φ genv gH)
    (h:∀g,φ g→A P N sc M ops ts Q n (listed.setIfInBounds i true) (genv g) (gH g)) (hg:o.guard=none:=by rfl):Zn5 P N sc M ops ts Q n listed env H i:=aact ht ho hg h
end Go.Sky
namespace Go.Sky
variable {P:Program} {N:Nat} {sc:Nat→Prop} {env env':Qw} {H H':Hp} {Q Q':Exit→Act→World→Prop} {M:Nat→Prop}
theorem d_eqb{o:Oper}{t t':TypeId}{x y:Operand}{a b:Bool}(ho:o.op= .binOp .eql t x y t')(hx:ev env x=some (.bool a))(hy:ev env y=some (.bool b))(ht:P.underlying t=some .bool):Nt P N sc o env H (.bool (a == b)):=fun ac w hs=>by
 simp [execOp,ho,hs.ev hx,hs.ev hy,eqGuard,run_eql_bool w t a b ht]
theorem d_neb{o:Oper}{t t':TypeId}{x y:Operand}{a b:Bool}(ho:o.op= .binOp .neq t x y t')(hx:ev env x=some (.bool a))(hy:ev env y=some (.bool b))(ht:P.underlying t=some .bool):Nt P N sc o env H (.bool (a != b)):=fun ac w hs=>by
 simp [execOp,ho,hs.ev hx,hs.ev hy,eqGuard,run_neq_bool w t a b ht,bne]
theorem Qc {ops:Array Oper} {F:Qw→Hp→Prop} {i:Nat} {rest:List (Nat×Nat)} {o:Oper} {d:Nat} {v:Value} (ho:ops[i]? = some o) (hd:o.dst=some d) (hs:Stb P N sc M o env H v)
  (h:LD P N sc M ops F rest ((d,v) :: env) H) (hg:o.guard=none:=by rfl) (hN:Nat.blt d N=true:=by rfl):LD P N sc M ops F ((i,0) :: rest) env H:=r0 hs ho hg hd hN h
end Go.Sky
namespace Go.Sky
open Go.RowKit (Below)
variable {P:Program} {N:Nat} {sc:Nat→Prop} {env env':Qw} {H H':Hp} {Q Q':Exit→Act→World→Prop} {M:Nat→Prop}
def Hg(b:Nat)(t:TypeId)(cs:Array Value):Pc:=
  { own:=false,fp:=fun k=>k=b,holds:=fun w=>w.heap[b]? = some (.cells cs t (0,0))
    lt:=fun w k h hk=>by subst hk;exact(Array.getElem?_eq_some_iff.1 h).1
    stable:=fun w w' h hc=>by
      rw [←h];exact hc.block b (Array.getElem?_eq_some_iff.1 h).1 (fun hn=>hn rfl) }
theorem Zhw{b:Nat}{t:TypeId}{cs:Array Value}(i:Nat)(hi:lk H i=some (box b t cs))(hi0:Nat.beq i 0=false):∀a w,Sat N sc env H a w→Sat N sc env ((i,Hg b t cs) :: H) a w:=fun a w hs=>by
    have h0:i≠0:=fun e=>by subst e;simp at hi0
    refine⟨hs.size,hs.defers,hs.env,fun j jt hj=>?_,fun j j' jt jt' hne hj hj' ho b hb hb'=>?_,fun j jt hj0 hj b hb=>?_⟩
    · by_cases hk:i=j
      · subst hk;rw [Yb]at hj;cases hj;have h1:=hs.hold i (box _ t cs) hi;exact h1
      · rw [Zl _ _ hk]at hj;exact hs.hold j jt hj
    · by_cases hk:i=j
      · subst hk;rw [Yb]at hj;cases hj;cases ho
      · rw [Zl _ _ hk]at hj
        by_cases hk':i=j'
        · subst hk';rw [Yb]at hj';cases hj'
          exact hs.sep j i jt (box _ t cs) hne hj hi ho b hb hb'
        · rw [Zl _ _ hk']at hj'
          exact hs.sep j j' jt jt' hne hj hj' ho b hb hb'
    · by_cases hk:i=j
      · subst hk;rw [Yb]at hj;cases hj;exact hs.scope i (box _ t cs) h0 hi b hb
      · rw [Zl _ _ hk]at hj;exact hs.scope j jt hj0 hj b hb
theorem d_lr {o:Oper} {x:Operand} {t tb:TypeId} {i b j:Nat} {cs:Array Value} {v:Value} (ho:o.op= .load t x)
    (hx:ev env x=some (.pointer (some ⟨b,j,none⟩))) (hH:lk H i=some (Hg b tb cs)) (ht:∀w,(isAgg t).run P w= .ok false w) (hv:cs[j]? = some v):Nt P N sc o env H v:=fun a w hs=>by
  have h0:w.heap[b]? = some (.cells cs tb (0,0)):=hs.hold i _ hH
  have h:w.cell? ⟨b,j,none⟩=cs[j]?:=by simp [World.cell?,h0]
  rw [hv]at h
  simp [execOp,ho,hs.ev hx,Instr.loadAt,Instr.sureAddr,loadVar,ht,load,Sem.run,h]
def Zbh(P:Program)(f:FuncId)(args:Array Value)(pre:List Pc)(al:Bool)(b:Nat)(t:TypeId)(cs:Array Value){G:Type}(φ:G→Prop)(Ye:G→Value)(cs':G→Array Value)(its:G→List Pc):Prop:=
  ∀w,(∀p∈pre,p.holds w∧¬p.fp b)→(box b t cs).holds w→Calls P f args w fun e w'=>∃g,e= .returned (Ye g)∧φ g∧Chg (fun k=>k=b) w w'∧(box b t (cs' g)).holds w'∧
    ∀p∈its g,p.holds w'∧p.own=false∧∀k,p.fp k→w.heap.size≤k∨(al=true∧∃q∈pre,q.fp k)
theorem Qa {o:Oper} {f:FuncId} {xs:List Operand} {ats:Array TypeId} {d n i b:Nat} {t:TypeId} {cs:Array Value} {vs:List Value} {pre:List Pc} {al:Bool} {G:Type} {φ:G→Prop} {Ye:G→Value} {cs':G→Array Value} {its:G→List Pc} {w0:World} {M0:Nat→Prop}
    (hc:Zbh P f vs.toArray pre al b t cs φ Ye cs' its)
    (ho:o.op= .call { callee:= .value (.func f),args:=xs.toArray,argTypes:=ats }) (hd:o.dst=some d) (hN:Nat.blt d N=true)
    (hargs:EvL env xs vs) (hcall:∀args w,(callFunc f args).run P w= .ok (.enter f args) w) (hH:lk H i=some (box b t cs)) (hi0:i≠0) (hpre:PreOk (drp i H) al pre)
    (h0:lk H 0=some (Xm w0 M0)) (hw:∀b,w0.heap.size≤b→sc b) (hM:M b) :
    T P N sc M o env H φ (fun g=>(d,Ye g) :: env) (fun g=>adds n (its g) ((i,box b t (cs' g)) :: H)):=fun a w hs K Q hK=>by
  have hr:(execOp a.eval o).run P w= .ok (.enter f vs.toArray) w:=by rw [Gg hs ho hargs,hcall]
  unfold Oper.wp
  rw [hr]
  have hbox:(box b t cs).holds w:=hs.hold i _ hH
  refine(hc w (fun p hp=>by
    obtain⟨j,it,_,hj,himp,hfp,_⟩:=hpre.mem p hp
    obtain⟨hne,hj⟩:=Fi _ _ _ _ hj
    exact⟨himp w (hs.hold j it hj),fun hb=>hs.sep i j _ it (Ne.symm hne) hH hj rfl b rfl (hfp b hb)⟩) hbox).mono ?_
  rintro e w' ⟨g,rfl,hg,hchg,hbox',hits⟩
  show K (a.put o.dst (Ye g)) w'
  rw [hd]
  have hs':Sat N sc env ((i,box b t (cs' g)) :: H) a w':=hs.upd hH rfl hi0 hchg hbox' (fun k hk=> .inl hk) h0 hw
  have hCM:Chg M w w':=⟨hchg.os,hchg.tape,hchg.output,hchg.size,fun k hk hn=>hchg.block k hk (fun e=>hn (by subst e;exact hM))⟩
  refine hK g _ _ hg (Sat.put (hs'.adds (w1:=w) (its g) n ?_) d _ hN) hCM
  intro p hp
  obtain⟨h1,h2,h3⟩:=hits p hp
  refine⟨h1,h2,fun k hk=>?_,fun j jt hj hown k hk hk'=>?_⟩
  · rcases h3 k hk with h | ⟨_,q,hq,hqb⟩
    · exact hw k (Nat.le_trans (hs.hold 0 _ h0).size h)
    · obtain⟨j,it,hj0,hj,_,hfp,_⟩:=hpre.mem q hq
      exact hs.scope j it hj0 (Fi _ _ _ _ hj).2 k (hfp k hqb)
  · have hlt:k<w.heap.size:=by
      by_cases hij:i=j
      · subst hij;rw [Yb]at hj;cases hj
        have:k=b:=hk'
        subst this
        exact(Array.getElem?_eq_some_iff.1 hbox).1
      · rw [Zl _ _ hij]at hj;exact jt.lt w k (hs.hold j jt hj) hk'
    rcases h3 k hk with h | ⟨hal,q,hq,hqb⟩
    · omega
    · obtain⟨j',it,hj0,hj',_,hfp,hno⟩:=hpre.mem q hq
      obtain⟨hne,hj'⟩:=Fi _ _ _ _ hj'
      by_cases hij:i=j
      · subst hij;rw [Yb]at hj;cases hj
        exact hs.sep i j' _ it (Ne.symm hne) hH hj' rfl k hk' (hfp k hqb)
      · rw [Zl _ _ hij]at hj
        by_cases hjj:j=j'
        · subst hjj;rw [hj']at hj;cases hj;rw [hno hal]at hown;cases hown
        · exact hs.sep j j' jt it hjj hj hj' hown k hk' (hfp k hqb)
def Yfc(P:Program)(fn:Func)(w0:World)(pre:List Pc)(al:Bool)(b:Nat)(t:TypeId){G:Type}(φ:G→Prop)(Ye:G→Value)(cs':G→Array Value)(its:G→List Pc):Exit→Act→World→Prop:=
  bodyPost P fn fun e w' => ∃ g, e = .returned (Ye g) ∧ φ g ∧ Chg (fun k => k = b) w0 w' ∧ (box b t (cs' g)).holds w' ∧
        ∀p∈its g,p.holds w'∧p.own=false∧∀k,p.fp k→w0.heap.size≤k∨(al=true∧∃q∈pre,q.fp k)
theorem Gu {f:FuncId} {fn:Func} {c:Code} {vs:List Value} {pre:List Pc} {al:Bool} {b:Nat} {t:TypeId} {cs:Array Value} {G:Type} {φ:G→Prop} {Ye:G→Value} {cs':G→Array Value} {its:G→List Pc} {N:Nat}
    (hf:P.funcs[f]? = some fn) (hb:fn.body=some c) (hN:fn.ntmps=N) (hle:Nat.ble vs.length N=true) (hro:AllRo pre)
    (h:∀w0 (sc:Nat→Prop),(∀k,w0.heap.size≤k→sc k)→(∀k,sc k→w0.heap.size≤k∨k=b∨∃q∈pre,q.fp k)→
      E P N sc c (Yfc P fn w0 pre al b t φ Ye cs' its) (Pa 0 vs) ((0,Xm w0 (fun k=>k=b)) :: (1,box b t cs) :: Xu 2 pre)) :
    Zbh P f vs.toArray pre al b t cs φ Ye cs' its:=fun w hp hbx=>by
  refine calls_of_wp hf hb (h w (fun k=>w.heap.size≤k∨k=b∨∃q∈pre,q.fp k) (fun k hk=> .inl hk) (fun k hk=>hk) _ w ?_)
  have hle:vs.length≤N:=by simpa using hle
  have hpre:∀i p,lk ((0,Xm w (fun k=>k=b)) :: (1,box b t cs) :: Xu 2 pre) i=some p→(i=0∧p=Xm w (fun k=>k=b))∨(i=1∧p=box b t cs)∨(i≠0∧i≠1∧p∈pre∧p.own=false):=fun i p hi=>by
      by_cases h0:0=i
      · subst h0;rw [Yb]at hi;cases hi;exact .inl ⟨rfl,rfl⟩
      · rw [Zl _ _ h0]at hi
        by_cases h1:1=i
        · subst h1;rw [Yb]at hi;cases hi;exact .inr (.inl ⟨rfl,rfl⟩)
        · rw [Zl _ _ h1]at hi
          obtain⟨_,hm⟩:=Oy pre 2 i p hi
          exact .inr (.inr ⟨fun e=>h0 e.symm,fun e=>h1 e.symm,hm,hro.mem p hm⟩)
  refine⟨by simp [hN];omega,rfl,fun t v ht=>?_,fun i p hi=>?_,fun i j p q hne hi hj ho k hk hk'=>?_,fun i p hi0 hi k hk=>?_⟩
  · have h1:vs.toArray[t]? = some v:=by simpa using(Hk vs 0 t v ht).2
    have hlt:=(Array.getElem?_eq_some_iff.1 h1).1
    rw [Array.getD_eq_getD_getElem?,Array.getElem?_append_left hlt,h1];rfl
  · rcases hpre i p hi with⟨_,rfl⟩ | ⟨_,rfl⟩ | ⟨_,_,hm,_⟩
    · exact Chg.refl _ w
    · exact hbx
    · exact(hp p hm).1
  · rcases hpre i p hi with⟨_,rfl⟩ | ⟨h1,rfl⟩ | ⟨_,_,hm,hown⟩
    · cases ho
    · have hkb:k=b:=hk
      subst hkb
      rcases hpre j q hj with⟨_,rfl⟩ | ⟨h2,rfl⟩ | ⟨_,_,hm,_⟩
      · exact hk'.2 rfl
      · exact hne (h1.trans h2.symm)
      · exact(hp q hm).2 hk'
    · rw [hown]at ho;cases ho
  · rcases hpre i p hi with⟨h0,_⟩ | ⟨_,rfl⟩ | ⟨_,_,hm,_⟩
    · exact absurd h0 hi0
    · exact .inr (.inl hk)
    · exact .inr (.inr ⟨p,hm,hk⟩)
theorem Fc {fn:Func} {pre:List Pc} {al:Bool} {b:Nat} {t:TypeId} {cs:Array Value} {G:Type} {φ:G→Prop} {Ye:G→Value} {cs':G→Array Value} {its:G→List Pc} {w0:World} {e:Exit} (he:e= .ret∨e= .normal) (hsc:∀k,sc k→w0.heap.size≤k∨k=b∨∃q∈pre,q.fp k)
    (g:G) (v:Value) (hres:∀a w,Sat N sc env H a w→(results fn a.tmps).run P w= .ok v w) (hv:Ye g=v) (hg:φ g) (i:Nat) (hi:lk H i=some (box b t cs)) (hcs:cs' g=cs) (hi0:Nat.beq i 0=false) (h0:lk H 0=some (Xm w0 (fun k=>k=b))) (hgive:Give (drp i H) al (its g)) :
    X N sc e (Yfc P fn w0 pre al b t φ Ye cs' its) env H:=fun a w hs=>by
  have key : a.defers = [] ∧ ∃ v, (results fn a.tmps).run P w = .ok v w ∧ (∃ g, Ending.returned v = .returned (Ye g) ∧ φ g ∧ Chg (fun k => k = b) w0 w ∧ (box b t (cs' g)).holds w ∧
        ∀p∈its g,p.holds w∧p.own=false∧∀k,p.fp k→w0.heap.size≤k∨(al=true∧∃q∈pre,q.fp k)):=by
    refine⟨hs.defers,v,hres a w hs,g,by rw [hv],hg,hs.hold 0 _ h0,by rw [hcs];exact hs.hold i _ hi,fun p hp=>?_⟩
    obtain⟨ho,h | ⟨h1,h2⟩⟩:=hgive.mem p hp
    case inr=>exact⟨h1 w,ho,fun b hb=>absurd hb (h2 b)⟩
    obtain⟨j,it,hj0,hj,himp,hfp,hal⟩:=h
    obtain⟨hne,hj⟩:=Fi _ _ _ _ hj
    refine⟨himp w (hs.hold j it hj),ho,fun k hk=>?_⟩
    have hk':=hfp k hk
    have hkb:k≠b:=fun e=>by subst e;exact hs.sep i j _ it (Ne.symm hne) hi hj rfl k rfl hk'
    cases al with
    | true=>
      rcases hsc k (hs.scope j it hj0 hj k hk')with h | h | h
      · exact .inl h
      · exact absurd h hkb
      · exact .inr ⟨rfl,h⟩
    | false=>
      have hown:=hal rfl
      have hn:=hs.sep j 0 it _ hj0 hj h0 hown k hk'
      refine .inl ?_
      rcases Nat.lt_or_ge k w0.heap.size with hlt | hge
      · exact absurd ⟨hlt,hkb⟩ hn
      · exact hge
  rcases he with rfl | rfl
  · exact key
  · exact key
end Go.Sky
namespace Go.Sky
open Go.RowKit (Below)
variable {P:Program} {N:Nat} {sc:Nat→Prop} {env env':Qw} {H H':Hp} {Q Q':Exit→Act→World→Prop} {M:Nat→Prop}
theorem d_mkf{o:Oper}{f:FuncId}{xs:List Operand}{vs:List Value}(ho:o.op= .makeFunc (.func f) xs.toArray #[])(hv:EvL env xs vs):Nt P N sc o env H (.func (.func f) vs.toArray #[]):=fun a w hs=>by
 have hm:=hv.map hs
 simp [execOp,ho,Instr.makeFunc,hm]
theorem Zj2 {a:Act} {w:World} (hs:Sat N sc env H a w) {o:Oper} {f:FuncId} {c:Operand} {xs:List Operand} {ats:Array TypeId} {fs vs:List Value} (ho:o.op= .call { callee:= .value c,args:=xs.toArray,argTypes:=ats })
  (hc:ev env c=some (.func (.func f) fs.toArray #[])) (hargs:EvL env xs vs):(execOp a.eval o).run P w=(callFunc f (fs ++ vs).toArray).run P w:=by
 have hm:=hargs.map hs
 simp [execOp,ho,resolve,invoke,hs.ev hc,Deferred.ofValue,hm]
theorem Zol {o:Oper} {f:FuncId} {c:Operand} {xs:List Operand} {ats:Array TypeId} {d n i b:Nat} {t:TypeId} {cs:Array Value} {fs vs:List Value} {pre:List Pc} {al:Bool} {G:Type} {φ:G→Prop} {Ye:G→Value} {cs':G→Array Value} {its:G→List Pc} {w0:World} {M0:Nat→Prop}
  (hc:Zbh P f (fs ++ vs).toArray pre al b t cs φ Ye cs' its)
  (ho:o.op= .call { callee:= .value c,args:=xs.toArray,argTypes:=ats }) (hcv:ev env c=some (.func (.func f) fs.toArray #[])) (hd:o.dst=some d) (hN:Nat.blt d N=true)
  (hargs:EvL env xs vs) (hcall:∀args w,(callFunc f args).run P w= .ok (.enter f args) w) (hH:lk H i=some (box b t cs)) (hi0:i≠0) (hpre:PreOk (drp i H) al pre)
  (h0:lk H 0=some (Xm w0 M0)) (hw:∀b,w0.heap.size≤b→sc b) (hM:M b) :
  T P N sc M o env H φ (fun g=>(d,Ye g) :: env) (fun g=>adds n (its g) ((i,box b t (cs' g)) :: H)):=fun a w hs K Q hK=>by
 have hr:(execOp a.eval o).run P w= .ok (.enter f (fs ++ vs).toArray) w:=by rw [Zj2 hs ho hcv hargs,hcall]
 let o2:Oper:={ o with op:= .call { callee:= .value (.func f),args:=((fs ++ vs).map Operand.const).toArray,argTypes:=ats } }
 have hev:∀l:List Value,EvL env (l.map Operand.const) l:=fun l=>by
  induction l with
  | nil=>trivial
  | cons v r ih=>exact⟨rfl,ih⟩
 have hr2:(execOp a.eval o2).run P w= .ok (.enter f (fs ++ vs).toArray) w:=by rw [Gg hs (o:=o2) rfl (hev _),hcall]
 have h2:o2.wp P a w K Q:=Qa (n:=n) (i:=i) (M:=M) hc (o:=o2) rfl hd hN (hev _) hcall hH hi0 hpre h0 hw hM a w hs K Q hK
 unfold Oper.wp at h2 ⊢
 rw [hr2]at h2
 rw [hr]
 exact h2
theorem Zey {ops:Array Oper} {ts:List Nat} {listed:Array Bool} {n m:Nat} (i j k:Nat) 
  (h1:Zn5 P N sc M ops ts Q n listed env H i) (h2:Zn5 P N sc M ops ts Q n listed env H j) (h3:Zn5 P N sc M ops ts Q n listed env H k) (hr:((Region.ready .any ops listed == [i,j,k]) && !(Ee ops ts listed) && !([i,j,k]:List Nat).isEmpty && Nat.beq (n+1) m)=true:=by kernel_rfl):A P N sc M ops ts Q m listed env H:=by
 rw [Bool.and_eq_true]at hr
 have h4:=Nat.eq_of_beq_eq_true hr.2
 subst h4
 exact a_br [i,j,k] hr.1 (fun q hq=>by
  simp only [List.mem_cons,List.not_mem_nil,or_false]at hq
  rcases hq with rfl | rfl | rfl
  ·exact h1
  ·exact h2
  ·exact h3)
theorem d_fld {o:Oper} {x:Operand} {t:TypeId} {f:Nat} {fs:Array Field} {fd:Field} {cs:Array Value} {v:Value} (ho:o.op= .field t x f)
  (hx:ev env x=some (.agg cs)) (ht:P.underlying t=some (.struct fs)) (hf:fs[f]? = some fd) (ha:∀w,(isAgg fd.type).run P w= .ok false w) (hv:cs[fd.offset]? = some v):Nt P N sc o env H v:=fun a w hs=>by
 simp [execOp,ho,hs.ev hx,Instr.field,run_underlying ht,hf,asAgg,part,ha,hv]
theorem Zs7{o:Oper}{x y:Operand}{t t':TypeId}{s s0:ByteArray}(ho:o.op= .binOp .eql t x y t')(hx:ev env x=some (.string s))(hy:ev env y=some (.string s0))(h0:s0.data.toList=[]) :
  Nt P N sc o env H (.bool (decide (s.size=0))):=fun a w hs=>by
 have h1:(s.toList == s0.toList)=decide (s.size=0):=by
  rw [ByteArray.toList_eq,ByteArray.toList_eq,h0]
  have:s.size=s.data.toList.length:=rfl
  rw [this]
  cases s.data.toList<;>simp
 simp [execOp,ho,hs.ev hx,hs.ev hy,eqGuard,binOp_string_eql,h1]
theorem Ydv {o:Oper} {op:BinOp} {t t':TypeId} {x y:Operand} {xs ys:Array Value} {r:Value} (ho:o.op= .binOp op t x y t') (hx:ev env x=some (.agg xs)) (hy:ev env y=some (.agg ys))
  (hm:P.eqGuardType P.depth t=false) (hr:∀w,(binOp op t (.agg xs) (.agg ys)).run P w= .ok r w):Nt P N sc o env H r:=fun a w hs=>by
 have hg:=run_eqGuard_agg (P:=P) w op t x y xs ys hm
 simp only [execOp,ho,hs.ev hx,hs.ev hy,Sem.run_bind,hg,hr w,Result.andThen_ok,Sem.run_pure]
abbrev SL:=Option Addr×Nat×Nat
abbrev Xb (s:SL):Value:= .slice s.1 s.2.1 s.2.2
theorem Px{α:Type}{k:Nat}{enc:α→Value}{v:Value}{xs:List α}{p:Pc}(i:Nat)(hi:lk H i=some p)(hr:Rd p k enc v xs):∀a w,Sat N sc env H a w→∃s:SL,v=Xb s:=fun a w hs=>by
 obtain⟨ad,c,rfl,_⟩:=hr w (hs.hold i p hi)
 exact⟨(ad,xs.length,c),rfl⟩
theorem Znh{c:Code}{α:Type}{p:α→Prop}(hp:∀a w,Sat N sc env H a w→∃x,p x)(h:∀x,p x→E P N sc c Q env H):E P N sc c Q env H:=fun a w hs=>by
 obtain⟨x,hx⟩:=hp a w hs
 exact h x hx a w hs
theorem Zrl{e:Exit}{α:Type}{p:α→Prop}(hp:∀a w,Sat N sc env H a w→∃x,p x)(h:∀x,p x→X N sc e Q env H):X N sc e Q env H:=fun a w hs=>by
 obtain⟨x,hx⟩:=hp a w hs
 exact h x hx a w hs
theorem Zya{ops:Array Oper}{rest:List Oper}{α:Type}{p:α→Prop}(hp:∀a w,Sat N sc env H a w→∃x,p x)(h:∀x,p x→L P N sc ops rest Q env H):L P N sc ops rest Q env H:=fun a w hs=>by
 obtain⟨x,hx⟩:=hp a w hs
 exact h x hx a w hs
def Ia{β:Type}(q:β→Pc)(zs:List β):Pc:=
 {own:=false,fp:=fun b=>∃z∈zs,(q z).fp b,holds:=fun w=>∀z∈zs,(q z).holds w
  lt:=fun w b h hb=>by obtain⟨z,hz,hb⟩:=hb;exact(q z).lt w b (h z hz) hb
  stable:=fun w w' h hc z hz=>(q z).stable w w' (h z hz) ⟨hc.os,hc.tape,hc.output,hc.size,fun k hk hn=>hc.block k hk (fun hf=>hn (fun hq=>hf ⟨z,hz,hq⟩))⟩ }
def Pz{β:Type}(k:Nat)(enc:β→Value)(q:β→Pc)(v:Value)(zs:List β):Pc:=
 {own:=false,fp:=fun b=>(zs≠[]∧v.ownBlock=some b)∨∃z∈zs,(q z).fp b,holds:=fun w=>(Yh k enc v zs).holds w∧(Ia q zs).holds w
  lt:=fun w b h hb=>by
   rcases hb with hb | hb
   ·exact(Yh k enc v zs).lt w b h.1 hb
   ·exact(Ia q zs).lt w b h.2 hb
  stable:=fun w w' h hc=>⟨(Yh k enc v zs).stable w w' h.1 ⟨hc.os,hc.tape,hc.output,hc.size,fun k hk hn=>hc.block k hk (fun hf=>hn (fun hq=>hf (.inl hq)))⟩,
   (Ia q zs).stable w w' h.2 ⟨hc.os,hc.tape,hc.output,hc.size,fun k hk hn=>hc.block k hk (fun hf=>hn (fun hq=>hf (.inr hq)))⟩⟩ }
theorem Zn{β:Type}{k:Nat}{enc:β→Value}{q:β→Pc}{v:Value}{zs:List β} : Rd (Pz k enc q v zs) k enc v zs:=fun w h=>h.1.1
theorem Zcd{p q:Pc}(i j:Nat)(hi:lk H i=some p)(hi0:Nat.beq i 0=false)(ho:p.own=false)(hh:∀w,p.holds w→q.holds w)(hf:∀b,q.fp b→p.fp b)(hq:q.own=false):∀a w,Sat N sc env H a w→Sat N sc env ((j,q) :: H) a w:=fun a w hs=>
 hs.add j q (hh w (hs.hold i p hi)) (fun j' jt _ hj Ka b hb hb'=>by
  rcases Ka with Ka | Ka
  ·rw [hq]at Ka;cases Ka
  ·by_cases hij:j'=i
   ·subst hij;rw [hi]at hj;cases hj;rw [ho]at Ka;cases Ka
   ·exact hs.sep j' i jt p hij hj hi Ka b hb' (hf b hb)) (fun b hb=>hs.scope i p (fun e=>by subst e;simp at hi0) hi b (hf b hb))
theorem Zct{β:Type}{q:β→Pc}{zs:List β}(i j:Nat)(z:β)(hi:lk H i=some (Ia q zs))(hi0:Nat.beq i 0=false)(hz:z∈zs)(hq:(q z).own=false):∀a w,Sat N sc env H a w→Sat N sc env ((j,q z) :: H) a w:=
 Zcd i j hi hi0 rfl (fun w h=>h z hz) (fun b hb=>⟨z,hz,hb⟩) hq
theorem Al{β:Type}{k:Nat}{enc:β→Value}{q:β→Pc}{v:Value}{zs:List β}(i j:Nat)(z:β)(hi:lk H i=some (Pz k enc q v zs))(hi0:Nat.beq i 0=false)(hz:z∈zs)(hq:(q z).own=false):∀a w,Sat N sc env H a w→Sat N sc env ((j,q z) :: H) a w:=
 Zcd i j hi hi0 rfl (fun w h=>h.2 z hz) (fun b hb=> .inr ⟨z,hz,hb⟩) hq
theorem Zhy{β:Type}{k:Nat}{enc:β→Value}{q:β→Pc}{v:Value}{zs:List β}(i j:Nat)(hi:lk H i=some (Pz k enc q v zs))(hi0:Nat.beq i 0=false):∀a w,Sat N sc env H a w→Sat N sc env ((j,Ia q zs) :: H) a w:=
 Zcd i j hi hi0 rfl (fun w h=>h.2) (fun b hb=> .inr hb) rfl
theorem Zj{β:Type}{zs:List β}{i:Nat}{d:β}(h:i<zs.length:=by omega):zs.getD i d∈zs:=by
 rw [List.getD_eq_getElem?_getD,List.getElem?_eq_getElem h];exact List.getElem_mem h
theorem Zrz{p q r:Pc}(i j n:Nat)(hi:lk H i=some p)(hj:lk H j=some q)(hi0:Nat.beq i 0=false)(hj0:Nat.beq j 0=false)(ho:p.own=false)(hoq:q.own=false)(hh:∀w,p.holds w→q.holds w→r.holds w)(hf:∀b,r.fp b→p.fp b∨q.fp b)(hr:r.own=false) :
  ∀a w,Sat N sc env H a w→Sat N sc env ((n,r) :: H) a w:=fun a w hs=>
 hs.add n r (hh w (hs.hold i p hi) (hs.hold j q hj)) (fun j' jt _ hj' Ka b hb hb'=>by
  rcases Ka with Ka | Ka
  ·rw [hr]at Ka;cases Ka
  ·rcases hf b hb with h | h
   ·by_cases hij:j'=i
    ·subst hij;rw [hi]at hj';cases hj';rw [ho]at Ka;cases Ka
    ·exact hs.sep j' i jt p hij hj' hi Ka b hb' h
   ·by_cases hij:j'=j
    ·subst hij;rw [hj]at hj';cases hj';rw [hoq]at Ka;cases Ka
    ·exact hs.sep j' j jt q hij hj' hj Ka b hb' h) (fun b hb=>by
  rcases hf b hb with h | h
  ·exact hs.scope i p (fun e=>by subst e;simp at hi0) hi b h
  ·exact hs.scope j q (fun e=>by subst e;simp at hj0) hj b h)
theorem Pi{β:Type}{k:Nat}{enc:β→Value}{q:β→Pc}{v:Value}{zs:List β}(i j n:Nat)(hi:lk H i=some (Yh k enc v zs))(hj:lk H j=some (Ia q zs))(hi0:Nat.beq i 0=false)(hj0:Nat.beq j 0=false) :
  ∀a w,Sat N sc env H a w→Sat N sc env ((n,Pz k enc q v zs) :: H) a w:=
 Zrz i j n hi hj hi0 hj0 rfl rfl (fun w h1 h2=>⟨h1,h2⟩) (fun b hb=>hb) rfl
theorem Yw{β:Type}(q:β→Pc)(n:Nat):∀a w,Sat N sc env H a w→Sat N sc env ((n,Ia q ([]:List β)) :: H) a w:=fun a w hs=>
 hs.add n _ (fun z hz=>by cases hz) (fun j' jt _ _ Ka b hb hb'=>by obtain⟨z,hz,_⟩:=hb;cases hz) (fun b hb=>by obtain⟨z,hz,_⟩:=hb;cases hz)
theorem Zi{β:Type}{q:β→Pc}{zs:List β}{z:β}(i j n:Nat)(hi:lk H i=some (Ia q zs))(hj:lk H j=some (q z))(hi0:Nat.beq i 0=false)(hj0:Nat.beq j 0=false)(hq:(q z).own=false) :
  ∀a w,Sat N sc env H a w→Sat N sc env ((n,Ia q (zs ++ [z])) :: H) a w:=
 Zrz i j n hi hj hi0 hj0 rfl hq (fun w h1 h2 y hy=>by
  rcases List.mem_append.1 hy with h | h
  ·exact h1 y h
  ·rw [List.mem_singleton.1 h];exact h2) (fun b hb=>by
  obtain⟨y,hy,hb⟩:=hb
  rcases List.mem_append.1 hy with h | h
  ·exact .inl ⟨y,h,hb⟩
  ·rw [List.mem_singleton.1 h]at hb;exact .inr hb) rfl
end Go.Sky
namespace Go.Sky
open Go.RowKit (Below)
variable {P:Program} {N:Nat} {sc:Nat→Prop} {env env':Qw} {H H':Hp} {Q Q':Exit→Act→World→Prop} {M:Nat→Prop}
def Off(H:Hp)(ks:List Nat):Nat→Prop:=fun x=>∀k∈ks,∀p,lk H k=some p→¬p.fp x
def Agr(H0 H:Hp):List Nat→Prop
 | []=>True
 | k :: r=>lk H k=lk H0 k∧Agr H0 H r
theorem Agr.mem{H0 H:Hp} : ∀{ks:List Nat},Agr H0 H ks→∀k∈ks,lk H k=lk H0 k
 | k :: r,h,j,hj=>by
  cases hj with
  | head=>exact h.1
  | tail _ hj=>exact Agr.mem h.2 j hj
def rst(ks:List Nat):Hp→Hp
 | []=>[]
 | (i,p) :: r=>cond (ks.any (Nat.beq i)) ((i,p) :: rst ks r) (rst ks r)
theorem Zfh(ks:List Nat):∀(H:Hp) (i:Nat) (p:Pc),lk (rst ks H) i=some p→i∈ks∧lk H i=some p
 | [],_,_,h=>by cases h
 | (j,q) :: r,i,p,h=>by
  unfold rst at h
  cases hb:ks.any (Nat.beq j)with
  | true=>
   rw [hb]at h
   simp only [cond_true]at h
   by_cases hk:j=i
   ·subst hk
    rw [Yb]at h ⊢
    obtain⟨x,hx,he⟩:=List.any_eq_true.1 hb
    have:=Nat.eq_of_beq_eq_true he
    subst this
    exact⟨hx,h⟩
   ·rw [Zl _ _ hk]at h ⊢
    exact Zfh ks r i p h
  | false=>
   rw [hb]at h
   simp only [cond_false]at h
   obtain⟨h1,h2⟩:=Zfh ks r i p h
   refine⟨h1,?_⟩
   have hne:j≠i:=fun e=>by
    subst e
    have:ks.any (Nat.beq j)=true:=List.any_eq_true.2 ⟨j,h1,O7⟩
    rw [hb]at this;cases this
   rw [Zl _ _ hne];exact h2
theorem Ln {id:Nat} {l:List Oper} (ks:List Nat) (ts:List Nat) 
  (h:A P N sc (Off H ks) l.toArray ts Q l.length (Array.replicate l.length false) env H) (hm:P.follows .mixedOrders=true:=by kernel_rfl):E P N sc (.region id l.toArray true) Q env H:=Kg (Off H ks) ts h hm
theorem stf{o:Oper}{v:Value}{H0:Hp}{ks:List Nat}(hv:Nt P N sc o env (rst ks H) v)(ha:Agr H0 H ks):Stb P N sc (Off H0 ks) o env H v:=fun a w hs w' hc=>by
 refine hv a w' ⟨hs.size,hs.defers,hs.env,fun i it hi=>?_,fun i j it jt hne hi hj=>hs.sep i j it jt hne (Zfh _ _ _ _ hi).2 (Zfh _ _ _ _ hj).2,fun i it h0 hi=>hs.scope i it h0 (Zfh _ _ _ _ hi).2⟩
 obtain⟨hm,hi'⟩:=Zfh _ _ _ _ hi
 refine it.stable w w' (hs.hold i it hi') ⟨hc.os,hc.tape,hc.output,hc.size,fun q hq hn=>hc.block q hq (fun ho=>hn (fun hf=>?_))⟩
 exact ho i hm it (by rw [←ha.mem i hm];exact hi') hf
theorem Zzj {o:Oper} {t:TypeId} {d i:Nat} {z:Value} {cs:Array Value} {w0:World} {M0:Nat→Prop} {H0:Hp} {ks:List Nat} (ho:o.op= .alloc t) (hd:o.dst=some d) (hN:Nat.blt d N=true)
  (hz:∀w,(zeroValue t).run P w= .ok z w) (hc:z.cells=cs) (h0:lk H 0=some (Xm w0 M0)) (hw:∀b,w0.heap.size≤b→sc b) (ha:Agr H0 H ks) :
  T P N sc (Off H0 ks) o env H (G:=Nat) (fun b=>Off H0 ks b) (fun b=>(d,.pointer (some ⟨b,0,none⟩)) :: env) (fun b=>(i,box b t cs) :: H):=fun a w hs K Q hK=>by
 subst hc
 have hr:(execOp a.eval o).run P w= .ok (.value (.pointer (some ⟨w.heap.size,0,none⟩))) (w.alloc (.cells z.cells t)):=by
  simp [execOp,ho,Instr.alloc,hz,newVar,newRow]
 unfold Oper.wp
 rw [hr]
 show K (a.put o.dst _) _
 rw [hd]
 exact hK w.heap.size _ _ (fun k hk p hp hf=>by
  rw [←ha.mem k hk]at hp
  exact absurd (p.lt w _ (hs.hold k p hp) hf) (Nat.lt_irrefl _)) ((hs.new h0 hw i (box w.heap.size t z.cells) (.cells z.cells t) (heap_alloc_new w _) (fun b hb=>hb)).put d _ hN) (Chg.alloc _ _ _)
theorem Me{p q:Pc}(i:Nat)(h:p=q)(hi:lk H i=some p)(hi0:Nat.beq i 0=false):∀a w,Sat N sc env H a w→Sat N sc env ((i,q) :: H) a w:=fun a w hs=>by
 subst h
 exact Zlr i hi rfl (fun _ h=>h) (fun _ h=>h) hi0 a w hs
theorem Hz{ops:Array Oper}{ts:List Nat}{n:Nat}{listed:Array Bool}(hi:∀a w,Sat N sc env H a w→Sat N sc env' H' a w)(h:A P N sc M ops ts Q n listed env' H'):A P N sc M ops ts Q n listed env H:=fun a w hs=>h a w (hi a w hs)
theorem Zzd{o:Oper}{t:TypeId}{x:Operand}{m r:Int}(ho:o.op= .unOp .neg t x)(hx:ev env x=some (.int .u64 m))(hr:(-m)%18446744073709551616=r):Nt P N sc o env H (.int .u64 r):=fun a w hs=>by
 rw [←hr,←Zlg]
 simp [execOp,ho,hs.ev hx,Op.unary,Op.intArith]
theorem Yh2{o:Oper}{t t':TypeId}{x:Operand}{k:IntKind}{m r:Int}{ds:TypeDesc}(ho:o.op= .convert t t' x)(hx:ev env x=some (.int k m))(hs0:P.underlying t=some ds)(ht:P.underlying t'=some (.int .u64))(hr:m%18446744073709551616=r) :
  Nt P N sc o env H (.int .u64 r):=Ze1 ho hx hs0 ht (by rw [Zlg];exact hr)
theorem Sat.yieldedu{a:Act}{w:World}(h:Sat N sc env H a w){ops:Array Oper}{j d:Nat}(hj:(ops[j]?).bind (·.dst)=some d)(hd:lk env d=some undef):Go.yielded ops a.tmps j=none:=by
 have h1:=h.env d _ hd
 unfold Go.yielded
 rw [hj]
 simp only [Option.bind_some]
 rw [Array.getD_eq_getD_getElem?]at h1
 cases hx:a.tmps[d]? with
 | none=>rfl
 | some v=>rw [hx]at h1;simp only [Option.getD_some]at h1;subst h1;rfl
theorem gsku {ops:Array Oper} {rest:List Oper} {d:Nat} {ty:TypeId} {pos:String} {af:Array Edge} {op:Op} {j e:Nat} {b:Bool} (hj:(ops[j]?).bind (·.dst)=some e) (he:lk env e=some undef) (hN:Nat.blt d N=true)
  (h:L P N sc ops rest Q ((d,undef) :: env) H):L P N sc ops (⟨some d,op,ty,pos,af,some (j,b)⟩ :: rest) Q env H:=fun a w hs=>
 wpList_step fun K hK=>by
  have hy:=hs.yieldedu hj he
  have hw:Region.wanted ⟨some d,op,ty,pos,af,some (j,b)⟩ (yielded ops a.tmps)=false:=by simp [Region.wanted,hy]
  rw [hw,if_neg O7]
  exact hK _ _ (h _ _ (hs.put d undef hN))
def nop:Pc:={ own:=false,fp:=fun _=>False,holds:=fun _=>True,lt:=fun _ _ _ h=>h.elim,stable:=fun _ _ _ _=>trivial }
theorem s_move{p:Pc}(i j:Nat)(hi:lk H i=some p)(hi0:Nat.beq i 0=false)(hj0:Nat.beq j 0=false)(hij:Nat.beq i j=false):∀a w,Sat N sc env H a w→Sat N sc env ((j,p) :: (i,nop) :: H) a w:=fun a w hs=>by
 have hi0:i≠0:=fun e=>by subst e;simp at hi0
 have hj0:j≠0:=fun e=>by subst e;simp at hj0
 have hij:i≠j:=fun e=>by subst e;simp at hij
 refine⟨hs.size,hs.defers,hs.env,fun k kt hk=>?_,fun k k' kt kt' hne hk hk' ho b hb hb'=>?_,fun k kt hk0 hk b hb=>?_⟩
 ·by_cases h1:j=k
  ·subst h1;rw [Yb]at hk;cases hk;exact hs.hold i p hi
  ·rw [Zl _ _ h1]at hk
   by_cases h2:i=k
   ·subst h2;rw [Yb]at hk;cases hk;trivial
   ·rw [Zl _ _ h2]at hk;exact hs.hold k kt hk
 ·by_cases h1:j=k
  ·subst h1;rw [Yb]at hk;cases hk
   rw [Zl _ _ hne]at hk'
   by_cases h2:i=k'
   ·subst h2;rw [Yb]at hk';cases hk';exact hb'
   ·rw [Zl _ _ h2]at hk';exact hs.sep i k' p kt' h2 hi hk' ho b hb hb'
  ·rw [Zl _ _ h1]at hk
   by_cases h2:i=k
   ·subst h2;rw [Yb]at hk;cases hk;cases ho
   ·rw [Zl _ _ h2]at hk
    by_cases h3:j=k'
    ·subst h3;rw [Yb]at hk';cases hk';exact hs.sep k i kt p (Ne.symm h2) hk hi ho b hb hb'
    ·rw [Zl _ _ h3]at hk'
     by_cases h4:i=k'
     ·subst h4;rw [Yb]at hk';cases hk';exact hb'
     ·rw [Zl _ _ h4]at hk';exact hs.sep k k' kt kt' hne hk hk' ho b hb hb'
 ·by_cases h1:j=k
  ·subst h1;rw [Yb]at hk;cases hk;exact hs.scope i p hi0 hi b hb
  ·rw [Zl _ _ h1]at hk
   by_cases h2:i=k
   ·subst h2;rw [Yb]at hk;cases hk;exact hb.elim
   ·rw [Zl _ _ h2]at hk;exact hs.scope k kt hk0 hk b hb
theorem fill3(u0 u1 a0 a1 b0 b1 c0 c1:Value):Instr.fill (fun i=>some (i*2,2)) ((List.range (3*2)).map ((Value.agg #[u0,u1]).cells[· % (Value.agg #[u0,u1]).cells.size]!)).toArray [(0,.agg #[a0,a1]),(1,.agg #[b0,b1]),(2,.agg #[c0,c1])]=some #[a0,a1,b0,b1,c0,c1]:=by
 simp [Instr.fill,Value.cells,List.range,List.range.loop]
 try rfl
end Go.Sky
namespace Go.Sky
theorem Zrh(k:Nat):U^k=256^(8*k):=by rw [show U=256^8 from rfl,←Nat.pow_mul]
theorem Zbf(k:Nat):U^k=2^(64*k):=by rw [show U=2^64 from rfl,←Nat.pow_mul]
theorem Xl:0<U:=by simp [U]
theorem Ye0{o xs ys:List Nat}{k c:Nat}(h:Ye U (o.take k)+c*U^k=Ye U (xs.take k)+Ye U (ys.take k))(hk:k<o.length) :
  Ye U ((o.set k ((xs.getD k 0+ys.getD k 0+c)%U)).take (k+1))+(xs.getD k 0+ys.getD k 0+c)/U*U^(k+1)=Ye U (xs.take (k+1))+Ye U (ys.take (k+1)):=by
 rw [Er _ _ _ _ hk,Xr,Xr,Nat.pow_succ]
 generalize xs.getD k 0=a at *
 generalize ys.getD k 0=b at *
 generalize U^k=B at *
 have h1:=Nat.mod_add_div (a+b+c) U
 have h2:(a+b+c)%U*B+(a+b+c)/U*(B*U)=(a+b+c)*B:=by
  conv=>rhs;rw [←h1]
  rw [Nat.add_mul,Nat.mul_comm B U,←Nat.mul_assoc,Nat.mul_comm ((a+b+c)/U) U]
 rw [Nat.add_mul,Nat.add_mul]at h2
 omega
theorem Zzo{o xs ys:List Nat}{k c:Nat}(hc:c≤1)(hx:xs.getD k 0<U)(hy:ys.getD k 0<U)(h:Ye U (o.take k)+Ye U (ys.take k)=Ye U (xs.take k)+c*U^k)(hk:k<o.length) :
  Ye U ((o.set k ((xs.getD k 0+U-ys.getD k 0-c)%U)).take (k+1))+Ye U (ys.take (k+1))=Ye U (xs.take (k+1))+brw (xs.getD k 0) (ys.getD k 0) c*U^(k+1):=by
 unfold brw
 rw [Er _ _ _ _ hk,Xr,Xr,Nat.pow_succ]
 generalize xs.getD k 0=a at *
 generalize ys.getD k 0=b at *
 generalize U^k=B at *
 by_cases hl:a<b+c
 ·rw [if_pos hl]
  have h1:(a+U-b-c)%U+b+c=a+U:=by rw [Nat.mod_eq_of_lt O];omega
  have h2:((a+U-b-c)%U+b+c)*B=(a+U)*B:=by rw [h1]
  rw [Nat.add_mul,Nat.add_mul,Nat.add_mul]at h2
  rw [Nat.one_mul,Nat.mul_comm B U]
  omega
 ·rw [if_neg hl]
  have h1:(a+U-b-c)%U+b+c=a:=by
   rw [show a+U-b-c=(a-b-c)+U by omega,Nat.add_mod_right,Nat.mod_eq_of_lt O];omega
  have h2:((a+U-b-c)%U+b+c)*B=a*B:=by rw [h1]
  rw [Nat.add_mul,Nat.add_mul]at h2
  omega
theorem Zkc(b:Nat)(xs:List Nat)(k:Nat)(hk:k<xs.length):Ye b xs=Ye b (xs.take k)+xs.getD k 0*b^k+b^(k+1)*Ye b (xs.drop (k+1)):=by
 conv=>lhs;rw [←List.take_append_drop (k+1) xs]
 rw [Ou,Xr,List.length_take,Nat.min_eq_left O]
theorem Znq{b:Nat}(hb:0<b){xs ys:List Nat}(hx:∀d∈xs,d<b){k:Nat}(hkx:k<xs.length)(hky:k<ys.length)(hd:xs.drop (k+1)=ys.drop (k+1))(h:xs.getD k 0<ys.getD k 0):Ye b xs<Ye b ys:=by
 rw [Zkc b xs k hkx,Zkc b ys k hky,hd]
 have h1:Ye b (xs.take k)<b^k:=by
  have:=Ze0 hb (xs.take k) (fun d hd=>hx d (List.mem_of_mem_take hd))
  rwa [List.length_take,Nat.min_eq_left O]at this
 have h2:(xs.getD k 0+1)*b^k≤ys.getD k 0*b^k:=Nat.mul_le_mul_right _ h
 rw [Nat.add_mul]at h2
 omega
theorem Zej{xs ys:List Nat}{k:Nat}(hx:k<xs.length)(hy:k<ys.length)(hd:xs.drop (k+1)=ys.drop (k+1))(h:xs.getD k 0=ys.getD k 0):xs.drop k=ys.drop k:=by
 rw [List.drop_eq_getElem_cons hx,List.drop_eq_getElem_cons hy,hd]
 simp [List.getD,hx,hy]at h
 rw [h]
theorem Bt{b x y:Nat}(hb:2≤b)(h:(dg b x).length<(dg b y).length):x<y:=by
 have h1:=(Xj hb (dg b x).length x).1 (Nat.le_refl _)
 have h2:=(Oh hb (dg b x).length y).1 h
 omega
theorem Zua{x:Nat}(h:0<x):bl x=(dg U x).length*64-(64-bl ((dg U x).getD ((dg U x).length-1) 0))∧bl ((dg U x).getD ((dg U x).length-1) 0)≤64∧0<(dg U x).length∧0<bl ((dg U x).getD ((dg U x).length-1) 0):=by
 have hpos:0<(dg U x).length:=by rw [Oh Xi,Nat.pow_zero];omega
 have h1:U^((dg U x).length-1)≤x:=(Oh Xi _ x).1 O
 have h2:x<U^(dg U x).length:=(Xj Xi _ x).1 (Nat.le_refl _)
 have h3:x/U^((dg U x).length-1)<U:=by
  rw [Nat.div_lt_iff_lt_mul (Nat.pow_pos Xl),Nat.mul_comm,←Nat.pow_succ,show((dg U x).length-1).succ=(dg U x).length by omega];exact h2
 rw [Ir Xi,Nat.mod_eq_of_lt h3,Zbf,Ij]
 have h4:64*((dg U x).length-1)<bl x:=by rw [Zae,←Zbf];exact h1
 have h5:bl x≤64*(dg U x).length:=by rw [Xw,←Zbf];exact h2
 refine⟨?_,?_,hpos,?_⟩<;>omega
theorem Zit(x:Nat):(dg 256 x).length=(bl x+7)/8:=by
 have h1:∀k,(dg 256 x).length≤k↔(bl x+7)/8≤k:=fun k=>by
  rw [Xj O,show 256^k=2^(8*k) by rw [show 256=2^8 from rfl,←Nat.pow_mul],←Xw];omega
 have h2:=(h1 (dg 256 x).length).1 (Nat.le_refl _)
 have h3:=(h1 ((bl x+7)/8)).2 (Nat.le_refl _)
 omega
theorem lenU(x:Nat):(dg U x).length=((dg 256 x).length+7)/8:=by
 have h1:∀k,(dg U x).length≤k↔((dg 256 x).length+7)/8≤k:=fun k=>by
  rw [Xj Xi,Zrh,←Xj O];omega
 have h2:=(h1 (dg U x).length).1 (Nat.le_refl _)
 have h3:=(h1 (((dg 256 x).length+7)/8)).2 (Nat.le_refl _)
 omega
theorem Zc6{xs ys:List Nat}(hl:xs.length=ys.length)(h:∀i,i<xs.length→xs.getD i 0=ys.getD i 0):xs=ys:=by
 apply List.ext_getElem hl
 intro i h1 h2
 have:=h i h1
 simpa [List.getD,h1,h2]using this
theorem Pv{α:Type}(o:List α)(i j:Nat)(d z:α)(hi:i<o.length):(o.set i d).getD j z=if i=j then d else o.getD j z:=by
 by_cases h:i=j
 ·subst h;simp [List.getD,hi]
 ·rw [if_neg h];simp [List.getD,List.getElem?_set_ne h]
theorem Lx(n i:Nat):(List.replicate n 0).getD i 0=0:=by
 simp only [List.getD,List.getElem?_replicate];split<;>rfl
theorem Znw(x k:Nat):x/U^(k/8)%U/2^(k%8*8)%256=x/256^k%256:=by
 have hk:=Nat.div_add_mod k 8
 have h8:k%8<8:=Nat.mod_lt _ O
 have h1:U=256^(k%8)*256^(8-k%8):=by rw [←Nat.pow_add,show k%8+(8-k%8)=8 by omega]
 have h2:(2:Nat)^(k%8*8)=256^(k%8):=by rw [show(256:Nat)=2^8 from rfl,←Nat.pow_mul,Nat.mul_comm]
 have h3:x/U^(k/8)/256^(k%8)=x/256^k:=by rw [Nat.div_div_eq_div_mul,Zrh,←Nat.pow_add,hk]
 rw [h2]
 conv=>lhs;rw [h1]
 rw [Nat.mod_mul_right_div_self,←h1,h3,show 8-k%8=(8-k%8-1)+1 by omega,Nat.pow_succ,Nat.mod_mul_left_mod]
def hi(x m w:Nat):Nat:=x/256^m*256^m/U^w%U
theorem Yco{x m w:Nat}(h:m≤8*w):hi x m w=x/U^w%U:=by
 unfold hi
 rw [Zrh,show 8*w=m+(8*w-m) by omega,Nat.pow_add,←Nat.div_div_eq_div_mul,Nat.mul_div_cancel _ (Nat.pow_pos O),Nat.div_div_eq_div_mul]
theorem hi_lt{x m w:Nat}(h:8*w+8≤m):hi x m w=0:=by
 unfold hi
 rw [Zrh,show m=8*w+(8+(m-8*w-8)) by omega,Nat.pow_add 256 (8*w),Nat.mul_comm (256^(8*w)),←Nat.mul_assoc,Nat.mul_div_cancel _ (Nat.pow_pos O),Nat.pow_add 256 8]
 rw [show U=256^8 from rfl,Nat.mul_left_comm,Nat.mul_mod_right]
theorem Ycn{x m w r:Nat}(h:m=8*w+r)(hr:r≤8):hi x m w=x/256^m*256^r%U:=by
 unfold hi
 subst h
 rw [Zrh]
 conv=>lhs;rw [Nat.pow_add 256 (8*w) r,Nat.mul_comm (256^(8*w)),←Nat.mul_assoc,Nat.mul_div_cancel _ (Nat.pow_pos O)]
 rw [Nat.mul_comm (256^r) (256^(8*w)),←Nat.pow_add]
theorem Yhh(x k:Nat):hi x (k+1) (k/8) ||| (x/256^k%256*2^(k%8*8))%U=hi x k (k/8):=by
 have hk:=Nat.div_add_mod k 8
 have h8:k%8<8:=Nat.mod_lt _ O
 rw [Ycn (r:=k%8+1) O O,Ycn (r:=k%8) O O]
 have h2:(2:Nat)^(k%8*8)=256^(k%8):=by rw [show(256:Nat)=2^8 from rfl,←Nat.pow_mul,Nat.mul_comm]
 rw [h2]
 generalize k%8=r at *
 have hq:x/256^(k+1)=x/256^k/256:=by rw [Nat.pow_succ,Nat.div_div_eq_div_mul]
 rw [hq]
 generalize x/256^k=z
 have hU:U=256^(r+1)*256^(7-r):=by rw [←Nat.pow_add,show r+1+(7-r)=8 by omega]
 have hd:z%256*256^r<256^(r+1):=by rw [Nat.pow_succ,Nat.mul_comm (256^r)];exact(Nat.mul_lt_mul_right (Nat.pow_pos O)).2 (Nat.mod_lt _ O)
 have hle:256^(r+1)≤U:=by rw [hU];exact Nat.le_mul_of_pos_right _ (Nat.pow_pos O)
 rw [Nat.mod_eq_of_lt (Nat.lt_of_lt_of_le hd hle)]
 have hA:z/256*256^(r+1)%U=256^(r+1)*(z/256%256^(7-r)):=by rw [hU,Nat.mul_comm (z/256),Nat.mul_mod_mul_left]
 rw [hA]
 have h3:(256:Nat)^(r+1)=2^(8*(r+1)):=by rw [show(256:Nat)=2^8 from rfl,←Nat.pow_mul]
 have Ka:=Nat.two_pow_add_eq_or_of_lt (b:=z%256*256^r) (i:=8*(r+1)) (by rw [←h3];exact hd) (z/256%256^(7-r))
 rw [←h3]at Ka
 rw [←Ka]
 have hz:z=256*(z/256)+z%256:=(Nat.div_add_mod z 256).symm
 have h4:z*256^r=256^(r+1)*(z/256)+z%256*256^r:=by
  conv=>lhs;rw [hz]
  rw [Nat.add_mul,Nat.pow_succ,Nat.mul_comm (256^r) 256,Nat.mul_assoc,Nat.mul_assoc,Nat.mul_comm (z/256)]
 rw [h4,hU]
 have h5:256^(r+1)*(z/256)+z%256*256^r=z%256*256^r+256^(r+1)*(z/256):=O
 rw [h5,Nat.mod_mul,Nat.add_mul_mod_self_left,Nat.mod_eq_of_lt hd,Nat.add_mul_div_left _ _ (Nat.pow_pos O),Nat.div_eq_of_lt hd,Nat.zero_add]
 omega
theorem Nb(x:Nat):(dg U x).length=(bl x+63)/64:=by
 have h1:∀k,(dg U x).length≤k↔(bl x+63)/64≤k:=fun k=>by
  rw [Xj Xi,Zbf,←Xw];omega
 have h2:=(h1 (dg U x).length).1 (Nat.le_refl _)
 have h3:=(h1 ((bl x+63)/64)).2 (Nat.le_refl _)
 omega
theorem bl_add(x y:Nat):bl (x+y)≤max (bl x) (bl y)+1:=by
 rw [Xw,Nat.pow_succ]
 have h1:=Fx x
 have h2:=Fx y
 have h3:2^bl x≤2^max (bl x) (bl y):=Nat.pow_le_pow_right O O
 have h4:2^bl y≤2^max (bl x) (bl y):=Nat.pow_le_pow_right O O
 omega
theorem Zjn(x y:Nat):bl (x*y)≤bl x+bl y:=by
 rw [Xw,Nat.pow_add]
 rcases Nat.eq_zero_or_pos y with rfl | hy
 ·rw [Nat.mul_zero];exact Nat.mul_pos (Nat.pow_pos O) (Nat.pow_pos O)
 ·exact Nat.mul_lt_mul_of_lt_of_le (Fx x) (Nat.le_of_lt (Fx y)) (Nat.pow_pos O)
theorem Zgm(b:Nat)(o:List Nat)(n p r:Nat)(hp:p<o.length)(hn:p<n):Ye b ((o.set p r).take n)+o.getD p 0*b^p=Ye b (o.take n)+r*b^p:=by
 induction n with
 | zero=>omega
 | succ n ih=>
  rw [Xr b (o.set p r) n,Xr b o n,Pv _ _ _ _ _ hp]
  by_cases h:p=n
  ·subst h
   rw [if_pos rfl,Zjy];omega
  ·rw [if_neg h]
   have:=ih O
   omega
theorem Zx0{x y a c:Nat}(hx:x<U)(hy:y<U)(ha:a<U)(hc:c<U) :
  ((x*y%U+a+0)%U+c+0)%U+U*(((x*y/U+(x*y%U+a+0)/U)%U+((x*y%U+a+0)%U+c+0)/U)%U)=x*y+a+c∧
  ((x*y/U+(x*y%U+a+0)/U)%U+((x*y%U+a+0)%U+c+0)/U)%U<U:=by
 have h:x*y≤18446744073709551615*18446744073709551615:=Nat.mul_le_mul (by simp only [U]at hx;omega) (by simp only [U]at hy;omega)
 generalize x*y=p at *
 simp only [U]at *
 omega
theorem Ybw {xs ys o:List Nat} {i k c V r c' n:Nat} (hv:Ye U (o.take n)+c*U^(i+k)=V+xs.getD i 0*U^i*Ye U (ys.take k)) (hp:i+k<o.length) (hn:i+k<n)
  (hr:r+U*c'=xs.getD i 0*ys.getD k 0+o.getD (i+k) 0+c):Ye U ((o.set (i+k) r).take n)+c'*U^(i+(k+1))=V+xs.getD i 0*U^i*Ye U (ys.take (k+1)):=by
 have h1:=Zgm U o n (i+k) r hp hn
 rw [Xr,show i+(k+1)=i+k+1 by omega,Nat.pow_succ]
 have hx:xs.getD i 0*U^i*(ys.getD k 0*U^k)=xs.getD i 0*ys.getD k 0*U^(i+k):=by rw [Nat.pow_add];ac_rfl
 rw [Nat.mul_add,hx]
 have h2:(r+U*c')*U^(i+k)=(xs.getD i 0*ys.getD k 0+o.getD (i+k) 0+c)*U^(i+k):=by rw [hr]
 rw [Nat.add_mul,Nat.add_mul,Nat.add_mul,Nat.mul_comm U c',Nat.mul_assoc c',Nat.mul_comm U]at h2
 omega
theorem Zf9 {P:Program} {N:Nat} {sc:Nat→Prop} {env:Qw} {H:Hp} {o:Oper} {x y:Operand} {t:TypeId} {s:ByteArray} {kd:IntKind} {m:Int} {i:Nat} (ho:o.op= .index t x y)
  (hx:ev env x=some (.string s)) (hy:ev env y=some (.int kd m)) (ht:P.underlying t=some .string)
  (him:m=(i:Int)) (hlt:i<256) (hs:s.size=256) (htab:∀i,i<256→(s.data.toList.getD i 0).toNat=bl i):Nt P N sc o env H (.int .u8 (bl i:Int)):=by
 rw [←htab i hlt]
 exact Ydt ho hx hy ht him 
theorem Ybx {x y:Nat} (hx:x<U) (hy:y<U) (hi lo:Nat)
  (h1:hi=(((x/4294967296)*(y/4294967296)%U+(((x/4294967296)*(y &&& 4294967295)%U+((x &&& 4294967295)*(y &&& 4294967295)%U)/4294967296)%U)/4294967296)%U +
   (((((x/4294967296)*(y &&& 4294967295)%U+((x &&& 4294967295)*(y &&& 4294967295)%U)/4294967296)%U &&& 4294967295)+(x &&& 4294967295)*(y/4294967296)%U)%U)/4294967296)%U)
  (h2:lo=x*y%U):hi=x*y/U:=by
 have hm:∀n:Nat,n &&& 4294967295=n%4294967296:=fun n=>Nat.and_two_pow_sub_one_eq_mod n 32
 subst h1
 simp only [hm]
 have ex:=Nat.div_add_mod x 4294967296
 have ey:=Nat.div_add_mod y 4294967296
 have bx:=Nat.mod_lt x (show 4294967296>0 by omega)
 have bY:=Nat.mod_lt y (show 4294967296>0 by omega)
 have cx:x/4294967296≤4294967295:=by simp only [U]at hx;omega
 have cy:y/4294967296≤4294967295:=by simp only [U]at hy;omega
 generalize x/4294967296=a at *
 generalize x%4294967296=b at *
 generalize y/4294967296=c at *
 generalize y%4294967296=d at *
 subst ex;subst ey
 have e:(4294967296*a+b)*(4294967296*c+d)=18446744073709551616*(a*c)+4294967296*(a*d)+4294967296*(b*c)+b*d:=by
  rw [Nat.add_mul,Nat.mul_add,Nat.mul_add,Nat.mul_mul_mul_comm,Nat.mul_assoc 4294967296 a d,Nat.mul_left_comm b 4294967296 c];omega
 rw [e]
 have p1:a*c≤4294967295*4294967295:=Nat.mul_le_mul cx cy
 have p2:a*d≤4294967295*4294967295:=Nat.mul_le_mul cx O
 have p3:b*c≤4294967295*4294967295:=Nat.mul_le_mul O cy
 have p4:b*d≤4294967295*4294967295:=Nat.mul_le_mul O O
 generalize a*c=p at *
 generalize a*d=q at *
 generalize b*c=r at *
 generalize b*d=s at *
 simp only [U]
 omega
theorem Zwq(m:Nat):bl (m%256)≤8:=(Xw 8 _).2 (Nat.mod_lt _ O)
theorem Cp(m:Nat):Xx ((bl (m%256):Nat):Int):=by have:=Zwq m;exact⟨O,O⟩
theorem Ea{c:Int}(m:Nat)(h0:0≤c)(h1:c≤1000):Xx (c+((bl (m%256):Nat):Int)):=by have:=Zwq m;exact⟨O,O⟩
theorem Co{c:Int}{m n:Nat}(hm:m<256)(h:c+(bl m:Int)=(bl n:Int)):Value.int .i64 (c+((bl (m%256):Nat):Int))=Value.int .i64 (bl n:Int):=by
 rw [Nat.mod_eq_of_lt hm,h]
theorem Zm1{α:Type}(xs:List α)(i:Nat)(d:α)(h:i<xs.length):xs.reverse.getD i d=xs.getD (xs.length-1-i) d:=by
 have h1:i<xs.reverse.length:=by simpa using h
 have h2:xs.length-1-i<xs.length:=O
 simp [List.getD,List.getElem?_eq_getElem h2,List.getElem?_eq_getElem h1]
theorem hi_top{x m w:Nat}(h:(dg 256 x).length≤m):hi x m w=0:=by
 have:=(Xj (b:=256) O m x).1 h
 unfold hi
 rw [Nat.div_eq_of_lt this];simp
theorem Ycm{x k w:Nat}(h:k/8≠w):hi x (k+1) w=hi x k w:=by
 by_cases h1:k+1≤8*w
 ·rw [Yco h1,Yco O]
 ·rw [hi_lt O,hi_lt O]
set_option maxRecDepth 20000
theorem Ye6:U=2^64:=rfl
theorem Ybn(a b s:Nat)(hb:b<2^s):a*2^s ||| b=a*2^s+b:=by
 rw [Nat.mul_comm,Nat.two_pow_add_eq_or_of_lt hb]
theorem Zc8{l s:Nat}(hs:s≤64)(hl:l<U):l/2^(64-s)<2^s:=by
 rw [Nat.div_lt_iff_lt_mul (Nat.two_pow_pos _),←Nat.pow_add,show s+(64-s)=64 by omega];exact hl
theorem Zf6{l s:Nat}(hs:s≤64):l*2^s/U=l/2^(64-s):=by
 rw [Ye6,show(2:Nat)^64=2^(64-s)*2^s by rw [←Nat.pow_add,show 64-s+s=64 by omega],Nat.mul_div_mul_right _ _ (Nat.two_pow_pos s)]
theorem Ybm{h l s:Nat}(hs:s≤64)(hh:h*2^s<U)(hl:l<U):(h*2^s%U) ||| (l/2^(64-s))=(h*U+l)*2^s/U:=by
 rw [Nat.mod_eq_of_lt hh,Ybn _ _ _ (Zc8 hs hl),Nat.add_mul,show h*U*2^s=U*(h*2^s) by rw [Nat.mul_right_comm,Nat.mul_comm],Nat.mul_add_div Xl,Zf6 hs]
theorem Zx2(h l s:Nat):l*2^s%U=(h*U+l)*2^s%U:=by
 rw [Nat.add_mul,show h*U*2^s=U*(h*2^s) by rw [Nat.mul_right_comm,Nat.mul_comm],Nat.mul_add_mod]
theorem Zre(x:Nat):x &&& 4294967295=x%4294967296:=Nat.and_two_pow_sub_one_eq_mod x 32
def dvI(u v y1 y0 q r:Nat):Prop:=q*y1+r=u∧q≤4294967297∧(u*4294967296+v)/(y1*4294967296+y0)≤q
section
variable {u v y1 y0 q r:Nat}
theorem dv_Q(hv:v<4294967296)(hu:u<y1*4294967296+y0):(u*4294967296+v)/(y1*4294967296+y0)<4294967296:=by
 rw [Nat.div_lt_iff_lt_mul O]
 have:(u+1)*4294967296≤(y1*4294967296+y0)*4294967296:=Nat.mul_le_mul_right _ hu
 omega
theorem dv0(h1:2147483648≤y1)(h2:y1<4294967296)(h0:y0<4294967296)(hv:v<4294967296)(hu:u<y1*4294967296+y0):dvI u v y1 y0 (u/y1) (u%y1):=by
 refine⟨by rw [Nat.mul_comm];exact Nat.div_add_mod u y1,?_,?_⟩
 ·rw [←Nat.lt_succ_iff,Nat.div_lt_iff_lt_mul O]
  show u<4294967298*y1
  omega
 ·have hp:0<y1*4294967296+y0:=O
  refine Nat.le_of_lt_succ ((Nat.div_lt_iff_lt_mul hp).2 ?_)
  have h3:=Nat.div_add_mod u y1
  have h4:=Nat.mod_lt u (show 0<y1 by omega)
  generalize u/y1=q at *
  have h5:u+1≤y1*(q+1):=by rw [Nat.mul_add];omega
  have h6:(u+1)*4294967296≤y1*(q+1)*4294967296:=Nat.mul_le_mul_right _ h5
  have h7:(q+1)*(y1*4294967296+y0)=y1*(q+1)*4294967296+(q+1)*y0:=by rw [Nat.mul_add,Nat.mul_comm y1 (q+1),Nat.mul_assoc (q+1) y1]
  show u*4294967296+v<(q+1)*(y1*4294967296+y0)
  rw [h7];omega
theorem Yde(hi:q*y1+r=u):q*(y1*4294967296+y0)+r*4294967296=u*4294967296+q*y0:=by
 rw [Nat.mul_add,←hi,Nat.add_mul,Nat.mul_assoc];omega
theorem Znj(hp:0<y1)(hi:dvI u v y1 y0 q r)(hle:q*y0≤4294967296*r+v):q=(u*4294967296+v)/(y1*4294967296+y0):=by
 obtain⟨h1,h2,h3⟩:=hi
 refine Nat.le_antisymm ((Nat.le_div_iff_mul_le O).2 ?_) h3
 have:=Yde (y0:=y0) h1
 omega
theorem Zg4(hp:0<y1)(hi:dvI u v y1 y0 q r)(hv:v<4294967296)(hu:u<y1*4294967296+y0)(hc:4294967296≤q∨4294967296*r+v<q*y0) :
  1≤q∧dvI u v y1 y0 (q-1) (r+y1):=by
 obtain⟨h1,h2,h3⟩:=hi
 have hlt:(u*4294967296+v)/(y1*4294967296+y0)<q:=by
  rcases hc with hc | hc
  ·exact Nat.lt_of_lt_of_le (dv_Q hv hu) hc
  ·rw [Nat.div_lt_iff_lt_mul O]
   have:=Yde (y0:=y0) h1
   omega
 have hq:1≤q:=Nat.lt_of_le_of_lt (Nat.zero_le _) hlt
 refine⟨hq,?_,O,Nat.le_sub_one_of_lt hlt⟩
 obtain⟨p,rfl⟩:∃p,q=p+1:=⟨q-1,O⟩
 rw [Nat.add_mul]at h1
 simp only [Nat.add_sub_cancel];omega
theorem Zeh(hp:0<y1)(h0:y0<4294967296)(hi:dvI u v y1 y0 q r)(hq:q≤4294967296)(hr:4294967296≤r):q=(u*4294967296+v)/(y1*4294967296+y0):=by
 refine Znj hp hi ?_
 have h1:q*y0≤4294967296*y0:=Nat.mul_le_mul_right _ hq
 have h2:4294967296*4294967296≤4294967296*r:=Nat.mul_le_mul_left _ hr
 omega
theorem Zpv(hq:q<4294967296)(h0:y0<4294967296):q*y0<18446744073709551616:=by
 have h1:q*y0≤4294967295*y0:=Nat.mul_le_mul_right _ O
 omega
end
theorem wsub{a b c m:Nat}(ha:a%U=c%U)(hb:b%U=m%U)(hm:m≤c)(hlt:c-m<U):(a+(U-b%U))%U=c-m:=by
 have h1:b%U<U:=Nat.mod_lt _ Xl
 have h2:(c-m)%U=c-m:=Nat.mod_eq_of_lt hlt
 simp only [U]at *
 omega
theorem Zvu{y u v:Nat}(hp:0<y)(hy:y<U):((u*4294967296%U+v)%U+(U-((u*4294967296+v)/y*y)%U))%U=(u*4294967296+v)%y:=by
 have h1:=Nat.div_add_mod (u*4294967296+v) y
 have h2:=Nat.mod_lt (u*4294967296+v) hp
 rw [Nat.mul_comm y]at h1
 rw [wsub (c:=u*4294967296+v) (m:=(u*4294967296+v)/y*y) (by simp only [U];omega) rfl O O]
 omega
theorem Yhx{A b D y:Nat}(hp:0<y)(e1:D=A*4294967296+b):D/y=A/y*4294967296+(A%y*4294967296+b)/y∧D%y=(A%y*4294967296+b)%y:=by
 have e2:=Nat.div_add_mod A y
 have e3:D=y*(A/y*4294967296)+(A%y*4294967296+b):=by
  conv=>lhs;rw [e1,←e2]
  rw [Nat.add_mul,Nat.mul_assoc];omega
 constructor
 ·conv=>lhs;rw [e3]
  rw [Nat.mul_add_div hp]
 ·conv=>lhs;rw [e3]
  rw [Nat.mul_add_mod]
theorem dv_two{D y u v v1 v0:Nat}(hp:0<y)(hu:u=D/U)(hv:v=D%U)(h1:v1=v/4294967296)(h0:v0=v%4294967296) :
  D/y=(u*4294967296+v1)/y*4294967296+((u*4294967296+v1)%y*4294967296+v0)/y∧D%y=((u*4294967296+v1)%y*4294967296+v0)%y:=
 Yhx hp (by subst hu hv h1 h0;simp only [U];omega)
theorem Zkl(n y s:Nat):n*2^s/(y*2^s)=n/y:=Nat.mul_div_mul_right _ _ (Nat.two_pow_pos s)
theorem Zkk(n y s:Nat):n*2^s%(y*2^s)/2^s=n%y:=by rw [Nat.mul_mod_mul_right,Nat.mul_div_cancel _ (Nat.two_pow_pos s)]
theorem Ybr{y s:Nat}(hp:0<y)(hy:y<U)(hs:s=64-bl y):9223372036854775808≤y*2^s∧y*2^s<U:=by
 have h1:bl y≤64:=(Xw 64 y).2 hy
 have h2:=Fx y
 have h3:=(Znx hp).1
 have h4:(2:Nat)^bl y*2^s=U:=by rw [←Nat.pow_add,show bl y+s=64 by omega]
 have h5:y*2^s<2^bl y*2^s:=Nat.mul_lt_mul_of_pos_right h2 (Nat.two_pow_pos s)
 have h6:2^(bl y-1)*2^s≤y*2^s:=Nat.mul_le_mul_right _ h3
 have h7:2^(bl y-1)*2^s=9223372036854775808:=by
  have:1≤bl y:=by
   rcases Nat.eq_zero_or_pos (bl y)with h | h
   ·rw [h]at h2;omega
   ·exact h
  rw [←Nat.pow_add,show bl y-1+s=63 by omega]
 omega
theorem rsub{u y:Nat}(hp:0<y)(hu:u<U):(u+(U-(u/y*y)%U))%U=u%y:=by
 have h1:=Nat.div_add_mod u y
 rw [Nat.mul_comm y]at h1
 rw [wsub (c:=u) (m:=u/y*y) rfl rfl O O]
 omega
theorem Ah{m n:Nat}(h:m=n):Value.int .u64 (m:Int)= .int .u64 (n:Int):=by rw [h]
theorem Za0{m n:Int}(h:m=n):Value.int .i64 m= .int .i64 n:=by rw [h]
theorem Zqt{a:Nat}(h1:1≤a)(h:a<U):(a+(U-1))%U=a-1:=by
 rw [show a+(U-1)=a-1+U by simp only [U]at *;omega,Nat.add_mod_right,Nat.mod_eq_of_lt O]
theorem shl_lt{h y s:Nat}(hh:h<y)(hY:y*2^s<U):h*2^s<U:=Nat.lt_of_le_of_lt (Nat.mul_le_mul_right _ (Nat.le_of_lt hh)) hY
theorem top_lt{h l y s:Nat}(hl:l<U)(hh:h<y):(h*U+l)*2^s/U<y*2^s:=by
 rw [Nat.div_lt_iff_lt_mul Xl]
 have h1:(h+1)*U≤y*U:=Nat.mul_le_mul_right _ hh
 have h2:h*U+l<y*U:=by rw [Nat.add_mul]at h1;omega
 rw [Nat.mul_right_comm]
 exact Nat.mul_lt_mul_of_pos_right h2 (Nat.two_pow_pos s)
end Go.Sky
namespace Go.Sky
set_option maxRecDepth 20000
theorem Zmg(a b s:Nat)(hb:b<2^s):b ||| a*2^s=a*2^s+b:=by rw [Nat.or_comm,Ybn _ _ _ hb]
theorem Zdr(Y t:Nat)(ht:t≤64):Y*2^t%U=Y%2^(64-t)*2^t:=by
 rw [Ye6,show(2:Nat)^64=2^(64-t)*2^t by rw [←Nat.pow_add,show 64-t+t=64 by omega],Nat.mul_mod_mul_right]
theorem Zi8{r b:Nat}(hb:b≤64)(hr:r<U):r/2^b<2^(64-b):=by
 have:=Zc8 (l:=r) (s:=64-b) O hr
 rwa [show 64-(64-b)=b by omega]at this
theorem Zou(Y b:Nat)(hb:b≤64):Y%U/2^b ||| (Y/U%U)*2^(64-b)%U=Y/2^b%U:=by
 have hr:Y%U<U:=Nat.mod_lt _ Xl
 rw [Zdr _ _ O,Zmg _ _ _ (Zi8 hb hr),show 64-(64-b)=b by omega]
 have h1:Y/U%U%2^b=Y/U%2^b:=by
  rw [Ye6];exact Nat.mod_mod_of_dvd _ (Nat.pow_dvd_pow 2 hb)
 rw [h1]
 have h2:U=2^b*2^(64-b):=by rw [←Nat.pow_add,show b+(64-b)=64 by omega]
 have h3:=Nat.div_add_mod Y U
 have h4:Y/2^b=2^(64-b)*(Y/U)+Y%U/2^b:=by
  conv=>lhs;rw [←h3]
  conv=>lhs;rw [show U*(Y/U)=2^b*(2^(64-b)*(Y/U)) by rw [←Nat.mul_assoc,←h2]]
  rw [Nat.mul_add_div (Nat.two_pow_pos b)]
 rw [h4]
 have h5:=Zi8 hb hr
 generalize Y/U=q at *
 generalize Y%U=r at *
 conv=>rhs;rw [h2,Nat.mul_comm (2^b)]
 rw [Nat.mod_mul,Nat.mul_add_div (Nat.two_pow_pos _),Nat.mul_add_mod,Nat.mod_eq_of_lt h5,Nat.div_eq_of_lt h5,Nat.add_zero,Nat.add_comm,Nat.mul_comm]
theorem Zxh(Y b:Nat)(hb:b≤64)(hY:Y/U=0):Y%U/2^b=Y/2^b%U:=by
 have:=Zou Y b hb
 rw [hY]at this
 simpa using this
theorem Zym{α:Type}(xs:List α)(w j:Nat)(d:α):(xs.drop w).getD j d=xs.getD (w+j) d:=by
 simp [List.getD,List.getElem?_drop]
theorem Bg{x s w b:Nat}(hw:w=s/64)(hb:b=s%64):x/2^s=x/U^w/2^b:=by
 rw [Zbf,Nat.div_div_eq_div_mul,←Nat.pow_add,show 64*w+b=s by omega]
theorem Zqm(x b i:Nat):x/2^b/U^i=x/U^i/2^b:=by rw [Nat.div_div_eq_div_mul,Nat.mul_comm,←Nat.div_div_eq_div_mul]
theorem Zvx(x w j:Nat):((dg U x).drop w).getD j 0=x/U^w/U^j%U:=by
 rw [Zym,Ir Xi,Nat.pow_add,Nat.div_div_eq_div_mul]
theorem Zvc{x w n:Nat}(h:(dg U x).length≤w+n):x/U^w<U^n:=by
 rw [Nat.div_lt_iff_lt_mul (Nat.pow_pos Xl),←Nat.pow_add,Nat.add_comm]
 exact(Xj Xi _ _).1 h
theorem drop_set{α:Type}(o:List α)(k:Nat)(d:α)(h:k<o.length):(o.set k d).drop k=d :: o.drop (k+1):=by
 rw [List.drop_set,if_neg O,Nat.sub_self,List.drop_eq_getElem_cons h];rfl
theorem Za4{α:Type}(z:α)(o:List α)(k:Nat)(h:k<o.length):o.drop k=o.getD k z :: o.drop (k+1):=by
 rw [List.drop_eq_getElem_cons h];simp [List.getD,List.getElem?_eq_getElem h]
theorem Zrs{o xs:List Nat}{d k r:Nat}(hd:0<d)(hk:k+1≤o.length)(hx:k+1≤xs.length)(hv:Ye U (o.drop (k+1))*d+r=Ye U (xs.drop (k+1))) :
  Ye U ((o.set k ((r*U+xs.getD k 0)/d)).drop k)*d+(r*U+xs.getD k 0)%d=Ye U (xs.drop k):=by
 rw [drop_set _ _ _ O,Za4 0 xs k O]
 simp only [Ye]
 have h1:=Nat.div_add_mod (r*U+xs.getD k 0) d
 rw [←hv]
 generalize (r*U+xs.getD k 0)/d=q at *
 generalize (r*U+xs.getD k 0)%d=m at *
 generalize Ye U (o.drop (k+1))=V at *
 rw [Nat.add_mul,Nat.mul_add,Nat.mul_comm q d]
 have h2:U*V*d=U*(V*d):=Nat.mul_assoc _ _ _
 have h3:U*r=r*U:=Nat.mul_comm _ _
 omega
theorem Zz9 {o xs:List Nat} {i w b n:Nat} (hb:b≤63) (hn:n=o.length) (hp:w+i+1<n) (hc:o.getD (w+i) 0<2^b) (hz:o.getD (w+i+1) 0=0) (hx:xs.getD i 0<U)
  (hv:Ye U (o.take n)=Ye U (xs.take i)*2^b*U^w) :
  Ye U (((o.set (w+i) (o.getD (w+i) 0 ||| xs.getD i 0*2^b%U)).set (w+i+1) (xs.getD i 0/2^(64-b))).take n)=Ye U (xs.take (i+1))*2^b*U^w:=by
 have e1:=Zgm U (o.set (w+i) (o.getD (w+i) 0 ||| xs.getD i 0*2^b%U)) n (w+i+1) (xs.getD i 0/2^(64-b)) O8 O
 have e2:=Zgm U o n (w+i) (o.getD (w+i) 0 ||| xs.getD i 0*2^b%U) O O
 rw [Pv _ _ _ _ _ O,if_neg O,hz]at e1
 rw [Zdr _ _ O,Zmg _ _ _ hc,←Zdr _ _ O]at e2 
 rw [Zdr _ _ O,Zmg _ _ _ hc,←Zdr _ _ O]at e1 ⊢
 rw [←Zf6 (by omega:b≤64)]at e1 ⊢
 rw [Xr]
 generalize xs.getD i 0=X at *
 generalize o.getD (w+i) 0=C at *
 have e3:X*2^b*U^(w+i)=(X*2^b%U)*U^(w+i)+X*2^b/U*U^(w+i+1):=by
  conv=>lhs;rw [←Nat.div_add_mod (X*2^b) U]
  rw [Nat.add_mul,Nat.pow_succ U (w+i),Nat.mul_comm U,Nat.mul_assoc (X*2^b/U),Nat.mul_comm U];omega
 have e4:(Ye U (xs.take i)+X*U^i)*2^b*U^w=Ye U (xs.take i)*2^b*U^w+X*2^b*U^(w+i):=by
  rw [Nat.add_mul,Nat.add_mul,Nat.pow_add]
  congr 1
  rw [Nat.mul_right_comm X,Nat.mul_assoc,Nat.mul_assoc,Nat.mul_comm (U^i)]
  simp only [Nat.mul_assoc]
 rw [e4,←hv,e3]
 rw [Nat.add_mul]at e2
 omega
theorem Zj1(o:List Nat)(j:Nat)(h:o.getD j 0=0):o.set j 0=o:=by
 rcases Nat.lt_or_ge j o.length with hj | hj
 ·refine Zc6 O7 (fun i _=>?_)
  rw [Pv _ _ _ _ _ hj]
  split
  ·rename_i e;rw [←e,h]
  ·rfl
 ·exact List.set_eq_of_length_le hj
theorem Zql{d r n:Nat}(hn:n<U)(hr:r<d):(r*U+n)/d<U:=by
 rw [Nat.div_lt_iff_lt_mul O]
 have:(r+1)*U≤d*U:=Nat.mul_le_mul_right _ hr
 rw [Nat.mul_comm U]
 rw [Nat.add_mul]at this
 omega
end Go.Sky

