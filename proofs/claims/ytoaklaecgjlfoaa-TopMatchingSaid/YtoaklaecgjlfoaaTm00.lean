/- Rules, arithmetic and contracts: part 1. No conditions but those that each theorem names. -/
import Derived.Tactics
import Derived.Tactics2
import Derived.Orders
import Derived.Below
import Derived.Laws.AppendOwn
import Derived.Laws.MakeOwn
import Derived.KernelRfl
set_option linter.all false
def aA:=@List.getD_eq_getElem?_getD
def aB:=@trivial
def aC:=@Rat.mul_nonneg
def aD:=@List.length_pos_iff
def aE:=@List.eq_nil_of_length_eq_zero
def aF:=@List.getElem?_eq_getElem
def aG:=@if_neg
def aH:=@Nat.le_refl
def aI:=@List.length_take
def aJ:=@List.length_append
def aK:=@if_pos
def aL:=@Array.getElem?_eq_some_iff
def aM:=@Nat.le_trans
def aN:=@Rat.mul_pos
def aO:=@decide_eq_false
def aP:=@Classical.byContradiction
def aQ:=@decide_eq_true
def aR:=@List.getElem?_append_right
def aS:=@List.length_set
def aT:=@Int.mul_ne_zero
def aU:=@congrArg
def aV:=@List.getElem?_append_left
def aW:=@Nat.zero_le
def aX:=@List.getElem?_take
def aY:=@List.mem_singleton
def aZ:=@Nat.not_lt_zero
def bA:=@Array.getD_eq_getD_getElem?
def bB:=@of_decide_eq_true
def bC:=@List.mem_cons_of_mem
def bD:=@Nat.lt_or_ge
def bE:=@Nat.lt_succ_iff_lt_or_eq
def bF:=@List.length_cons
def bG:=@List.mem_append
def bH:=@Bool.and_eq_true
def bI:=@Nat.mul_le_mul_right
def bJ:=@List.length_replicate
def bK:=@List.map_cons
def bL:=@List.getElem?_eq_none
def bM:=@List.mem_cons_self
def bN:=@Array.length_toList
def bO:=@Nat.mul_le_mul_left
def bP:=@Nat.le_of_lt
def bQ:=@Rat.le_of_lt
def bR:=@List.mem_range
def bT:=@Nat.mul_le_mul
def bW:=@Int.toNat_natCast
def bX:=@Rat.mul_le_mul_of_nonneg_right
def bZ:=@List.take_of_length_le
def cD:=@decide_eq_true_eq
def cE:=@Nat.eq_zero_or_pos
def cF:=@Nat.pow_pos
def cH:=@Int.mul_le_mul_of_nonneg_right
def cI:=@Int.mul_nonneg
def cJ:=@Int.mul_zero
def cK:=@Int.zero_mul
def cL:=@Int.le_refl
def cM:=@List.append_assoc
def cN:=@Int.natAbs_mul
def cP:=@Nat.eq_of_beq_eq_true
def cQ:=@List.mem_map
def cT:=@List.getElem?_replicate
def cW:=@Nat.lt_of_lt_of_le
def cY:=@List.length_map
def cZ:=@List.length_nil
def dA:=@List.mem_cons
def dB:=@Nat.add_mul
def dC:=@Int.mul_comm
def dD:=@Int.natAbs_natCast
def dE:=@Rat.mul_eq_zero
def dG:=@List.all_eq_true
def dH:=@List.getElem?_eq_some_iff
def dI:=@List.getElem?_map
def dJ:=@Nat.pow_succ
def dK:=@Nat.zero_add
def dL:=@Int.mul_eq_zero
def dM:=@Int.natAbs_dvd_natAbs
def dO:=@List.length_singleton
def dS:=@List.length_drop
def dU:=@Nat.mul_comm
def dV:=@List.mem_iff_getElem
def dW:=@Rat.inv_pos
def dX:=@Nat.pow_le_pow_right
def dY:=@List.getElem?_set
def dZ:=@Nat.min_eq_left
def eA:=@List.nodup_cons
def eC:=@Int.toNat_of_nonneg
def eD:=@Int.pow_zero
def eE:=@List.take_length
def eF:=@Nat.lt_succ_self
def eG:=@Bool.false_ne_true
def eH:=@List.getElem?_drop
def eI:=@Nat.mul_pos
def eJ:=@List.flatMap_cons
def eK:=@List.ext_getElem?
def eN:=@List.size_toArray
def eO:=@Nat.pow_add
def eP:=@Nat.sub_self
def eQ:=@Classical.not_not
def eR:=@List.mem_of_mem_take
def eT:=@List.mem_append_left
def eU:=@Int.mul_assoc
def eV:=@Int.dvd_trans
def eW:=@List.getElem_of_mem
def eX:=@Nat.mod_eq_of_lt
def eY:=@List.map_toArray
def eZ:=@List.nodup_range
def fA:=@List.Nodup.length_le_of_subset
def fB:=@Int.one_mul
def fC:=@List.take_append_of_le_length
def fD:=@Nat.add_sub_cancel
def fE:=@Nat.lt_of_le_of_lt
def fF:=@Nat.add_right_comm
def fG:=@Int.add_zero
def fH:=@of_decide_eq_false
def fI:=@List.map_append
def fJ:=@Int.gcd_dvd_right
def fK:=@Int.dvd_mul_right
def fL:=@Nat.mul_lt_mul_of_pos_right
def fM:=@Array.getElem?_append_left
def fN:=@Nat.mul_lt_mul_of_pos_left
def fO:=@Rat.div_def
def fP:=@List.mem_of_getElem?
def fQ:=@Int.dvd_zero
def fR:=@Int.lt_or_le
def fS:=@Int.eq_of_mul_eq_mul_left
def fT:=@Int.ediv_mul_cancel
def fU:=@Nat.div_add_mod
def fV:=@List.nil_append
def fW:=@List.foldl_cons
def fX:=@Int.mul_nonpos_of_nonpos_of_nonneg
def fY:=@decide_eq_true_iff
def fZ:=@Int.mul_pos
def gC:=@Rat.le_refl
def gD:=@Bool.not_eq_true'
def gE:=@Nat.add_zero
def gF:=@List.map_nil
def gG:=@Int.pow_succ
def gJ:=@List.map_map
def gK:=@List.length_filter_eq_length_iff
def gM:=@List.cons_append
def gN:=@Nat.mod_lt
def gO:=@List.getElem_mem
def gP:=@Int.gcd_dvd_left
def gQ:=@Ne.symm
def gR:=@Rat.mul_assoc
def gT:=@Nat.div_lt_of_lt_mul
def gU:=@Int.add_mul
def gV:=@Int.mul_le_mul_of_nonneg_left
def gW:=@Int.natAbs_of_nonneg
def gX:=@List.range_succ
def gY:=@Bool.or_eq_true
def hO:=@Int.natCast_add
def hZ:=@Nat.pow_le_pow_left
def iA:=@Nat.zero_mul
def iB:=@Int.zero_add
def iC:=@Nat.mul_lt_mul_of_lt_of_le
def iD:=@Nat.eq_of_mul_eq_mul_right
def iE:=@Rat.mul_inv_cancel
def iF:=@Int.natCast_nonneg
def iG:=@List.filter_append
def iH:=@Nat.lt_of_le_of_ne
def iI:=@Array.getElem?_eq_getElem
def iJ:=@List.pairwise_iff_getElem
def iK:=@Option.some.injEq
def iL:=@not_true_eq_false
def iM:=@Int.self_le_toNat
def iN:=@Int.mul_add
def iO:=@Int.mul_left_comm
def iP:=@List.getElem_take
def iQ:=@List.take_add_one
def iR:=@List.nodup_append
def iS:=@Nat.lt_succ_of_le
def iT:=@Nat.add_assoc
def iU:=@Nat.le_of_dvd
def iV:=@Int.mul_ediv_cancel_left
def iW:=@List.ext_getElem
def iX:=@Nat.div_eq_of_lt
def iY:=@List.mem_flatMap
def iZ:=@Nat.le_mul_of_pos_right
def jA:=@Nat.gcd_dvd_left
def jB:=@decide_eq_false_iff_not
def jC:=@Int.le_of_lt
def jD:=@Nat.succ_pos
def jE:=@Int.natAbs_ediv_of_dvd
def jF:=@Rat.mul_comm
def jG:=@List.length_pos_of_mem
def jH:=@Int.le_trans
def jI:=@List.eq_nil_or_concat
def jJ:=@Nat.le_of_ble_eq_true
def jK:=@List.take_append_drop
def jL:=@Bool.and_eq_false_iff
def jM:=@Nat.add_mul_div_right
def jN:=@Nat.ble_eq_true_of_le
def jO:=@List.getElem?_toArray
def jP:=@List.length_filter_le
def jQ:=@List.mem_of_mem_head?
def jR:=@List.mem_append_right
def jS:=@List.length_mergeSort
def jT:=@List.take_zero
def jU:=@List.take_left
def jV:=@List.take_take
def jW:=@Int.mul_ediv_cancel'
def jX:=@Int.dvd_neg
def jY:=@Int.mul_neg
def jZ:=@Int.mul_le_mul
def kA:=@List.nodup_nil
def kB:=@if_true
def kC:=@Int.mul_ediv_cancel
def kD:=@List.map_congr_left
def kE:=@Int.natAbs_mul_self
def kF:=@List.drop_succ_cons
def kG:=@List.take_replicate
def kH:=@List.drop_replicate
def kI:=@Nat.mul_assoc
def kJ:=@Int.le_of_dvd
def kK:=@List.all_cons
def kL:=@Prod.mk.injEq
def kM:=@beq_iff_eq
def kN:=@BitVec.toNat_ofNat
def kP:=@Int.lt_or_gt_of_ne
def kQ:=@Nat.div_mul_cancel
def kR:=@Nat.pos_of_ne_zero
def kS:=@Rat.div_mul_cancel
def kU:=@Nat.lt_or_eq_of_le
def kV:=@Nat.sub_zero
def kW:=@Nat.pow_zero
def kX:=@Nat.succ_mul
def kY:=@Nat.gcd_dvd_right
def kZ:=@Rat.le_trans
def lA:=@Rat.pow_zero
def lB:=@Rat.pow_succ
def lC:=@Nat.le_of_eq
def lD:=@Nat.lt_trichotomy
def lE:=@List.getElem?_inj
def lF:=@List.pairwise_map
def lG:=@Nat.mul_add
def lH:=@Int.mul_one
def lI:=@Rat.le_ceil
def lJ:=@Rat.one_mul
def lK:=@if_false
def lL:=@Int.not_lt
namespace Go.Sky
variable{p q:List Int}{m i k b:Nat}{xs:List Nat}
theorem O {p:Prop}(h:p:=by omega):p:=h
theorem O1 {p:Prop}(h:p:=by first|omega|(dsimp only<;>omega)):p:=h
theorem O2 {p:Prop}(h:p:=by grind):p:=h
theorem O3 {p:Prop}(h:p:=by decide):p:=h
theorem O4 {p:Prop}(h:p:=by kernel_rfl):p:=h
theorem O5 {p:Prop}(h:p:=by decide +kernel):p:=h
theorem O6 {p:Prop}(h:p:=by simp):p:=h
theorem O7 {p:Prop}(h:p:=by simp [Mo,Zc,Pp]):p:=h
def Zc(f:Nat->Int):Nat->Int
 | 0=>0
 | n+1=>Zc f n+f n
def Mu(f:Nat->Int):Zc f 0=0:=rfl
def Zf(f:Nat->Int)(n:Nat):Zc f (n+1)=Zc f n+f n:=rfl
theorem Zj{f g:Nat->Int} : ∀{n:Nat},(∀i,i<n->f i=g i)->Zc f n=Zc g n
 | 0,_=>rfl
 | n+1,h=>by rw [Zf,Zf,Zj (λi hi=>h i O),h n O]
theorem Po(f g:Nat->Int):∀n,Zc (λi=>f i+g i) n=Zc f n+Zc g n
 | 0=>rfl
 | n+1=>by simp only [Zf,Po f g n];omega
theorem Xl(c:Int)(f:Nat->Int):∀n,Zc (λi=>c*f i) n=c*Zc f n
 | 0=>by simp [Zc]
 | n+1=>by simp only [Zf,Xl c f n];grind
theorem Zd4(c:Int)(f:Nat->Int)(n:Nat):Zc (λi=>f i*c) n=Zc f n*c:=by rw [dC,<-Xl];exact Zj λi _=>dC _ _
theorem Pn{f:Nat->Int} : ∀{n:Nat},(∀i,i<n->f i=0)->Zc f n=0
 | 0,_=>rfl
 | n+1,h=>by rw [Zf,Pn (λi hi=>h i O),h n O];rfl
theorem Qo(f:Nat->Int):∀n,Zc f (n+1)=f 0+Zc (λi=>f (i+1)) n
 | 0=>by simp [Zc]
 | n+1=>by rw [Zf,Qo f n,Zf];omega
theorem Zae(f:Nat->Int):∀n,Zc f n=Zc (λi=>f (n-1-i)) n
 | 0=>rfl
 | n+1=>by
  rw [Zf,Qo (λi=>f (n+1-1-i)),Zae f n];have:Zc (λi=>f (n-1-i)) n=Zc (λi=>f (n+1-1-(i+1))) n:=Zj λi hi=>by congr 1;omega
  rw [this];simp only [fD,kV];omega
theorem Zaf{f:Nat->Int}{n:Nat}(a:m<=n)(h:∀i,m<=i->i<n->f i=0):Zc f n=Zc f m:=by
 induction n with
 | zero=>simp at a;subst a;rfl
 | succ n e=>
  by_cases d:m=n+1
  .subst d;rfl
  .rw [Zf,e O (λi c g=>h i c O),h n O O];omega
theorem Zac(f:Nat->Nat->Int):∀n,Zc (λi=>Zc (λk=>f k (i-k)) (i+1)) n=Zc (λk=>Zc (λj=>f k j) (n-k)) n
 | 0=>rfl
 | n+1=>by
  rw [Zf,Zac f n,Zf (λk=>Zc (λj=>f k j) (n+1-k))];have a:Zc (λk=>Zc (λj=>f k j) (n+1-k)) n=Zc (λk=>Zc (λj=>f k j) (n-k)+f k (n-k)) n:=
   Zj λk c=>by rw [show n+1-k=n-k+1 by omega,Zf]
  rw [a,Po,Zf (λk=>f k (n-k)) n];rw [show n+1-n=0+1 by omega,Zf,Mu,show n-n=0 by omega];omega
structure PS where
 c:Nat->Int
theorem PS.ext'{f g:PS}(h:∀i,f.c i=g.c i):f=g:=by cases f;cases g;congr;exact funext h
namespace PS
def conv(f g:PS):PS:=⟨λi=>Zc (λk=>f.c k*g.c (i-k)) (i+1)⟩
def C(n:Int):PS:=⟨λi=>if i=0 then n else 0⟩
def xp(k:Nat):PS:=⟨λi=>if i=k then 1 else 0⟩
instance:Zero PS:=⟨⟨λ_=>0⟩⟩
instance:One PS:=⟨C 1⟩
instance:Add PS:=⟨λf g=>⟨λi=>f.c i+g.c i⟩⟩
instance:Neg PS:=⟨λf=>⟨λi=>- f.c i⟩⟩
instance:Sub PS:=⟨λf g=>⟨λi=>f.c i-g.c i⟩⟩
instance:Mul PS:=⟨conv⟩
instance:NatCast PS:=⟨λn=>C n⟩
instance (n:Nat):OfNat PS n:=⟨C n⟩
instance:IntCast PS:=⟨C⟩
instance:SMul Nat PS:=⟨λn f=>⟨λi=>(n:Int)*f.c i⟩⟩
instance:SMul Int PS:=⟨λn f=>⟨λi=>n*f.c i⟩⟩
def npow(f:PS):Nat->PS
 | 0=>1
 | n+1=>npow f n*f
instance:HPow PS Nat PS:=⟨npow⟩
def Zky(f g:PS)(i:Nat):(f+g).c i=f.c i+g.c i:=rfl
def mul_c(f g:PS)(i:Nat):(f*g).c i=Zc (λk=>f.c k*g.c (i-k)) (i+1):=rfl
def mul_comm'(f g:PS):f*g=g*f:=ext' λi=>by
 rw [mul_c,mul_c,Zae];exact Zj λk a=>by simp only [fD];rw [show i-(i-k)=k by omega,dC]
def mul_assoc'(f g h:PS):f*g*h=f*(g*h):=ext' λi=>by
 rw [mul_c,mul_c];have a:Zc (λk=>(f*g).c k*h.c (i-k)) (i+1)=Zc (λk=>Zc (λj=>f.c j*g.c (k-j)*h.c (i-(j+(k-j)))) (k+1)) (i+1):=
  Zj λk c=>by rw [mul_c,<-Zd4];exact Zj λj b=>by rw [show j+(k-j)=k by omega]
 rw [a,Zac (λj m=>f.c j*g.c m*h.c (i-(j+m)))];refine Zj λj b=>?_;rw [mul_c,<-Xl,show i+1-j=i-j+1 by omega];exact Zj λm d=>by rw [eU,show i-(j+m)=i-j-m by omega]
def Zhn(f g:PS):f+g=g+f:=ext' λi=>by rw [Zky,Zky,Int.add_comm]
def Ze2(f g h:PS):f+g+h=f+(g+h):=ext' λi=>by simp only [Zky];omega
instance:Std.Commutative (α:=PS) (· + ·):=⟨Zhn⟩
instance:Std.Associative (α:=PS) (· + ·):=⟨Ze2⟩
instance:Std.Commutative (α:=PS) (· * ·):=⟨mul_comm'⟩
instance:Std.Associative (α:=PS) (· * ·):=⟨mul_assoc'⟩
end PS
def tzl(xs:List Int):List Int:=(xs.reverse.dropWhile (· == 0)).reverse
def cf(p:List Int)(i:Nat):Int:=p.getD i 0
def mk(n:Nat)(f:Nat->Int):List Int:=(List.range n).map f
def ps(p:List Int):PS:=⟨cf p⟩
def Tr(p:List Int):Prop:=p=[]\/cf p (p.length-1)≠0
def Xc(p:List Int)(i:Nat):(ps p).c i=cf p i:=rfl
def Zr(h:p.length<=i):cf p i=0:=by simp [cf,List.getD,bL h]
def Dq(h:i<p.length):cf p i=p[i]:=by simp [cf,List.getD,h]
def Yh(n:Nat)(f:Nat->Int):(mk n f).length=n:=by simp [mk]
def Le(n:Nat)(f:Nat->Int)(i:Nat):cf (mk n f) i=if i<n then f i else 0:=by
 by_cases h:i<n
 .rw [aK h,Dq (by rw [Yh];exact h)];simp [mk]
 .rw [aG h,Zr (by rw [Yh];omega)]
def La(c:p.length=q.length)(h:∀i,i<p.length->cf p i=cf q i):p=q:=by apply iW c;intro i a b;have:=h i a;rwa [Dq a,Dq b]at this
def Zfq(p:List Int):mk p.length (cf p)=p:=La (Yh _ _) λi h=>by rw [Le,Yh]at *;rw [aK h]
def Zi1{n:Nat}{f g:Nat->Int}(h:∀i,i<n->f i=g i):mk n f=mk n g:=La (by rw [Yh,Yh]) λi hi=>by rw [Yh]at hi;rw [Le,Le,aK hi,aK hi,h i hi]
def Hx(p q:List Int)(i:Nat):cf (p ++ q) i=if i<p.length then cf p i else cf q (i-p.length):=by
 by_cases h:i<p.length
 .rw [aK h];simp [cf,List.getD,aV h]
 .rw [aG h];simp only [cf,List.getD];rw [aR O]
def Zmc(n:Nat)(f:Nat->Int):mk (n+1) f=mk n f ++ [f n]:=by simp [mk,gX]
def Lu(p:List Int)(k i:Nat):cf (p.take k) i=if i<k then cf p i else 0:=by
 by_cases hi:i<k
 .rw [aK hi];simp [cf,List.getD,aX,hi]
 .rw [aG hi,Zr];rw [aI];omega
def Gw{f:Int->Int}(a:f 0=0)(i:Nat):cf (p.map f) i=f (cf p i):=by
 by_cases hi:i<p.length
 .rw [Dq (by simpa using hi),Dq hi];simp
 .rw [Zr (by simpa using hi),Zr O,a]
def Lx(xs:List Int):tzl (xs ++ [0])=tzl xs:=by simp [tzl]
def Mc{xs:List Int}{x:Int}(h:x≠0):tzl (xs ++ [x])=xs ++ [x]:=by simp [tzl,h]
def Cc{α:Type}(xs:List α):xs=[]\/∃ys y,xs=ys ++ [y]:=by
 rcases jI xs with h|⟨ys,y,h⟩
 .exact .inl h
 .exact .inr ⟨ys,y,by simpa using h⟩
def Za4 (C:List Int->Prop)(c:C [])(e:∀xs,C xs->C (xs ++ [0]))(f:∀xs x,x≠0->C (xs ++ [x]))(p:List Int):C p:=by
 have b:∀n (p:List Int),p.length=n->C p:=by
  intro n
  induction n with
  | zero=>intro p a;rw [aE a];exact c
  | succ n g=>
   intro p a;rcases Cc p with rfl|⟨h,y,rfl⟩
   .exact c
   .by_cases d:y=0
    .subst d;exact e _ (g h (by simpa using a))
    .exact f _ _ d
 exact b _ p rfl
def Cq:(tzl p).length<=p.length:=by
 refine Za4 (λp=>(tzl p).length<=p.length) (aH _) (λb h=>?_) (λb x a=>?_) p
 .rw [Lx];simp;omega
 .rw [Mc a];exact aH _
def Py(p:List Int)(i:Nat):cf (tzl p) i=cf p i:=by
 refine Za4 (λp=>cf (tzl p) i=cf p i) rfl (λa h=>?_) (λa x c=>?_) p
 .rw [Lx,h,Hx];split
  .rfl
  .rw [Zr O];by_cases b:i-a.length=0
   .rw [b];rfl
   .rw [Zr (by simp;omega)]
 .rw [Mc c]
def Tr.nil:Tr []:= .inl rfl
def Xd(p:List Int):Tr (tzl p):=by
 refine Za4 (λp=>Tr (tzl p)) Tr.nil (λb h=>?_) (λb x a=>?_) p
 .rw [Lx];exact h
 .rw [Mc a];refine .inr ?_;rw [Hx];simp [cf];exact a
def Ej(h:Tr p):tzl p=p:=by
 rcases Cc p with rfl|⟨b,y,rfl⟩
 .rfl
 .rcases h with h|h
  .simp at h
  .refine Mc λa=>h ?_;subst a;rw [Hx];simp [cf]
def Tr.ext{p q:List Int}(a:Tr p)(d:Tr q)(h:∀i,cf p i=cf q i):p=q:=by
 have b:∀{p q:List Int},Tr p->(∀i,cf p i=cf q i)->p.length<=q.length:=λ{p q} a h=>by
  rcases a with rfl|a
  .exact aW _
  .rw [h]at a;rcases bD (p.length-1) q.length with c|c
   .omega
   .exact absurd (Zr c) a
 exact La (Nat.le_antisymm (b a h) (b d λi=>(h i).symm)) λi _=>h i
def Ks{n:Nat}(h:∀i,n<=i->cf p i=0):(tzl p).length<=n:=by
 rcases Xd p with a|a
 .rw [a];exact aW _
 .rw [Py]at a;rcases bD ((tzl p).length-1) n with b|b
  .omega
  .exact absurd (h _ b) a
def Xy(p:List Int):tzl p=[]↔∀i,cf p i=0:=
 ⟨λh i=>by rw [<-Py,h];rfl,λh=>aE (Nat.le_zero.1 (Ks λi _=>h i))⟩
def Tr.mem(h:Tr p)(a:p≠[]):cf p (p.length-1)≠0:=by
 rcases h with h|h
 .exact absurd h a
 .exact h
def Dw(p q:List Int):List Int:=tzl (mk (max p.length q.length) λi=>cf p i+cf q i)
def Fh(p q:List Int):List Int:=tzl (mk (max p.length q.length) λi=>cf p i-cf q i)
def Ya(p:List Int)(c:Int):List Int:=tzl (p.map (· * c))
def Yj(p q:List Int):List Int:=tzl (mk (p.length+q.length-1) λi=>(ps p*ps q).c i)
def Zv(p:List Int):List Int:=mk (p.length-1) λi=>cf p (i+1)*((i:Int)+1)
def pev(p:List Int)(n d:Int):Int:=Zc (λi=>cf p i*(n^i*d^(p.length-1-i))) p.length
def Zx(p:List Int):Int:=p.foldl (λg c=>(Int.gcd g c:Int)) 0
def Zq(p:List Int):List Int:=p.map (· / Zx p)
def Znm(p q:List Int)(i:Nat):cf (Dw p q) i=cf p i+cf q i:=by
 unfold Dw;rw [Py,Le];split
 .rfl
 .rw [Zr,Zr]<;>omega
def Ht(p q:List Int)(i:Nat):cf (Fh p q) i=cf p i-cf q i:=by
 unfold Fh;rw [Py,Le];split
 .rfl
 .rw [Zr,Zr]<;>omega
def Yq(p:List Int)(c:Int)(i:Nat):cf (Ya p c) i=cf p i*c:=by unfold Ya;rw [Py,Gw O6]
def Pq(p q:List Int)(i:Nat):cf (Yj p q) i=(ps p*ps q).c i:=by
 unfold Yj;rw [Py,Le];split
 .rfl
 .rw [PS.mul_c,Pn];intro k a;rcases bD k p.length with h|h
  .rw [Xc,Xc,Zr (p:=q) O,cJ]
  .rw [Xc,Zr h,cK]
def Ze6:Tr (Fh p q):=Xd _
def Qk{c:Int}:Tr (Ya p c):=Xd _
def Yo:Tr (Yj p q):=Xd _
def Kg(p q:List Int):Yj p q=Yj q p:=(Yo (p:=p) (q:=q)).ext (Yo (p:=q) (q:=p)) λi=>by rw [Pq,Pq,PS.mul_comm']
def Zlz(p q:List Int):ps (Yj p q)=ps p*ps q:=PS.ext' λi=>Pq p q i
def tz(xs:List Nat):List Nat:=(xs.reverse.dropWhile (· == 0)).reverse
def Pk(xs:List Nat):tz (xs ++ [0])=tz xs:=by simp [tz]
def Ob{x:Nat}(h:x≠0):tz (xs ++ [x])=xs ++ [x]:=by simp [tz,h]
def Oc{α:Type}(d:α){xs:List α}(h:k<xs.length):xs.take (k+1)=xs.take k ++ [xs.getD k d]:=by rw [List.take_succ_eq_append_getElem h];simp [List.getD,h]
def Zhe{α:Type}(xs:List α)(k i:Nat)(d:α)(h:i<k):(xs.take k).getD i d=xs.getD i d:=by simp [List.getD,h]
def Zlb(b:k<=xs.length)(h:k=0\/(xs.take k).getD (k-1) 0≠0):tz (xs.take k)=xs.take k:=by
 rcases cE k with rfl|a
 .rfl
 .have h:=h.resolve_left O;rw [Zhe xs k (k-1) 0 O]at h;have:=Oc 0 (xs:=xs) (k:=k-1) O;rw [show k-1+1=k by omega]at this;rw [this,Ob h]
def tz_eq(h:xs=[]\/xs.getD (xs.length-1) 0≠0):tz xs=xs:=by
 have:=Zlb (xs:=xs) (k:=xs.length) (aH _) (by
  rcases h with rfl|h
  .exact .inl rfl
  .right;rwa [eE])
 rwa [eE]at this
def val(b:Nat):List Nat->Nat
 | []=>0
 | d::r=>d+b*val b r
def dgf(b:Nat):Nat->Nat->List Nat
 | 0,_=>[]
 | f+1,n=>if n=0 then []else n%b::dgf b f (n/b)
def dg(b n:Nat):List Nat:=dgf b n n
def Zdk{b:Nat}(d:2<=b):∀(f a n:Nat),n<=f->n<=a->dgf b f n=dgf b a n
 | 0,0,_,_,_=>rfl
 | 0,a+1,n,h,_=>by have:n=0:=O;subst this;simp [dgf]
 | f+1,0,n,_,h=>by have:n=0:=O;subst this;simp [dgf]
 | f+1,a+1,n,h,e=>by
  unfold dgf;by_cases c:n=0
  .simp [c]
  .have:n/b<n:=Nat.div_lt_self O O;rw [aG c,aG c,Zdk d f a (n/b) O O]
def Fz(b:Nat):dg b 0=[]:=rfl
def Zeq{n:Nat}(a:2<=b)(c:0<n):dg b n=n%b::dg b (n/b):=by
 unfold dg;obtain⟨m,rfl⟩:∃m,n=m+1:=⟨n-1,O⟩
 conv=>lhs;unfold dgf
 rw [aG O];have:(m+1)/b<m+1:=Nat.div_lt_self O O;rw [Zdk a m ((m+1)/b) ((m+1)/b) O (aH _)]
def Cp(b:Nat)(xs ys:List Nat):val b (xs ++ ys)=val b xs+b^xs.length*val b ys:=by
 induction xs with
 | nil=>simp [val]
 | cons x r a=>simp only [gM,val,a,bF,dJ,lG];rw [dU (b^r.length) b,kI];omega
def Gi{α:Type}(xs:List α):xs=[]\/∃ys y,xs=ys ++ [y]:=by
 rcases jI xs with h|⟨ys,y,h⟩
 .exact .inl h
 .exact .inr ⟨ys,y,by simpa using h⟩
def Zj0{b:Nat}(u:2<=b):∀(xs:List Nat),(∀d∈xs,d<b)->dg b (val b xs)=tz xs
 | [],_=>rfl
 | x::r,h=>by
  have g:=Zj0 u r (λd w=>h d (bC _ w));have v:=h x (bM ..);have k:(x+b*val b r)%b=x:=by rw [Nat.add_mul_mod_self_left,eX v]
  have j:(x+b*val b r)/b=val b r:=by rw [Nat.add_mul_div_left _ _ O,iX v];omega
  rcases cE (x+b*val b r)with e|e
  .have p:x=0:=O;have o:val b r=0:=by
    rcases cE (val b r)with m|m
    .exact m
    .have:=eI (by omega:0<b) m;omega
   rw [o,Fz]at g;simp only [val,e,Fz];subst p;rcases Gi r with rfl|⟨a,y,rfl⟩
   .rfl
   .by_cases f:y=0
    .subst f;rw [Pk]at g;rw [show(0::(a ++ [0]))=(0::a) ++ [0]from rfl,Pk];have l:(a.reverse.dropWhile (· == 0))=[]:=by have:=aU List.reverse g.symm;simpa [tz]using this
     unfold tz;rw [List.reverse_cons,List.dropWhile_append,l];simp
    .rw [Ob f]at g;simp at g
  .have:=Zeq u e;simp only [val];rw [this,k,j,g];rcases Gi r with rfl|⟨a,y,rfl⟩
   .have:x≠0:=by simp [val]at e;omega
    simp [tz,this]
   .by_cases f:y=0
    .subst f;rw [Pk,show(x::(a ++ [0]))=(x::a) ++ [0]from rfl,Pk];have t:∀a:List Nat,0<x+b*val b a->x::tz a=tz (x::a):=by
      intro a
      induction hn:a.length using Nat.strongRecOn generalizing a with
      | _ n s=>
       intro c;rcases Gi a with rfl|⟨i,z,rfl⟩
       .have:x≠0:=by simp [val]at c;omega
        simp [tz,this]
       .by_cases q:z=0
        .subst q;rw [Pk,show(x::(i ++ [0]))=(x::i) ++ [0]from rfl,Pk];refine s i.length (by simp at hn;omega) i rfl ?_;rw [Cp]at c;simpa [val]using c
        .rw [Ob q,show(x::(i ++ [z]))=(x::i) ++ [z]from rfl,Ob q]
     refine t a ?_;rw [Cp]at e;simpa [val]using e
    .rw [Ob f,show(x::(a ++ [y]))=(x::a) ++ [y]from rfl,Ob f]
def Mn{b:Nat}(a:2<=b):∀(k n:Nat),(dg b n).length<=k↔n<b^k
 | 0,n=>by
  rcases cE n with rfl|h
  .simp [Fz]
  .rw [Zeq a h];simp;omega
 | k+1,n=>by
  rcases cE n with rfl|h
  .simp [Fz,cF (by omega:0<b)]
  .rw [Zeq a h];simp only [bF,Nat.add_le_add_iff_right];rw [Mn a k (n/b),dJ,Nat.div_lt_iff_lt_mul O]
def Zes(a:2<=b)(n:Nat):(dg b n).length=0↔n=0:=by have:=Mn a 0 n;rw [kW]at this;omega
def bl(n:Nat):Nat:=(dg 2 n).length
def Oo(k n:Nat):bl n<=k↔n<2^k:=Mn O k n
def Ee:bl 0=0:=rfl
def Zb8(n:Nat):n<2^bl n:=(Oo _ n).1 (aH _)
def Cm{n:Nat}(h:m<=n):bl m<=bl n:=(Oo _ m).2 (fE h (Zb8 n))
end Go.Sky
namespace Go.Sky
open Go.RowKit Below
variable{M:Nat->Prop}{a:Act}{b:Bool}{c:Operand}{w w':World}{v:Value}{y:Code}{id d i:Nat}{p:Prop}{K:Act->World->Prop}{o oi:Oper}{rest:List Oper}{Y:Act->Prop}{ts:List Nat}{listed:Array Bool}
abbrev Yd:=List (Nat×Value)
def lk{α:Type} : List (Nat×α)->Nat->Option α
  | [],_=>none
  | (k,v)::r,n=>cond (Nat.beq k n) (some v) (lk r n)
def ev(e:Yd):Operand->Option Value
  | .tmp t=>lk e t
  | .const v=>some v
  | .global g=>some (.pointer (some ⟨g,0,none⟩))
  | .func f=>some (.func (.func f) #[] #[])
structure Chg (M:Nat->Prop) (w w':World):Prop where
  os:w'.os=w.os
  tape:w'.tape=w.tape
  output:w'.output=w.output
  size:w.heap.size<=w'.heap.size
  block:∀k,k<w.heap.size->¬M k->w'.heap[k]? = w.heap[k]?
def Chg.refl(M:Nat->Prop)(w:World):Chg M w w:=⟨rfl,rfl,rfl,aH _,λ_ _ _=>rfl⟩
def Chg.trans{a b c:World}(h:Chg M a b)(k:Chg M b c):Chg M a c:=
  ⟨k.os.trans h.os,k.tape.trans h.tape,k.output.trans h.output,aM h.size k.size,λi hi e=>(k.block i (cW hi h.size) e).trans (h.block i hi e)⟩
def Chg.of_below(h:Below w.heap.size w w'):Chg M w w':=⟨h.os,h.tape,h.output,h.size,λk e _=>h.block k e⟩
structure Pc where
  own:Bool
  fp:Nat->Prop
  holds:World->Prop
  lt:∀w b,holds w->fp b->b<w.heap.size
  stable:∀w w',holds w->Chg (λb=>¬fp b) w w'->holds w'
abbrev Hp:=List (Nat×Pc)
structure Sat (N:Nat) (sc:Nat->Prop) (env:Yd) (H:Hp) (a:Act) (w:World):Prop where
  size:a.tmps.size=N
  defers:a.defers=[]
  env:∀t v,lk env t=some v->a.tmps.getD t undef=v
  hold:∀i it,lk H i=some it->it.holds w
  sep:∀i j it jt,i≠j->lk H i=some it->lk H j=some jt->it.own=true->∀b,it.fp b->jt.fp b->False
  scope:∀i it,i≠0->lk H i=some it->∀b,it.fp b->sc b
variable {P:Program} {N:Nat} {sc:Nat->Prop} {env env':Yd} {H H':Hp} {Q Q':Exit->Act->World->Prop}
def E(P:Program)(N:Nat)(sc:Nat->Prop)(c:Code)(Q:Exit->Act->World->Prop)(env:Yd)(H:Hp):Prop:=
  ∀a w,Sat N sc env H a w->c.wp P Q a w
def L(P:Program)(N:Nat)(sc:Nat->Prop)(e:Array Oper)(rest:List Oper)(Q:Exit->Act->World->Prop)(env:Yd)(H:Hp):Prop:=
  ∀a w,Sat N sc env H a w->wpList P e Q rest a w
def X(N:Nat)(sc:Nat->Prop)(e:Exit)(Q:Exit->Act->World->Prop)(env:Yd)(H:Hp):Prop:=
  ∀a w,Sat N sc env H a w->Q e a w
def Sub:Yd->Yd->Prop
  | [],_=>True
  | (t,v)::r,e=>lk e t=some v/\Sub r e
def HSub:Hp->Hp->Prop
  | [],_=>True
  | (t,v)::r,e=>lk e t=some v/\HSub r e
theorem Sub.lk:∀{f e:Yd},Sub f e->∀t v,lk f t=some v->lk e t=some v
  | [],_,_,_,_,h=>by cases h
  | (k,u)::r,e,h,t,v,hl=>by
    unfold Sky.lk at hl;cases hb:Nat.beq k t with
    | true=>
      rw [hb]at hl;have:=cP hb;subst this;simp only [cond_true]at hl;cases hl;exact h.1
    | false=>
      rw [hb]at hl;exact Sub.lk h.2 t v hl
theorem HSub.lk:∀{f e:Hp},HSub f e->∀t v,lk f t=some v->lk e t=some v
  | [],_,_,_,_,h=>by cases h
  | (k,u)::r,e,h,t,v,hl=>by
    unfold Sky.lk at hl;cases hb:Nat.beq k t with
    | true=>
      rw [hb]at hl;have:=cP hb;subst this;simp only [cond_true]at hl;cases hl;exact h.1
    | false=>
      rw [hb]at hl;exact HSub.lk h.2 t v hl
def Sat.weaken(h:Sat N sc env H a w)(hs:Sub env' env)(f:HSub H' H):Sat N sc env' H' a w:=
  ⟨h.size,h.defers,λt v n=>h.env t v (hs.lk t v n),λi e hi=>h.hold i e (f.lk i e hi),
   λi j e l k hi m=>h.sep i j e l k (f.lk i e hi) (f.lk j l m),λi e g hi=>h.scope i e g (f.lk i e hi)⟩
def E.weaken{c:Code}(h:E P N sc c Q env' H')(hs:Sub env' env)(f:HSub H' H):E P N sc c Q env H:=
  λa w e=>h a w (e.weaken hs f)
def X.weaken{e:Exit}(h:X N sc e Q env' H')(hs:Sub env' env)(g:HSub H' H):X N sc e Q env H:=
  λa w f=>h a w (f.weaken hs g)
theorem Zp{α:Type}(k:Nat)(v:α)(r:List (Nat×α)):lk ((k,v)::r) k=some v:=by simp [lk]
theorem Zg{α:Type}{k n:Nat}{v:α}{r:List (Nat×α)}(h:k≠n):lk ((k,v)::r) n=lk r n:=by
  have:Nat.beq k n=false:=by
    cases hb:Nat.beq k n with
    | false=>rfl
    | true=>exact absurd (cP hb) h
  simp [lk,this]
theorem Sat.ev(h:Sat N sc env H a w){x:Operand}(e:ev env x=some v):a.eval x=v:=by
  cases x with
  | tmp t=>exact h.env t v e
  | const u=>simp only [Sky.ev,iK]at e;exact e
  | global g=>simp only [Sky.ev,iK]at e;exact e
  | func f=>simp only [Sky.ev,iK]at e;exact e
theorem Sat.put(h:Sat N sc env H a w)(d:Nat)(v:Value)(j:Nat.blt d N=true):Sat N sc ((d,v)::env) H (a.put (some d) v) w:=by
  have g:d<N:=by simpa using j
  refine⟨by simp [Act.put,h.size],h.defers,λt u e=>?_,h.hold,h.sep,h.scope⟩;by_cases f:d=t
  . subst f;rw [Zp]at e;cases e;simp [Act.put,h.size,g]
  . rw [Zg f]at e;have:=h.env t u e;simp only [Act.put];rw [<-this];simp [bA,Array.getElem?_setIfInBounds_ne f]
def Sat.put_none(h:Sat N sc env H a w)(v:Value):Sat N sc env H (a.put none v) w:=h
def e_seq{x:Code}(h:E P N sc x (Exit.then (y.wp P Q) Q) env H):E P N sc (.seq x y) Q env H:=λa w hs=>wp_seq (h a w hs)
def e_skip(h:X N sc .normal Q env H):E P N sc .skip Q env H:=λa w hs=>wp_skip (h a w hs)
def e_ret(h:X N sc .ret Q env H):E P N sc .ret Q env H:=λa w hs=>wp_ret (h a w hs)
def e_exit(h:X N sc (.exit id) Q env H):E P N sc (.exit id) Q env H:=λa w hs=>wp_exit (h a w hs)
def Zm2{c:Code}(h:E P N sc c (Exit.inBlock id Q) env H):E P N sc (.block id c) Q env H:=λa w hs=>wp_block (h a w hs)
def e_reg{l:List Oper}(h:L P N sc l.toArray l Q env H):E P N sc (.region id l.toArray false) Q env H:=λa w hs=>wp_region_lit (h a w hs)
theorem Zy{x:Code}[Decidable p](e:ev env c=some (.bool (decide p)))(g:p->E P N sc x Q env H)(f:¬p->E P N sc y Q env H) :
    E P N sc (.cond c x y) Q env H:=λa w hs=>
  wp_cond_split (hs.ev e) (λh=>g (by simpa using h) a w hs) (λh=>f (by simpa using h) a w hs)
def Ng{x:Code}(e:ev env c=some (.bool b))(g:b=true->E P N sc x Q env H)(f:b=false->E P N sc y Q env H) :
    E P N sc (.cond c x y) Q env H:=λa w hs=>
  wp_cond_split (hs.ev e) (λh=>g h a w hs) (λh=>f h a w hs)
def Zm0{x:Code}(e:ev env c=some (.bool true))(f:E P N sc x Q env H):E P N sc (.cond c x y) Q env H:=λa w hs=>
  wp_cond_true (hs.ev e) (f a w hs)
def Zm1{x:Code}(e:ev env c=some (.bool false))(f:E P N sc y Q env H):E P N sc (.cond c x y) Q env H:=λa w hs=>
  wp_cond_false (hs.ev e) (f a w hs)
def l_nil{e:Array Oper}(h:X N sc .normal Q env H):L P N sc e [] Q env H:=λa w hs=>wpList_nil (h a w hs)
def x_then(h:E P N sc y Q env H):X N sc .normal (Exit.then (y.wp P Q) Q) env H:=h
def x_ret(h:X N sc .ret Q env H):X N sc .ret (Exit.then K Q) env H:=h
def x_exit(h:X N sc (.exit id) Q env H):X N sc (.exit id) (Exit.then K Q) env H:=h
def x_bn(h:X N sc .normal Q env H):X N sc .normal (Exit.inBlock id Q) env H:=h
def x_br(h:X N sc .ret Q env H):X N sc .ret (Exit.inBlock id Q) env H:=h
theorem x_be(h:X N sc .normal Q env H):X N sc (.exit id) (Exit.inBlock id Q) env H:=λa w hs=>by show(if id=id then Q .normal a w else Q (.exit id) a w);rw [aK rfl];exact h a w hs
theorem x_bo{e:Nat}(f:e≠id)(h:X N sc (.exit e) Q env H):X N sc (.exit e) (Exit.inBlock id Q) env H:=λa w hs=>by show(if e=id then Q .normal a w else Q (.exit e) a w);rw [aG f];exact h a w hs
theorem e_loop {c:Code} {G:Type} (h:G->Yd) (D:G->Hp) (m:G->Prop) (μ:G->Nat) (I:G) (h₀:m I) (hs:Sub (h I) env) (hh:HSub (D I) H)
    (u:∀g,m g->E P N sc c (Exit.then (λa w=>∃r,m r/\μ r<μ g/\Sat N sc (h r) (D r) a w) Q) (h g) (D g)) :
    E P N sc (.loop c) Q env H:=by
  intro a0 w0 j;have h1:=j.weaken hs hh;suffices hx:∀n g,μ g=n->m g->∀a w,Sat N sc (h g) (D g) a w->(Code.loop c).wp P Q a w from hx _ I rfl h₀ a0 w0 h1
  intro n g _ hg a w j b k R;have Z:∀n g,μ g=n->m g->∀a w,Sat N sc (h g) (D g) a w->
      ∃e F w',Q e F w'/\Arrives P (lone (b.at a (.code c::.inLoop c::k)) R w) b k R e F w':=by
    intro n
    induction n using Nat.strongRecOn with
    | _ n ih=>
      intro g hn hI a w j;obtain⟨e,z,B,q,f⟩:=u g hI a w j b (.inLoop c::k) R;cases e with
      | normal=>
        obtain⟨r,S,V,t⟩:=q;obtain⟨e₂,a₂,w₂,W,s⟩:=ih (μ r) (hn▸V) r rfl S z B t;exact⟨e₂,a₂,w₂,W,.of_steps (Steps.trans f (.one step_inLoop)) s⟩
      | exit id=>exact⟨_,z,B,q,.pass (x:= .inLoop c) rfl (λ_ _=> .inl O6) f⟩
      | goto l=>exact⟨_,z,B,q,.pass (x:= .inLoop c) rfl (λ_ _=> .inl O6) f⟩
      | ret=>exact⟨_,z,B,q,.pass (x:= .inLoop c) rfl (λ_ _=> .inl O6) f⟩
      | panic ch=>exact⟨_,z,B,q,.pass (x:= .inLoop c) rfl (λ_ _=> .inl O6) f⟩
      | outgrown=>exact⟨_,z,B,q,.pass (x:= .inLoop c) rfl (λ_ _=> .inl O6) f⟩
  obtain⟨e,F,w',q,f⟩:=Z _ g rfl hg a w j;exact⟨e,F,w',q,.of_steps (.one step_loop) f⟩
def Pv(P:Program)(N:Nat)(sc:Nat->Prop)(o:Oper)(env:Yd)(H:Hp)(v:Value):Prop:=
  ∀a w,Sat N sc env H a w->(execOp a.eval o).run P w= .ok (.value v) w
def T(P:Program)(N:Nat)(sc:Nat->Prop)(M:Nat->Prop)(o:Oper)(env:Yd)(H:Hp){G:Type}(φ:G->Prop)(env':G->Yd)(H':G->Hp):Prop:=
  ∀a w,Sat N sc env H a w->∀K Q,(∀g e w',φ g->Sat N sc (env' g) (H' g) e w'->Chg M w w'->K e w')->o.wp P a w K Q
theorem l_det {e:Array Oper}     (k:o.guard=none) (j:o.dst=some d) (g:Nat.blt d N=true) (l:Pv P N sc o env H v)
    (h:L P N sc e rest Q ((d,v)::env) H):L P N sc e (o::rest) Q env H:=λa w hs=>
  wpList_plain k λK f=>by unfold Oper.wp;rw [l a w hs];show K (a.put o.dst v) w;rw [j];exact f _ _ (h _ _ (hs.put d v g))
def l_step {f:Array Oper}   {G:Type}  {φ:G->Prop} {e:G->Yd} {l:G->Hp} (j:o.guard=none)
    (q:T P N sc M o env H φ e l) (h:∀g,φ g->L P N sc f rest Q (e g) (l g)):L P N sc f (o::rest) Q env H:=λa w hs=>
  wpList_plain j λK n=>q a w hs K Q λg m w' j k _=>n _ _ (h g j m w' k)
theorem Sat.yielded(h:Sat N sc env H a w){f:Array Oper}{j:Nat}(m:(f[j]?).bind (·.dst)=some d)(l:lk env d=some (.bool b))(k:Nat.blt d N=true) :
    yielded f a.tmps j=some b:=by
  have g:=h.env d _ l;have e:d<a.tmps.size:=by rw [h.size];simpa using k
  unfold Go.yielded;rw [m];simp only [Option.bind_some];rw [bA,iI e]at g;simp only [Option.getD_some]at g;rw [iI e,g]
theorem l_gdet {f:Array Oper}     {j e:Nat}  (q:o.guard=some (j,b)) (r:(f[j]?).bind (·.dst)=some e) (n:lk env e=some (.bool b))
    (g:Nat.blt e N=true) (m:o.dst=some d) (l:Nat.blt d N=true) (s:Pv P N sc o env H v)
    (h:L P N sc f rest Q ((d,v)::env) H):L P N sc f (o::rest) Q env H:=λa w hs=>
  wpList_step λK k=>by
    have u:=hs.yielded r n g;have t:Region.wanted o (yielded f a.tmps)=true:=by simp [Region.wanted,q,u]
    rw [aK t];unfold Oper.wp;rw [s a w hs];show K (a.put o.dst v) w;rw [m];exact k _ _ (h _ _ (hs.put d v l))
theorem Zml {f:Array Oper}   {G:Type}  {φ:G->Prop} {k:G->Yd} {q:G->Hp} {j e:Nat}  (m:o.guard=some (j,b)) (u:(f[j]?).bind (·.dst)=some e)
    (t:lk env e=some (.bool b)) (l:Nat.blt e N=true)
    (x:T P N sc M o env H φ k q) (h:∀g,φ g->L P N sc f rest Q (k g) (q g)):L P N sc f (o::rest) Q env H:=λa w hs=>
  wpList_step λK s=>by
    have B:=hs.yielded u t l;have z:Region.wanted o (yielded f a.tmps)=true:=by simp [Region.wanted,m,B]
    rw [aK z];exact x a w hs K Q λg r w' m n _=>s _ _ (h g m r w' n)
theorem Zmm {f:Array Oper}    {j e:Nat} {l:Bool} (s:o.guard=some (j,b)) (t:(f[j]?).bind (·.dst)=some e) (r:lk env e=some (.bool l))
    (k:Nat.blt e N=true) (g:(l == b)=false) (q:o.dst=some d) (n:Nat.blt d N=true)
    (h:L P N sc f rest Q ((d,undef)::env) H):L P N sc f (o::rest) Q env H:=λa w hs=>
  wpList_step λK m=>by
    have x:=hs.yielded t r k;have u:Region.wanted o (yielded f a.tmps)=false:=by simp [Region.wanted,s,x];simpa using g
    rw [u,aG O6,q];exact m _ _ (h _ _ (hs.put d undef n))
theorem Lq (d:Nat) {f:Array Oper}    [Decidable p] (j:lk env d=some (.bool (decide p)))
    (l:p->L P N sc f rest Q ((d,.bool true)::env) H) (k:¬p->L P N sc f rest Q ((d,.bool false)::env) H):L P N sc f rest Q env H:=λa w hs=>by
  by_cases h:p
  . refine l h a w ⟨hs.size,hs.defers,λt v e=>?_,hs.hold,hs.sep,hs.scope⟩;by_cases g:d=t
    . subst g;rw [Zp]at e;cases e;have:=hs.env _ _ j;rw [this];simp [h]
    . rw [Zg g]at e;exact hs.env _ _ e
  . refine k h a w ⟨hs.size,hs.defers,λt v e=>?_,hs.hold,hs.sep,hs.scope⟩;by_cases g:d=t
    . subst g;rw [Zp]at e;cases e;have:=hs.env _ _ j;rw [this];simp [h]
    . rw [Zg g]at e;exact hs.env _ _ e
section
variable {ops:Array Oper} {md:Region.Mode} {C:World->World->Prop}
def Ox(ops:Array Oper)(ts:List Nat)(listed:Array Bool):Bool:=(List.range ops.size).all λj=>ts.contains j || listed.getD j true
def Pe(P:Program)(md:Region.Mode)(ops:Array Oper)(ts:List Nat)(C:World->World->Prop)(Q:Exit->Act->World->Prop):Nat->Array Bool->Act->World->Prop
  | 0,listed,a,w=>Region.ready md ops listed=[]/\Q .normal a w
  | e+1,listed,a,w=>if Ox ops ts listed=true then wpAny P md ops Q (e+1) listed a w else
    (Region.ready md ops listed=[]->Q .normal a w)/\
    ∀i∈Region.ready md ops listed,wpOp P ops Q i (λf w'=>C w w'/\Pe P md ops ts C Q e (listed.setIfInBounds i true) f w') a w
theorem Gf{ts:List Nat} : ∀(e:Nat) (listed:Array Bool) (a:Act) (w:World),Pe P md ops ts C Q e listed a w->wpAny P md ops Q e listed a w
  | 0,_,_,_,h=>h
  | e+1,listed,_,_,h=>by
    unfold Pe at h;split at h
    . exact h
    . exact⟨h.1,λi hi=>wpOp_mono (λ_ _ f=>Gf e _ _ _ f.2) (h.2 i hi)⟩
def YieldsC(P:Program)(ops:Array Oper)(C:World->World->Prop)(o:Oper)(v:Value)(a:Act)(w:World):Prop:=
  (Region.wanted o (yielded ops a.tmps)=true/\∀w',C w w'->(execOp a.eval o).run P w'= .ok (.value v) w')\/
  (Region.wanted o (yielded ops a.tmps)=false/\v=undef)
theorem YieldsC.wpOp      (hi:ops[i]? = some o) (e:C w w) (j:YieldsC P ops C o v a w)
     (h:K (a.put o.dst v) w):wpOp P ops Q i K a w:=by
  unfold Go.wpOp;simp only [hi];rcases j with⟨f,g⟩|⟨f,rfl⟩
  . simp only [f,kB,Oper.wp,g w e,Oper.upon];exact .inl h
  . simp only [f,Bool.false_eq_true,lK];exact h
theorem YieldsC.of_same {o:Oper} {v:Value} {a e:Act} {w:World} (h:YieldsC P ops C o v a w) (f:execOp e.eval o=execOp a.eval o)
    (g:Region.wanted o (yielded ops e.tmps)=Region.wanted o (yielded ops a.tmps)):YieldsC P ops C o v e w:=by
  unfold YieldsC at *;rw [f,g];exact h
theorem YieldsC.later(e:∀a b c,C a b->C b c->C a c)(l:YieldsC P ops C o v a w)(h:C w w'):YieldsC P ops C o v a w':=by
  rcases l with⟨k,f⟩|f
  . exact .inl ⟨k,λg j=>f g (e _ _ _ h j)⟩
  . exact .inr f
theorem Zgr {j:Nat} {k:Oper}  (Z:ops[j]? = some k) (F:oi.apart ops k=true)
    (G:∀cs b,oi.op≠ .select cs b) (B:∀cs b,k.op≠ .select cs b)
    (V:∀c a w,Q (.panic c) (a.put oi.dst v) w->Q (.panic c) a w)    
    (W:∀a s,Y a->execOp s.eval oi=execOp a.eval oi->Region.wanted oi (yielded ops s.tmps)=Region.wanted oi (yielded ops a.tmps)->Y s) (l:Y a)
    (h:wpOp P ops Q j K (a.put oi.dst v) w) :
    wpOp P ops Q j (λs w'=>Y s/\K (s.put oi.dst v) w') a w:=by
  obtain⟨D,t,S⟩:=Oper.apart_spec F;have keep:∀(a:Act),Y a->∀u,Y (a.put k.dst u):=λa l u=>
    W _ _ l (execOp_put oi G a k.dst u S) (wanted_put oi a k.dst u S)
  have q:∀d,Y { a with defers:=d::a.defers }:=λd=>W _ _ l rfl rfl;unfold Go.wpOp at *;simp only [Z]at *;rw [wanted_put k a oi.dst v D]at h;split
  . rename_i I;simp only [I,kB]at h;rcases h with h|⟨g,m⟩
    case inr=>exact .inr ⟨by unfold Oper.asks at *;rw [execOp_put k B a oi.dst v D]at g;exact g,m⟩
    refine .inl ?_;unfold Oper.wp at *;rw [execOp_put k B a oi.dst v D]at h;generalize (execOp a.eval k).run P w=r at *;cases r with
    | ok n w'=>
      cases n<;>simp only [Oper.upon]at h ⊢
      case value u=>exact⟨keep a l u,by rw [<-Act.put_comm a v u t];exact h⟩
      case skip=>exact⟨keep a l _,by rw [<-Act.put_comm a v undef t];exact h⟩
      case defer d=>
        refine⟨keep _ (q d) _,?_⟩;rw [<-Act.put_comm _ v undef t,<-Act.put_defers];exact h
      case enter f args=>
        refine Calls.mono h λe R z=>?_;cases e with
        | returned u=>exact⟨keep a l u,by rw [<-Act.put_comm a v u t];exact z⟩
        | panicked c=>exact V _ _ _ z
        | outgrown=>exact z
      case row row args=>exact Rows.mono h λu R z=>⟨keep a l u,by rw [<-Act.put_comm a v u t];exact z⟩
    | halt x w'=>
      cases x<;>simp only [Oper.upon]at h ⊢
      case panic u=>exact V _ _ _ h
  . rename_i I;simp only [I]at h;exact⟨keep a l _,by rw [<-Act.put_comm a v undef t];exact h⟩
theorem Gg(hi:ops[i]? = some o)(e:i ∉ ts)(f:listed.getD i true=false):Ox ops ts listed=false:=by
  cases h:Ox ops ts listed with
  | false=>rfl
  | true=>
    unfold Ox at h;rw [dG]at h;have:=h i (bR.2 (aL.1 hi).1);rw [f]at this;simp [e]at this
theorem Kr     (hi:ops[i]? = some oi) (z:∀(j:Nat) (o:Oper) I b,ops[j]? = some o->o.op≠ .select I b)
    (a1:i ∉ ts) (R:∀(j:Nat) (r:Oper),j∈ts->ops[j]? = some r->∃e∈r.after,Region.binds md e=true/\e.on=i)
    (g:∀w,C w w) (u:∀a b c,C a b->C b c->C a c)
    (hQ:∀c a w,Q (.panic c) (a.put oi.dst v) w->Q (.panic c) a w) :
    ∀(l:Nat) (listed:Array Bool) (a:Act) (w:World),
      (∀j r,ops[j]? = some r->j≠i->listed.getD j true=false->(∀e∈r.after,Region.binds md e=true->e.on≠i)->oi.apart ops r=true)->
      i∈Region.ready md ops listed->YieldsC P ops C oi v a w->
      Pe P md ops ts C Q l (listed.setIfInBounds i true) (a.put oi.dst v) w->Pe P md ops ts C Q (l+1) listed a w:=by
  intro l
  induction l with
  | zero=>
    intro listed a w _ t G H;have F:=Gg hi a1 (mem_ready.1 t).1;unfold Pe;rw [aG (by rw [F];exact eG)];refine⟨λh=>(by rw [h]at t;cases t),λj hj=>?_⟩;by_cases f:j=i
    . subst f;exact G.wpOp hi (g w) ⟨g w,H⟩
    . have:=ready_mono hj f;rw [H.1]at this;cases this
  | succ l ih=>
    intro listed a w m t G H;have F:=Gg hi a1 (mem_ready.1 t).1;unfold Pe;rw [aG (by rw [F];exact eG)];refine⟨λh=>(by rw [h]at t;cases t),λj hj=>?_⟩;by_cases f:j=i
    . subst f;exact G.wpOp hi (g w) ⟨g w,H⟩
    . obtain⟨n,r,q,S⟩:=mem_ready.1 hj;have x:∀e∈r.after,Region.binds md e=true->e.on≠i:=λe V hb D=>by
        have B:=S e V hb;have h0:=(mem_ready.1 t).1;rw [D]at B;rcases bD i listed.size with h'|h'
        . simp [h']at h0 B;rw [h0]at B;cases B
        . simp [Array.getElem?_eq_none h']at B
      have Z:j ∉ ts:=λhm=>by obtain⟨e,V,hb,D⟩:=R j r hm q;exact x e V hb D
      have a0:Ox ops ts (listed.setIfInBounds i true)=false:=Gg q Z (by rw [getD_set_ne true (gQ f)];exact n);unfold Pe at H;rw [aG (by rw [a0];exact eG)]at H;have B:=H.2 j (ready_mono hj f);have h2:=Zgr (Y:=λa=>YieldsC P ops C oi v a w) q (m j r q f n x) (λI b=>z i oi I b hi) (λI b=>z j r I b q) hQ
        (λa a' G V hw=>YieldsC.of_same G V hw) G B
      have s:∀k ok,ops[k]? = some ok->k≠i->(listed.setIfInBounds j true).getD k true=false->
          (∀e∈ok.after,Region.binds md e=true->e.on≠i)->oi.apart ops ok=true:=λk ok hk a3 a2 a4=>by
        refine m k ok hk a3 ?_ a4;by_cases W:j=k
        . subst W;exact n
        . rw [getD_set_ne true W]at a2;exact a2
      refine wpOp_mono (λa' w' h3=>⟨h3.2.1,ih (listed.setIfInBounds j true) a' w' s (ready_mono t (gQ f)) (h3.1.later u h3.2.1) ?_⟩) h2;rw [Array.setIfInBounds_comm _ _ f];exact h3.2.2
end
def drp:Nat->Hp->Hp
  | _,[]=>[]
  | k,(i,p)::r=>cond (Nat.beq i k) (drp k r) ((i,p)::drp k r)
theorem Ny:∀(k:Nat) (H:Hp) (i:Nat) (p:Pc),lk (drp k H) i=some p->i≠k/\lk H i=some p
  | _,[],_,_,h=>by cases h
  | k,(j,q)::r,i,p,h=>by
    unfold drp at h;cases hb:Nat.beq j k with
    | true=>
      rw [hb]at h;obtain⟨g,l⟩:=Ny k r i p h;have:=cP hb;refine⟨g,?_⟩;rw [Zg O];exact l
    | false=>
      rw [hb]at h;simp only [cond_false]at h;by_cases f:j=i
      . subst f;rw [Zp]at h;refine⟨λe=>?_,by rw [Zp];exact h⟩;subst e;simp at hb
      . rw [Zg f]at h ⊢;exact Ny k r i p h
def LD(P:Program)(N:Nat)(sc:Nat->Prop)(M:Nat->Prop)(ops:Array Oper)(F:Yd->Hp->Prop):List (Nat×Nat)->Yd->Hp->Prop
  | [],env,H=>F env H
  | (i,0)::rest,env,H=>∃o d v,ops[i]? = some o/\o.dst=some d/\Nat.blt d N=true/\
      (∀a w,Sat N sc env H a w->Region.wanted o (yielded ops a.tmps)=true/\∀w',Chg M w w'->(execOp a.eval o).run P w'= .ok (.value v) w')/\LD P N sc M ops F rest ((d,v)::env) H
  | (i,1)::rest,env,H=>∃(o:Oper) (G:Type) (φ:G->Prop) (e:G->Yd) (f:G->Hp),ops[i]? = some o/\
      (∀a w,Sat N sc env H a w->Region.wanted o (yielded ops a.tmps)=true)/\T P N sc M o env H φ e f/\∀g,φ g->LD P N sc M ops F rest (e g) (f g)
  | (i,3)::rest,env,H=>∃(o:Oper) (G:Type) (φ:G->Prop) (e:G->Yd) (f:G->Hp),ops[i]? = some o/\
      (∀a w,Sat N sc env H a w->Region.wanted o (yielded ops a.tmps)=true)/\T P N sc (λ_=>True) o env H φ e f/\∀g,φ g->LD P N sc M ops F rest (e g) (f g)
  | (i,_)::rest,env,H=>∃o d,ops[i]? = some o/\o.dst=some d/\Nat.blt d N=true/\
      (∀a w,Sat N sc env H a w->Region.wanted o (yielded ops a.tmps)=false)/\LD P N sc M ops F rest ((d,undef)::env) H
def Hb:List (Nat×Nat)->List Nat
  | []=>[]
  | (i,3)::rest=>i::Hb rest
  | _::rest=>Hb rest
def Oj(ops:Array Oper)(ts:List Nat):List (Nat×Nat)->Array Bool->Bool
  | [],_=>true
  | (i,1)::rest,listed=>(Region.ready .any ops listed == [i]) && !(Ox ops ts listed) && Oj ops ts rest (listed.setIfInBounds i true)
  | (i,3)::rest,listed=>(Region.ready .any ops listed == [i]) && Ox ops ts listed && Oj ops ts rest (listed.setIfInBounds i true)
  | (i,_)::rest,listed=>(Region.ready .any ops listed).contains i && Region.free .any ops listed i && !(ts.contains i) &&
      ts.all (λj=>match ops[j]? with|some f=>f.after.any (λe=>Region.binds .any e && e.on == i)|none=>true) && Oj ops ts rest (listed.setIfInBounds i true)
def Ns:List (Nat×Nat)->Array Bool->Array Bool
  | [],listed=>listed
  | (i,_)::rest,listed=>Ns rest (listed.setIfInBounds i true)
def Dj(Q:Exit->Act->World->Prop):Exit->Act->World->Prop
  | .normal,a,w=>Q .normal a w
  | _,_,_=>False
theorem Zbl {ops:Array Oper}   (h:ts.all (λj=>match ops[j]? with|some f=>f.after.any (λe=>Region.binds .any e && e.on == i)|none=>true)=true)
    (j:Nat) (f:Oper) (m:j∈ts) (n:ops[j]? = some f):∃e∈f.after,Region.binds .any e=true/\e.on=i:=by
  rw [dG]at h;have k:=h j m;simp only [n]at k;obtain⟨e,l,g⟩:=Array.any_eq_true'.1 k;simp only [bH,kM]at g;exact⟨e,l,g.1,g.2⟩
def A(P:Program)(N:Nat)(sc:Nat->Prop)(M:Nat->Prop)(ops:Array Oper)(ts:List Nat)(Q:Exit->Act->World->Prop)(n:Nat)(listed:Array Bool)(env:Yd)(H:Hp):Prop:=
  ∀a w,Sat N sc env H a w->Pe P .any ops ts (Chg M) (Dj Q) n listed a w
theorem LD.sound{M:Nat->Prop}{ops:Array Oper}{ts:List Nat}{F:Yd->Hp->Prop}{n:Nat}(f:Region.noSelect ops=true):∀(m:List (Nat×Nat)) (listed:Array Bool) (env:Yd) (H:Hp),Oj ops ts m listed=true->
    LD P N sc M ops F m env H->(∀env H,F env H->A P N sc M ops ts Q n (Ns m listed) env H)->A P N sc M ops ts Q (m.length+n) listed env H
  | [],listed,env,H,l,h,r,a,w,hs=>by simpa [Ns]using r _ _ h a w hs
  | (i,0)::rest,listed,env,H,l,h,r,a,w,hs=>by simp only [Oj,bH]at l;obtain⟨⟨⟨⟨u,W⟩,t⟩,s⟩,l⟩:=l;obtain⟨o,d,v,q,V,S,D,e⟩:=h;obtain⟨Z,D⟩:=D a w hs;have ih:=LD.sound f rest (listed.setIfInBounds i true) _ _ l e r _ w (hs.put d v S);show Pe P .any ops ts (Chg M) (Dj Q) ((rest.length+1)+n) listed a w;rw [fF];refine Kr q (Region.noSelect_spec f) (by simpa using t) (Zbl s) (Chg.refl M) (λ_ _ _=>Chg.trans) (λ_ _ _ h=>h.elim) (rest.length+n) listed a w (Region.free_spec q W) (by simpa using u) (.inl ⟨Z,D⟩) ?_;rw [V];exact ih
  | (i,1)::rest,listed,env,H,l,h,r,a,w,hs=>by simp only [Oj,bH,kM,gD]at l;obtain⟨⟨u,B⟩,l⟩:=l;obtain⟨o,G,φ,I,gH,q,Z,ht,e⟩:=h;show Pe P .any ops ts (Chg M) (Dj Q) ((rest.length+1)+n) listed a w;rw [fF];unfold Pe;rw [aG (by rw [B];exact eG)];refine⟨λR=>(by rw [u]at R;cases R),λj x=>?_⟩;rw [u]at x;have x:=aY.1 x;subst x;unfold wpOp;simp only [q,Z a w hs,kB];exact .inl (ht a w hs _ _ λg a' w' hg z hc=>⟨hc,LD.sound f rest _ _ _ l (e g hg) r a' w' z⟩)
  | (i,3)::rest,listed,env,H,l,h,r,a,w,hs=>by simp only [Oj,bH,kM]at l;obtain⟨⟨u,B⟩,l⟩:=l;obtain⟨o,G,φ,I,gH,q,Z,ht,e⟩:=h;show Pe P .any ops ts (Chg M) (Dj Q) ((rest.length+1)+n) listed a w;rw [fF];unfold Pe;rw [aK B];refine⟨λR=>(by rw [u]at R;cases R),λj x=>?_⟩;rw [u]at x;have x:=aY.1 x;subst x;unfold wpOp;simp only [q,Z a w hs,kB];exact .inl (ht a w hs _ _ λg a' w' hg z _=>Gf _ _ _ _ (LD.sound f rest _ _ _ l (e g hg) r a' w' z))
  | (i,2)::rest,listed,env,H,l,h,r,a,w,hs=>by simp only [Oj,bH]at l;obtain⟨⟨⟨⟨u,W⟩,t⟩,s⟩,l⟩:=l;obtain⟨o,d,q,V,S,D,e⟩:=h;have ih:=LD.sound f rest (listed.setIfInBounds i true) _ _ l e r _ w (hs.put d undef S);show Pe P .any ops ts (Chg M) (Dj Q) ((rest.length+1)+n) listed a w;rw [fF];refine Kr q (Region.noSelect_spec f) (by simpa using t) (Zbl s) (Chg.refl M) (λ_ _ _=>Chg.trans) (λ_ _ _ h=>h.elim) (rest.length+n) listed a w (Region.free_spec q W) (by simpa using u) (.inr ⟨D a w hs,rfl⟩) ?_;rw [V];exact ih
  | (i,(k+4))::rest,listed,env,H,l,h,r,a,w,hs=>by simp only [Oj,bH]at l;obtain⟨⟨⟨⟨u,W⟩,t⟩,s⟩,l⟩:=l;obtain⟨o,d,q,V,S,D,e⟩:=h;have ih:=LD.sound f rest (listed.setIfInBounds i true) _ _ l e r _ w (hs.put d undef S);show Pe P .any ops ts (Chg M) (Dj Q) ((rest.length+1)+n) listed a w;rw [fF];refine Kr q (Region.noSelect_spec f) (by simpa using t) (Zbl s) (Chg.refl M) (λ_ _ _=>Chg.trans) (λ_ _ _ h=>h.elim) (rest.length+n) listed a w (Region.free_spec q W) (by simpa using u) (.inr ⟨D a w hs,rfl⟩) ?_;rw [V];exact ih
def Sat.drew(h:Sat N sc env H a w):Sat N sc env H a { w with drawn:=w.drawn+1 }:=
  ⟨h.size,h.defers,h.env,λi e hi=>e.stable w _ (h.hold i e hi) ⟨rfl,rfl,rfl,aH _,λ_ _ _=>rfl⟩,h.sep,h.scope⟩
theorem Ie{ops:Array Oper}(h:X N sc .normal Q env H)(e:(Region.ready .any ops listed).isEmpty=true:=by kernel_rfl):A P N sc M ops ts Q 0 listed env H:=
  λa w hs=>⟨by simpa using e,h a w hs⟩
def Ax(P:Program)(N:Nat)(sc:Nat->Prop)(M:Nat->Prop)(ops:Array Oper)(ts:List Nat)(Q:Exit->Act->World->Prop)(n:Nat)(listed:Array Bool)(env:Yd)(H:Hp)(i:Nat):Prop:=
  ∃(o:Oper) (G:Type) (φ:G->Prop) (e:G->Yd) (f:G->Hp),ops[i]? = some o/\o.guard=none/\T P N sc M o env H φ e f/\∀g,φ g->A P N sc M ops ts Q n (listed.setIfInBounds i true) (e g) (f g)
theorem a_br  {ops:Array Oper}   {n:Nat} (r:List Nat) (f:((Region.ready .any ops listed == r) && !(Ox ops ts listed) && !r.isEmpty)=true)
    (h:∀i∈r,Ax P N sc M ops ts Q n listed env H i):A P N sc M ops ts Q (n+1) listed env H:=λa w hs=>by
  simp only [bH,kM,gD]at f;obtain⟨⟨f,q⟩,l⟩:=f;unfold Pe;rw [aG (by rw [q];exact eG)];refine⟨λt=>?_,λj u=>?_⟩
  . rw [f]at t;subst t;simp at l
  . rw [f]at u;obtain⟨o,G,φ,s,F,B,k,D,e⟩:=h j u;unfold wpOp;simp only [B,Region.wanted,k,kB];exact .inl (D a w hs _ _ λg x w' k m z=>⟨z,e g k x w' m⟩)
theorem a_lin  {l:List Oper}  {n m:Nat}  {F:Yd->Hp->Prop} (e:List (Nat×Nat)) 
    (g:(Region.noSelect l.toArray && Oj l.toArray ts e listed && Nat.beq (e.length+n) m)=true) (h:LD P N sc M l.toArray F e env H)
    (q:∀env H,F env H->A P N sc M l.toArray ts Q n (Ns e listed) env H):A P N sc M l.toArray ts Q m listed env H:=by
  simp only [bH]at g;obtain⟨⟨j,k⟩,f⟩:=g;have f:=cP f;subst f;exact LD.sound j e listed env H k h q
theorem Fy  {l:List Oper} (M:Nat->Prop) (ts:List Nat) 
    (h:A P N sc M l.toArray ts Q l.length (Array.replicate l.length false) env H) (g:P.follows .mixedOrders=true:=by kernel_rfl):E P N sc (.region id l.toArray true) Q env H:=λa w hs=>by
  refine Code.wp_mono (Q:=Dj Q) (λe a w f=>by cases e<;>first|exact f|exact f.elim) ?_;refine wp_region_any g (Gf (C:=Chg M) (ts:=ts) _ _ _ _ ?_);simpa using h a _ hs.drew
theorem e_dreg  {l:List Oper} (M:Nat->Prop) (e:List (Nat×Nat)) (r:P.follows .mixedOrders=true)
    (g:(Region.noSelect l.toArray && Nat.beq e.length l.length && Oj l.toArray (Hb e) e (Array.replicate l.length false) &&
      (Region.ready .any l.toArray (Ns e (Array.replicate l.length false))).isEmpty)=true)
    (h:LD P N sc M l.toArray (X N sc .normal Q) e env H):E P N sc (.region id l.toArray true) Q env H:=by
  simp only [bH]at g;obtain⟨⟨⟨j,f⟩,k⟩,m⟩:=g;have f:=cP f;refine Fy M (Hb e) ?_ r;have:=LD.sound (n:=0) (Q:=Q) j e _ env H k h (λenv H q=>Ie q m);rw [<-f];rw [<-f]at this;simpa using this
end Go.Sky
namespace Go.Sky
open Go.RowKit Below
variable{w:World}{k kd:IntKind}{v:Value}{o:Oper}{i b:Nat}{p:Pc}{c y:Operand}{t' tb:TypeId}{m:Int}{cs:Array Value}
variable {P:Program} {N:Nat} {sc:Nat->Prop} {env env':Yd} {H H':Hp} {Q Q':Exit->Act->World->Prop}
def keep(f:World)(M:Nat->Prop):Pc:=
 {own:=false,fp:=λb=>b<f.heap.size/\¬M b,holds:=λw=>Chg M f w
  lt:=λw b h g=>cW g.1 h.size
  stable:=λw l h a=>⟨a.os.trans h.os,a.tape.trans h.tape,a.output.trans h.output,aM h.size a.size,
   λk d e=>(a.block k (cW d h.size) (λj=>j ⟨d,e⟩)).trans (h.block k d e)⟩ }
def box(b:Nat)(t:TypeId)(cs:Array Value):Pc:=
 {own:=true,fp:=λk=>k=b,holds:=λw=>w.heap[b]? = some (.cells cs t (0,0))
  lt:=λw k h d=>by subst d;exact(aL.1 h).1
  stable:=λw f h a=>by rw [<-h];exact a.block b (aL.1 h).1 (λe=>e rfl) }
def cellsOf{α:Type}(enc:α->Value)(xs:List α):List Value:=xs.flatMap λx=>(enc x).cells.toList
def RowAt{α:Type}(w:World)(k:Nat)(enc:α->Value)(v:Value)(xs:List α):Prop:=
 ∃a c,v= .slice a xs.length c/\xs.length<=c/\c<=maxLen/\(xs=[]\/∃g d,a=some ⟨g,d,none⟩/\
  ∀i x,xs[i]? = some x->∀j u,(enc x).cells.toList[j]? = some u->w.cell? ⟨g,d+i*k+j,none⟩=some u)
theorem RowAt.same{α:Type}{q:World}{k:Nat}{enc:α->Value}{xs:List α}(h:RowAt w k enc v xs)(s:∀b,xs≠[]/\v.ownBlock=some b->q.heap[b]? = w.heap[b]?):RowAt q k enc v xs:=by
 obtain⟨a,c,rfl,d,e,f⟩:=h;rcases f with f|⟨g,l,rfl,r⟩
 .exact⟨a,c,rfl,d,e,.inl f⟩
 by_cases n:xs=[]
 .exact⟨_,c,rfl,d,e,.inl n⟩
 refine⟨_,c,rfl,d,e,.inr ?_⟩;refine⟨g,l,rfl,λi x hi j u t=>?_⟩;rw [<-r i x hi j u t];exact World.cell?_of_block (s g ⟨n,rfl⟩)
def Ou{α:Type}(k:Nat)(enc:α->Value)(v:Value)(xs:List α):Pc:=
 {own:=false,fp:=λb=>xs≠[]/\v.ownBlock=some b,holds:=λw=>RowAt w k enc v xs/\∀b,xs≠[]/\v.ownBlock=some b->b<w.heap.size
  lt:=λw b h a=>h.2 b a
  stable:=λw f h d=>⟨h.1.same λb a=>d.block b (h.2 b a) (λe=>e a),λb a=>cW (h.2 b a) d.size⟩ }
def Yu{α:Type}(k:Nat)(e:TypeId)(enc:α->Value)(v:Value)(xs:List α):Pc:=
 {own:=true,fp:=λb=>v.ownBlock=some b,holds:=λw=>w.ownsRow 0 e k v xs.length (cellsOf enc xs)
  lt:=λw b h l=>(h.lt b l).2
  stable:=λw r h q=>by
   refine⟨h.1,?_⟩;rcases h.2 with n|⟨g,f,j,rfl,l,a,d⟩
   .exact .inl n
   .refine .inr ⟨g,f,j,rfl,l,?_,d⟩;rw [<-a];exact q.block g (aL.1 a).1 (λn=>n rfl) }
structure Enc {α:Type} (P:Program) (t:TypeId) (k:Nat) (enc:α->Value):Prop where
 pos:0<k
 cells:∀x,(enc x).cells.size=k
 one:∀x,∀u∈(enc x).cells.toList,u.oneCell'=true
 size:∀w,(sizeOf t).run P w= .ok k w
 load:∀x w ad,(∀j u,(enc x).cells.toList[j]? = some u->w.cell? (ad.add j)=some u)->(loadVar t ad).run P w= .ok (enc x) w
theorem Enc.flat{α:Type}{t:TypeId}{enc:α->Value}(hs:∀w,(sizeOf t).run P w= .ok 1 w)(g:∀w,(isAgg t).run P w= .ok false w)(f:∀x,(enc x).oneCell'=true):Enc P t 1 enc:=by
 have a:∀x,(enc x).cells=#[enc x]:=λx=>by have:=f x;cases hx:enc x<;>simp_all [Value.cells,Value.oneCell']
 refine⟨O,λx=>by rw [a];rfl,λx u d=>?_,hs,λx w j h=>?_⟩
 .rw [a]at d;simp at d;rw [d];exact f x
 .have e:=h 0 (enc x) (by rw [a];rfl);simp only [Addr.add,kB]at e;simp [loadVar,g,e]
theorem Enc.agg {α:Type} {t:TypeId} {k:Nat} {enc:α->Value} (q:0<k) (hs:∀w,(sizeOf t).run P w= .ok k w) (n:∀w,(isAgg t).run P w= .ok true w)
  (e:∀x,∃cs:List Value,enc x= .agg cs.toArray/\cs.length=k/\∀u∈cs,u.oneCell'=true):Enc P t k enc:=by
 refine⟨q,λx=>?_,λx u j=>?_,hs,λx w l h=>?_⟩
 .obtain⟨cs,a,d,f⟩:=e x;rw [a];simpa [Value.cells]using d
 .obtain⟨cs,a,d,f⟩:=e x;rw [a]at j;exact f u (by simpa [Value.cells]using j)
 .obtain⟨cs,a,d,f⟩:=e x;rw [a]at h ⊢;have g:=run_loadCells_list (P:=P) w l cs (by simpa [Value.cells]using h);rw [d]at g;simp [loadVar,n,hs,g]
theorem Zz{α:Type}{k:Nat}{enc:α->Value}(a:∀x,(enc x).cells.size=k):∀xs:List α,(cellsOf enc xs).length=xs.length*k
 | []=>by simp [cellsOf]
 | x::r=>by have d:=Zz a r;simp only [cellsOf,eJ,aJ,bN,bF]at d ⊢;rw [d,a x,dB];omega
theorem Nu{α:Type}{k:Nat}{enc:α->Value}(a:∀x,(enc x).cells.size=k):∀(xs:List α) (i:Nat) (x:α),xs[i]? = some x->∀j u,(enc x).cells.toList[j]? = some u->(cellsOf enc xs)[i*k+j]? = some u
 | [],_,_,h,_,_,_=>by simp at h
 | y::r,0,x,h,j,u,hu=>by simp at h;subst h;simp only [cellsOf,eJ,iA,dK];rw [aV (dH.1 hu).1];exact hu
 | y::r,i+1,x,h,j,u,hu=>by have d:=Nu a r i x (by simpa using h) j u hu;simp only [cellsOf,eJ]at d ⊢;rw [aR (by simp [a,dB];omega)];rw [<-d];congr 1;simp [a,dB];omega
def Rd{α:Type}(p:Pc)(k:Nat)(enc:α->Value)(v:Value)(xs:List α):Prop:=∀w,p.holds w->RowAt w k enc v xs
def Zn{α:Type}{k:Nat}{enc:α->Value}{xs:List α} : Rd (Ou k enc v xs) k enc v xs:=λw h=>h.1
theorem Kv{α:Type}{k:Nat}{e:TypeId}{enc:α->Value}{xs:List α}(s:∀x,(enc x).cells.size=k)(h:w.ownsRow 0 e k v xs.length (cellsOf enc xs)):RowAt w k enc v xs:=by
 rcases h.2 with⟨rfl,B⟩|⟨g,f,r,rfl,_,n,q,l,t,a⟩
 .have:xs=[]:=aE B;subst this;exact⟨none,0,rfl,aH _,O6,.inl rfl⟩
 .refine⟨_,f,rfl,q,l,.inr ⟨g,0,rfl,λi x hi j u z=>?_⟩⟩;have d:=Nu s xs i x hi j u z;rw [<-a,aX]at d;simp only [dK];split at d
  .simp only [World.cell?,n];simpa using d
  .cases d
def Ze{α:Type}{t:TypeId}{k:Nat}{e:TypeId}{enc:α->Value}{xs:List α}(a:Enc P t k enc):Rd (Yu k e enc v xs) k enc v xs:=λw h=>Kv a.cells h
theorem Xw(g o n:Nat):(⟨g,o,none⟩:Addr).add n=⟨g,o+n,none⟩:=by unfold Addr.add;split<;>simp_all
def ead(v:Value)(i k:Nat):Addr:=match v with
 | .slice (some a) _ _=>a.add (i*k)
 | _=>default
theorem Zm7{x:Operand}(d:o.op= .move x)(e:ev env x=some v):Pv P N sc o env H v:=λa w hs=>by simp only [execOp,d,hs.ev e];rfl
theorem d_as{x:Operand}(d:o.op= .assign x)(e:ev env x=some v):Pv P N sc o env H v:=λa w hs=>by simp only [execOp,d,hs.ev e];rfl
theorem d_ex{x:Operand}{vs:Array Value}(d:o.op= .extract x i)(f:ev env x=some (.tuple vs))(e:vs[i]? = some v):Pv P N sc o env H v:=λa w hs=>by simp [execOp,d,hs.ev f,Instr.extract,e]
theorem d_nc{x:Operand}{d:Addr}(e:o.op= .nilCheck x)(f:ev env x=some (.pointer (some d))):Pv P N sc o env H (.pointer (some d)):=λa w hs=>by simp [execOp,e,hs.ev f]
theorem d_not{x:Operand}{t:TypeId}{p:Prop}[Decidable p](d:o.op= .unOp .not t x)(e:ev env x=some (.bool (decide p))):Pv P N sc o env H (.bool (decide (¬p))):=λa w hs=>by simp [execOp,d,hs.ev e,Op.unary]
theorem Gt{x:Operand}{t:TypeId}{b:Bool}(d:o.op= .unOp .not t x)(e:ev env x=some (.bool b)):Pv P N sc o env H (.bool (!b)):=λa w hs=>by simp [execOp,d,hs.ev e,Op.unary]
theorem Zm5{x:Operand}(e:o.op= .pick c x y)(d:ev env c=some (.bool true))(f:ev env x=some v):Pv P N sc o env H v:=λa w hs=>by simp [execOp,e,hs.ev d,hs.ev f,asBool]
theorem Zm6{x:Operand}(e:o.op= .pick c x y)(d:ev env c=some (.bool false))(f:ev env y=some v):Pv P N sc o env H v:=λa w hs=>by simp [execOp,e,hs.ev d,hs.ev f,asBool]
def Ir(n:Int):Prop:=-9223372036854775808<=n/\n<=9223372036854775807
theorem Cn{n:Int}(h:Ir n):IntKind.i64.wrap n=n:=by rw [IntKind.wrap_i64];obtain⟨a,d⟩:=h;omega
theorem wrap_u(n:Int):IntKind.u64.wrap n=n%18446744073709551616:=by simp [IntKind.wrap,IntKind.bits,IntKind.signed]
theorem Il  {d:BinOp} {t:TypeId} {x:Operand}  {n:Int} {r:Value} (e:o.op= .binOp d t x y t') (g:ev env x=some (.int k m)) (h:ev env y=some (.int k n))
  (f:∀w,(binOp d t (.int k m) (.int k n)).run P w= .ok r w):Pv P N sc o env H r:=λa w hs=>by
 simp [execOp,e,hs.ev g,hs.ev h,eqGuard,f w]
theorem Zau{t:TypeId}{x:Operand}{n:Int}(a:o.op= .binOp .add t x y t')(d:ev env x=some (.int .i64 m))(e:ev env y=some (.int .i64 n))(h:Ir (m+n):=by exact⟨O,O⟩) :
  Pv P N sc o env H (.int .i64 (m+n)):=Il a d e λw=>by simp [binOp,Op.intArith,Cn h]
theorem d_sub{t:TypeId}{x:Operand}{n:Int}(a:o.op= .binOp .sub t x y t')(d:ev env x=some (.int .i64 m))(e:ev env y=some (.int .i64 n))(h:Ir (m-n)) :
  Pv P N sc o env H (.int .i64 (m-n)):=Il a d e λw=>by simp [binOp,Op.intArith,Cn h]
theorem d_mul{t:TypeId}{x:Operand}{n:Int}(a:o.op= .binOp .mul t x y t')(d:ev env x=some (.int .i64 m))(e:ev env y=some (.int .i64 n))(h:Ir (m*n)) :
  Pv P N sc o env H (.int .i64 (m*n)):=Il a d e λw=>by simp [binOp,Op.intArith,Cn h]
theorem d_lss{t:TypeId}{x:Operand}{n:Int}(a:o.op= .binOp .lss t x y t')(d:ev env x=some (.int k m))(e:ev env y=some (.int k n)) :
  Pv P N sc o env H (.bool (decide (m<n))):=Il a d e λw=>by simp [binOp,Op.intCmp]
theorem Zj5{t:TypeId}{x:Operand}{n:Int}(a:o.op= .binOp .leq t x y t')(d:ev env x=some (.int k m))(e:ev env y=some (.int k n)) :
  Pv P N sc o env H (.bool (decide (m<=n))):=Il a d e λw=>by simp [binOp,Op.intCmp]
theorem d_gtr{t:TypeId}{x:Operand}{n:Int}(a:o.op= .binOp .gtr t x y t')(d:ev env x=some (.int k m))(e:ev env y=some (.int k n)) :
  Pv P N sc o env H (.bool (decide (n<m))):=Il a d e λw=>by simp [binOp,Op.intCmp]
theorem d_geq{t:TypeId}{x:Operand}{n:Int}(a:o.op= .binOp .geq t x y t')(d:ev env x=some (.int k m))(e:ev env y=some (.int k n)) :
  Pv P N sc o env H (.bool (decide (n<=m))):=Il a d e λw=>by simp [binOp,Op.intCmp]
theorem d_eql{t:TypeId}{x:Operand}{n:Int}(a:o.op= .binOp .eql t x y t')(d:ev env x=some (.int k m))(e:ev env y=some (.int k n)) :
  Pv P N sc o env H (.bool (decide (m=n))):=Il a d e λw=>by
 simp only [binOp,ne_eq,iL,lK,Op.intCmp];rw [show(m == n)=decide (m=n)from rfl];rfl
theorem d_neq{t:TypeId}{x:Operand}{n:Int}(a:o.op= .binOp .neq t x y t')(d:ev env x=some (.int k m))(e:ev env y=some (.int k n)) :
  Pv P N sc o env H (.bool (decide (m≠n))):=Il a d e λw=>by
 simp only [binOp,ne_eq,iL,lK,Op.intCmp,Sem.run_pure];congr 2;by_cases h:m=n<;>simp [h]
theorem Zj6 {α:Type}  {x:Operand} {t e:TypeId}  {k:Nat}  {enc:α->Value} {xs:List α} (f:o.op= .call { callee:= .builtin .len,args:=#[x],argTypes:=#[t] })
  (j:ev env x=some v) (d:lk H i=some p) (g:Rd p k enc v xs) (h:P.underlying t=some (.slice e)):Pv P N sc o env H (.int .i64 xs.length):=λa w hs=>by
 obtain⟨l,c,rfl,_⟩:=g w (hs.hold i p d);simp [execOp,f,resolve,hs.ev j,invoke,builtin,Builtin.len_,run_underlying h,goInt]
theorem d_lens  {x:Operand} {t:TypeId} {s:ByteArray} (d:o.op= .call { callee:= .builtin .len,args:=#[x],argTypes:=#[t] })
  (f:ev env x=some (.string s)) (e:P.underlying t=some .string):Pv P N sc o env H (.int .i64 s.size):=λa w hs=>by
 simp [execOp,d,resolve,hs.ev f,invoke,builtin,Builtin.len_,run_underlying e,goInt]
theorem Zm (ii:Nat)(i:Nat) {α:Type}  {x:Operand} {t e:TypeId}  {k:Nat}    {enc:α->Value} {xs:List α} (n:o.op= .indexAddr t x y)
  (s:ev env x=some v) (u:ev env y=some (.int kd m)) (l:lk H ii=some p) (q:Rd p k enc v xs) (r:P.underlying t=some (.slice e)) (h:∀w,(sizeOf e).run P w= .ok k w)
  (f:m=(i:Int)) (d:i<xs.length):Pv P N sc o env H (.pointer (some (ead v i k))):=λa w hs=>by
 obtain⟨B,c,rfl,D,F,j⟩:=q w (hs.hold ii p l);rcases j with rfl|⟨g,z,rfl,j⟩
 .simp at d
 .subst f;simp [execOp,n,hs.ev s,hs.ev u,Instr.indexAt,asIntOf,run_underlying r,h,d,ead]
theorem Xk (ii:Nat) {α:Type}  {x:Operand} {t:TypeId}  {k:Nat}  {enc:α->Value} {xs:List α} (e:α) (r:o.op= .load t x)
  (z:ev env x=some (.pointer (some (ead v i k)))) (l:lk H ii=some p) (s:Rd p k enc v xs) (n:Enc P t k enc)
  (d:i<xs.length):Pv P N sc o env H (enc (xs.getD i e)):=λa w hs=>by
 obtain⟨B,c,rfl,D,F,f⟩:=s w (hs.hold ii p l);rcases f with rfl|⟨g,h,rfl,f⟩
 .simp at d
 .have hi:xs[i]? = some (xs.getD i e):=by simp [List.getD,aF d]
  have:=n.load (xs.getD i e) w (ead (.slice (some ⟨g,h,none⟩) xs.length c) i k) (λj u q=>by have:=f i _ hi j u q;simp only [ead,Xw];exact this)
  simp [execOp,r,hs.ev z,Instr.loadAt,Instr.sureAddr,this]
theorem d_fa  {x:Operand} {t:TypeId} {f:Nat} {g:Array Field} {e:Field} {k:Nat} {d q r:Nat} (l:o.op= .fieldAddr t x f)
  (z:ev env x=some (.pointer (some ⟨b,d,none⟩))) (u:P.underlying t=some (.struct g)) (h:g[f]? = some e) (j:∀w,(sizeOf e.type).run P w= .ok (k+1) w) (n:e.offset=q) (s:d+q=r) :
  Pv P N sc o env H (.pointer (some ⟨b,r,none⟩)):=λa w hs=>by
 subst s;subst n;simp [execOp,l,hs.ev z,Instr.fieldAt,run_underlying u,h,Instr.sureAddr,fieldPlace,j,Xw]
theorem Sat.boxc{a:Act}(hs:Sat N sc env H a w){t:TypeId}(d:lk H i=some (box b t cs))(j:Nat):w.cell? ⟨b,j,none⟩=cs[j]?:=by have h:w.heap[b]? = some (.cells cs t (0,0)):=hs.hold i _ d;simp [World.cell?,h]
theorem d_lb (i:Nat)  {x:Operand} {t:TypeId} {j:Nat}   (e:o.op= .load t x)
  (l:ev env x=some (.pointer (some ⟨b,j,none⟩))) (d:lk H i=some (box b tb cs)) (f:∀w,(isAgg t).run P w= .ok false w) (g:cs[j]? = some v):Pv P N sc o env H v:=λa w hs=>by
 have h:=hs.boxc d j;rw [g]at h;simp [execOp,e,hs.ev l,Instr.loadAt,Instr.sureAddr,loadVar,f,load,Sem.run,h]
theorem d_lba  {x:Operand} {t:TypeId} {j k:Nat}  {vs:List Value} (h:o.op= .load t x)
  (s:ev env x=some (.pointer (some ⟨b,j,none⟩))) (e:lk H i=some (box b tb cs)) (l:∀w,(isAgg t).run P w= .ok true w) (f:∀w,(sizeOf t).run P w= .ok k w)
  (g:vs.length=k) (r:∀n u,vs[n]? = some u->cs[j+n]? = some u):Pv P N sc o env H (.agg vs.toArray):=λa w hs=>by
 have d:=run_loadCells_list (P:=P) w ⟨b,j,none⟩ vs (λn u q=>by rw [Xw,hs.boxc e];exact r n u q);rw [g]at d;simp [execOp,h,hs.ev s,Instr.loadAt,Instr.sureAddr,loadVar,l,f,d]
end Go.Sky
namespace Go.Sky
open Go.RowKit Below
variable{a:Act}{w w' w0:World}{M0:Nat->Prop}{o:Oper}{d i k:Nat}{cs:Array Value}{v:Value}{p:Pc}{y:Operand}{tb:TypeId}{parts:Array (Nat×Operand)}
variable {P:Program} {N:Nat} {sc:Nat->Prop} {env env':Yd} {H H':Hp} {Q Q':Exit->Act->World->Prop} {M:Nat->Prop}
def Chg.alloc(M:Nat->Prop)(w:World)(o:Obj):Chg M w (w.alloc o):=
 ⟨rfl,rfl,rfl,O6,λk b _=>heap_alloc_old w o k b⟩
def Sat.chg(h:Sat N sc env H a w)(f:∀fp:Nat->Prop,(∀b,fp b->b<w.heap.size)->Chg (λb=>¬fp b) w w'):Sat N sc env H a w':=
 ⟨h.size,h.defers,h.env,λi c hi=>c.stable w w' (h.hold i c hi) (f _ λb e=>c.lt w b (h.hold i c hi) e),h.sep,h.scope⟩
def Sat.chg0(h:Sat N sc env H a w)(b:Chg (λ_=>False) w w'):Sat N sc env H a w':=
 h.chg λf c=>⟨b.os,b.tape,b.output,b.size,λk e g=>b.block k e (λh=>h)⟩
theorem Sat.add   (h:Sat N sc env H a w) (i:Nat) (p:Pc) (B:p.holds w) (n:∀j g,j≠i->lk H j=some g->(p.own=true\/g.own=true)->∀b,p.fp b->g.fp b->False)
  (x:∀b,p.fp b->sc b):Sat N sc env ((i,p)::H) a w:=by
 refine⟨h.size,h.defers,h.env,λj g c=>?_,λj z g t l c e f b r q=>?_,λj g u c b r=>?_⟩
 .by_cases m:i=j
  .subst m;rw [Zp]at c;cases c;exact B
  .rw [Zg m]at c;exact h.hold j g c
 .by_cases m:i=j
  .subst m;rw [Zp]at c;cases c;rw [Zg l]at e;exact n z t (gQ l) e (.inl f) b r q
  .rw [Zg m]at c;by_cases s:i=z
   .subst s;rw [Zp]at e;cases e;exact n j g l c (.inr f) b q r
   .rw [Zg s]at e;exact h.sep j z g t l c e f b r q
 .by_cases m:i=j
  .subst m;rw [Zp]at c;cases c;exact x b r
  .rw [Zg m]at c;exact h.scope j g u c b r
def Wide(sc:Nat->Prop)(H:Hp):Prop:=∃w0 M,lk H 0=some (keep w0 M)/\∀b,w0.heap.size<=b->sc b
theorem Sat.new   (h:Sat N sc env H a w)   (l:lk H 0=some (keep w0 M0)) (s:∀b,w0.heap.size<=b->sc b) (i:Nat) (p:Pc) (o:Obj)
  (r:p.holds (w.alloc o)) (c:∀b,p.fp b->b=w.heap.size):Sat N sc env ((i,p)::H) a (w.alloc o):=by
 have m:=h.chg0 (Chg.alloc _ w o);have q:w0.heap.size<=w.heap.size:=(h.hold 0 _ l).size;refine m.add i p r (λj g _ n _ b e f=>?_) (λb e=>s b (by rw [c b e];exact q));have:=g.lt w b (h.hold j g n) f;rw [c b e]at this;omega
theorem Zlg  {t:TypeId}  {z:Value}    (l:o.op= .alloc t) (j:o.dst=some d) (f:Nat.blt d N=true)
  (q:∀w,(zeroValue t).run P w= .ok z w) (h:z.cells=cs) (c:lk H 0=some (keep w0 M0)) (n:∀b,w0.heap.size<=b->sc b) :
  T P N sc M o env H (G:=Nat) (λ_=>True) (λb=>(d,.pointer (some ⟨b,0,none⟩))::env) (λb=>(i,box b t cs)::H):=λa w hs K Q e=>by
 subst h;have m:(execOp a.eval o).run P w= .ok (.value (.pointer (some ⟨w.heap.size,0,none⟩))) (w.alloc (.cells z.cells t)):=by simp [execOp,l,Instr.alloc,q,newVar,newRow]
 unfold Oper.wp;rw [m];show K (a.put o.dst _) _;rw [j];exact e w.heap.size _ _ aB ((hs.new c n i (box w.heap.size t z.cells) (.cells z.cells t) (heap_alloc_new w _) (λb g=>g)).put d _ f) (Chg.alloc _ _ _)
theorem t_box  {t:TypeId} {x:Operand}      (l:o.op= .box t x) (j:o.dst=some d) (f:Nat.blt d N=true)
  (q:ev env x=some v) (h:v.cells=cs) (c:lk H 0=some (keep w0 M0)) (n:∀b,w0.heap.size<=b->sc b) :
  T P N sc M o env H (G:=Nat) (λ_=>True) (λb=>(d,.pointer (some ⟨b,0,none⟩))::env) (λb=>(i,box b t cs)::H):=λa w hs K Q e=>by
 subst h;have m:(execOp a.eval o).run P w= .ok (.value (.pointer (some ⟨w.heap.size,0,none⟩))) (w.alloc (.cells v.cells t)):=by simp [execOp,l,Instr.box,hs.ev q,newVar,newRow]
 unfold Oper.wp;rw [m];show K (a.put o.dst _) _;rw [j];exact e w.heap.size _ _ aB ((hs.new c n i (box w.heap.size t v.cells) (.cells v.cells t) (heap_alloc_new w _) (λb g=>g)).put d _ f) (Chg.alloc _ _ _)
def One(N:Nat)(sc:Nat->Prop)(env:Yd)(H:Hp)(v:Value):Prop:=∀a w,Sat N sc env H a w->v.oneCell'=true
def Qq(h:v.oneCell'=true):One N sc env H v:=λ_ _ _=>h
theorem Bj (i:Nat){α:Type}{enc:α->Value}{xs:List α}(b:lk H i=some p)(e:Rd p k enc v xs):One N sc env H v:=λa w hs=>by obtain⟨f,c,rfl,_⟩:=e w (hs.hold i p b);rfl
theorem Ys(h:v.oneCell'=true):v.cells=#[v]:=by cases v<;>simp_all [Value.cells,Value.oneCell']
def Xs{g:Nat}(b:M g):Chg M w (w.setRow g cs):=
 ⟨rfl,rfl,rfl,O6,λk _ c=>setRow_other w g k cs (λe=>c (e▸b))⟩
theorem Sat.upd   (h:Sat N sc env H a w)  {q:Pc} (hi:lk H i=some p) (f:p.own=true) (D:i≠0)
  (x:Chg p.fp w w') (W:q.holds w') (u:∀b,q.fp b->p.fp b\/w.heap.size<=b)   (I:lk H 0=some (keep w0 M0)) (Y:∀b,w0.heap.size<=b->sc b) :
  Sat N sc env ((i,q)::H) a w':=by
 refine⟨h.size,h.defers,h.env,λj g c=>?_,λj B g t s c e S b m n=>?_,λj g F c b m=>?_⟩
 .by_cases r:i=j
  .subst r;rw [Zp]at c;cases c;exact W
  .rw [Zg r]at c;exact g.stable w w' (h.hold j g c) ⟨x.os,x.tape,x.output,x.size,λb m R=>x.block b m (λV=>R (λG=>h.sep i j p g r hi c f b V G))⟩
 .by_cases r:i=j
  .subst r;rw [Zp]at c;cases c;rw [Zg s]at e;rcases u b m with l|l
   .exact h.sep i B p t s hi e f b l n
   .have:=t.lt w b (h.hold B t e) n;omega
  .rw [Zg r]at c;by_cases z:i=B
   .subst z;rw [Zp]at e;cases e;rcases u b n with l|l
    .exact h.sep i j p g (gQ s) hi c f b l m
    .have:=g.lt w b (h.hold j g c) m;omega
   .rw [Zg z]at e;exact h.sep j B g t s c e S b m n
 .by_cases r:i=j
  .subst r;rw [Zp]at c;cases c;rcases u b m with l|l
   .exact h.scope i p D hi b l
   .exact Y b (aM (h.hold 0 _ I).size l)
  .rw [Zg r]at c;exact h.scope j g F c b m
def Zc9(cs:Array Value)(j:Nat)(vs:List Value):Array Value:=(cs.toList.take j ++ vs ++ cs.toList.drop (j+vs.length)).toArray
theorem t_stb  {x:Operand} {t:TypeId} {b j:Nat} {c:Array Value}  {vs:List Value}   (I:o.op= .store t x y) (F:o.dst=none)
  (Y:ev env x=some (.pointer (some ⟨b,j,none⟩))) (Z:ev env y=some v) (n:lk H i=some (box b tb cs)) (l:i≠0) (V:v.cells=vs.toArray) (m:∀w,(sizeOf t).run P w= .ok k w) (f:vs.length=k)
  (e:j+vs.length<=cs.size) (z:∀u∈vs,One N sc env H u) (g:Zc9 cs j vs=c)
  (s:lk H 0=some (keep w0 M0)) (W:∀b,w0.heap.size<=b->sc b) (D:M b) :
  T P N sc M o env H (G:=Unit) (λ_=>True) (λ_=>env) (λ_=>(i,box b tb c)::H):=λa w hs K Q B=>by
 subst g;have r:w.heap[b]? = some (.cells cs tb (0,0)):=hs.hold i _ n;have h:=run_storeCells_at P b j tb vs 0 cs w r (by simpa using e) (λu S=>z u S a w hs);simp only [gE]at h;have R:(execOp a.eval o).run P w= .ok .skip (w.setRow b (Zc9 cs j vs)):=by simp [execOp,I,hs.ev Y,hs.ev Z,Instr.storeAt,Instr.sureAddr,storeVar,V,m,f,h,Zc9]
 unfold Oper.wp;rw [R];show K (a.put o.dst _) _;rw [F];exact B () _ _ aB ((hs.upd n rfl l (q:=box b tb (Zc9 cs j vs)) (Xs (M:=λk=>k=b) rfl) (setRow_heap w b cs _ tb _ r) (λk m=> .inl m) s W).put_none undef) (Xs D)
theorem t_bs {α:Type}  {t e:TypeId} {n:Nat}      {enc:α->Value} (xs:List α)
  (B:o.op= .buildSlice t n parts) (s:o.dst=some d) (r:Nat.blt d N=true)
  (D:∀a w,Sat N sc env H a w->(Instr.buildSlice t n (parts.map λ(i,x)=>(i,a.eval x))).run P w= .ok (.slice (some ⟨w.heap.size,0,none⟩) n n) (w.alloc (.cells cs e)))
  (f:cs.toList=cellsOf enc xs) (h:xs.length=n) (u:∀x,(enc x).cells.size=k) (z:n<=maxLen)
  (m:lk H 0=some (keep w0 M0)) (F:∀b,w0.heap.size<=b->sc b) :
  T P N sc M o env H (G:=Nat) (λ_=>True) (λb=>(d,.slice (some ⟨b,0,none⟩) n n)::env) (λb=>(i,Yu k e enc (.slice (some ⟨b,0,none⟩) n n) xs)::H):=λa w hs K Q q=>by
 have j:(execOp a.eval o).run P w= .ok (.value (.slice (some ⟨w.heap.size,0,none⟩) n n)) (w.alloc (.cells cs e)):=by simp only [execOp,B];rw [show(do pure (.value (<-Instr.buildSlice t n (parts.map λ(i,x)=>(i,a.eval x)))):Sem Next)=(Instr.buildSlice t n (parts.map λ(i,x)=>(i,a.eval x)) >>= λv=>pure (.value v))from rfl];rw [Sem.run_bind,D a w hs];rfl
 have c:=Zz u xs;have g:cs.size=n*k:=by rw [<-bN,f,c,h]
 unfold Oper.wp;rw [j];show K (a.put o.dst _) _;rw [s];refine q w.heap.size _ _ aB ((hs.new m F i (Yu k e enc (.slice (some ⟨w.heap.size,0,none⟩) n n) xs) (.cells cs e) ?_ (λb l=>by simp [Yu,Value.ownBlock]at l;exact l.symm)).put d _ r) (Chg.alloc _ _ _);refine⟨by rw [c],.inr ⟨w.heap.size,n,cs,by rw [h],aW _,heap_alloc_new w _,O,z,g,?_⟩⟩;rw [h,<-f,bZ (by rw [bN,g];exact aH _)]
theorem Ev{α:Type}{enc:α->Value}(f:∀x,(enc x).cells.size=k)(l:0<k)(b:α)(n:Nat):(madeCells (enc b).cells (n*k)).toList=cellsOf enc (List.replicate n b):=by
 apply eK;intro j;by_cases h:j<n*k
 .have m:j/k<n:=gT (by rw [dU];exact h);have e:j%k<k:=gN _ l;have c:(List.replicate n b)[j/k]? = some b:=by simp [m]
  have q:(enc b).cells.toList[j%k]? = some ((enc b).cells[j%k]!):=by
   have:j%k<(enc b).cells.size:=by rw [f];exact e
   rw [getElem!_pos (enc b).cells (j%k) this];simp [this]
  have g:=Nu f (List.replicate n b) (j/k) b c (j%k) _ q;rw [show j/k*k+j%k=j from by rw [dU];exact fU j k]at g;rw [g];simp [madeCells,h,f]
 .rw [bL (by rw [bN,size_madeCells];omega),bL (by rw [Zz f];simp;omega)]
theorem t_mk {α:Type}  {t e:TypeId}  {x:Operand} {n c:Nat} {m:Int}   {enc:α->Value} {ti:TypeInfo} (f:α)
  (R:o.op= .makeSlice t x y) (F:o.dst=some d) (D:Nat.blt d N=true) (Y:ev env x=some (.int .i64 m)) (Z:ev env y=some (.int .i64 m)) (I:m=(n:Int))
  (V:P.underlying t=some (.slice e)) (hi:P.info? e=some ti) (hz:ti.zero=some (enc f)) (s:∀x,(enc x).cells.size=k) (h:0<k) (r:ti.size=k) (q:ti.bytes=c)
  (l:c*n<=281474976710656) (g:0<c)
  (z:lk H 0=some (keep w0 M0)) (W:∀b,w0.heap.size<=b->sc b) :
  T P N sc M o env H (G:=Nat) (λ_=>True) (λb=>(d,.slice (some ⟨b,0,none⟩) n n)::env) (λb=>(i,Yu k e enc (.slice (some ⟨b,0,none⟩) n n) (List.replicate n f))::H):=λa w hs K Q B=>by
 subst I;subst r;subst q;have hn:n<=281474976710656:=aM (Nat.le_mul_of_pos_left n g) l;have j:=run_make (P:=P) w t e ti (enc f) V hi hz .i64 .i64 n n O (cL _) (by rw [<-Int.natCast_mul];omega) O;simp only [bW]at j;have S:(execOp a.eval o).run P w= .ok (.value (.slice (some ⟨w.heap.size,0,none⟩) n n)) (w.alloc (.cells (madeCells (enc f).cells (n*ti.size)) e)):=by simp [execOp,R,hs.ev Y,hs.ev Z,j]
 unfold Oper.wp;rw [S];show K (a.put o.dst _) _;rw [F];refine B w.heap.size _ _ aB ((hs.new z W i (Yu ti.size e enc (.slice (some ⟨w.heap.size,0,none⟩) n n) (List.replicate n f)) _ ?_ (λb l=>by simp [Yu,Value.ownBlock]at l;exact l.symm)).put d _ D) (Chg.alloc _ _ _);have u:=Zz s (List.replicate n f);refine⟨by rw [u],.inr ⟨w.heap.size,n,_,O6,aW _,heap_alloc_new w _,O6,by simp [maxLen];omega,by rw [size_madeCells],?_⟩⟩;rw [Ev s h,bZ (by rw [u];exact aH _)]
theorem Hf{α:Type}{enc:α->Value}{k:Nat}(b:∀x,(enc x).cells.size=k):∀(xs:List α) (i:Nat) (x:α),i<xs.length->
  cellsOf enc (xs.set i x)=(cellsOf enc xs).take (i*k) ++ (enc x).cells.toList ++ (cellsOf enc xs).drop (i*k+k)
 | [],_,_,h=>by simp at h
 | y::r,0,x,_=>by simp only [List.set_cons_zero,cellsOf,eJ,iA,jT,fV,dK];rw [List.drop_append_of_le_length (by simp [b])];rw [List.drop_of_length_le (by simp [b])];simp
 | y::r,i+1,x,h=>by
  have c:=Hf b r i x (by simpa using h);simp only [cellsOf,List.set_cons_succ,eJ]at c ⊢;rw [c];have e:(enc y).cells.toList.length=k:=by simp [b]
  rw [show(i+1)*k=(enc y).cells.toList.length+i*k from by rw [e,dB];omega];rw [List.take_length_add_append,iT,List.drop_length_add_append];simp
theorem Nl (i:Nat) {α:Type}  {x:Operand} {t e:TypeId} {j:Nat} {u:Value} {enc:α->Value} {xs:List α} {z:α}   (ho:o.op= .store t x y) (hd:o.dst=none)
  (hx:ev env x=some (.pointer (some (ead v j k)))) (hy:ev env y=some u) (hu:u=enc z) (Y:lk H i=some (Yu k e enc v xs)) (n:Enc P t k enc) 
  (h0:lk H 0=some (keep w0 M0)) (hw:∀b,w0.heap.size<=b->sc b) (V:i≠0:=by decide) (B:j<xs.length:=by omega) :
  T P N sc (λ_=>True) o env H (G:=Unit) (λ_=>True) (λ_=>env) (λ_=>(i,Yu k e enc v (xs.set j z))::H):=λa w hs K Q hK=>by
 subst hu;have F:w.ownsRow 0 e k v xs.length (cellsOf enc xs):=hs.hold i _ Y;have a0:=n.pos;rcases F.2 with⟨rfl,hn⟩|⟨g,l,h,rfl,hb,Z,D,S,s,r⟩
 .omega
 .have a2:j*k+k<=xs.length*k:=by rw [<-kX];exact bI k B
  have a1:xs.length*k<=l*k:=bI k D;have c:(enc z).cells.toList.length=k:=by simp [n.cells]
  have I:=run_storeCells_at P g (j*k) e (enc z).cells.toList 0 h w Z (by rw [c,s];omega) (n.one z);simp only [gE,c]at I;have hr:(execOp a.eval o).run P w= .ok .skip (w.setRow g (h.toList.take (j*k) ++ (enc z).cells.toList ++ h.toList.drop (j*k+k)).toArray):=by simp [execOp,ho,hs.ev hx,hs.ev hy,Instr.storeAt,Instr.sureAddr,storeVar,n.cells,n.size,ead,Xw,I]
  unfold Oper.wp;rw [hr];show K (a.put o.dst _) _;rw [hd];refine hK () _ _ aB ((hs.upd Y rfl V (q:=Yu k e enc (.slice (some ⟨g,0,none⟩) xs.length l) (xs.set j z)) (Xs (M:=λk=>(Value.slice (some ⟨g,0,none⟩) xs.length l).ownBlock=some k) rfl) ?_ (λk hk=> .inl hk) h0 hw).put_none undef) (Xs aB);have f:h.toList.length=l*k:=by rw [bN,s]
  refine⟨by rw [Zz n.cells],.inr ⟨g,l,_,O6,hb,setRow_heap w g h _ e _ Z,by simpa using D,S,?_,?_⟩⟩
  .simp only [eN,aJ,aI,dS,c,f];omega
  .rw [Hf n.cells xs j z B,<-r];simp only [aS];apply eK;intro q;have m:(h.toList.take (j*k)).length=j*k:=by rw [aI,f];omega
   by_cases R:q<j*k
   .rw [aX,aK O];rw [cM,aV (by rw [m];exact R),cM,aV (by rw [aI,aI,f];omega)];rw [aX,aX,aX,aK R,aK R,aK O]
   .by_cases h2:q<j*k+k
    .rw [aX,aK O];rw [cM,aR (by rw [m];omega),m,aV (by rw [c];omega)];rw [cM,aR (by rw [aI,aI,f];omega)];rw [aV (by rw [c,aI,aI,f];omega)];congr 1;rw [aI,aI,f];omega
    .by_cases W:q<xs.length*k
     .rw [aX,aK W];rw [aR (by rw [aJ,m,c];omega),aJ,m,c,eH];rw [aR (by rw [aJ,aI,aI,f,c];omega),eH,aX];rw [aJ,aI,aI,f,c,aK O];congr 1;omega
     .rw [aX,aG W];rw [bL];simp only [aJ,aI,dS,c,f];omega
end Go.Sky
namespace Go.Sky
open Go.RowKit Below
variable{w w0:World}{o:Oper}{y:Operand}{i k d:Nat}{v v1 v2:Value}{p:Pc}{M0:Nat->Prop}{r pre:List Pc}{xs:List Operand}{ats:Array TypeId}{tb:TypeId}{a:Act}{fn:Func}{args:Array Value}
variable {P:Program} {N:Nat} {sc:Nat->Prop} {env env':Yd} {H H':Hp} {Q Q':Exit->Act->World->Prop} {M:Nat->Prop}
theorem Aq  (t ty e:TypeId) (ti:TypeInfo) (z:Value) (l a1:Nat) (ht:P.underlying t=some (.slice e)) (hi:P.info? e=some ti) (hz:ti.zero=some z)
    (Z:ti.size=l) (a7:ti.bytes=a1) (b0:z.cells.size=l) (b2:0<l)
    (v:Value) (n:Nat) (xs:List Value) (h:w.ownsRow 0 e l v n xs)
    (a:Addr) (m c:Nat) (f:List Value) (W:f.length=m*l) (s:∀j u,f[j]? = some u->w.cell? (a.add j)=some u) (h1:∀u∈f,u.oneCell'=true)
    (a2:n+m<=maxLen) (B:(n+m)*a1<=140737488355328) :
    ∃v' w',(Builtin.append_ #[t,t] ty #[v,.slice (some a) m c]).run P w= .ok v' w'/\w'.ownsRow 0 e l v' (n+m) (xs ++ f)/\w.grownBy w' v.ownBlock/\
      (∀b,v'.ownBlock=some b->v.ownBlock=some b\/w.heap.size<=b):=by
  subst Z;subst a7;have a5:n+m<=9223372036854775807:=by simp only [maxLen]at a2;omega
  have D:(xs ++ f).length=(n+m)*ti.size:=by rw [aJ,h.1,W,dB]
  have I:∀(q:Nat),q<n+m->∀(a4:Option Nat),
      (w.drew.alloc (.cells (xs.toArray ++ f.toArray ++ Builtin.zeroCells z.cells (grownCap w (n+m) q e-(n+m))) e)).ownsRow 0 e ti.size
        (.slice (some ⟨w.heap.size,0,none⟩) (n+m) (grownCap w (n+m) q e)) (n+m) (xs ++ f)/\
      w.grownBy (w.drew.alloc (.cells (xs.toArray ++ f.toArray ++ Builtin.zeroCells z.cells (grownCap w (n+m) q e-(n+m))) e)) a4:=by
    intro q ho a4;have a9:=grownCap_ge w (n+m) q e;have V:grownCap w (n+m) q e<=maxLen:=grownCap_le_maxLen w (n+m) q e a2;refine⟨⟨D,.inr ⟨w.heap.size,_,_,rfl,aW _,heap_alloc_new w.drew _,a9,V,?_,?_⟩⟩,⟨rfl,rfl,rfl,O6,λk hk _=>heap_alloc_old w.drew _ k hk⟩⟩
    . simp only [Array.size_append,eN,size_zeroCells,b0,h.1,W,<-dB];congr 1;omega
    . simp only [Array.toList_append,cM];rw [<-cM,<-D];exact jU
  rcases h.2 with⟨rfl,rfl⟩|⟨g,F,S,rfl,a6,hg,b1,V,a8,a0⟩
  . have hx:xs=[]:=aE (by simpa using h.1);subst hx;by_cases hm:m=0
    . subst hm;have hn:f=[]:=aE (by simpa using W);subst hn;refine⟨.slice none 0 0,w,?_,World.ownsRow_nil w 0 e ti.size,⟨rfl,rfl,rfl,aH _,λ_ _ _=>rfl⟩,λb R=>by simp [Value.ownBlock]at R⟩;simp [Builtin.append_,run_underlying ht,sizeOf,typeInfo,hi,Builtin.lenOf,Builtin.firstCells,loadCells,loadCellsFrom]
    . have hr:=run_append_nil (P:=P) w t ty e ti z ht hi hz a m c f W s O O (by have R:=B;simp only [dK]at R;omega);have G:=I 0 O (Value.ownBlock (.slice none 0 0));simp only [dK,fV,Array.empty_append]at G ⊢;refine⟨_,_,hr,G.1,G.2,λb R=> .inr ?_⟩;simp [Value.ownBlock]at R;omega
  . by_cases x:n+m<=F
    . have a3:n*ti.size+f.length<=S.size:=by rw [W,a8,<-dB];exact bI _ x
      have hr:=run_append_room (P:=P) w t ty e ti ht hi g n F S hg a m c f W s h1 x a3;refine⟨_,_,hr,⟨D,.inr ⟨g,F,_,rfl,a6,setRow_heap w g S _ e _ hg,x,V,?_,?_⟩⟩,⟨rfl,rfl,rfl,O6,λk _ hk=>setRow_other w g k _ (λe=>hk (by simp [Value.ownBlock,e]))⟩,λb R=> .inl (by simpa [Value.ownBlock]using R)⟩
      . simp only [eN,aJ,aI,dS,bN];omega
      . rw [a0,<-D];exact jU
    . have Y:∀j u,xs[j]? = some u->w.cell? ((⟨g,0,none⟩:Addr).add j)=some u:=h.cells (g:=g) rfl;have hr:=run_append_grow (P:=P) w t ty e ti z ht hi hz ⟨g,0,none⟩ n F xs h.1 Y a m c f W s O O (growslice_fits O B);have G:=I F O (Value.ownBlock (.slice (some ⟨g,0,none⟩) n F));refine⟨_,_,hr,G.1,G.2,λb R=> .inr ?_⟩;simp [Value.ownBlock]at R;omega
theorem Pi{α:Type}(enc:α->Value)(xs ys:List α):cellsOf enc (xs ++ ys)=cellsOf enc xs ++ cellsOf enc ys:=by simp [cellsOf]
theorem t_app {α:Type}  {x:Operand} {t e:TypeId} {i2 j h:Nat} {u:Value} {enc:α->Value} {xs ys:List α}  {ti:TypeInfo} {z:Value}  
    (ho:o.op= .call { callee:= .builtin .append,args:=#[x,y],argTypes:=#[t,t] }) (hd:o.dst=some d) (hN:Nat.blt d N=true)
    (hx:ev env x=some v) (hy:ev env y=some u) (hH:lk H i=some (Yu k e enc v xs)) (a3:i≠0) (hj:lk H j=some p) (hr:Rd p k enc u ys) (b0:ys≠[])
    (ht:P.underlying t=some (.slice e)) (hi:P.info? e=some ti) (hz:ti.zero=some z) (s:Enc P e k enc) (a4:ti.size=k) (a1:ti.bytes=h) (b1:z.cells.size=k)
    (n:(xs.length+ys.length)*h<=140737488355328) (B:0<h)
    (h0:lk H 0=some (keep w0 M0)) (hw:∀b,w0.heap.size<=b->sc b) :
    T P N sc (λ_=>True) o env H (G:=Value) (λ_=>True) (λm=>(d,m)::env) (λm=>(i,Yu k e enc m (xs ++ ys))::H):=λa w hs K Q hK=>by
  have S:w.ownsRow 0 e k v xs.length (cellsOf enc xs):=hs.hold i _ hH;obtain⟨ad,c,rfl,h1,h2,Z⟩:=hr w (hs.hold j p hj);rcases Z with rfl|⟨g,W,rfl,Z⟩
  . exact absurd rfl b0
  have a9:∀q u,(cellsOf enc ys)[q]? = some u->w.cell? ((⟨g,W,none⟩:Addr).add q)=some u:=λq u hq=>by
    have a5:q<ys.length*k:=by rw [<-Zz s.cells ys];exact(dH.1 hq).1
    have I:=s.pos;have a2:q/k<ys.length:=gT (by rw [dU];exact a5);have l:ys[q/k]? = some ys[q/k]:=aF a2;have a7:q%k<(enc ys[q/k]).cells.toList.length:=by rw [bN,s.cells];exact gN _ I
    have Y:=aF a7;have h4:=Nu s.cells ys _ _ l _ _ Y;have h5:=Z _ _ l _ _ Y;have R:q/k*k+q%k=q:=by rw [dU];exact fU q k
    rw [R]at h4;rw [iT,R]at h5;rw [hq]at h4;cases h4;rw [Xw];exact h5
  have F:∀u∈cellsOf enc ys,u.oneCell'=true:=λu Y=>by obtain⟨y,_,hy⟩:=iY.1 Y;exact s.one y u hy
  have b2:xs.length+ys.length<=140737488355328:=aM (iZ _ B) n;obtain⟨m,w',V,a6,f,a0⟩:=Aq (P:=P) t o.type e ti z k h ht hi hz a4 a1 b1 s.pos v xs.length (cellsOf enc xs) S ⟨g,W,none⟩ ys.length c (cellsOf enc ys)
    (Zz s.cells ys) a9 F (by simp only [maxLen];omega) n
  have a8:(execOp a.eval o).run P w= .ok (.value m) w':=by simp only [execOp,ho,resolve,invoke,builtin,Sem.run_bind,Sem.run_pure,Result.andThen_ok,eY,bK,gF,hs.ev hx,hs.ev hy,V]
  unfold Oper.wp;rw [a8];show K (a.put o.dst _) _;rw [hd];have D:Chg (λb=>v.ownBlock=some b) w w':=⟨f.os,f.tape,f.output,f.size,λb n hn=>f.block b n (λe=>hn e.symm)⟩;refine hK m _ _ aB ((hs.upd hH rfl a3 (q:=Yu k e enc m (xs ++ ys)) D ?_ (λb n=>a0 b n) h0 hw).put d _ hN) ⟨f.os,f.tape,f.output,f.size,λb n hn=>absurd aB hn⟩;show w'.ownsRow 0 e k m (xs ++ ys).length (cellsOf enc (xs ++ ys));rw [Pi,aJ];exact a6
def Cal(P:Program)(f:FuncId)(args:Array Value)(pre:List Pc)(al:Bool){G:Type}(φ:G->Prop)(val:G->Value)(c:G->List Pc):Prop:=
  ∀w,(∀p∈pre,p.holds w)->Calls P f args w λe h=>∃g,e= .returned (val g)/\φ g/\Below w.heap.size w h/\
    ∀p∈c g,p.holds h/\p.own=false/\∀b,p.fp b->w.heap.size<=b\/(al=true/\∃q∈pre,q.fp b)
@[reducible] def adds:Nat->List Pc->Hp->Hp
  | _,[],H=>H
  | n,p::r,H=>(n,p)::adds (n+1) r H
def PreOk(H:Hp)(al:Bool):List Pc->Prop
  | []=>True
  | p::r=>(∃i c,i≠0/\lk H i=some c/\(∀w,c.holds w->p.holds w)/\(∀b,p.fp b->c.fp b)/\(al=true->c.own=false))/\PreOk H al r
theorem PreOk.mem{al:Bool} : ∀{pre:List Pc},PreOk H al pre->∀p∈pre,∃i c,i≠0/\lk H i=some c/\(∀w,c.holds w->p.holds w)/\(∀b,p.fp b->c.fp b)/\(al=true->c.own=false)
  | p::r,h,q,e=>by
    cases e with
    | head=>exact h.1
    | tail _ e=>exact PreOk.mem h.2 q e
def Xj{al:Bool} : PreOk H al []:=aB
theorem Xu{al:Bool}(i:Nat)(hi:lk H i=some p)(b:Nat.beq i 0=false)(c:p.own=false)(h:PreOk H al r):PreOk H al (p::r):=
  ⟨⟨i,p,λe=>by subst e;simp at b,hi,λ_ h=>h,λ_ h=>h,λ_=>c⟩,h⟩
theorem Ha{α:Type}{t:TypeId}{e:TypeId}{enc:α->Value}{xs:List α}(i:Nat)(hi:lk H i=some (Yu k e enc v xs))(c:Nat.beq i 0=false)(g:Enc P t k enc)(h:PreOk H false r):PreOk H false (Ou k enc v xs::r):=
  ⟨⟨i,_,λe=>by subst e;simp at c,hi,λw h=>⟨Kv g.cells h,λb f=>(h.lt b f.2).2⟩,λ_ h=>h.2,λh=>by cases h⟩,h⟩
theorem Sat.adds{a:Act}{w:World}{w1:World} : ∀(l:List Pc) (n:Nat) {H:Hp},Sat N sc env H a w->(∀p∈l,p.holds w/\p.own=false/\(∀b,p.fp b->sc b)/\
    ∀j c,lk H j=some c->c.own=true->∀b,p.fp b->c.fp b->False)->Sat N sc env (adds n l H) a w
  | [],_,_,h,_=>h
  | p::r,n,H,h,hl=>by
    have t:=Sat.adds (w1:=w1) r (n+1) h (λq e=>hl q (bC _ e));obtain⟨z,B,D,F⟩:=hl p (bM ..);have u:∀(l:List Pc) (m:Nat) (H:Hp) (j:Nat) (c:Pc),(∀q∈l,q.own=false)->lk (Sky.adds m l H) j=some c->c.own=true->lk H j=some c:=by
      intro l
      induction l with
      | nil=>intro m H j c _ h _;exact h
      | cons q l t=>
        intro m H j c e h g;by_cases x:m=j
        . subst x;simp only [Sky.adds]at h;rw [Zp]at h;cases h;rw [e q (bM ..)]at g;cases g
        . simp only [Sky.adds]at h;rw [Zg x]at h;exact t (m+1) H j c (λq s=>e q (bC _ s)) h g
    refine t.add n p z (λj c _ I Ih b G f=>?_) D;rcases Ih with Ih|Ih
    . rw [B]at Ih;cases Ih
    . exact F j c (u r (n+1) H j c (λq e=>(hl q (bC _ e)).2.1) I Ih) Ih b G f
def evs(e:Yd):List Operand->Option (List Value)
  | []=>some []
  | x::r=>match ev e x,evs e r with
    | some v,some b=>some (v::b)
    | _,_=>none
def EvL(e:Yd):List Operand->List Value->Prop
  | [],[]=>True
  | x::r,v::vs=>ev e x=some v/\EvL e r vs
  | _,_=>False
theorem EvL.map{a:Act}{w:World}(h:Sat N sc env H a w):∀{xs:List Operand} {vs:List Value},EvL env xs vs->xs.map a.eval=vs
  | [],[],_=>rfl
  | x::r,v::vs,hh=>by simp only [bK,h.ev hh.1,EvL.map h hh.2]
  | [],_::_,hh=>hh.elim
  | _::_,[],hh=>hh.elim
theorem Zhz (n:Nat)  {f:FuncId}    {vs:List Value}  {al:Bool} {G:Type} {φ:G->Prop} {val:G->Value} {z:G->List Pc}  
    (hc:Cal P f vs.toArray pre al φ val z)
    (ho:o.op= .call { callee:= .value (.func f),args:=xs.toArray,argTypes:=ats }) (hd:o.dst=some d) (hN:Nat.blt d N=true)
    (s:EvL env xs vs) (t:∀args w,(callFunc f args).run P w= .ok (.enter f args) w) (l:PreOk H al pre)
    (h0:lk H 0=some (keep w0 M0)) (hw:∀b,w0.heap.size<=b->sc b) :
    T P N sc M o env H φ (λg=>(d,val g)::env) (λg=>adds n (z g) H):=λa w hs K Q hK=>by
  have hr:(execOp a.eval o).run P w= .ok (.enter f vs.toArray) w:=by have hm:=s.map hs;simp [execOp,ho,resolve,invoke,Act.eval,Deferred.ofValue,hm,t]
  unfold Oper.wp;rw [hr];refine(hc w (λp hp=>by obtain⟨i,S,_,hi,I,_,_⟩:=l.mem p hp;exact I w (hs.hold i S hi))).mono ?_
  rintro e w' ⟨g,rfl,hg,m,R⟩;show K (a.put o.dst (val g)) w';rw [hd];have a0:Sat N sc env H a w':=hs.chg0 (Chg.of_below m);refine hK g _ _ hg (Sat.put (a0.adds (w1:=w) (z g) n ?_) d _ hN) (Chg.of_below m);intro p hp;obtain⟨h1,h2,h3⟩:=R p hp;refine⟨h1,h2,λb Y=>?_,λj jt V c b Y B=>?_⟩
  . rcases h3 b Y with h|⟨_,q,hq,x⟩
    . exact hw b (aM (hs.hold 0 _ h0).size h)
    . obtain⟨i,S,D,hi,_,u,_⟩:=l.mem q hq;exact hs.scope i S D hi b (u b x)
  . rcases h3 b Y with h|⟨W,q,hq,x⟩
    . have:=jt.lt w b (hs.hold j jt V) B;omega
    . obtain⟨i,S,D,hi,_,u,Z⟩:=l.mem q hq;by_cases F:j=i
      . subst F;rw [hi]at V;cases V;rw [Z W]at c;cases c
      . exact hs.sep j i jt S F V hi c b B (u b x)
def RV(P:Program)(N:Nat)(sc:Nat->Prop)(env:Yd)(H:Hp)(r:ResultVar)(v:Value):Prop:=
  match r with
  | .tmp t=>lk env t=some v
  | .cell c t=>∃b,lk env c=some (.pointer (some b))/\∀a w,Sat N sc env H a w->(loadVar t b).run P w= .ok v w
theorem Zlp {c:Tmp} {t:TypeId} {b:Nat} {vs:List Value} (g:lk env c=some (.pointer (some ⟨b,0,none⟩))) (f:lk H i=some (box b tb vs.toArray)) (l:∀w,(isAgg t).run P w= .ok true w) (h:∀w,(sizeOf t).run P w= .ok k w)
    (j:vs.length=k):RV P N sc env H (.cell c t) (.agg vs.toArray):=⟨_,g,λa w hs=>by
  have e:=run_loadCells_list (P:=P) w ⟨b,0,none⟩ vs (λn u m=>by rw [Xw,hs.boxc f];simpa using m);rw [j]at e;simp [loadVar,l,h,e]⟩
theorem Zia{c:Tmp}{t:TypeId}{b:Nat}(f:lk env c=some (.pointer (some ⟨b,0,none⟩)))(e:lk H i=some (box b tb #[v]))(g:∀w,(isAgg t).run P w= .ok false w) :
    RV P N sc env H (.cell c t) v:=⟨_,f,λa w hs=>by
  have h:=hs.boxc e 0;simp at h;simp [loadVar,g,load,Sem.run,h]⟩
theorem Zct{r1:ResultVar}(hs:Sat N sc env H a w)(e:fn.results=#[r1])(b:RV P N sc env H r1 v1):(results fn a.tmps).run P w= .ok v1 w:=by
  cases r1 with
  | tmp t=>have:=hs.env t v1 b;rw [bA]at this;simp [results,e,this]
  | cell c t=>obtain⟨h,f,g⟩:=b;have:=hs.env c _ f;rw [bA]at this;simp [results,e,this,asAddr,g a w hs]
theorem res2{r1 r2:ResultVar}(hs:Sat N sc env H a w)(j:fn.results=#[r1,r2])(f:RV P N sc env H r1 v1)(b:RV P N sc env H r2 v2) :
    (results fn a.tmps).run P w= .ok (.tuple #[v1,v2]) w:=by
  cases r1 with
  | tmp t=>
    have f:=hs.env t v1 f;rw [bA]at f;cases r2 with
    | tmp h=>have b:=hs.env h v2 b;rw [bA]at b;simp [results,j,f,b]
    | cell l h=>obtain⟨q,e,m⟩:=b;have e:=hs.env l _ e;rw [bA]at e;simp [results,j,f,e,asAddr,m a w hs]
  | cell c t=>
    obtain⟨s,g,n⟩:=f;have g:=hs.env c _ g;rw [bA]at g;cases r2 with
    | tmp h=>have b:=hs.env h v2 b;rw [bA]at b;simp [results,j,g,asAddr,n a w hs,b]
    | cell l h=>obtain⟨q,e,m⟩:=b;have e:=hs.env l _ e;rw [bA]at e;simp [results,j,g,asAddr,n a w hs,e,m a w hs]
def Zlw(tmps:Array Value):ResultVar->Sem Value
  | .tmp t=>pure (tmps.getD t undef)
  | .cell c t=>do loadVar t (<-asAddr (tmps.getD c undef))
theorem Zd8{r:ResultVar}(hs:Sat N sc env H a w)(h:RV P N sc env H r v):(Zlw a.tmps r).run P w= .ok v w:=by
  cases r with
  | tmp t=>have:=hs.env t v h;simp only [Zlw,this];rfl
  | cell c t=>obtain⟨f,b,e⟩:=h;have:=hs.env c _ b;simp only [Zlw,this,asAddr,Sem.run_bind,Sem.run_pure,Result.andThen_ok,e a w hs]
def Zd9(fn:Func)(tmps:Array Value):results fn tmps=(do let vs ←fn.results.mapM (Zlw tmps);pure (if h:vs.size=1 then vs[0]else .tuple vs)):=rfl
theorem res3{r1 r2 r3:ResultVar}{b:Value}(hs:Sat N sc env H a w)(g:fn.results=#[r1,r2,r3])(c:RV P N sc env H r1 v1)(e:RV P N sc env H r2 v2)(f:RV P N sc env H r3 b) :
    (results fn a.tmps).run P w= .ok (.tuple #[v1,v2,b]) w:=by
  rw [Zd9,g];simp [Zd8 hs c,Zd8 hs e,Zd8 hs f]
def Al(P:Program)(fn:Func)(w0:World)(pre:List Pc)(al:Bool){G:Type}(φ:G->Prop)(val:G->Value)(c:G->List Pc):Exit->Act->World->Prop:=
  bodyPost P fn λe f => ∃ g, e = .returned (val g) /\ φ g /\ Below w0.heap.size w0 f /\
        ∀p∈c g,p.holds f/\p.own=false/\∀b,p.fp b->w0.heap.size<=b\/(al=true/\∃q∈pre,q.fp b)
theorem Zhj {f:FuncId}  {c:Code}   {al:Bool} {G:Type} {φ:G->Prop} {val:G->Value} {s:G->List Pc} {N:Nat} {env0:Yd} (l:World->Hp)
    (S:P.funcs[f]? = some fn) (g:fn.body=some c) (I:fn.ntmps=N) (m:∀t v,lk env0 t=some v->args[t]? = some v) (V:args.size<=N)
    (e:∀w,∀i p,lk (l w) i=some p->(i=0/\p=keep w (λ_=>False))\/(i≠0/\p∈pre/\p.own=false))
    (h:∀w0 (sc:Nat->Prop),(∀b,w0.heap.size<=b->sc b)->(∀b,sc b->w0.heap.size<=b\/∃q∈pre,q.fp b)->
      E P N sc c (Al P fn w0 pre al φ val s) env0 (l w0)) :
    Cal P f args pre al φ val s:=λw Y=>by
  refine calls_of_wp S g (h w (λb=>w.heap.size<=b\/∃q∈pre,q.fp b) (λb g=> .inl g) (λb g=>g) _ w ?_);refine⟨by simp [I];omega,rfl,λt v Z=>?_,λi p hi=>?_,λi j p q W hi hj B b g R=>?_,λi p x hi b g=>?_⟩
  . have D:=m t v Z;have z:=(aL.1 D).1;rw [bA,fM z,D];rfl
  . rcases e w i p hi with⟨_,rfl⟩|⟨_,u,_⟩
    . exact Chg.refl _ w
    . exact Y p u
  . rcases e w i p hi with⟨_,rfl⟩|⟨_,u,n⟩
    . cases B
    . rw [n]at B;cases B
  . rcases e w i p hi with⟨F,_⟩|⟨_,u,_⟩
    . exact absurd F x
    . exact .inr ⟨p,u,g⟩
def Gd(h:(keep w0 (λ_=>False)).holds w):Below w0.heap.size w0 w:=
  ⟨h.os,h.tape,h.output,h.size,λk b=>h.block k b (λh=>h)⟩
def Give(H:Hp)(al:Bool):List Pc->Prop
  | []=>True
  | p::r=>(p.own=false/\((∃i c,i≠0/\lk H i=some c/\(∀w,c.holds w->p.holds w)/\(∀b,p.fp b->c.fp b)/\(al=false->c.own=true))\/((∀w,p.holds w)/\∀b,¬p.fp b)))/\Give H al r
theorem Give.mem{al:Bool} : ∀{l:List Pc},Give H al l->∀p∈l,p.own=false/\((∃i c,i≠0/\lk H i=some c/\(∀w,c.holds w->p.holds w)/\(∀b,p.fp b->c.fp b)/\(al=false->c.own=true))\/((∀w,p.holds w)/\∀b,¬p.fp b))
  | p::r,h,q,e=>by
    cases e with
    | head=>exact h.1
    | tail _ e=>exact Give.mem h.2 q e
def Zh{al:Bool} : Give H al []:=aB
theorem Zhd(i:Nat)(hi:lk H i=some p)(b:Nat.beq i 0=false)(c:p.own=false)(h:Give H true r):Give H true (p::r):=
  ⟨⟨c,.inl ⟨i,p,λe=>by subst e;simp at b,hi,λ_ h=>h,λ_ h=>h,λh=>by cases h⟩⟩,h⟩
theorem Zg1{α:Type}(k:Nat)(enc:α->Value)(w:World):(Ou k enc (.slice none 0 0) ([]:List α)).holds w:=⟨⟨none,0,rfl,aH _,O6,.inl rfl⟩,λb c=>by simp [Value.ownBlock]at c⟩
theorem Zhq   {al:Bool} {G:Type} {φ:G->Prop} {val:G->Value} {f:G->List Pc}  {e:Exit} (Y:e= .ret\/e= .normal) (F:∀b,sc b->w0.heap.size<=b\/∃q∈pre,q.fp b)
    (g:G) (v:Value) (s:∀a w,Sat N sc env H a w->(results fn a.tmps).run P w= .ok v w) (hv:val g=v) (Z:φ g) (R:lk H 0=some (keep w0 (λ_=>False))) (c:Give H al (f g)) :
    X N sc e (Al P fn w0 pre al φ val f) env H:=λa w hs=>by
  have t : a.defers = [] /\ ∃ v, (results fn a.tmps).run P w = .ok v w /\ (∃ g, Ending.returned v = .returned (val g) /\ φ g /\ Below w0.heap.size w0 w /\
        ∀p∈f g,p.holds w/\p.own=false/\∀b,p.fp b->w0.heap.size<=b\/(al=true/\∃q∈pre,q.fp b)):=by
    refine⟨hs.defers,v,s a w hs,g,by rw [hv],Z,Gd (hs.hold 0 _ R),λp hp=>?_⟩;obtain⟨S,h|⟨V,W⟩⟩:=c.mem p hp
    case inr=>exact⟨V w,S,λb x=>absurd x (W b)⟩
    obtain⟨i,I,l,hi,m,z,u⟩:=h;refine⟨m w (hs.hold i I hi),S,λb x=>?_⟩;have j:=z b x;cases al with
    | true=>
      rcases F b (hs.scope i I l hi b j)with h|h
      . exact .inl h
      . exact .inr ⟨rfl,h⟩
    | false=>
      have n:=u rfl;have hn:=hs.sep i 0 I _ l hi R n b j;refine .inl ?_;rcases bD b w0.heap.size with D|B
      . exact absurd ⟨D,λh=>h⟩ hn
      . exact B
  rcases Y with rfl|rfl
  . exact t
  . exact t
end Go.Sky

