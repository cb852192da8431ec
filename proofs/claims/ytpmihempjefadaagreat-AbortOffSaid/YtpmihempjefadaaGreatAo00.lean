/- Rules, arithmetic and contracts: part 1. No conditions but those that each theorem names. -/
import Derived.Tactics
import Derived.Tactics2
import Derived.Orders
import Derived.Below
import Derived.Laws.AppendOwn
import Derived.Laws.MakeOwn
import Derived.KernelRfl
set_option linter.all false
def aA:=@trivial
def aB:=@Nat.le_trans
def aC:=@Nat.lt_succ_iff_lt_or_eq
def aD:=@if_neg
def aE:=@List.getD_eq_getElem?_getD
def aF:=@if_pos
def aG:=@List.eq_nil_of_length_eq_zero
def aH:=@List.length_pos_iff
def aI:=@Nat.le_refl
def aJ:=@decide_eq_true
def aK:=@decide_eq_false
def aL:=@congrArg
def aM:=@List.getElem?_eq_getElem
def aN:=@Rat.mul_nonneg
def aO:=@Array.getElem?_eq_some_iff
def aP:=@Nat.mul_le_mul_right
def aQ:=@Bool.and_eq_true
def aR:=@Nat.mul_comm
def aS:=@List.length_take
def aT:=@List.length_replicate
def aU:=@Nat.mod_eq_of_lt
def aV:=@Nat.eq_zero_or_pos
def aW:=@List.length_map
def aX:=@Nat.lt_or_ge
def aY:=@Nat.mul_le_mul
def aZ:=@List.mem_cons
def bA:=@Nat.div_div_eq_div_mul
def bB:=@Rat.mul_pos
def bC:=@Nat.lt_of_le_of_lt
def bD:=@Bool.false_ne_true
def bE:=@List.length_append
def bF:=@List.all_eq_true
def bG:=@Int.mul_ne_zero
def bH:=@Nat.mul_le_mul_left
def bI:=@Nat.zero_le
def bJ:=@Classical.byContradiction
def bK:=@Array.getD_eq_getD_getElem?
def bL:=@Nat.add_mul
def bM:=@List.mem_cons_of_mem
def bN:=@Nat.pow_add
def bO:=@Nat.mod_lt
def bP:=@Int.add_zero
def bQ:=@List.getElem?_eq_none
def bR:=@Nat.zero_add
def bT:=@List.take_length
def bW:=@Nat.pow_pos
def bX:=@List.length_set
def bZ:=@List.mem_singleton
def cC:=@List.take_of_length_le
def cD:=@of_decide_eq_true
def cE:=@List.mem_cons_self
def cF:=@decide_eq_decide
def cH:=@Int.natAbs_mul
def cI:=@List.getElem?_eq_some_iff
def cJ:=@Nat.pow_succ
def cK:=@Nat.not_lt_zero
def cL:=@Nat.div_lt_iff_lt_mul
def cM:=@Decidable.byContradiction
def cN:=@Classical.not_not
def cP:=@Nat.div_add_mod
def cQ:=@List.map_cons
def cS:=@List.getElem?_take
def cT:=@decide_eq_true_eq
def cW:=@List.getElem?_append_left
def cY:=@List.mem_append
def cZ:=@Nat.lt_of_lt_of_le
def dA:=@List.mem_range
def dB:=@Nat.mul_assoc
def dC:=@Int.zero_mul
def dD:=@Int.pow_zero
def dE:=@Int.sub_eq_add_neg
def dG:=@Rat.le_of_lt
def dH:=@Bool.and_false
def dI:=@Nat.div_eq_of_lt
def dJ:=@List.not_mem_nil
def dK:=@Nat.pow_le_pow_right
def dL:=@Nat.eq_of_beq_eq_true
def dM:=@List.length_cons
def dO:=@Rat.mul_le_mul_of_nonneg_right
def dP:=@List.getElem?_append_right
def dS:=@Int.mul_nonneg
def dU:=@List.mem_of_getElem?
def dV:=@Int.mul_comm
def dW:=@List.append_assoc
def dX:=@Rat.pow_succ
def dY:=@Nat.min_eq_left
def dZ:=@Nat.two_pow_pos
def eA:=@Array.length_toList
def eC:=@Int.mul_zero
def eD:=@List.mem_iff_getElem
def eE:=@List.map_append
def eF:=@Int.pow_succ
def eG:=@List.drop_eq_getElem_cons
def eH:=@List.length_drop
def eI:=@Int.natAbs_natCast
def eJ:=@Nat.mul_lt_mul_of_pos_right
def eK:=@Int.le_of_lt
def eN:=@Nat.succ_mul
def eO:=@Rat.pow_zero
def eP:=@Nat.le_mul_of_pos_right
def eQ:=@Array.getElem?_append_left
def eR:=@List.filter_cons_of_pos
def eT:=@List.all_eq_false
def eU:=@Nat.le_of_lt
def eV:=@List.mem_map
def eW:=@decide_eq_true_iff
def eX:=@List.take_zero
def eY:=@List.getElem?_map
def eZ:=@Int.mul_assoc
def fA:=@Int.mul_eq_zero
def fB:=@Rat.mul_eq_zero
def fC:=@Option.getD_some
def fD:=@Int.mul_le_mul_of_nonneg_right
def fE:=@Int.le_refl
def fF:=@List.take_append_of_le_length
def fG:=@Int.one_mul
def fH:=@List.take_append_drop
def fI:=@List.mem_iff_getElem?
def fJ:=@Bool.true_and
def fK:=@Int.mul_ediv_cancel_left
def fL:=@List.mem_filter
def fM:=@Nat.zero_lt_one
def fN:=@Nat.add_sub_cancel
def fO:=@List.filter_append
def fP:=@List.mem_of_mem_take
def fQ:=@Int.dvd_trans
def fR:=@Nat.add_zero
def fS:=@Int.sign_eq_neg_one_of_neg
def fT:=@Decidable.not_not
def fU:=@Int.natCast_mul
def fV:=@Nat.div_le_self
def fW:=@Int.natAbs_dvd_natAbs
def fX:=@List.getElem_mem
def fY:=@Nat.add_assoc
def fZ:=@Nat.mul_pos
def gC:=@List.drop_append_of_le_length
def gD:=@Rat.inv_pos
def gE:=@Int.gcd_dvd_right
def gF:=@List.filter_cons_of_neg
def gG:=@or_false
def gI:=@Nat.pow_le_pow_left
def gJ:=@Int.sign_eq_one_of_pos
def gK:=@Nat.mul_add
def gL:=@Int.mul_pos
def gM:=@List.ext_getElem
def gN:=@List.map_toArray
def gO:=@List.getElem?_drop
def gP:=@Int.mul_nonpos_of_nonneg_of_nonpos
def gQ:=@Int.mul_nonpos_of_nonpos_of_nonneg
def gR:=@List.length_filter_le
def gT:=@Int.sign_eq_zero_iff_zero
def gU:=@Int.eq_of_mul_eq_mul_left
def gV:=@List.foldl_cons
def gW:=@Nat.mul_add_div
def gX:=@Nat.pow_zero
def gY:=@Bool.not_eq_true'
def iA:=@List.flatMap_cons
def iB:=@Nat.add_comm
def iC:=@List.map_map
def iD:=@Int.mul_one
def iE:=@Int.ediv_mul_cancel
def iF:=@List.cons_append
def iG:=@List.getElem?_replicate
def iH:=@Int.natAbs_neg
def iI:=@decide_eq_false_iff_not
def iJ:=@Int.gcd_dvd_left
def iK:=@Int.mul_le_mul_of_nonneg_left
def iL:=@Rat.le_refl
def iM:=@Nat.sub_zero
def iN:=@Nat.add_right_comm
def iO:=@Nat.zero_mul
def iP:=@List.drop_of_length_le
def iQ:=@List.map_nil
def iR:=@Nat.mul_right_comm
def iS:=@List.nil_append
def iT:=@List.append_nil
def iU:=@Nat.mul_add_mod
def iV:=@Nat.le_of_ble_eq_true
def iW:=@List.ext_getElem?
def iX:=@not_true_eq_false
def iY:=@List.size_toArray
def iZ:=@Int.dvd_mul_right
def jA:=@List.take_add_one
def jB:=@List.getElem?_set_ne
def jC:=@Nat.div_lt_of_lt_mul
def jD:=@Nat.mul_lt_mul_of_lt_of_le
def jE:=@Nat.mul_lt_mul_of_pos_left
def jF:=@Rat.div_def
def jG:=@Ne.symm
def jH:=@List.mem_flatMap
def jI:=@List.any_eq_true
def jJ:=@Int.dvd_zero
def jK:=@Int.sub_zero
def jL:=@Int.lt_or_le
def jM:=@Nat.lt_trans
def jN:=@Nat.add_mul_mod_self_left
def jO:=@List.replicate_succ
def jP:=@Nat.le_antisymm
def jQ:=@BitVec.toNat_ofNat
def jR:=@Nat.mul_div_cancel
def jS:=@Nat.pow_mul
def jT:=@Int.pow_pos
def jU:=@Nat.mul_one
def jV:=@List.set_eq_take_append_cons_drop
def jW:=@List.take_succ_eq_append_getElem
def jX:=@Option.some.injEq
def jY:=@if_true
def jZ:=@Nat.or_lt_two_pow
def kA:=@List.take_take
def kB:=@Int.lt_trichotomy
def kC:=@List.foldl_append
def kD:=@List.drop_eq_nil_of_le
def kE:=@Rat.mul_comm
def kF:=@Bool.false_and
def kG:=@Nat.le_div_iff_mul_le
def kH:=@Bool.and_eq_false_iff
def kI:=@Nat.and_two_pow_sub_one_eq_mod
def kJ:=@Rat.mul_assoc
def kK:=@List.mem_of_mem_drop
def kL:=@Int.mul_neg
def kM:=@Int.mul_add
def kN:=@Int.mul_ediv_cancel'
def kP:=@Int.natAbs_of_nonneg
def kQ:=@Nat.div_lt_self
def kR:=@Int.ediv_nonneg
def kS:=@List.nodup_cons
def kU:=@Array.getElem?_setIfInBounds
def kV:=@List.getElem_of_mem
def kW:=@List.take_succ_cons
def kX:=@List.map_congr_left
def kY:=@List.take_length_add_append
def kZ:=@Nat.two_pow_add_eq_or_of_lt
def lA:=@Nat.sub_self
def lB:=@Int.zero_add
def lC:=@Int.ofNat_le
def lD:=@beq_iff_eq
def lE:=@Int.tdiv_eq_ediv_of_nonneg
def lF:=@Int.tmod_eq_emod_of_nonneg
def lG:=@Int.mul_le_mul
def lH:=@Nat.eq_of_mul_eq_mul_right
def lI:=@Int.eq_of_mul_eq_mul_right
def lJ:=@Rat.mul_inv_cancel
def lK:=@Int.natAbs_pow
def lL:=@List.drop_zero
def lM:=@Int.natCast_nonneg
def lN:=@Int.mul_right_comm
def lO:=@Array.getElem?_eq_getElem
def lP:=@Int.natAbs_ediv_le_natAbs
def lQ:=@Int.le_of_mul_le_mul_left
def lS:=@Int.natAbs_add_le
def lT:=@Int.add_mul
def lW:=@Int.self_le_toNat
def lX:=@Int.mul_left_comm
def lY:=@Nat.le_of_dvd
def lZ:=@List.getElem?_take_of_lt
def mA:=@Int.ediv_le_self
def mB:=@Nat.gcd_dvd_left
def mC:=@Int.dvd_of_emod_eq_zero
def mD:=@Int.add_comm
def mE:=@Array.getElem?_eq_none
def mF:=@Nat.le_mul_of_pos_left
def mG:=@Nat.succ_pos
def mH:=@Int.natAbs_ediv_of_dvd
def mI:=@Int.dvd_refl
def mJ:=@Int.le_trans
def mK:=@Int.emod_nonneg
def mL:=@Int.natCast_add
def mM:=@Bool.or_eq_true
def mN:=@List.length_nil
def mO:=@List.eq_nil_or_concat
def mP:=@Nat.mul_div_mul_right
def mQ:=@Nat.mul_mod_mul_right
def mR:=@Nat.add_mul_div_right
def mS:=@Nat.ble_eq_true_of_le
def mT:=@Nat.add_mul_div_left
def mU:=@Nat.mod_one
def mV:=@Nat.mod_mul
def mW:=@Nat.mul_lt_mul_right
def mX:=@if_false
def mY:=@List.take_left
def mZ:=@Nat.one_mul
def nA:=@List.map_id
def nB:=@Int.dvd_neg
def nC:=@List.drop_replicate
def nD:=@Int.mul_ediv_cancel
def nE:=@List.drop_succ_cons
def nF:=@List.length_zipWith
def nG:=@List.take_replicate
def nH:=@Nat.pow_succ'
def nI:=@Int.le_of_dvd
def nJ:=@List.map_take
def nK:=@List.all_cons
def nL:=@List.set_cons_zero
def nM:=@Int.lt_or_gt_of_ne
def nN:=@Nat.div_mul_cancel
def nO:=@Nat.pos_of_ne_zero
def nP:=@Nat.lt_or_eq_of_le
def nQ:=@Nat.sub_add_cancel
def nR:=@Rat.div_mul_cancel
def nS:=@List.find?_eq_none
def nT:=@Option.toList_some
def nU:=@Nat.add_mod_right
def nV:=@Nat.mul_left_comm
def nW:=@Nat.mul_zero
def nX:=@Nat.le_of_lt_succ
def nY:=@Int.ediv_one
def nZ:=@Nat.gcd_dvd_right
def oA:=@List.getElem?_set
def oB:=@Rat.le_trans
def oC:=@Nat.le_of_eq
def oD:=@Int.le_of_eq
def oE:=@Int.gcd_mul_right
def oF:=@Nat.lt_trichotomy
def oG:=@Bool.or_true
def oH:=@List.any_eq_false
def oI:=@bne_self_eq_false
def oJ:=@Int.mul_sub
def oK:=@Int.neg_mul
def oL:=@Rat.le_ceil
def oM:=@Rat.one_mul
def oN:=@Int.one_pow
def oO:=@funext
def oP:=@Iff.rfl
namespace Go.Sky
variable{p q:List Int}{f:Nat->Int}{m i k b:Nat}{x:Int}{xs o:List Nat}
theorem O {p:Prop}(h:p:=by omega):p:=h
theorem O1 {p:Prop}(h:p:=by first|omega|(dsimp only<;>omega)):p:=h
theorem O2 {p:Prop}(h:p:=by first|omega|(simp only [bX];omega)):p:=h
theorem O3 {p:Prop}(h:p:=by decide):p:=h
theorem O4 {p:Prop}(h:p:=by grind):p:=h
theorem O5 {p:Prop}(h:p:=by first|assumption|omega):p:=h
theorem O6 {p:Prop}(h:p:=by kernel_rfl):p:=h
theorem O7 {p:Prop}(h:p:=by decide +kernel):p:=h
theorem O8 {p:Prop}(h:p:=by simp):p:=h
theorem O9 {p:Prop}(h:p:=by simp;omega):p:=h
theorem O10 {p:Prop}(h:p:=by simp [Value.oneCell']):p:=h
theorem O11 {p:Prop}(h:p:=by simp [Iv,Yb,Py]):p:=h
def Yb(f:Nat->Int):Nat->Int
 | 0=>0
 | n+1=>Yb f n+f n
def Hl(f:Nat->Int):Yb f 0=0:=rfl
def Yl(f:Nat->Int)(n:Nat):Yb f (n+1)=Yb f n+f n:=rfl
theorem Yz{f g:Nat->Int} : ∀{n:Nat},(∀i,i<n->f i=g i)->Yb f n=Yb g n
 | 0,_=>rfl
 | n+1,h=>by rw [Yl,Yl,Yz (λi hi=>h i O),h n O]
theorem De(f g:Nat->Int):∀n,Yb (λi=>f i+g i) n=Yb f n+Yb g n
 | 0=>rfl
 | n+1=>by simp only [Yl,De f g n];omega
theorem Mh(c:Int)(f:Nat->Int):∀n,Yb (λi=>c*f i) n=c*Yb f n
 | 0=>by simp [Yb]
 | n+1=>by simp only [Yl,Mh c f n];grind
theorem Zjr(c:Int)(f:Nat->Int)(n:Nat):Yb (λi=>f i*c) n=Yb f n*c:=by rw [dV,<-Mh];exact Yz λi _=>dV _ _
theorem Ft{f:Nat->Int} : ∀{n:Nat},(∀i,i<n->f i=0)->Yb f n=0
 | 0,_=>rfl
 | n+1,h=>by rw [Yl,Ft (λi hi=>h i O),h n O];rfl
theorem Mz(f:Nat->Int):∀n,Yb f (n+1)=f 0+Yb (λi=>f (i+1)) n
 | 0=>by simp [Yb]
 | n+1=>by rw [Yl,Mz f n,Yl];omega
theorem Zmr(f:Nat->Int):∀n,Yb f n=Yb (λi=>f (n-1-i)) n
 | 0=>rfl
 | n+1=>by
  rw [Yl,Mz (λi=>f (n+1-1-i)),Zmr f n];have:Yb (λi=>f (n-1-i)) n=Yb (λi=>f (n+1-1-(i+1))) n:=Yz λi hi=>by congr 1;omega
  rw [this];simp only [fN,iM];omega
theorem Zgz{n:Nat}(a:m<=n)(h:∀i,m<=i->i<n->f i=0):Yb f n=Yb f m:=by
 induction n with
 | zero=>simp at a;subst a;rfl
 | succ n e=>
  by_cases d:m=n+1
  .subst d;rfl
  .rw [Yl,e O (λi c g=>h i c O),h n O O];omega
theorem Zmp(f:Nat->Nat->Int):∀n,Yb (λi=>Yb (λk=>f k (i-k)) (i+1)) n=Yb (λk=>Yb (λj=>f k j) (n-k)) n
 | 0=>rfl
 | n+1=>by
  rw [Yl,Zmp f n,Yl (λk=>Yb (λj=>f k j) (n+1-k))];have a:Yb (λk=>Yb (λj=>f k j) (n+1-k)) n=Yb (λk=>Yb (λj=>f k j) (n-k)+f k (n-k)) n:=
   Yz λk c=>by rw [show n+1-k=n-k+1 by omega,Yl]
  rw [a,De,Yl (λk=>f k (n-k)) n];rw [show n+1-n=0+1 by omega,Yl,Hl,show n-n=0 by omega];omega
structure PS where
 c:Nat->Int
theorem PS.ext'{f g:PS}(h:∀i,f.c i=g.c i):f=g:=by cases f;cases g;congr;exact oO h
namespace PS
def conv(f g:PS):PS:=⟨λi=>Yb (λk=>f.c k*g.c (i-k)) (i+1)⟩
def C(n:Int):PS:=⟨λi=>if i=0 then n else 0⟩
def xp(k:Nat):PS:=⟨λi=>if i=k then 1 else 0⟩
instance:Zero PS:=⟨⟨λ_=>0⟩⟩
instance:One PS:=⟨C 1⟩
instance:Add PS:=⟨λf g=>⟨λi=>f.c i+g.c i⟩⟩
instance:Neg PS:=⟨λf=>⟨λi=>- f.c i⟩⟩
instance:Sub PS:=⟨λf g=>⟨λi=>f.c i-g.c i⟩⟩
instance:Mul PS:=⟨conv⟩
instance:NatCast PS:=⟨λn=>C n⟩
instance (n:Nat):OfNat PS n:=⟨C n⟩
instance:IntCast PS:=⟨C⟩
instance:SMul Nat PS:=⟨λn f=>⟨λi=>(n:Int)*f.c i⟩⟩
instance:SMul Int PS:=⟨λn f=>⟨λi=>n*f.c i⟩⟩
def npow(f:PS):Nat->PS
 | 0=>1
 | n+1=>npow f n*f
instance:HPow PS Nat PS:=⟨npow⟩
def Yi6(f g:PS)(i:Nat):(f+g).c i=f.c i+g.c i:=rfl
def mul_c(f g:PS)(i:Nat):(f*g).c i=Yb (λk=>f.c k*g.c (i-k)) (i+1):=rfl
def mul_comm'(f g:PS):f*g=g*f:=ext' λi=>by
 rw [mul_c,mul_c,Zmr];exact Yz λk a=>by simp only [fN];rw [show i-(i-k)=k by omega,dV]
def mul_assoc'(f g h:PS):f*g*h=f*(g*h):=ext' λi=>by
 rw [mul_c,mul_c];have a:Yb (λk=>(f*g).c k*h.c (i-k)) (i+1)=Yb (λk=>Yb (λj=>f.c j*g.c (k-j)*h.c (i-(j+(k-j)))) (k+1)) (i+1):=
  Yz λk c=>by rw [mul_c,<-Zjr];exact Yz λj b=>by rw [show j+(k-j)=k by omega]
 rw [a,Zmp (λj m=>f.c j*g.c m*h.c (i-(j+m)))];refine Yz λj b=>?_;rw [mul_c,<-Mh,show i+1-j=i-j+1 by omega];exact Yz λm d=>by rw [eZ,show i-(j+m)=i-j-m by omega]
def Ych(f g:PS):f+g=g+f:=ext' λi=>by rw [Yi6,Yi6,mD]
def Zw3(f g h:PS):f+g+h=f+(g+h):=ext' λi=>by simp only [Yi6];omega
instance:Std.Commutative (α:=PS) (· + ·):=⟨Ych⟩
instance:Std.Associative (α:=PS) (· + ·):=⟨Zw3⟩
instance:Std.Commutative (α:=PS) (· * ·):=⟨mul_comm'⟩
instance:Std.Associative (α:=PS) (· * ·):=⟨mul_assoc'⟩
end PS
def tzl(xs:List Int):List Int:=(xs.reverse.dropWhile (· == 0)).reverse
def cf(p:List Int)(i:Nat):Int:=p.getD i 0
def mk(n:Nat)(f:Nat->Int):List Int:=(List.range n).map f
def ps(p:List Int):PS:=⟨cf p⟩
def Tr(p:List Int):Prop:=p=[]\/cf p (p.length-1)≠0
def Nl(p:List Int)(i:Nat):(ps p).c i=cf p i:=rfl
def Yo(h:p.length<=i):cf p i=0:=by simp [cf,List.getD,bQ h]
def Zc7(h:i<p.length):cf p i=p[i]:=by simp [cf,List.getD,h]
def Yu(n:Nat)(f:Nat->Int):(mk n f).length=n:=by simp [mk]
def Ly(n:Nat)(f:Nat->Int)(i:Nat):cf (mk n f) i=if i<n then f i else 0:=by
 by_cases h:i<n
 .rw [aF h,Zc7 (by rw [Yu];exact h)];simp [mk]
 .rw [aD h,Yo (by rw [Yu];omega)]
def Ku(c:p.length=q.length)(h:∀i,i<p.length->cf p i=cf q i):p=q:=by apply gM c;intro i a b;have:=h i a;rwa [Zc7 a,Zc7 b]at this
def Zix(p:List Int):mk p.length (cf p)=p:=Ku (Yu _ _) λi h=>by rw [Ly,Yu]at *;rw [aF h]
def Gq{n:Nat}{g:Nat->Int}(h:∀i,i<n->f i=g i):mk n f=mk n g:=Ku (by rw [Yu,Yu]) λi hi=>by rw [Yu]at hi;rw [Ly,Ly,aF hi,aF hi,h i hi]
def Zdz(p q:List Int)(i:Nat):cf (p ++ q) i=if i<p.length then cf p i else cf q (i-p.length):=by
 by_cases h:i<p.length
 .rw [aF h];simp [cf,List.getD,cW h]
 .rw [aD h];simp only [cf,List.getD];rw [dP O]
def Yls(n:Nat)(f:Nat->Int):mk (n+1) f=mk n f ++ [f n]:=by simp [mk,List.range_succ]
def Zlw(h:k<p.length):cf (p.set k x) i=if i=k then x else cf p i:=by
 by_cases hi:i=k
 .subst hi;rw [aF rfl];simp [cf,List.getD,h]
 .rw [aD hi];simp only [cf,List.getD];rw [jB (jG hi)]
def El(p:List Int)(k i:Nat):cf (p.take k) i=if i<k then cf p i else 0:=by
 by_cases hi:i<k
 .rw [aF hi];simp [cf,List.getD,cS,hi]
 .rw [aD hi,Yo];rw [aS];omega
def Zc6{f:Int->Int}(a:f 0=0)(i:Nat):cf (p.map f) i=f (cf p i):=by
 by_cases hi:i<p.length
 .rw [Zc7 (by simpa using hi),Zc7 hi];simp
 .rw [Yo (by simpa using hi),Yo O,a]
def Zaj(xs:List Int):tzl (xs ++ [0])=tzl xs:=by simp [tzl]
def Cp{xs:List Int}(h:x≠0):tzl (xs ++ [x])=xs ++ [x]:=by simp [tzl,h]
def Zio{α:Type}(xs:List α):xs=[]\/∃ys y,xs=ys ++ [y]:=by
 rcases mO xs with h|⟨ys,y,h⟩
 .exact .inl h
 .exact .inr ⟨ys,y,by simpa using h⟩
def Zn4 (C:List Int->Prop)(c:C [])(e:∀xs,C xs->C (xs ++ [0]))(f:∀xs x,x≠0->C (xs ++ [x]))(p:List Int):C p:=by
 have b:∀n (p:List Int),p.length=n->C p:=by
  intro n
  induction n with
  | zero=>intro p a;rw [aG a];exact c
  | succ n g=>
   intro p a;rcases Zio p with rfl|⟨h,y,rfl⟩
   .exact c
   .by_cases d:y=0
    .subst d;exact e _ (g h (by simpa using a))
    .exact f _ _ d
 exact b _ p rfl
def Hj(p:List Int):(tzl p).length<=p.length:=by
 refine Zn4 (λp=>(tzl p).length<=p.length) (aI _) (λb h=>?_) (λb x a=>?_) p
 .rw [Zaj];simp;omega
 .rw [Cp a];exact aI _
def Ik(p:List Int)(i:Nat):cf (tzl p) i=cf p i:=by
 refine Zn4 (λp=>cf (tzl p) i=cf p i) rfl (λa h=>?_) (λa x c=>?_) p
 .rw [Zaj,h,Zdz];split
  .rfl
  .rw [Yo O];by_cases b:i-a.length=0
   .rw [b];rfl
   .rw [Yo O9]
 .rw [Cp c]
def Tr.nil:Tr []:= .inl rfl
def Qq(p:List Int):Tr (tzl p):=by
 refine Zn4 (λp=>Tr (tzl p)) Tr.nil (λb h=>?_) (λb x a=>?_) p
 .rw [Zaj];exact h
 .rw [Cp a];refine .inr ?_;rw [Zdz];simp [cf];exact a
def Zai(h:Tr p):tzl p=p:=by
 rcases Zio p with rfl|⟨b,y,rfl⟩
 .rfl
 .rcases h with h|h
  .simp at h
  .refine Cp λa=>h ?_;subst a;rw [Zdz];simp [cf]
def Tr.ext{p q:List Int}(a:Tr p)(d:Tr q)(h:∀i,cf p i=cf q i):p=q:=by
 have b:∀{p q:List Int},Tr p->(∀i,cf p i=cf q i)->p.length<=q.length:=λ{p q} a h=>by
  rcases a with rfl|a
  .exact bI _
  .rw [h]at a;rcases aX (p.length-1) q.length with c|c
   .omega
   .exact absurd (Yo c) a
 exact Ku (jP (b a h) (b d λi=>(h i).symm)) λi _=>h i
def Yj4(h:∀i,cf p i=cf q i):tzl p=tzl q:=(Qq p).ext (Qq q) λi=>by rw [Ik,Ik,h]
def Zbh{n:Nat}(h:∀i,n<=i->cf p i=0):(tzl p).length<=n:=by
 rcases Qq p with a|a
 .rw [a];exact bI _
 .rw [Ik]at a;rcases aX ((tzl p).length-1) n with b|b
  .omega
  .exact absurd (h _ b) a
def Lt(p:List Int):tzl p=[]↔∀i,cf p i=0:=
 ⟨λh i=>by rw [<-Ik,h];rfl,λh=>aG (Nat.le_zero.1 (Zbh λi _=>h i))⟩
def Tr.mem(h:Tr p)(a:p≠[]):cf p (p.length-1)≠0:=by
 rcases h with h|h
 .exact absurd h a
 .exact h
def Yc2{xs:List Int}(c:k<=xs.length)(b:0<k)(h:cf xs (k-1)=0):tzl (xs.take k)=tzl (xs.take (k-1)):=Yj4 λi=>by
 rw [El,El];by_cases hi:i=k-1
 .subst hi;rw [aF O,aD O,h]
 .by_cases a:i<k
  .rw [aF a,aF O]
  .rw [aD a,aD O]
def Zq6{xs:List Int}(a:k<=xs.length)(h:k=0\/cf xs (k-1)≠0):tzl (xs.take k)=xs.take k:=by
 refine Zai ?_;rcases h with rfl|h
 .simp [Tr]
 .rcases aV k with rfl|b
  .simp [Tr]
  .refine .inr ?_;rw [aS,dY a,El,aF O];exact h
def Zcl(p q:List Int):List Int:=tzl (mk (max p.length q.length) λi=>cf p i+cf q i)
def Zbo(p q:List Int):List Int:=tzl (mk (max p.length q.length) λi=>cf p i-cf q i)
def Yk(p:List Int)(c:Int):List Int:=tzl (p.map (· * c))
def Qr(p q:List Int):List Int:=tzl (mk (p.length+q.length-1) λi=>(ps p*ps q).c i)
def Xb(p:List Int):List Int:=mk (p.length-1) λi=>cf p (i+1)*((i:Int)+1)
def pev(p:List Int)(n d:Int):Int:=Yb (λi=>cf p i*(n^i*d^(p.length-1-i))) p.length
def Xl(p:List Int):Int:=p.foldl (λg c=>(Int.gcd g c:Int)) 0
def Yi(p:List Int):List Int:=p.map (· / Xl p)
def Zz6(p q:List Int)(i:Nat):cf (Zcl p q) i=cf p i+cf q i:=by
 unfold Zcl;rw [Ik,Ly];split
 .rfl
 .rw [Yo,Yo]<;>omega
def Zby(p q:List Int)(i:Nat):cf (Zbo p q) i=cf p i-cf q i:=by
 unfold Zbo;rw [Ik,Ly];split
 .rfl
 .rw [Yo,Yo]<;>omega
def Qo(p:List Int)(c:Int)(i:Nat):cf (Yk p c) i=cf p i*c:=by unfold Yk;rw [Ik,Zc6 O8]
def He(p q:List Int)(i:Nat):cf (Qr p q) i=(ps p*ps q).c i:=by
 unfold Qr;rw [Ik,Ly];split
 .rfl
 .rw [PS.mul_c,Ft];intro k a;rcases aX k p.length with h|h
  .rw [Nl,Nl,Yo (p:=q) O,eC]
  .rw [Nl,Yo h,dC]
def Zxc:Tr (Zbo p q):=Qq _
def Nq{c:Int}:Tr (Yk p c):=Qq _
def Qp:Tr (Qr p q):=Qq _
def Zaz(p q:List Int):Qr p q=Qr q p:=(Qp (p:=p) (q:=q)).ext (Qp (p:=q) (q:=p)) λi=>by rw [He,He,PS.mul_comm']
def Yk7(p q:List Int):ps (Qr p q)=ps p*ps q:=PS.ext' λi=>He p q i
def tz(xs:List Nat):List Nat:=(xs.reverse.dropWhile (· == 0)).reverse
def Lu(xs:List Nat):tz (xs ++ [0])=tz xs:=by simp [tz]
def Hk{x:Nat}(h:x≠0):tz (xs ++ [x])=xs ++ [x]:=by simp [tz,h]
def Ps{α:Type}(d:α)(xs:List α)(k:Nat)(h:k<xs.length):xs.take (k+1)=xs.take k ++ [xs.getD k d]:=by rw [jW h];simp [List.getD,h]
def Zdv{α:Type}(xs:List α)(k i:Nat)(d:α)(h:i<k):(xs.take k).getD i d=xs.getD i d:=by simp [List.getD,h]
def Yj5(b:k<=xs.length)(a:0<k)(h:(xs.take k).getD (k-1) 0=0):tz (xs.take k)=tz (xs.take (k-1)):=by rw [Zdv xs k (k-1) 0 O]at h;have:=Ps 0 xs (k-1) O;rw [show k-1+1=k by omega]at this;rw [this,h,Lu]
def Zn5(b:k<=xs.length)(h:k=0\/(xs.take k).getD (k-1) 0≠0):tz (xs.take k)=xs.take k:=by
 rcases aV k with rfl|a
 .rfl
 .have h:=h.resolve_left O;rw [Zdv xs k (k-1) 0 O]at h;have:=Ps 0 xs (k-1) O;rw [show k-1+1=k by omega]at this;rw [this,Hk h]
def tz_eq(h:xs=[]\/xs.getD (xs.length-1) 0≠0):tz xs=xs:=by
 have:=Zn5 (xs:=xs) (k:=xs.length) (aI _) (by
  rcases h with rfl|h
  .exact .inl rfl
  .right;rwa [bT])
 rwa [bT]at this
def val(b:Nat):List Nat->Nat
 | []=>0
 | d::r=>d+b*val b r
def dgf(b:Nat):Nat->Nat->List Nat
 | 0,_=>[]
 | f+1,n=>if n=0 then []else n%b::dgf b f (n/b)
def dg(b n:Nat):List Nat:=dgf b n n
def Ztk{b:Nat}(d:2<=b):∀(f a n:Nat),n<=f->n<=a->dgf b f n=dgf b a n
 | 0,0,_,_,_=>rfl
 | 0,a+1,n,h,_=>by have:n=0:=O;subst this;simp [dgf]
 | f+1,0,n,_,h=>by have:n=0:=O;subst this;simp [dgf]
 | f+1,a+1,n,h,e=>by
  unfold dgf;by_cases c:n=0
  .simp [c]
  .have:n/b<n:=kQ O O;rw [aD c,aD c,Ztk d f a (n/b) O O]
def Ej(b:Nat):dg b 0=[]:=rfl
def Zc0{n:Nat}(a:2<=b)(c:0<n):dg b n=n%b::dg b (n/b):=by
 unfold dg;obtain⟨m,rfl⟩:∃m,n=m+1:=⟨n-1,O⟩
 conv=>lhs;unfold dgf
 rw [aD O];have:(m+1)/b<m+1:=kQ O O;rw [Ztk a m ((m+1)/b) ((m+1)/b) O (aI _)]
def Hi(a:2<=b)(n:Nat):val b (dg b n)=n:=by
 induction n using Nat.strongRecOn with
 | _ n c=>
  rcases aV n with rfl|h
  .rfl
  .rw [Zc0 a h,val,c _ (kQ h O)];have:=Nat.mod_add_div n b;omega
def Gs(c:2<=b)(n:Nat):∀d∈dg b n,d<b:=by
 induction n using Nat.strongRecOn with
 | _ n e=>
  rcases aV n with rfl|h
  .intro d a;cases a
  .rw [Zc0 c h];intro d a;rcases aZ.1 a with rfl|a
   .exact bO _ O
   .exact e _ (kQ h O) d a
def Ka(b:Nat)(xs ys:List Nat):val b (xs ++ ys)=val b xs+b^xs.length*val b ys:=by
 induction xs with
 | nil=>simp [val]
 | cons x r a=>simp only [iF,val,a,dM,cJ,gK];rw [aR (b^r.length) b,dB];omega
def Zjk{b:Nat}(e:0<b):∀(xs:List Nat),(∀d∈xs,d<b)->val b xs<b^xs.length
 | [],_=>by simp [val]
 | x::r,h=>by have a:=Zjk e r (λd f=>h d (bM _ f));have g:=h x (cE ..);simp only [val,dM,cJ];have c:b*(val b r+1)<=b*b^r.length:=bH b a;rw [aR (b^r.length) b];rw [gK]at c;omega
def Dr(b n:Nat):val b (List.replicate n 0)=0:=by
 induction n with
 | zero=>rfl
 | succ n a=>simp [jO,val,a]
def Od(b:Nat)(xs:List Nat)(k:Nat):val b (xs.take (k+1))=val b (xs.take k)+xs.getD k 0*b^k:=by
 by_cases h:k<xs.length
 .rw [Ps 0 xs k h,Ka,val,val,aS,dY O,aR (b^k)];simp
 .rw [cC O,cC O];have:xs.getD k 0=0:=by simp [List.getD,bQ (by omega:xs.length<=k)]
  rw [this];omega
def Ie(b:Nat)(xs:List Nat)(h:xs.length<=k):val b (xs.take k)=val b xs:=by rw [cC h]
def Pn(c:0<b)(h:∀d∈xs,d<b)(k:Nat):xs.getD k 0<b:=by
 by_cases a:k<xs.length
 .have:xs.getD k 0=xs[k]:=by simp [List.getD,a]
  rw [this];exact h _ (fX a)
 .have:xs.getD k 0=0:=by simp [List.getD,bQ (by omega:xs.length<=k)]
  omega
def Zl4{α:Type}(o:List α)(k:Nat)(d:α)(h:k<o.length):(o.set k d).take (k+1)=o.take k ++ [d]:=by
 have a:k<(o.set k d).length:=by simpa using h
 rw [Ps d _ _ a];congr 1
 .apply iW;intro i;rw [cS,cS];split
  .rw [jB O]
  .rfl
 .simp [List.getD,h]
def Zl5{α:Type}(o:List α)(k:Nat)(d:α):(o.set k d).take k=o.take k:=by
 apply iW;intro i;rw [cS,cS];split
 .rw [jB O]
 .rfl
def Co(b:Nat)(o:List Nat)(d:Nat)(h:k<o.length):val b ((o.set k d).take (k+1))=val b (o.take k)+d*b^k:=by rw [Zl4 o k d h,Ka,val,val,aS,dY O,aR (b^k)];simp
def Il{p:Nat->Prop}(h:∀d∈o,p d)(k d:Nat)(b:p d):∀x∈o.set k d,p x:=by
 intro x c;rcases List.mem_or_eq_of_mem_set c with a|a
 .exact h x a
 .rw [a];exact b
def Ld{p:Nat->Prop}{n:Nat}(h:p 0):∀d∈List.replicate n 0,p d:=by intro d a;rw [(List.mem_replicate.1 a).2];exact h
def Zbi{α:Type}(xs:List α):xs=[]\/∃ys y,xs=ys ++ [y]:=by
 rcases mO xs with h|⟨ys,y,h⟩
 .exact .inl h
 .exact .inr ⟨ys,y,by simpa using h⟩
def Cm{b:Nat}(u:2<=b):∀(xs:List Nat),(∀d∈xs,d<b)->dg b (val b xs)=tz xs
 | [],_=>rfl
 | x::r,h=>by
  have g:=Cm u r (λd w=>h d (bM _ w));have v:=h x (cE ..);have k:(x+b*val b r)%b=x:=by rw [jN,aU v]
  have j:(x+b*val b r)/b=val b r:=by rw [mT _ _ O,dI v];omega
  rcases aV (x+b*val b r)with e|e
  .have p:x=0:=O;have o:val b r=0:=by
    rcases aV (val b r)with m|m
    .exact m
    .have:=fZ (by omega:0<b) m;omega
   rw [o,Ej]at g;simp only [val,e,Ej];subst p;rcases Zbi r with rfl|⟨a,y,rfl⟩
   .rfl
   .by_cases f:y=0
    .subst f;rw [Lu]at g;rw [show(0::(a ++ [0]))=(0::a) ++ [0]from rfl,Lu];have l:(a.reverse.dropWhile (· == 0))=[]:=by have:=aL List.reverse g.symm;simpa [tz]using this
     unfold tz;rw [List.reverse_cons,List.dropWhile_append,l];simp
    .rw [Hk f]at g;simp at g
  .have:=Zc0 u e;simp only [val];rw [this,k,j,g];rcases Zbi r with rfl|⟨a,y,rfl⟩
   .have:x≠0:=by simp [val]at e;omega
    simp [tz,this]
   .by_cases f:y=0
    .subst f;rw [Lu,show(x::(a ++ [0]))=(x::a) ++ [0]from rfl,Lu];have t:∀a:List Nat,0<x+b*val b a->x::tz a=tz (x::a):=by
      intro a
      induction hn:a.length using Nat.strongRecOn generalizing a with
      | _ n s=>
       intro c;rcases Zbi a with rfl|⟨i,z,rfl⟩
       .have:x≠0:=by simp [val]at c;omega
        simp [tz,this]
       .by_cases q:z=0
        .subst q;rw [Lu,show(x::(i ++ [0]))=(x::i) ++ [0]from rfl,Lu];refine s i.length (by simp at hn;omega) i rfl ?_;rw [Ka]at c;simpa [val]using c
        .rw [Hk q,show(x::(i ++ [z]))=(x::i) ++ [z]from rfl,Hk q]
     refine t a ?_;rw [Ka]at e;simpa [val]using e
    .rw [Hk f,show(x::(a ++ [y]))=(x::a) ++ [y]from rfl,Hk f]
def Zni(a:2<=b){n:Nat} : dg b m=dg b n↔m=n:=⟨λh=>by rw [<-Hi a m,h,Hi a],λh=>by rw [h]⟩
def Fb{b:Nat}(a:2<=b):∀(i n:Nat),(dg b n).getD i 0=n/b^i%b
 | 0,n=>by
  rcases aV n with rfl|h
  .simp [Ej]
  .rw [Zc0 a h];simp
 | i+1,n=>by
  rcases aV n with rfl|h
  .simp [Ej]
  .rw [Zc0 a h];have c:=Fb a i (n/b);simp only [List.getD_cons_succ];rw [c,bA,cJ,aR b]
def Xy{b:Nat}(a:2<=b):∀(k n:Nat),(dg b n).length<=k↔n<b^k
 | 0,n=>by
  rcases aV n with rfl|h
  .simp [Ej]
  .rw [Zc0 a h];simp;omega
 | k+1,n=>by
  rcases aV n with rfl|h
  .simp [Ej,bW (by omega:0<b)]
  .rw [Zc0 a h];simp only [dM,Nat.add_le_add_iff_right];rw [Xy a k (n/b),cJ,cL O]
def Ij(a:2<=b)(k n:Nat):k<(dg b n).length↔b^k<=n:=by have:=Xy a k n;omega
def dg_top{n:Nat}(a:2<=b)(h:0<n):(dg b n).getD ((dg b n).length-1) 0≠0:=by
 have d:0<(dg b n).length:=by rw [Ij a,gX];omega
 have e:b^((dg b n).length-1)<=n:=(Ij a _ n).1 O;have c:n<b^(dg b n).length:=(Xy a _ n).1 (aI _);rw [Fb a];rw [show(dg b n).length=(dg b n).length-1+1 by omega,cJ]at c;have f:n/b^((dg b n).length-1)<b:=by rw [cL (bW O),aR];exact c
 have g:0<n/b^((dg b n).length-1):=Nat.div_pos e (bW O);rw [aU f];omega
def Nu(a:2<=b)(n:Nat):(dg b n).length=0↔n=0:=by have:=Xy a 0 n;rw [gX]at this;omega
def Zus(e:2<=b){x:Nat}(h:∀i,i<o.length->o.getD i 0=x/b^i%b)(g:x<b^o.length):tz o=dg b x:=by
 have a:∀d∈o,d<b:=λd f=>by obtain⟨i,hi,rfl⟩:=kV f;have:=h i hi;rw [show o.getD i 0=o[i] by simp [List.getD,hi]]at this;rw [this];exact bO _ O
 rw [<-Cm e o a];congr 1;have c:∀k,k<=o.length->val b (o.take k)=x%b^k:=by
  intro k
  induction k with
  | zero=>intro _;simp [val,mU]
  | succ k j=>
   intro l;rw [Od,j O,h k O,cJ,mV,aR]
 have:=c o.length (aI _);rw [bT]at this;rw [this,aU g]
def bl(n:Nat):Nat:=(dg 2 n).length
def Qt(k n:Nat):bl n<=k↔n<2^k:=Xy O k n
def Zb6(k n:Nat):k<bl n↔2^k<=n:=Ij O k n
def Ko:bl 0=0:=rfl
def Zqk{n:Nat}(h:0<n):2^(bl n-1)<=n/\0<bl n:=by have a:0<bl n:=(Zb6 0 n).2 (by rw [gX];omega);exact⟨(Zb6 _ n).1 O,a⟩
def Bd(n:Nat):n<2^bl n:=(Qt _ n).1 (aI _)
def bl_eq{n:Nat}(b:n<2^k)(a:k=0\/2^(k-1)<=n):bl n=k:=by
 have:=(Qt k n).2 b;rcases a with rfl|a
 .omega
 .have:=(Zb6 (k-1) n).2 a;omega
def Zws{n:Nat}(h:0<n):bl (n*2^k)=bl n+k:=by
 have a:=Zqk h;refine bl_eq ?_ (.inr ?_)
 .rw [bN];exact(mW (bW O)).2 (Bd n)
 .rw [show bl n+k-1=(bl n-1)+k by omega,bN];exact aP _ a.1
def Gc(n k:Nat):bl (n/2^k)=bl n-k:=by
 by_cases h:bl n<=k
 .have:=(Qt k n).1 h;rw [dI this,Ko];omega
 .have a:2^k<=n:=(Zb6 k n).1 O;have b:0<n:=cZ (bW O) a;have c:=Zqk b;refine bl_eq ?_ (.inr ?_)
  .rw [cL (bW O),<-bN,show bl n-k+k=bl n by omega];exact Bd n
  .rw [kG (bW O),<-bN,show bl n-k-1+k=bl n-1 by omega];exact c.1
def Ll{n:Nat}(h:m<=n):bl m<=bl n:=(Qt _ m).2 (bC h (Bd n))
end Go.Sky
namespace Go.Sky
open Go.RowKit Below
variable{M:Nat->Prop}{a:Act}{b:Bool}{c:Operand}{w w':World}{x y:Code}{v:Value}{id d i:Nat}{p:Prop}{K:Act->World->Prop}{o oi:Oper}{rest:List Oper}{Y:Act->Prop}{ts:List Nat}{listed:Array Bool}
abbrev Qi:=List (Nat×Value)
def lk{α:Type} : List (Nat×α)->Nat->Option α
  | [],_=>none
  | (k,v)::r,n=>cond (Nat.beq k n) (some v) (lk r n)
def ev(e:Qi):Operand->Option Value
  | .tmp t=>lk e t
  | .const v=>some v
  | .global g=>some (.pointer (some ⟨g,0,none⟩))
  | .func f=>some (.func (.func f) #[] #[])
structure Chg (M:Nat->Prop) (w w':World):Prop where
  os:w'.os=w.os
  tape:w'.tape=w.tape
  output:w'.output=w.output
  size:w.heap.size<=w'.heap.size
  block:∀k,k<w.heap.size->¬M k->w'.heap[k]? = w.heap[k]?
def Chg.refl(M:Nat->Prop)(w:World):Chg M w w:=⟨rfl,rfl,rfl,aI _,λ_ _ _=>rfl⟩
def Chg.trans{a b c:World}(h:Chg M a b)(k:Chg M b c):Chg M a c:=
  ⟨k.os.trans h.os,k.tape.trans h.tape,k.output.trans h.output,aB h.size k.size,λi hi e=>(k.block i (cZ hi h.size) e).trans (h.block i hi e)⟩
def Chg.of_below(h:Below w.heap.size w w'):Chg M w w':=⟨h.os,h.tape,h.output,h.size,λk e _=>h.block k e⟩
structure Pc where
  own:Bool
  fp:Nat->Prop
  holds:World->Prop
  lt:∀w b,holds w->fp b->b<w.heap.size
  stable:∀w w',holds w->Chg (λb=>¬fp b) w w'->holds w'
abbrev Hp:=List (Nat×Pc)
structure Sat (N:Nat) (sc:Nat->Prop) (env:Qi) (H:Hp) (a:Act) (w:World):Prop where
  size:a.tmps.size=N
  defers:a.defers=[]
  env:∀t v,lk env t=some v->a.tmps.getD t undef=v
  hold:∀i it,lk H i=some it->it.holds w
  sep:∀i j it jt,i≠j->lk H i=some it->lk H j=some jt->it.own=true->∀b,it.fp b->jt.fp b->False
  scope:∀i it,i≠0->lk H i=some it->∀b,it.fp b->sc b
variable {P:Program} {N:Nat} {sc:Nat->Prop} {env env':Qi} {H H':Hp} {Q Q':Exit->Act->World->Prop}
def E(P:Program)(N:Nat)(sc:Nat->Prop)(c:Code)(Q:Exit->Act->World->Prop)(env:Qi)(H:Hp):Prop:=
  ∀a w,Sat N sc env H a w->c.wp P Q a w
def L(P:Program)(N:Nat)(sc:Nat->Prop)(ops:Array Oper)(rest:List Oper)(Q:Exit->Act->World->Prop)(env:Qi)(H:Hp):Prop:=
  ∀a w,Sat N sc env H a w->wpList P ops Q rest a w
def X(N:Nat)(sc:Nat->Prop)(e:Exit)(Q:Exit->Act->World->Prop)(env:Qi)(H:Hp):Prop:=
  ∀a w,Sat N sc env H a w->Q e a w
def Sub:Qi->Qi->Prop
  | [],_=>True
  | (t,v)::r,e=>lk e t=some v/\Sub r e
def HSub:Hp->Hp->Prop
  | [],_=>True
  | (t,v)::r,e=>lk e t=some v/\HSub r e
theorem Sub.lk:∀{f e:Qi},Sub f e->∀t v,lk f t=some v->lk e t=some v
  | [],_,_,_,_,h=>by cases h
  | (k,u)::r,e,h,t,v,hl=>by
    unfold Sky.lk at hl;cases hb:Nat.beq k t with
    | true=>
      rw [hb]at hl;have:=dL hb;subst this;simp only [cond_true]at hl;cases hl;exact h.1
    | false=>
      rw [hb]at hl;exact Sub.lk h.2 t v hl
theorem HSub.lk:∀{f e:Hp},HSub f e->∀t v,lk f t=some v->lk e t=some v
  | [],_,_,_,_,h=>by cases h
  | (k,u)::r,e,h,t,v,hl=>by
    unfold Sky.lk at hl;cases hb:Nat.beq k t with
    | true=>
      rw [hb]at hl;have:=dL hb;subst this;simp only [cond_true]at hl;cases hl;exact h.1
    | false=>
      rw [hb]at hl;exact HSub.lk h.2 t v hl
def Sat.weaken(h:Sat N sc env H a w)(hs:Sub env' env)(f:HSub H' H):Sat N sc env' H' a w:=
  ⟨h.size,h.defers,λt v n=>h.env t v (hs.lk t v n),λi e hi=>h.hold i e (f.lk i e hi),
   λi j e l k hi m=>h.sep i j e l k (f.lk i e hi) (f.lk j l m),λi e g hi=>h.scope i e g (f.lk i e hi)⟩
def E.weaken{c:Code}(h:E P N sc c Q env' H')(hs:Sub env' env)(f:HSub H' H):E P N sc c Q env H:=
  λa w e=>h a w (e.weaken hs f)
def X.weaken{e:Exit}(h:X N sc e Q env' H')(hs:Sub env' env)(g:HSub H' H):X N sc e Q env H:=
  λa w f=>h a w (f.weaken hs g)
theorem Zm{α:Type}(k:Nat)(v:α)(r:List (Nat×α)):lk ((k,v)::r) k=some v:=by simp [lk]
theorem Zh{α:Type}{k n:Nat}{v:α}{r:List (Nat×α)}(h:k≠n):lk ((k,v)::r) n=lk r n:=by
  have:Nat.beq k n=false:=by
    cases hb:Nat.beq k n with
    | false=>rfl
    | true=>exact absurd (dL hb) h
  simp [lk,this]
theorem Sat.ev(h:Sat N sc env H a w){x:Operand}(e:ev env x=some v):a.eval x=v:=by
  cases x with
  | tmp t=>exact h.env t v e
  | const u=>simp only [Sky.ev,jX]at e;exact e
  | global g=>simp only [Sky.ev,jX]at e;exact e
  | func f=>simp only [Sky.ev,jX]at e;exact e
theorem Sat.put(h:Sat N sc env H a w)(d:Nat)(v:Value)(j:Nat.blt d N=true):Sat N sc ((d,v)::env) H (a.put (some d) v) w:=by
  have g:d<N:=by simpa using j
  refine⟨by simp [Act.put,h.size],h.defers,λt u e=>?_,h.hold,h.sep,h.scope⟩;by_cases f:d=t
  . subst f;rw [Zm]at e;cases e;simp [Act.put,h.size,g]
  . rw [Zh f]at e;have:=h.env t u e;simp only [Act.put];rw [<-this];simp [bK,Array.getElem?_setIfInBounds_ne f]
def Sat.put_none(h:Sat N sc env H a w)(v:Value):Sat N sc env H (a.put none v) w:=h
def e_seq(h:E P N sc x (Exit.then (y.wp P Q) Q) env H):E P N sc (.seq x y) Q env H:=λa w hs=>wp_seq (h a w hs)
def e_skip(h:X N sc .normal Q env H):E P N sc .skip Q env H:=λa w hs=>wp_skip (h a w hs)
def e_ret(h:X N sc .ret Q env H):E P N sc .ret Q env H:=λa w hs=>wp_ret (h a w hs)
def e_exit(h:X N sc (.exit id) Q env H):E P N sc (.exit id) Q env H:=λa w hs=>wp_exit (h a w hs)
def Ymz{c:Code}(h:E P N sc c (Exit.inBlock id Q) env H):E P N sc (.block id c) Q env H:=λa w hs=>wp_block (h a w hs)
def e_reg{l:List Oper}(h:L P N sc l.toArray l Q env H):E P N sc (.region id l.toArray false) Q env H:=λa w hs=>wp_region_lit (h a w hs)
theorem Zc[Decidable p](e:ev env c=some (.bool (decide p)))(g:p->E P N sc x Q env H)(f:¬p->E P N sc y Q env H) :
    E P N sc (.cond c x y) Q env H:=λa w hs=>
  wp_cond_split (hs.ev e) (λh=>g (by simpa using h) a w hs) (λh=>f (by simpa using h) a w hs)
def Yq(e:ev env c=some (.bool b))(g:b=true->E P N sc x Q env H)(f:b=false->E P N sc y Q env H) :
    E P N sc (.cond c x y) Q env H:=λa w hs=>
  wp_cond_split (hs.ev e) (λh=>g h a w hs) (λh=>f h a w hs)
def Ymx(e:ev env c=some (.bool true))(f:E P N sc x Q env H):E P N sc (.cond c x y) Q env H:=λa w hs=>
  wp_cond_true (hs.ev e) (f a w hs)
def Ymy(e:ev env c=some (.bool false))(f:E P N sc y Q env H):E P N sc (.cond c x y) Q env H:=λa w hs=>
  wp_cond_false (hs.ev e) (f a w hs)
def Zq{ops:Array Oper}(h:X N sc .normal Q env H):L P N sc ops [] Q env H:=λa w hs=>wpList_nil (h a w hs)
def x_then(h:E P N sc y Q env H):X N sc .normal (Exit.then (y.wp P Q) Q) env H:=h
def x_ret(h:X N sc .ret Q env H):X N sc .ret (Exit.then K Q) env H:=h
def x_exit(h:X N sc (.exit id) Q env H):X N sc (.exit id) (Exit.then K Q) env H:=h
def x_bn(h:X N sc .normal Q env H):X N sc .normal (Exit.inBlock id Q) env H:=h
def x_br(h:X N sc .ret Q env H):X N sc .ret (Exit.inBlock id Q) env H:=h
theorem x_be(h:X N sc .normal Q env H):X N sc (.exit id) (Exit.inBlock id Q) env H:=λa w hs=>by show(if id=id then Q .normal a w else Q (.exit id) a w);rw [aF rfl];exact h a w hs
theorem x_bo{e:Nat}(f:e≠id)(h:X N sc (.exit e) Q env H):X N sc (.exit e) (Exit.inBlock id Q) env H:=λa w hs=>by show(if e=id then Q .normal a w else Q (.exit e) a w);rw [aD f];exact h a w hs
theorem e_loop {c:Code} {G:Type} (h:G->Qi) (D:G->Hp) (m:G->Prop) (μ:G->Nat) (I:G) (h₀:m I) (hs:Sub (h I) env) (hh:HSub (D I) H)
    (u:∀g,m g->E P N sc c (Exit.then (λa w=>∃r,m r/\μ r<μ g/\Sat N sc (h r) (D r) a w) Q) (h g) (D g)) :
    E P N sc (.loop c) Q env H:=by
  intro a0 w0 j;have h1:=j.weaken hs hh;suffices hx:∀n g,μ g=n->m g->∀a w,Sat N sc (h g) (D g) a w->(Code.loop c).wp P Q a w from hx _ I rfl h₀ a0 w0 h1
  intro n g _ hg a w j b k R;have Z:∀n g,μ g=n->m g->∀a w,Sat N sc (h g) (D g) a w->
      ∃e F w',Q e F w'/\Arrives P (lone (b.at a (.code c::.inLoop c::k)) R w) b k R e F w':=by
    intro n
    induction n using Nat.strongRecOn with
    | _ n ih=>
      intro g hn hI a w j;obtain⟨e,z,B,q,f⟩:=u g hI a w j b (.inLoop c::k) R;cases e with
      | normal=>
        obtain⟨r,S,V,t⟩:=q;obtain⟨e₂,a₂,w₂,W,s⟩:=ih (μ r) (hn▸V) r rfl S z B t;exact⟨e₂,a₂,w₂,W,.of_steps (Steps.trans f (.one step_inLoop)) s⟩
      | exit id=>exact⟨_,z,B,q,.pass (x:= .inLoop c) rfl (λ_ _=> .inl O8) f⟩
      | goto l=>exact⟨_,z,B,q,.pass (x:= .inLoop c) rfl (λ_ _=> .inl O8) f⟩
      | ret=>exact⟨_,z,B,q,.pass (x:= .inLoop c) rfl (λ_ _=> .inl O8) f⟩
      | panic ch=>exact⟨_,z,B,q,.pass (x:= .inLoop c) rfl (λ_ _=> .inl O8) f⟩
      | outgrown=>exact⟨_,z,B,q,.pass (x:= .inLoop c) rfl (λ_ _=> .inl O8) f⟩
  obtain⟨e,F,w',q,f⟩:=Z _ g rfl hg a w j;exact⟨e,F,w',q,.of_steps (.one step_loop) f⟩
def Ms(P:Program)(N:Nat)(sc:Nat->Prop)(o:Oper)(env:Qi)(H:Hp)(v:Value):Prop:=
  ∀a w,Sat N sc env H a w->(execOp a.eval o).run P w= .ok (.value v) w
def T(P:Program)(N:Nat)(sc:Nat->Prop)(M:Nat->Prop)(o:Oper)(env:Qi)(H:Hp){G:Type}(φ:G->Prop)(env':G->Qi)(H':G->Hp):Prop:=
  ∀a w,Sat N sc env H a w->∀K Q,(∀g e w',φ g->Sat N sc (env' g) (H' g) e w'->Chg M w w'->K e w')->o.wp P a w K Q
theorem l_det {ops:Array Oper}     (j:o.guard=none) (g:o.dst=some d) (f:Nat.blt d N=true) (k:Ms P N sc o env H v)
    (h:L P N sc ops rest Q ((d,v)::env) H):L P N sc ops (o::rest) Q env H:=λa w hs=>
  wpList_plain j λK e=>by unfold Oper.wp;rw [k a w hs];show K (a.put o.dst v) w;rw [g];exact e _ _ (h _ _ (hs.put d v f))
def l_step {ops:Array Oper}   {G:Type}  {φ:G->Prop} {e:G->Qi} {k:G->Hp} (f:o.guard=none)
    (n:T P N sc M o env H φ e k) (h:∀g,φ g->L P N sc ops rest Q (e g) (k g)):L P N sc ops (o::rest) Q env H:=λa w hs=>
  wpList_plain f λK m=>n a w hs K Q λg l w' f j _=>m _ _ (h g f l w' j)
theorem Sat.yielded(h:Sat N sc env H a w){ops:Array Oper}{j:Nat}(l:(ops[j]?).bind (·.dst)=some d)(k:lk env d=some (.bool b))(g:Nat.blt d N=true) :
    yielded ops a.tmps j=some b:=by
  have f:=h.env d _ k;have e:d<a.tmps.size:=by rw [h.size];simpa using g
  unfold Go.yielded;rw [l];simp only [Option.bind_some];rw [bK,lO e]at f;simp only [fC]at f;rw [lO e,f]
theorem l_gdet {ops:Array Oper}     {j e:Nat}  (n:o.guard=some (j,b)) (q:(ops[j]?).bind (·.dst)=some e) (m:lk env e=some (.bool b))
    (f:Nat.blt e N=true) (l:o.dst=some d) (k:Nat.blt d N=true) (r:Ms P N sc o env H v)
    (h:L P N sc ops rest Q ((d,v)::env) H):L P N sc ops (o::rest) Q env H:=λa w hs=>
  wpList_step λK g=>by
    have t:=hs.yielded q m f;have s:Region.wanted o (yielded ops a.tmps)=true:=by simp [Region.wanted,n,t]
    rw [aF s];unfold Oper.wp;rw [r a w hs];show K (a.put o.dst v) w;rw [l];exact g _ _ (h _ _ (hs.put d v k))
theorem Yl4 {ops:Array Oper}   {G:Type}  {φ:G->Prop} {f:G->Qi} {n:G->Hp} {j e:Nat}  (l:o.guard=some (j,b)) (t:(ops[j]?).bind (·.dst)=some e)
    (s:lk env e=some (.bool b)) (k:Nat.blt e N=true)
    (u:T P N sc M o env H φ f n) (h:∀g,φ g->L P N sc ops rest Q (f g) (n g)):L P N sc ops (o::rest) Q env H:=λa w hs=>
  wpList_step λK r=>by
    have B:=hs.yielded t s k;have z:Region.wanted o (yielded ops a.tmps)=true:=by simp [Region.wanted,l,B]
    rw [aF z];exact u a w hs K Q λg q w' l m _=>r _ _ (h g l q w' m)
theorem Yl5 {ops:Array Oper}    {j e:Nat} {k:Bool} (r:o.guard=some (j,b)) (s:(ops[j]?).bind (·.dst)=some e) (q:lk env e=some (.bool k))
    (g:Nat.blt e N=true) (f:(k == b)=false) (n:o.dst=some d) (m:Nat.blt d N=true)
    (h:L P N sc ops rest Q ((d,undef)::env) H):L P N sc ops (o::rest) Q env H:=λa w hs=>
  wpList_step λK l=>by
    have u:=hs.yielded s q g;have t:Region.wanted o (yielded ops a.tmps)=false:=by simp [Region.wanted,r,u];simpa using f
    rw [t,aD O8,n];exact l _ _ (h _ _ (hs.put d undef m))
theorem Zj (d:Nat) {ops:Array Oper}    [Decidable p] (h:lk env d=some (.bool (decide p)))
    (k:p->L P N sc ops rest Q ((d,.bool true)::env) H) (j:¬p->L P N sc ops rest Q ((d,.bool false)::env) H):L P N sc ops rest Q env H:=λa w hs=>by
  by_cases g:p
  . refine k g a w ⟨hs.size,hs.defers,λt v e=>?_,hs.hold,hs.sep,hs.scope⟩;by_cases f:d=t
    . subst f;rw [Zm]at e;cases e;have:=hs.env _ _ h;rw [this];simp [g]
    . rw [Zh f]at e;exact hs.env _ _ e
  . refine j g a w ⟨hs.size,hs.defers,λt v e=>?_,hs.hold,hs.sep,hs.scope⟩;by_cases f:d=t
    . subst f;rw [Zm]at e;cases e;have:=hs.env _ _ h;rw [this];simp [g]
    . rw [Zh f]at e;exact hs.env _ _ e
section
variable {ops:Array Oper} {md:Region.Mode} {C:World->World->Prop}
def Fc(ops:Array Oper)(ts:List Nat)(listed:Array Bool):Bool:=(List.range ops.size).all λj=>ts.contains j || listed.getD j true
def Hh(P:Program)(md:Region.Mode)(ops:Array Oper)(ts:List Nat)(C:World->World->Prop)(Q:Exit->Act->World->Prop):Nat->Array Bool->Act->World->Prop
  | 0,listed,a,w=>Region.ready md ops listed=[]/\Q .normal a w
  | e+1,listed,a,w=>if Fc ops ts listed=true then wpAny P md ops Q (e+1) listed a w else
    (Region.ready md ops listed=[]->Q .normal a w)/\
    ∀i∈Region.ready md ops listed,wpOp P ops Q i (λf w'=>C w w'/\Hh P md ops ts C Q e (listed.setIfInBounds i true) f w') a w
theorem Zbd (ts:List Nat) : ∀(e:Nat) (listed:Array Bool) (a:Act) (w:World),Hh P md ops ts C Q e listed a w->wpAny P md ops Q e listed a w
  | 0,_,_,_,h=>h
  | e+1,listed,_,_,h=>by
    unfold Hh at h;split at h
    . exact h
    . exact⟨h.1,λi hi=>wpOp_mono (λ_ _ f=>Zbd _ e _ _ _ f.2) (h.2 i hi)⟩
def YieldsC(P:Program)(ops:Array Oper)(C:World->World->Prop)(o:Oper)(v:Value)(a:Act)(w:World):Prop:=
  (Region.wanted o (yielded ops a.tmps)=true/\∀w',C w w'->(execOp a.eval o).run P w'= .ok (.value v) w')\/
  (Region.wanted o (yielded ops a.tmps)=false/\v=undef)
theorem YieldsC.wpOp      (hi:ops[i]? = some o) (e:C w w) (j:YieldsC P ops C o v a w)
     (h:K (a.put o.dst v) w):wpOp P ops Q i K a w:=by
  unfold Go.wpOp;simp only [hi];rcases j with⟨f,g⟩|⟨f,rfl⟩
  . simp only [f,jY,Oper.wp,g w e,Oper.upon];exact .inl h
  . simp only [f,Bool.false_eq_true,mX];exact h
theorem YieldsC.of_same {o:Oper} {v:Value} {a a':Act} {w:World} (g:YieldsC P ops C o v a w) (e:execOp a'.eval o=execOp a.eval o)
    (f:Region.wanted o (yielded ops a'.tmps)=Region.wanted o (yielded ops a.tmps)):YieldsC P ops C o v a' w:=by
  unfold YieldsC at *;rw [e,f];exact g
theorem YieldsC.later(e:∀a b c,C a b->C b c->C a c)(l:YieldsC P ops C o v a w)(h:C w w'):YieldsC P ops C o v a w':=by
  rcases l with⟨k,f⟩|f
  . exact .inl ⟨k,λg j=>f g (e _ _ _ h j)⟩
  . exact .inr f
theorem Yam {j:Nat} {k:Oper}  (W:ops[j]? = some k) (D:oi.apart ops k=true)
    (F:∀cs b,oi.op≠ .select cs b) (z:∀cs b,k.op≠ .select cs b)
    (S:∀c a w,Q (.panic c) (a.put oi.dst v) w->Q (.panic c) a w)    
    (V:∀a a',Y a->execOp a'.eval oi=execOp a.eval oi->Region.wanted oi (yielded ops a'.tmps)=Region.wanted oi (yielded ops a.tmps)->Y a') (l:Y a)
    (h:wpOp P ops Q j K (a.put oi.dst v) w) :
    wpOp P ops Q j (λa' w'=>Y a'/\K (a'.put oi.dst v) w') a w:=by
  obtain⟨B,s,R⟩:=Oper.apart_spec D;have Zt:∀(a:Act),Y a->∀u,Y (a.put k.dst u):=λa l u=>
    V _ _ l (execOp_put oi F a k.dst u R) (wanted_put oi a k.dst u R)
  have q:∀d,Y { a with defers:=d::a.defers }:=λd=>V _ _ l rfl rfl;unfold Go.wpOp at *;simp only [W]at *;rw [wanted_put k a oi.dst v B]at h;split
  . rename_i G;simp only [G,jY]at h;rcases h with h|⟨g,m⟩
    case inr=>exact .inr ⟨by unfold Oper.asks at *;rw [execOp_put k z a oi.dst v B]at g;exact g,m⟩
    refine .inl ?_;unfold Oper.wp at *;rw [execOp_put k z a oi.dst v B]at h;generalize (execOp a.eval k).run P w=r at *;cases r with
    | ok n w'=>
      cases n<;>simp only [Oper.upon]at h ⊢
      case value u=>exact⟨Zt a l u,by rw [<-Act.put_comm a v u s];exact h⟩
      case skip=>exact⟨Zt a l _,by rw [<-Act.put_comm a v undef s];exact h⟩
      case defer d=>
        refine⟨Zt _ (q d) _,?_⟩;rw [<-Act.put_comm _ v undef s,<-Act.put_defers];exact h
      case enter f args=>
        refine Calls.mono h λe I t=>?_;cases e with
        | returned u=>exact⟨Zt a l u,by rw [<-Act.put_comm a v u s];exact t⟩
        | panicked c=>exact S _ _ _ t
        | outgrown=>exact t
      case row row args=>exact Rows.mono h λu I t=>⟨Zt a l u,by rw [<-Act.put_comm a v u s];exact t⟩
    | halt x w'=>
      cases x<;>simp only [Oper.upon]at h ⊢
      case panic u=>exact S _ _ _ h
  . rename_i G;simp only [G]at h;exact⟨Zt a l _,by rw [<-Act.put_comm a v undef s];exact h⟩
theorem Zek(hi:ops[i]? = some o)(e:i ∉ ts)(f:listed.getD i true=false):Fc ops ts listed=false:=by
  cases h:Fc ops ts listed with
  | false=>rfl
  | true=>
    unfold Fc at h;rw [bF]at h;have:=h i (dA.2 (aO.1 hi).1);rw [f]at this;simp [e]at this
theorem Zbe     (hi:ops[i]? = some oi) (B:∀(j:Nat) (o:Oper) R b,ops[j]? = some o->o.op≠ .select R b)
    (a2:i ∉ ts) (S:∀(j:Nat) (r:Oper),j∈ts->ops[j]? = some r->∃e∈r.after,Region.binds md e=true/\e.on=i)
    (g:∀w,C w w) (u:∀a b c,C a b->C b c->C a c)
    (hQ:∀c a w,Q (.panic c) (a.put oi.dst v) w->Q (.panic c) a w) :
    ∀(l:Nat) (listed:Array Bool) (a:Act) (w:World),
      (∀j r,ops[j]? = some r->j≠i->listed.getD j true=false->(∀e∈r.after,Region.binds md e=true->e.on≠i)->oi.apart ops r=true)->
      i∈Region.ready md ops listed->YieldsC P ops C oi v a w->
      Hh P md ops ts C Q l (listed.setIfInBounds i true) (a.put oi.dst v) w->Hh P md ops ts C Q (l+1) listed a w:=by
  intro l
  induction l with
  | zero=>
    intro listed a w _ t I H;have G:=Zek hi a2 (mem_ready.1 t).1;unfold Hh;rw [aD (by rw [G];exact bD)];refine⟨λh=>(by rw [h]at t;cases t),λj hj=>?_⟩;by_cases f:j=i
    . subst f;exact I.wpOp hi (g w) ⟨g w,H⟩
    . have:=ready_mono hj f;rw [H.1]at this;cases this
  | succ l ih=>
    intro listed a w m t I H;have G:=Zek hi a2 (mem_ready.1 t).1;unfold Hh;rw [aD (by rw [G];exact bD)];refine⟨λh=>(by rw [h]at t;cases t),λj hj=>?_⟩;by_cases f:j=i
    . subst f;exact I.wpOp hi (g w) ⟨g w,H⟩
    . obtain⟨n,r,q,V⟩:=mem_ready.1 hj;have z:∀e∈r.after,Region.binds md e=true->e.on≠i:=λe W hb F=>by
        have D:=V e W hb;have h0:=(mem_ready.1 t).1;rw [F]at D;rcases aX i listed.size with h'|h'
        . simp [h']at h0 D;rw [h0]at D;cases D
        . simp [mE h']at D
      have a0:j ∉ ts:=λhm=>by obtain⟨e,W,hb,F⟩:=S j r hm q;exact z e W hb F
      have a1:Fc ops ts (listed.setIfInBounds i true)=false:=Zek q a0 (by rw [getD_set_ne true (jG f)];exact n);unfold Hh at H;rw [aD (by rw [a1];exact bD)]at H;have D:=H.2 j (ready_mono hj f);have h2:=Yam (Y:=λa=>YieldsC P ops C oi v a w) q (m j r q f n z) (λR b=>B i oi R b hi) (λR b=>B j r R b q) hQ
        (λa a' I W hw=>YieldsC.of_same I W hw) I D
      have s:∀k ok,ops[k]? = some ok->k≠i->(listed.setIfInBounds j true).getD k true=false->
          (∀e∈ok.after,Region.binds md e=true->e.on≠i)->oi.apart ops ok=true:=λk ok hk a4 a3 a5=>by
        refine m k ok hk a4 ?_ a5;by_cases Z:j=k
        . subst Z;exact n
        . rw [getD_set_ne true Z]at a3;exact a3
      refine wpOp_mono (λa' w' h3=>⟨h3.2.1,ih (listed.setIfInBounds j true) a' w' s (ready_mono t (jG f)) (h3.1.later u h3.2.1) ?_⟩) h2;rw [Array.setIfInBounds_comm _ _ f];exact h3.2.2
end
def drp:Nat->Hp->Hp
  | _,[]=>[]
  | k,(i,p)::r=>cond (Nat.beq i k) (drp k r) ((i,p)::drp k r)
theorem Hx:∀(k:Nat) (H:Hp) (i:Nat) (p:Pc),lk (drp k H) i=some p->i≠k/\lk H i=some p
  | _,[],_,_,h=>by cases h
  | k,(j,q)::r,i,p,h=>by
    unfold drp at h;cases hb:Nat.beq j k with
    | true=>
      rw [hb]at h;obtain⟨g,l⟩:=Hx k r i p h;have:=dL hb;refine⟨g,?_⟩;rw [Zh O];exact l
    | false=>
      rw [hb]at h;simp only [cond_false]at h;by_cases f:j=i
      . subst f;rw [Zm]at h;refine⟨λe=>?_,by rw [Zm];exact h⟩;subst e;simp at hb
      . rw [Zh f]at h ⊢;exact Hx k r i p h
def LD(P:Program)(N:Nat)(sc:Nat->Prop)(M:Nat->Prop)(ops:Array Oper)(F:Qi->Hp->Prop):List (Nat×Nat)->Qi->Hp->Prop
  | [],env,H=>F env H
  | (i,0)::rest,env,H=>∃o d v,ops[i]? = some o/\o.dst=some d/\Nat.blt d N=true/\
      (∀a w,Sat N sc env H a w->Region.wanted o (yielded ops a.tmps)=true/\∀w',Chg M w w'->(execOp a.eval o).run P w'= .ok (.value v) w')/\LD P N sc M ops F rest ((d,v)::env) H
  | (i,1)::rest,env,H=>∃(o:Oper) (G:Type) (φ:G->Prop) (e:G->Qi) (f:G->Hp),ops[i]? = some o/\
      (∀a w,Sat N sc env H a w->Region.wanted o (yielded ops a.tmps)=true)/\T P N sc M o env H φ e f/\∀g,φ g->LD P N sc M ops F rest (e g) (f g)
  | (i,3)::rest,env,H=>∃(o:Oper) (G:Type) (φ:G->Prop) (e:G->Qi) (f:G->Hp),ops[i]? = some o/\
      (∀a w,Sat N sc env H a w->Region.wanted o (yielded ops a.tmps)=true)/\T P N sc (λ_=>True) o env H φ e f/\∀g,φ g->LD P N sc M ops F rest (e g) (f g)
  | (i,_)::rest,env,H=>∃o d,ops[i]? = some o/\o.dst=some d/\Nat.blt d N=true/\
      (∀a w,Sat N sc env H a w->Region.wanted o (yielded ops a.tmps)=false)/\LD P N sc M ops F rest ((d,undef)::env) H
def Br:List (Nat×Nat)->List Nat
  | []=>[]
  | (i,3)::rest=>i::Br rest
  | _::rest=>Br rest
def Ff(ops:Array Oper)(ts:List Nat):List (Nat×Nat)->Array Bool->Bool
  | [],_=>true
  | (i,1)::rest,listed=>(Region.ready .any ops listed == [i]) && !(Fc ops ts listed) && Ff ops ts rest (listed.setIfInBounds i true)
  | (i,3)::rest,listed=>(Region.ready .any ops listed == [i]) && Fc ops ts listed && Ff ops ts rest (listed.setIfInBounds i true)
  | (i,_)::rest,listed=>(Region.ready .any ops listed).contains i && Region.free .any ops listed i && !(ts.contains i) &&
      ts.all (λj=>match ops[j]? with|some f=>f.after.any (λe=>Region.binds .any e && e.on == i)|none=>true) && Ff ops ts rest (listed.setIfInBounds i true)
def Fy:List (Nat×Nat)->Array Bool->Array Bool
  | [],listed=>listed
  | (i,_)::rest,listed=>Fy rest (listed.setIfInBounds i true)
def It(Q:Exit->Act->World->Prop):Exit->Act->World->Prop
  | .normal,a,w=>Q .normal a w
  | _,_,_=>False
theorem Zou {ops:Array Oper}   (h:ts.all (λj=>match ops[j]? with|some f=>f.after.any (λe=>Region.binds .any e && e.on == i)|none=>true)=true)
    (j:Nat) (f:Oper) (m:j∈ts) (n:ops[j]? = some f):∃e∈f.after,Region.binds .any e=true/\e.on=i:=by
  rw [bF]at h;have k:=h j m;simp only [n]at k;obtain⟨e,l,g⟩:=Array.any_eq_true'.1 k;simp only [aQ,lD]at g;exact⟨e,l,g.1,g.2⟩
def A(P:Program)(N:Nat)(sc:Nat->Prop)(M:Nat->Prop)(ops:Array Oper)(ts:List Nat)(Q:Exit->Act->World->Prop)(n:Nat)(listed:Array Bool)(env:Qi)(H:Hp):Prop:=
  ∀a w,Sat N sc env H a w->Hh P .any ops ts (Chg M) (It Q) n listed a w
theorem LD.sound{M:Nat->Prop}{ops:Array Oper}{ts:List Nat}{F:Qi->Hp->Prop}{n:Nat}(f:Region.noSelect ops=true):∀(m:List (Nat×Nat)) (listed:Array Bool) (env:Qi) (H:Hp),Ff ops ts m listed=true->
    LD P N sc M ops F m env H->(∀env H,F env H->A P N sc M ops ts Q n (Fy m listed) env H)->A P N sc M ops ts Q (m.length+n) listed env H
  | [],listed,env,H,l,h,r,a,w,hs=>by simpa [Fy]using r _ _ h a w hs
  | (i,0)::rest,listed,env,H,l,h,r,a,w,hs=>by simp only [Ff,aQ]at l;obtain⟨⟨⟨⟨u,Z⟩,t⟩,s⟩,l⟩:=l;obtain⟨o,d,v,q,W,V,I,e⟩:=h;obtain⟨hw,I⟩:=I a w hs;have ih:=LD.sound f rest (listed.setIfInBounds i true) _ _ l e r _ w (hs.put d v V);show Hh P .any ops ts (Chg M) (It Q) ((rest.length+1)+n) listed a w;rw [iN];refine Zbe q (Region.noSelect_spec f) (by simpa using t) (Zou s) (Chg.refl M) (λ_ _ _=>Chg.trans) (λ_ _ _ h=>h.elim) (rest.length+n) listed a w (Region.free_spec q Z) (by simpa using u) (.inl ⟨hw,I⟩) ?_;rw [W];exact ih
  | (i,1)::rest,listed,env,H,l,h,r,a,w,hs=>by simp only [Ff,aQ,lD,gY]at l;obtain⟨⟨u,D⟩,l⟩:=l;obtain⟨o,G,φ,R,gH,q,hw,ht,e⟩:=h;show Hh P .any ops ts (Chg M) (It Q) ((rest.length+1)+n) listed a w;rw [iN];unfold Hh;rw [aD (by rw [D];exact bD)];refine⟨λS=>(by rw [u]at S;cases S),λj z=>?_⟩;rw [u]at z;have z:=bZ.1 z;subst z;unfold wpOp;simp only [q,hw a w hs,jY];exact .inl (ht a w hs _ _ λg a' w' hg B hc=>⟨hc,LD.sound f rest _ _ _ l (e g hg) r a' w' B⟩)
  | (i,3)::rest,listed,env,H,l,h,r,a,w,hs=>by simp only [Ff,aQ,lD]at l;obtain⟨⟨u,D⟩,l⟩:=l;obtain⟨o,G,φ,R,gH,q,hw,ht,e⟩:=h;show Hh P .any ops ts (Chg M) (It Q) ((rest.length+1)+n) listed a w;rw [iN];unfold Hh;rw [aF D];refine⟨λS=>(by rw [u]at S;cases S),λj z=>?_⟩;rw [u]at z;have z:=bZ.1 z;subst z;unfold wpOp;simp only [q,hw a w hs,jY];exact .inl (ht a w hs _ _ λg a' w' hg B _=>Zbd _ _ _ _ _ (LD.sound f rest _ _ _ l (e g hg) r a' w' B))
  | (i,2)::rest,listed,env,H,l,h,r,a,w,hs=>by simp only [Ff,aQ]at l;obtain⟨⟨⟨⟨u,Z⟩,t⟩,s⟩,l⟩:=l;obtain⟨o,d,q,W,V,I,e⟩:=h;have ih:=LD.sound f rest (listed.setIfInBounds i true) _ _ l e r _ w (hs.put d undef V);show Hh P .any ops ts (Chg M) (It Q) ((rest.length+1)+n) listed a w;rw [iN];refine Zbe q (Region.noSelect_spec f) (by simpa using t) (Zou s) (Chg.refl M) (λ_ _ _=>Chg.trans) (λ_ _ _ h=>h.elim) (rest.length+n) listed a w (Region.free_spec q Z) (by simpa using u) (.inr ⟨I a w hs,rfl⟩) ?_;rw [W];exact ih
  | (i,(k+4))::rest,listed,env,H,l,h,r,a,w,hs=>by simp only [Ff,aQ]at l;obtain⟨⟨⟨⟨u,Z⟩,t⟩,s⟩,l⟩:=l;obtain⟨o,d,q,W,V,I,e⟩:=h;have ih:=LD.sound f rest (listed.setIfInBounds i true) _ _ l e r _ w (hs.put d undef V);show Hh P .any ops ts (Chg M) (It Q) ((rest.length+1)+n) listed a w;rw [iN];refine Zbe q (Region.noSelect_spec f) (by simpa using t) (Zou s) (Chg.refl M) (λ_ _ _=>Chg.trans) (λ_ _ _ h=>h.elim) (rest.length+n) listed a w (Region.free_spec q Z) (by simpa using u) (.inr ⟨I a w hs,rfl⟩) ?_;rw [W];exact ih
def Sat.drew(h:Sat N sc env H a w):Sat N sc env H a { w with drawn:=w.drawn+1 }:=
  ⟨h.size,h.defers,h.env,λi e hi=>e.stable w _ (h.hold i e hi) ⟨rfl,rfl,rfl,aI _,λ_ _ _=>rfl⟩,h.sep,h.scope⟩
theorem Ys{ops:Array Oper}(h:X N sc .normal Q env H)(e:(Region.ready .any ops listed).isEmpty=true:=by kernel_rfl):A P N sc M ops ts Q 0 listed env H:=
  λa w hs=>⟨by simpa using e,h a w hs⟩
def Ze7(P:Program)(N:Nat)(sc:Nat->Prop)(M:Nat->Prop)(ops:Array Oper)(ts:List Nat)(Q:Exit->Act->World->Prop)(n:Nat)(listed:Array Bool)(env:Qi)(H:Hp)(i:Nat):Prop:=
  ∃(o:Oper) (G:Type) (φ:G->Prop) (e:G->Qi) (f:G->Hp),ops[i]? = some o/\o.guard=none/\T P N sc M o env H φ e f/\∀g,φ g->A P N sc M ops ts Q n (listed.setIfInBounds i true) (e g) (f g)
theorem Yje  {ops:Array Oper}   {n:Nat} (r:List Nat) (f:((Region.ready .any ops listed == r) && !(Fc ops ts listed) && !r.isEmpty)=true)
    (h:∀i∈r,Ze7 P N sc M ops ts Q n listed env H i):A P N sc M ops ts Q (n+1) listed env H:=λa w hs=>by
  simp only [aQ,lD,gY]at f;obtain⟨⟨f,q⟩,l⟩:=f;unfold Hh;rw [aD (by rw [q];exact bD)];refine⟨λt=>?_,λj u=>?_⟩
  . rw [f]at t;subst t;simp at l
  . rw [f]at u;obtain⟨o,G,φ,s,I,D,k,F,e⟩:=h j u;unfold wpOp;simp only [D,Region.wanted,k,jY];exact .inl (F a w hs _ _ λg z w' k m B=>⟨B,e g k z w' m⟩)
theorem a_lin  {l:List Oper}  {n m:Nat}  {F:Qi->Hp->Prop} (e:List (Nat×Nat)) 
    (g:(Region.noSelect l.toArray && Ff l.toArray ts e listed && Nat.beq (e.length+n) m)=true) (h:LD P N sc M l.toArray F e env H)
    (q:∀env H,F env H->A P N sc M l.toArray ts Q n (Fy e listed) env H):A P N sc M l.toArray ts Q m listed env H:=by
  simp only [aQ]at g;obtain⟨⟨j,k⟩,f⟩:=g;have f:=dL f;subst f;exact LD.sound j e listed env H k h q
theorem Zad  {l:List Oper} (M:Nat->Prop) (ts:List Nat) 
    (h:A P N sc M l.toArray ts Q l.length (Array.replicate l.length false) env H) (g:P.follows .mixedOrders=true:=by kernel_rfl):E P N sc (.region id l.toArray true) Q env H:=λa w hs=>by
  refine Code.wp_mono (Q:=It Q) (λe a w f=>by cases e<;>first|exact f|exact f.elim) ?_;refine wp_region_any g (Zbd ts (C:=Chg M) _ _ _ _ ?_);simpa using h a _ hs.drew
theorem e_dreg  {l:List Oper} (M:Nat->Prop) (e:List (Nat×Nat)) (r:P.follows .mixedOrders=true)
    (g:(Region.noSelect l.toArray && Nat.beq e.length l.length && Ff l.toArray (Br e) e (Array.replicate l.length false) &&
      (Region.ready .any l.toArray (Fy e (Array.replicate l.length false))).isEmpty)=true)
    (h:LD P N sc M l.toArray (X N sc .normal Q) e env H):E P N sc (.region id l.toArray true) Q env H:=by
  simp only [aQ]at g;obtain⟨⟨⟨j,f⟩,k⟩,m⟩:=g;have f:=dL f;refine Zad M (Br e) ?_ r;have:=LD.sound (n:=0) (Q:=Q) j e _ env H k h (λenv H q=>Ys q m);rw [<-f];rw [<-f]at this;simpa using this
end Go.Sky
namespace Go.Sky
open Go.RowKit Below
variable{w:World}{k kd:IntKind}{v:Value}{t t' tb:TypeId}{o:Oper}{x c y:Operand}{i b:Nat}{vs cs:Array Value}{p:Pc}{m:Int}
variable {P:Program} {N:Nat} {sc:Nat->Prop} {env env':Qi} {H H':Hp} {Q Q':Exit->Act->World->Prop}
def Zt(w0:World)(M:Nat->Prop):Pc:=
  { own:=false,fp:=λb=>b<w0.heap.size/\¬M b,holds:=λw=>Chg M w0 w
    lt:=λw b h f=>cZ f.1 h.size
    stable:=λw j h a=>⟨a.os.trans h.os,a.tape.trans h.tape,a.output.trans h.output,aB h.size a.size,
      λk d e=>(a.block k (cZ d h.size) (λg=>g ⟨d,e⟩)).trans (h.block k d e)⟩ }
def box(b:Nat)(t:TypeId)(cs:Array Value):Pc:=
  { own:=true,fp:=λk=>k=b,holds:=λw=>w.heap[b]? = some (.cells cs t (0,0))
    lt:=λw k h d=>by subst d;exact(aO.1 h).1
    stable:=λw f h a=>by rw [<-h];exact a.block b (aO.1 h).1 (λe=>e rfl) }
def cellsOf{α:Type}(enc:α->Value)(xs:List α):List Value:=xs.flatMap λx=>(enc x).cells.toList
def RowAt{α:Type}(w:World)(k:Nat)(enc:α->Value)(v:Value)(xs:List α):Prop:=
  ∃a c,v= .slice a xs.length c/\xs.length<=c/\c<=maxLen/\(xs=[]\/∃g d,a=some ⟨g,d,none⟩/\
    ∀i x,xs[i]? = some x->∀j u,(enc x).cells.toList[j]? = some u->w.cell? ⟨g,d+i*k+j,none⟩=some u)
theorem RowAt.same{α:Type}{w':World}{k:Nat}{enc:α->Value}{xs:List α}(h:RowAt w k enc v xs)(r:∀b,xs≠[]/\v.ownBlock=some b->w'.heap[b]? = w.heap[b]?):RowAt w' k enc v xs:=by
  obtain⟨a,c,rfl,d,e,f⟩:=h;rcases f with f|⟨g,l,rfl,q⟩
  . exact⟨a,c,rfl,d,e,.inl f⟩
  by_cases n:xs=[]
  . exact⟨_,c,rfl,d,e,.inl n⟩
  refine⟨_,c,rfl,d,e,.inr ?_⟩;refine⟨g,l,rfl,λi x hi j u s=>?_⟩;rw [<-q i x hi j u s];exact World.cell?_of_block (r g ⟨n,rfl⟩)
def Yt{α:Type}(k:Nat)(enc:α->Value)(v:Value)(xs:List α):Pc:=
  { own:=false,fp:=λb=>xs≠[]/\v.ownBlock=some b,holds:=λw=>RowAt w k enc v xs/\∀b,xs≠[]/\v.ownBlock=some b->b<w.heap.size
    lt:=λw b h a=>h.2 b a
    stable:=λw f h d=>⟨h.1.same λb a=>d.block b (h.2 b a) (λe=>e a),λb a=>cZ (h.2 b a) d.size⟩ }
def On{α:Type}(k:Nat)(e:TypeId)(enc:α->Value)(v:Value)(xs:List α):Pc:=
  { own:=true,fp:=λb=>v.ownBlock=some b,holds:=λw=>w.ownsRow 0 e k v xs.length (cellsOf enc xs)
    lt:=λw b h l=>(h.lt b l).2
    stable:=λw r h q=>by
      refine⟨h.1,?_⟩;rcases h.2 with n|⟨g,f,j,rfl,l,a,d⟩
      . exact .inl n
      . refine .inr ⟨g,f,j,rfl,l,?_,d⟩;rw [<-a];exact q.block g (aO.1 a).1 (λn=>n rfl) }
structure Enc {α:Type} (P:Program) (t:TypeId) (k:Nat) (enc:α->Value):Prop where
  pos:0<k
  cells:∀x,(enc x).cells.size=k
  one:∀x,∀u∈(enc x).cells.toList,u.oneCell'=true
  size:∀w,(sizeOf t).run P w= .ok k w
  load:∀x w ad,(∀j u,(enc x).cells.toList[j]? = some u->w.cell? (ad.add j)=some u)->(loadVar t ad).run P w= .ok (enc x) w
theorem Enc.flat{α:Type}{enc:α->Value}(hs:∀w,(sizeOf t).run P w= .ok 1 w)(g:∀w,(isAgg t).run P w= .ok false w)(f:∀x,(enc x).oneCell'=true):Enc P t 1 enc:=by
  have a:∀x,(enc x).cells=#[enc x]:=λx=>by have:=f x;cases hx:enc x<;>simp_all [Value.cells,Value.oneCell']
  refine⟨O,λx=>by rw [a];rfl,λx u d=>?_,hs,λx w j h=>?_⟩
  . rw [a]at d;simp at d;rw [d];exact f x
  . have e:=h 0 (enc x) (by rw [a];rfl);simp only [Addr.add,jY]at e;simp [loadVar,g,e]
theorem Enc.agg {α:Type}  {k:Nat} {enc:α->Value} (q:0<k) (hs:∀w,(sizeOf t).run P w= .ok k w) (n:∀w,(isAgg t).run P w= .ok true w)
    (e:∀x,∃cs:List Value,enc x= .agg cs.toArray/\cs.length=k/\∀u∈cs,u.oneCell'=true):Enc P t k enc:=by
  refine⟨q,λx=>?_,λx u j=>?_,hs,λx w l h=>?_⟩
  . obtain⟨cs,a,d,f⟩:=e x;rw [a];simpa [Value.cells]using d
  . obtain⟨cs,a,d,f⟩:=e x;rw [a]at j;exact f u (by simpa [Value.cells]using j)
  . obtain⟨cs,a,d,f⟩:=e x;rw [a]at h ⊢;have g:=run_loadCells_list (P:=P) w l cs (by simpa [Value.cells]using h);rw [d]at g;simp [loadVar,n,hs,g]
theorem Xe{α:Type}{k:Nat}{enc:α->Value}(a:∀x,(enc x).cells.size=k):∀xs:List α,(cellsOf enc xs).length=xs.length*k
  | []=>by simp [cellsOf]
  | x::r=>by have d:=Xe a r;simp only [cellsOf,iA,bE,eA,dM]at d ⊢;rw [d,a x,bL];omega
theorem Ga{α:Type}{k:Nat}{enc:α->Value}(a:∀x,(enc x).cells.size=k):∀(xs:List α) (i:Nat) (x:α),xs[i]? = some x->∀j u,(enc x).cells.toList[j]? = some u->(cellsOf enc xs)[i*k+j]? = some u
  | [],_,_,h,_,_,_=>by simp at h
  | y::r,0,x,h,j,u,hu=>by simp at h;subst h;simp only [cellsOf,iA,iO,bR];rw [cW (cI.1 hu).1];exact hu
  | y::r,i+1,x,h,j,u,hu=>by have d:=Ga a r i x (by simpa using h) j u hu;simp only [cellsOf,iA]at d ⊢;rw [dP (by simp [a,bL];omega)];rw [<-d];congr 1;simp [a,bL];omega
def Rd{α:Type}(p:Pc)(k:Nat)(enc:α->Value)(v:Value)(xs:List α):Prop:=∀w,p.holds w->RowAt w k enc v xs
def Zk{α:Type}{k:Nat}{enc:α->Value}{xs:List α} : Rd (Yt k enc v xs) k enc v xs:=λw h=>h.1
theorem Bo{α:Type}{k:Nat}{e:TypeId}{enc:α->Value}{xs:List α}(s:∀x,(enc x).cells.size=k)(h:w.ownsRow 0 e k v xs.length (cellsOf enc xs)):RowAt w k enc v xs:=by
  rcases h.2 with⟨rfl,D⟩|⟨g,f,r,rfl,_,n,q,l,z,a⟩
  . have:xs=[]:=aG D;subst this;exact⟨none,0,rfl,aI _,O8,.inl rfl⟩
  . refine⟨_,f,rfl,q,l,.inr ⟨g,0,rfl,λi x hi j u B=>?_⟩⟩;have d:=Ga s xs i x hi j u B;rw [<-a,cS]at d;simp only [bR];split at d
    . simp only [World.cell?,n];simpa using d
    . cases d
def Yp{α:Type}{k:Nat}{e:TypeId}{enc:α->Value}{xs:List α}(a:Enc P t k enc):Rd (On k e enc v xs) k enc v xs:=λw h=>Bo a.cells h
theorem Px(g o n:Nat):(⟨g,o,none⟩:Addr).add n=⟨g,o+n,none⟩:=by unfold Addr.add;split<;>simp_all
def ead(v:Value)(i k:Nat):Addr:=match v with
  | .slice (some a) _ _=>a.add (i*k)
  | _=>default
theorem Hg(d:o.op= .move x)(e:ev env x=some v):Ms P N sc o env H v:=λa w hs=>by simp only [execOp,d,hs.ev e];rfl
theorem d_as(d:o.op= .assign x)(e:ev env x=some v):Ms P N sc o env H v:=λa w hs=>by simp only [execOp,d,hs.ev e];rfl
theorem Zwa(d:o.op= .extract x i)(f:ev env x=some (.tuple vs))(e:vs[i]? = some v):Ms P N sc o env H v:=λa w hs=>by simp [execOp,d,hs.ev f,Instr.extract,e]
theorem d_nc{d:Addr}(e:o.op= .nilCheck x)(f:ev env x=some (.pointer (some d))):Ms P N sc o env H (.pointer (some d)):=λa w hs=>by simp [execOp,e,hs.ev f]
theorem d_not{p:Prop}[Decidable p](d:o.op= .unOp .not t x)(e:ev env x=some (.bool (decide p))):Ms P N sc o env H (.bool (decide (¬p))):=λa w hs=>by simp [execOp,d,hs.ev e,Op.unary]
theorem Yh{b:Bool}(d:o.op= .unOp .not t x)(e:ev env x=some (.bool b)):Ms P N sc o env H (.bool (!b)):=λa w hs=>by simp [execOp,d,hs.ev e,Op.unary]
theorem Bb(e:o.op= .pick c x y)(d:ev env c=some (.bool true))(f:ev env x=some v):Ms P N sc o env H v:=λa w hs=>by simp [execOp,e,hs.ev d,hs.ev f,asBool]
theorem Ym4(e:o.op= .pick c x y)(d:ev env c=some (.bool false))(f:ev env y=some v):Ms P N sc o env H v:=λa w hs=>by simp [execOp,e,hs.ev d,hs.ev f,asBool]
def Mw(n:Int):Prop:=-9223372036854775808<=n/\n<=9223372036854775807
theorem Zei{n:Int}(h:Mw n):IntKind.i64.wrap n=n:=by rw [IntKind.wrap_i64];obtain⟨a,d⟩:=h;omega
theorem Znw(n:Int):IntKind.u64.wrap n=n%18446744073709551616:=by simp [IntKind.wrap,IntKind.bits,IntKind.signed]
theorem Da  {d:BinOp}    {n:Int} {r:Value} (e:o.op= .binOp d t x y t') (g:ev env x=some (.int k m)) (h:ev env y=some (.int k n))
    (f:∀w,(binOp d t (.int k m) (.int k n)).run P w= .ok r w):Ms P N sc o env H r:=λa w hs=>by
  simp [execOp,e,hs.ev g,hs.ev h,eqGuard,f w]
theorem d_add{n:Int}(a:o.op= .binOp .add t x y t')(d:ev env x=some (.int .i64 m))(e:ev env y=some (.int .i64 n))(h:Mw (m+n):=by exact⟨O,O⟩) :
    Ms P N sc o env H (.int .i64 (m+n)):=Da a d e λw=>by simp [binOp,Op.intArith,Zei h]
theorem d_sub{n:Int}(a:o.op= .binOp .sub t x y t')(d:ev env x=some (.int .i64 m))(e:ev env y=some (.int .i64 n))(h:Mw (m-n)) :
    Ms P N sc o env H (.int .i64 (m-n)):=Da a d e λw=>by simp [binOp,Op.intArith,Zei h]
theorem d_mul{n:Int}(a:o.op= .binOp .mul t x y t')(d:ev env x=some (.int .i64 m))(e:ev env y=some (.int .i64 n))(h:Mw (m*n)) :
    Ms P N sc o env H (.int .i64 (m*n)):=Da a d e λw=>by simp [binOp,Op.intArith,Zei h]
theorem Zln{n:Int}(e:o.op= .binOp .quo t x y t')(g:ev env x=some (.int .i64 m))(h:ev env y=some (.int .i64 n))(a:0<=m:=by omega)(j:m<=9223372036854775807:=by omega)(d:0<n:=by omega) :
    Ms P N sc o env H (.int .i64 (m/n)):=Da e g h λw=>by
  have f:Mw (m/n):=by have l:=kR a (eK d);have q:m/n<=m:=mA n a;exact⟨O,O⟩
  simp [binOp,Op.intDiv,lE a,Zei f];omega
theorem Kk{n:Int}(d:o.op= .binOp .rem t x y t')(e:ev env x=some (.int .i64 m))(f:ev env y=some (.int .i64 n))(a:0<=m:=by omega)(g:0<n:=by omega) :
    Ms P N sc o env H (.int .i64 (m%n)):=Da d e f λw=>by
  simp [binOp,Op.intDiv,lF a];omega
theorem d_lss{n:Int}(a:o.op= .binOp .lss t x y t')(d:ev env x=some (.int k m))(e:ev env y=some (.int k n)) :
    Ms P N sc o env H (.bool (decide (m<n))):=Da a d e λw=>by simp [binOp,Op.intCmp]
theorem d_leq{n:Int}(a:o.op= .binOp .leq t x y t')(d:ev env x=some (.int k m))(e:ev env y=some (.int k n)) :
    Ms P N sc o env H (.bool (decide (m<=n))):=Da a d e λw=>by simp [binOp,Op.intCmp]
theorem Ztw{n:Int}(a:o.op= .binOp .gtr t x y t')(d:ev env x=some (.int k m))(e:ev env y=some (.int k n)) :
    Ms P N sc o env H (.bool (decide (n<m))):=Da a d e λw=>by simp [binOp,Op.intCmp]
theorem d_geq{n:Int}(a:o.op= .binOp .geq t x y t')(d:ev env x=some (.int k m))(e:ev env y=some (.int k n)) :
    Ms P N sc o env H (.bool (decide (n<=m))):=Da a d e λw=>by simp [binOp,Op.intCmp]
theorem Yhy{n:Int}(a:o.op= .binOp .eql t x y t')(d:ev env x=some (.int k m))(e:ev env y=some (.int k n)) :
    Ms P N sc o env H (.bool (decide (m=n))):=Da a d e λw=>by
  simp only [binOp,ne_eq,iX,mX,Op.intCmp];rw [show(m == n)=decide (m=n)from rfl];rfl
theorem d_neq{n:Int}(a:o.op= .binOp .neq t x y t')(d:ev env x=some (.int k m))(e:ev env y=some (.int k n)) :
    Ms P N sc o env H (.bool (decide (m≠n))):=Da a d e λw=>by
  simp only [binOp,ne_eq,iX,mX,Op.intCmp,Sem.run_pure];congr 2;by_cases h:m=n<;>simp [h]
theorem d_len {α:Type}   {e:TypeId}  {k:Nat}  {enc:α->Value} {xs:List α} (f:o.op= .call { callee:= .builtin .len,args:=#[x],argTypes:=#[t] })
    (j:ev env x=some v) (d:lk H i=some p) (g:Rd p k enc v xs) (h:P.underlying t=some (.slice e)):Ms P N sc o env H (.int .i64 xs.length):=λa w hs=>by
  obtain⟨l,c,rfl,_⟩:=g w (hs.hold i p d);simp [execOp,f,resolve,hs.ev j,invoke,builtin,Builtin.len_,run_underlying h,goInt]
theorem d_lens    {s:ByteArray} (d:o.op= .call { callee:= .builtin .len,args:=#[x],argTypes:=#[t] })
    (f:ev env x=some (.string s)) (e:P.underlying t=some .string):Ms P N sc o env H (.int .i64 s.size):=λa w hs=>by
  simp [execOp,d,resolve,hs.ev f,invoke,builtin,Builtin.len_,run_underlying e,goInt]
theorem Yn (ii:Nat)(i:Nat) {α:Type}   {e:TypeId}  {k:Nat}    {enc:α->Value} {xs:List α} (n:o.op= .indexAddr t x y)
    (s:ev env x=some v) (u:ev env y=some (.int kd m)) (l:lk H ii=some p) (q:Rd p k enc v xs) (r:P.underlying t=some (.slice e)) (h:∀w,(sizeOf e).run P w= .ok k w)
      (f:m=(i:Int):=by omega) (d:i<xs.length:=by omega):Ms P N sc o env H (.pointer (some (ead v i k))):=λa w hs=>by
  obtain⟨B,c,rfl,D,F,j⟩:=q w (hs.hold ii p l);rcases j with rfl|⟨g,z,rfl,j⟩
  . simp at d
  . subst f;simp [execOp,n,hs.ev s,hs.ev u,Instr.indexAt,asIntOf,run_underlying r,h,d,ead]
theorem Og (ii:Nat) {α:Type}     {k:Nat}  {enc:α->Value} {xs:List α} (e:α) (r:o.op= .load t x)
    (z:ev env x=some (.pointer (some (ead v i k)))) (l:lk H ii=some p) (s:Rd p k enc v xs) (n:Enc P t k enc)
     (d:i<xs.length:=by omega):Ms P N sc o env H (enc (xs.getD i e)):=λa w hs=>by
  obtain⟨B,c,rfl,D,F,f⟩:=s w (hs.hold ii p l);rcases f with rfl|⟨g,h,rfl,f⟩
  . simp at d
  . have hi:xs[i]? = some (xs.getD i e):=by simp [List.getD,aM d]
    have:=n.load (xs.getD i e) w (ead (.slice (some ⟨g,h,none⟩) xs.length c) i k) (λj u q=>by have:=f i _ hi j u q;simp only [ead,Px];exact this)
    simp [execOp,r,hs.ev z,Instr.loadAt,Instr.sureAddr,this]
theorem Yhw    {s:ByteArray}    (j:o.op= .index t x y)
    (n:ev env x=some (.string s)) (q:ev env y=some (.int kd m)) (l:P.underlying t=some .string)
    (e:m=(i:Int)) (d:i<s.size:=by omega):Ms P N sc o env H (.int .u8 ((s.data.toList.getD i 0).toNat:Int)):=λa w hs=>by
  subst e;have f:s[i]? = some s[i]:=getElem?_pos s i d;have g:s.data.toList.getD i 0=s[i]:=by
    have h:i<s.data.toList.length:=by simpa using d
    simp only [List.getD,aM h,fC];rfl
  rw [g];simp [execOp,j,hs.ev n,hs.ev q,Instr.index,asIntOf,run_underlying l,f]
theorem Yhx    {f:Nat} {g:Array Field} {e:Field} {k:Nat} {d q r:Nat} (l:o.op= .fieldAddr t x f)
    (z:ev env x=some (.pointer (some ⟨b,d,none⟩))) (u:P.underlying t=some (.struct g)) (h:g[f]? = some e) (j:∀w,(sizeOf e.type).run P w= .ok (k+1) w) (n:e.offset=q) (s:d+q=r) :
    Ms P N sc o env H (.pointer (some ⟨b,r,none⟩)):=λa w hs=>by
  subst s;subst n;simp [execOp,l,hs.ev z,Instr.fieldAt,run_underlying u,h,Instr.sureAddr,fieldPlace,j,Px]
theorem Sat.boxc{a:Act}(hs:Sat N sc env H a w)(d:lk H i=some (box b t cs))(j:Nat):w.cell? ⟨b,j,none⟩=cs[j]?:=by have h:w.heap[b]? = some (.cells cs t (0,0)):=hs.hold i _ d;simp [World.cell?,h]
theorem Zlo (i:Nat)    {j:Nat}   (e:o.op= .load t x)
    (l:ev env x=some (.pointer (some ⟨b,j,none⟩))) (d:lk H i=some (box b tb cs)) (f:∀w,(isAgg t).run P w= .ok false w) (g:cs[j]? = some v):Ms P N sc o env H v:=λa w hs=>by
  have h:=hs.boxc d j;rw [g]at h;simp [execOp,e,hs.ev l,Instr.loadAt,Instr.sureAddr,loadVar,f,load,Sem.run,h]
theorem Zzs (vs:List Value)    {j k:Nat}   (h:o.op= .load t x)
    (s:ev env x=some (.pointer (some ⟨b,j,none⟩))) (e:lk H i=some (box b tb cs)) (l:∀w,(isAgg t).run P w= .ok true w) (f:∀w,(sizeOf t).run P w= .ok k w)
    (g:vs.length=k) (r:∀n u,vs[n]? = some u->cs[j+n]? = some u):Ms P N sc o env H (.agg vs.toArray):=λa w hs=>by
  have d:=run_loadCells_list (P:=P) w ⟨b,j,none⟩ vs (λn u q=>by rw [Px,hs.boxc e];exact r n u q);rw [g]at d;simp [execOp,h,hs.ev s,Instr.loadAt,Instr.sureAddr,loadVar,l,f,d]
end Go.Sky
namespace Go.Sky
open Go.RowKit Below
variable{a:Act}{w w' w0:World}{M0:Nat->Prop}{o:Oper}{t:TypeId}{d i k:Nat}{cs:Array Value}{x y:Operand}{v:Value}{p:Pc}{parts:Array (Nat×Operand)}
variable {P:Program} {N:Nat} {sc:Nat->Prop} {env env':Qi} {H H':Hp} {Q Q':Exit->Act->World->Prop} {M:Nat->Prop}
def Chg.alloc(M:Nat->Prop)(w:World)(o:Obj):Chg M w (w.alloc o):=
 ⟨rfl,rfl,rfl,O8,λk b _=>heap_alloc_old w o k b⟩
def Sat.chg(h:Sat N sc env H a w)(f:∀fp:Nat->Prop,(∀b,fp b->b<w.heap.size)->Chg (λb=>¬fp b) w w'):Sat N sc env H a w':=
 ⟨h.size,h.defers,h.env,λi c hi=>c.stable w w' (h.hold i c hi) (f _ λb e=>c.lt w b (h.hold i c hi) e),h.sep,h.scope⟩
def Sat.chg0(h:Sat N sc env H a w)(b:Chg (λ_=>False) w w'):Sat N sc env H a w':=
 h.chg λf c=>⟨b.os,b.tape,b.output,b.size,λk e g=>b.block k e (λh=>h)⟩
theorem Sat.add   (h:Sat N sc env H a w) (i:Nat) (p:Pc) (F:p.holds w) (n:∀j g,j≠i->lk H j=some g->(p.own=true\/g.own=true)->∀b,p.fp b->g.fp b->False)
  (B:∀b,p.fp b->sc b):Sat N sc env ((i,p)::H) a w:=by
 refine⟨h.size,h.defers,h.env,λj g c=>?_,λj D g u l c e f b r q=>?_,λj g z c b r=>?_⟩
 .by_cases m:i=j
  .subst m;rw [Zm]at c;cases c;exact F
  .rw [Zh m]at c;exact h.hold j g c
 .by_cases m:i=j
  .subst m;rw [Zm]at c;cases c;rw [Zh l]at e;exact n D u (jG l) e (.inl f) b r q
  .rw [Zh m]at c;by_cases s:i=D
   .subst s;rw [Zm]at e;cases e;exact n j g l c (.inr f) b q r
   .rw [Zh s]at e;exact h.sep j D g u l c e f b r q
 .by_cases m:i=j
  .subst m;rw [Zm]at c;cases c;exact B b r
  .rw [Zh m]at c;exact h.scope j g z c b r
def Wide(sc:Nat->Prop)(H:Hp):Prop:=∃w0 M,lk H 0=some (Zt w0 M)/\∀b,w0.heap.size<=b->sc b
theorem Sat.new   (h:Sat N sc env H a w)   (l:lk H 0=some (Zt w0 M0)) (s:∀b,w0.heap.size<=b->sc b) (i:Nat) (p:Pc) (o:Obj)
  (r:p.holds (w.alloc o)) (c:∀b,p.fp b->b=w.heap.size):Sat N sc env ((i,p)::H) a (w.alloc o):=by
 have m:=h.chg0 (Chg.alloc _ w o);have q:w0.heap.size<=w.heap.size:=(h.hold 0 _ l).size;refine m.add i p r (λj g _ n _ b e f=>?_) (λb e=>s b (by rw [c b e];exact q));have:=g.lt w b (h.hold j g n) f;rw [c b e]at this;omega
theorem Zil (i:Nat)    {z:Value}    (l:o.op= .alloc t) (j:o.dst=some d) 
  (q:∀w,(zeroValue t).run P w= .ok z w) (h:z.cells=cs) (c:lk H 0=some (Zt w0 M0)) (n:∀b,w0.heap.size<=b->sc b) (f:Nat.blt d N=true:=by rfl) :
  T P N sc M o env H (G:=Nat) (λ_=>True) (λb=>(d,.pointer (some ⟨b,0,none⟩))::env) (λb=>(i,box b t cs)::H):=λa w hs K Q e=>by
 subst h;have m:(execOp a.eval o).run P w= .ok (.value (.pointer (some ⟨w.heap.size,0,none⟩))) (w.alloc (.cells z.cells t)):=by simp [execOp,l,Instr.alloc,q,newVar,newRow]
 unfold Oper.wp;rw [m];show K (a.put o.dst _) _;rw [j];exact e w.heap.size _ _ aA ((hs.new c n i (box w.heap.size t z.cells) (.cells z.cells t) (heap_alloc_new w _) (λb g=>g)).put d _ f) (Chg.alloc _ _ _)
theorem t_box         (l:o.op= .box t x) (j:o.dst=some d) (f:Nat.blt d N=true)
  (q:ev env x=some v) (h:v.cells=cs) (c:lk H 0=some (Zt w0 M0)) (n:∀b,w0.heap.size<=b->sc b) :
  T P N sc M o env H (G:=Nat) (λ_=>True) (λb=>(d,.pointer (some ⟨b,0,none⟩))::env) (λb=>(i,box b t cs)::H):=λa w hs K Q e=>by
 subst h;have m:(execOp a.eval o).run P w= .ok (.value (.pointer (some ⟨w.heap.size,0,none⟩))) (w.alloc (.cells v.cells t)):=by simp [execOp,l,Instr.box,hs.ev q,newVar,newRow]
 unfold Oper.wp;rw [m];show K (a.put o.dst _) _;rw [j];exact e w.heap.size _ _ aA ((hs.new c n i (box w.heap.size t v.cells) (.cells v.cells t) (heap_alloc_new w _) (λb g=>g)).put d _ f) (Chg.alloc _ _ _)
def One(N:Nat)(sc:Nat->Prop)(env:Qi)(H:Hp)(v:Value):Prop:=∀a w,Sat N sc env H a w->v.oneCell'=true
def Zl(h:v.oneCell'=true):One N sc env H v:=λ_ _ _=>h
theorem Om (i:Nat){α:Type}{enc:α->Value}{xs:List α}(b:lk H i=some p)(e:Rd p k enc v xs):One N sc env H v:=λa w hs=>by obtain⟨f,c,rfl,_⟩:=e w (hs.hold i p b);rfl
theorem Zo(h:v.oneCell'=true):v.cells=#[v]:=by cases v<;>simp_all [Value.cells,Value.oneCell']
def Hm{g:Nat}(b:M g):Chg M w (w.setRow g cs):=
 ⟨rfl,rfl,rfl,O8,λk _ c=>setRow_other w g k cs (λe=>c (e▸b))⟩
theorem Sat.upd   (h:Sat N sc env H a w)  {q:Pc} (hi:lk H i=some p) (f:p.own=true) (G:i≠0)
  (B:Chg p.fp w w') (Z:q.holds w') (z:∀b,q.fp b->p.fp b\/w.heap.size<=b)   (S:lk H 0=some (Zt w0 M0)) (hw:∀b,w0.heap.size<=b->sc b) :
  Sat N sc env ((i,q)::H) a w':=by
 refine⟨h.size,h.defers,h.env,λj g c=>?_,λj F g u s c e W b m n=>?_,λj g I c b m=>?_⟩
 .by_cases r:i=j
  .subst r;rw [Zm]at c;cases c;exact Z
  .rw [Zh r]at c;exact g.stable w w' (h.hold j g c) ⟨B.os,B.tape,B.output,B.size,λb m V=>B.block b m (λY=>V (λR=>h.sep i j p g r hi c f b Y R))⟩
 .by_cases r:i=j
  .subst r;rw [Zm]at c;cases c;rw [Zh s]at e;rcases z b m with l|l
   .exact h.sep i F p u s hi e f b l n
   .have:=u.lt w b (h.hold F u e) n;omega
  .rw [Zh r]at c;by_cases D:i=F
   .subst D;rw [Zm]at e;cases e;rcases z b n with l|l
    .exact h.sep i j p g (jG s) hi c f b l m
    .have:=g.lt w b (h.hold j g c) m;omega
   .rw [Zh D]at e;exact h.sep j F g u s c e W b m n
 .by_cases r:i=j
  .subst r;rw [Zm]at c;cases c;rcases z b m with l|l
   .exact h.scope i p G hi b l
   .exact hw b (aB (h.hold 0 _ S).size l)
  .rw [Zh r]at c;exact h.scope j g I c b m
def Gr(cs:Array Value)(j:Nat)(vs:List Value):Array Value:=(cs.toList.take j ++ vs ++ cs.toList.drop (j+vs.length)).toArray
theorem Zhu (vs:List Value)   {c:TypeId} {b j:Nat} {cs':Array Value}     (I:o.op= .store t x y) (F:o.dst=none)
  (Y:ev env x=some (.pointer (some ⟨b,j,none⟩))) (Z:ev env y=some v) (n:lk H i=some (box b c cs)) (l:i≠0) (V:v.cells=vs.toArray) (m:∀w,(sizeOf t).run P w= .ok k w) (f:vs.length=k)
  (e:j+vs.length<=cs.size) (z:∀u∈vs,One N sc env H u) (g:Gr cs j vs=cs')
  (s:lk H 0=some (Zt w0 M0)) (W:∀b,w0.heap.size<=b->sc b) (D:M b) :
  T P N sc M o env H (G:=Unit) (λ_=>True) (λ_=>env) (λ_=>(i,box b c cs')::H):=λa w hs K Q B=>by
 subst g;have r:w.heap[b]? = some (.cells cs c (0,0)):=hs.hold i _ n;have h:=run_storeCells_at P b j c vs 0 cs w r (by simpa using e) (λu S=>z u S a w hs);simp only [fR]at h;have R:(execOp a.eval o).run P w= .ok .skip (w.setRow b (Gr cs j vs)):=by simp [execOp,I,hs.ev Y,hs.ev Z,Instr.storeAt,Instr.sureAddr,storeVar,V,m,f,h,Gr]
 unfold Oper.wp;rw [R];show K (a.put o.dst _) _;rw [F];exact B () _ _ aA ((hs.upd n rfl l (q:=box b c (Gr cs j vs)) (Hm (M:=λk=>k=b) rfl) (setRow_heap w b cs _ c _ r) (λk m=> .inl m) s W).put_none undef) (Hm D)
theorem t_bs {α:Type}  {e:TypeId} {n:Nat}      {enc:α->Value} (xs:List α)
  (B:o.op= .buildSlice t n parts) (s:o.dst=some d) (r:Nat.blt d N=true)
  (D:∀a w,Sat N sc env H a w->(Instr.buildSlice t n (parts.map λ(i,x)=>(i,a.eval x))).run P w= .ok (.slice (some ⟨w.heap.size,0,none⟩) n n) (w.alloc (.cells cs e)))
  (f:cs.toList=cellsOf enc xs) (h:xs.length=n) (u:∀x,(enc x).cells.size=k) (z:n<=maxLen)
  (m:lk H 0=some (Zt w0 M0)) (F:∀b,w0.heap.size<=b->sc b) :
  T P N sc M o env H (G:=Nat) (λ_=>True) (λb=>(d,.slice (some ⟨b,0,none⟩) n n)::env) (λb=>(i,On k e enc (.slice (some ⟨b,0,none⟩) n n) xs)::H):=λa w hs K Q q=>by
 have j:(execOp a.eval o).run P w= .ok (.value (.slice (some ⟨w.heap.size,0,none⟩) n n)) (w.alloc (.cells cs e)):=by simp only [execOp,B];rw [show(do pure (.value (<-Instr.buildSlice t n (parts.map λ(i,x)=>(i,a.eval x)))):Sem Next)=(Instr.buildSlice t n (parts.map λ(i,x)=>(i,a.eval x)) >>= λv=>pure (.value v))from rfl];rw [Sem.run_bind,D a w hs];rfl
 have c:=Xe u xs;have g:cs.size=n*k:=by rw [<-eA,f,c,h]
 unfold Oper.wp;rw [j];show K (a.put o.dst _) _;rw [s];refine q w.heap.size _ _ aA ((hs.new m F i (On k e enc (.slice (some ⟨w.heap.size,0,none⟩) n n) xs) (.cells cs e) ?_ (λb l=>by simp [On,Value.ownBlock]at l;exact l.symm)).put d _ r) (Chg.alloc _ _ _);refine⟨by rw [c],.inr ⟨w.heap.size,n,cs,by rw [h],bI _,heap_alloc_new w _,O,z,g,?_⟩⟩;rw [h,<-f,cC (by rw [eA,g];exact aI _)]
theorem Zhb{α:Type}{enc:α->Value}(f:∀x,(enc x).cells.size=k)(l:0<k)(b:α)(n:Nat):(madeCells (enc b).cells (n*k)).toList=cellsOf enc (List.replicate n b):=by
 apply iW;intro j;by_cases h:j<n*k
 .have m:j/k<n:=jC (by rw [aR];exact h);have e:j%k<k:=bO _ l;have c:(List.replicate n b)[j/k]? = some b:=by simp [m]
  have q:(enc b).cells.toList[j%k]? = some ((enc b).cells[j%k]!):=by
   have:j%k<(enc b).cells.size:=by rw [f];exact e
   rw [getElem!_pos (enc b).cells (j%k) this];simp [this]
  have g:=Ga f (List.replicate n b) (j/k) b c (j%k) _ q;rw [show j/k*k+j%k=j from by rw [aR];exact cP j k]at g;rw [g];simp [madeCells,h,f]
 .rw [bQ (by rw [eA,size_madeCells];omega),bQ (by rw [Xe f];simp;omega)]
theorem t_mk {α:Type}  {e:TypeId}   {n c:Nat} {m:Int}   {enc:α->Value} {ti:TypeInfo} (f:α)
  (R:o.op= .makeSlice t x y) (F:o.dst=some d) (D:Nat.blt d N=true) (Y:ev env x=some (.int .i64 m)) (Z:ev env y=some (.int .i64 m)) (I:m=(n:Int))
  (V:P.underlying t=some (.slice e)) (hi:P.info? e=some ti) (hz:ti.zero=some (enc f)) (s:∀x,(enc x).cells.size=k) (h:0<k) (r:ti.size=k) (q:ti.bytes=c)
  (l:c*n<=281474976710656) (g:0<c)
  (z:lk H 0=some (Zt w0 M0)) (W:∀b,w0.heap.size<=b->sc b) :
  T P N sc M o env H (G:=Nat) (λ_=>True) (λb=>(d,.slice (some ⟨b,0,none⟩) n n)::env) (λb=>(i,On k e enc (.slice (some ⟨b,0,none⟩) n n) (List.replicate n f))::H):=λa w hs K Q B=>by
 subst I;subst r;subst q;have hn:n<=281474976710656:=aB (mF n g) l;have j:=run_make (P:=P) w t e ti (enc f) V hi hz .i64 .i64 n n O (fE _) (by rw [<-fU];omega) O;simp only [Int.toNat_natCast]at j;have S:(execOp a.eval o).run P w= .ok (.value (.slice (some ⟨w.heap.size,0,none⟩) n n)) (w.alloc (.cells (madeCells (enc f).cells (n*ti.size)) e)):=by simp [execOp,R,hs.ev Y,hs.ev Z,j]
 unfold Oper.wp;rw [S];show K (a.put o.dst _) _;rw [F];refine B w.heap.size _ _ aA ((hs.new z W i (On ti.size e enc (.slice (some ⟨w.heap.size,0,none⟩) n n) (List.replicate n f)) _ ?_ (λb l=>by simp [On,Value.ownBlock]at l;exact l.symm)).put d _ D) (Chg.alloc _ _ _);have u:=Xe s (List.replicate n f);refine⟨by rw [u],.inr ⟨w.heap.size,n,_,O8,bI _,heap_alloc_new w _,O8,by simp [maxLen];omega,by rw [size_madeCells],?_⟩⟩;rw [Zhb s h,cC (by rw [u];exact aI _)]
theorem Zc8{α:Type}{enc:α->Value}{k:Nat}(b:∀x,(enc x).cells.size=k):∀(xs:List α) (i:Nat) (x:α),i<xs.length->
  cellsOf enc (xs.set i x)=(cellsOf enc xs).take (i*k) ++ (enc x).cells.toList ++ (cellsOf enc xs).drop (i*k+k)
 | [],_,_,h=>by simp at h
 | y::r,0,x,_=>by simp only [nL,cellsOf,iA,iO,eX,iS,bR];rw [gC (by simp [b])];rw [iP (by simp [b])];simp
 | y::r,i+1,x,h=>by
  have c:=Zc8 b r i x (by simpa using h);simp only [cellsOf,List.set_cons_succ,iA]at c ⊢;rw [c];have e:(enc y).cells.toList.length=k:=by simp [b]
  rw [show(i+1)*k=(enc y).cells.toList.length+i*k from by rw [e,bL];omega];rw [kY,fY,List.drop_length_add_append];simp
theorem Lo (i:Nat) {α:Type}   {e:TypeId} {j:Nat} {u:Value} {enc:α->Value} {xs:List α} {z:α}   (ho:o.op= .store t x y) (hd:o.dst=none)
  (hx:ev env x=some (.pointer (some (ead v j k)))) (hy:ev env y=some u) (hu:u=enc z) (Y:lk H i=some (On k e enc v xs)) (n:Enc P t k enc) 
  (h0:lk H 0=some (Zt w0 M0)) (hw:∀b,w0.heap.size<=b->sc b) (V:i≠0:=by decide) (B:j<xs.length:=by omega) :
  T P N sc (λ_=>True) o env H (G:=Unit) (λ_=>True) (λ_=>env) (λ_=>(i,On k e enc v (xs.set j z))::H):=λa w hs K Q hK=>by
 subst hu;have F:w.ownsRow 0 e k v xs.length (cellsOf enc xs):=hs.hold i _ Y;have a0:=n.pos;rcases F.2 with⟨rfl,hn⟩|⟨g,l,h,rfl,hb,Z,D,S,s,r⟩
 .omega
 .have a2:j*k+k<=xs.length*k:=by rw [<-eN];exact aP k B
  have a1:xs.length*k<=l*k:=aP k D;have c:(enc z).cells.toList.length=k:=by simp [n.cells]
  have I:=run_storeCells_at P g (j*k) e (enc z).cells.toList 0 h w Z (by rw [c,s];omega) (n.one z);simp only [fR,c]at I;have hr:(execOp a.eval o).run P w= .ok .skip (w.setRow g (h.toList.take (j*k) ++ (enc z).cells.toList ++ h.toList.drop (j*k+k)).toArray):=by simp [execOp,ho,hs.ev hx,hs.ev hy,Instr.storeAt,Instr.sureAddr,storeVar,n.cells,n.size,ead,Px,I]
  unfold Oper.wp;rw [hr];show K (a.put o.dst _) _;rw [hd];refine hK () _ _ aA ((hs.upd Y rfl V (q:=On k e enc (.slice (some ⟨g,0,none⟩) xs.length l) (xs.set j z)) (Hm (M:=λk=>(Value.slice (some ⟨g,0,none⟩) xs.length l).ownBlock=some k) rfl) ?_ (λk hk=> .inl hk) h0 hw).put_none undef) (Hm aA);have f:h.toList.length=l*k:=by rw [eA,s]
  refine⟨by rw [Xe n.cells],.inr ⟨g,l,_,O8,hb,setRow_heap w g h _ e _ Z,by simpa using D,S,?_,?_⟩⟩
  .simp only [iY,bE,aS,eH,c,f];omega
  .rw [Zc8 n.cells xs j z B,<-r];simp only [bX];apply iW;intro q;have m:(h.toList.take (j*k)).length=j*k:=by rw [aS,f];omega
   by_cases R:q<j*k
   .rw [cS,aF O];rw [dW,cW (by rw [m];exact R),dW,cW (by rw [aS,aS,f];omega)];rw [cS,cS,cS,aF R,aF R,aF O]
   .by_cases h2:q<j*k+k
    .rw [cS,aF O];rw [dW,dP (by rw [m];omega),m,cW (by rw [c];omega)];rw [dW,dP (by rw [aS,aS,f];omega)];rw [cW (by rw [c,aS,aS,f];omega)];congr 1;rw [aS,aS,f];omega
    .by_cases W:q<xs.length*k
     .rw [cS,aF W];rw [dP (by rw [bE,m,c];omega),bE,m,c,gO];rw [dP (by rw [bE,aS,aS,f,c];omega),gO,cS];rw [bE,aS,aS,f,c,aF O];congr 1;omega
     .rw [cS,aD W];rw [bQ];simp only [bE,aS,eH,c,f];omega
end Go.Sky
namespace Go.Sky
open Go.RowKit Below
variable{w w0:World}{o:Oper}{t tb:TypeId}{k d b:Nat}{v v1 v2:Value}{p:Pc}{M0:Nat->Prop}{r pre:List Pc}{f:FuncId}{xs:List Operand}{ats:Array TypeId}{vs:List Value}{a:Act}{fn:Func}{args:Array Value}
variable {P:Program} {N:Nat} {sc:Nat->Prop} {env env':Qi} {H H':Hp} {Q Q':Exit->Act->World->Prop} {M:Nat->Prop}
theorem Zec  (t ty e:TypeId) (ti:TypeInfo) (z:Value) (l a0:Nat) (ht:P.underlying t=some (.slice e)) (hi:P.info? e=some ti) (hz:ti.zero=some z)
    (Y:ti.size=l) (a6:ti.bytes=a0) (a9:z.cells.size=l) (b1:0<l)
    (v:Value) (n:Nat) (xs:List Value) (i:w.ownsRow 0 e l v n xs)
    (a:Addr) (m c:Nat) (h:List Value) (V:h.length=m*l) (s:∀j u,h[j]? = some u->w.cell? (a.add j)=some u) (h1:∀u∈h,u.oneCell'=true)
    (a1:n+m<=maxLen) (y:(n+m)*a0<=140737488355328) :
    ∃v' w',(Builtin.append_ #[t,t] ty #[v,.slice (some a) m c]).run P w= .ok v' w'/\w'.ownsRow 0 e l v' (n+m) (xs ++ h)/\w.grownBy w' v.ownBlock/\
      (∀b,v'.ownBlock=some b->v.ownBlock=some b\/w.heap.size<=b):=by
  subst Y;subst a6;have a4:n+m<=9223372036854775807:=by simp only [maxLen]at a1;omega
  have B:(xs ++ h).length=(n+m)*ti.size:=by rw [bE,i.1,V,bL]
  have G:∀(q:Nat),q<n+m->∀(a3:Option Nat),
      (w.drew.alloc (.cells (xs.toArray ++ h.toArray ++ Builtin.zeroCells z.cells (grownCap w (n+m) q e-(n+m))) e)).ownsRow 0 e ti.size
        (.slice (some ⟨w.heap.size,0,none⟩) (n+m) (grownCap w (n+m) q e)) (n+m) (xs ++ h)/\
      w.grownBy (w.drew.alloc (.cells (xs.toArray ++ h.toArray ++ Builtin.zeroCells z.cells (grownCap w (n+m) q e-(n+m))) e)) a3:=by
    intro q ho a3;have a8:=grownCap_ge w (n+m) q e;have S:grownCap w (n+m) q e<=maxLen:=grownCap_le_maxLen w (n+m) q e a1;refine⟨⟨B,.inr ⟨w.heap.size,_,_,rfl,bI _,heap_alloc_new w.drew _,a8,S,?_,?_⟩⟩,⟨rfl,rfl,rfl,O8,λk hk _=>heap_alloc_old w.drew _ k hk⟩⟩
    . simp only [Array.size_append,iY,size_zeroCells,a9,i.1,V,<-bL];congr 1;omega
    . simp only [Array.toList_append,dW];rw [<-dW,<-B];exact mY
  rcases i.2 with⟨rfl,rfl⟩|⟨g,D,R,rfl,a5,hg,b0,S,a7,Z⟩
  . have hx:xs=[]:=aG (by simpa using i.1);subst hx;by_cases hm:m=0
    . subst hm;have hn:h=[]:=aG (by simpa using V);subst hn;refine⟨.slice none 0 0,w,?_,World.ownsRow_nil w 0 e ti.size,⟨rfl,rfl,rfl,aI _,λ_ _ _=>rfl⟩,λb I=>by simp [Value.ownBlock]at I⟩;simp [Builtin.append_,run_underlying ht,sizeOf,typeInfo,hi,Builtin.lenOf,Builtin.firstCells,loadCells,loadCellsFrom]
    . have hr:=run_append_nil (P:=P) w t ty e ti z ht hi hz a m c h V s O O (by have I:=y;simp only [bR]at I;omega);have F:=G 0 O (Value.ownBlock (.slice none 0 0));simp only [bR,iS,Array.empty_append]at F ⊢;refine⟨_,_,hr,F.1,F.2,λb I=> .inr ?_⟩;simp [Value.ownBlock]at I;omega
  . by_cases x:n+m<=D
    . have a2:n*ti.size+h.length<=R.size:=by rw [V,a7,<-bL];exact aP _ x
      have hr:=run_append_room (P:=P) w t ty e ti ht hi g n D R hg a m c h V s h1 x a2;refine⟨_,_,hr,⟨B,.inr ⟨g,D,_,rfl,a5,setRow_heap w g R _ e _ hg,x,S,?_,?_⟩⟩,⟨rfl,rfl,rfl,O8,λk _ hk=>setRow_other w g k _ (λe=>hk (by simp [Value.ownBlock,e]))⟩,λb I=> .inl (by simpa [Value.ownBlock]using I)⟩
      . simp only [iY,bE,aS,eH,eA];omega
      . rw [Z,<-B];exact mY
    . have W:∀j u,xs[j]? = some u->w.cell? ((⟨g,0,none⟩:Addr).add j)=some u:=i.cells (g:=g) rfl;have hr:=run_append_grow (P:=P) w t ty e ti z ht hi hz ⟨g,0,none⟩ n D xs i.1 W a m c h V s O O (growslice_fits O y);have F:=G D O (Value.ownBlock (.slice (some ⟨g,0,none⟩) n D));refine⟨_,_,hr,F.1,F.2,λb I=> .inr ?_⟩;simp [Value.ownBlock]at I;omega
theorem Ky{α:Type}(enc:α->Value)(xs ys:List α):cellsOf enc (xs ++ ys)=cellsOf enc xs ++ cellsOf enc ys:=by simp [cellsOf]
theorem t_app {α:Type}  {x y:Operand} {e:TypeId} {i i2 j l:Nat} {u:Value} {enc:α->Value} {xs ys:List α}  {ti:TypeInfo} {z:Value}  
    (ho:o.op= .call { callee:= .builtin .append,args:=#[x,y],argTypes:=#[t,t] }) (hd:o.dst=some d) (hN:Nat.blt d N=true)
    (hx:ev env x=some v) (hy:ev env y=some u) (hH:lk H i=some (On k e enc v xs)) (a3:i≠0) (hj:lk H j=some p) (hr:Rd p k enc u ys) (b0:ys≠[])
    (ht:P.underlying t=some (.slice e)) (hi:P.info? e=some ti) (hz:ti.zero=some z) (s:Enc P e k enc) (a4:ti.size=k) (a1:ti.bytes=l) (b1:z.cells.size=k)
    (n:(xs.length+ys.length)*l<=140737488355328) (B:0<l)
    (h0:lk H 0=some (Zt w0 M0)) (hw:∀b,w0.heap.size<=b->sc b) :
    T P N sc (λ_=>True) o env H (G:=Value) (λ_=>True) (λv'=>(d,v')::env) (λv'=>(i,On k e enc v' (xs ++ ys))::H):=λa w hs K Q hK=>by
  have S:w.ownsRow 0 e k v xs.length (cellsOf enc xs):=hs.hold i _ hH;obtain⟨ad,c,rfl,h1,h2,Z⟩:=hr w (hs.hold j p hj);rcases Z with rfl|⟨g,W,rfl,Z⟩
  . exact absurd rfl b0
  have a9:∀q u,(cellsOf enc ys)[q]? = some u->w.cell? ((⟨g,W,none⟩:Addr).add q)=some u:=λq u hq=>by
    have a5:q<ys.length*k:=by rw [<-Xe s.cells ys];exact(cI.1 hq).1
    have I:=s.pos;have a2:q/k<ys.length:=jC (by rw [aR];exact a5);have m:ys[q/k]? = some ys[q/k]:=aM a2;have a7:q%k<(enc ys[q/k]).cells.toList.length:=by rw [eA,s.cells];exact bO _ I
    have Y:=aM a7;have h4:=Ga s.cells ys _ _ m _ _ Y;have h5:=Z _ _ m _ _ Y;have R:q/k*k+q%k=q:=by rw [aR];exact cP q k
    rw [R]at h4;rw [fY,R]at h5;rw [hq]at h4;cases h4;rw [Px];exact h5
  have F:∀u∈cellsOf enc ys,u.oneCell'=true:=λu Y=>by obtain⟨y,_,hy⟩:=jH.1 Y;exact s.one y u hy
  have b2:xs.length+ys.length<=140737488355328:=aB (eP _ B) n;obtain⟨v',w',V,a6,h,a0⟩:=Zec (P:=P) t o.type e ti z k l ht hi hz a4 a1 b1 s.pos v xs.length (cellsOf enc xs) S ⟨g,W,none⟩ ys.length c (cellsOf enc ys)
    (Xe s.cells ys) a9 F (by simp only [maxLen];omega) n
  have a8:(execOp a.eval o).run P w= .ok (.value v') w':=by simp only [execOp,ho,resolve,invoke,builtin,Sem.run_bind,Sem.run_pure,Result.andThen_ok,gN,cQ,iQ,hs.ev hx,hs.ev hy,V]
  unfold Oper.wp;rw [a8];show K (a.put o.dst _) _;rw [hd];have D:Chg (λb=>v.ownBlock=some b) w w':=⟨h.os,h.tape,h.output,h.size,λb n hn=>h.block b n (λe=>hn e.symm)⟩;refine hK v' _ _ aA ((hs.upd hH rfl a3 (q:=On k e enc v' (xs ++ ys)) D ?_ (λb n=>a0 b n) h0 hw).put d _ hN) ⟨h.os,h.tape,h.output,h.size,λb n hn=>absurd aA hn⟩;show w'.ownsRow 0 e k v' (xs ++ ys).length (cellsOf enc (xs ++ ys));rw [Ky,bE];exact a6
def Cal(P:Program)(f:FuncId)(args:Array Value)(pre:List Pc)(al:Bool){G:Type}(φ:G->Prop)(val:G->Value)(c:G->List Pc):Prop:=
  ∀w,(∀p∈pre,p.holds w)->Calls P f args w λe h=>∃g,e= .returned (val g)/\φ g/\Below w.heap.size w h/\
    ∀p∈c g,p.holds h/\p.own=false/\∀b,p.fp b->w.heap.size<=b\/(al=true/\∃q∈pre,q.fp b)
@[reducible] def adds:Nat->List Pc->Hp->Hp
  | _,[],H=>H
  | n,p::r,H=>(n,p)::adds (n+1) r H
def PreOk(H:Hp)(al:Bool):List Pc->Prop
  | []=>True
  | p::r=>(∃i c,i≠0/\lk H i=some c/\(∀w,c.holds w->p.holds w)/\(∀b,p.fp b->c.fp b)/\(al=true->c.own=false))/\PreOk H al r
theorem PreOk.mem{al:Bool} : ∀{pre:List Pc},PreOk H al pre->∀p∈pre,∃i c,i≠0/\lk H i=some c/\(∀w,c.holds w->p.holds w)/\(∀b,p.fp b->c.fp b)/\(al=true->c.own=false)
  | p::r,h,q,e=>by
    cases e with
    | head=>exact h.1
    | tail _ e=>exact PreOk.mem h.2 q e
def Zs{al:Bool} : PreOk H al []:=aA
theorem Yd{al:Bool}(i:Nat)(hi:lk H i=some p)(c:Nat.beq i 0=false)(g:p.own=false)(h:PreOk H al r):PreOk H al (p::r):=
  ⟨⟨i,p,λe=>by subst e;simp at c,hi,λ_ h=>h,λ_ h=>h,λ_=>g⟩,h⟩
theorem Yen{α:Type}{e:TypeId}{enc:α->Value}{xs:List α}(i:Nat)(hi:lk H i=some (On k e enc v xs))(c:Nat.beq i 0=false)(j:Enc P t k enc)(h:PreOk H false r):PreOk H false (Yt k enc v xs::r):=
  ⟨⟨i,_,λe=>by subst e;simp at c,hi,λw h=>⟨Bo j.cells h,λb g=>(h.lt b g.2).2⟩,λ_ h=>h.2,λh=>by cases h⟩,h⟩
theorem Sat.adds{a:Act}{w:World}{w1:World} : ∀(l:List Pc) (n:Nat) {H:Hp},Sat N sc env H a w->(∀p∈l,p.holds w/\p.own=false/\(∀b,p.fp b->sc b)/\
    ∀j c,lk H j=some c->c.own=true->∀b,p.fp b->c.fp b->False)->Sat N sc env (adds n l H) a w
  | [],_,_,h,_=>h
  | p::r,n,H,h,hl=>by
    have u:=Sat.adds (w1:=w1) r (n+1) h (λq e=>hl q (bM _ e));obtain⟨z,B,D,F⟩:=hl p (cE ..);have x:∀(l:List Pc) (m:Nat) (H:Hp) (j:Nat) (c:Pc),(∀q∈l,q.own=false)->lk (Sky.adds m l H) j=some c->c.own=true->lk H j=some c:=by
      intro l
      induction l with
      | nil=>intro m H j c _ h _;exact h
      | cons q l u=>
        intro m H j c e h i;by_cases y:m=j
        . subst y;simp only [Sky.adds]at h;rw [Zm]at h;cases h;rw [e q (cE ..)]at i;cases i
        . simp only [Sky.adds]at h;rw [Zh y]at h;exact u (m+1) H j c (λq s=>e q (bM _ s)) h i
    refine u.add n p z (λj c _ I Lf b G g=>?_) D;rcases Lf with Lf|Lf
    . rw [B]at Lf;cases Lf
    . exact F j c (x r (n+1) H j c (λq e=>(hl q (bM _ e)).2.1) I Lf) Lf b G g
def evs(e:Qi):List Operand->Option (List Value)
  | []=>some []
  | x::r=>match ev e x,evs e r with
    | some v,some vs=>some (v::vs)
    | _,_=>none
def EvL(e:Qi):List Operand->List Value->Prop
  | [],[]=>True
  | x::r,v::vs=>ev e x=some v/\EvL e r vs
  | _,_=>False
theorem EvL.map{a:Act}{w:World}(h:Sat N sc env H a w):∀{xs:List Operand} {vs:List Value},EvL env xs vs->xs.map a.eval=vs
  | [],[],_=>rfl
  | x::r,v::vs,hh=>by simp only [cQ,h.ev hh.1,EvL.map h hh.2]
  | [],_::_,hh=>hh.elim
  | _::_,[],hh=>hh.elim
theorem Ol (n:Nat)        {al:Bool} {G:Type} {φ:G->Prop} {val:G->Value} {z:G->List Pc}  
    (hc:Cal P f vs.toArray pre al φ val z)
    (ho:o.op= .call { callee:= .value (.func f),args:=xs.toArray,argTypes:=ats }) (hd:o.dst=some d) (hN:Nat.blt d N=true)
    (s:EvL env xs vs) (u:∀args w,(callFunc f args).run P w= .ok (.enter f args) w) (l:PreOk H al pre)
    (h0:lk H 0=some (Zt w0 M0)) (hw:∀b,w0.heap.size<=b->sc b) :
    T P N sc M o env H φ (λg=>(d,val g)::env) (λg=>adds n (z g) H):=λa w hs K Q hK=>by
  have hr:(execOp a.eval o).run P w= .ok (.enter f vs.toArray) w:=by have hm:=s.map hs;simp [execOp,ho,resolve,invoke,Act.eval,Deferred.ofValue,hm,u]
  unfold Oper.wp;rw [hr];refine(hc w (λp hp=>by obtain⟨i,S,_,hi,I,_,_⟩:=l.mem p hp;exact I w (hs.hold i S hi))).mono ?_
  rintro e w' ⟨g,rfl,hg,m,R⟩;show K (a.put o.dst (val g)) w';rw [hd];have a0:Sat N sc env H a w':=hs.chg0 (Chg.of_below m);refine hK g _ _ hg (Sat.put (a0.adds (w1:=w) (z g) n ?_) d _ hN) (Chg.of_below m);intro p hp;obtain⟨h1,h2,h3⟩:=R p hp;refine⟨h1,h2,λb Y=>?_,λj jt V c b Y B=>?_⟩
  . rcases h3 b Y with h|⟨_,q,hq,y⟩
    . exact hw b (aB (hs.hold 0 _ h0).size h)
    . obtain⟨i,S,D,hi,_,x,_⟩:=l.mem q hq;exact hs.scope i S D hi b (x b y)
  . rcases h3 b Y with h|⟨W,q,hq,y⟩
    . have:=jt.lt w b (hs.hold j jt V) B;omega
    . obtain⟨i,S,D,hi,_,x,Z⟩:=l.mem q hq;by_cases F:j=i
      . subst F;rw [hi]at V;cases V;rw [Z W]at c;cases c
      . exact hs.sep j i jt S F V hi c b B (x b y)
def RV(P:Program)(N:Nat)(sc:Nat->Prop)(env:Qi)(H:Hp)(r:ResultVar)(v:Value):Prop:=
  match r with
  | .tmp t=>lk env t=some v
  | .cell c t=>∃e,lk env c=some (.pointer (some e))/\∀a w,Sat N sc env H a w->(loadVar t e).run P w= .ok v w
theorem Gx (i:Nat) {c:Tmp}    (h:lk env c=some (.pointer (some ⟨b,0,none⟩))) (g:lk H i=some (box b tb vs.toArray)) (m:∀w,(isAgg t).run P w= .ok true w) (j:∀w,(sizeOf t).run P w= .ok k w)
    (l:vs.length=k):RV P N sc env H (.cell c t) (.agg vs.toArray):=⟨_,h,λa w hs=>by
  have e:=run_loadCells_list (P:=P) w ⟨b,0,none⟩ vs (λn u q=>by rw [Px,hs.boxc g];simpa using q);rw [l]at e;simp [loadVar,m,j,e]⟩
theorem Kr (i:Nat){c:Tmp}(g:lk env c=some (.pointer (some ⟨b,0,none⟩)))(e:lk H i=some (box b tb #[v]))(j:∀w,(isAgg t).run P w= .ok false w) :
    RV P N sc env H (.cell c t) v:=⟨_,g,λa w hs=>by
  have h:=hs.boxc e 0;simp at h;simp [loadVar,j,load,Sem.run,h]⟩
theorem Fd{r1:ResultVar}(hs:Sat N sc env H a w)(g:fn.results=#[r1])(e:RV P N sc env H r1 v1):(results fn a.tmps).run P w= .ok v1 w:=by
  cases r1 with
  | tmp t=>have:=hs.env t v1 e;rw [bK]at this;simp [results,g,this]
  | cell c t=>obtain⟨j,h,i⟩:=e;have:=hs.env c _ h;rw [bK]at this;simp [results,g,this,asAddr,i a w hs]
theorem Zva{r1 r2:ResultVar}(hs:Sat N sc env H a w)(l:fn.results=#[r1,r2])(h:RV P N sc env H r1 v1)(e:RV P N sc env H r2 v2) :
    (results fn a.tmps).run P w= .ok (.tuple #[v1,v2]) w:=by
  cases r1 with
  | tmp t=>
    have h:=hs.env t v1 h;rw [bK]at h;cases r2 with
    | tmp j=>have e:=hs.env j v2 e;rw [bK]at e;simp [results,l,h,e]
    | cell m j=>obtain⟨s,g,n⟩:=e;have g:=hs.env m _ g;rw [bK]at g;simp [results,l,h,g,asAddr,n a w hs]
  | cell c t=>
    obtain⟨u,i,q⟩:=h;have i:=hs.env c _ i;rw [bK]at i;cases r2 with
    | tmp j=>have e:=hs.env j v2 e;rw [bK]at e;simp [results,l,i,asAddr,q a w hs,e]
    | cell m j=>obtain⟨s,g,n⟩:=e;have g:=hs.env m _ g;rw [bK]at g;simp [results,l,i,asAddr,q a w hs,g,n a w hs]
def Yk4(tmps:Array Value):ResultVar->Sem Value
  | .tmp t=>pure (tmps.getD t undef)
  | .cell c t=>do loadVar t (<-asAddr (tmps.getD c undef))
theorem Zu6{r:ResultVar}(hs:Sat N sc env H a w)(h:RV P N sc env H r v):(Yk4 a.tmps r).run P w= .ok v w:=by
  cases r with
  | tmp t=>have:=hs.env t v h;simp only [Yk4,this];rfl
  | cell c t=>obtain⟨i,e,g⟩:=h;have:=hs.env c _ e;simp only [Yk4,this,asAddr,Sem.run_bind,Sem.run_pure,Result.andThen_ok,g a w hs]
def Zj9(fn:Func)(tmps:Array Value):results fn tmps=(do let vs ←fn.results.mapM (Yk4 tmps);pure (if h:vs.size=1 then vs[0]else .tuple vs)):=rfl
theorem res3{r1 r2 r3:ResultVar}{c:Value}(hs:Sat N sc env H a w)(i:fn.results=#[r1,r2,r3])(e:RV P N sc env H r1 v1)(g:RV P N sc env H r2 v2)(h:RV P N sc env H r3 c) :
    (results fn a.tmps).run P w= .ok (.tuple #[v1,v2,c]) w:=by
  rw [Zj9,i];simp [Zu6 hs e,Zu6 hs g,Zu6 hs h]
def Zah(P:Program)(fn:Func)(w0:World)(pre:List Pc)(al:Bool){G:Type}(φ:G->Prop)(val:G->Value)(c:G->List Pc):Exit->Act->World->Prop:=
  bodyPost P fn λe h => ∃ g, e = .returned (val g) /\ φ g /\ Below w0.heap.size w0 h /\
        ∀p∈c g,p.holds h/\p.own=false/\∀b,p.fp b->w0.heap.size<=b\/(al=true/\∃q∈pre,q.fp b)
theorem Yce   {c:Code}   {al:Bool} {G:Type} {φ:G->Prop} {val:G->Value} {s:G->List Pc} {N:Nat} {env0:Qi} (l:World->Hp)
    (R:P.funcs[f]? = some fn) (g:fn.body=some c) (F:fn.ntmps=N) (m:∀t v,lk env0 t=some v->args[t]? = some v) (S:args.size<=N)
    (e:∀w,∀i p,lk (l w) i=some p->(i=0/\p=Zt w (λ_=>False))\/(i≠0/\p∈pre/\p.own=false))
    (h:∀w0 (sc:Nat->Prop),(∀b,w0.heap.size<=b->sc b)->(∀b,sc b->w0.heap.size<=b\/∃q∈pre,q.fp b)->
      E P N sc c (Zah P fn w0 pre al φ val s) env0 (l w0)) :
    Cal P f args pre al φ val s:=λw W=>by
  refine calls_of_wp R g (h w (λb=>w.heap.size<=b\/∃q∈pre,q.fp b) (λb g=> .inl g) (λb g=>g) _ w ?_);refine⟨by simp [F];omega,rfl,λt v Y=>?_,λi p hi=>?_,λi j p q V hi Z z b g I=>?_,λi p x hi b g=>?_⟩
  . have B:=m t v Y;have y:=(aO.1 B).1;rw [bK,eQ y,B];rfl
  . rcases e w i p hi with⟨_,rfl⟩|⟨_,u,_⟩
    . exact Chg.refl _ w
    . exact W p u
  . rcases e w i p hi with⟨_,rfl⟩|⟨_,u,n⟩
    . cases z
    . rw [n]at z;cases z
  . rcases e w i p hi with⟨D,_⟩|⟨_,u,_⟩
    . exact absurd D x
    . exact .inr ⟨p,u,g⟩
def Iy(h:(Zt w0 (λ_=>False)).holds w):Below w0.heap.size w0 w:=
  ⟨h.os,h.tape,h.output,h.size,λk c=>h.block k c (λh=>h)⟩
def Give(H:Hp)(al:Bool):List Pc->Prop
  | []=>True
  | p::r=>(p.own=false/\((∃i c,i≠0/\lk H i=some c/\(∀w,c.holds w->p.holds w)/\(∀b,p.fp b->c.fp b)/\(al=false->c.own=true))\/((∀w,p.holds w)/\∀b,¬p.fp b)))/\Give H al r
theorem Give.mem{al:Bool} : ∀{l:List Pc},Give H al l->∀p∈l,p.own=false/\((∃i c,i≠0/\lk H i=some c/\(∀w,c.holds w->p.holds w)/\(∀b,p.fp b->c.fp b)/\(al=false->c.own=true))\/((∀w,p.holds w)/\∀b,¬p.fp b))
  | p::r,h,q,e=>by
    cases e with
    | head=>exact h.1
    | tail _ e=>exact Give.mem h.2 q e
def Za{al:Bool} : Give H al []:=aA
theorem Gk(i:Nat)(hi:lk H i=some p)(c:Nat.beq i 0=false)(g:p.own=false)(h:Give H true r):Give H true (p::r):=
  ⟨⟨g,.inl ⟨i,p,λe=>by subst e;simp at c,hi,λ_ h=>h,λ_ h=>h,λh=>by cases h⟩⟩,h⟩
theorem Ygn{al:Bool}{α:Type}{e:TypeId}{enc:α->Value}{xs:List α}(i:Nat)(hi:lk H i=some (On k e enc v xs))(c:Nat.beq i 0=false)(j:Enc P t k enc)(h:Give H al r) :
    Give H al (Yt k enc v xs::r):=
  ⟨⟨rfl,.inl ⟨i,_,λe=>by subst e;simp at c,hi,λw h=>⟨Bo j.cells h,λb g=>(h.lt b g.2).2⟩,λ_ h=>h.2,λ_=>rfl⟩⟩,h⟩
theorem Bg{α:Type}(k:Nat)(enc:α->Value)(w:World):(Yt k enc (.slice none 0 0) ([]:List α)).holds w:=⟨⟨none,0,rfl,aI _,O8,.inl rfl⟩,λb c=>by simp [Value.ownBlock]at c⟩
theorem Lg{al:Bool}{α:Type}{enc:α->Value}{xs:List α}(e:xs=[])(h:Give H al r):Give H al (Yt k enc (.slice none 0 0) xs::r):=by subst e;exact⟨⟨rfl,.inr ⟨λw=>Bg k enc w,λb c=>by simp [Yt,Value.ownBlock]at c⟩⟩,h⟩
theorem Fo   {al:Bool} {G:Type} {φ:G->Prop} {val:G->Value} {j:G->List Pc}  {e:Exit} (Z:e= .ret\/e= .normal) (I:∀b,sc b->w0.heap.size<=b\/∃q∈pre,q.fp b)
    (g:G)  (u:∀a w,Sat N sc env H a w->(results fn a.tmps).run P w= .ok v w) (hv:val g=v) (hg:φ g) (S:lk H 0=some (Zt w0 (λ_=>False))) (c:Give H al (j g)) :
    X N sc e (Zah P fn w0 pre al φ val j) env H:=λa w hs=>by
  have x : a.defers = [] /\ ∃ v, (results fn a.tmps).run P w = .ok v w /\ (∃ g, Ending.returned v = .returned (val g) /\ φ g /\ Below w0.heap.size w0 w /\
        ∀p∈j g,p.holds w/\p.own=false/\∀b,p.fp b->w0.heap.size<=b\/(al=true/\∃q∈pre,q.fp b)):=by
    refine⟨hs.defers,v,u a w hs,g,by rw [hv],hg,Iy (hs.hold 0 _ S),λp hp=>?_⟩;obtain⟨V,h|⟨W,Y⟩⟩:=c.mem p hp
    case inr=>exact⟨W w,V,λb z=>absurd z (Y b)⟩
    obtain⟨i,R,m,hi,n,B,y⟩:=h;refine⟨n w (hs.hold i R hi),V,λb z=>?_⟩;have l:=B b z;cases al with
    | true=>
      rcases I b (hs.scope i R m hi b l)with h|h
      . exact .inl h
      . exact .inr ⟨rfl,h⟩
    | false=>
      have s:=y rfl;have hn:=hs.sep i 0 R _ m hi S s b l;refine .inl ?_;rcases aX b w0.heap.size with F|D
      . exact absurd ⟨F,λh=>h⟩ hn
      . exact D
  rcases Z with rfl|rfl
  . exact x
  . exact x
end Go.Sky

