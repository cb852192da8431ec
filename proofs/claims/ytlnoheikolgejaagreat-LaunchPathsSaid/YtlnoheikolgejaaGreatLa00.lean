/- Rules, arithmetic and contracts: part 1. No conditions but those that each theorem names. -/
import Derived.Tactics
import Derived.Tactics2
import Derived.Orders
import Derived.Below
import Derived.Laws.AppendOwn
import Derived.Laws.MakeOwn
import Derived.KernelRfl
set_option linter.all false
def aA:=@trivial
def aB:=@Nat.le_trans
def aC:=@List.getD_eq_getElem?_getD
def aD:=@if_neg
def aE:=@List.eq_nil_of_length_eq_zero
def aF:=@if_pos
def aG:=@List.length_pos_iff
def aH:=@List.getElem?_eq_getElem
def aI:=@Rat.mul_nonneg
def aJ:=@decide_eq_false
def aK:=@Nat.le_refl
def aL:=@congrArg
def aM:=@Nat.mul_le_mul_right
def aN:=@decide_eq_true
def aO:=@Array.getElem?_eq_some_iff
def aP:=@Bool.and_eq_true
def aQ:=@List.length_map
def aR:=@Nat.mul_comm
def aS:=@List.length_append
def aT:=@Nat.mul_le_mul
def aU:=@List.length_take
def aV:=@List.length_replicate
def aW:=@Nat.mod_eq_of_lt
def aX:=@Nat.div_div_eq_div_mul
def aY:=@Rat.mul_pos
def aZ:=@Nat.eq_zero_or_pos
def bA:=@Nat.lt_of_le_of_lt
def bB:=@Nat.zero_le
def bC:=@Int.mul_ne_zero
def bD:=@Nat.mul_le_mul_left
def bE:=@Nat.lt_or_ge
def bF:=@Classical.byContradiction
def bG:=@List.mem_cons
def bH:=@Array.getD_eq_getD_getElem?
def bI:=@Nat.add_mul
def bJ:=@List.mem_cons_of_mem
def bK:=@Nat.pow_add
def bL:=@Nat.lt_succ_iff_lt_or_eq
def bM:=@List.take_length
def bN:=@List.map_cons
def bO:=@List.getElem?_eq_none
def bP:=@Nat.zero_add
def bQ:=@Nat.pow_pos
def bR:=@Nat.mod_lt
def bT:=@of_decide_eq_true
def bW:=@List.all_eq_true
def bX:=@List.mem_cons_self
def bZ:=@List.mem_singleton
def cC:=@Nat.pow_succ
def cD:=@List.length_cons
def cE:=@List.map_append
def cF:=@Nat.div_lt_iff_lt_mul
def cH:=@Decidable.byContradiction
def cI:=@List.length_set
def cJ:=@Int.natAbs_mul
def cK:=@List.take_of_length_le
def cL:=@decide_eq_true_eq
def cM:=@Nat.div_add_mod
def cN:=@Nat.not_lt_zero
def cP:=@List.getElem?_take
def cQ:=@List.getElem?_append_left
def cS:=@List.mem_append
def cT:=@Nat.mul_assoc
def cW:=@Int.pow_zero
def cY:=@Int.zero_mul
def cZ:=@Nat.lt_of_lt_of_le
def dA:=@Rat.le_of_lt
def dB:=@Nat.div_eq_of_lt
def dC:=@Array.length_toList
def dD:=@decide_eq_decide
def dE:=@Nat.pow_le_pow_right
def dG:=@Bool.false_ne_true
def dH:=@Rat.mul_le_mul_of_nonneg_right
def dI:=@Int.mul_nonneg
def dJ:=@Int.mul_comm
def dK:=@Rat.pow_succ
def dL:=@Nat.eq_of_beq_eq_true
def dM:=@Nat.min_eq_left
def dO:=@Nat.two_pow_pos
def dP:=@List.drop_eq_getElem_cons
def dS:=@Int.mul_zero
def dU:=@List.not_mem_nil
def dV:=@List.append_assoc
def dW:=@List.getElem?_append_right
def dX:=@Int.pow_succ
def dY:=@List.take_zero
def dZ:=@List.getElem?_map
def eA:=@List.mem_iff_getElem
def eC:=@Int.natAbs_natCast
def eD:=@Nat.mul_lt_mul_of_pos_right
def eE:=@Int.le_of_lt
def eF:=@Nat.succ_mul
def eG:=@Rat.pow_zero
def eH:=@List.length_nil
def eI:=@Option.getD_some
def eJ:=@List.length_drop
def eK:=@Nat.le_mul_of_pos_right
def eN:=@Int.mul_le_mul_of_nonneg_right
def eO:=@List.filter_cons_of_pos
def eP:=@Nat.le_of_lt
def eQ:=@List.mem_map
def eR:=@Array.getElem?_append_left
def eT:=@Int.mul_assoc
def eU:=@Int.mul_eq_zero
def eV:=@Rat.mul_eq_zero
def eW:=@List.cons_append
def eX:=@List.getElem_mem
def eY:=@List.getElem?_eq_some_iff
def eZ:=@List.take_append_of_le_length
def fA:=@Int.one_mul
def fB:=@Decidable.not_not
def fC:=@List.take_append_drop
def fD:=@List.nil_append
def fE:=@List.append_nil
def fF:=@Nat.zero_lt_one
def fG:=@Nat.add_sub_cancel
def fH:=@decide_eq_true_iff
def fI:=@List.filter_append
def fJ:=@List.mem_of_mem_take
def fK:=@Nat.add_zero
def fL:=@List.map_nil
def fM:=@Int.sign_eq_neg_one_of_neg
def fN:=@Int.add_zero
def fO:=@Classical.not_not
def fP:=@Int.natCast_mul
def fQ:=@Nat.div_le_self
def fR:=@List.mem_filter
def fS:=@Int.natAbs_dvd_natAbs
def fT:=@Nat.add_assoc
def fU:=@Nat.mul_pos
def fV:=@Int.le_refl
def fW:=@List.drop_append_of_le_length
def fX:=@Rat.inv_pos
def fY:=@Bool.not_eq_true'
def fZ:=@List.filter_cons_of_neg
def gC:=@Array.getElem?_setIfInBounds
def gD:=@Nat.pow_le_pow_left
def gE:=@List.drop_of_length_le
def gF:=@Int.sign_eq_one_of_pos
def gG:=@Nat.mul_add
def gI:=@List.map_toArray
def gJ:=@List.getElem?_drop
def gK:=@Int.mul_nonpos_of_nonneg_of_nonpos
def gL:=@Int.mul_nonpos_of_nonpos_of_nonneg
def gM:=@Int.sub_eq_add_neg
def gN:=@Int.sign_eq_zero_iff_zero
def gO:=@Int.eq_of_mul_eq_mul_left
def gP:=@List.foldl_cons
def gQ:=@Nat.mul_add_div
def gR:=@Ne.symm
def gT:=@Nat.pow_zero
def gU:=@List.flatMap_cons
def gV:=@Nat.zero_mul
def gW:=@Int.mul_pos
def gX:=@Int.dvd_trans
def gY:=@List.getElem_of_mem
def iA:=@Int.ediv_mul_cancel
def iB:=@List.ext_getElem
def iC:=@List.mem_range
def iD:=@or_false
def iE:=@List.getElem?_replicate
def iF:=@Int.natAbs_neg
def iG:=@decide_eq_false_iff_not
def iH:=@Int.mul_le_mul_of_nonneg_left
def iI:=@Rat.le_refl
def iJ:=@Nat.add_right_comm
def iK:=@Nat.mul_right_comm
def iL:=@Nat.add_comm
def iM:=@Nat.mul_add_mod
def iN:=@List.map_take
def iO:=@Nat.le_of_ble_eq_true
def iP:=@List.ext_getElem?
def iQ:=@not_true_eq_false
def iR:=@List.size_toArray
def iS:=@Int.gcd_dvd_right
def iT:=@Int.dvd_mul_right
def iU:=@List.getElem?_set_ne
def iV:=@Nat.div_lt_of_lt_mul
def iW:=@Nat.mul_lt_mul_of_lt_of_le
def iX:=@Nat.mul_lt_mul_of_pos_left
def iY:=@Rat.div_def
def iZ:=@Bool.and_false
def jA:=@List.length_dropLast
def jB:=@Nat.sub_zero
def jC:=@Int.dvd_zero
def jD:=@Int.sub_zero
def jE:=@Int.lt_or_le
def jF:=@Nat.lt_trans
def jG:=@Nat.add_mul_mod_self_left
def jH:=@List.replicate_succ
def jI:=@List.length_zipWith
def jJ:=@List.getElem?_take_of_lt
def jK:=@Int.mul_ediv_cancel_left
def jL:=@Nat.le_antisymm
def jM:=@BitVec.toNat_ofNat
def jN:=@Nat.mul_div_cancel
def jO:=@Int.natCast_nonneg
def jP:=@Nat.pow_mul
def jQ:=@Nat.mul_one
def jR:=@List.set_eq_take_append_cons_drop
def jS:=@Option.some.injEq
def jT:=@Nat.or_lt_two_pow
def jU:=@List.take_take
def jV:=@Int.lt_trichotomy
def jW:=@List.drop_eq_nil_of_le
def jX:=@Int.mul_le_mul
def jY:=@Rat.mul_comm
def jZ:=@List.any_eq_false
def kA:=@Nat.le_div_iff_mul_le
def kB:=@Bool.and_eq_false_iff
def kC:=@List.length_filter_le
def kD:=@List.mem_flatMap
def kE:=@Nat.and_two_pow_sub_one_eq_mod
def kF:=@Int.gcd_dvd_left
def kG:=@if_true
def kH:=@Rat.mul_assoc
def kI:=@List.mem_of_mem_drop
def kJ:=@Int.mul_neg
def kK:=@Int.mul_add
def kL:=@Int.mul_ediv_cancel'
def kM:=@Int.mul_one
def kN:=@Int.pow_pos
def kP:=@Int.natAbs_of_nonneg
def kQ:=@List.mem_of_getElem?
def kR:=@Nat.div_lt_self
def kS:=@Int.ediv_nonneg
def kU:=@List.take_succ_cons
def kV:=@List.map_congr_left
def kW:=@List.take_length_add_append
def kX:=@Nat.two_pow_add_eq_or_of_lt
def kY:=@Nat.sub_self
def kZ:=@List.map_map
def lA:=@Int.zero_add
def lB:=@Int.ofNat_le
def lC:=@beq_iff_eq
def lD:=@Int.tdiv_eq_ediv_of_nonneg
def lE:=@Int.tmod_eq_emod_of_nonneg
def lF:=@Nat.eq_of_mul_eq_mul_right
def lG:=@Rat.mul_inv_cancel
def lH:=@Int.natAbs_pow
def lI:=@List.drop_zero
def lJ:=@Array.getElem?_eq_getElem
def lK:=@Int.natAbs_ediv_le_natAbs
def lL:=@Int.le_of_mul_le_mul_left
def lM:=@List.getLastD_eq_getLast?
def lN:=@Int.natAbs_add_le
def lO:=@Int.add_mul
def lP:=@Int.self_le_toNat
def lQ:=@Int.mul_left_comm
def lS:=@Bool.eq_false_iff
def lT:=@Nat.le_of_dvd
def lW:=@Bool.true_and
def lX:=@List.all_cons
def lY:=@Int.ediv_le_self
def lZ:=@List.any_eq_true
def mA:=@Nat.gcd_dvd_left
def mB:=@Int.dvd_of_emod_eq_zero
def mC:=@Int.add_comm
def mD:=@Array.getElem?_eq_none
def mE:=@Nat.succ_pos
def mF:=@Int.natAbs_ediv_of_dvd
def mG:=@Int.emod_nonneg
def mH:=@Int.natCast_add
def mI:=@Bool.or_eq_true
def mJ:=@List.eq_nil_or_concat
def mK:=@Nat.mul_div_mul_right
def mL:=@Nat.mul_mod_mul_right
def mM:=@Nat.add_mul_div_right
def mN:=@Nat.ble_eq_true_of_le
def mO:=@List.mem_iff_getElem?
def mP:=@List.dropLast_eq_take
def mQ:=@Nat.add_mul_div_left
def mR:=@Nat.mod_one
def mS:=@Nat.mod_mul
def mT:=@Nat.mul_lt_mul_right
def mU:=@if_false
def mV:=@List.take_left
def mW:=@Nat.one_mul
def mX:=@Int.dvd_neg
def mY:=@List.getElem_zipWith
def mZ:=@List.drop_replicate
def nA:=@Int.mul_ediv_cancel
def nB:=@List.drop_succ_cons
def nC:=@List.take_replicate
def nD:=@Nat.pow_succ'
def nE:=@Bool.false_or
def nF:=@Int.le_of_dvd
def nG:=@List.any_cons
def nH:=@Prod.mk.injEq
def nJ:=@List.set_cons_zero
def nK:=@Int.lt_or_gt_of_ne
def nL:=@Nat.div_mul_cancel
def nM:=@Nat.pos_of_ne_zero
def nN:=@Nat.lt_or_eq_of_le
def nO:=@Rat.div_mul_cancel
def nP:=@List.find?_eq_none
def nQ:=@Nat.add_mod_right
def nR:=@Nat.mul_left_comm
def nS:=@Nat.mul_zero
def nT:=@Nat.le_of_lt_succ
def nU:=@List.all_eq_false
def nV:=@Nat.gcd_dvd_right
def nW:=@Rat.le_trans
def nX:=@Nat.le_of_eq
def nY:=@Int.le_of_eq
def nZ:=@Nat.lt_trichotomy
def oA:=@Int.mul_sub
def oB:=@Int.neg_mul
def oC:=@List.map_id
def oD:=@Rat.le_ceil
def oE:=@Rat.one_mul
def oF:=@funext
namespace Go.Sky
variable{p q:List Int}{f:Nat->Int}{m i b:Nat}{x:Int}{xs o:List Nat}
theorem O {p:Prop}(h:p:=by omega):p:=h
theorem O1 {p:Prop}(h:p:=by first|omega|(dsimp only<;>omega)):p:=h
theorem O2 {p:Prop}(h:p:=by first|omega|(simp only [cI];omega)):p:=h
theorem O3 {p:Prop}(h:p:=by decide):p:=h
theorem O4 {p:Prop}(h:p:=by grind):p:=h
theorem O5 {p:Prop}(h:p:=by kernel_rfl):p:=h
theorem O6 {p:Prop}(h:p:=by decide +kernel):p:=h
theorem O7 {p:Prop}(h:p:=by simp):p:=h
theorem O8 {p:Prop}(h:p:=by simp;omega):p:=h
theorem O9 {p:Prop}(h:p:=by simp only [cD,eH];omega):p:=h
theorem O10 {p:Prop}(h:p:=by simp [Value.oneCell']):p:=h
theorem O11 {p:Prop}(h:p:=by simp [Ka,Yb,Ph]):p:=h
def Yb(f:Nat->Int):Nat->Int
 | 0=>0
 | n+1=>Yb f n+f n
def Kn(f:Nat->Int):Yb f 0=0:=rfl
def Yk(f:Nat->Int)(n:Nat):Yb f (n+1)=Yb f n+f n:=rfl
theorem Yq{f g:Nat->Int} : ∀{n:Nat},(∀i,i<n->f i=g i)->Yb f n=Yb g n
 | 0,_=>rfl
 | n+1,h=>by rw [Yk,Yk,Yq (λi hi=>h i O),h n O]
theorem Gx(f g:Nat->Int):∀n,Yb (λi=>f i+g i) n=Yb f n+Yb g n
 | 0=>rfl
 | n+1=>by simp only [Yk,Gx f g n];omega
theorem Ow(c:Int)(f:Nat->Int):∀n,Yb (λi=>c*f i) n=c*Yb f n
 | 0=>by simp [Yb]
 | n+1=>by simp only [Yk,Ow c f n];grind
theorem Zht(c:Int)(f:Nat->Int)(n:Nat):Yb (λi=>f i*c) n=Yb f n*c:=by rw [dJ,<-Ow];exact Yq λi _=>dJ _ _
theorem Hm{f:Nat->Int} : ∀{n:Nat},(∀i,i<n->f i=0)->Yb f n=0
 | 0,_=>rfl
 | n+1,h=>by rw [Yk,Hm (λi hi=>h i O),h n O];rfl
theorem Nm(f:Nat->Int):∀n,Yb f (n+1)=f 0+Yb (λi=>f (i+1)) n
 | 0=>by simp [Yb]
 | n+1=>by rw [Yk,Nm f n,Yk];omega
theorem Zkh(f:Nat->Int):∀n,Yb f n=Yb (λi=>f (n-1-i)) n
 | 0=>rfl
 | n+1=>by
  rw [Yk,Nm (λi=>f (n+1-1-i)),Zkh f n];have:Yb (λi=>f (n-1-i)) n=Yb (λi=>f (n+1-1-(i+1))) n:=Yq λi hi=>by congr 1;omega
  rw [this];simp only [fG,jB];omega
theorem Zfd{n:Nat}(a:m<=n)(h:∀i,m<=i->i<n->f i=0):Yb f n=Yb f m:=by
 induction n with
 | zero=>simp at a;subst a;rfl
 | succ n e=>
  by_cases d:m=n+1
  .subst d;rfl
  .rw [Yk,e O (λi c g=>h i c O),h n O O];omega
theorem Zkf(f:Nat->Nat->Int):∀n,Yb (λi=>Yb (λk=>f k (i-k)) (i+1)) n=Yb (λk=>Yb (λj=>f k j) (n-k)) n
 | 0=>rfl
 | n+1=>by
  rw [Yk,Zkf f n,Yk (λk=>Yb (λj=>f k j) (n+1-k))];have a:Yb (λk=>Yb (λj=>f k j) (n+1-k)) n=Yb (λk=>Yb (λj=>f k j) (n-k)+f k (n-k)) n:=
   Yq λk c=>by rw [show n+1-k=n-k+1 by omega,Yk]
  rw [a,Gx,Yk (λk=>f k (n-k)) n];rw [show n+1-n=0+1 by omega,Yk,Kn,show n-n=0 by omega];omega
structure PS where
 c:Nat->Int
theorem PS.ext'{f g:PS}(h:∀i,f.c i=g.c i):f=g:=by cases f;cases g;congr;exact oF h
namespace PS
def conv(f g:PS):PS:=⟨λi=>Yb (λk=>f.c k*g.c (i-k)) (i+1)⟩
def C(n:Int):PS:=⟨λi=>if i=0 then n else 0⟩
def xp(k:Nat):PS:=⟨λi=>if i=k then 1 else 0⟩
instance:Zero PS:=⟨⟨λ_=>0⟩⟩
instance:One PS:=⟨C 1⟩
instance:Add PS:=⟨λf g=>⟨λi=>f.c i+g.c i⟩⟩
instance:Neg PS:=⟨λf=>⟨λi=>- f.c i⟩⟩
instance:Sub PS:=⟨λf g=>⟨λi=>f.c i-g.c i⟩⟩
instance:Mul PS:=⟨conv⟩
instance:NatCast PS:=⟨λn=>C n⟩
instance (n:Nat):OfNat PS n:=⟨C n⟩
instance:IntCast PS:=⟨C⟩
instance:SMul Nat PS:=⟨λn f=>⟨λi=>(n:Int)*f.c i⟩⟩
instance:SMul Int PS:=⟨λn f=>⟨λi=>n*f.c i⟩⟩
def npow(f:PS):Nat->PS
 | 0=>1
 | n+1=>npow f n*f
instance:HPow PS Nat PS:=⟨npow⟩
def Ye1(f g:PS)(i:Nat):(f+g).c i=f.c i+g.c i:=rfl
def mul_c(f g:PS)(i:Nat):(f*g).c i=Yb (λk=>f.c k*g.c (i-k)) (i+1):=rfl
def mul_comm'(f g:PS):f*g=g*f:=ext' λi=>by
 rw [mul_c,mul_c,Zkh];exact Yq λk a=>by simp only [fG];rw [show i-(i-k)=k by omega,dJ]
def mul_assoc'(f g h:PS):f*g*h=f*(g*h):=ext' λi=>by
 rw [mul_c,mul_c];have a:Yb (λk=>(f*g).c k*h.c (i-k)) (i+1)=Yb (λk=>Yb (λj=>f.c j*g.c (k-j)*h.c (i-(j+(k-j)))) (k+1)) (i+1):=
  Yq λk c=>by rw [mul_c,<-Zht];exact Yq λj b=>by rw [show j+(k-j)=k by omega]
 rw [a,Zkf (λj m=>f.c j*g.c m*h.c (i-(j+m)))];refine Yq λj b=>?_;rw [mul_c,<-Ow,show i+1-j=i-j+1 by omega];exact Yq λm d=>by rw [eT,show i-(j+m)=i-j-m by omega]
def Zyk(f g:PS):f+g=g+f:=ext' λi=>by rw [Ye1,Ye1,mC]
def Zte(f g h:PS):f+g+h=f+(g+h):=ext' λi=>by simp only [Ye1];omega
instance:Std.Commutative (α:=PS) (· + ·):=⟨Zyk⟩
instance:Std.Associative (α:=PS) (· + ·):=⟨Zte⟩
instance:Std.Commutative (α:=PS) (· * ·):=⟨mul_comm'⟩
instance:Std.Associative (α:=PS) (· * ·):=⟨mul_assoc'⟩
end PS
def tzl(xs:List Int):List Int:=(xs.reverse.dropWhile (· == 0)).reverse
def cf(p:List Int)(i:Nat):Int:=p.getD i 0
def mk(n:Nat)(f:Nat->Int):List Int:=(List.range n).map f
def ps(p:List Int):PS:=⟨cf p⟩
def Tr(p:List Int):Prop:=p=[]\/cf p (p.length-1)≠0
def Px(p:List Int)(i:Nat):(ps p).c i=cf p i:=rfl
def Yl(h:p.length<=i):cf p i=0:=by simp [cf,List.getD,bO h]
def Zbk(h:i<p.length):cf p i=p[i]:=by simp [cf,List.getD,h]
def Yo(n:Nat)(f:Nat->Int):(mk n f).length=n:=by simp [mk]
def Mh(n:Nat)(f:Nat->Int)(i:Nat):cf (mk n f) i=if i<n then f i else 0:=by
 by_cases h:i<n
 .rw [aF h,Zbk (by rw [Yo];exact h)];simp [mk]
 .rw [aD h,Yl (by rw [Yo];omega)]
def Lg(c:p.length=q.length)(h:∀i,i<p.length->cf p i=cf q i):p=q:=by apply iB c;intro i a b;have:=h i a;rwa [Zbk a,Zbk b]at this
def Zg6(p:List Int):mk p.length (cf p)=p:=Lg (Yo _ _) λi h=>by rw [Mh,Yo]at *;rw [aF h]
def Il{n:Nat}{g:Nat->Int}(h:∀i,i<n->f i=g i):mk n f=mk n g:=Lg (by rw [Yo,Yo]) λi hi=>by rw [Yo]at hi;rw [Mh,Mh,aF hi,aF hi,h i hi]
def Zcc(p q:List Int)(i:Nat):cf (p ++ q) i=if i<p.length then cf p i else cf q (i-p.length):=by
 by_cases h:i<p.length
 .rw [aF h];simp [cf,List.getD,cQ h]
 .rw [aD h];simp only [cf,List.getD];rw [dW O]
def Yhh(n:Nat)(f:Nat->Int):mk (n+1) f=mk n f ++ [f n]:=by simp [mk,List.range_succ]
def Zjk{k:Nat}(h:k<p.length):cf (p.set k x) i=if i=k then x else cf p i:=by
 by_cases hi:i=k
 .subst hi;rw [aF rfl];simp [cf,List.getD,h]
 .rw [aD hi];simp only [cf,List.getD];rw [iU (gR hi)]
def Gj(p:List Int)(k i:Nat):cf (p.take k) i=if i<k then cf p i else 0:=by
 by_cases hi:i<k
 .rw [aF hi];simp [cf,List.getD,cP,hi]
 .rw [aD hi,Yl];rw [aU];omega
def Zbj{f:Int->Int}(a:f 0=0)(i:Nat):cf (p.map f) i=f (cf p i):=by
 by_cases hi:i<p.length
 .rw [Zbk (by simpa using hi),Zbk hi];simp
 .rw [Yl (by simpa using hi),Yl O,a]
def Cx(xs:List Int):tzl (xs ++ [0])=tzl xs:=by simp [tzl]
def Em{xs:List Int}(h:x≠0):tzl (xs ++ [x])=xs ++ [x]:=by simp [tzl,h]
def Zgx{α:Type}(xs:List α):xs=[]\/∃ys y,xs=ys ++ [y]:=by
 rcases mJ xs with h|⟨ys,y,h⟩
 .exact .inl h
 .exact .inr ⟨ys,y,by simpa using h⟩
def Zlr (C:List Int->Prop)(c:C [])(e:∀xs,C xs->C (xs ++ [0]))(f:∀xs x,x≠0->C (xs ++ [x]))(p:List Int):C p:=by
 have b:∀n (p:List Int),p.length=n->C p:=by
  intro n
  induction n with
  | zero=>intro p a;rw [aE a];exact c
  | succ n g=>
   intro p a;rcases Zgx p with rfl|⟨h,y,rfl⟩
   .exact c
   .by_cases d:y=0
    .subst d;exact e _ (g h (by simpa using a))
    .exact f _ _ d
 exact b _ p rfl
def Kl(p:List Int):(tzl p).length<=p.length:=by
 refine Zlr (λp=>(tzl p).length<=p.length) (aK _) (λb h=>?_) (λb x a=>?_) p
 .rw [Cx];simp;omega
 .rw [Em a];exact aK _
def Lt(p:List Int)(i:Nat):cf (tzl p) i=cf p i:=by
 refine Zlr (λp=>cf (tzl p) i=cf p i) rfl (λa h=>?_) (λa x c=>?_) p
 .rw [Cx,h,Zcc];split
  .rfl
  .rw [Yl O];by_cases b:i-a.length=0
   .rw [b];rfl
   .rw [Yl O8]
 .rw [Em c]
def Tr.nil:Tr []:= .inl rfl
def Qa(p:List Int):Tr (tzl p):=by
 refine Zlr (λp=>Tr (tzl p)) Tr.nil (λb h=>?_) (λb x a=>?_) p
 .rw [Cx];exact h
 .rw [Em a];refine .inr ?_;rw [Zcc];simp [cf];exact a
def Cw(h:Tr p):tzl p=p:=by
 rcases Zgx p with rfl|⟨b,y,rfl⟩
 .rfl
 .rcases h with h|h
  .simp at h
  .refine Em λa=>h ?_;subst a;rw [Zcc];simp [cf]
def Tr.ext{p q:List Int}(a:Tr p)(d:Tr q)(h:∀i,cf p i=cf q i):p=q:=by
 have b:∀{p q:List Int},Tr p->(∀i,cf p i=cf q i)->p.length<=q.length:=λ{p q} a h=>by
  rcases a with rfl|a
  .exact bB _
  .rw [h]at a;rcases bE (p.length-1) q.length with c|c
   .omega
   .exact absurd (Yl c) a
 exact Lg (jL (b a h) (b d λi=>(h i).symm)) λi _=>h i
def Yft(h:∀i,cf p i=cf q i):tzl p=tzl q:=(Qa p).ext (Qa q) λi=>by rw [Lt,Lt,h]
def Ai{n:Nat}(h:∀i,n<=i->cf p i=0):(tzl p).length<=n:=by
 rcases Qa p with a|a
 .rw [a];exact bB _
 .rw [Lt]at a;rcases bE ((tzl p).length-1) n with b|b
  .omega
  .exact absurd (h _ b) a
def Mc(p:List Int):tzl p=[]↔∀i,cf p i=0:=
 ⟨λh i=>by rw [<-Lt,h];rfl,λh=>aE (Nat.le_zero.1 (Ai λi _=>h i))⟩
def Tr.mem(h:Tr p)(a:p≠[]):cf p (p.length-1)≠0:=by
 rcases h with h|h
 .exact absurd h a
 .exact h
def Zy1{xs:List Int}{k:Nat}(c:k<=xs.length)(b:0<k)(h:cf xs (k-1)=0):tzl (xs.take k)=tzl (xs.take (k-1)):=Yft λi=>by
 rw [Gj,Gj];by_cases hi:i=k-1
 .subst hi;rw [aF O,aD O,h]
 .by_cases a:i<k
  .rw [aF a,aF O]
  .rw [aD a,aD O]
def Zoa{xs:List Int}{k:Nat}(a:k<=xs.length)(h:k=0\/cf xs (k-1)≠0):tzl (xs.take k)=xs.take k:=by
 refine Cw ?_;rcases h with rfl|h
 .simp [Tr]
 .rcases aZ k with rfl|b
  .simp [Tr]
  .refine .inr ?_;rw [aU,dM a,Gj,aF O];exact h
def Za2(p q:List Int):List Int:=tzl (mk (max p.length q.length) λi=>cf p i+cf q i)
def Aq(p q:List Int):List Int:=tzl (mk (max p.length q.length) λi=>cf p i-cf q i)
def Yf(p:List Int)(c:Int):List Int:=tzl (p.map (· * c))
def Qc(p q:List Int):List Int:=tzl (mk (p.length+q.length-1) λi=>(ps p*ps q).c i)
def Ys(p:List Int):List Int:=mk (p.length-1) λi=>cf p (i+1)*((i:Int)+1)
def pev(p:List Int)(n d:Int):Int:=Yb (λi=>cf p i*(n^i*d^(p.length-1-i))) p.length
def Xb(p:List Int):Int:=p.foldl (λg c=>(Int.gcd g c:Int)) 0
def Yi(p:List Int):List Int:=p.map (· / Xb p)
def Zv6(p q:List Int)(i:Nat):cf (Za2 p q) i=cf p i+cf q i:=by
 unfold Za2;rw [Lt,Mh];split
 .rfl
 .rw [Yl,Yl]<;>omega
def Ay(p q:List Int)(i:Nat):cf (Aq p q) i=cf p i-cf q i:=by
 unfold Aq;rw [Lt,Mh];split
 .rfl
 .rw [Yl,Yl]<;>omega
def Xx(p:List Int)(c:Int)(i:Nat):cf (Yf p c) i=cf p i*c:=by unfold Yf;rw [Lt,Zbj O7]
def Ki(p q:List Int)(i:Nat):cf (Qc p q) i=(ps p*ps q).c i:=by
 unfold Qc;rw [Lt,Mh];split
 .rfl
 .rw [PS.mul_c,Hm];intro k a;rcases bE k p.length with h|h
  .rw [Px,Px,Yl (p:=q) O,dS]
  .rw [Px,Yl h,cY]
def Ztn:Tr (Aq p q):=Qa _
def Ob{c:Int}:Tr (Yf p c):=Qa _
def Xy:Tr (Qc p q):=Qa _
def Bp(p q:List Int):Qc p q=Qc q p:=(Xy (p:=p) (q:=q)).ext (Xy (p:=q) (q:=p)) λi=>by rw [Ki,Ki,PS.mul_comm']
def Ygz(p q:List Int):ps (Qc p q)=ps p*ps q:=PS.ext' λi=>Ki p q i
def tz(xs:List Nat):List Nat:=(xs.reverse.dropWhile (· == 0)).reverse
def Md(xs:List Nat):tz (xs ++ [0])=tz xs:=by simp [tz]
def Km{x:Nat}(h:x≠0):tz (xs ++ [x])=xs ++ [x]:=by simp [tz,h]
def Qb{α:Type}(d:α)(xs:List α){k:Nat}(h:k<xs.length):xs.take (k+1)=xs.take k ++ [xs.getD k d]:=by rw [List.take_succ_eq_append_getElem h];simp [List.getD,h]
def Zb7{α:Type}(xs:List α)(k i:Nat)(d:α)(h:i<k):(xs.take k).getD i d=xs.getD i d:=by simp [List.getD,h]
def Yfu{k:Nat}(b:k<=xs.length)(a:0<k)(h:(xs.take k).getD (k-1) 0=0):tz (xs.take k)=tz (xs.take (k-1)):=by rw [Zb7 xs k (k-1) 0 O]at h;have:=Qb 0 xs (k:=k-1) O;rw [show k-1+1=k by omega]at this;rw [this,h,Md]
def Zls{k:Nat}(b:k<=xs.length)(h:k=0\/(xs.take k).getD (k-1) 0≠0):tz (xs.take k)=xs.take k:=by
 rcases aZ k with rfl|a
 .rfl
 .have h:=h.resolve_left O;rw [Zb7 xs k (k-1) 0 O]at h;have:=Qb 0 xs (k:=k-1) O;rw [show k-1+1=k by omega]at this;rw [this,Km h]
def tz_eq(h:xs=[]\/xs.getD (xs.length-1) 0≠0):tz xs=xs:=by
 have:=Zls (xs:=xs) (k:=xs.length) (aK _) (by
  rcases h with rfl|h
  .exact .inl rfl
  .right;rwa [bM])
 rwa [bM]at this
def val(b:Nat):List Nat->Nat
 | []=>0
 | d::r=>d+b*val b r
def dgf(b:Nat):Nat->Nat->List Nat
 | 0,_=>[]
 | f+1,n=>if n=0 then []else n%b::dgf b f (n/b)
def dg(b n:Nat):List Nat:=dgf b n n
def Zqk{b:Nat}(d:2<=b):∀(f a n:Nat),n<=f->n<=a->dgf b f n=dgf b a n
 | 0,0,_,_,_=>rfl
 | 0,a+1,n,h,_=>by have:n=0:=O;subst this;simp [dgf]
 | f+1,0,n,_,h=>by have:n=0:=O;subst this;simp [dgf]
 | f+1,a+1,n,h,e=>by
  unfold dgf;by_cases c:n=0
  .simp [c]
  .have:n/b<n:=kR O O;rw [aD c,aD c,Zqk d f a (n/b) O O]
def Gi(b:Nat):dg b 0=[]:=rfl
def Zbd{n:Nat}(a:2<=b)(c:0<n):dg b n=n%b::dg b (n/b):=by
 unfold dg;obtain⟨m,rfl⟩:∃m,n=m+1:=⟨n-1,O⟩
 conv=>lhs;unfold dgf
 rw [aD O];have:(m+1)/b<m+1:=kR O O;rw [Zqk a m ((m+1)/b) ((m+1)/b) O (aK _)]
def Kk(a:2<=b)(n:Nat):val b (dg b n)=n:=by
 induction n using Nat.strongRecOn with
 | _ n c=>
  rcases aZ n with rfl|h
  .rfl
  .rw [Zbd a h,val,c _ (kR h O)];have:=Nat.mod_add_div n b;omega
def Iq(c:2<=b)(n:Nat):∀d∈dg b n,d<b:=by
 induction n using Nat.strongRecOn with
 | _ n e=>
  rcases aZ n with rfl|h
  .intro d a;cases a
  .rw [Zbd c h];intro d a;rcases bG.1 a with rfl|a
   .exact bR _ O
   .exact e _ (kR h O) d a
def Mo(b:Nat)(xs ys:List Nat):val b (xs ++ ys)=val b xs+b^xs.length*val b ys:=by
 induction xs with
 | nil=>simp [val]
 | cons x r a=>simp only [eW,val,a,cD,cC,gG];rw [aR (b^r.length) b,cT];omega
def Zhn{b:Nat}(e:0<b):∀(xs:List Nat),(∀d∈xs,d<b)->val b xs<b^xs.length
 | [],_=>by simp [val]
 | x::r,h=>by have a:=Zhn e r (λd f=>h d (bJ _ f));have g:=h x (bX ..);simp only [val,cD,cC];have c:b*(val b r+1)<=b*b^r.length:=bD b a;rw [aR (b^r.length) b];rw [gG]at c;omega
def Fi(b n:Nat):val b (List.replicate n 0)=0:=by
 induction n with
 | zero=>rfl
 | succ n a=>simp [jH,val,a]
def Pg(b:Nat)(xs:List Nat)(k:Nat):val b (xs.take (k+1))=val b (xs.take k)+xs.getD k 0*b^k:=by
 by_cases h:k<xs.length
 .rw [Qb 0 xs (k:=k) h,Mo,val,val,aU,dM O,aR (b^k)];simp
 .rw [cK O,cK O];have:xs.getD k 0=0:=by simp [List.getD,bO (by omega:xs.length<=k)]
  rw [this];omega
def Lo(b:Nat)(xs:List Nat){k:Nat}(h:xs.length<=k):val b (xs.take k)=val b xs:=by rw [cK h]
def Qw(c:0<b)(h:∀d∈xs,d<b)(k:Nat):xs.getD k 0<b:=by
 by_cases a:k<xs.length
 .have:xs.getD k 0=xs[k]:=by simp [List.getD,a]
  rw [this];exact h _ (eX a)
 .have:xs.getD k 0=0:=by simp [List.getD,bO (by omega:xs.length<=k)]
  omega
def Zju{α:Type}(o:List α)(k:Nat)(d:α)(h:k<o.length):(o.set k d).take (k+1)=o.take k ++ [d]:=by
 have a:k<(o.set k d).length:=by simpa using h
 rw [Qb d _ a];congr 1
 .apply iP;intro i;rw [cP,cP];split
  .rw [iU O]
  .rfl
 .simp [List.getD,h]
def Zjv{α:Type}(o:List α)(k:Nat)(d:α):(o.set k d).take k=o.take k:=by
 apply iP;intro i;rw [cP,cP];split
 .rw [iU O]
 .rfl
def El(b:Nat)(o:List Nat){k:Nat}(d:Nat)(h:k<o.length):val b ((o.set k d).take (k+1))=val b (o.take k)+d*b^k:=by rw [Zju o k d h,Mo,val,val,aU,dM O,aR (b^k)];simp
def Lu{p:Nat->Prop}(h:∀d∈o,p d)(k d:Nat)(b:p d):∀x∈o.set k d,p x:=by
 intro x c;rcases List.mem_or_eq_of_mem_set c with a|a
 .exact h x a
 .rw [a];exact b
def Nq{p:Nat->Prop}{n:Nat}(h:p 0):∀d∈List.replicate n 0,p d:=by intro d a;rw [(List.mem_replicate.1 a).2];exact h
def Aj{α:Type}(xs:List α):xs=[]\/∃ys y,xs=ys ++ [y]:=by
 rcases mJ xs with h|⟨ys,y,h⟩
 .exact .inl h
 .exact .inr ⟨ys,y,by simpa using h⟩
def Ec{b:Nat}(u:2<=b):∀(xs:List Nat),(∀d∈xs,d<b)->dg b (val b xs)=tz xs
 | [],_=>rfl
 | x::r,h=>by
  have g:=Ec u r (λd w=>h d (bJ _ w));have v:=h x (bX ..);have k:(x+b*val b r)%b=x:=by rw [jG,aW v]
  have j:(x+b*val b r)/b=val b r:=by rw [mQ _ _ O,dB v];omega
  rcases aZ (x+b*val b r)with e|e
  .have p:x=0:=O;have o:val b r=0:=by
    rcases aZ (val b r)with m|m
    .exact m
    .have:=fU (by omega:0<b) m;omega
   rw [o,Gi]at g;simp only [val,e,Gi];subst p;rcases Aj r with rfl|⟨a,y,rfl⟩
   .rfl
   .by_cases f:y=0
    .subst f;rw [Md]at g;rw [show(0::(a ++ [0]))=(0::a) ++ [0]from rfl,Md];have l:(a.reverse.dropWhile (· == 0))=[]:=by have:=aL List.reverse g.symm;simpa [tz]using this
     unfold tz;rw [List.reverse_cons,List.dropWhile_append,l];simp
    .rw [Km f]at g;simp at g
  .have:=Zbd u e;simp only [val];rw [this,k,j,g];rcases Aj r with rfl|⟨a,y,rfl⟩
   .have:x≠0:=by simp [val]at e;omega
    simp [tz,this]
   .by_cases f:y=0
    .subst f;rw [Md,show(x::(a ++ [0]))=(x::a) ++ [0]from rfl,Md];have t:∀a:List Nat,0<x+b*val b a->x::tz a=tz (x::a):=by
      intro a
      induction hn:a.length using Nat.strongRecOn generalizing a with
      | _ n s=>
       intro c;rcases Aj a with rfl|⟨i,z,rfl⟩
       .have:x≠0:=by simp [val]at c;omega
        simp [tz,this]
       .by_cases q:z=0
        .subst q;rw [Md,show(x::(i ++ [0]))=(x::i) ++ [0]from rfl,Md];refine s i.length (by simp at hn;omega) i rfl ?_;rw [Mo]at c;simpa [val]using c
        .rw [Km q,show(x::(i ++ [z]))=(x::i) ++ [z]from rfl,Km q]
     refine t a ?_;rw [Mo]at e;simpa [val]using e
    .rw [Km f,show(x::(a ++ [y]))=(x::a) ++ [y]from rfl,Km f]
def Zk9(a:2<=b){n:Nat} : dg b m=dg b n↔m=n:=⟨λh=>by rw [<-Kk a m,h,Kk a],λh=>by rw [h]⟩
def Ix{b:Nat}(a:2<=b):∀(i n:Nat),(dg b n).getD i 0=n/b^i%b
 | 0,n=>by
  rcases aZ n with rfl|h
  .simp [Gi]
  .rw [Zbd a h];simp
 | i+1,n=>by
  rcases aZ n with rfl|h
  .simp [Gi]
  .rw [Zbd a h];have c:=Ix a i (n/b);simp only [List.getD_cons_succ];rw [c,aX,cC,aR b]
def Xh{b:Nat}(a:2<=b):∀(k n:Nat),(dg b n).length<=k↔n<b^k
 | 0,n=>by
  rcases aZ n with rfl|h
  .simp [Gi]
  .rw [Zbd a h];simp;omega
 | k+1,n=>by
  rcases aZ n with rfl|h
  .simp [Gi,bQ (by omega:0<b)]
  .rw [Zbd a h];simp only [cD,Nat.add_le_add_iff_right];rw [Xh a k (n/b),cC,cF O]
def Lq(a:2<=b)(k n:Nat):k<(dg b n).length↔b^k<=n:=by have:=Xh a k n;omega
def dg_top{n:Nat}(a:2<=b)(h:0<n):(dg b n).getD ((dg b n).length-1) 0≠0:=by
 have d:0<(dg b n).length:=by rw [Lq a,gT];omega
 have e:b^((dg b n).length-1)<=n:=(Lq a _ n).1 O;have c:n<b^(dg b n).length:=(Xh a _ n).1 (aK _);rw [Ix a];rw [show(dg b n).length=(dg b n).length-1+1 by omega,cC]at c;have f:n/b^((dg b n).length-1)<b:=by rw [cF (bQ O),aR];exact c
 have g:0<n/b^((dg b n).length-1):=Nat.div_pos e (bQ O);rw [aW f];omega
def Og(a:2<=b)(n:Nat):(dg b n).length=0↔n=0:=by have:=Xh a 0 n;rw [gT]at this;omega
def Zrh(e:2<=b){x:Nat}(h:∀i,i<o.length->o.getD i 0=x/b^i%b)(g:x<b^o.length):tz o=dg b x:=by
 have a:∀d∈o,d<b:=λd f=>by obtain⟨i,hi,rfl⟩:=gY f;have:=h i hi;rw [show o.getD i 0=o[i] by simp [List.getD,hi]]at this;rw [this];exact bR _ O
 rw [<-Ec e o a];congr 1;have c:∀k,k<=o.length->val b (o.take k)=x%b^k:=by
  intro k
  induction k with
  | zero=>intro _;simp [val,mR]
  | succ k j=>
   intro l;rw [Pg,j O,h k O,cC,mS,aR]
 have:=c o.length (aK _);rw [bM]at this;rw [this,aW g]
def bl(n:Nat):Nat:=(dg 2 n).length
def Qg(k n:Nat):bl n<=k↔n<2^k:=Xh O k n
def Zae(k n:Nat):k<bl n↔2^k<=n:=Lq O k n
def La:bl 0=0:=rfl
def Znq{n:Nat}(h:0<n):2^(bl n-1)<=n/\0<bl n:=by have a:0<bl n:=(Zae 0 n).2 (by rw [gT];omega);exact⟨(Zae _ n).1 O,a⟩
def Dd(n:Nat):n<2^bl n:=(Qg _ n).1 (aK _)
def bl_eq{n k:Nat}(b:n<2^k)(a:k=0\/2^(k-1)<=n):bl n=k:=by
 have:=(Qg k n).2 b;rcases a with rfl|a
 .omega
 .have:=(Zae (k-1) n).2 a;omega
def Zs7{n k:Nat}(h:0<n):bl (n*2^k)=bl n+k:=by
 have a:=Znq h;refine bl_eq ?_ (.inr ?_)
 .rw [bK];exact(mT (bQ O)).2 (Dd n)
 .rw [show bl n+k-1=(bl n-1)+k by omega,bK];exact aM _ a.1
def Ky(n k:Nat):bl (n/2^k)=bl n-k:=by
 by_cases h:bl n<=k
 .have:=(Qg k n).1 h;rw [dB this,La];omega
 .have a:2^k<=n:=(Zae k n).1 O;have b:0<n:=cZ (bQ O) a;have c:=Znq b;refine bl_eq ?_ (.inr ?_)
  .rw [cF (bQ O),<-bK,show bl n-k+k=bl n by omega];exact Dd n
  .rw [kA (bQ O),<-bK,show bl n-k-1+k=bl n-1 by omega];exact c.1
def Mj{n:Nat}(h:m<=n):bl m<=bl n:=(Qg _ m).2 (bA h (Dd n))
end Go.Sky
namespace Go.Sky
open Go.RowKit Below
variable{M:Nat->Prop}{a:Act}{b:Bool}{c:Operand}{w w':World}{x y:Code}{v:Value}{id d i:Nat}{p:Prop}{K:Act->World->Prop}{o oi:Oper}{rest:List Oper}{Y:Act->Prop}{ts:List Nat}{listed:Array Bool}
abbrev Xz:=List (Nat×Value)
def lk{α:Type} : List (Nat×α)->Nat->Option α
  | [],_=>none
  | (k,v)::r,n=>cond (Nat.beq k n) (some v) (lk r n)
def ev(e:Xz):Operand->Option Value
  | .tmp t=>lk e t
  | .const v=>some v
  | .global g=>some (.pointer (some ⟨g,0,none⟩))
  | .func f=>some (.func (.func f) #[] #[])
structure Chg (M:Nat->Prop) (w w':World):Prop where
  os:w'.os=w.os
  tape:w'.tape=w.tape
  output:w'.output=w.output
  size:w.heap.size<=w'.heap.size
  block:∀k,k<w.heap.size->¬M k->w'.heap[k]? = w.heap[k]?
def Chg.refl(M:Nat->Prop)(w:World):Chg M w w:=⟨rfl,rfl,rfl,aK _,λ_ _ _=>rfl⟩
def Chg.trans{a b c:World}(h:Chg M a b)(k:Chg M b c):Chg M a c:=
  ⟨k.os.trans h.os,k.tape.trans h.tape,k.output.trans h.output,aB h.size k.size,λi hi e=>(k.block i (cZ hi h.size) e).trans (h.block i hi e)⟩
def Chg.of_below(h:Below w.heap.size w w'):Chg M w w':=⟨h.os,h.tape,h.output,h.size,λk e _=>h.block k e⟩
structure Pc where
  own:Bool
  fp:Nat->Prop
  holds:World->Prop
  lt:∀w b,holds w->fp b->b<w.heap.size
  stable:∀w w',holds w->Chg (λb=>¬fp b) w w'->holds w'
abbrev Hp:=List (Nat×Pc)
structure Sat (N:Nat) (sc:Nat->Prop) (env:Xz) (H:Hp) (a:Act) (w:World):Prop where
  size:a.tmps.size=N
  defers:a.defers=[]
  env:∀t v,lk env t=some v->a.tmps.getD t undef=v
  hold:∀i it,lk H i=some it->it.holds w
  sep:∀i j it jt,i≠j->lk H i=some it->lk H j=some jt->it.own=true->∀b,it.fp b->jt.fp b->False
  scope:∀i it,i≠0->lk H i=some it->∀b,it.fp b->sc b
variable {P:Program} {N:Nat} {sc:Nat->Prop} {env env':Xz} {H H':Hp} {Q Q':Exit->Act->World->Prop}
def E(P:Program)(N:Nat)(sc:Nat->Prop)(c:Code)(Q:Exit->Act->World->Prop)(env:Xz)(H:Hp):Prop:=
  ∀a w,Sat N sc env H a w->c.wp P Q a w
def L(P:Program)(N:Nat)(sc:Nat->Prop)(ops:Array Oper)(rest:List Oper)(Q:Exit->Act->World->Prop)(env:Xz)(H:Hp):Prop:=
  ∀a w,Sat N sc env H a w->wpList P ops Q rest a w
def X(N:Nat)(sc:Nat->Prop)(e:Exit)(Q:Exit->Act->World->Prop)(env:Xz)(H:Hp):Prop:=
  ∀a w,Sat N sc env H a w->Q e a w
def Sub:Xz->Xz->Prop
  | [],_=>True
  | (t,v)::r,e=>lk e t=some v/\Sub r e
def HSub:Hp->Hp->Prop
  | [],_=>True
  | (t,v)::r,e=>lk e t=some v/\HSub r e
theorem Sub.lk:∀{f e:Xz},Sub f e->∀t v,lk f t=some v->lk e t=some v
  | [],_,_,_,_,h=>by cases h
  | (k,u)::r,e,h,t,v,hl=>by
    unfold Sky.lk at hl;cases hb:Nat.beq k t with
    | true=>
      rw [hb]at hl;have:=dL hb;subst this;simp only [cond_true]at hl;cases hl;exact h.1
    | false=>
      rw [hb]at hl;exact Sub.lk h.2 t v hl
theorem HSub.lk:∀{f e:Hp},HSub f e->∀t v,lk f t=some v->lk e t=some v
  | [],_,_,_,_,h=>by cases h
  | (k,u)::r,e,h,t,v,hl=>by
    unfold Sky.lk at hl;cases hb:Nat.beq k t with
    | true=>
      rw [hb]at hl;have:=dL hb;subst this;simp only [cond_true]at hl;cases hl;exact h.1
    | false=>
      rw [hb]at hl;exact HSub.lk h.2 t v hl
def Sat.weaken(h:Sat N sc env H a w)(hs:Sub env' env)(f:HSub H' H):Sat N sc env' H' a w:=
  ⟨h.size,h.defers,λt v n=>h.env t v (hs.lk t v n),λi e hi=>h.hold i e (f.lk i e hi),
   λi j e l k hi m=>h.sep i j e l k (f.lk i e hi) (f.lk j l m),λi e g hi=>h.scope i e g (f.lk i e hi)⟩
def E.weaken{c:Code}(h:E P N sc c Q env' H')(hs:Sub env' env)(f:HSub H' H):E P N sc c Q env H:=
  λa w e=>h a w (e.weaken hs f)
def X.weaken{e:Exit}(h:X N sc e Q env' H')(hs:Sub env' env)(g:HSub H' H):X N sc e Q env H:=
  λa w f=>h a w (f.weaken hs g)
theorem Zv{α:Type}(k:Nat)(v:α)(r:List (Nat×α)):lk ((k,v)::r) k=some v:=by simp [lk]
theorem Zm{α:Type}{k n:Nat}{v:α}{r:List (Nat×α)}(h:k≠n):lk ((k,v)::r) n=lk r n:=by
  have:Nat.beq k n=false:=by
    cases hb:Nat.beq k n with
    | false=>rfl
    | true=>exact absurd (dL hb) h
  simp [lk,this]
theorem Sat.ev(h:Sat N sc env H a w){x:Operand}(e:ev env x=some v):a.eval x=v:=by
  cases x with
  | tmp t=>exact h.env t v e
  | const u=>simp only [Sky.ev,jS]at e;exact e
  | global g=>simp only [Sky.ev,jS]at e;exact e
  | func f=>simp only [Sky.ev,jS]at e;exact e
theorem Sat.put(h:Sat N sc env H a w)(d:Nat)(v:Value)(j:Nat.blt d N=true):Sat N sc ((d,v)::env) H (a.put (some d) v) w:=by
  have g:d<N:=by simpa using j
  refine⟨by simp [Act.put,h.size],h.defers,λt u e=>?_,h.hold,h.sep,h.scope⟩;by_cases f:d=t
  . subst f;rw [Zv]at e;cases e;simp [Act.put,h.size,g]
  . rw [Zm f]at e;have:=h.env t u e;simp only [Act.put];rw [<-this];simp [bH,Array.getElem?_setIfInBounds_ne f]
def Sat.put_none(h:Sat N sc env H a w)(v:Value):Sat N sc env H (a.put none v) w:=h
def e_seq(h:E P N sc x (Exit.then (y.wp P Q) Q) env H):E P N sc (.seq x y) Q env H:=λa w hs=>wp_seq (h a w hs)
def e_skip(h:X N sc .normal Q env H):E P N sc .skip Q env H:=λa w hs=>wp_skip (h a w hs)
def e_ret(h:X N sc .ret Q env H):E P N sc .ret Q env H:=λa w hs=>wp_ret (h a w hs)
def e_exit(h:X N sc (.exit id) Q env H):E P N sc (.exit id) Q env H:=λa w hs=>wp_exit (h a w hs)
def Yil{c:Code}(h:E P N sc c (Exit.inBlock id Q) env H):E P N sc (.block id c) Q env H:=λa w hs=>wp_block (h a w hs)
def e_reg{l:List Oper}(h:L P N sc l.toArray l Q env H):E P N sc (.region id l.toArray false) Q env H:=λa w hs=>wp_region_lit (h a w hs)
theorem Zc[Decidable p](e:ev env c=some (.bool (decide p)))(g:p->E P N sc x Q env H)(f:¬p->E P N sc y Q env H) :
    E P N sc (.cond c x y) Q env H:=λa w hs=>
  wp_cond_split (hs.ev e) (λh=>g (by simpa using h) a w hs) (λh=>f (by simpa using h) a w hs)
def Pr(e:ev env c=some (.bool b))(g:b=true->E P N sc x Q env H)(f:b=false->E P N sc y Q env H) :
    E P N sc (.cond c x y) Q env H:=λa w hs=>
  wp_cond_split (hs.ev e) (λh=>g h a w hs) (λh=>f h a w hs)
def Yij(e:ev env c=some (.bool true))(f:E P N sc x Q env H):E P N sc (.cond c x y) Q env H:=λa w hs=>
  wp_cond_true (hs.ev e) (f a w hs)
def Yik(e:ev env c=some (.bool false))(f:E P N sc y Q env H):E P N sc (.cond c x y) Q env H:=λa w hs=>
  wp_cond_false (hs.ev e) (f a w hs)
def l_nil{ops:Array Oper}(h:X N sc .normal Q env H):L P N sc ops [] Q env H:=λa w hs=>wpList_nil (h a w hs)
def x_then(h:E P N sc y Q env H):X N sc .normal (Exit.then (y.wp P Q) Q) env H:=h
def x_ret(h:X N sc .ret Q env H):X N sc .ret (Exit.then K Q) env H:=h
def x_exit(h:X N sc (.exit id) Q env H):X N sc (.exit id) (Exit.then K Q) env H:=h
def x_bn(h:X N sc .normal Q env H):X N sc .normal (Exit.inBlock id Q) env H:=h
def x_br(h:X N sc .ret Q env H):X N sc .ret (Exit.inBlock id Q) env H:=h
theorem x_be(h:X N sc .normal Q env H):X N sc (.exit id) (Exit.inBlock id Q) env H:=λa w hs=>by show(if id=id then Q .normal a w else Q (.exit id) a w);rw [aF rfl];exact h a w hs
theorem x_bo{e:Nat}(f:e≠id)(h:X N sc (.exit e) Q env H):X N sc (.exit e) (Exit.inBlock id Q) env H:=λa w hs=>by show(if e=id then Q .normal a w else Q (.exit e) a w);rw [aD f];exact h a w hs
theorem e_loop {c:Code} {G:Type} (h:G->Xz) (D:G->Hp) (m:G->Prop) (μ:G->Nat) (I:G) (h₀:m I) (hs:Sub (h I) env) (hh:HSub (D I) H)
    (u:∀g,m g->E P N sc c (Exit.then (λa w=>∃r,m r/\μ r<μ g/\Sat N sc (h r) (D r) a w) Q) (h g) (D g)) :
    E P N sc (.loop c) Q env H:=by
  intro a0 w0 j;have h1:=j.weaken hs hh;suffices hx:∀n g,μ g=n->m g->∀a w,Sat N sc (h g) (D g) a w->(Code.loop c).wp P Q a w from hx _ I rfl h₀ a0 w0 h1
  intro n g _ hg a w j b k R;have Z:∀n g,μ g=n->m g->∀a w,Sat N sc (h g) (D g) a w->
      ∃e F w',Q e F w'/\Arrives P (lone (b.at a (.code c::.inLoop c::k)) R w) b k R e F w':=by
    intro n
    induction n using Nat.strongRecOn with
    | _ n ih=>
      intro g hn hI a w j;obtain⟨e,z,B,q,f⟩:=u g hI a w j b (.inLoop c::k) R;cases e with
      | normal=>
        obtain⟨r,S,V,t⟩:=q;obtain⟨e₂,a₂,w₂,W,s⟩:=ih (μ r) (hn▸V) r rfl S z B t;exact⟨e₂,a₂,w₂,W,.of_steps (Steps.trans f (.one step_inLoop)) s⟩
      | exit id=>exact⟨_,z,B,q,.pass (x:= .inLoop c) rfl (λ_ _=> .inl O7) f⟩
      | goto l=>exact⟨_,z,B,q,.pass (x:= .inLoop c) rfl (λ_ _=> .inl O7) f⟩
      | ret=>exact⟨_,z,B,q,.pass (x:= .inLoop c) rfl (λ_ _=> .inl O7) f⟩
      | panic ch=>exact⟨_,z,B,q,.pass (x:= .inLoop c) rfl (λ_ _=> .inl O7) f⟩
      | outgrown=>exact⟨_,z,B,q,.pass (x:= .inLoop c) rfl (λ_ _=> .inl O7) f⟩
  obtain⟨e,F,w',q,f⟩:=Z _ g rfl hg a w j;exact⟨e,F,w',q,.of_steps (.one step_loop) f⟩
def Nf(P:Program)(N:Nat)(sc:Nat->Prop)(o:Oper)(env:Xz)(H:Hp)(v:Value):Prop:=
  ∀a w,Sat N sc env H a w->(execOp a.eval o).run P w= .ok (.value v) w
def T(P:Program)(N:Nat)(sc:Nat->Prop)(M:Nat->Prop)(o:Oper)(env:Xz)(H:Hp){G:Type}(φ:G->Prop)(env':G->Xz)(H':G->Hp):Prop:=
  ∀a w,Sat N sc env H a w->∀K Q,(∀g e w',φ g->Sat N sc (env' g) (H' g) e w'->Chg M w w'->K e w')->o.wp P a w K Q
theorem l_det {ops:Array Oper}     (j:o.guard=none) (g:o.dst=some d) (f:Nat.blt d N=true) (k:Nf P N sc o env H v)
    (h:L P N sc ops rest Q ((d,v)::env) H):L P N sc ops (o::rest) Q env H:=λa w hs=>
  wpList_plain j λK e=>by unfold Oper.wp;rw [k a w hs];show K (a.put o.dst v) w;rw [g];exact e _ _ (h _ _ (hs.put d v f))
def l_step {ops:Array Oper}   {G:Type}  {φ:G->Prop} {e:G->Xz} {k:G->Hp} (f:o.guard=none)
    (n:T P N sc M o env H φ e k) (h:∀g,φ g->L P N sc ops rest Q (e g) (k g)):L P N sc ops (o::rest) Q env H:=λa w hs=>
  wpList_plain f λK m=>n a w hs K Q λg l w' f j _=>m _ _ (h g f l w' j)
theorem Sat.yielded(h:Sat N sc env H a w){ops:Array Oper}{j:Nat}(l:(ops[j]?).bind (·.dst)=some d)(k:lk env d=some (.bool b))(g:Nat.blt d N=true) :
    yielded ops a.tmps j=some b:=by
  have f:=h.env d _ k;have e:d<a.tmps.size:=by rw [h.size];simpa using g
  unfold Go.yielded;rw [l];simp only [Option.bind_some];rw [bH,lJ e]at f;simp only [eI]at f;rw [lJ e,f]
theorem l_gdet {ops:Array Oper}     {j e:Nat}  (n:o.guard=some (j,b)) (q:(ops[j]?).bind (·.dst)=some e) (m:lk env e=some (.bool b))
    (f:Nat.blt e N=true) (l:o.dst=some d) (k:Nat.blt d N=true) (r:Nf P N sc o env H v)
    (h:L P N sc ops rest Q ((d,v)::env) H):L P N sc ops (o::rest) Q env H:=λa w hs=>
  wpList_step λK g=>by
    have t:=hs.yielded q m f;have s:Region.wanted o (yielded ops a.tmps)=true:=by simp [Region.wanted,n,t]
    rw [aF s];unfold Oper.wp;rw [r a w hs];show K (a.put o.dst v) w;rw [l];exact g _ _ (h _ _ (hs.put d v k))
theorem Yhv {ops:Array Oper}   {G:Type}  {φ:G->Prop} {f:G->Xz} {n:G->Hp} {j e:Nat}  (l:o.guard=some (j,b)) (t:(ops[j]?).bind (·.dst)=some e)
    (s:lk env e=some (.bool b)) (k:Nat.blt e N=true)
    (u:T P N sc M o env H φ f n) (h:∀g,φ g->L P N sc ops rest Q (f g) (n g)):L P N sc ops (o::rest) Q env H:=λa w hs=>
  wpList_step λK r=>by
    have B:=hs.yielded t s k;have z:Region.wanted o (yielded ops a.tmps)=true:=by simp [Region.wanted,l,B]
    rw [aF z];exact u a w hs K Q λg q w' l m _=>r _ _ (h g l q w' m)
theorem Yhw {ops:Array Oper}    {j e:Nat} {k:Bool} (r:o.guard=some (j,b)) (s:(ops[j]?).bind (·.dst)=some e) (q:lk env e=some (.bool k))
    (g:Nat.blt e N=true) (f:(k == b)=false) (n:o.dst=some d) (m:Nat.blt d N=true)
    (h:L P N sc ops rest Q ((d,undef)::env) H):L P N sc ops (o::rest) Q env H:=λa w hs=>
  wpList_step λK l=>by
    have u:=hs.yielded s q g;have t:Region.wanted o (yielded ops a.tmps)=false:=by simp [Region.wanted,r,u];simpa using f
    rw [t,aD O7,n];exact l _ _ (h _ _ (hs.put d undef m))
theorem Yn (d:Nat) {ops:Array Oper}    [Decidable p] (h:lk env d=some (.bool (decide p)))
    (k:p->L P N sc ops rest Q ((d,.bool true)::env) H) (j:¬p->L P N sc ops rest Q ((d,.bool false)::env) H):L P N sc ops rest Q env H:=λa w hs=>by
  by_cases g:p
  . refine k g a w ⟨hs.size,hs.defers,λt v e=>?_,hs.hold,hs.sep,hs.scope⟩;by_cases f:d=t
    . subst f;rw [Zv]at e;cases e;have:=hs.env _ _ h;rw [this];simp [g]
    . rw [Zm f]at e;exact hs.env _ _ e
  . refine j g a w ⟨hs.size,hs.defers,λt v e=>?_,hs.hold,hs.sep,hs.scope⟩;by_cases f:d=t
    . subst f;rw [Zv]at e;cases e;have:=hs.env _ _ h;rw [this];simp [g]
    . rw [Zm f]at e;exact hs.env _ _ e
section
variable {ops:Array Oper} {md:Region.Mode} {C:World->World->Prop}
def Iy(ops:Array Oper)(ts:List Nat)(listed:Array Bool):Bool:=(List.range ops.size).all λj=>ts.contains j || listed.getD j true
def Kj(P:Program)(md:Region.Mode)(ops:Array Oper)(ts:List Nat)(C:World->World->Prop)(Q:Exit->Act->World->Prop):Nat->Array Bool->Act->World->Prop
  | 0,listed,a,w=>Region.ready md ops listed=[]/\Q .normal a w
  | e+1,listed,a,w=>if Iy ops ts listed=true then wpAny P md ops Q (e+1) listed a w else
    (Region.ready md ops listed=[]->Q .normal a w)/\
    ∀i∈Region.ready md ops listed,wpOp P ops Q i (λf w'=>C w w'/\Kj P md ops ts C Q e (listed.setIfInBounds i true) f w') a w
theorem Zcs{ts:List Nat} : ∀(e:Nat) (listed:Array Bool) (a:Act) (w:World),Kj P md ops ts C Q e listed a w->wpAny P md ops Q e listed a w
  | 0,_,_,_,h=>h
  | e+1,listed,_,_,h=>by
    unfold Kj at h;split at h
    . exact h
    . exact⟨h.1,λi hi=>wpOp_mono (λ_ _ f=>Zcs e _ _ _ f.2) (h.2 i hi)⟩
def YieldsC(P:Program)(ops:Array Oper)(C:World->World->Prop)(o:Oper)(v:Value)(a:Act)(w:World):Prop:=
  (Region.wanted o (yielded ops a.tmps)=true/\∀w',C w w'->(execOp a.eval o).run P w'= .ok (.value v) w')\/
  (Region.wanted o (yielded ops a.tmps)=false/\v=undef)
theorem YieldsC.wpOp      (hi:ops[i]? = some o) (e:C w w) (j:YieldsC P ops C o v a w)
     (h:K (a.put o.dst v) w):wpOp P ops Q i K a w:=by
  unfold Go.wpOp;simp only [hi];rcases j with⟨f,g⟩|⟨f,rfl⟩
  . simp only [f,kG,Oper.wp,g w e,Oper.upon];exact .inl h
  . simp only [f,Bool.false_eq_true,mU];exact h
theorem YieldsC.of_same {o:Oper} {v:Value} {a e:Act} {w:World} (h:YieldsC P ops C o v a w) (f:execOp e.eval o=execOp a.eval o)
    (g:Region.wanted o (yielded ops e.tmps)=Region.wanted o (yielded ops a.tmps)):YieldsC P ops C o v e w:=by
  unfold YieldsC at *;rw [f,g];exact h
theorem YieldsC.later(e:∀a b c,C a b->C b c->C a c)(l:YieldsC P ops C o v a w)(h:C w w'):YieldsC P ops C o v a w':=by
  rcases l with⟨k,f⟩|f
  . exact .inl ⟨k,λg j=>f g (e _ _ _ h j)⟩
  . exact .inr f
theorem Zwo {j:Nat} {k:Oper}  (Z:ops[j]? = some k) (F:oi.apart ops k=true)
    (G:∀cs b,oi.op≠ .select cs b) (B:∀cs b,k.op≠ .select cs b)
    (V:∀c a w,Q (.panic c) (a.put oi.dst v) w->Q (.panic c) a w)    
    (W:∀a s,Y a->execOp s.eval oi=execOp a.eval oi->Region.wanted oi (yielded ops s.tmps)=Region.wanted oi (yielded ops a.tmps)->Y s) (l:Y a)
    (h:wpOp P ops Q j K (a.put oi.dst v) w) :
    wpOp P ops Q j (λs w'=>Y s/\K (s.put oi.dst v) w') a w:=by
  obtain⟨D,t,S⟩:=Oper.apart_spec F;have Yt:∀(a:Act),Y a->∀u,Y (a.put k.dst u):=λa l u=>
    W _ _ l (execOp_put oi G a k.dst u S) (wanted_put oi a k.dst u S)
  have q:∀d,Y { a with defers:=d::a.defers }:=λd=>W _ _ l rfl rfl;unfold Go.wpOp at *;simp only [Z]at *;rw [wanted_put k a oi.dst v D]at h;split
  . rename_i I;simp only [I,kG]at h;rcases h with h|⟨g,m⟩
    case inr=>exact .inr ⟨by unfold Oper.asks at *;rw [execOp_put k B a oi.dst v D]at g;exact g,m⟩
    refine .inl ?_;unfold Oper.wp at *;rw [execOp_put k B a oi.dst v D]at h;generalize (execOp a.eval k).run P w=r at *;cases r with
    | ok n w'=>
      cases n<;>simp only [Oper.upon]at h ⊢
      case value u=>exact⟨Yt a l u,by rw [<-Act.put_comm a v u t];exact h⟩
      case skip=>exact⟨Yt a l _,by rw [<-Act.put_comm a v undef t];exact h⟩
      case defer d=>
        refine⟨Yt _ (q d) _,?_⟩;rw [<-Act.put_comm _ v undef t,<-Act.put_defers];exact h
      case enter f args=>
        refine Calls.mono h λe R z=>?_;cases e with
        | returned u=>exact⟨Yt a l u,by rw [<-Act.put_comm a v u t];exact z⟩
        | panicked c=>exact V _ _ _ z
        | outgrown=>exact z
      case row row args=>exact Rows.mono h λu R z=>⟨Yt a l u,by rw [<-Act.put_comm a v u t];exact z⟩
    | halt x w'=>
      cases x<;>simp only [Oper.upon]at h ⊢
      case panic u=>exact V _ _ _ h
  . rename_i I;simp only [I]at h;exact⟨Yt a l _,by rw [<-Act.put_comm a v undef t];exact h⟩
theorem Zcu(hi:ops[i]? = some o)(e:i ∉ ts)(f:listed.getD i true=false):Iy ops ts listed=false:=by
  cases h:Iy ops ts listed with
  | false=>rfl
  | true=>
    unfold Iy at h;rw [bW]at h;have:=h i (iC.2 (aO.1 hi).1);rw [f]at this;simp [e]at this
theorem Af     (hi:ops[i]? = some oi) (B:∀(j:Nat) (o:Oper) R b,ops[j]? = some o->o.op≠ .select R b)
    (a2:i ∉ ts) (S:∀(j:Nat) (r:Oper),j∈ts->ops[j]? = some r->∃e∈r.after,Region.binds md e=true/\e.on=i)
    (g:∀w,C w w) (u:∀a b c,C a b->C b c->C a c)
    (hQ:∀c a w,Q (.panic c) (a.put oi.dst v) w->Q (.panic c) a w) :
    ∀(l:Nat) (listed:Array Bool) (a:Act) (w:World),
      (∀j r,ops[j]? = some r->j≠i->listed.getD j true=false->(∀e∈r.after,Region.binds md e=true->e.on≠i)->oi.apart ops r=true)->
      i∈Region.ready md ops listed->YieldsC P ops C oi v a w->
      Kj P md ops ts C Q l (listed.setIfInBounds i true) (a.put oi.dst v) w->Kj P md ops ts C Q (l+1) listed a w:=by
  intro l
  induction l with
  | zero=>
    intro listed a w _ t I H;have G:=Zcu hi a2 (mem_ready.1 t).1;unfold Kj;rw [aD (by rw [G];exact dG)];refine⟨λh=>(by rw [h]at t;cases t),λj hj=>?_⟩;by_cases f:j=i
    . subst f;exact I.wpOp hi (g w) ⟨g w,H⟩
    . have:=ready_mono hj f;rw [H.1]at this;cases this
  | succ l ih=>
    intro listed a w m t I H;have G:=Zcu hi a2 (mem_ready.1 t).1;unfold Kj;rw [aD (by rw [G];exact dG)];refine⟨λh=>(by rw [h]at t;cases t),λj hj=>?_⟩;by_cases f:j=i
    . subst f;exact I.wpOp hi (g w) ⟨g w,H⟩
    . obtain⟨n,r,q,V⟩:=mem_ready.1 hj;have z:∀e∈r.after,Region.binds md e=true->e.on≠i:=λe W hb F=>by
        have D:=V e W hb;have h0:=(mem_ready.1 t).1;rw [F]at D;rcases bE i listed.size with h'|h'
        . simp [h']at h0 D;rw [h0]at D;cases D
        . simp [mD h']at D
      have a0:j ∉ ts:=λhm=>by obtain⟨e,W,hb,F⟩:=S j r hm q;exact z e W hb F
      have a1:Iy ops ts (listed.setIfInBounds i true)=false:=Zcu q a0 (by rw [getD_set_ne true (gR f)];exact n);unfold Kj at H;rw [aD (by rw [a1];exact dG)]at H;have D:=H.2 j (ready_mono hj f);have h2:=Zwo (Y:=λa=>YieldsC P ops C oi v a w) q (m j r q f n z) (λR b=>B i oi R b hi) (λR b=>B j r R b q) hQ
        (λa a' I W hw=>YieldsC.of_same I W hw) I D
      have s:∀k ok,ops[k]? = some ok->k≠i->(listed.setIfInBounds j true).getD k true=false->
          (∀e∈ok.after,Region.binds md e=true->e.on≠i)->oi.apart ops ok=true:=λk ok hk a4 a3 a5=>by
        refine m k ok hk a4 ?_ a5;by_cases Z:j=k
        . subst Z;exact n
        . rw [getD_set_ne true Z]at a3;exact a3
      refine wpOp_mono (λa' w' h3=>⟨h3.2.1,ih (listed.setIfInBounds j true) a' w' s (ready_mono t (gR f)) (h3.1.later u h3.2.1) ?_⟩) h2;rw [Array.setIfInBounds_comm _ _ f];exact h3.2.2
end
def drp:Nat->Hp->Hp
  | _,[]=>[]
  | k,(i,p)::r=>cond (Nat.beq i k) (drp k r) ((i,p)::drp k r)
theorem Ih:∀(k:Nat) (H:Hp) (i:Nat) (p:Pc),lk (drp k H) i=some p->i≠k/\lk H i=some p
  | _,[],_,_,h=>by cases h
  | k,(j,q)::r,i,p,h=>by
    unfold drp at h;cases hb:Nat.beq j k with
    | true=>
      rw [hb]at h;obtain⟨g,l⟩:=Ih k r i p h;have:=dL hb;refine⟨g,?_⟩;rw [Zm O];exact l
    | false=>
      rw [hb]at h;simp only [cond_false]at h;by_cases f:j=i
      . subst f;rw [Zv]at h;refine⟨λe=>?_,by rw [Zv];exact h⟩;subst e;simp at hb
      . rw [Zm f]at h ⊢;exact Ih k r i p h
def LD(P:Program)(N:Nat)(sc:Nat->Prop)(M:Nat->Prop)(ops:Array Oper)(F:Xz->Hp->Prop):List (Nat×Nat)->Xz->Hp->Prop
  | [],env,H=>F env H
  | (i,0)::rest,env,H=>∃o d v,ops[i]? = some o/\o.dst=some d/\Nat.blt d N=true/\
      (∀a w,Sat N sc env H a w->Region.wanted o (yielded ops a.tmps)=true/\∀w',Chg M w w'->(execOp a.eval o).run P w'= .ok (.value v) w')/\LD P N sc M ops F rest ((d,v)::env) H
  | (i,1)::rest,env,H=>∃(o:Oper) (G:Type) (φ:G->Prop) (e:G->Xz) (f:G->Hp),ops[i]? = some o/\
      (∀a w,Sat N sc env H a w->Region.wanted o (yielded ops a.tmps)=true)/\T P N sc M o env H φ e f/\∀g,φ g->LD P N sc M ops F rest (e g) (f g)
  | (i,3)::rest,env,H=>∃(o:Oper) (G:Type) (φ:G->Prop) (e:G->Xz) (f:G->Hp),ops[i]? = some o/\
      (∀a w,Sat N sc env H a w->Region.wanted o (yielded ops a.tmps)=true)/\T P N sc (λ_=>True) o env H φ e f/\∀g,φ g->LD P N sc M ops F rest (e g) (f g)
  | (i,_)::rest,env,H=>∃o d,ops[i]? = some o/\o.dst=some d/\Nat.blt d N=true/\
      (∀a w,Sat N sc env H a w->Region.wanted o (yielded ops a.tmps)=false)/\LD P N sc M ops F rest ((d,undef)::env) H
def Za0:List (Nat×Nat)->List Nat
  | []=>[]
  | (i,3)::rest=>i::Za0 rest
  | _::rest=>Za0 rest
def Hz(ops:Array Oper)(ts:List Nat):List (Nat×Nat)->Array Bool->Bool
  | [],_=>true
  | (i,1)::rest,listed=>(Region.ready .any ops listed == [i]) && !(Iy ops ts listed) && Hz ops ts rest (listed.setIfInBounds i true)
  | (i,3)::rest,listed=>(Region.ready .any ops listed == [i]) && Iy ops ts listed && Hz ops ts rest (listed.setIfInBounds i true)
  | (i,_)::rest,listed=>(Region.ready .any ops listed).contains i && Region.free .any ops listed i && !(ts.contains i) &&
      ts.all (λj=>match ops[j]? with|some f=>f.after.any (λe=>Region.binds .any e && e.on == i)|none=>true) && Hz ops ts rest (listed.setIfInBounds i true)
def Fv:List (Nat×Nat)->Array Bool->Array Bool
  | [],listed=>listed
  | (i,_)::rest,listed=>Fv rest (listed.setIfInBounds i true)
def Gu(Q:Exit->Act->World->Prop):Exit->Act->World->Prop
  | .normal,a,w=>Q .normal a w
  | _,_,_=>False
theorem Zmf {ops:Array Oper}   (h:ts.all (λj=>match ops[j]? with|some f=>f.after.any (λe=>Region.binds .any e && e.on == i)|none=>true)=true)
    (j:Nat) (f:Oper) (m:j∈ts) (n:ops[j]? = some f):∃e∈f.after,Region.binds .any e=true/\e.on=i:=by
  rw [bW]at h;have k:=h j m;simp only [n]at k;obtain⟨e,l,g⟩:=Array.any_eq_true'.1 k;simp only [aP,lC]at g;exact⟨e,l,g.1,g.2⟩
def A(P:Program)(N:Nat)(sc:Nat->Prop)(M:Nat->Prop)(ops:Array Oper)(ts:List Nat)(Q:Exit->Act->World->Prop)(n:Nat)(listed:Array Bool)(env:Xz)(H:Hp):Prop:=
  ∀a w,Sat N sc env H a w->Kj P .any ops ts (Chg M) (Gu Q) n listed a w
theorem LD.sound{M:Nat->Prop}{ops:Array Oper}{ts:List Nat}{F:Xz->Hp->Prop}{n:Nat}(f:Region.noSelect ops=true):∀(m:List (Nat×Nat)) (listed:Array Bool) (env:Xz) (H:Hp),Hz ops ts m listed=true->
    LD P N sc M ops F m env H->(∀env H,F env H->A P N sc M ops ts Q n (Fv m listed) env H)->A P N sc M ops ts Q (m.length+n) listed env H
  | [],listed,env,H,l,h,r,a,w,hs=>by simpa [Fv]using r _ _ h a w hs
  | (i,0)::rest,listed,env,H,l,h,r,a,w,hs=>by simp only [Hz,aP]at l;obtain⟨⟨⟨⟨u,Z⟩,t⟩,s⟩,l⟩:=l;obtain⟨o,d,v,q,W,V,I,e⟩:=h;obtain⟨hw,I⟩:=I a w hs;have ih:=LD.sound f rest (listed.setIfInBounds i true) _ _ l e r _ w (hs.put d v V);show Kj P .any ops ts (Chg M) (Gu Q) ((rest.length+1)+n) listed a w;rw [iJ];refine Af q (Region.noSelect_spec f) (by simpa using t) (Zmf s) (Chg.refl M) (λ_ _ _=>Chg.trans) (λ_ _ _ h=>h.elim) (rest.length+n) listed a w (Region.free_spec q Z) (by simpa using u) (.inl ⟨hw,I⟩) ?_;rw [W];exact ih
  | (i,1)::rest,listed,env,H,l,h,r,a,w,hs=>by simp only [Hz,aP,lC,fY]at l;obtain⟨⟨u,D⟩,l⟩:=l;obtain⟨o,G,φ,R,gH,q,hw,ht,e⟩:=h;show Kj P .any ops ts (Chg M) (Gu Q) ((rest.length+1)+n) listed a w;rw [iJ];unfold Kj;rw [aD (by rw [D];exact dG)];refine⟨λS=>(by rw [u]at S;cases S),λj z=>?_⟩;rw [u]at z;have z:=bZ.1 z;subst z;unfold wpOp;simp only [q,hw a w hs,kG];exact .inl (ht a w hs _ _ λg a' w' hg B hc=>⟨hc,LD.sound f rest _ _ _ l (e g hg) r a' w' B⟩)
  | (i,3)::rest,listed,env,H,l,h,r,a,w,hs=>by simp only [Hz,aP,lC]at l;obtain⟨⟨u,D⟩,l⟩:=l;obtain⟨o,G,φ,R,gH,q,hw,ht,e⟩:=h;show Kj P .any ops ts (Chg M) (Gu Q) ((rest.length+1)+n) listed a w;rw [iJ];unfold Kj;rw [aF D];refine⟨λS=>(by rw [u]at S;cases S),λj z=>?_⟩;rw [u]at z;have z:=bZ.1 z;subst z;unfold wpOp;simp only [q,hw a w hs,kG];exact .inl (ht a w hs _ _ λg a' w' hg B _=>Zcs _ _ _ _ (LD.sound f rest _ _ _ l (e g hg) r a' w' B))
  | (i,2)::rest,listed,env,H,l,h,r,a,w,hs=>by simp only [Hz,aP]at l;obtain⟨⟨⟨⟨u,Z⟩,t⟩,s⟩,l⟩:=l;obtain⟨o,d,q,W,V,I,e⟩:=h;have ih:=LD.sound f rest (listed.setIfInBounds i true) _ _ l e r _ w (hs.put d undef V);show Kj P .any ops ts (Chg M) (Gu Q) ((rest.length+1)+n) listed a w;rw [iJ];refine Af q (Region.noSelect_spec f) (by simpa using t) (Zmf s) (Chg.refl M) (λ_ _ _=>Chg.trans) (λ_ _ _ h=>h.elim) (rest.length+n) listed a w (Region.free_spec q Z) (by simpa using u) (.inr ⟨I a w hs,rfl⟩) ?_;rw [W];exact ih
  | (i,(k+4))::rest,listed,env,H,l,h,r,a,w,hs=>by simp only [Hz,aP]at l;obtain⟨⟨⟨⟨u,Z⟩,t⟩,s⟩,l⟩:=l;obtain⟨o,d,q,W,V,I,e⟩:=h;have ih:=LD.sound f rest (listed.setIfInBounds i true) _ _ l e r _ w (hs.put d undef V);show Kj P .any ops ts (Chg M) (Gu Q) ((rest.length+1)+n) listed a w;rw [iJ];refine Af q (Region.noSelect_spec f) (by simpa using t) (Zmf s) (Chg.refl M) (λ_ _ _=>Chg.trans) (λ_ _ _ h=>h.elim) (rest.length+n) listed a w (Region.free_spec q Z) (by simpa using u) (.inr ⟨I a w hs,rfl⟩) ?_;rw [W];exact ih
def Sat.drew(h:Sat N sc env H a w):Sat N sc env H a { w with drawn:=w.drawn+1 }:=
  ⟨h.size,h.defers,h.env,λi e hi=>e.stable w _ (h.hold i e hi) ⟨rfl,rfl,rfl,aK _,λ_ _ _=>rfl⟩,h.sep,h.scope⟩
theorem Yu{ops:Array Oper}(h:X N sc .normal Q env H)(e:(Region.ready .any ops listed).isEmpty=true:=by kernel_rfl):A P N sc M ops ts Q 0 listed env H:=
  λa w hs=>⟨by simpa using e,h a w hs⟩
def Zdj(P:Program)(N:Nat)(sc:Nat->Prop)(M:Nat->Prop)(ops:Array Oper)(ts:List Nat)(Q:Exit->Act->World->Prop)(n:Nat)(listed:Array Bool)(env:Xz)(H:Hp)(i:Nat):Prop:=
  ∃(o:Oper) (G:Type) (φ:G->Prop) (e:G->Xz) (f:G->Hp),ops[i]? = some o/\o.guard=none/\T P N sc M o env H φ e f/\∀g,φ g->A P N sc M ops ts Q n (listed.setIfInBounds i true) (e g) (f g)
theorem Ye7  {ops:Array Oper}   {n:Nat} (r:List Nat) (f:((Region.ready .any ops listed == r) && !(Iy ops ts listed) && !r.isEmpty)=true)
    (h:∀i∈r,Zdj P N sc M ops ts Q n listed env H i):A P N sc M ops ts Q (n+1) listed env H:=λa w hs=>by
  simp only [aP,lC,fY]at f;obtain⟨⟨f,q⟩,l⟩:=f;unfold Kj;rw [aD (by rw [q];exact dG)];refine⟨λt=>?_,λj u=>?_⟩
  . rw [f]at t;subst t;simp at l
  . rw [f]at u;obtain⟨o,G,φ,s,I,D,k,F,e⟩:=h j u;unfold wpOp;simp only [D,Region.wanted,k,kG];exact .inl (F a w hs _ _ λg z w' k m B=>⟨B,e g k z w' m⟩)
theorem a_lin  {l:List Oper}  {n m:Nat}  {F:Xz->Hp->Prop} (e:List (Nat×Nat)) 
    (g:(Region.noSelect l.toArray && Hz l.toArray ts e listed && Nat.beq (e.length+n) m)=true) (h:LD P N sc M l.toArray F e env H)
    (q:∀env H,F env H->A P N sc M l.toArray ts Q n (Fv e listed) env H):A P N sc M l.toArray ts Q m listed env H:=by
  simp only [aP]at g;obtain⟨⟨j,k⟩,f⟩:=g;have f:=dL f;subst f;exact LD.sound j e listed env H k h q
theorem Da  {l:List Oper} (M:Nat->Prop) (ts:List Nat) 
    (h:A P N sc M l.toArray ts Q l.length (Array.replicate l.length false) env H) (g:P.follows .mixedOrders=true:=by kernel_rfl):E P N sc (.region id l.toArray true) Q env H:=λa w hs=>by
  refine Code.wp_mono (Q:=Gu Q) (λe a w f=>by cases e<;>first|exact f|exact f.elim) ?_;refine wp_region_any g (Zcs (C:=Chg M) (ts:=ts) _ _ _ _ ?_);simpa using h a _ hs.drew
theorem e_dreg  {l:List Oper} (M:Nat->Prop) (e:List (Nat×Nat)) (r:P.follows .mixedOrders=true)
    (g:(Region.noSelect l.toArray && Nat.beq e.length l.length && Hz l.toArray (Za0 e) e (Array.replicate l.length false) &&
      (Region.ready .any l.toArray (Fv e (Array.replicate l.length false))).isEmpty)=true)
    (h:LD P N sc M l.toArray (X N sc .normal Q) e env H):E P N sc (.region id l.toArray true) Q env H:=by
  simp only [aP]at g;obtain⟨⟨⟨j,f⟩,k⟩,m⟩:=g;have f:=dL f;refine Da M (Za0 e) ?_ r;have:=LD.sound (n:=0) (Q:=Q) j e _ env H k h (λenv H q=>Yu q m);rw [<-f];rw [<-f]at this;simpa using this
end Go.Sky
namespace Go.Sky
open Go.RowKit Below
variable{w:World}{v:Value}{t t' tb:TypeId}{o:Oper}{x c y:Operand}{i b:Nat}{vs cs:Array Value}{p:Pc}{m:Int}{kd:IntKind}
variable {P:Program} {N:Nat} {sc:Nat->Prop} {env env':Xz} {H H':Hp} {Q Q':Exit->Act->World->Prop}
def Yt(f:World)(M:Nat->Prop):Pc:=
  { own:=false,fp:=λb=>b<f.heap.size/\¬M b,holds:=λw=>Chg M f w
    lt:=λw b h g=>cZ g.1 h.size
    stable:=λw l h a=>⟨a.os.trans h.os,a.tape.trans h.tape,a.output.trans h.output,aB h.size a.size,
      λk d e=>(a.block k (cZ d h.size) (λj=>j ⟨d,e⟩)).trans (h.block k d e)⟩ }
def box(b:Nat)(t:TypeId)(cs:Array Value):Pc:=
  { own:=true,fp:=λk=>k=b,holds:=λw=>w.heap[b]? = some (.cells cs t (0,0))
    lt:=λw k h d=>by subst d;exact(aO.1 h).1
    stable:=λw f h a=>by rw [<-h];exact a.block b (aO.1 h).1 (λe=>e rfl) }
def cellsOf{α:Type}(enc:α->Value)(xs:List α):List Value:=xs.flatMap λx=>(enc x).cells.toList
def RowAt{α:Type}(w:World)(k:Nat)(enc:α->Value)(v:Value)(xs:List α):Prop:=
  ∃a c,v= .slice a xs.length c/\xs.length<=c/\c<=maxLen/\(xs=[]\/∃g d,a=some ⟨g,d,none⟩/\
    ∀i x,xs[i]? = some x->∀j u,(enc x).cells.toList[j]? = some u->w.cell? ⟨g,d+i*k+j,none⟩=some u)
theorem RowAt.same{α:Type}{w':World}{k:Nat}{enc:α->Value}{xs:List α}(h:RowAt w k enc v xs)(r:∀b,xs≠[]/\v.ownBlock=some b->w'.heap[b]? = w.heap[b]?):RowAt w' k enc v xs:=by
  obtain⟨a,c,rfl,d,e,f⟩:=h;rcases f with f|⟨g,l,rfl,q⟩
  . exact⟨a,c,rfl,d,e,.inl f⟩
  by_cases n:xs=[]
  . exact⟨_,c,rfl,d,e,.inl n⟩
  refine⟨_,c,rfl,d,e,.inr ?_⟩;refine⟨g,l,rfl,λi x hi j u s=>?_⟩;rw [<-q i x hi j u s];exact World.cell?_of_block (r g ⟨n,rfl⟩)
def Yg{α:Type}(k:Nat)(enc:α->Value)(v:Value)(xs:List α):Pc:=
  { own:=false,fp:=λb=>xs≠[]/\v.ownBlock=some b,holds:=λw=>RowAt w k enc v xs/\∀b,xs≠[]/\v.ownBlock=some b->b<w.heap.size
    lt:=λw b h a=>h.2 b a
    stable:=λw f h d=>⟨h.1.same λb a=>d.block b (h.2 b a) (λe=>e a),λb a=>cZ (h.2 b a) d.size⟩ }
def Pt{α:Type}(k:Nat)(e:TypeId)(enc:α->Value)(v:Value)(xs:List α):Pc:=
  { own:=true,fp:=λb=>v.ownBlock=some b,holds:=λw=>w.ownsRow 0 e k v xs.length (cellsOf enc xs)
    lt:=λw b h l=>(h.lt b l).2
    stable:=λw r h q=>by
      refine⟨h.1,?_⟩;rcases h.2 with n|⟨g,f,j,rfl,l,a,d⟩
      . exact .inl n
      . refine .inr ⟨g,f,j,rfl,l,?_,d⟩;rw [<-a];exact q.block g (aO.1 a).1 (λn=>n rfl) }
structure Enc {α:Type} (P:Program) (t:TypeId) (k:Nat) (enc:α->Value):Prop where
  pos:0<k
  cells:∀x,(enc x).cells.size=k
  one:∀x,∀u∈(enc x).cells.toList,u.oneCell'=true
  size:∀w,(sizeOf t).run P w= .ok k w
  load:∀x w ad,(∀j u,(enc x).cells.toList[j]? = some u->w.cell? (ad.add j)=some u)->(loadVar t ad).run P w= .ok (enc x) w
theorem Enc.flat{α:Type}{enc:α->Value}(hs:∀w,(sizeOf t).run P w= .ok 1 w)(g:∀w,(isAgg t).run P w= .ok false w)(f:∀x,(enc x).oneCell'=true):Enc P t 1 enc:=by
  have a:∀x,(enc x).cells=#[enc x]:=λx=>by have:=f x;cases hx:enc x<;>simp_all [Value.cells,Value.oneCell']
  refine⟨O,λx=>by rw [a];rfl,λx u d=>?_,hs,λx w j h=>?_⟩
  . rw [a]at d;simp at d;rw [d];exact f x
  . have e:=h 0 (enc x) (by rw [a];rfl);simp only [Addr.add,kG]at e;simp [loadVar,g,e]
theorem Enc.agg {α:Type}  {k:Nat} {enc:α->Value} (q:0<k) (hs:∀w,(sizeOf t).run P w= .ok k w) (n:∀w,(isAgg t).run P w= .ok true w)
    (e:∀x,∃cs:List Value,enc x= .agg cs.toArray/\cs.length=k/\∀u∈cs,u.oneCell'=true):Enc P t k enc:=by
  refine⟨q,λx=>?_,λx u j=>?_,hs,λx w l h=>?_⟩
  . obtain⟨cs,a,d,f⟩:=e x;rw [a];simpa [Value.cells]using d
  . obtain⟨cs,a,d,f⟩:=e x;rw [a]at j;exact f u (by simpa [Value.cells]using j)
  . obtain⟨cs,a,d,f⟩:=e x;rw [a]at h ⊢;have g:=run_loadCells_list (P:=P) w l cs (by simpa [Value.cells]using h);rw [d]at g;simp [loadVar,n,hs,g]
theorem Yx{α:Type}{k:Nat}{enc:α->Value}(a:∀x,(enc x).cells.size=k):∀xs:List α,(cellsOf enc xs).length=xs.length*k
  | []=>by simp [cellsOf]
  | x::r=>by have d:=Yx a r;simp only [cellsOf,gU,aS,dC,cD]at d ⊢;rw [d,a x,bI];omega
theorem Kv{α:Type}{k:Nat}{enc:α->Value}(a:∀x,(enc x).cells.size=k):∀(xs:List α) (i:Nat) (x:α),xs[i]? = some x->∀j u,(enc x).cells.toList[j]? = some u->(cellsOf enc xs)[i*k+j]? = some u
  | [],_,_,h,_,_,_=>by simp at h
  | y::r,0,x,h,j,u,hu=>by simp at h;subst h;simp only [cellsOf,gU,gV,bP];rw [cQ (eY.1 hu).1];exact hu
  | y::r,i+1,x,h,j,u,hu=>by have d:=Kv a r i x (by simpa using h) j u hu;simp only [cellsOf,gU]at d ⊢;rw [dW (by simp [a,bI];omega)];rw [<-d];congr 1;simp [a,bI];omega
def Rd{α:Type}(p:Pc)(k:Nat)(enc:α->Value)(v:Value)(xs:List α):Prop:=∀w,p.holds w->RowAt w k enc v xs
def Zh{α:Type}{k:Nat}{enc:α->Value}{xs:List α} : Rd (Yg k enc v xs) k enc v xs:=λw h=>h.1
theorem Dr{α:Type}{k:Nat}{e:TypeId}{enc:α->Value}{xs:List α}(s:∀x,(enc x).cells.size=k)(h:w.ownsRow 0 e k v xs.length (cellsOf enc xs)):RowAt w k enc v xs:=by
  rcases h.2 with⟨rfl,D⟩|⟨g,f,r,rfl,_,n,q,l,z,a⟩
  . have:xs=[]:=aE D;subst this;exact⟨none,0,rfl,aK _,O7,.inl rfl⟩
  . refine⟨_,f,rfl,q,l,.inr ⟨g,0,rfl,λi x hi j u B=>?_⟩⟩;have d:=Kv s xs i x hi j u B;rw [<-a,cP]at d;simp only [bP];split at d
    . simp only [World.cell?,n];simpa using d
    . cases d
def Yc{α:Type}{k:Nat}{e:TypeId}{enc:α->Value}{xs:List α}(a:Enc P t k enc):Rd (Pt k e enc v xs) k enc v xs:=λw h=>Dr a.cells h
theorem Pb(g o n:Nat):(⟨g,o,none⟩:Addr).add n=⟨g,o+n,none⟩:=by unfold Addr.add;split<;>simp_all
def ead(v:Value)(i k:Nat):Addr:=match v with
  | .slice (some a) _ _=>a.add (i*k)
  | _=>default
theorem Zak(d:o.op= .move x)(e:ev env x=some v):Nf P N sc o env H v:=λa w hs=>by simp only [execOp,d,hs.ev e];rfl
theorem d_as(d:o.op= .assign x)(e:ev env x=some v):Nf P N sc o env H v:=λa w hs=>by simp only [execOp,d,hs.ev e];rfl
theorem Zsp(d:o.op= .extract x i)(f:ev env x=some (.tuple vs))(e:vs[i]? = some v):Nf P N sc o env H v:=λa w hs=>by simp [execOp,d,hs.ev f,Instr.extract,e]
theorem d_nc{d:Addr}(e:o.op= .nilCheck x)(f:ev env x=some (.pointer (some d))):Nf P N sc o env H (.pointer (some d)):=λa w hs=>by simp [execOp,e,hs.ev f]
theorem d_not{p:Prop}[Decidable p](d:o.op= .unOp .not t x)(e:ev env x=some (.bool (decide p))):Nf P N sc o env H (.bool (decide (¬p))):=λa w hs=>by simp [execOp,d,hs.ev e,Op.unary]
theorem Xi{b:Bool}(d:o.op= .unOp .not t x)(e:ev env x=some (.bool b)):Nf P N sc o env H (.bool (!b)):=λa w hs=>by simp [execOp,d,hs.ev e,Op.unary]
theorem Dc(e:o.op= .pick c x y)(d:ev env c=some (.bool true))(f:ev env x=some v):Nf P N sc o env H v:=λa w hs=>by simp [execOp,e,hs.ev d,hs.ev f,asBool]
theorem Zca(e:o.op= .pick c x y)(d:ev env c=some (.bool false))(f:ev env y=some v):Nf P N sc o env H v:=λa w hs=>by simp [execOp,e,hs.ev d,hs.ev f,asBool]
def Me(n:Int):Prop:=-9223372036854775808<=n/\n<=9223372036854775807
theorem Zcr{n:Int}(h:Me n):IntKind.i64.wrap n=n:=by rw [IntKind.wrap_i64];obtain⟨a,d⟩:=h;omega
theorem Zll(n:Int):IntKind.u64.wrap n=n%18446744073709551616:=by simp [IntKind.wrap,IntKind.bits,IntKind.signed]
theorem Gv  {d:BinOp}   {k:IntKind} {n:Int} {r:Value} (e:o.op= .binOp d t x y t') (g:ev env x=some (.int k m)) (h:ev env y=some (.int k n))
    (f:∀w,(binOp d t (.int k m) (.int k n)).run P w= .ok r w):Nf P N sc o env H r:=λa w hs=>by
  simp [execOp,e,hs.ev g,hs.ev h,eqGuard,f w]
theorem d_add{n:Int}(a:o.op= .binOp .add t x y t')(d:ev env x=some (.int .i64 m))(e:ev env y=some (.int .i64 n))(h:Me (m+n):=by exact⟨O,O⟩) :
    Nf P N sc o env H (.int .i64 (m+n)):=Gv a d e λw=>by simp [binOp,Op.intArith,Zcr h]
theorem d_sub{n:Int}(a:o.op= .binOp .sub t x y t')(d:ev env x=some (.int .i64 m))(e:ev env y=some (.int .i64 n))(h:Me (m-n)) :
    Nf P N sc o env H (.int .i64 (m-n)):=Gv a d e λw=>by simp [binOp,Op.intArith,Zcr h]
theorem d_mul{n:Int}(a:o.op= .binOp .mul t x y t')(d:ev env x=some (.int .i64 m))(e:ev env y=some (.int .i64 n))(h:Me (m*n)) :
    Nf P N sc o env H (.int .i64 (m*n)):=Gv a d e λw=>by simp [binOp,Op.intArith,Zcr h]
theorem Zjc{n:Int}(e:o.op= .binOp .quo t x y t')(g:ev env x=some (.int .i64 m))(h:ev env y=some (.int .i64 n))(a:0<=m:=by omega)(j:m<=9223372036854775807:=by omega)(d:0<n:=by omega) :
    Nf P N sc o env H (.int .i64 (m/n)):=Gv e g h λw=>by
  have f:Me (m/n):=by have k:=kS a (eE d);have l:m/n<=m:=lY n a;exact⟨O,O⟩
  simp [binOp,Op.intDiv,lD a,Zcr f];omega
theorem Zlc{n:Int}(d:o.op= .binOp .rem t x y t')(e:ev env x=some (.int .i64 m))(f:ev env y=some (.int .i64 n))(a:0<=m:=by omega)(g:0<n:=by omega) :
    Nf P N sc o env H (.int .i64 (m%n)):=Gv d e f λw=>by
  simp [binOp,Op.intDiv,lE a];omega
theorem Ydr{k:IntKind}{n:Int}(a:o.op= .binOp .lss t x y t')(d:ev env x=some (.int k m))(e:ev env y=some (.int k n)) :
    Nf P N sc o env H (.bool (decide (m<n))):=Gv a d e λw=>by simp [binOp,Op.intCmp]
theorem d_leq{k:IntKind}{n:Int}(a:o.op= .binOp .leq t x y t')(d:ev env x=some (.int k m))(e:ev env y=some (.int k n)) :
    Nf P N sc o env H (.bool (decide (m<=n))):=Gv a d e λw=>by simp [binOp,Op.intCmp]
theorem Zqs{k:IntKind}{n:Int}(a:o.op= .binOp .gtr t x y t')(d:ev env x=some (.int k m))(e:ev env y=some (.int k n)) :
    Nf P N sc o env H (.bool (decide (n<m))):=Gv a d e λw=>by simp [binOp,Op.intCmp]
theorem d_geq{k:IntKind}{n:Int}(a:o.op= .binOp .geq t x y t')(d:ev env x=some (.int k m))(e:ev env y=some (.int k n)) :
    Nf P N sc o env H (.bool (decide (n<=m))):=Gv a d e λw=>by simp [binOp,Op.intCmp]
theorem Ydt{k:IntKind}{n:Int}(a:o.op= .binOp .eql t x y t')(d:ev env x=some (.int k m))(e:ev env y=some (.int k n)) :
    Nf P N sc o env H (.bool (decide (m=n))):=Gv a d e λw=>by
  simp only [binOp,ne_eq,iQ,mU,Op.intCmp];rw [show(m == n)=decide (m=n)from rfl];rfl
theorem Ydq{k:IntKind}{n:Int}(a:o.op= .binOp .neq t x y t')(d:ev env x=some (.int k m))(e:ev env y=some (.int k n)) :
    Nf P N sc o env H (.bool (decide (m≠n))):=Gv a d e λw=>by
  simp only [binOp,ne_eq,iQ,mU,Op.intCmp,Sem.run_pure];congr 2;by_cases h:m=n<;>simp [h]
theorem d_len {α:Type}   {e:TypeId}  {k:Nat}  {enc:α->Value} {xs:List α} (f:o.op= .call { callee:= .builtin .len,args:=#[x],argTypes:=#[t] })
    (j:ev env x=some v) (d:lk H i=some p) (g:Rd p k enc v xs) (h:P.underlying t=some (.slice e)):Nf P N sc o env H (.int .i64 xs.length):=λa w hs=>by
  obtain⟨l,c,rfl,_⟩:=g w (hs.hold i p d);simp [execOp,f,resolve,hs.ev j,invoke,builtin,Builtin.len_,run_underlying h,goInt]
theorem d_lens    {s:ByteArray} (d:o.op= .call { callee:= .builtin .len,args:=#[x],argTypes:=#[t] })
    (f:ev env x=some (.string s)) (e:P.underlying t=some .string):Nf P N sc o env H (.int .i64 s.size):=λa w hs=>by
  simp [execOp,d,resolve,hs.ev f,invoke,builtin,Builtin.len_,run_underlying e,goInt]
theorem Yh (ii:Nat)(i:Nat) {α:Type}   {e:TypeId}  {k:Nat}    {enc:α->Value} {xs:List α} (n:o.op= .indexAddr t x y)
    (s:ev env x=some v) (u:ev env y=some (.int kd m)) (l:lk H ii=some p) (q:Rd p k enc v xs) (r:P.underlying t=some (.slice e)) (h:∀w,(sizeOf e).run P w= .ok k w)
      (f:m=(i:Int):=by omega) (d:i<xs.length:=by omega):Nf P N sc o env H (.pointer (some (ead v i k))):=λa w hs=>by
  obtain⟨B,c,rfl,D,F,j⟩:=q w (hs.hold ii p l);rcases j with rfl|⟨g,z,rfl,j⟩
  . simp at d
  . subst f;simp [execOp,n,hs.ev s,hs.ev u,Instr.indexAt,asIntOf,run_underlying r,h,d,ead]
theorem Po (ii:Nat) {α:Type}     {k:Nat}  {enc:α->Value} {xs:List α} (e:α) (r:o.op= .load t x)
    (z:ev env x=some (.pointer (some (ead v i k)))) (l:lk H ii=some p) (s:Rd p k enc v xs) (n:Enc P t k enc)
     (d:i<xs.length:=by omega):Nf P N sc o env H (enc (xs.getD i e)):=λa w hs=>by
  obtain⟨B,c,rfl,D,F,f⟩:=s w (hs.hold ii p l);rcases f with rfl|⟨g,h,rfl,f⟩
  . simp at d
  . have hi:xs[i]? = some (xs.getD i e):=by simp [List.getD,aH d]
    have:=n.load (xs.getD i e) w (ead (.slice (some ⟨g,h,none⟩) xs.length c) i k) (λj u q=>by have:=f i _ hi j u q;simp only [ead,Pb];exact this)
    simp [execOp,r,hs.ev z,Instr.loadAt,Instr.sureAddr,this]
theorem Yds    {s:ByteArray}    (j:o.op= .index t x y)
    (l:ev env x=some (.string s)) (n:ev env y=some (.int kd m)) (k:P.underlying t=some .string)
    (e:m=(i:Int)) (d:i<s.size:=by omega):Nf P N sc o env H (.int .u8 ((s.data.toList.getD i 0).toNat:Int)):=λa w hs=>by
  subst e;have f:s[i]? = some s[i]:=getElem?_pos s i d;have g:s.data.toList.getD i 0=s[i]:=by
    have h:i<s.data.toList.length:=by simpa using d
    simp only [List.getD,aH h,eI];rfl
  rw [g];simp [execOp,j,hs.ev l,hs.ev n,Instr.index,asIntOf,run_underlying k,f]
theorem d_fa    {f:Nat} {g:Array Field} {e:Field} {k:Nat} {d q r:Nat} (l:o.op= .fieldAddr t x f)
    (z:ev env x=some (.pointer (some ⟨b,d,none⟩))) (u:P.underlying t=some (.struct g)) (h:g[f]? = some e) (j:∀w,(sizeOf e.type).run P w= .ok (k+1) w) (n:e.offset=q) (s:d+q=r) :
    Nf P N sc o env H (.pointer (some ⟨b,r,none⟩)):=λa w hs=>by
  subst s;subst n;simp [execOp,l,hs.ev z,Instr.fieldAt,run_underlying u,h,Instr.sureAddr,fieldPlace,j,Pb]
theorem Sat.boxc{a:Act}(hs:Sat N sc env H a w)(d:lk H i=some (box b t cs))(j:Nat):w.cell? ⟨b,j,none⟩=cs[j]?:=by have h:w.heap[b]? = some (.cells cs t (0,0)):=hs.hold i _ d;simp [World.cell?,h]
theorem Zx9 (i:Nat)    {j:Nat}   (e:o.op= .load t x)
    (k:ev env x=some (.pointer (some ⟨b,j,none⟩))) (d:lk H i=some (box b tb cs)) (f:∀w,(isAgg t).run P w= .ok false w) (g:cs[j]? = some v):Nf P N sc o env H v:=λa w hs=>by
  have h:=hs.boxc d j;rw [g]at h;simp [execOp,e,hs.ev k,Instr.loadAt,Instr.sureAddr,loadVar,f,load,Sem.run,h]
theorem Zvt (vs:List Value)    {j k:Nat}   (h:o.op= .load t x)
    (s:ev env x=some (.pointer (some ⟨b,j,none⟩))) (e:lk H i=some (box b tb cs)) (l:∀w,(isAgg t).run P w= .ok true w) (f:∀w,(sizeOf t).run P w= .ok k w)
    (g:vs.length=k) (r:∀n u,vs[n]? = some u->cs[j+n]? = some u):Nf P N sc o env H (.agg vs.toArray):=λa w hs=>by
  have d:=run_loadCells_list (P:=P) w ⟨b,j,none⟩ vs (λn u q=>by rw [Pb,hs.boxc e];exact r n u q);rw [g]at d;simp [execOp,h,hs.ev s,Instr.loadAt,Instr.sureAddr,loadVar,l,f,d]
end Go.Sky
namespace Go.Sky
open Go.RowKit Below
variable{a:Act}{w w' w0:World}{M0:Nat->Prop}{o:Oper}{t:TypeId}{d i:Nat}{cs:Array Value}{x y:Operand}{v:Value}{p:Pc}{parts:Array (Nat×Operand)}
variable {P:Program} {N:Nat} {sc:Nat->Prop} {env env':Xz} {H H':Hp} {Q Q':Exit->Act->World->Prop} {M:Nat->Prop}
def Chg.alloc(M:Nat->Prop)(w:World)(o:Obj):Chg M w (w.alloc o):=
 ⟨rfl,rfl,rfl,O7,λk b _=>heap_alloc_old w o k b⟩
def Sat.chg(h:Sat N sc env H a w)(f:∀fp:Nat->Prop,(∀b,fp b->b<w.heap.size)->Chg (λb=>¬fp b) w w'):Sat N sc env H a w':=
 ⟨h.size,h.defers,h.env,λi c hi=>c.stable w w' (h.hold i c hi) (f _ λb e=>c.lt w b (h.hold i c hi) e),h.sep,h.scope⟩
def Sat.chg0(h:Sat N sc env H a w)(b:Chg (λ_=>False) w w'):Sat N sc env H a w':=
 h.chg λf c=>⟨b.os,b.tape,b.output,b.size,λk e g=>b.block k e (λh=>h)⟩
theorem Sat.add   (h:Sat N sc env H a w) (i:Nat) (p:Pc) (D:p.holds w) (m:∀j g,j≠i->lk H j=some g->(p.own=true\/g.own=true)->∀b,p.fp b->g.fp b->False)
  (z:∀b,p.fp b->sc b):Sat N sc env ((i,p)::H) a w:=by
 refine⟨h.size,h.defers,h.env,λj g c=>?_,λj B g s k c e f b q n=>?_,λj g u c b q=>?_⟩
 .by_cases l:i=j
  .subst l;rw [Zv]at c;cases c;exact D
  .rw [Zm l]at c;exact h.hold j g c
 .by_cases l:i=j
  .subst l;rw [Zv]at c;cases c;rw [Zm k]at e;exact m B s (gR k) e (.inl f) b q n
  .rw [Zm l]at c;by_cases r:i=B
   .subst r;rw [Zv]at e;cases e;exact m j g k c (.inr f) b n q
   .rw [Zm r]at e;exact h.sep j B g s k c e f b q n
 .by_cases l:i=j
  .subst l;rw [Zv]at c;cases c;exact z b q
  .rw [Zm l]at c;exact h.scope j g u c b q
def Wide(sc:Nat->Prop)(H:Hp):Prop:=∃w0 M,lk H 0=some (Yt w0 M)/\∀b,w0.heap.size<=b->sc b
theorem Sat.new   (h:Sat N sc env H a w)   (k:lk H 0=some (Yt w0 M0)) (r:∀b,w0.heap.size<=b->sc b) (i:Nat) (p:Pc) (o:Obj)
  (q:p.holds (w.alloc o)) (c:∀b,p.fp b->b=w.heap.size):Sat N sc env ((i,p)::H) a (w.alloc o):=by
 have l:=h.chg0 (Chg.alloc _ w o);have n:w0.heap.size<=w.heap.size:=(h.hold 0 _ k).size;refine l.add i p q (λj g _ m _ b e f=>?_) (λb e=>r b (by rw [c b e];exact n));have:=g.lt w b (h.hold j g m) f;rw [c b e]at this;omega
theorem Zgu (i:Nat)    {z:Value}    (k:o.op= .alloc t) (j:o.dst=some d) (f:Nat.blt d N=true)
  (n:∀w,(zeroValue t).run P w= .ok z w) (h:z.cells=cs) (c:lk H 0=some (Yt w0 M0)) (m:∀b,w0.heap.size<=b->sc b) :
  T P N sc M o env H (G:=Nat) (λ_=>True) (λb=>(d,.pointer (some ⟨b,0,none⟩))::env) (λb=>(i,box b t cs)::H):=λa w hs K Q e=>by
 subst h;have l:(execOp a.eval o).run P w= .ok (.value (.pointer (some ⟨w.heap.size,0,none⟩))) (w.alloc (.cells z.cells t)):=by simp [execOp,k,Instr.alloc,n,newVar,newRow]
 unfold Oper.wp;rw [l];show K (a.put o.dst _) _;rw [j];exact e w.heap.size _ _ aA ((hs.new c m i (box w.heap.size t z.cells) (.cells z.cells t) (heap_alloc_new w _) (λb g=>g)).put d _ f) (Chg.alloc _ _ _)
theorem t_box         (k:o.op= .box t x) (j:o.dst=some d) (f:Nat.blt d N=true)
  (n:ev env x=some v) (h:v.cells=cs) (c:lk H 0=some (Yt w0 M0)) (m:∀b,w0.heap.size<=b->sc b) :
  T P N sc M o env H (G:=Nat) (λ_=>True) (λb=>(d,.pointer (some ⟨b,0,none⟩))::env) (λb=>(i,box b t cs)::H):=λa w hs K Q e=>by
 subst h;have l:(execOp a.eval o).run P w= .ok (.value (.pointer (some ⟨w.heap.size,0,none⟩))) (w.alloc (.cells v.cells t)):=by simp [execOp,k,Instr.box,hs.ev n,newVar,newRow]
 unfold Oper.wp;rw [l];show K (a.put o.dst _) _;rw [j];exact e w.heap.size _ _ aA ((hs.new c m i (box w.heap.size t v.cells) (.cells v.cells t) (heap_alloc_new w _) (λb g=>g)).put d _ f) (Chg.alloc _ _ _)
def One(N:Nat)(sc:Nat->Prop)(env:Xz)(H:Hp)(v:Value):Prop:=∀a w,Sat N sc env H a w->v.oneCell'=true
def Ze(h:v.oneCell'=true):One N sc env H v:=λ_ _ _=>h
theorem Qm (i:Nat){α:Type}{k:Nat}{enc:α->Value}{xs:List α}(b:lk H i=some p)(e:Rd p k enc v xs):One N sc env H v:=λa w hs=>by obtain⟨f,c,rfl,_⟩:=e w (hs.hold i p b);rfl
theorem Zi(h:v.oneCell'=true):v.cells=#[v]:=by cases v<;>simp_all [Value.cells,Value.oneCell']
def Kp{g:Nat}(b:M g):Chg M w (w.setRow g cs):=
 ⟨rfl,rfl,rfl,O7,λk _ c=>setRow_other w g k cs (λe=>c (e▸b))⟩
theorem Sat.upd   (h:Sat N sc env H a w)  {q:Pc} (hi:lk H i=some p) (f:p.own=true) (F:i≠0)
  (z:Chg p.fp w w') (Y:q.holds w') (u:∀b,q.fp b->p.fp b\/w.heap.size<=b)   (R:lk H 0=some (Yt w0 M0)) (Z:∀b,w0.heap.size<=b->sc b) :
  Sat N sc env ((i,q)::H) a w':=by
 refine⟨h.size,h.defers,h.env,λj g c=>?_,λj D g s r c e V b l m=>?_,λj g G c b l=>?_⟩
 .by_cases n:i=j
  .subst n;rw [Zv]at c;cases c;exact Y
  .rw [Zm n]at c;exact g.stable w w' (h.hold j g c) ⟨z.os,z.tape,z.output,z.size,λb l S=>z.block b l (λW=>S (λI=>h.sep i j p g n hi c f b W I))⟩
 .by_cases n:i=j
  .subst n;rw [Zv]at c;cases c;rw [Zm r]at e;rcases u b l with k|k
   .exact h.sep i D p s r hi e f b k m
   .have:=s.lt w b (h.hold D s e) m;omega
  .rw [Zm n]at c;by_cases B:i=D
   .subst B;rw [Zv]at e;cases e;rcases u b m with k|k
    .exact h.sep i j p g (gR r) hi c f b k l
    .have:=g.lt w b (h.hold j g c) l;omega
   .rw [Zm B]at e;exact h.sep j D g s r c e V b l m
 .by_cases n:i=j
  .subst n;rw [Zv]at c;cases c;rcases u b l with k|k
   .exact h.scope i p F hi b k
   .exact Z b (aB (h.hold 0 _ R).size k)
  .rw [Zm n]at c;exact h.scope j g G c b l
def Ip(cs:Array Value)(j:Nat)(vs:List Value):Array Value:=(cs.toList.take j ++ vs ++ cs.toList.drop (j+vs.length)).toArray
theorem Zf1 (vs:List Value)   {c:TypeId} {b j k:Nat} {cs':Array Value}     (I:o.op= .store t x y) (F:o.dst=none)
  (Y:ev env x=some (.pointer (some ⟨b,j,none⟩))) (Z:ev env y=some v) (n:lk H i=some (box b c cs)) (l:i≠0) (V:v.cells=vs.toArray) (m:∀w,(sizeOf t).run P w= .ok k w) (f:vs.length=k)
  (e:j+vs.length<=cs.size) (z:∀u∈vs,One N sc env H u) (g:Ip cs j vs=cs')
  (s:lk H 0=some (Yt w0 M0)) (W:∀b,w0.heap.size<=b->sc b) (D:M b) :
  T P N sc M o env H (G:=Unit) (λ_=>True) (λ_=>env) (λ_=>(i,box b c cs')::H):=λa w hs K Q B=>by
 subst g;have r:w.heap[b]? = some (.cells cs c (0,0)):=hs.hold i _ n;have h:=run_storeCells_at P b j c vs 0 cs w r (by simpa using e) (λu S=>z u S a w hs);simp only [fK]at h;have R:(execOp a.eval o).run P w= .ok .skip (w.setRow b (Ip cs j vs)):=by simp [execOp,I,hs.ev Y,hs.ev Z,Instr.storeAt,Instr.sureAddr,storeVar,V,m,f,h,Ip]
 unfold Oper.wp;rw [R];show K (a.put o.dst _) _;rw [F];exact B () _ _ aA ((hs.upd n rfl l (q:=box b c (Ip cs j vs)) (Kp (M:=λk=>k=b) rfl) (setRow_heap w b cs _ c _ r) (λk m=> .inl m) s W).put_none undef) (Kp D)
theorem t_bs {α:Type}  {e:TypeId} {k n:Nat}      {enc:α->Value} (xs:List α)
  (B:o.op= .buildSlice t n parts) (s:o.dst=some d) (r:Nat.blt d N=true)
  (D:∀a w,Sat N sc env H a w->(Instr.buildSlice t n (parts.map λ(i,x)=>(i,a.eval x))).run P w= .ok (.slice (some ⟨w.heap.size,0,none⟩) n n) (w.alloc (.cells cs e)))
  (f:cs.toList=cellsOf enc xs) (h:xs.length=n) (u:∀x,(enc x).cells.size=k) (z:n<=maxLen)
  (m:lk H 0=some (Yt w0 M0)) (F:∀b,w0.heap.size<=b->sc b) :
  T P N sc M o env H (G:=Nat) (λ_=>True) (λb=>(d,.slice (some ⟨b,0,none⟩) n n)::env) (λb=>(i,Pt k e enc (.slice (some ⟨b,0,none⟩) n n) xs)::H):=λa w hs K Q q=>by
 have j:(execOp a.eval o).run P w= .ok (.value (.slice (some ⟨w.heap.size,0,none⟩) n n)) (w.alloc (.cells cs e)):=by simp only [execOp,B];rw [show(do pure (.value (<-Instr.buildSlice t n (parts.map λ(i,x)=>(i,a.eval x)))):Sem Next)=(Instr.buildSlice t n (parts.map λ(i,x)=>(i,a.eval x)) >>= λv=>pure (.value v))from rfl];rw [Sem.run_bind,D a w hs];rfl
 have c:=Yx u xs;have g:cs.size=n*k:=by rw [<-dC,f,c,h]
 unfold Oper.wp;rw [j];show K (a.put o.dst _) _;rw [s];refine q w.heap.size _ _ aA ((hs.new m F i (Pt k e enc (.slice (some ⟨w.heap.size,0,none⟩) n n) xs) (.cells cs e) ?_ (λb l=>by simp [Pt,Value.ownBlock]at l;exact l.symm)).put d _ r) (Chg.alloc _ _ _);refine⟨by rw [c],.inr ⟨w.heap.size,n,cs,by rw [h],bB _,heap_alloc_new w _,O,z,g,?_⟩⟩;rw [h,<-f,cK (by rw [dC,g];exact aK _)]
theorem Zfn{α:Type}{enc:α->Value}{k:Nat}(f:∀x,(enc x).cells.size=k)(l:0<k)(b:α)(n:Nat):(madeCells (enc b).cells (n*k)).toList=cellsOf enc (List.replicate n b):=by
 apply iP;intro j;by_cases h:j<n*k
 .have m:j/k<n:=iV (by rw [aR];exact h);have e:j%k<k:=bR _ l;have c:(List.replicate n b)[j/k]? = some b:=by simp [m]
  have q:(enc b).cells.toList[j%k]? = some ((enc b).cells[j%k]!):=by
   have:j%k<(enc b).cells.size:=by rw [f];exact e
   rw [getElem!_pos (enc b).cells (j%k) this];simp [this]
  have g:=Kv f (List.replicate n b) (j/k) b c (j%k) _ q;rw [show j/k*k+j%k=j from by rw [aR];exact cM j k]at g;rw [g];simp [madeCells,h,f]
 .rw [bO (by rw [dC,size_madeCells];omega),bO (by rw [Yx f];simp;omega)]
theorem t_mk {α:Type}  {e:TypeId} {k:Nat}  {n c:Nat} {m:Int}   {enc:α->Value} {ti:TypeInfo} (f:α)
  (R:o.op= .makeSlice t x y) (F:o.dst=some d) (D:Nat.blt d N=true) (Y:ev env x=some (.int .i64 m)) (Z:ev env y=some (.int .i64 m)) (I:m=(n:Int))
  (V:P.underlying t=some (.slice e)) (hi:P.info? e=some ti) (hz:ti.zero=some (enc f)) (s:∀x,(enc x).cells.size=k) (h:0<k) (r:ti.size=k) (q:ti.bytes=c)
  (l:c*n<=281474976710656) (g:0<c)
  (z:lk H 0=some (Yt w0 M0)) (W:∀b,w0.heap.size<=b->sc b) :
  T P N sc M o env H (G:=Nat) (λ_=>True) (λb=>(d,.slice (some ⟨b,0,none⟩) n n)::env) (λb=>(i,Pt k e enc (.slice (some ⟨b,0,none⟩) n n) (List.replicate n f))::H):=λa w hs K Q B=>by
 subst I;subst r;subst q;have hn:n<=281474976710656:=aB (Nat.le_mul_of_pos_left n g) l;have j:=run_make (P:=P) w t e ti (enc f) V hi hz .i64 .i64 n n O (fV _) (by rw [<-fP];omega) O;simp only [Int.toNat_natCast]at j;have S:(execOp a.eval o).run P w= .ok (.value (.slice (some ⟨w.heap.size,0,none⟩) n n)) (w.alloc (.cells (madeCells (enc f).cells (n*ti.size)) e)):=by simp [execOp,R,hs.ev Y,hs.ev Z,j]
 unfold Oper.wp;rw [S];show K (a.put o.dst _) _;rw [F];refine B w.heap.size _ _ aA ((hs.new z W i (Pt ti.size e enc (.slice (some ⟨w.heap.size,0,none⟩) n n) (List.replicate n f)) _ ?_ (λb l=>by simp [Pt,Value.ownBlock]at l;exact l.symm)).put d _ D) (Chg.alloc _ _ _);have u:=Yx s (List.replicate n f);refine⟨by rw [u],.inr ⟨w.heap.size,n,_,O7,bB _,heap_alloc_new w _,O7,by simp [maxLen];omega,by rw [size_madeCells],?_⟩⟩;rw [Zfn s h,cK (by rw [u];exact aK _)]
theorem Zbl{α:Type}{enc:α->Value}{k:Nat}(b:∀x,(enc x).cells.size=k):∀(xs:List α) (i:Nat) (x:α),i<xs.length->
  cellsOf enc (xs.set i x)=(cellsOf enc xs).take (i*k) ++ (enc x).cells.toList ++ (cellsOf enc xs).drop (i*k+k)
 | [],_,_,h=>by simp at h
 | y::r,0,x,_=>by simp only [nJ,cellsOf,gU,gV,dY,fD,bP];rw [fW (by simp [b])];rw [gE (by simp [b])];simp
 | y::r,i+1,x,h=>by
  have c:=Zbl b r i x (by simpa using h);simp only [cellsOf,List.set_cons_succ,gU]at c ⊢;rw [c];have e:(enc y).cells.toList.length=k:=by simp [b]
  rw [show(i+1)*k=(enc y).cells.toList.length+i*k from by rw [e,bI];omega];rw [kW,fT,List.drop_length_add_append];simp
theorem Lk (i:Nat) {α:Type}   {e:TypeId} {j k:Nat} {u:Value} {enc:α->Value} {xs:List α} {z:α}   (ho:o.op= .store t x y) (hd:o.dst=none)
  (hx:ev env x=some (.pointer (some (ead v j k)))) (hy:ev env y=some u) (hu:u=enc z) (Y:lk H i=some (Pt k e enc v xs)) (n:Enc P t k enc) 
  (h0:lk H 0=some (Yt w0 M0)) (hw:∀b,w0.heap.size<=b->sc b) (V:i≠0:=by decide) (B:j<xs.length:=by omega) :
  T P N sc (λ_=>True) o env H (G:=Unit) (λ_=>True) (λ_=>env) (λ_=>(i,Pt k e enc v (xs.set j z))::H):=λa w hs K Q hK=>by
 subst hu;have F:w.ownsRow 0 e k v xs.length (cellsOf enc xs):=hs.hold i _ Y;have a0:=n.pos;rcases F.2 with⟨rfl,hn⟩|⟨g,l,h,rfl,hb,Z,D,S,s,r⟩
 .omega
 .have a2:j*k+k<=xs.length*k:=by rw [<-eF];exact aM k B
  have a1:xs.length*k<=l*k:=aM k D;have c:(enc z).cells.toList.length=k:=by simp [n.cells]
  have I:=run_storeCells_at P g (j*k) e (enc z).cells.toList 0 h w Z (by rw [c,s];omega) (n.one z);simp only [fK,c]at I;have hr:(execOp a.eval o).run P w= .ok .skip (w.setRow g (h.toList.take (j*k) ++ (enc z).cells.toList ++ h.toList.drop (j*k+k)).toArray):=by simp [execOp,ho,hs.ev hx,hs.ev hy,Instr.storeAt,Instr.sureAddr,storeVar,n.cells,n.size,ead,Pb,I]
  unfold Oper.wp;rw [hr];show K (a.put o.dst _) _;rw [hd];refine hK () _ _ aA ((hs.upd Y rfl V (q:=Pt k e enc (.slice (some ⟨g,0,none⟩) xs.length l) (xs.set j z)) (Kp (M:=λk=>(Value.slice (some ⟨g,0,none⟩) xs.length l).ownBlock=some k) rfl) ?_ (λk hk=> .inl hk) h0 hw).put_none undef) (Kp aA);have f:h.toList.length=l*k:=by rw [dC,s]
  refine⟨by rw [Yx n.cells],.inr ⟨g,l,_,O7,hb,setRow_heap w g h _ e _ Z,by simpa using D,S,?_,?_⟩⟩
  .simp only [iR,aS,aU,eJ,c,f];omega
  .rw [Zbl n.cells xs j z B,<-r];simp only [cI];apply iP;intro q;have m:(h.toList.take (j*k)).length=j*k:=by rw [aU,f];omega
   by_cases R:q<j*k
   .rw [cP,aF O];rw [dV,cQ (by rw [m];exact R),dV,cQ (by rw [aU,aU,f];omega)];rw [cP,cP,cP,aF R,aF R,aF O]
   .by_cases h2:q<j*k+k
    .rw [cP,aF O];rw [dV,dW (by rw [m];omega),m,cQ (by rw [c];omega)];rw [dV,dW (by rw [aU,aU,f];omega)];rw [cQ (by rw [c,aU,aU,f];omega)];congr 1;rw [aU,aU,f];omega
    .by_cases W:q<xs.length*k
     .rw [cP,aF W];rw [dW (by rw [aS,m,c];omega),aS,m,c,gJ];rw [dW (by rw [aS,aU,aU,f,c];omega),gJ,cP];rw [aS,aU,aU,f,c,aF O];congr 1;omega
     .rw [cP,aD W];rw [bO];simp only [aS,aU,eJ,c,f];omega
end Go.Sky
namespace Go.Sky
open Go.RowKit Below
variable{w w0:World}{o:Oper}{t tb:TypeId}{d b:Nat}{v v1 v2:Value}{p:Pc}{M0:Nat->Prop}{r pre:List Pc}{f:FuncId}{xs:List Operand}{ats:Array TypeId}{vs:List Value}{a:Act}{fn:Func}{args:Array Value}
variable {P:Program} {N:Nat} {sc:Nat->Prop} {env env':Xz} {H H':Hp} {Q Q':Exit->Act->World->Prop} {M:Nat->Prop}
theorem Zci  (t ty e:TypeId) (ti:TypeInfo) (z:Value) (l a0:Nat) (ht:P.underlying t=some (.slice e)) (hi:P.info? e=some ti) (hz:ti.zero=some z)
    (Y:ti.size=l) (a6:ti.bytes=a0) (a9:z.cells.size=l) (b1:0<l)
    (v:Value) (n:Nat) (xs:List Value) (i:w.ownsRow 0 e l v n xs)
    (a:Addr) (m c:Nat) (h:List Value) (V:h.length=m*l) (s:∀j u,h[j]? = some u->w.cell? (a.add j)=some u) (h1:∀u∈h,u.oneCell'=true)
    (a1:n+m<=maxLen) (y:(n+m)*a0<=140737488355328) :
    ∃v' w',(Builtin.append_ #[t,t] ty #[v,.slice (some a) m c]).run P w= .ok v' w'/\w'.ownsRow 0 e l v' (n+m) (xs ++ h)/\w.grownBy w' v.ownBlock/\
      (∀b,v'.ownBlock=some b->v.ownBlock=some b\/w.heap.size<=b):=by
  subst Y;subst a6;have a4:n+m<=9223372036854775807:=by simp only [maxLen]at a1;omega
  have B:(xs ++ h).length=(n+m)*ti.size:=by rw [aS,i.1,V,bI]
  have G:∀(q:Nat),q<n+m->∀(a3:Option Nat),
      (w.drew.alloc (.cells (xs.toArray ++ h.toArray ++ Builtin.zeroCells z.cells (grownCap w (n+m) q e-(n+m))) e)).ownsRow 0 e ti.size
        (.slice (some ⟨w.heap.size,0,none⟩) (n+m) (grownCap w (n+m) q e)) (n+m) (xs ++ h)/\
      w.grownBy (w.drew.alloc (.cells (xs.toArray ++ h.toArray ++ Builtin.zeroCells z.cells (grownCap w (n+m) q e-(n+m))) e)) a3:=by
    intro q ho a3;have a8:=grownCap_ge w (n+m) q e;have S:grownCap w (n+m) q e<=maxLen:=grownCap_le_maxLen w (n+m) q e a1;refine⟨⟨B,.inr ⟨w.heap.size,_,_,rfl,bB _,heap_alloc_new w.drew _,a8,S,?_,?_⟩⟩,⟨rfl,rfl,rfl,O7,λk hk _=>heap_alloc_old w.drew _ k hk⟩⟩
    . simp only [Array.size_append,iR,size_zeroCells,a9,i.1,V,<-bI];congr 1;omega
    . simp only [Array.toList_append,dV];rw [<-dV,<-B];exact mV
  rcases i.2 with⟨rfl,rfl⟩|⟨g,D,R,rfl,a5,hg,b0,S,a7,Z⟩
  . have hx:xs=[]:=aE (by simpa using i.1);subst hx;by_cases hm:m=0
    . subst hm;have hn:h=[]:=aE (by simpa using V);subst hn;refine⟨.slice none 0 0,w,?_,World.ownsRow_nil w 0 e ti.size,⟨rfl,rfl,rfl,aK _,λ_ _ _=>rfl⟩,λb I=>by simp [Value.ownBlock]at I⟩;simp [Builtin.append_,run_underlying ht,sizeOf,typeInfo,hi,Builtin.lenOf,Builtin.firstCells,loadCells,loadCellsFrom]
    . have hr:=run_append_nil (P:=P) w t ty e ti z ht hi hz a m c h V s O O (by have I:=y;simp only [bP]at I;omega);have F:=G 0 O (Value.ownBlock (.slice none 0 0));simp only [bP,fD,Array.empty_append]at F ⊢;refine⟨_,_,hr,F.1,F.2,λb I=> .inr ?_⟩;simp [Value.ownBlock]at I;omega
  . by_cases x:n+m<=D
    . have a2:n*ti.size+h.length<=R.size:=by rw [V,a7,<-bI];exact aM _ x
      have hr:=run_append_room (P:=P) w t ty e ti ht hi g n D R hg a m c h V s h1 x a2;refine⟨_,_,hr,⟨B,.inr ⟨g,D,_,rfl,a5,setRow_heap w g R _ e _ hg,x,S,?_,?_⟩⟩,⟨rfl,rfl,rfl,O7,λk _ hk=>setRow_other w g k _ (λe=>hk (by simp [Value.ownBlock,e]))⟩,λb I=> .inl (by simpa [Value.ownBlock]using I)⟩
      . simp only [iR,aS,aU,eJ,dC];omega
      . rw [Z,<-B];exact mV
    . have W:∀j u,xs[j]? = some u->w.cell? ((⟨g,0,none⟩:Addr).add j)=some u:=i.cells (g:=g) rfl;have hr:=run_append_grow (P:=P) w t ty e ti z ht hi hz ⟨g,0,none⟩ n D xs i.1 W a m c h V s O O (growslice_fits O y);have F:=G D O (Value.ownBlock (.slice (some ⟨g,0,none⟩) n D));refine⟨_,_,hr,F.1,F.2,λb I=> .inr ?_⟩;simp [Value.ownBlock]at I;omega
theorem Li{α:Type}(enc:α->Value)(xs ys:List α):cellsOf enc (xs ++ ys)=cellsOf enc xs ++ cellsOf enc ys:=by simp [cellsOf]
theorem t_app {α:Type}  {x y:Operand} {e:TypeId} {i i2 j k l:Nat} {u:Value} {enc:α->Value} {xs ys:List α}  {ti:TypeInfo} {z:Value}  
    (ho:o.op= .call { callee:= .builtin .append,args:=#[x,y],argTypes:=#[t,t] }) (hd:o.dst=some d) (hN:Nat.blt d N=true)
    (hx:ev env x=some v) (hy:ev env y=some u) (hH:lk H i=some (Pt k e enc v xs)) (a3:i≠0) (hj:lk H j=some p) (hr:Rd p k enc u ys) (b0:ys≠[])
    (ht:P.underlying t=some (.slice e)) (hi:P.info? e=some ti) (hz:ti.zero=some z) (s:Enc P e k enc) (a4:ti.size=k) (a1:ti.bytes=l) (b1:z.cells.size=k)
    (n:(xs.length+ys.length)*l<=140737488355328) (B:0<l)
    (h0:lk H 0=some (Yt w0 M0)) (hw:∀b,w0.heap.size<=b->sc b) :
    T P N sc (λ_=>True) o env H (G:=Value) (λ_=>True) (λv'=>(d,v')::env) (λv'=>(i,Pt k e enc v' (xs ++ ys))::H):=λa w hs K Q hK=>by
  have S:w.ownsRow 0 e k v xs.length (cellsOf enc xs):=hs.hold i _ hH;obtain⟨ad,c,rfl,h1,h2,Z⟩:=hr w (hs.hold j p hj);rcases Z with rfl|⟨g,W,rfl,Z⟩
  . exact absurd rfl b0
  have a9:∀q u,(cellsOf enc ys)[q]? = some u->w.cell? ((⟨g,W,none⟩:Addr).add q)=some u:=λq u hq=>by
    have a5:q<ys.length*k:=by rw [<-Yx s.cells ys];exact(eY.1 hq).1
    have I:=s.pos;have a2:q/k<ys.length:=iV (by rw [aR];exact a5);have m:ys[q/k]? = some ys[q/k]:=aH a2;have a7:q%k<(enc ys[q/k]).cells.toList.length:=by rw [dC,s.cells];exact bR _ I
    have Y:=aH a7;have h4:=Kv s.cells ys _ _ m _ _ Y;have h5:=Z _ _ m _ _ Y;have R:q/k*k+q%k=q:=by rw [aR];exact cM q k
    rw [R]at h4;rw [fT,R]at h5;rw [hq]at h4;cases h4;rw [Pb];exact h5
  have F:∀u∈cellsOf enc ys,u.oneCell'=true:=λu Y=>by obtain⟨y,_,hy⟩:=kD.1 Y;exact s.one y u hy
  have b2:xs.length+ys.length<=140737488355328:=aB (eK _ B) n;obtain⟨v',w',V,a6,h,a0⟩:=Zci (P:=P) t o.type e ti z k l ht hi hz a4 a1 b1 s.pos v xs.length (cellsOf enc xs) S ⟨g,W,none⟩ ys.length c (cellsOf enc ys)
    (Yx s.cells ys) a9 F (by simp only [maxLen];omega) n
  have a8:(execOp a.eval o).run P w= .ok (.value v') w':=by simp only [execOp,ho,resolve,invoke,builtin,Sem.run_bind,Sem.run_pure,Result.andThen_ok,gI,bN,fL,hs.ev hx,hs.ev hy,V]
  unfold Oper.wp;rw [a8];show K (a.put o.dst _) _;rw [hd];have D:Chg (λb=>v.ownBlock=some b) w w':=⟨h.os,h.tape,h.output,h.size,λb n hn=>h.block b n (λe=>hn e.symm)⟩;refine hK v' _ _ aA ((hs.upd hH rfl a3 (q:=Pt k e enc v' (xs ++ ys)) D ?_ (λb n=>a0 b n) h0 hw).put d _ hN) ⟨h.os,h.tape,h.output,h.size,λb n hn=>absurd aA hn⟩;show w'.ownsRow 0 e k v' (xs ++ ys).length (cellsOf enc (xs ++ ys));rw [Li,aS];exact a6
def Cal(P:Program)(f:FuncId)(args:Array Value)(pre:List Pc)(al:Bool){G:Type}(φ:G->Prop)(val:G->Value)(c:G->List Pc):Prop:=
  ∀w,(∀p∈pre,p.holds w)->Calls P f args w λe h=>∃g,e= .returned (val g)/\φ g/\Below w.heap.size w h/\
    ∀p∈c g,p.holds h/\p.own=false/\∀b,p.fp b->w.heap.size<=b\/(al=true/\∃q∈pre,q.fp b)
@[reducible] def adds:Nat->List Pc->Hp->Hp
  | _,[],H=>H
  | n,p::r,H=>(n,p)::adds (n+1) r H
def PreOk(H:Hp)(al:Bool):List Pc->Prop
  | []=>True
  | p::r=>(∃i c,i≠0/\lk H i=some c/\(∀w,c.holds w->p.holds w)/\(∀b,p.fp b->c.fp b)/\(al=true->c.own=false))/\PreOk H al r
theorem PreOk.mem{al:Bool} : ∀{pre:List Pc},PreOk H al pre->∀p∈pre,∃i c,i≠0/\lk H i=some c/\(∀w,c.holds w->p.holds w)/\(∀b,p.fp b->c.fp b)/\(al=true->c.own=false)
  | p::r,h,q,e=>by
    cases e with
    | head=>exact h.1
    | tail _ e=>exact PreOk.mem h.2 q e
def Zu{al:Bool} : PreOk H al []:=aA
theorem Zx{al:Bool}(i:Nat)(hi:lk H i=some p)(c:Nat.beq i 0=false)(g:p.own=false)(h:PreOk H al r):PreOk H al (p::r):=
  ⟨⟨i,p,λe=>by subst e;simp at c,hi,λ_ h=>h,λ_ h=>h,λ_=>g⟩,h⟩
theorem Zo6{α:Type}{k:Nat}{e:TypeId}{enc:α->Value}{xs:List α}(i:Nat)(hi:lk H i=some (Pt k e enc v xs))(c:Nat.beq i 0=false)(j:Enc P t k enc)(h:PreOk H false r):PreOk H false (Yg k enc v xs::r):=
  ⟨⟨i,_,λe=>by subst e;simp at c,hi,λw h=>⟨Dr j.cells h,λb g=>(h.lt b g.2).2⟩,λ_ h=>h.2,λh=>by cases h⟩,h⟩
theorem Sat.adds{a:Act}{w:World}{w1:World} : ∀(l:List Pc) (n:Nat) {H:Hp},Sat N sc env H a w->(∀p∈l,p.holds w/\p.own=false/\(∀b,p.fp b->sc b)/\
    ∀j c,lk H j=some c->c.own=true->∀b,p.fp b->c.fp b->False)->Sat N sc env (adds n l H) a w
  | [],_,_,h,_=>h
  | p::r,n,H,h,hl=>by
    have s:=Sat.adds (w1:=w1) r (n+1) h (λq e=>hl q (bJ _ e));obtain⟨y,z,B,D⟩:=hl p (bX ..);have u:∀(l:List Pc) (m:Nat) (H:Hp) (j:Nat) (c:Pc),(∀q∈l,q.own=false)->lk (Sky.adds m l H) j=some c->c.own=true->lk H j=some c:=by
      intro l
      induction l with
      | nil=>intro m H j c _ h _;exact h
      | cons q l s=>
        intro m H j c e h i;by_cases x:m=j
        . subst x;simp only [Sky.adds]at h;rw [Zv]at h;cases h;rw [e q (bX ..)]at i;cases i
        . simp only [Sky.adds]at h;rw [Zm x]at h;exact s (m+1) H j c (λq k=>e q (bJ _ k)) h i
    refine s.add n p y (λj c _ G Lj b F g=>?_) B;rcases Lj with Lj|Lj
    . rw [z]at Lj;cases Lj
    . exact D j c (u r (n+1) H j c (λq e=>(hl q (bJ _ e)).2.1) G Lj) Lj b F g
def evs(e:Xz):List Operand->Option (List Value)
  | []=>some []
  | x::r=>match ev e x,evs e r with
    | some v,some vs=>some (v::vs)
    | _,_=>none
def EvL(e:Xz):List Operand->List Value->Prop
  | [],[]=>True
  | x::r,v::vs=>ev e x=some v/\EvL e r vs
  | _,_=>False
theorem EvL.map{a:Act}{w:World}(h:Sat N sc env H a w):∀{xs:List Operand} {vs:List Value},EvL env xs vs->xs.map a.eval=vs
  | [],[],_=>rfl
  | x::r,v::vs,hh=>by simp only [bN,h.ev hh.1,EvL.map h hh.2]
  | [],_::_,hh=>hh.elim
  | _::_,[],hh=>hh.elim
theorem Ea (n:Nat)        {al:Bool} {G:Type} {φ:G->Prop} {val:G->Value} {y:G->List Pc}  
    (hc:Cal P f vs.toArray pre al φ val y)
    (ho:o.op= .call { callee:= .value (.func f),args:=xs.toArray,argTypes:=ats }) (hd:o.dst=some d) (hN:Nat.blt d N=true)
    (m:EvL env xs vs) (s:∀args w,(callFunc f args).run P w= .ok (.enter f args) w) (k:PreOk H al pre)
    (h0:lk H 0=some (Yt w0 M0)) (hw:∀b,w0.heap.size<=b->sc b) :
    T P N sc M o env H φ (λg=>(d,val g)::env) (λg=>adds n (y g) H):=λa w hs K Q hK=>by
  have hr:(execOp a.eval o).run P w= .ok (.enter f vs.toArray) w:=by have hm:=m.map hs;simp [execOp,ho,resolve,invoke,Act.eval,Deferred.ofValue,hm,s]
  unfold Oper.wp;rw [hr];refine(hc w (λp Z=>by obtain⟨i,R,_,hi,F,_,_⟩:=k.mem p Z;exact F w (hs.hold i R hi))).mono ?_
  rintro e w' ⟨g,rfl,hg,l,I⟩;show K (a.put o.dst (val g)) w';rw [hd];have a0:Sat N sc env H a w':=hs.chg0 (Chg.of_below l);refine hK g _ _ hg (Sat.put (a0.adds (w1:=w) (y g) n ?_) d _ hN) (Chg.of_below l);intro p Z;obtain⟨h1,h2,h3⟩:=I p Z;refine⟨h1,h2,λb W=>?_,λj jt S c b W z=>?_⟩
  . rcases h3 b W with h|⟨_,q,hq,x⟩
    . exact hw b (aB (hs.hold 0 _ h0).size h)
    . obtain⟨i,R,B,hi,_,u,_⟩:=k.mem q hq;exact hs.scope i R B hi b (u b x)
  . rcases h3 b W with h|⟨V,q,hq,x⟩
    . have:=jt.lt w b (hs.hold j jt S) z;omega
    . obtain⟨i,R,B,hi,_,u,Y⟩:=k.mem q hq;by_cases D:j=i
      . subst D;rw [hi]at S;cases S;rw [Y V]at c;cases c
      . exact hs.sep j i jt R D S hi c b z (u b x)
def RV(P:Program)(N:Nat)(sc:Nat->Prop)(env:Xz)(H:Hp)(r:ResultVar)(v:Value):Prop:=
  match r with
  | .tmp t=>lk env t=some v
  | .cell c t=>∃e,lk env c=some (.pointer (some e))/\∀a w,Sat N sc env H a w->(loadVar t e).run P w= .ok v w
theorem Hu (i:Nat) {c:Tmp}  {k:Nat}  (h:lk env c=some (.pointer (some ⟨b,0,none⟩))) (g:lk H i=some (box b tb vs.toArray)) (m:∀w,(isAgg t).run P w= .ok true w) (j:∀w,(sizeOf t).run P w= .ok k w)
    (l:vs.length=k):RV P N sc env H (.cell c t) (.agg vs.toArray):=⟨_,h,λa w hs=>by
  have e:=run_loadCells_list (P:=P) w ⟨b,0,none⟩ vs (λn u q=>by rw [Pb,hs.boxc g];simpa using q);rw [l]at e;simp [loadVar,m,j,e]⟩
theorem Yaa{c:Tmp}{i:Nat}(g:lk env c=some (.pointer (some ⟨b,0,none⟩)))(e:lk H i=some (box b tb #[v]))(j:∀w,(isAgg t).run P w= .ok false w) :
    RV P N sc env H (.cell c t) v:=⟨_,g,λa w hs=>by
  have h:=hs.boxc e 0;simp at h;simp [loadVar,j,load,Sem.run,h]⟩
theorem Zcd{r1:ResultVar}(hs:Sat N sc env H a w)(g:fn.results=#[r1])(e:RV P N sc env H r1 v1):(results fn a.tmps).run P w= .ok v1 w:=by
  cases r1 with
  | tmp t=>have:=hs.env t v1 e;rw [bH]at this;simp [results,g,this]
  | cell c t=>obtain⟨j,h,i⟩:=e;have:=hs.env c _ h;rw [bH]at this;simp [results,g,this,asAddr,i a w hs]
theorem Zh9{r1 r2:ResultVar}(hs:Sat N sc env H a w)(k:fn.results=#[r1,r2])(h:RV P N sc env H r1 v1)(e:RV P N sc env H r2 v2) :
    (results fn a.tmps).run P w= .ok (.tuple #[v1,v2]) w:=by
  cases r1 with
  | tmp t=>
    have h:=hs.env t v1 h;rw [bH]at h;cases r2 with
    | tmp j=>have e:=hs.env j v2 e;rw [bH]at e;simp [results,k,h,e]
    | cell l j=>obtain⟨q,g,m⟩:=e;have g:=hs.env l _ g;rw [bH]at g;simp [results,k,h,g,asAddr,m a w hs]
  | cell c t=>
    obtain⟨s,i,n⟩:=h;have i:=hs.env c _ i;rw [bH]at i;cases r2 with
    | tmp j=>have e:=hs.env j v2 e;rw [bH]at e;simp [results,k,i,asAddr,n a w hs,e]
    | cell l j=>obtain⟨q,g,m⟩:=e;have g:=hs.env l _ g;rw [bH]at g;simp [results,k,i,asAddr,n a w hs,g,m a w hs]
def Ygw(tmps:Array Value):ResultVar->Sem Value
  | .tmp t=>pure (tmps.getD t undef)
  | .cell c t=>do loadVar t (<-asAddr (tmps.getD c undef))
theorem Zru{r:ResultVar}(hs:Sat N sc env H a w)(h:RV P N sc env H r v):(Ygw a.tmps r).run P w= .ok v w:=by
  cases r with
  | tmp t=>have:=hs.env t v h;simp only [Ygw,this];rfl
  | cell c t=>obtain⟨i,e,g⟩:=h;have:=hs.env c _ e;simp only [Ygw,this,asAddr,Sem.run_bind,Sem.run_pure,Result.andThen_ok,g a w hs]
def Zh8(fn:Func)(tmps:Array Value):results fn tmps=(do let vs ←fn.results.mapM (Ygw tmps);pure (if h:vs.size=1 then vs[0]else .tuple vs)):=rfl
theorem Yan{r1 r2 r3:ResultVar}{c:Value}(hs:Sat N sc env H a w)(i:fn.results=#[r1,r2,r3])(e:RV P N sc env H r1 v1)(g:RV P N sc env H r2 v2)(h:RV P N sc env H r3 c) :
    (results fn a.tmps).run P w= .ok (.tuple #[v1,v2,c]) w:=by
  rw [Zh8,i];simp [Zru hs e,Zru hs g,Zru hs h]
def Zag(P:Program)(fn:Func)(w0:World)(pre:List Pc)(al:Bool){G:Type}(φ:G->Prop)(val:G->Value)(c:G->List Pc):Exit->Act->World->Prop:=
  bodyPost P fn λe h => ∃ g, e = .returned (val g) /\ φ g /\ Below w0.heap.size w0 h /\
        ∀p∈c g,p.holds h/\p.own=false/\∀b,p.fp b->w0.heap.size<=b\/(al=true/\∃q∈pre,q.fp b)
theorem Zye   {c:Code}   {al:Bool} {G:Type} {φ:G->Prop} {val:G->Value} {n:G->List Pc} {N:Nat} {env0:Xz} (k:World->Hp)
    (I:P.funcs[f]? = some fn) (g:fn.body=some c) (D:fn.ntmps=N) (l:∀t v,lk env0 t=some v->args[t]? = some v) (R:args.size<=N)
    (e:∀w,∀i p,lk (k w) i=some p->(i=0/\p=Yt w (λ_=>False))\/(i≠0/\p∈pre/\p.own=false))
    (h:∀w0 (sc:Nat->Prop),(∀b,w0.heap.size<=b->sc b)->(∀b,sc b->w0.heap.size<=b\/∃q∈pre,q.fp b)->
      E P N sc c (Zag P fn w0 pre al φ val n) env0 (k w0)) :
    Cal P f args pre al φ val n:=λw V=>by
  refine calls_of_wp I g (h w (λb=>w.heap.size<=b\/∃q∈pre,q.fp b) (λb g=> .inl g) (λb g=>g) _ w ?_);refine⟨by simp [D];omega,rfl,λt v W=>?_,λi p hi=>?_,λi j p q S hi Y y b g F=>?_,λi p u hi b g=>?_⟩
  . have z:=l t v W;have x:=(aO.1 z).1;rw [bH,eR x,z];rfl
  . rcases e w i p hi with⟨_,rfl⟩|⟨_,s,_⟩
    . exact Chg.refl _ w
    . exact V p s
  . rcases e w i p hi with⟨_,rfl⟩|⟨_,s,m⟩
    . cases y
    . rw [m]at y;cases y
  . rcases e w i p hi with⟨B,_⟩|⟨_,s,_⟩
    . exact absurd B u
    . exact .inr ⟨p,s,g⟩
def Kd(h:(Yt w0 (λ_=>False)).holds w):Below w0.heap.size w0 w:=
  ⟨h.os,h.tape,h.output,h.size,λk c=>h.block k c (λh=>h)⟩
def Give(H:Hp)(al:Bool):List Pc->Prop
  | []=>True
  | p::r=>(p.own=false/\((∃i c,i≠0/\lk H i=some c/\(∀w,c.holds w->p.holds w)/\(∀b,p.fp b->c.fp b)/\(al=false->c.own=true))\/((∀w,p.holds w)/\∀b,¬p.fp b)))/\Give H al r
theorem Give.mem{al:Bool} : ∀{l:List Pc},Give H al l->∀p∈l,p.own=false/\((∃i c,i≠0/\lk H i=some c/\(∀w,c.holds w->p.holds w)/\(∀b,p.fp b->c.fp b)/\(al=false->c.own=true))\/((∀w,p.holds w)/\∀b,¬p.fp b))
  | p::r,h,q,e=>by
    cases e with
    | head=>exact h.1
    | tail _ e=>exact Give.mem h.2 q e
def Za{al:Bool} : Give H al []:=aA
theorem Ig(i:Nat)(hi:lk H i=some p)(c:Nat.beq i 0=false)(g:p.own=false)(h:Give H true r):Give H true (p::r):=
  ⟨⟨g,.inl ⟨i,p,λe=>by subst e;simp at c,hi,λ_ h=>h,λ_ h=>h,λh=>by cases h⟩⟩,h⟩
theorem Ycl{al:Bool}{α:Type}{k:Nat}{e:TypeId}{enc:α->Value}{xs:List α}(i:Nat)(hi:lk H i=some (Pt k e enc v xs))(c:Nat.beq i 0=false)(j:Enc P t k enc)(h:Give H al r) :
    Give H al (Yg k enc v xs::r):=
  ⟨⟨rfl,.inl ⟨i,_,λe=>by subst e;simp at c,hi,λw h=>⟨Dr j.cells h,λb g=>(h.lt b g.2).2⟩,λ_ h=>h.2,λ_=>rfl⟩⟩,h⟩
theorem Br{α:Type}(k:Nat)(enc:α->Value)(w:World):(Yg k enc (.slice none 0 0) ([]:List α)).holds w:=⟨⟨none,0,rfl,aK _,O7,.inl rfl⟩,λb c=>by simp [Value.ownBlock]at c⟩
theorem Pj{al:Bool}{α:Type}{k:Nat}{enc:α->Value}{xs:List α}(e:xs=[])(h:Give H al r):Give H al (Yg k enc (.slice none 0 0) xs::r):=by subst e;exact⟨⟨rfl,.inr ⟨λw=>Br k enc w,λb c=>by simp [Yg,Value.ownBlock]at c⟩⟩,h⟩
theorem Zn0   {al:Bool} {G:Type} {φ:G->Prop} {val:G->Value} {j:G->List Pc}  {e:Exit} (Y:e= .ret\/e= .normal) (F:∀b,sc b->w0.heap.size<=b\/∃q∈pre,q.fp b)
    (g:G) (v:Value) (s:∀a w,Sat N sc env H a w->(results fn a.tmps).run P w= .ok v w) (hv:val g=v) (Z:φ g) (R:lk H 0=some (Yt w0 (λ_=>False))) (c:Give H al (j g)) :
    X N sc e (Zag P fn w0 pre al φ val j) env H:=λa w hs=>by
  have u : a.defers = [] /\ ∃ v, (results fn a.tmps).run P w = .ok v w /\ (∃ g, Ending.returned v = .returned (val g) /\ φ g /\ Below w0.heap.size w0 w /\
        ∀p∈j g,p.holds w/\p.own=false/\∀b,p.fp b->w0.heap.size<=b\/(al=true/\∃q∈pre,q.fp b)):=by
    refine⟨hs.defers,v,s a w hs,g,by rw [hv],Z,Kd (hs.hold 0 _ R),λp hp=>?_⟩;obtain⟨S,h|⟨V,W⟩⟩:=c.mem p hp
    case inr=>exact⟨V w,S,λb y=>absurd y (W b)⟩
    obtain⟨i,I,l,hi,m,z,x⟩:=h;refine⟨m w (hs.hold i I hi),S,λb y=>?_⟩;have k:=z b y;cases al with
    | true=>
      rcases F b (hs.scope i I l hi b k)with h|h
      . exact .inl h
      . exact .inr ⟨rfl,h⟩
    | false=>
      have n:=x rfl;have hn:=hs.sep i 0 I _ l hi R n b k;refine .inl ?_;rcases bE b w0.heap.size with D|B
      . exact absurd ⟨D,λh=>h⟩ hn
      . exact B
  rcases Y with rfl|rfl
  . exact u
  . exact u
end Go.Sky

