/- Rules, arithmetic and contracts: part 1. No conditions but those that each theorem names. -/
import Derived.Tactics
import Derived.Tactics2
import Derived.Orders
import Derived.Below
import Derived.Laws.AppendOwn
import Derived.Laws.MakeOwn
import Derived.KernelRfl
set_option linter.all false
def aA:=@trivial
def aB:=@Nat.le_trans
def aC:=@List.eq_nil_of_length_eq_zero
def aD:=@List.length_pos_iff
def aE:=@congrArg
def aF:=@decide_eq_false
def aG:=@if_neg
def aH:=@Rat.mul_nonneg
def aI:=@Nat.le_refl
def aJ:=@decide_eq_true
def aK:=@List.getD_eq_getElem?_getD
def aL:=@Nat.mul_le_mul_right
def aM:=@if_pos
def aN:=@List.getElem?_eq_getElem
def aO:=@List.length_replicate
def aP:=@Nat.mul_le_mul
def aQ:=@Nat.div_div_eq_div_mul
def aR:=@Bool.and_eq_true
def aS:=@Array.getElem?_eq_some_iff
def aT:=@List.length_map
def aU:=@Rat.mul_pos
def aV:=@Nat.eq_zero_or_pos
def aW:=@Nat.lt_of_le_of_lt
def aX:=@Nat.lt_or_ge
def aY:=@Nat.mul_le_mul_left
def aZ:=@Nat.lt_succ_iff_lt_or_eq
def bA:=@Nat.zero_le
def bB:=@List.mem_cons
def bC:=@Int.mul_ne_zero
def bD:=@Nat.mul_comm
def bE:=@List.mem_cons_of_mem
def bF:=@decide_eq_decide
def bG:=@Nat.mod_eq_of_lt
def bH:=@Classical.byContradiction
def bI:=@List.mem_singleton
def bJ:=@Nat.mod_lt
def bK:=@List.mem_cons_self
def bL:=@List.length_append
def bM:=@List.length_set
def bN:=@Nat.not_lt_zero
def bO:=@Array.getD_eq_getD_getElem?
def bP:=@List.map_cons
def bQ:=@List.take_length
def bR:=@Decidable.byContradiction
def bT:=@List.getElem?_eq_none
def bW:=@Nat.div_lt_iff_lt_mul
def bX:=@Int.natAbs_mul
def bZ:=@Nat.pow_pos
def cC:=@Nat.pow_add
def cD:=@List.length_take
def cE:=@Nat.zero_add
def cF:=@of_decide_eq_true
def cH:=@Nat.pow_succ
def cI:=@List.take_of_length_le
def cJ:=@List.all_eq_true
def cK:=@Nat.add_mul
def cL:=@Nat.div_add_mod
def cM:=@Nat.div_eq_of_lt
def cN:=@Int.zero_mul
def cP:=@List.mem_append
def cQ:=@Nat.pow_le_pow_right
def cS:=@Rat.le_of_lt
def cT:=@Rat.mul_le_mul_of_nonneg_right
def cW:=@List.mem_iff_getElem
def cY:=@Nat.succ_mul
def cZ:=@Nat.le_mul_of_pos_right
def dA:=@decide_eq_true_eq
def dB:=@Rat.pow_succ
def dC:=@Int.natAbs_natCast
def dD:=@List.map_append
def dE:=@Int.pow_zero
def dG:=@Int.pow_succ
def dH:=@Nat.mul_assoc
def dI:=@List.not_mem_nil
def dJ:=@Nat.min_eq_left
def dK:=@Nat.two_pow_pos
def dL:=@Nat.lt_of_lt_of_le
def dM:=@Int.natAbs_neg
def dO:=@Nat.le_of_lt
def dP:=@List.length_cons
def dQ:=@List.take_zero
def dS:=@Nat.mul_lt_mul_of_pos_right
def dU:=@Nat.eq_of_beq_eq_true
def dV:=@Int.le_of_lt
def dW:=@Rat.pow_zero
def dX:=@Nat.div_le_self
def dY:=@Array.getElem?_append_left
def dZ:=@Int.mul_nonneg
def eA:=@List.filter_cons_of_pos
def eC:=@List.drop_eq_getElem_cons
def eD:=@Int.sign_eq_zero_iff_zero
def eE:=@Int.mul_comm
def eG:=@Int.mul_zero
def eH:=@List.mem_map
def eI:=@Bool.false_ne_true
def eJ:=@List.append_assoc
def eK:=@Nat.add_sub_cancel
def eN:=@Int.le_refl
def eO:=@Nat.zero_lt_one
def eP:=@Nat.add_zero
def eQ:=@Int.mul_le_mul_of_nonneg_right
def eR:=@Array.length_toList
def eT:=@Classical.not_not
def eU:=@Int.sub_eq_add_neg
def eV:=@Option.getD_some
def eW:=@List.mem_of_mem_take
def eY:=@Int.mul_assoc
def eZ:=@Int.add_zero
def fA:=@List.getElem?_append_right
def fB:=@Bool.not_eq_true'
def fC:=@List.getElem?_map
def fD:=@Decidable.not_not
def fE:=@List.getElem?_append_left
def fF:=@List.getElem?_eq_some_iff
def fG:=@List.take_append_drop
def fH:=@Int.natAbs_dvd_natAbs
def fI:=@Nat.sub_self
def fJ:=@Nat.mul_pos
def fK:=@Rat.inv_pos
def fL:=@Int.mul_le_mul_of_nonneg_left
def fM:=@decide_eq_false_iff_not
def fN:=@Int.dvd_of_emod_eq_zero
def fO:=@List.filter_cons_of_neg
def fP:=@Nat.mul_add_div
def fQ:=@List.length_nil
def fR:=@Rat.mul_eq_zero
def fS:=@Nat.pow_le_pow_left
def fT:=@Int.sub_zero
def fU:=@Int.mul_pos
def fV:=@List.map_toArray
def fW:=@Int.mul_nonpos_of_nonneg_of_nonpos
def fX:=@Int.mul_nonpos_of_nonpos_of_nonneg
def fY:=@List.filter_append
def fZ:=@List.set_eq_take_append_cons_drop
def gC:=@List.foldl_cons
def gD:=@Nat.mul_add_mod
def gE:=@List.mem_filter
def gF:=@Nat.pow_zero
def gG:=@List.flatMap_cons
def gI:=@Nat.zero_mul
def gJ:=@Nat.mul_zero
def gK:=@Int.mul_one
def gL:=@Int.lt_or_le
def gM:=@List.mem_of_getElem?
def gN:=@Nat.lt_trichotomy
def gO:=@List.cons_append
def gP:=@List.take_take
def gQ:=@List.length_drop
def gR:=@or_false
def gT:=@List.mem_range
def gU:=@List.drop_zero
def gV:=@List.drop_length
def gW:=@Int.one_mul
def gX:=@Ne.symm
def gY:=@Nat.add_right_comm
def iA:=@List.map_nil
def iB:=@Nat.mul_right_comm
def iC:=@Nat.add_comm
def iD:=@decide_eq_true_iff
def iE:=@Nat.lt_or_eq_of_le
def iF:=@of_decide_eq_false
def iG:=@List.append_nil
def iH:=@Int.natCast_mul
def iI:=@Int.dvd_trans
def iJ:=@Nat.le_div_iff_mul_le
def iK:=@Nat.le_of_ble_eq_true
def iL:=@Int.tmod_add_mul_tdiv
def iM:=@Bool.and_eq_false_iff
def iN:=@List.ext_getElem?
def iO:=@not_true_eq_false
def iP:=@Int.gcd_dvd_right
def iQ:=@Nat.div_lt_of_lt_mul
def iR:=@Nat.mul_lt_mul_of_lt_of_le
def iS:=@Int.sign_eq_neg_one_of_neg
def iT:=@Nat.mul_lt_mul_of_pos_left
def iU:=@List.replicate_succ'
def iV:=@Int.add_comm
def iW:=@List.ext_getElem
def iX:=@List.getElem_mem
def iY:=@Nat.lt_succ_self
def iZ:=@Nat.add_mul_mod_self_left
def jA:=@Int.natAbs_ediv_le_natAbs
def jB:=@Int.eq_of_mul_eq_mul_left
def jC:=@List.replicate_succ
def jD:=@List.getElem_of_mem
def jE:=@Nat.add_assoc
def jF:=@Int.mul_ediv_cancel_left
def jG:=@List.eq_of_mem_replicate
def jH:=@Nat.le_antisymm
def jI:=@Nat.div_lt_self
def jJ:=@Int.ediv_nonneg
def jK:=@List.nil_append
def jL:=@List.find?_eq_none
def jM:=@Nat.mul_add
def jN:=@Int.pow_pos
def jO:=@List.getElem?_replicate
def jP:=@Rat.le_refl
def jQ:=@Rat.div_def
def jR:=@Nat.sub_zero
def jS:=@Nat.or_lt_two_pow
def jT:=@Int.sign_eq_one_of_pos
def jU:=@Int.dvd_zero
def jV:=@Int.dvd_mul_right
def jW:=@Int.mul_le_mul
def jX:=@List.find?_cons_of_pos
def jY:=@List.find?_cons_of_neg
def jZ:=@List.set_append_right
def kA:=@List.length_filter_le
def kB:=@List.length_singleton
def kC:=@List.mem_flatMap
def kD:=@Nat.and_two_pow_sub_one_eq_mod
def kE:=@Int.le_of_dvd
def kF:=@List.take_append_of_le_length
def kG:=@List.mem_of_mem_drop
def kH:=@Int.mul_ediv_cancel'
def kI:=@Int.mul_eq_zero
def kJ:=@List.take_succ_cons
def kK:=@List.map_congr_left
def kL:=@Int.toNat_of_nonneg
def kM:=@Int.zero_add
def kN:=@Nat.two_pow_add_eq_or_of_lt
def kO:=@List.map_map
def kP:=@Nat.succ_pos
def kQ:=@Rat.mul_comm
def kR:=@Int.gcd_pos_of_ne_zero_left
def kS:=@Nat.lt_trans
def kT:=@List.set_cons_zero
def kU:=@Nat.mul_div_cancel
def kV:=@Nat.eq_of_mul_eq_mul_right
def kW:=@Int.natAbs_pow
def kX:=@Int.natCast_nonneg
def kY:=@Int.le_of_mul_le_mul_left
def kZ:=@Int.mul_add
def lA:=@Option.some.injEq
def lB:=@if_true
def lC:=@List.size_toArray
def lD:=@Int.lt_trichotomy
def lE:=@Nat.mul_one
def lF:=@Int.self_le_toNat
def lG:=@List.take_add_one
def lH:=@Nat.le_of_dvd
def lI:=@Rat.mul_assoc
def lJ:=@Int.ediv_le_self
def lK:=@Nat.gcd_dvd_left
def lL:=@Int.gcd_dvd_left
def lM:=@Int.dvd_mul_left
def lN:=@Nat.le_mul_of_pos_left
def lO:=@List.drop_of_length_le
def lP:=@List.drop_eq_nil_of_le
def lQ:=@Rat.le_trans
def lS:=@Int.natAbs_ediv_of_dvd
def lT:=@List.getElem?_set_self
def lW:=@List.zipWith_cons_cons
def lX:=@Nat.gcd_comm
def lY:=@List.length_eq_one_iff
def lZ:=@Int.emod_nonneg
def mA:=@Bool.or_eq_true
def mB:=@Int.natAbs_tdiv
def mC:=@List.all_append
def mD:=@List.eq_nil_or_concat
def mE:=@Nat.mul_div_mul_right
def mF:=@Nat.mul_mod_mul_right
def mG:=@Nat.add_mul_div_right
def mH:=@List.mem_iff_getElem?
def mI:=@Nat.mod_one
def mJ:=@Nat.mul_lt_mul_right
def mK:=@Int.mul_neg
def mL:=@Nat.div_one
def mM:=@List.getD_cons_succ
def mN:=@List.drop_replicate
def mO:=@Nat.div_le_div_left
def mP:=@Nat.div_mul_le_self
def mQ:=@Int.ediv_mul_cancel
def mR:=@List.mem_map_of_mem
def mS:=@List.drop_succ_cons
def mT:=@List.take_replicate
def mU:=@Nat.pow_succ'
def mV:=@Bool.true_and
def mW:=@List.getElem?_take
def mX:=@List.getElem?_drop
def mY:=@Int.lt_or_gt_of_ne
def mZ:=@Nat.div_mul_cancel
def nA:=@Nat.pos_of_ne_zero
def nB:=@Int.lt_or_eq_of_le
def nC:=@Int.gcd_zero_right
def nD:=@Rat.div_mul_cancel
def nE:=@Nat.gcd_zero_right
def nF:=@if_false
def nG:=@Nat.le_of_lt_succ
def nH:=@Int.natAbs_add_le
def nI:=@Nat.gcd_dvd_right
def nJ:=@Nat.le_of_eq
def nK:=@Int.zero_dvd
def nL:=@Int.ofNat_le
def nM:=@Int.le_trans
def nN:=@Nat.mod_mul
def nO:=@List.map_id
def nP:=@Int.dvd_neg
def nQ:=@Rat.le_ceil
def nR:=@Int.add_mul
def nS:=@funext
def nT:=@beq_iff_eq
def nU:=@Iff.rfl
namespace Go.Sky
variable{p:Prop}{f:Nat->Int}{m i k b:Nat}{q:List Int}{x:Int}{xs o:List Nat}
theorem O (h:p:=by omega):p:=h
theorem O1 (h:p:=by first|omega|(dsimp only<;>omega)):p:=h
theorem O2 (h:p:=by first|omega|(simp only [bM];omega)):p:=h
theorem O3 (h:p:=by decide):p:=h
theorem O4 (h:p:=by grind):p:=h
theorem O5 (h:p:=by simp):p:=h
theorem O6 (h:p:=by kernel_rfl):p:=h
theorem O7 (h:p:=by decide +kernel):p:=h
theorem O8 (h:p:=by simp;omega):p:=h
theorem O9 (h:p:=by dsimp only;omega):p:=h
theorem O10 (h:p:=by simp_all):p:=h
theorem O11 (h:p:=by simp [Hi,Yj,Ot]):p:=h
theorem O12 (h:p:=by simp [Value.oneCell']):p:=h
def Yj(f:Nat->Int):Nat->Int
 | 0=>0
 | n+1=>Yj f n+f n
def Ga(f:Nat->Int):Yj f 0=0:=rfl
theorem Ym(f:Nat->Int)(n:Nat):Yj f (n+1)=Yj f n+f n:=rfl
theorem Xg{f g:Nat->Int} : ∀{n:Nat},(∀i,i<n->f i=g i)->Yj f n=Yj g n
 | 0,_=>rfl
 | n+1,h=>by rw [Ym,Ym,Xg (λi hi=>h i O),h n O]
theorem Fv(f g:Nat->Int):∀n,Yj (λi=>f i+g i) n=Yj f n+Yj g n
 | 0=>rfl
 | n+1=>by simp only [Ym,Fv f g n];omega
theorem Md(c:Int)(f:Nat->Int):∀n,Yj (λi=>c*f i) n=c*Yj f n
 | 0=>by simp [Yj]
 | n+1=>by simp only [Ym,Md c f n];grind
theorem Zlq(c:Int)(f:Nat->Int)(n:Nat):Yj (λi=>f i*c) n=Yj f n*c:=by rw [eE,<-Md];exact Xg λi _=>eE _ _
theorem Gi{f:Nat->Int} : ∀{n:Nat},(∀i,i<n->f i=0)->Yj f n=0
 | 0,_=>rfl
 | n+1,h=>by rw [Ym,Gi (λi hi=>h i O),h n O];rfl
theorem Mv(f:Nat->Int):∀n,Yj f (n+1)=f 0+Yj (λi=>f (i+1)) n
 | 0=>by simp [Yj]
 | n+1=>by rw [Ym,Mv f n,Ym];omega
theorem Zo0(f:Nat->Int):∀n,Yj f n=Yj (λi=>f (n-1-i)) n
 | 0=>rfl
 | n+1=>by
  rw [Ym,Mv (λi=>f (n+1-1-i)),Zo0 f n];have:Yj (λi=>f (n-1-i)) n=Yj (λi=>f (n+1-1-(i+1))) n:=Xg λi hi=>by congr 1;omega
  rw [this];simp only [eK,jR];omega
theorem Zif{n:Nat}(a:m<=n)(h:∀i,m<=i->i<n->f i=0):Yj f n=Yj f m:=by
 induction n with
 | zero=>simp at a;subst a;rfl
 | succ n e=>
  by_cases d:m=n+1
  .subst d;rfl
  .rw [Ym,e O (λi c g=>h i c O),h n O O];omega
theorem Zoy(f:Nat->Nat->Int):∀n,Yj (λi=>Yj (λk=>f k (i-k)) (i+1)) n=Yj (λk=>Yj (λj=>f k j) (n-k)) n
 | 0=>rfl
 | n+1=>by
  rw [Ym,Zoy f n,Ym (λk=>Yj (λj=>f k j) (n+1-k))];have a:Yj (λk=>Yj (λj=>f k j) (n+1-k)) n=Yj (λk=>Yj (λj=>f k j) (n-k)+f k (n-k)) n:=
   Xg λk c=>by rw [show n+1-k=n-k+1 by omega,Ym]
  rw [a,Fv,Ym (λk=>f k (n-k)) n];rw [show n+1-n=0+1 by omega,Ym,Ga,show n-n=0 by omega];omega
structure PS where
 c:Nat->Int
theorem PS.ext'{f g:PS}(h:∀i,f.c i=g.c i):f=g:=by cases f;cases g;congr;exact nS h
namespace PS
def conv(f g:PS):PS:=⟨λi=>Yj (λk=>f.c k*g.c (i-k)) (i+1)⟩
def C(n:Int):PS:=⟨λi=>if i=0 then n else 0⟩
def xp(k:Nat):PS:=⟨λi=>if i=k then 1 else 0⟩
instance:Zero PS:=⟨⟨λ_=>0⟩⟩
instance:One PS:=⟨C 1⟩
instance:Add PS:=⟨λf g=>⟨λi=>f.c i+g.c i⟩⟩
instance:Neg PS:=⟨λf=>⟨λi=>- f.c i⟩⟩
instance:Sub PS:=⟨λf g=>⟨λi=>f.c i-g.c i⟩⟩
instance:Mul PS:=⟨conv⟩
instance:NatCast PS:=⟨λn=>C n⟩
instance (n:Nat):OfNat PS n:=⟨C n⟩
instance:IntCast PS:=⟨C⟩
instance:SMul Nat PS:=⟨λn f=>⟨λi=>(n:Int)*f.c i⟩⟩
instance:SMul Int PS:=⟨λn f=>⟨λi=>n*f.c i⟩⟩
def npow(f:PS):Nat->PS
 | 0=>1
 | n+1=>npow f n*f
instance:HPow PS Nat PS:=⟨npow⟩
def add_c(f g:PS)(i:Nat):(f+g).c i=f.c i+g.c i:=rfl
theorem mul_c(f g:PS)(i:Nat):(f*g).c i=Yj (λk=>f.c k*g.c (i-k)) (i+1):=rfl
def zero_c(i:Nat):(0:PS).c i=0:=by show(if i=0 then((0:Nat):Int)else 0)=0;split<;>rfl
def one_c(i:Nat):(1:PS).c i=if i=0 then 1 else 0:=rfl
def C_c(n:Int)(i:Nat):(C n).c i=if i=0 then n else 0:=rfl
def mul_comm'(f g:PS):f*g=g*f:=ext' λi=>by
 rw [mul_c,mul_c,Zo0];exact Xg λk a=>by simp only [eK];rw [show i-(i-k)=k by omega,eE]
def C_mul(n:Int)(f:PS):C n*f=⟨λi=>n*f.c i⟩:=ext' λi=>by rw [mul_c,Mv];rw [Gi (f:=λk=>(C n).c (k+1)*f.c (i-(k+1))) (λk a=>by simp [C_c])];simp [C_c]
def C_mul_c(n:Int)(f:PS)(i:Nat):(C n*f).c i=n*f.c i:=by rw [C_mul]
def Ykg(f:PS):1*f=f:=ext' λi=>by show(C 1*f).c i=f.c i;rw [C_mul_c,gW]
def mul_assoc'(f g h:PS):f*g*h=f*(g*h):=ext' λi=>by
 rw [mul_c,mul_c];have a:Yj (λk=>(f*g).c k*h.c (i-k)) (i+1)=Yj (λk=>Yj (λj=>f.c j*g.c (k-j)*h.c (i-(j+(k-j)))) (k+1)) (i+1):=
  Xg λk c=>by rw [mul_c,<-Zlq];exact Xg λj b=>by rw [show j+(k-j)=k by omega]
 rw [a,Zoy (λj m=>f.c j*g.c m*h.c (i-(j+m)))];refine Xg λj b=>?_;rw [mul_c,<-Md,show i+1-j=i-j+1 by omega];exact Xg λm d=>by rw [eY,show i-(j+m)=i-j-m by omega]
def Yr4(f g h:PS):f*(g+h)=f*g+f*h:=ext' λi=>by rw [add_c,mul_c,mul_c,mul_c,<-Fv];exact Xg λk _=>by rw [add_c,kZ]
def distrib_r(f g h:PS):(f+g)*h=f*h+g*h:=by rw [mul_comm',Yr4,mul_comm' h f,mul_comm' h g]
def zero_mul'(f:PS):0*f=0:=ext' λi=>by rw [mul_c,Gi (λk _=>by rw [zero_c,cN]),zero_c]
def add_zero'(f:PS):f+0=f:=ext' λi=>by rw [add_c,zero_c,eZ]
def zero_add'(f:PS):0+f=f:=ext' λi=>by rw [add_c,zero_c,kM]
def add_comm'(f g:PS):f+g=g+f:=ext' λi=>by rw [add_c,add_c,iV]
def add_assoc'(f g h:PS):f+g+h=f+(g+h):=ext' λi=>by simp only [add_c];omega
def mul_one'(f:PS):f*1=f:=by rw [mul_comm',Ykg]
instance:Std.Commutative (α:=PS) (· + ·):=⟨add_comm'⟩
instance:Std.Associative (α:=PS) (· + ·):=⟨add_assoc'⟩
instance:Std.Commutative (α:=PS) (· * ·):=⟨mul_comm'⟩
instance:Std.Associative (α:=PS) (· * ·):=⟨mul_assoc'⟩
end PS
def tzl(xs:List Int):List Int:=(xs.reverse.dropWhile (· == 0)).reverse
def cf(p:List Int)(i:Nat):Int:=p.getD i 0
def mk(n:Nat)(f:Nat->Int):List Int:=(List.range n).map f
def ps(p:List Int):PS:=⟨cf p⟩
def Tr(p:List Int):Prop:=p=[]\/cf p (p.length-1)≠0
theorem Nf(p:List Int)(i:Nat):(ps p).c i=cf p i:=rfl
theorem Yn{p:List Int}(h:p.length<=i):cf p i=0:=by simp [cf,List.getD,bT h]
def Zfj{p:List Int}(h:i<p.length):cf p i=p[i]:=by simp [cf,List.getD,h]
theorem Yt(n:Nat)(f:Nat->Int):(mk n f).length=n:=by simp [mk]
theorem Nv(n:Nat)(f:Nat->Int)(i:Nat):cf (mk n f) i=if i<n then f i else 0:=by
 by_cases h:i<n
 .rw [aM h,Zfj (by rw [Yt];exact h)];simp [mk]
 .rw [aG h,Yn (by rw [Yt];omega)]
theorem Ik{p:List Int}(c:p.length=q.length)(h:∀i,i<p.length->cf p i=cf q i):p=q:=by apply iW c;intro i a b;have:=h i a;rwa [Zfj a,Zfj b]at this
def Zeo(p:List Int):mk p.length (cf p)=p:=Ik (Yt _ _) λi h=>by rw [Nv,Yt]at *;rw [aM h]
def Ey{n:Nat}{g:Nat->Int}(h:∀i,i<n->f i=g i):mk n f=mk n g:=Ik (by rw [Yt,Yt]) λi hi=>by rw [Yt]at hi;rw [Nv,Nv,aM hi,aM hi,h i hi]
def Zez(p q:List Int)(i:Nat):cf (p ++ q) i=if i<p.length then cf p i else cf q (i-p.length):=by
 by_cases h:i<p.length
 .rw [aM h];simp [cf,List.getD,fE h]
 .rw [aG h];simp only [cf,List.getD];rw [fA O]
def Fi(n:Nat)(f:Nat->Int):mk (n+1) f=mk n f ++ [f n]:=by simp [mk,List.range_succ]
def Znq{p:List Int}(h:k<p.length):cf (p.set k x) i=if i=k then x else cf p i:=by
 by_cases hi:i=k
 .subst hi;rw [aM rfl];simp [cf,List.getD,h]
 .rw [aG hi];simp only [cf,List.getD];rw [List.getElem?_set_ne (gX hi)]
def Dg(p:List Int)(k i:Nat):cf (p.take k) i=if i<k then cf p i else 0:=by
 by_cases hi:i<k
 .rw [aM hi];simp [cf,List.getD,mW,hi]
 .rw [aG hi,Yn];rw [cD];omega
theorem Zf5(p:List Int)(f:Int->Int)(a:f 0=0)(i:Nat):cf (p.map f) i=f (cf p i):=by
 by_cases hi:i<p.length
 .rw [Zfj (by simpa using hi),Zfj hi];simp
 .rw [Yn (by simpa using hi),Yn O,a]
def Za1(xs:List Int):tzl (xs ++ [0])=tzl xs:=by simp [tzl]
def Bm{xs:List Int}(h:x≠0):tzl (xs ++ [x])=xs ++ [x]:=by simp [tzl,h]
def Zkh{α:Type}(xs:List α):xs=[]\/∃ys y,xs=ys ++ [y]:=by
 rcases mD xs with h|⟨ys,y,h⟩
 .exact .inl h
 .exact .inr ⟨ys,y,by simpa using h⟩
def Zqc (C:List Int->Prop)(c:C [])(e:∀xs,C xs->C (xs ++ [0]))(f:∀xs x,x≠0->C (xs ++ [x]))(p:List Int):C p:=by
 have b:∀n (p:List Int),p.length=n->C p:=by
  intro n
  induction n with
  | zero=>intro p a;rw [aC a];exact c
  | succ n g=>
   intro p a;rcases Zkh p with rfl|⟨h,y,rfl⟩
   .exact c
   .by_cases d:y=0
    .subst d;exact e _ (g h (by simpa using a))
    .exact f _ _ d
 exact b _ p rfl
theorem Mc(p:List Int):(tzl p).length<=p.length:=by
 refine Zqc (λp=>(tzl p).length<=p.length) (aI _) (λb h=>?_) (λb x a=>?_) p
 .rw [Za1];simp;omega
 .rw [Bm a];exact aI _
def Lb(p:List Int)(i:Nat):cf (tzl p) i=cf p i:=by
 refine Zqc (λp=>cf (tzl p) i=cf p i) rfl (λa h=>?_) (λa x c=>?_) p
 .rw [Za1,h,Zez];split
  .rfl
  .rw [Yn O];by_cases b:i-a.length=0
   .rw [b];rfl
   .rw [Yn O8]
 .rw [Bm c]
def Tr.nil:Tr []:= .inl rfl
theorem Qj(p:List Int):Tr (tzl p):=by
 refine Zqc (λp=>Tr (tzl p)) Tr.nil (λb h=>?_) (λb x a=>?_) p
 .rw [Za1];exact h
 .rw [Bm a];refine .inr ?_;rw [Zez];simp [cf];exact a
def Al{p:List Int}(h:Tr p):tzl p=p:=by
 rcases Zkh p with rfl|⟨b,y,rfl⟩
 .rfl
 .rcases h with h|h
  .simp at h
  .refine Bm λa=>h ?_;subst a;rw [Zez];simp [cf]
def Tr.ext{p q:List Int}(a:Tr p)(d:Tr q)(h:∀i,cf p i=cf q i):p=q:=by
 have b:∀{p q:List Int},Tr p->(∀i,cf p i=cf q i)->p.length<=q.length:=λ{p q} a h=>by
  rcases a with rfl|a
  .exact bA _
  .rw [h]at a;rcases aX (p.length-1) q.length with c|c
   .omega
   .exact absurd (Yn c) a
 exact Ik (jH (b a h) (b d λi=>(h i).symm)) λi _=>h i
def Yox{p:List Int}(h:∀i,cf p i=cf q i):tzl p=tzl q:=(Qj p).ext (Qj q) λi=>by rw [Lb,Lb,h]
def Zb6{p:List Int}{n:Nat}(h:∀i,n<=i->cf p i=0):(tzl p).length<=n:=by
 rcases Qj p with a|a
 .rw [a];exact bA _
 .rw [Lb]at a;rcases aX ((tzl p).length-1) n with b|b
  .omega
  .exact absurd (h _ b) a
theorem Km(p:List Int):tzl p=[]↔∀i,cf p i=0:=
 ⟨λh i=>by rw [<-Lb,h];rfl,λh=>aC (Nat.le_zero.1 (Zb6 λi _=>h i))⟩
def Tr.mem{p:List Int}(h:Tr p)(a:p≠[]):cf p (p.length-1)≠0:=by
 rcases h with h|h
 .exact absurd h a
 .exact h
def Zt6{xs:List Int}(c:k<=xs.length)(b:0<k)(h:cf xs (k-1)=0):tzl (xs.take k)=tzl (xs.take (k-1)):=Yox λi=>by
 rw [Dg,Dg];by_cases hi:i=k-1
 .subst hi;rw [aM O,aG O,h]
 .by_cases a:i<k
  .rw [aM a,aM O]
  .rw [aG a,aG O]
def Zgg{xs:List Int}(a:k<=xs.length)(h:k=0\/cf xs (k-1)≠0):tzl (xs.take k)=xs.take k:=by
 refine Al ?_;rcases h with rfl|h
 .simp [Tr]
 .rcases aV k with rfl|b
  .simp [Tr]
  .refine .inr ?_;rw [cD,dJ a,Dg,aM O];exact h
def Ht(p q:List Int):List Int:=tzl (mk (max p.length q.length) λi=>cf p i+cf q i)
def Ei(p q:List Int):List Int:=tzl (mk (max p.length q.length) λi=>cf p i-cf q i)
def Zr(p:List Int)(c:Int):List Int:=tzl (p.map (· * c))
def Qt(p q:List Int):List Int:=tzl (mk (p.length+q.length-1) λi=>(ps p*ps q).c i)
def Xf(p:List Int):List Int:=mk (p.length-1) λi=>cf p (i+1)*((i:Int)+1)
def pev(p:List Int)(n d:Int):Int:=Yj (λi=>cf p i*(n^i*d^(p.length-1-i))) p.length
def Yw(p:List Int):Int:=p.foldl (λg c=>(Int.gcd g c:Int)) 0
def Zz(p:List Int):List Int:=p.map (· / Yw p)
def Dh(p q:List Int)(i:Nat):cf (Ht p q) i=cf p i+cf q i:=by
 unfold Ht;rw [Lb,Nv];split
 .rfl
 .rw [Yn,Yn]<;>omega
def Ih(p q:List Int)(i:Nat):cf (Ei p q) i=cf p i-cf q i:=by
 unfold Ei;rw [Lb,Nv];split
 .rfl
 .rw [Yn,Yn]<;>omega
theorem Yi(p:List Int)(c:Int)(i:Nat):cf (Zr p c) i=cf p i*c:=by unfold Zr;rw [Lb,Zf5 _ _ O5]
theorem Hs(p q:List Int)(i:Nat):cf (Qt p q) i=(ps p*ps q).c i:=by
 unfold Qt;rw [Lb,Nv];split
 .rfl
 .rw [PS.mul_c,Gi];intro k a;rcases aX k p.length with h|h
  .rw [Nf,Nf,Yn (p:=q) O,eG]
  .rw [Nf,Yn h,cN]
def Yaj(p:List Int):Tr (Ht p q):=Qj _
theorem Zah(p q:List Int):Tr (Ei p q):=Qj _
theorem Qk(p:List Int)(c:Int):Tr (Zr p c):=Qj _
def Qm{p:List Int}:Tr (Qt p q):=Qj _
def Yqf(p q:List Int):Ei p q=Ht p (Zr q (-1)):=(Zah p q).ext (Yaj p) λi=>by rw [Dh,Yi,Ih];omega
theorem Cb(p q:List Int):Qt p q=Qt q p:=(Qm (p:=p) (q:=q)).ext (Qm (p:=q) (q:=p)) λi=>by rw [Hs,Hs,PS.mul_comm']
def Yqg(p q:List Int):ps (Ht p q)=ps p+ps q:=PS.ext' λi=>Dh p q i
def Zkr(p q:List Int):ps (Qt p q)=ps p*ps q:=PS.ext' λi=>Hs p q i
def Zio(p:List Int)(c:Int):ps (Zr p c)=PS.C c*ps p:=PS.ext' λi=>by rw [PS.C_mul_c,eE];exact Yi p c i
def Tr.ps_inj{p:List Int}(a:Tr p)(b:Tr q)(h:ps p=ps q):p=q:=a.ext b λi=>by rw [<-Nf,h,Nf]
def tz(xs:List Nat):List Nat:=(xs.reverse.dropWhile (· == 0)).reverse
def Iw(xs:List Nat):tz (xs ++ [0])=tz xs:=by simp [tz]
theorem Ct(xs:List Nat)(x:Nat)(h:x≠0):tz (xs ++ [x])=xs ++ [x]:=by simp [tz,h]
theorem Po{α:Type}(d:α)(xs:List α)(k:Nat)(h:k<xs.length):xs.take (k+1)=xs.take k ++ [xs.getD k d]:=by simp_all
def Zi0{α:Type}(xs:List α)(k:Nat)(d:α)(h:i<k):(xs.take k).getD i d=xs.getD i d:=by grind
def Yah(b:k<=xs.length)(a:0<k)(h:(xs.take k).getD (k-1) 0=0):tz (xs.take k)=tz (xs.take (k-1)):=by rw [Zi0 xs k 0 O]at h;have:=Po 0 xs (k-1) O;rw [show k-1+1=k by omega]at this;simp_all [Iw]
def Zgh(b:k<=xs.length)(h:k=0\/(xs.take k).getD (k-1) 0≠0):tz (xs.take k)=xs.take k:=by
 rcases aV k with rfl|a
 .rfl
 .have:=Po 0 xs (k-1) O;grind [Ct]
def tz_eq(h:xs=[]\/xs.getD (xs.length-1) 0≠0):tz xs=xs:=by
 have:=Zgh (xs:=xs) (aI _) (by grind)
 grind
def Yq(b:Nat):List Nat->Nat
 | []=>0
 | d::r=>d+b*Yq b r
def dgf(b:Nat):Nat->Nat->List Nat
 | 0,_=>[]
 | f+1,n=>if n=0 then []else n%b::dgf b f (n/b)
def dg(b n:Nat):List Nat:=dgf b n n
def Zwt{b:Nat}(d:2<=b):∀(f a n:Nat),n<=f->n<=a->dgf b f n=dgf b a n
 | 0,0,_,_,_=>rfl
 | 0,a+1,n,h,_=>by have:n=0:=O;subst this;rfl
 | f+1,0,n,_,h=>by have:n=0:=O;subst this;rfl
 | f+1,a+1,n,h,e=>by
  unfold dgf;by_cases c:n=0
  .grind
  .have:n/b<n:=jI O O;rw [aG c,aG c,Zwt d f a _ O O]
theorem Gq(b:Nat):dg b 0=[]:=rfl
theorem Zcn{n:Nat}(a:2<=b)(c:0<n):dg b n=n%b::dg b (n/b):=by
 unfold dg;obtain⟨m,rfl⟩:∃m,n=m+1:=⟨n-1,O⟩
 conv=>lhs;unfold dgf
 rw [aG O5];have:(m+1)/b<m+1:=jI O5 O;rw [Zwt a m _ _ O (aI _)]
theorem Lj(a:2<=b)(n:Nat):Yq b (dg b n)=n:=by
 induction n using Nat.strongRecOn with
 | _ n c=>
  rcases aV n with rfl|h
  .rfl
  .rw [Zcn a h,Yq,c _ (jI h O)];grind [Nat.mod_add_div]
def Nx(c:2<=b)(n:Nat):∀d∈dg b n,d<b:=by
 induction n using Nat.strongRecOn with
 | _ n e=>
  rcases aV n with rfl|h
  .intro d a;cases a
  .rw [Zcn c h];intro d a;rcases bB.1 a with rfl|a
   .exact bJ _ O
   .exact e _ (jI h O) d a
theorem Mb(b:Nat)(xs ys:List Nat):Yq b (xs ++ ys)=Yq b xs+b^xs.length*Yq b ys:=by
 induction xs with
 | nil=>simp [Yq]
 | cons x r a=>simp only [gO,Yq,a,dP,cH,jM];grind
theorem Zh8{b:Nat}(c:0<b):∀(xs:List Nat),(∀d∈xs,d<b)->Yq b xs<b^xs.length
 | [],_=>by simp [Yq]
 | x::r,h=>by have a:=Zh8 c r (λd e=>h d (bE _ e));have f:=h x (bK ..);simp only [Yq,dP,cH];have g:=aY b a;grind
def Gw(b n:Nat):Yq b (List.replicate n 0)=0:=by
 induction n with
 | zero=>rfl
 | succ n a=>simp [jC,Yq,a]
theorem Qs(b:Nat)(xs:List Nat)(k:Nat):Yq b (xs.take (k+1))=Yq b (xs.take k)+xs.getD k 0*b^k:=by
 by_cases h:k<xs.length
 .rw [Po 0 xs k h,Mb,cD,dJ O,bD _];rfl
 grind [List.take_of_length_le,List.getElem?_eq_none]
theorem Mm(b:Nat)(xs:List Nat)(k:Nat)(h:xs.length<=k):Yq b (xs.take k)=Yq b xs:=by rw [cI h]
def Qb(a:0<b)(h:∀d∈xs,d<b)(k:Nat):xs.getD k 0<b:=by grind [List.getElem_mem,List.getElem?_eq_none]
def Zoa{α:Type}(o:List α)(k:Nat)(d:α)(h:k<o.length):(o.set k d).take (k+1)=o.take k ++ [d]:=by
 have a:k<(o.set k d).length:=O4;rw [Po d _ _ a];congr 1
 .apply iN;grind
 grind
def Zob{α:Type}(o:List α)(k:Nat)(d:α):(o.set k d).take k=o.take k:=by apply iN;grind
def Bl(b:Nat)(o:List Nat)(d:Nat)(h:k<o.length):Yq b ((o.set k d).take (k+1))=Yq b (o.take k)+d*b^k:=by rw [Zoa o k d h,Mb,cD,dJ O,bD _];rfl
def Kc{p:Nat->Prop}(h:∀d∈o,p d)(k:Nat){d:Nat}(a:p d):∀x∈o.set k d,p x:=by grind
def Nn{p:Nat->Prop}{n:Nat}(h:p 0):∀d∈List.replicate n 0,p d:=by grind
def Zb9{α:Type}(xs:List α):xs=[]\/∃ys y,xs=ys ++ [y]:=by
 rcases mD xs with h|⟨ys,y,h⟩
 all_goals grind
def Ia{b:Nat}(s:2<=b):∀(xs:List Nat),(∀d∈xs,d<b)->dg b (Yq b xs)=tz xs
 | [],_=>rfl
 | x::r,h=>by
  have e:=Ia s r (λd u=>h d (bE _ u));have v:=h x (bK ..);have i:(x+b*Yq b r)%b=x:=by rw [iZ,bG v]
  have g:(x+b*Yq b r)/b=Yq b r:=by grind [Nat.add_mul_div_left,Nat.div_eq_of_lt]
  rcases aV (x+b*Yq b r)with f|f
  .have m:x=0:=O;have l:Yq b r=0:=by
    rcases aV (Yq b r)with q|q
    .omega
    .have:=fJ (by omega:0<b) q;omega
   rw [l,Gq]at e;simp only [Yq,f,Gq];subst m;rcases Zb9 r with rfl|⟨a,y,rfl⟩
   .rfl
   .by_cases j:y=0
    .subst j;rw [Iw]at e;have t:=by have:=aE List.reverse e.symm;simpa [tz]using this
     unfold tz;simp_all [List.reverse_cons,List.dropWhile_append]
    .rw [Ct _ _ j]at e;simp at e
  .have:=Zcn s f;simp only [Yq];rw [this,i,g,e];rcases Zb9 r with rfl|⟨a,y,rfl⟩
   .have:x≠0:=by simp [Yq]at f;omega
    simp [tz,this]
   .by_cases j:y=0
    .subst j;rw [Iw,show(x::(a ++ [0]))=(x::a) ++ [0]from rfl,Iw];have p:∀a:List Nat,0<x+b*Yq b a->x::tz a=tz (x::a):=by
      intro a
      induction hn:a.length using Nat.strongRecOn generalizing a with
      | _ n o=>
       intro c;rcases Zb9 a with rfl|⟨k,z,rfl⟩
       .have:x≠0:=by simp [Yq]at c;omega
        simp [tz,this]
       .by_cases w:z=0
        .subst w;rw [Iw,show(x::(k ++ [0]))=(x::k) ++ [0]from rfl,Iw];refine o k.length O4 k rfl ?_;rw [Mb]at c;assumption
        grind [Ct]
     refine p a ?_;rw [Mb]at f;assumption
    grind [Ct]
theorem Zi6(a:2<=b){n:Nat} : dg b m=dg b n↔m=n:=⟨λh=>by grind [Lj],λh=>O4⟩
def Hr{b:Nat}(a:2<=b):∀(i n:Nat),(dg b n).getD i 0=n/b^i%b
 | 0,n=>by
  rcases aV n with rfl|h
  all_goals simp_all [Gq,Zcn]
 | i+1,n=>by
  rcases aV n with rfl|h
  .simp [Gq]
  .rw [Zcn a h];have c:=Hr a i (n/b);simp only [mM];rw [c,aQ,cH,bD b]
def Xt{b:Nat}(a:2<=b):∀(k n:Nat),(dg b n).length<=k↔n<b^k
 | 0,n=>by grind [Nat.eq_zero_or_pos,Gq,Zcn]
 | k+1,n=>by
  rcases aV n with rfl|h
  .grind [Gq,Nat.pow_pos]
  .rw [Zcn a h];simp only [dP,Nat.add_le_add_iff_right];rw [Xt a k _,cH,bW O]
theorem Ms(a:2<=b)(k n:Nat):k<(dg b n).length↔b^k<=n:=by have:=Xt a k n;omega
def dg_top{n:Nat}(a:2<=b)(h:0<n):(dg b n).getD ((dg b n).length-1) 0≠0:=by
 have c:0<(dg b n).length:=by rw [Ms a,gF];omega
 have d:b^((dg b n).length-1)<=n:=(Ms a _ n).1 O;have e:=(Xt a _ n).1 (aI _);rw [Hr a];rw [show(dg b n).length=(dg b n).length-1+1 by omega,cH]at e;have f:n/b^((dg b n).length-1)<b:=by rw [bW (bZ O),bD];omega
 have g:=Nat.div_pos d (bZ O);grind [Nat.mod_eq_of_lt]
theorem Ok(a:2<=b)(n:Nat):(dg b n).length=0↔n=0:=by have:=Xt a 0 n;grind
def Zxs(c:2<=b){x:Nat}(h:∀i,i<o.length->o.getD i 0=x/b^i%b)(g:x<b^o.length):tz o=dg b x:=by
 have a:∀d∈o,d<b:=λd e=>by obtain⟨i,hi,rfl⟩:=jD e;have:=h i hi;rw [show o.getD i 0=o[i] by grind]at this;rw [this];exact bJ _ O
 rw [<-Ia c o a];have f:∀k,k<=o.length->Yq b (o.take k)=x%b^k:=by
  intro k
  induction k with
  | zero=>simp [Yq,mI]
  | succ k j=>
   grind [Qs,Nat.pow_succ,Nat.mod_mul,Nat.mul_comm]
 grind [List.take_length,Nat.mod_eq_of_lt]
def bl(n:Nat):Nat:=(dg 2 n).length
theorem Qo(k n:Nat):bl n<=k↔n<2^k:=Xt O5 k n
def Zcw(k n:Nat):k<bl n↔2^k<=n:=Ms O5 k n
theorem Ks:bl 0=0:=rfl
def Zth{n:Nat}(h:0<n):2^(bl n-1)<=n/\0<bl n:=by have a:=(Zcw 0 n).2 O;exact⟨(Zcw _ n).1 O,a⟩
theorem Bz(n:Nat):n<2^bl n:=(Qo _ n).1 (aI _)
def bl_eq{n:Nat}(b:n<2^k)(a:k=0\/2^(k-1)<=n):bl n=k:=by
 have:=(Qo k n).2 b;rcases a with rfl|a
 .omega
 .have:=(Zcw _ n).2 a;omega
def Zz0{n:Nat}(h:0<n):bl (n*2^k)=bl n+k:=by
 have a:=Zth h;refine bl_eq ?_ (.inr ?_)
 .simp [cC,mJ,bZ,Bz]
 .rw [show bl n+k-1=(bl n-1)+k by omega,cC];simp_all [aL]
def Gh(n k:Nat):bl (n/2^k)=bl n-k:=by
 by_cases h:bl n<=k
 .grind [Qo,Nat.div_eq_of_lt,Ks]
 .have a:=(Zcw k n).1 O;have b:=dL (bZ O5) a;have c:=Zth b;refine bl_eq ?_ (.inr ?_)
  .rw [bW (bZ O5),<-cC,show bl n-k+k=bl n by omega];simp [Bz]
  .rw [iJ (bZ O5),<-cC,show bl n-k-1+k=bl n-1 by omega];omega
def Og{n:Nat}(h:m<=n):bl m<=bl n:=(Qo _ m).2 (aW h (Bz n))
end Go.Sky
namespace Go.Sky
open Go.RowKit Below
variable{M:Nat->Prop}{a:Act}{b:Bool}{c:Operand}{w w':World}{x y:Code}{v:Value}{id d i:Nat}{p:Prop}{K:Act->World->Prop}{o oi:Oper}{rest:List Oper}{Y:Act->Prop}{ts:List Nat}{listed:Array Bool}
abbrev Pu:=List (Nat×Value)
def lk{α:Type} : List (Nat×α)->Nat->Option α
  | [],_=>none
  | (k,v)::r,n=>cond (Nat.beq k n) (some v) (lk r n)
def ev(e:Pu):Operand->Option Value
  | .tmp t=>lk e t
  | .const v=>some v
  | .global g=>some (.pointer (some ⟨g,0,none⟩))
  | .func f=>some (.func (.func f) #[] #[])
structure Chg (M:Nat->Prop) (w w':World):Prop where
  os:w'.os=w.os
  tape:w'.tape=w.tape
  output:w'.output=w.output
  size:w.heap.size<=w'.heap.size
  block:∀k,k<w.heap.size->¬M k->w'.heap[k]? = w.heap[k]?
def Chg.refl(M:Nat->Prop)(w:World):Chg M w w:=⟨rfl,rfl,rfl,aI _,λ_ _ _=>rfl⟩
def Chg.trans{a b c:World}(h:Chg M a b)(k:Chg M b c):Chg M a c:=
  ⟨k.os.trans h.os,k.tape.trans h.tape,k.output.trans h.output,aB h.size k.size,λi hi e=>(k.block i (dL hi h.size) e).trans (h.block i hi e)⟩
def Chg.of_below(h:Below w.heap.size w w'):Chg M w w':=⟨h.os,h.tape,h.output,h.size,λk e _=>h.block k e⟩
structure Pc where
  own:Bool
  fp:Nat->Prop
  holds:World->Prop
  lt:∀w b,holds w->fp b->b<w.heap.size
  stable:∀w w',holds w->Chg (λb=>¬fp b) w w'->holds w'
abbrev Hp:=List (Nat×Pc)
structure Sat (N:Nat) (sc:Nat->Prop) (env:Pu) (H:Hp) (a:Act) (w:World):Prop where
  size:a.tmps.size=N
  defers:a.defers=[]
  env:∀t v,lk env t=some v->a.tmps.getD t undef=v
  hold:∀i it,lk H i=some it->it.holds w
  sep:∀i j it jt,i≠j->lk H i=some it->lk H j=some jt->it.own=true->∀b,it.fp b->jt.fp b->False
  scope:∀i it,i≠0->lk H i=some it->∀b,it.fp b->sc b
variable {P:Program} {N:Nat} {sc:Nat->Prop} {env env':Pu} {H H':Hp} {Q Q':Exit->Act->World->Prop}
def E(P:Program)(N:Nat)(sc:Nat->Prop)(c:Code)(Q:Exit->Act->World->Prop)(env:Pu)(H:Hp):Prop:=
  ∀a w,Sat N sc env H a w->c.wp P Q a w
def L(P:Program)(N:Nat)(sc:Nat->Prop)(ops:Array Oper)(rest:List Oper)(Q:Exit->Act->World->Prop)(env:Pu)(H:Hp):Prop:=
  ∀a w,Sat N sc env H a w->wpList P ops Q rest a w
def X(N:Nat)(sc:Nat->Prop)(e:Exit)(Q:Exit->Act->World->Prop)(env:Pu)(H:Hp):Prop:=
  ∀a w,Sat N sc env H a w->Q e a w
def Sub:Pu->Pu->Prop
  | [],_=>True
  | (t,v)::r,e=>lk e t=some v/\Sub r e
def HSub:Hp->Hp->Prop
  | [],_=>True
  | (t,v)::r,e=>lk e t=some v/\HSub r e
theorem Sub.lk:∀{f e:Pu},Sub f e->∀t v,lk f t=some v->lk e t=some v
  | [],_,_,_,_,h=>by cases h
  | (k,u)::r,e,h,t,v,hl=>by
    unfold Sky.lk at hl;cases hb:Nat.beq k t with
    | true=>
      rw [hb]at hl;have:=dU hb;subst this;cases hl;exact h.1
    | false=>
      rw [hb]at hl;exact Sub.lk h.2 t v hl
theorem HSub.lk:∀{f e:Hp},HSub f e->∀t v,lk f t=some v->lk e t=some v
  | [],_,_,_,_,h=>by cases h
  | (k,u)::r,e,h,t,v,hl=>by
    unfold Sky.lk at hl;cases hb:Nat.beq k t with
    | true=>
      rw [hb]at hl;have:=dU hb;subst this;cases hl;exact h.1
    | false=>
      rw [hb]at hl;exact HSub.lk h.2 t v hl
def Sat.weaken(h:Sat N sc env H a w)(hs:Sub env' env)(f:HSub H' H):Sat N sc env' H' a w:=
  ⟨h.size,h.defers,λt v n=>h.env t v (hs.lk t v n),λi e hi=>h.hold i e (f.lk i e hi),
   λi j e l k hi m=>h.sep i j e l k (f.lk i e hi) (f.lk j l m),λi e g hi=>h.scope i e g (f.lk i e hi)⟩
def E.weaken{c:Code}(h:E P N sc c Q env' H')(hs:Sub env' env)(f:HSub H' H):E P N sc c Q env H:=
  λa w e=>h a w (e.weaken hs f)
def X.weaken{e:Exit}(h:X N sc e Q env' H')(hs:Sub env' env)(g:HSub H' H):X N sc e Q env H:=
  λa w f=>h a w (f.weaken hs g)
theorem Yl{α:Type}(k:Nat)(v:α)(r:List (Nat×α)):lk ((k,v)::r) k=some v:=by simp [lk]
theorem Zx{α:Type}{k n:Nat}(v:α)(r:List (Nat×α))(h:k≠n):lk ((k,v)::r) n=lk r n:=by
  have:Nat.beq k n=false:=by grind [Nat.eq_of_beq_eq_true]
  simp [lk,this]
theorem Sat.ev(h:Sat N sc env H a w){x:Operand}(e:ev env x=some v):a.eval x=v:=by
  cases x with
  | tmp t=>exact h.env t v e
  | const u=>simp only [Sky.ev,lA]at e;exact e
  | global g=>simp only [Sky.ev,lA]at e;exact e
  | func f=>simp only [Sky.ev,lA]at e;exact e
theorem Sat.put(h:Sat N sc env H a w)(d:Nat)(v:Value)(j:Nat.blt d N=true):Sat N sc ((d,v)::env) H (a.put (some d) v) w:=by
  have f:d<N:=O10;refine⟨by simp [Act.put,h.size],h.defers,λt u e=>?_,h.hold,h.sep,h.scope⟩;by_cases g:d=t
  . subst g;rw [Yl]at e;cases e;simp [Act.put,h.size,f]
  . rw [Zx _ _ g]at e;have:=h.env t u e;simp only [Act.put];simp_all
def Sat.put_none(h:Sat N sc env H a w)(v:Value):Sat N sc env H (a.put none v) w:=h
def e_seq(h:E P N sc x (Exit.then (y.wp P Q) Q) env H):E P N sc (.seq x y) Q env H:=λa w hs=>wp_seq (h a w hs)
def e_skip(h:X N sc .normal Q env H):E P N sc .skip Q env H:=λa w hs=>wp_skip (h a w hs)
def e_ret(h:X N sc .ret Q env H):E P N sc .ret Q env H:=λa w hs=>wp_ret (h a w hs)
def e_exit(h:X N sc (.exit id) Q env H):E P N sc (.exit id) Q env H:=λa w hs=>wp_exit (h a w hs)
def Yrx{c:Code}(h:E P N sc c (Exit.inBlock id Q) env H):E P N sc (.block id c) Q env H:=λa w hs=>wp_block (h a w hs)
def e_reg{l:List Oper}(h:L P N sc l.toArray l Q env H):E P N sc (.region id l.toArray false) Q env H:=λa w hs=>wp_region_lit (h a w hs)
def Ze[Decidable p](e:ev env c=some (.bool (decide p)))(g:p->E P N sc x Q env H)(f:¬p->E P N sc y Q env H) :
    E P N sc (.cond c x y) Q env H:=λa w hs=>
  wp_cond_split (hs.ev e) (λh=>g O4 a w hs) (λh=>f O4 a w hs)
def Nu(e:ev env c=some (.bool b))(g:b=true->E P N sc x Q env H)(f:b=false->E P N sc y Q env H) :
    E P N sc (.cond c x y) Q env H:=λa w hs=>
  wp_cond_split (hs.ev e) (λh=>g h a w hs) (λh=>f h a w hs)
def Yrv(e:ev env c=some (.bool true))(f:E P N sc x Q env H):E P N sc (.cond c x y) Q env H:=λa w hs=>
  wp_cond_true (hs.ev e) (f a w hs)
def Yrw(e:ev env c=some (.bool false))(f:E P N sc y Q env H):E P N sc (.cond c x y) Q env H:=λa w hs=>
  wp_cond_false (hs.ev e) (f a w hs)
def Zjw{ops:Array Oper}(h:X N sc .normal Q env H):L P N sc ops [] Q env H:=λa w hs=>wpList_nil (h a w hs)
def x_then(h:E P N sc y Q env H):X N sc .normal (Exit.then (y.wp P Q) Q) env H:=h
def x_ret(h:X N sc .ret Q env H):X N sc .ret (Exit.then K Q) env H:=h
def x_exit(h:X N sc (.exit id) Q env H):X N sc (.exit id) (Exit.then K Q) env H:=h
def x_bn(h:X N sc .normal Q env H):X N sc .normal (Exit.inBlock id Q) env H:=h
def x_br(h:X N sc .ret Q env H):X N sc .ret (Exit.inBlock id Q) env H:=h
theorem x_be(h:X N sc .normal Q env H):X N sc (.exit id) (Exit.inBlock id Q) env H:=λa w hs=>by show(if id=id then Q _ a w else Q _ a w);rw [aM rfl];exact h a w hs
theorem x_bo{e:Nat}(f:e≠id)(h:X N sc (.exit e) Q env H):X N sc (.exit e) (Exit.inBlock id Q) env H:=λa w hs=>by show(if e=id then Q _ a w else Q _ a w);rw [aG f];exact h a w hs
theorem e_loop {c:Code} {G:Type} {h:G->Pu} {B:G->Hp} (m:G->Prop) (μ:G->Nat) {R:G} (h₀:m R) (hs:Sub (h R) env) (hh:HSub (B R) H)
    (t:∀g,m g->E P N sc c (Exit.then (λa w=>∃u,m u/\μ u<μ g/\Sat N sc (h u) (B u) a w) Q) (h g) (B g)) :
    E P N sc (.loop c) Q env H:=by
  intro a0 w0 j;have h1:=j.weaken hs hh;suffices hx:∀n g,μ g=n->m g->∀a w,Sat N sc (h g) (B g) a w->(Code.loop c).wp P Q a w from hx _ _ rfl h₀ a0 w0 h1
  intro n g _ hg a w j b k I;have Z:∀n g,μ g=n->m g->∀a w,Sat N sc (h g) (B g) a w->
      ∃e F w',Q e F w'/\Arrives P (lone (b.at a (.code c::.inLoop c::k)) I w) b k I e F w':=by
    intro n
    induction n using Nat.strongRecOn with
    | _ n ih=>
      intro g hn hI a w j;obtain⟨e,z,D,q,f⟩:=t g hI a w j b _ I;cases e with
      | normal=>
        obtain⟨u,S,V,s⟩:=q;obtain⟨e₂,a₂,w₂,W,r⟩:=ih _ (hn▸V) u rfl S _ _ s;exact⟨e₂,a₂,w₂,W,.of_steps (Steps.trans f (.one step_inLoop)) r⟩
      | exit id=>exact⟨_,z,D,q,.pass rfl (λ_ _=> .inl O5) f⟩
      | goto l=>exact⟨_,z,D,q,.pass rfl (λ_ _=> .inl O5) f⟩
      | ret=>exact⟨_,z,D,q,.pass rfl (λ_ _=> .inl O5) f⟩
      | panic ch=>exact⟨_,z,D,q,.pass rfl (λ_ _=> .inl O5) f⟩
      | outgrown=>exact⟨_,z,D,q,.pass rfl (λ_ _=> .inl O5) f⟩
  obtain⟨e,F,w',q,f⟩:=Z _ g rfl hg a w j;exact⟨e,F,w',q,.of_steps (.one step_loop) f⟩
def Li(P:Program)(N:Nat)(sc:Nat->Prop)(o:Oper)(env:Pu)(H:Hp)(v:Value):Prop:=
  ∀a w,Sat N sc env H a w->(execOp a.eval o).run P w= .ok (.value v) w
def T(P:Program)(N:Nat)(sc:Nat->Prop)(M:Nat->Prop)(o:Oper)(env:Pu)(H:Hp){G:Type}(φ:G->Prop)(env':G->Pu)(H':G->Hp):Prop:=
  ∀a w,Sat N sc env H a w->∀K Q,(∀g e w',φ g->Sat N sc (env' g) (H' g) e w'->Chg M w w'->K e w')->o.wp P a w K Q
theorem l_det {ops:Array Oper}     (j:o.guard=none) (g:o.dst=some d) (f:Nat.blt d N=true) (k:Li P N sc o env H v)
    (h:L P N sc ops rest Q ((d,v)::env) H):L P N sc ops (o::rest) Q env H:=λa w hs=>
  wpList_plain j λK e=>by unfold Oper.wp;rw [k a w hs];show K _ w;rw [g];exact e _ _ (h _ _ (hs.put d v f))
def l_step {ops:Array Oper}   {G:Type}  {φ:G->Prop} {e:G->Pu} {k:G->Hp} (f:o.guard=none)
    (n:T P N sc M o env H φ e k) (h:∀g,φ g->L P N sc ops rest Q (e g) (k g)):L P N sc ops (o::rest) Q env H:=λa w hs=>
  wpList_plain f λK m=>n a w hs K Q λg l w' f j _=>m _ _ (h g f l w' j)
theorem Sat.yielded(h:Sat N sc env H a w){ops:Array Oper}{j:Nat}(l:(ops[j]?).bind (·.dst)=some d)(e:lk env d=some (.bool b))(k:Nat.blt d N=true) :
    yielded ops a.tmps j=some b:=by
  have g:=h.env d _ e;have f:d<a.tmps.size:=by rw [h.size];simp_all
  unfold Go.yielded;simp_all
theorem l_gdet {ops:Array Oper}     {j e:Nat}  (n:o.guard=some (j,b)) (q:(ops[j]?).bind (·.dst)=some e) (m:lk env e=some (.bool b))
    (f:Nat.blt e N=true) (l:o.dst=some d) (k:Nat.blt d N=true) (r:Li P N sc o env H v)
    (h:L P N sc ops rest Q ((d,v)::env) H):L P N sc ops (o::rest) Q env H:=λa w hs=>
  wpList_step λK g=>by
    have t:=hs.yielded q m f;have s:Region.wanted o (yielded ops a.tmps)=true:=by simp [Region.wanted,n,t]
    rw [aM s];unfold Oper.wp;rw [r a w hs];show K _ w;rw [l];exact g _ _ (h _ _ (hs.put d v k))
theorem Yrc {ops:Array Oper}   {G:Type}  {φ:G->Prop} {f:G->Pu} {n:G->Hp} {j e:Nat}  (l:o.guard=some (j,b)) (t:(ops[j]?).bind (·.dst)=some e)
    (s:lk env e=some (.bool b)) (k:Nat.blt e N=true)
    (u:T P N sc M o env H φ f n) (h:∀g,φ g->L P N sc ops rest Q (f g) (n g)):L P N sc ops (o::rest) Q env H:=λa w hs=>
  wpList_step λK r=>by
    have B:=hs.yielded t s k;have z:Region.wanted o (yielded ops a.tmps)=true:=by simp [Region.wanted,l,B]
    rw [aM z];exact u a w hs K Q λg q w' l m _=>r _ _ (h g l q w' m)
theorem Yrd {ops:Array Oper}    {j e:Nat} {g:Bool} (r:o.guard=some (j,b)) (s:(ops[j]?).bind (·.dst)=some e) (q:lk env e=some (.bool g))
    (f:Nat.blt e N=true) (m:(g == b)=false) (n:o.dst=some d) (l:Nat.blt d N=true)
    (h:L P N sc ops rest Q ((d,undef)::env) H):L P N sc ops (o::rest) Q env H:=λa w hs=>
  wpList_step λK k=>by
    have u:=hs.yielded s q f;have t:Region.wanted o (yielded ops a.tmps)=false:=by simp [Region.wanted,r,u];grind
    rw [t,n];exact k _ _ (h _ _ (hs.put d _ l))
theorem Xd (d:Nat) {ops:Array Oper}    [Decidable p] (g:lk env d=some (.bool (decide p)))
    (k:p->L P N sc ops rest Q ((d,.bool true)::env) H) (j:¬p->L P N sc ops rest Q ((d,.bool false)::env) H):L P N sc ops rest Q env H:=λa w hs=>by
  by_cases h:p
  . refine k h a w ⟨hs.size,hs.defers,λt v e=>?_,hs.hold,hs.sep,hs.scope⟩;by_cases f:d=t
    . subst f;rw [Yl]at e;have:=hs.env _ _ g;grind
    . rw [Zx _ _ f]at e;exact hs.env _ _ e
  . refine j h a w ⟨hs.size,hs.defers,λt v e=>?_,hs.hold,hs.sep,hs.scope⟩;by_cases f:d=t
    . subst f;rw [Yl]at e;have:=hs.env _ _ g;grind
    . rw [Zx _ _ f]at e;exact hs.env _ _ e
section
variable {ops:Array Oper} {md:Region.Mode} {C:World->World->Prop}
def Fm(ops:Array Oper)(ts:List Nat)(listed:Array Bool):Bool:=(List.range ops.size).all λj=>ts.contains j || listed.getD j true
def Hy(P:Program)(md:Region.Mode)(ops:Array Oper)(ts:List Nat)(C:World->World->Prop)(Q:Exit->Act->World->Prop):Nat->Array Bool->Act->World->Prop
  | 0,listed,a,w=>Region.ready md ops listed=[]/\Q .normal a w
  | e+1,listed,a,w=>if Fm ops ts listed=true then wpAny P md ops Q (e+1) listed a w else
    (Region.ready md ops listed=[]->Q .normal a w)/\
    ∀i∈Region.ready md ops listed,wpOp P ops Q i (λf w'=>C w w'/\Hy P md ops ts C Q e (listed.setIfInBounds i true) f w') a w
theorem Zb2 (ts:List Nat) : ∀(e:Nat) (listed:Array Bool) (a:Act) (w:World),Hy P md ops ts C Q e listed a w->wpAny P md ops Q e listed a w
  | 0,_,_,_,h=>h
  | e+1,listed,_,_,h=>by
    unfold Hy at h;split at h
    . exact h
    . exact⟨h.1,λi hi=>wpOp_mono (λ_ _ f=>Zb2 _ _ _ _ _ f.2) (h.2 i hi)⟩
def YieldsC(P:Program)(ops:Array Oper)(C:World->World->Prop)(o:Oper)(v:Value)(a:Act)(w:World):Prop:=
  (Region.wanted o (yielded ops a.tmps)=true/\∀w',C w w'->(execOp a.eval o).run P w'= .ok (.value v) w')\/
  (Region.wanted o (yielded ops a.tmps)=false/\v=undef)
theorem YieldsC.wpOp      (hi:ops[i]? = some o) (e:C w w) (j:YieldsC P ops C o v a w)
     (h:K (a.put o.dst v) w):wpOp P ops Q i K a w:=by
  unfold Go.wpOp;rcases j with⟨f,g⟩|⟨f,rfl⟩
  . simp only [f,lB,Oper.wp,g w _,Oper.upon];grind
  grind
theorem YieldsC.of_same {o:Oper} {v:Value} {a e:Act} {w:World} (h:YieldsC P ops C o v a w) (f:execOp e.eval o=execOp a.eval o)
    (g:Region.wanted o (yielded ops e.tmps)=Region.wanted o (yielded ops a.tmps)):YieldsC P ops C o v e w:=by
  unfold YieldsC at *;grind
theorem YieldsC.later(e:∀a b c,C a b->C b c->C a c)(l:YieldsC P ops C o v a w)(h:C w w'):YieldsC P ops C o v a w':=by
  rcases l with⟨k,f⟩|f
  . exact .inl ⟨k,λg j=>f g (e _ _ _ h j)⟩
  . exact .inr f
theorem Yel {j:Nat} {g:Oper}  (F:ops[j]? = some g) (q:oi.apart ops g=true)
    (s:∀cs b,oi.op≠ .select cs b) (l:∀cs b,g.op≠ .select cs b)
    (R:∀c a w,Q (.panic c) (a.put oi.dst v) w->Q (.panic c) a w)    
    (D:∀a k,Y a->execOp k.eval oi=execOp a.eval oi->Region.wanted oi (yielded ops k.tmps)=Region.wanted oi (yielded ops a.tmps)->Y k) (t:Y a)
    (h:wpOp P ops Q j K (a.put oi.dst v) w) :
    wpOp P ops Q j (λk w'=>Y k/\K (k.put oi.dst v) w') a w:=by
  obtain⟨m,I,B⟩:=Oper.apart_spec q;have Yx:=λa t u=>
    D _ _ t (execOp_put oi s a _ u B) (wanted_put oi a _ u B)
  have z:∀d,Y { a with defers:=d::a.defers }:=λd=>D _ _ t rfl rfl;unfold Go.wpOp at *;simp only [F]at *;rw [wanted_put g a _ v m]at h;split
  . rename_i G;simp only [G,lB]at h;rcases h with h|⟨e,f⟩
    case inr=>exact .inr ⟨by unfold Oper.asks at *;rw [execOp_put g l a _ v m]at e;omega,f⟩
    unfold Oper.wp at *;rw [execOp_put g l a _ v m]at h;generalize (execOp _ g).run P w=r at *;cases r with
    | ok n w'=>
      cases n<;>simp only [Oper.upon]at h ⊢
      all_goals grind [Act.put_comm,Act.put_defers,Calls.mono,Rows.mono]
    | halt x w'=>
      cases x<;>simp only [Oper.upon]at h ⊢;grind
  grind [Act.put_comm]
theorem Zfm(hi:ops[i]? = some o)(e:i ∉ ts)(f:listed.getD i true=false):Fm ops ts listed=false:=by
  cases h:Fm ops ts _ with
  | false=>rfl
  | true=>
    unfold Fm at h;grind
theorem Zb3     (hi:ops[i]? = some oi) (t:∀(j:Nat) (o:Oper) z b,ops[j]? = some o->o.op≠ .select z b)
    (G:i ∉ ts) (a1:∀(j:Nat) (n:Oper),j∈ts->ops[j]? = some n->∃e∈n.after,Region.binds md e=true/\e.on=i)
    (f:∀w,C w w) (s:∀a b c,C a b->C b c->C a c)
    (hQ:∀c a w,Q (.panic c) (a.put oi.dst v) w->Q (.panic c) a w) :
    ∀(g:Nat) (listed:Array Bool) (a:Act) (w:World),
      (∀j n,ops[j]? = some n->j≠i->listed.getD j true=false->(∀e∈n.after,Region.binds md e=true->e.on≠i)->oi.apart ops n=true)->
      i∈Region.ready md ops listed->YieldsC P ops C oi v a w->
      Hy P md ops ts C Q g (listed.setIfInBounds i true) (a.put oi.dst v) w->Hy P md ops ts C Q (g+1) listed a w:=by
  intro g
  induction g with
  | zero=>
    intro listed a w _ S u H;have a0:=Zfm hi G (mem_ready.1 S).1;unfold Hy;rw [aG O4];refine⟨λh=>O4,λj R=>?_⟩;by_cases l:j=i
    . subst l;exact u.wpOp hi (f w) ⟨f w,H⟩
    . have:=ready_mono R l;rw [H.1]at this;grind
  | succ g ih=>
    intro listed a w m S u H;have a0:=Zfm hi G (mem_ready.1 S).1;unfold Hy;rw [aG O4];refine⟨λh=>O4,λj R=>?_⟩;by_cases l:j=i
    . subst l;exact u.wpOp hi (f w) ⟨f w,H⟩
    . obtain⟨D,n,r,a2⟩:=mem_ready.1 R;have F:∀e∈n.after,Region.binds md e=true->e.on≠i:=λe he hb a4=>by grind [mem_ready,Nat.lt_or_ge,Array.getElem?_eq_none]
      have B:j ∉ ts:=λhm=>by grind
      have a3:Fm ops ts (listed.setIfInBounds i true)=false:=Zfm r B (by simp_all [getD_set_ne,gX]);unfold Hy at H;rw [aG O4]at H;have h1:=H.2 j (ready_mono R l);have h2:=Yel (Y:=λa=>YieldsC P ops C oi v a w) r (m j n r l D F) (λz b=>t i oi z b hi) (λz b=>t j n z b r) hQ
        (λa a' u he hw=>YieldsC.of_same u he hw) u h1
      have q:∀k I,ops[k]? = some I->k≠i->(listed.setIfInBounds j true).getD k true=false->
          (∀e∈I.after,Region.binds md e=true->e.on≠i)->oi.apart ops I=true:=λk I hk W a6 Z=>by
        refine m k I hk W ?_ Z;by_cases a5:j=k
        all_goals simp_all
      refine wpOp_mono (λa' w' V=>⟨V.2.1,ih (listed.setIfInBounds j true) a' w' q (ready_mono S (gX l)) (V.1.later s V.2.1) ?_⟩) h2;grind [Array.setIfInBounds_comm]
end
def drp:Nat->Hp->Hp
  | _,[]=>[]
  | k,(i,p)::r=>cond (Nat.beq i k) (drp k r) ((i,p)::drp k r)
theorem Cd:∀(k:Nat) (H:Hp) (i:Nat) (p:Pc),lk (drp k H) i=some p->i≠k/\lk H i=some p
  | _,[],_,_,h=>by cases h
  | k,(j,q)::r,i,p,h=>by
    unfold drp at h;cases hb:Nat.beq j k with
    | true=>
      rw [hb]at h;obtain⟨g,l⟩:=Cd k r i p h;have:=dU hb;refine⟨g,?_⟩;rw [Zx _ _ O];exact l
    | false=>
      rw [hb]at h;simp only [cond_false]at h;by_cases f:j=i
      . refine⟨λe=>?_,by grind [Yl]⟩;simp_all
      . rw [Zx _ _ f]at h ⊢;exact Cd k r i p h
def LD(P:Program)(N:Nat)(sc:Nat->Prop)(M:Nat->Prop)(ops:Array Oper)(F:Pu->Hp->Prop):List (Nat×Nat)->Pu->Hp->Prop
  | [],env,H=>F env H
  | (i,0)::rest,env,H=>∃o d v,ops[i]? = some o/\o.dst=some d/\Nat.blt d N=true/\
      (∀a w,Sat N sc env H a w->Region.wanted o (yielded ops a.tmps)=true/\∀w',Chg M w w'->(execOp a.eval o).run P w'= .ok (.value v) w')/\LD P N sc M ops F rest ((d,v)::env) H
  | (i,1)::rest,env,H=>∃(o:Oper) (G:Type) (φ:G->Prop) (e:G->Pu) (f:G->Hp),ops[i]? = some o/\
      (∀a w,Sat N sc env H a w->Region.wanted o (yielded ops a.tmps)=true)/\T P N sc M o env H φ e f/\∀g,φ g->LD P N sc M ops F rest (e g) (f g)
  | (i,3)::rest,env,H=>∃(o:Oper) (G:Type) (φ:G->Prop) (e:G->Pu) (f:G->Hp),ops[i]? = some o/\
      (∀a w,Sat N sc env H a w->Region.wanted o (yielded ops a.tmps)=true)/\T P N sc (λ_=>True) o env H φ e f/\∀g,φ g->LD P N sc M ops F rest (e g) (f g)
  | (i,_)::rest,env,H=>∃o d,ops[i]? = some o/\o.dst=some d/\Nat.blt d N=true/\
      (∀a w,Sat N sc env H a w->Region.wanted o (yielded ops a.tmps)=false)/\LD P N sc M ops F rest ((d,undef)::env) H
def Ax:List (Nat×Nat)->List Nat
  | []=>[]
  | (i,3)::rest=>i::Ax rest
  | _::rest=>Ax rest
def Fq(ops:Array Oper)(ts:List Nat):List (Nat×Nat)->Array Bool->Bool
  | [],_=>true
  | (i,1)::rest,listed=>(Region.ready .any ops listed == [i]) && !(Fm ops ts listed) && Fq ops ts rest (listed.setIfInBounds i true)
  | (i,3)::rest,listed=>(Region.ready .any ops listed == [i]) && Fm ops ts listed && Fq ops ts rest (listed.setIfInBounds i true)
  | (i,_)::rest,listed=>(Region.ready .any ops listed).contains i && Region.free .any ops listed i && !(ts.contains i) &&
      ts.all (λj=>match ops[j]? with|some f=>f.after.any (λe=>Region.binds .any e && e.on == i)|none=>true) && Fq ops ts rest (listed.setIfInBounds i true)
def Ev:List (Nat×Nat)->Array Bool->Array Bool
  | [],listed=>listed
  | (i,_)::rest,listed=>Ev rest (listed.setIfInBounds i true)
def Fa(Q:Exit->Act->World->Prop):Exit->Act->World->Prop
  | .normal,a,w=>Q .normal a w
  | _,_,_=>False
theorem Zrh {ops:Array Oper}   (h:ts.all (λj=>match ops[j]? with|some f=>f.after.any (λe=>Region.binds .any e && e.on == i)|none=>true)=true)
    (j:Nat) (f:Oper) (g:j∈ts) (k:ops[j]? = some f):∃e∈f.after,Region.binds .any e=true/\e.on=i:=by
  grind
def A(P:Program)(N:Nat)(sc:Nat->Prop)(M:Nat->Prop)(ops:Array Oper)(ts:List Nat)(Q:Exit->Act->World->Prop)(n:Nat)(listed:Array Bool)(env:Pu)(H:Hp):Prop:=
  ∀a w,Sat N sc env H a w->Hy P .any ops ts (Chg M) (Fa Q) n listed a w
theorem LD.sound{M:Nat->Prop}{ops:Array Oper}{ts:List Nat}{F:Pu->Hp->Prop}{n:Nat}(f:Region.noSelect ops=true):∀(m:List (Nat×Nat)) (listed:Array Bool) (env:Pu) (H:Hp),Fq ops ts m listed=true->
    LD P N sc M ops F m env H->(∀env H,F env H->A P N sc M ops ts Q n (Ev m listed) env H)->A P N sc M ops ts Q (m.length+n) listed env H
  | [],listed,env,H,l,h,r,a,w,hs=>by simpa [Ev]using r _ _ h a w hs
  | (i,0)::rest,listed,env,H,l,h,r,a,w,hs=>by simp only [Fq,aR]at l;obtain⟨⟨⟨⟨B,R⟩,S⟩,s⟩,l⟩:=l;obtain⟨o,d,v,q,hd,I,z,e⟩:=h;obtain⟨W,z⟩:=z a w hs;have ih:=LD.sound f rest (listed.setIfInBounds i true) _ _ l e r _ w (hs.put d v I);show Hy P .any ops ts (Chg M) (Fa Q) ((rest.length+1)+n) listed a w;rw [gY];refine Zb3 q (Region.noSelect_spec f) O4 (Zrh s) (Chg.refl M) (λ_ _ _=>Chg.trans) (λ_ _ _ h=>h.elim) (rest.length+n) listed a w (Region.free_spec q R) O4 (.inl ⟨W,z⟩) ?_;grind
  | (i,1)::rest,listed,env,H,l,h,r,a,w,hs=>by simp only [Fq,aR,nT,fB]at l;obtain⟨⟨B,V⟩,l⟩:=l;obtain⟨o,G,φ,D,gH,q,W,ht,e⟩:=h;show Hy P .any ops ts (Chg M) (Fa Q) ((rest.length+1)+n) listed a w;rw [gY];unfold Hy;rw [aG O4];refine⟨λh0=>O4,λj t=>?_⟩;rw [B]at t;have t:=bI.1 t;subst t;unfold wpOp;simp only [q,W a w hs,lB];exact .inl (ht a w hs _ _ λg Z w' hg u hc=>⟨hc,LD.sound f rest _ _ _ l (e g hg) r Z w' u⟩)
  | (i,3)::rest,listed,env,H,l,h,r,a,w,hs=>by simp only [Fq,aR,nT]at l;obtain⟨⟨B,V⟩,l⟩:=l;obtain⟨o,G,φ,D,gH,q,W,ht,e⟩:=h;show Hy P .any ops ts (Chg M) (Fa Q) ((rest.length+1)+n) listed a w;rw [gY];unfold Hy;rw [aM V];refine⟨λh0=>O4,λj t=>?_⟩;rw [B]at t;have t:=bI.1 t;subst t;unfold wpOp;simp only [q,W a w hs,lB];exact .inl (ht a w hs _ _ λg Z w' hg u _=>Zb2 _ _ _ _ _ (LD.sound f rest _ _ _ l (e g hg) r Z w' u))
  | (i,2)::rest,listed,env,H,l,h,r,a,w,hs=>by simp only [Fq,aR]at l;obtain⟨⟨⟨⟨B,R⟩,S⟩,s⟩,l⟩:=l;obtain⟨o,d,q,hd,I,z,e⟩:=h;have ih:=LD.sound f rest (listed.setIfInBounds i true) _ _ l e r _ w (hs.put d undef I);show Hy P .any ops ts (Chg M) (Fa Q) ((rest.length+1)+n) listed a w;rw [gY];refine Zb3 q (Region.noSelect_spec f) O4 (Zrh s) (Chg.refl M) (λ_ _ _=>Chg.trans) (λ_ _ _ h=>h.elim) (rest.length+n) listed a w (Region.free_spec q R) O4 (.inr ⟨z a w hs,rfl⟩) ?_;grind
  | (i,(k+4))::rest,listed,env,H,l,h,r,a,w,hs=>by simp only [Fq,aR]at l;obtain⟨⟨⟨⟨B,R⟩,S⟩,s⟩,l⟩:=l;obtain⟨o,d,q,hd,I,z,e⟩:=h;have ih:=LD.sound f rest (listed.setIfInBounds i true) _ _ l e r _ w (hs.put d undef I);show Hy P .any ops ts (Chg M) (Fa Q) ((rest.length+1)+n) listed a w;rw [gY];refine Zb3 q (Region.noSelect_spec f) O4 (Zrh s) (Chg.refl M) (λ_ _ _=>Chg.trans) (λ_ _ _ h=>h.elim) (rest.length+n) listed a w (Region.free_spec q R) O4 (.inr ⟨z a w hs,rfl⟩) ?_;grind
def Sat.drew(h:Sat N sc env H a w):Sat N sc env H a { w with drawn:=w.drawn+1 }:=
  ⟨h.size,h.defers,h.env,λi e hi=>e.stable w _ (h.hold i e hi) ⟨rfl,rfl,rfl,aI _,λ_ _ _=>rfl⟩,h.sep,h.scope⟩
theorem Zt{ops:Array Oper}(h:X N sc .normal Q env H)(e:(Region.ready .any ops listed).isEmpty=true:=by kernel_rfl):A P N sc M ops ts Q 0 listed env H:=
  λa w hs=>⟨O4,h a w hs⟩
def Zf8(P:Program)(N:Nat)(sc:Nat->Prop)(M:Nat->Prop)(ops:Array Oper)(ts:List Nat)(Q:Exit->Act->World->Prop)(n:Nat)(listed:Array Bool)(env:Pu)(H:Hp)(i:Nat):Prop:=
  ∃(o:Oper) (G:Type) (φ:G->Prop) (e:G->Pu) (f:G->Hp),ops[i]? = some o/\o.guard=none/\T P N sc M o env H φ e f/\∀g,φ g->A P N sc M ops ts Q n (listed.setIfInBounds i true) (e g) (f g)
theorem Yoc  {ops:Array Oper}   {n:Nat} (m:List Nat) (f:((Region.ready .any ops listed == m) && !(Fm ops ts listed) && !m.isEmpty)=true)
    (h:∀i∈m,Zf8 P N sc M ops ts Q n listed env H i):A P N sc M ops ts Q (n+1) listed env H:=λa w hs=>by
  simp only [aR,nT,fB]at f;obtain⟨⟨f,D⟩,u⟩:=f;unfold Hy;rw [aG O4];refine⟨λI=>?_,λj r=>?_⟩
  . grind
  . rw [f]at r;obtain⟨o,G,φ,q,F,z,k,B,e⟩:=h j r;unfold wpOp;simp only [z,Region.wanted,k,lB];exact .inl (B a w hs _ _ λg s w' k l t=>⟨t,e g k s w' l⟩)
theorem a_lin  {l:List Oper}  {n m:Nat}  {F:Pu->Hp->Prop} (e:List (Nat×Nat)) 
    (g:(Region.noSelect l.toArray && Fq l.toArray ts e listed && Nat.beq (e.length+n) m)=true) (h:LD P N sc M l.toArray F e env H)
    (f:∀env H,F env H->A P N sc M l.toArray ts Q n (Ev e listed) env H):A P N sc M l.toArray ts Q m listed env H:=by
  grind [Nat.eq_of_beq_eq_true,LD.sound]
theorem Kr  {l:List Oper} (M:Nat->Prop) (ts:List Nat) 
    (h:A P N sc M l.toArray ts Q l.length (Array.replicate l.length false) env H) (g:P.follows .mixedOrders=true:=by kernel_rfl):E P N sc (.region id l.toArray true) Q env H:=λa w hs=>by
  refine Code.wp_mono (Q:=Fa Q) (λe a w f=>by cases e<;>first|exact f|exact f.elim) ?_;refine wp_region_any g (Zb2 ts (C:=Chg M) _ _ _ _ ?_);simpa using h a _ hs.drew
theorem e_dreg  {l:List Oper} (M:Nat->Prop) (e:List (Nat×Nat)) (q:P.follows .mixedOrders=true)
    (g:(Region.noSelect l.toArray && Nat.beq e.length l.length && Fq l.toArray (Ax e) e (Array.replicate l.length false) &&
      (Region.ready .any l.toArray (Ev e (Array.replicate l.length false))).isEmpty)=true)
    (h:LD P N sc M l.toArray (X N sc .normal Q) e env H):E P N sc (.region id l.toArray true) Q env H:=by
  simp only [aR]at g;obtain⟨⟨⟨j,f⟩,k⟩,m⟩:=g;have f:=dU f;refine Kr M (Ax e) ?_ q;have:=LD.sound j _ _ env H k h (λenv H n=>Zt n m);grind
end Go.Sky
namespace Go.Sky
open Go.RowKit Below
variable{w:World}{k kd:IntKind}{v:Value}{t t' tb:TypeId}{o:Oper}{x c y:Operand}{i b:Nat}{vs cs:Array Value}{p:Pc}{m:Int}
variable {P:Program} {N:Nat} {sc:Nat->Prop} {env env':Pu} {H H':Hp} {Q Q':Exit->Act->World->Prop}
def Yx(w0:World)(M:Nat->Prop):Pc:=
  { own:=false,fp:=λb=>b<w0.heap.size/\¬M b,holds:=λw=>Chg M w0 w
    lt:=λw b h f=>dL f.1 h.size
    stable:=λw j h a=>⟨a.os.trans h.os,a.tape.trans h.tape,a.output.trans h.output,aB h.size a.size,
      λk d e=>(a.block k (dL d h.size) (λg=>g ⟨d,e⟩)).trans (h.block k d e)⟩ }
def box(b:Nat)(t:TypeId)(cs:Array Value):Pc:=
  { own:=true,fp:=λk=>k=b,holds:=λw=>w.heap[b]? = some (.cells cs t (0,0))
    lt:=λw k h d=>by subst d;exact(aS.1 h).1
    stable:=λw f h a=>by rw [<-h];exact a.block b (aS.1 h).1 (λe=>e rfl) }
def cellsOf{α:Type}(enc:α->Value)(xs:List α):List Value:=xs.flatMap λx=>(enc x).cells.toList
def RowAt{α:Type}(w:World)(k:Nat)(enc:α->Value)(v:Value)(xs:List α):Prop:=
  ∃a c,v= .slice a xs.length c/\xs.length<=c/\c<=maxLen/\(xs=[]\/∃g d,a=some ⟨g,d,none⟩/\
    ∀i x,xs[i]? = some x->∀j u,(enc x).cells.toList[j]? = some u->w.cell? ⟨g,d+i*k+j,none⟩=some u)
theorem RowAt.same{α:Type}{w':World}{k:Nat}{enc:α->Value}{xs:List α}(h:RowAt w k enc v xs)(r:∀b,xs≠[]/\v.ownBlock=some b->w'.heap[b]? = w.heap[b]?):RowAt w' k enc v xs:=by
  obtain⟨a,c,rfl,d,e,f⟩:=h;rcases f with f|⟨g,l,rfl,q⟩
  . exact⟨a,c,rfl,d,e,.inl f⟩
  by_cases n:xs=[]
  . exact⟨_,c,rfl,d,e,.inl n⟩
  refine⟨_,c,rfl,d,e,.inr ?_⟩;refine⟨g,l,rfl,λi x hi j u s=>?_⟩;rw [<-q i x hi j u s];exact World.cell?_of_block (r g ⟨n,rfl⟩)
def Yy{α:Type}(k:Nat)(enc:α->Value)(v:Value)(xs:List α):Pc:=
  { own:=false,fp:=λb=>xs≠[]/\v.ownBlock=some b,holds:=λw=>RowAt w k enc v xs/\∀b,xs≠[]/\v.ownBlock=some b->b<w.heap.size
    lt:=λw b h a=>h.2 b a
    stable:=λw f h d=>⟨h.1.same λb a=>d.block b (h.2 b a) (λe=>e a),λb a=>dL (h.2 b a) d.size⟩ }
def Of{α:Type}(k:Nat)(e:TypeId)(enc:α->Value)(v:Value)(xs:List α):Pc:=
  { own:=true,fp:=λb=>v.ownBlock=some b,holds:=λw=>w.ownsRow 0 e k v xs.length (cellsOf enc xs)
    lt:=λw b h l=>(h.lt b l).2
    stable:=λw r h q=>by
      refine⟨h.1,?_⟩;rcases h.2 with n|⟨g,f,j,rfl,l,a,d⟩
      . exact .inl n
      . refine .inr ⟨g,f,j,rfl,l,?_,d⟩;rw [<-a];exact q.block g (aS.1 a).1 (λn=>n rfl) }
structure Enc {α:Type} (P:Program) (t:TypeId) (k:Nat) (enc:α->Value):Prop where
  pos:0<k
  cells:∀x,(enc x).cells.size=k
  one:∀x,∀u∈(enc x).cells.toList,u.oneCell'=true
  size:∀w,(sizeOf t).run P w= .ok k w
  load:∀x w ad,(∀j u,(enc x).cells.toList[j]? = some u->w.cell? (ad.add j)=some u)->(loadVar t ad).run P w= .ok (enc x) w
theorem Enc.flat{α:Type}{enc:α->Value}(hs:∀w,(sizeOf t).run P w= .ok 1 w)(e:∀w,(isAgg t).run P w= .ok false w)(d:∀x,(enc x).oneCell'=true):Enc P t 1 enc:=by
  have g:∀x,(enc x).cells=#[enc x]:=λx=>by have:=d x;cases hx:enc x<;>simp_all [Value.cells,Value.oneCell']
  refine⟨O5,λx=>O4,λx u j=>?_,hs,λx w f h=>?_⟩
  . grind
  . have a:=h 0 (enc x) O4;simp only [Addr.add,lB]at a;simp [loadVar,e,a]
theorem Enc.agg {α:Type}  {k:Nat} {enc:α->Value} (n:0<k) (hs:∀w,(sizeOf t).run P w= .ok k w) (l:∀w,(isAgg t).run P w= .ok true w)
    (d:∀x,∃cs:List Value,enc x= .agg cs.toArray/\cs.length=k/\∀u∈cs,u.oneCell'=true):Enc P t k enc:=by
  refine⟨n,λx=>?_,λx u q=>?_,hs,λx w j h=>?_⟩
  . obtain⟨cs,a,e,f⟩:=d x;rw [a];assumption
  . obtain⟨cs,a,e,f⟩:=d x;rw [a]at q;exact f u ‹_›
  . obtain⟨cs,a,e,f⟩:=d x;rw [a]at h ⊢;have g:=run_loadCells_list (P:=P) w j cs ‹_›;rw [e]at g;simp [loadVar,l,hs,g]
theorem Xk{α:Type}{k:Nat}{enc:α->Value}(a:∀x,(enc x).cells.size=k):∀xs:List α,(cellsOf enc xs).length=xs.length*k
  | []=>by simp [cellsOf]
  | x::r=>by have d:=Xk a r;simp only [cellsOf,gG,bL,eR,dP]at d ⊢;rw [a x,cK];omega
theorem Gf{α:Type}{k:Nat}{enc:α->Value}(a:∀x,(enc x).cells.size=k):∀(xs:List α) (i:Nat) (x:α),xs[i]? = some x->∀j u,(enc x).cells.toList[j]? = some u->(cellsOf enc xs)[i*k+j]? = some u
  | [],_,_,h,_,_,_=>O4
  | y::r,0,x,h,j,u,hu=>by simp only [cellsOf,gG,gI,cE];grind
  | y::r,i+1,x,h,j,u,hu=>by have d:=Gf a r i x (by simpa using h) j u hu;simp only [cellsOf,gG]at d ⊢;rw [fA (by simp [a,cK];omega)];rw [<-d];congr 1;simp [a,cK];omega
def Rd{α:Type}(p:Pc)(k:Nat)(enc:α->Value)(v:Value)(xs:List α):Prop:=∀w,p.holds w->RowAt w k enc v xs
def Zq{α:Type}{k:Nat}{enc:α->Value}{xs:List α} : Rd (Yy k enc v xs) k enc v xs:=λw h=>h.1
theorem Ar{α:Type}{k:Nat}{e:TypeId}{enc:α->Value}{xs:List α}(s:∀x,(enc x).cells.size=k)(h:w.ownsRow 0 e k v xs.length (cellsOf enc xs)):RowAt w k enc v xs:=by
  rcases h.2 with⟨rfl,D⟩|⟨g,d,r,rfl,_,l,n,f,z,a⟩
  . have:=aC D;subst this;exact⟨none,0,rfl,aI _,O5,.inl rfl⟩
  . refine⟨_,d,rfl,n,f,.inr ⟨g,0,rfl,λi x hi j u B=>?_⟩⟩;have q:=Gf s xs i x hi j u B;rw [<-a,mW]at q;split at q
    . simp only [World.cell?,l];grind
    grind
def Ya{α:Type}{k:Nat}{e:TypeId}{enc:α->Value}{xs:List α}(a:Enc P t k enc):Rd (Of k e enc v xs) k enc v xs:=λw h=>Ar a.cells h
theorem Ol(g o n:Nat):(⟨g,o,none⟩:Addr).add n=⟨g,o+n,none⟩:=by unfold Addr.add;all_goals grind
def ead(v:Value)(i k:Nat):Addr:=match v with
  | .slice (some a) _ _=>a.add (i*k)
  | _=>default
theorem Za8(d:o.op= .move x)(e:ev env x=some v):Li P N sc o env H v:=λa w hs=>by simp only [execOp,d,hs.ev e];rfl
theorem d_as(d:o.op= .assign x)(e:ev env x=some v):Li P N sc o env H v:=λa w hs=>by simp only [execOp,d,hs.ev e];rfl
theorem Zzg(d:o.op= .extract x i)(f:ev env x=some (.tuple vs))(e:vs[i]? = some v):Li P N sc o env H v:=λa w hs=>by simp [execOp,d,hs.ev f,Instr.extract,e]
theorem d_nc{d:Addr}(e:o.op= .nilCheck x)(f:ev env x=some (.pointer (some d))):Li P N sc o env H (.pointer (some d)):=λa w hs=>by simp [execOp,e,hs.ev f]
theorem Ymv{p:Prop}[Decidable p](d:o.op= .unOp .not t x)(e:ev env x=some (.bool (decide p))):Li P N sc o env H (.bool (decide (¬p))):=λa w hs=>by simp [execOp,d,hs.ev e,Op.unary]
theorem Xb{b:Bool}(d:o.op= .unOp .not t x)(e:ev env x=some (.bool b)):Li P N sc o env H (.bool (!b)):=λa w hs=>by simp [execOp,d,hs.ev e,Op.unary]
theorem Cn(e:o.op= .pick c x y)(d:ev env c=some (.bool true))(f:ev env x=some v):Li P N sc o env H v:=λa w hs=>by simp [execOp,e,hs.ev d,hs.ev f,asBool]
theorem Yr6(e:o.op= .pick c x y)(d:ev env c=some (.bool false))(f:ev env y=some v):Li P N sc o env H v:=λa w hs=>by simp [execOp,e,hs.ev d,hs.ev f,asBool]
def Nw(n:Int):Prop:=-9223372036854775808<=n/\n<=9223372036854775807
theorem Zb1{n:Int}(h:Nw n):IntKind.i64.wrap n=n:=by rw [IntKind.wrap_i64];obtain⟨a,d⟩:=h;omega
theorem Yg5(n:Int):IntKind.u64.wrap n=n%18446744073709551616:=by rfl
theorem Eb  {d:BinOp}    {n:Int} {r:Value} (e:o.op= .binOp d t x y t') (g:ev env x=some (.int k m)) (h:ev env y=some (.int k n))
    (f:∀w,(binOp d t (.int k m) (.int k n)).run P w= .ok r w):Li P N sc o env H r:=λa w hs=>by
  simp [execOp,e,hs.ev g,hs.ev h,eqGuard,f w]
theorem Ym0{n:Int}(a:o.op= .binOp .add t x y t')(d:ev env x=some (.int .i64 m))(e:ev env y=some (.int .i64 n))(h:Nw (m+n):=by exact⟨O,O⟩) :
    Li P N sc o env H (.int .i64 (m+n)):=Eb a d e λw=>by simp [binOp,Op.intArith,Zb1 h]
theorem d_sub{n:Int}(a:o.op= .binOp .sub t x y t')(d:ev env x=some (.int .i64 m))(e:ev env y=some (.int .i64 n))(h:Nw (m-n)) :
    Li P N sc o env H (.int .i64 (m-n)):=Eb a d e λw=>by simp [binOp,Op.intArith,Zb1 h]
theorem d_mul{n:Int}(a:o.op= .binOp .mul t x y t')(d:ev env x=some (.int .i64 m))(e:ev env y=some (.int .i64 n))(h:Nw (m*n)) :
    Li P N sc o env H (.int .i64 (m*n)):=Eb a d e λw=>by simp [binOp,Op.intArith,Zb1 h]
theorem Zfh{n:Int}(e:o.op= .binOp .quo t x y t')(g:ev env x=some (.int .i64 m))(h:ev env y=some (.int .i64 n))(a:0<=m)(j:m<=9223372036854775807)(d:0<n) :
    Li P N sc o env H (.int .i64 (m/n)):=Eb e g h λw=>by
  have f:Nw (m/n):=by have l:=jJ a (dV d);have q:=lJ n a;exact⟨O,O⟩
  simp [binOp,Op.intDiv,Int.tdiv_eq_ediv_of_nonneg a,Zb1 f];omega
theorem Zni{n:Int}(d:o.op= .binOp .rem t x y t')(e:ev env x=some (.int .i64 m))(f:ev env y=some (.int .i64 n))(a:0<=m)(g:0<n) :
    Li P N sc o env H (.int .i64 (m%n)):=Eb d e f λw=>by
  simp [binOp,Op.intDiv,Int.tmod_eq_emod_of_nonneg a];omega
theorem Ymx{n:Int}(a:o.op= .binOp .lss t x y t')(d:ev env x=some (.int k m))(e:ev env y=some (.int k n)) :
    Li P N sc o env H (.bool (decide (m<n))):=Eb a d e λw=>by simp [binOp,Op.intCmp]
theorem d_leq{n:Int}(a:o.op= .binOp .leq t x y t')(d:ev env x=some (.int k m))(e:ev env y=some (.int k n)) :
    Li P N sc o env H (.bool (decide (m<=n))):=Eb a d e λw=>by simp [binOp,Op.intCmp]
theorem Zbt{n:Int}(a:o.op= .binOp .gtr t x y t')(d:ev env x=some (.int k m))(e:ev env y=some (.int k n)) :
    Li P N sc o env H (.bool (decide (n<m))):=Eb a d e λw=>by simp [binOp,Op.intCmp]
theorem d_geq{n:Int}(a:o.op= .binOp .geq t x y t')(d:ev env x=some (.int k m))(e:ev env y=some (.int k n)) :
    Li P N sc o env H (.bool (decide (n<=m))):=Eb a d e λw=>by simp [binOp,Op.intCmp]
theorem Ymy{n:Int}(a:o.op= .binOp .eql t x y t')(d:ev env x=some (.int k m))(e:ev env y=some (.int k n)) :
    Li P N sc o env H (.bool (decide (m=n))):=Eb a d e λw=>by
  simp only [binOp,ne_eq,iO,nF,Op.intCmp];rfl
theorem Znj{n:Int}(a:o.op= .binOp .neq t x y t')(d:ev env x=some (.int k m))(e:ev env y=some (.int k n)) :
    Li P N sc o env H (.bool (decide (m≠n))):=Eb a d e λw=>by
  simp only [binOp,ne_eq,iO,nF,Op.intCmp,Sem.run_pure];grind
theorem d_len {α:Type}   {e:TypeId}  {k:Nat}  {enc:α->Value} {xs:List α} (f:o.op= .call { callee:= .builtin .len,args:=#[x],argTypes:=#[t] })
    (j:ev env x=some v) (d:lk H i=some p) (g:Rd p k enc v xs) (h:P.underlying t=some (.slice e)):Li P N sc o env H (.int .i64 xs.length):=λa w hs=>by
  obtain⟨l,c,rfl,_⟩:=g w (hs.hold i p d);simp [execOp,f,resolve,hs.ev j,invoke,builtin,Builtin.len_,run_underlying h,goInt]
theorem d_lens    {s:ByteArray} (d:o.op= .call { callee:= .builtin .len,args:=#[x],argTypes:=#[t] })
    (f:ev env x=some (.string s)) (e:P.underlying t=some .string):Li P N sc o env H (.int .i64 s.size):=λa w hs=>by
  simp [execOp,d,resolve,hs.ev f,invoke,builtin,Builtin.len_,run_underlying e,goInt]
theorem Zv (ii:Nat)(i:Nat) {α:Type}   {e:TypeId}  {k:Nat}    {enc:α->Value} {xs:List α} (n:o.op= .indexAddr t x y)
    (s:ev env x=some v) (u:ev env y=some (.int kd m)) (l:lk H ii=some p) (q:Rd p k enc v xs) (r:P.underlying t=some (.slice e)) (h:∀w,(sizeOf e).run P w= .ok k w)
      (d:m=(i:Int):=by omega) (f:i<xs.length:=by omega):Li P N sc o env H (.pointer (some (ead v i k))):=λa w hs=>by
  obtain⟨B,c,rfl,D,F,j⟩:=q w (hs.hold ii p l);rcases j with rfl|⟨g,z,rfl,j⟩
  . grind
  . subst d;simp [execOp,n,hs.ev s,hs.ev u,Instr.indexAt,asIntOf,run_underlying r,h,f,ead]
theorem Ys (ii:Nat) {α:Type}     {k:Nat}  {enc:α->Value} {xs:List α} (f:α) (r:o.op= .load t x)
    (z:ev env x=some (.pointer (some (ead v i k)))) (h:lk H ii=some p) (s:Rd p k enc v xs) (l:Enc P t k enc)
     (q:i<xs.length:=by omega):Li P N sc o env H (enc (xs.getD i f)):=λa w hs=>by
  obtain⟨B,c,rfl,D,F,d⟩:=s w (hs.hold ii p h);rcases d with rfl|⟨g,e,rfl,d⟩
  . grind
  . have hi:xs[i]? = some (xs.getD i f):=O4;have:=l.load _ w (ead (.slice (some ⟨g,e,none⟩) xs.length c) i k) (λj u n=>by have:=d i _ hi j u n;simp only [ead,Ol];omega)
    simp [execOp,r,hs.ev z,Instr.loadAt,Instr.sureAddr,this]
theorem Yde    {s:ByteArray}    (j:o.op= .index t x y)
    (n:ev env x=some (.string s)) (q:ev env y=some (.int kd m)) (l:P.underlying t=some .string)
    (d:m=(i:Int)) (e:i<s.size):Li P N sc o env H (.int .u8 ((s.data.toList.getD i 0).toNat:Int)):=λa w hs=>by
  subst d;have f:=getElem?_pos s i e;have g:s.data.toList.getD i 0=s[i]:=by
    have h:i<s.data.toList.length:=by assumption
    simp only [List.getD,aN h,eV];rfl
  rw [g];simp [execOp,j,hs.ev n,hs.ev q,Instr.index,asIntOf,run_underlying l,f]
theorem d_fa    {f:Nat} {g:Array Field} {e:Field} {k:Nat} {d q r:Nat} (l:o.op= .fieldAddr t x f)
    (z:ev env x=some (.pointer (some ⟨b,d,none⟩))) (u:P.underlying t=some (.struct g)) (h:g[f]? = some e) (j:∀w,(sizeOf e.type).run P w= .ok (k+1) w) (n:e.offset=q) (s:d+q=r) :
    Li P N sc o env H (.pointer (some ⟨b,r,none⟩)):=λa w hs=>by
  subst s;subst n;simp [execOp,l,hs.ev z,Instr.fieldAt,run_underlying u,h,Instr.sureAddr,fieldPlace,j,Ol]
theorem Sat.boxc{a:Act}(hs:Sat N sc env H a w)(d:lk H i=some (box b t cs))(j:Nat):w.cell? ⟨b,j,none⟩=cs[j]?:=by have h:w.heap[b]? = some _:=hs.hold i _ d;simp [World.cell?,h]
theorem Ygp (i:Nat)    {j:Nat}   (e:o.op= .load t x)
    (l:ev env x=some (.pointer (some ⟨b,j,none⟩))) (d:lk H i=some (box b tb cs)) (f:∀w,(isAgg t).run P w= .ok false w) (g:cs[j]? = some v):Li P N sc o env H v:=λa w hs=>by
  have h:=hs.boxc d j;rw [g]at h;simp [execOp,e,hs.ev l,Instr.loadAt,Instr.sureAddr,loadVar,f,load,Sem.run,h]
theorem Ydd (vs:List Value)    {j k:Nat}   (h:o.op= .load t x)
    (q:ev env x=some (.pointer (some ⟨b,j,none⟩))) (e:lk H i=some (box b tb cs)) (l:∀w,(isAgg t).run P w= .ok true w) (f:∀w,(sizeOf t).run P w= .ok k w)
    (g:vs.length=k) (s:∀n u,vs[n]? = some u->cs[j+n]? = some u):Li P N sc o env H (.agg vs.toArray):=λa w hs=>by
  have d:=run_loadCells_list (P:=P) w ⟨b,j,none⟩ vs (λn u r=>by rw [Ol,hs.boxc e];grind);rw [g]at d;simp [execOp,h,hs.ev q,Instr.loadAt,Instr.sureAddr,loadVar,l,f,d]
end Go.Sky
namespace Go.Sky
open Go.RowKit Below
variable{a:Act}{w w' w0:World}{M0:Nat->Prop}{o:Oper}{t:TypeId}{d i k:Nat}{cs:Array Value}{x y:Operand}{v:Value}{p:Pc}{parts:Array (Nat×Operand)}
variable {P:Program} {N:Nat} {sc:Nat->Prop} {env env':Pu} {H H':Hp} {Q Q':Exit->Act->World->Prop} {M:Nat->Prop}
def Chg.alloc(M:Nat->Prop)(w:World)(o:Obj):Chg M w (w.alloc o):=
 ⟨rfl,rfl,rfl,O5,λk b _=>heap_alloc_old w o k b⟩
def Sat.chg(h:Sat N sc env H a w)(f:∀fp:Nat->Prop,(∀b,fp b->b<w.heap.size)->Chg (λb=>¬fp b) w w'):Sat N sc env H a w':=
 ⟨h.size,h.defers,h.env,λi c hi=>c.stable w w' (h.hold i c hi) (f _ λb e=>c.lt w b (h.hold i c hi) e),h.sep,h.scope⟩
def Sat.chg0(h:Sat N sc env H a w)(b:Chg (λ_=>False) w w'):Sat N sc env H a w':=
 h.chg λf c=>⟨b.os,b.tape,b.output,b.size,λk e g=>b.block k e (λh=>h)⟩
theorem Sat.add   (h:Sat N sc env H a w) (i:Nat) (p:Pc) (F:p.holds w) (z:∀j e,j≠i->lk H j=some e->(p.own=true\/e.own=true)->∀b,p.fp b->e.fp b->False)
  (D:∀b,p.fp b->sc b):Sat N sc env ((i,p)::H) a w:=by
 refine⟨h.size,h.defers,h.env,λj e c=>?_,λj B e u l c f m b n q=>?_,λj e r c b n=>?_⟩
 .by_cases g:i=j
  .grind [Yl]
  .rw [Zx _ _ g]at c;exact h.hold j e c
 .by_cases g:i=j
  .subst g;rw [Yl]at c;rw [Zx _ _ l]at f;grind
  .rw [Zx _ _ g]at c;by_cases s:i=B
   .grind [Yl]
   .rw [Zx _ _ s]at f;exact h.sep j B e u l c f m b n q
 .by_cases g:i=j
  .grind [Yl]
  .rw [Zx _ _ g]at c;exact h.scope j e r c b n
def Wide(sc:Nat->Prop)(H:Hp):Prop:=∃w0 M,lk H 0=some (Yx w0 M)/\∀b,w0.heap.size<=b->sc b
theorem Sat.new   (h:Sat N sc env H a w)   (f:lk H 0=some (Yx w0 M0)) (r:∀b,w0.heap.size<=b->sc b) (i:Nat) (p:Pc) (o:Obj)
  (q:p.holds (w.alloc o)) (m:∀b,p.fp b->b=w.heap.size):Sat N sc env ((i,p)::H) a (w.alloc o):=by
 have g:=h.chg0 (Chg.alloc _ w o);have s:=(h.hold 0 _ f).size;refine g.add i p q (λj e _ n _ b l c=>?_) (λb l=>r b O4);have:=e.lt w b (h.hold j e n) c;grind
theorem Zke (i:Nat)    {z:Value}    (l:o.op= .alloc t) (j:o.dst=some d) (f:Nat.blt d N=true)
  (q:∀w,(zeroValue t).run P w= .ok z w) (h:z.cells=cs) (c:lk H 0=some (Yx w0 M0)) (n:∀b,w0.heap.size<=b->sc b) :
  T P N sc M o env H (G:=Nat) (λ_=>True) (λb=>(d,.pointer (some ⟨b,0,none⟩))::env) (λb=>(i,box b t cs)::H):=λa w hs K Q e=>by
 subst h;have m:(execOp a.eval o).run P w= .ok (.value (.pointer (some ⟨w.heap.size,0,none⟩))) (w.alloc (.cells z.cells t)):=by simp [execOp,l,Instr.alloc,q,newVar,newRow]
 unfold Oper.wp;rw [m];show K _ _;rw [j];exact e _ _ _ aA ((hs.new c n i _ _ (heap_alloc_new w _) (λb g=>g)).put d _ f) (Chg.alloc _ _ _)
theorem t_box         (l:o.op= .box t x) (j:o.dst=some d) (f:Nat.blt d N=true)
  (q:ev env x=some v) (h:v.cells=cs) (c:lk H 0=some (Yx w0 M0)) (n:∀b,w0.heap.size<=b->sc b) :
  T P N sc M o env H (G:=Nat) (λ_=>True) (λb=>(d,.pointer (some ⟨b,0,none⟩))::env) (λb=>(i,box b t cs)::H):=λa w hs K Q e=>by
 subst h;have m:(execOp a.eval o).run P w= .ok (.value (.pointer (some ⟨w.heap.size,0,none⟩))) (w.alloc (.cells v.cells t)):=by simp [execOp,l,Instr.box,hs.ev q,newVar,newRow]
 unfold Oper.wp;rw [m];show K _ _;rw [j];exact e _ _ _ aA ((hs.new c n i _ _ (heap_alloc_new w _) (λb g=>g)).put d _ f) (Chg.alloc _ _ _)
def One(N:Nat)(sc:Nat->Prop)(env:Pu)(H:Hp)(v:Value):Prop:=∀a w,Sat N sc env H a w->v.oneCell'=true
def Yd(h:v.oneCell'=true):One N sc env H v:=λ_ _ _=>h
theorem Oo (i:Nat){α:Type}{enc:α->Value}{xs:List α}(b:lk H i=some p)(e:Rd p k enc v xs):One N sc env H v:=λa w hs=>by obtain⟨f,c,rfl,_⟩:=e w (hs.hold i p b);rfl
theorem Ye(h:v.oneCell'=true):v.cells=#[v]:=by cases v<;>simp_all [Value.cells,Value.oneCell']
def Ku{g:Nat}(b:M g):Chg M w (w.setRow g cs):=
 ⟨rfl,rfl,rfl,O5,λk _ c=>setRow_other w g k cs (λe=>c (e▸b))⟩
theorem Sat.upd   (h:Sat N sc env H a w)  {q:Pc} (hi:lk H i=some p) (f:p.own=true) (G:i≠0)
  (B:Chg p.fp w w') (hq:q.holds w') (z:∀b,q.fp b->p.fp b\/w.heap.size<=b)   (S:lk H 0=some (Yx w0 M0)) (Z:∀b,w0.heap.size<=b->sc b) :
  Sat N sc env ((i,q)::H) a w':=by
 refine⟨h.size,h.defers,h.env,λj g c=>?_,λj F g s r c e W b m n=>?_,λj g I c b m=>?_⟩
 .by_cases u:i=j
  .grind [Yl]
  .rw [Zx _ _ u]at c;exact g.stable w w' (h.hold j g c) ⟨B.os,B.tape,B.output,B.size,λb m V=>B.block b m (λY=>V (λR=>h.sep i j p g u hi c f b Y R))⟩
 .by_cases u:i=j
  .subst u;rw [Yl]at c;cases c;rw [Zx _ _ r]at e;rcases z b m with l|l
   .exact h.sep i F p s r hi e f b l n
   .have:=s.lt w b (h.hold F s e) n;omega
  .rw [Zx _ _ u]at c;by_cases D:i=F
   .subst D;rw [Yl]at e;cases e;rcases z b n with l|l
    .exact h.sep i j p g (gX r) hi c f b l m
    .have:=g.lt w b (h.hold j g c) m;omega
   .rw [Zx _ _ D]at e;exact h.sep j F g s r c e W b m n
 .by_cases u:i=j
  .subst u;rw [Yl]at c;cases c;rcases z b m with l|l
   .exact h.scope i p G hi b l
   .exact Z b (aB (h.hold 0 _ S).size l)
  .rw [Zx _ _ u]at c;exact h.scope j g I c b m
def Fc(cs:Array Value)(j:Nat)(vs:List Value):Array Value:=(cs.toList.take j ++ vs ++ cs.toList.drop (j+vs.length)).toArray
theorem Zjj (vs:List Value)   {f:TypeId} {b j:Nat} {cs':Array Value}     (I:o.op= .store t x y) (F:o.dst=none)
  (Y:ev env x=some (.pointer (some ⟨b,j,none⟩))) (Z:ev env y=some v) (m:lk H i=some (box b f cs)) (g:i≠0) (V:v.cells=vs.toArray) (h:∀w,(sizeOf t).run P w= .ok k w) (c:vs.length=k)
  (r:j+vs.length<=cs.size) (z:∀u∈vs,One N sc env H u) (e:Fc cs j vs=cs')
  (s:lk H 0=some (Yx w0 M0)) (W:∀b,w0.heap.size<=b->sc b) (D:M b) :
  T P N sc M o env H (G:=Unit) (λ_=>True) (λ_=>env) (λ_=>(i,box b f cs')::H):=λa w hs K Q B=>by
 subst e;have n:=hs.hold i _ m;have l:=run_storeCells_at P b j f vs 0 cs w n O (λu S=>z u S a w hs);have R:(execOp a.eval o).run P w= .ok .skip (w.setRow b (Fc cs j vs)):=by simp [execOp,I,hs.ev Y,hs.ev Z,Instr.storeAt,Instr.sureAddr,storeVar,V,h,c,l,Fc]
 unfold Oper.wp;rw [R];show K _ _;rw [F];exact B () _ _ aA ((hs.upd m rfl g (q:=box b f (Fc cs j vs)) (Ku rfl) (setRow_heap w b cs _ f _ n) (λk h=> .inl h) s W).put_none _) (Ku D)
theorem t_bs {α:Type}  {e:TypeId} {n:Nat}      {enc:α->Value} (xs:List α)
  (z:o.op= .buildSlice t n parts) (r:o.dst=some d) (l:Nat.blt d N=true)
  (F:∀a w,Sat N sc env H a w->(Instr.buildSlice t n (parts.map λ(i,x)=>(i,a.eval x))).run P w= .ok (.slice (some ⟨w.heap.size,0,none⟩) n n) (w.alloc (.cells cs e)))
  (q:cs.toList=cellsOf enc xs) (D:xs.length=n) (s:∀x,(enc x).cells.size=k) (u:n<=maxLen)
  (h:lk H 0=some (Yx w0 M0)) (B:∀b,w0.heap.size<=b->sc b) :
  T P N sc M o env H (G:=Nat) (λ_=>True) (λb=>(d,.slice (some ⟨b,0,none⟩) n n)::env) (λb=>(i,Of k e enc (.slice (some ⟨b,0,none⟩) n n) xs)::H):=λa w hs K Q j=>by
 have c:(execOp a.eval o).run P w= .ok (.value (.slice (some ⟨w.heap.size,0,none⟩) n n)) (w.alloc (.cells cs e)):=by simp only [execOp,z];simp_all
 have g:=Xk s xs;have f:cs.size=n*k:=O4;unfold Oper.wp;rw [c];show K _ _;rw [r];refine j _ _ _ aA ((hs.new h B i _ _ ?_ (λb m=>by simp [Of,Value.ownBlock]at m;omega)).put d _ l) (Chg.alloc _ _ _);refine⟨O,.inr ⟨w.heap.size,n,cs,O4,bA _,heap_alloc_new w _,O,u,f,?_⟩⟩;grind
theorem Ziw{α:Type}{enc:α->Value}(f:∀x,(enc x).cells.size=k)(l:0<k)(b:α)(n:Nat):(madeCells (enc b).cells (n*k)).toList=cellsOf enc (List.replicate n b):=by
 apply iN;intro j;by_cases h:j<n*k
 .have q:j/k<n:=iQ O4;have g:j%k<k:=bJ _ l;have c:(List.replicate n b)[j/k]? = some b:=O4;have m:(enc b).cells.toList[j%k]? = some ((enc b).cells[j%k]!):=by grind
  have e:=Gf f _ _ b c _ _ m;rw [show j/k*k+j%k=j from by grind [Nat.mul_comm,Nat.div_add_mod]]at e;rw [e];simp [madeCells,h,f]
 simp_all [bT,eR,size_madeCells,Xk]
theorem t_mk {α:Type}  {e:TypeId}   {n c:Nat} {m:Int}   {enc:α->Value} {ti:TypeInfo} (g:α)
  (I:o.op= .makeSlice t x y) (B:o.dst=some d) (z:Nat.blt d N=true) (W:ev env x=some (.int .i64 m)) (Y:ev env y=some (.int .i64 m)) (F:m=(n:Int))
  (S:P.underlying t=some (.slice e)) (hi:P.info? e=some ti) (Z:ti.zero=some (enc g)) (D:∀x,(enc x).cells.size=k) (r:0<k) (l:ti.size=k) (j:ti.bytes=c)
  (h:c*n<=281474976710656) (f:0<c)
  (s:lk H 0=some (Yx w0 M0)) (V:∀b,w0.heap.size<=b->sc b) :
  T P N sc M o env H (G:=Nat) (λ_=>True) (λb=>(d,.slice (some ⟨b,0,none⟩) n n)::env) (λb=>(i,Of k e enc (.slice (some ⟨b,0,none⟩) n n) (List.replicate n g))::H):=λa w hs K Q u=>by
 subst F;subst l;subst j;have hn:=aB (lN n f) h;have q:=run_make w t e ti _ S hi Z .i64 .i64 n n O5 (eN _) O O;have R:(execOp a.eval o).run P w= .ok (.value (.slice (some ⟨w.heap.size,0,none⟩) n n)) (w.alloc (.cells (madeCells (enc g).cells (n*ti.size)) e)):=by simp [execOp,I,hs.ev W,hs.ev Y,q]
 unfold Oper.wp;rw [R];show K _ _;rw [B];refine u _ _ _ aA ((hs.new s V i _ _ ?_ (λb h=>by simp [Of,Value.ownBlock]at h;omega)).put d _ z) (Chg.alloc _ _ _);have hl:=Xk D (List.replicate n g);refine⟨O,.inr ⟨w.heap.size,n,_,O5,bA _,heap_alloc_new w _,O5,by simp [maxLen];omega,by rw [size_madeCells],?_⟩⟩;simp_all [Ziw,cI,aI]
theorem Bb{α:Type}{enc:α->Value}{k:Nat}(c:∀x,(enc x).cells.size=k):∀(xs:List α) (i:Nat) (x:α),i<xs.length->
  cellsOf enc (xs.set i x)=(cellsOf enc xs).take (i*k) ++ (enc x).cells.toList ++ (cellsOf enc xs).drop (i*k+k)
 | [],_,_,h=>O4
 | y::r,0,x,_=>by simp only [kT,cellsOf,gG,gI,dQ,jK,cE];simp_all
 | y::r,i+1,x,h=>by have b:=Bb c r i x O4;simp only [cellsOf,List.set_cons_succ,gG]at b ⊢;rw [b];rw [show(i+1)*k=(enc y).cells.toList.length+i*k from by grind];rw [List.take_length_add_append,jE,List.drop_length_add_append];simp
theorem Ke (i:Nat) {α:Type}   {e:TypeId} {j:Nat} {u:Value} {enc:α->Value} {xs:List α} {z:α}   (ho:o.op= .store t x y) (hd:o.dst=none)
  (hx:ev env x=some (.pointer (some (ead v j k)))) (hy:ev env y=some u) (hu:u=enc z) (I:lk H i=some (Of k e enc v xs)) (f:Enc P t k enc) 
  (V:lk H 0=some (Yx w0 M0)) (hw:∀b,w0.heap.size<=b->sc b) (D:i≠0:=by decide) (n:j<xs.length:=by omega) :
  T P N sc (λ_=>True) o env H (G:=Unit) (λ_=>True) (λ_=>env) (λ_=>(i,Of k e enc v (xs.set j z))::H):=λa w hs K Q W=>by
 subst hu;have r:=hs.hold i _ I;have S:=f.pos;rcases r.2 with⟨rfl,hn⟩|⟨g,l,c,rfl,Y,R,F,B,a0,h⟩
 .omega
 .have a1:j*k+k<=xs.length*k:=by rw [<-cY];exact aL k n
  have Z:xs.length*k<=l*k:=aL k F;have m:(enc z).cells.toList.length=k:=by simp [f.cells]
  have s:=run_storeCells_at P g (j*k) e (enc z).cells.toList 0 c w R O (f.one z);simp only [eP,m]at s;have hr:(execOp a.eval o).run P w= .ok .skip (w.setRow g (c.toList.take (j*k) ++ (enc z).cells.toList ++ c.toList.drop (j*k+k)).toArray):=by simp [execOp,ho,hs.ev hx,hs.ev hy,Instr.storeAt,Instr.sureAddr,storeVar,f.cells,f.size,ead,Ol,s]
  unfold Oper.wp;rw [hr];show K (a.put o.dst _) _;rw [hd];refine W () _ _ aA ((hs.upd I rfl D (q:=Of k e enc _ (xs.set j z)) (Ku rfl) ?_ (λk hk=> .inl hk) V hw).put_none undef) (Ku aA);refine⟨by rw [Xk f.cells],.inr ⟨g,l,_,O5,Y,setRow_heap w g c _ e _ R,O4,B,?_,?_⟩⟩
  .grind
  .rw [Bb f.cells xs j z n,<-h];simp only [bM];apply iN;grind
end Go.Sky
namespace Go.Sky
open Go.RowKit Below
variable{w w0:World}{o:Oper}{t tb:TypeId}{k d:Nat}{v v1 v2:Value}{p:Pc}{M0:Nat->Prop}{r pre:List Pc}{f:FuncId}{xs:List Operand}{ats:Array TypeId}{vs:List Value}{a:Act}{fn:Func}{args:Array Value}
variable {P:Program} {N:Nat} {sc:Nat->Prop} {env env':Pu} {H H':Hp} {Q Q':Exit->Act->World->Prop} {M:Nat->Prop}
theorem Zfa  (t ty e:TypeId) (ti:TypeInfo) (z:Value) (i Y:Nat) (ht:P.underlying t=some (.slice e)) (hi:P.info? e=some ti) (hz:ti.zero=some z)
    (V:ti.size=i) (a5:ti.bytes=Y) (a9:z.cells.size=i) (b1:0<i)
    (v:Value) (n:Nat) (xs:List Value) (l:w.ownsRow 0 e i v n xs)
    (a:Addr) (m c:Nat) (h:List Value) (W:h.length=m*i) (s:∀j u,h[j]? = some u->w.cell? (a.add j)=some u) (h1:∀u∈h,u.oneCell'=true)
    (a3:n+m<=maxLen) (F:(n+m)*Y<=140737488355328) :
    ∃v' w',(Builtin.append_ #[t,t] ty #[v,.slice (some a) m c]).run P w= .ok v' w'/\w'.ownsRow 0 e i v' (n+m) (xs ++ h)/\w.grownBy w' v.ownBlock/\
      (∀b,v'.ownBlock=some b->v.ownBlock=some b\/w.heap.size<=b):=by
  subst V;subst a5;have a2:n+m<=9223372036854775807:=by assumption
  have G:(xs ++ h).length=(n+m)*ti.size:=by rw [bL,l.1,W,cK]
  have B:∀(q:Nat),q<n+m->∀(a1:Option Nat),
      (w.drew.alloc (.cells (xs.toArray ++ h.toArray ++ Builtin.zeroCells z.cells (grownCap w (n+m) q e-(n+m))) e)).ownsRow 0 e ti.size
        (.slice (some ⟨w.heap.size,0,none⟩) (n+m) (grownCap w (n+m) q e)) (n+m) (xs ++ h)/\
      w.grownBy (w.drew.alloc (.cells (xs.toArray ++ h.toArray ++ Builtin.zeroCells z.cells (grownCap w (n+m) q e-(n+m))) e)) a1:=by
    intro q ho a1;have a7:=grownCap_ge w (n+m) q e;have R:grownCap w (n+m) q e<=maxLen:=grownCap_le_maxLen w (n+m) q e a3;refine⟨⟨G,.inr ⟨w.heap.size,_,_,rfl,bA _,heap_alloc_new w.drew _,a7,R,?_,?_⟩⟩,⟨rfl,rfl,rfl,O5,λk hk _=>heap_alloc_old w.drew _ k hk⟩⟩
    . simp only [Array.size_append,lC,size_zeroCells,a9,l.1,W,<-cK];grind
    grind
  rcases l.2 with⟨rfl,rfl⟩|⟨g,x,I,rfl,a4,hg,b0,R,a6,a8⟩
  . have hx:xs=[]:=aC O4;subst hx;by_cases hm:m=0
    . subst hm;have hn:h=[]:=aC O;subst hn;refine⟨.slice none 0 0,w,?_,World.ownsRow_nil w 0 e ti.size,⟨rfl,rfl,rfl,aI _,λ_ _ _=>rfl⟩,λb Z=>O4⟩;simp [Builtin.append_,run_underlying ht,sizeOf,typeInfo,hi,Builtin.lenOf,Builtin.firstCells,loadCells,loadCellsFrom]
    . have hr:=run_append_nil (P:=P) w t ty e ti z ht hi hz a m c h W s O O O4;have y:=B 0 O (Value.ownBlock (.slice none 0 0));simp only [cE,jK,Array.empty_append]at y ⊢;refine⟨_,_,hr,y.1,y.2,λb Z=> .inr ?_⟩;simp [Value.ownBlock]at Z;omega
  . by_cases D:n+m<=x
    . have a0:n*ti.size+h.length<=I.size:=by rw [W,a6,<-cK];simp_all [aL]
      have hr:=run_append_room (P:=P) w t ty e ti ht hi g n x I hg a m c h W s h1 D a0;refine⟨_,_,hr,⟨G,.inr ⟨g,x,_,rfl,a4,setRow_heap w g I _ e _ hg,D,R,?_,?_⟩⟩,⟨rfl,rfl,rfl,O5,λk _ hk=>setRow_other w g k _ (λe=>hk (by simp [Value.ownBlock,e]))⟩,λb Z=> .inl ‹_›⟩
      all_goals grind
    . have S:∀j u,xs[j]? = some u->w.cell? ((⟨g,0,none⟩:Addr).add j)=some u:=l.cells (g:=g) rfl;have hr:=run_append_grow (P:=P) w t ty e ti z ht hi hz ⟨g,0,none⟩ n x xs l.1 S a m c h W s O O (growslice_fits O F);have y:=B x O (Value.ownBlock (.slice (some ⟨g,0,none⟩) n x));refine⟨_,_,hr,y.1,y.2,λb Z=> .inr ?_⟩;simp [Value.ownBlock]at Z;omega
theorem Ip{α:Type}(enc:α->Value)(xs ys:List α):cellsOf enc (xs ++ ys)=cellsOf enc xs ++ cellsOf enc ys:=by simp [cellsOf]
theorem t_app {α:Type}  {x y:Operand} {e:TypeId} {i i2 j l:Nat} {u:Value} {enc:α->Value} {xs ys:List α}  {ti:TypeInfo} {z:Value}  
    (ho:o.op= .call { callee:= .builtin .append,args:=#[x,y],argTypes:=#[t,t] }) (hd:o.dst=some d) (hN:Nat.blt d N=true)
    (hx:ev env x=some v) (hy:ev env y=some u) (hH:lk H i=some (Of k e enc v xs)) (Z:i≠0) (hj:lk H j=some p) (hr:Rd p k enc u ys) (a9:ys≠[])
    (ht:P.underlying t=some (.slice e)) (hi:P.info? e=some ti) (hz:ti.zero=some z) (n:Enc P e k enc) (a0:ti.size=k) (W:ti.bytes=l) (a4:z.cells.size=k)
    (m:(xs.length+ys.length)*l<=140737488355328) (s:0<l)
    (h0:lk H 0=some (Yx w0 M0)) (hw:∀b,w0.heap.size<=b->sc b) :
    T P N sc (λ_=>True) o env H (G:=Value) (λ_=>True) (λv'=>(d,v')::env) (λv'=>(i,Of k e enc v' (xs ++ ys))::H):=λa w hs K Q hK=>by
  have I:=hs.hold i _ hH;obtain⟨ad,c,rfl,h1,h2,h3⟩:=hr w (hs.hold j p hj);rcases h3 with rfl|⟨g,S,rfl,h3⟩
  . grind
  have a3:∀q u,(cellsOf enc ys)[q]? = some u->w.cell? ((⟨g,S,none⟩:Addr).add q)=some u:=λq u hq=>by
    have a7:q<ys.length*k:=by rw [<-Xk n.cells ys];grind
    have a5:=n.pos;have Y:q/k<ys.length:=iQ O4;have D:=aN Y;have a1:q%k<(enc ys[q/k]).cells.toList.length:=by rw [eR,n.cells];simp_all [bJ]
    have hu:=aN a1;have h4:=Gf n.cells ys _ _ D _ _ hu;grind [Nat.mul_comm,Nat.div_add_mod,Nat.add_assoc,Ol]
  have F:∀u∈cellsOf enc ys,u.oneCell'=true:=λu hu=>by obtain⟨y,_,hy⟩:=kC.1 hu;exact n.one y u hy
  have a6:=aB (cZ _ s) m;obtain⟨v',w',R,a8,h,V⟩:=Zfa (P:=P) t o.type e ti z k l ht hi hz a0 W a4 n.pos v xs.length (cellsOf enc xs) I ⟨g,S,none⟩ ys.length c (cellsOf enc ys)
    (Xk n.cells ys) a3 F (by simp only [maxLen];omega) m
  have a2:(execOp a.eval o).run P w= .ok (.value v') w':=by simp only [execOp,ho,resolve,invoke,builtin,Sem.run_bind,Sem.run_pure,Result.andThen_ok,fV,bP,iA,hs.ev hx,hs.ev hy,R]
  unfold Oper.wp;rw [a2];show K (a.put o.dst _) _;rw [hd];have B:Chg _ w w':=⟨h.os,h.tape,h.output,h.size,λb m hn=>h.block b m (λe=>hn e.symm)⟩;refine hK v' _ _ aA ((hs.upd hH rfl Z B ?_ (λb m=>V b m) h0 hw).put d _ hN) ⟨h.os,h.tape,h.output,h.size,λb m hn=>absurd aA hn⟩;show w'.ownsRow 0 e k v' (xs ++ ys).length (cellsOf enc (xs ++ ys));grind [Ip,List.length_append]
def Cal(P:Program)(f:FuncId)(args:Array Value)(pre:List Pc)(al:Bool){G:Type}(φ:G->Prop)(Yq:G->Value)(c:G->List Pc):Prop:=
  ∀w,(∀p∈pre,p.holds w)->Calls P f args w λe h=>∃g,e= .returned (Yq g)/\φ g/\Below w.heap.size w h/\
    ∀p∈c g,p.holds h/\p.own=false/\∀b,p.fp b->w.heap.size<=b\/(al=true/\∃q∈pre,q.fp b)
@[reducible] def adds:Nat->List Pc->Hp->Hp
  | _,[],H=>H
  | n,p::r,H=>(n,p)::adds (n+1) r H
def PreOk(H:Hp)(al:Bool):List Pc->Prop
  | []=>True
  | p::r=>(∃i c,i≠0/\lk H i=some c/\(∀w,c.holds w->p.holds w)/\(∀b,p.fp b->c.fp b)/\(al=true->c.own=false))/\PreOk H al r
theorem PreOk.mem{al:Bool} : ∀{pre:List Pc},PreOk H al pre->∀p∈pre,∃i c,i≠0/\lk H i=some c/\(∀w,c.holds w->p.holds w)/\(∀b,p.fp b->c.fp b)/\(al=true->c.own=false)
  | p::r,h,q,e=>by
    cases e with
    | head=>exact h.1
    | tail _ e=>exact PreOk.mem h.2 q e
def Zn{al:Bool} : PreOk H al []:=aA
def Zk{al:Bool}(i:Nat)(hi:lk H i=some p)(b:Nat.beq i 0=false)(c:p.own=false)(h:PreOk H al r):PreOk H al (p::r):=
  ⟨⟨i,p,λe=>O10,hi,λ_ h=>h,λ_ h=>h,λ_=>c⟩,h⟩
def Yjt{α:Type}{e:TypeId}{enc:α->Value}{xs:List α}(i:Nat)(hi:lk H i=some (Of k e enc v xs))(j:Nat.beq i 0=false)(g:Enc P t k enc)(h:PreOk H false r):PreOk H false (Yy k enc v xs::r):=
  ⟨⟨i,_,λe=>O10,hi,λw h=>⟨Ar g.cells h,λb c=>(h.lt b c.2).2⟩,λ_ h=>h.2,λh=>O4⟩,h⟩
theorem Sat.adds{a:Act}{w:World}{w1:World} : ∀(l:List Pc) (n:Nat) {H:Hp},Sat N sc env H a w->(∀p∈l,p.holds w/\p.own=false/\(∀b,p.fp b->sc b)/\
    ∀j c,lk H j=some c->c.own=true->∀b,p.fp b->c.fp b->False)->Sat N sc env (adds n l H) a w
  | [],_,_,h,_=>h
  | p::r,n,H,h,hl=>by
    have e:=Sat.adds (w1:=w1) r (n+1) h (λq u=>hl q (bE _ u));obtain⟨g,y,i,z⟩:=hl p (bK ..);have x:∀(l:List Pc) (m:Nat) (H:Hp) (j:Nat) (c:Pc),(∀q∈l,q.own=false)->lk (Sky.adds m l H) j=some c->c.own=true->lk H j=some c:=by
      intro l
      induction l with
      | nil=>grind
      | cons q l e=>
        grind [Yl,List.mem_cons_self,Zx,List.mem_cons_of_mem]
    refine e.add n p g (λj c _ D Hf b B s=>?_) i;grind
def evs(e:Pu):List Operand->Option (List Value)
  | []=>some []
  | x::r=>match ev e x,evs e r with
    | some v,some vs=>some (v::vs)
    | _,_=>none
def EvL(e:Pu):List Operand->List Value->Prop
  | [],[]=>True
  | x::r,v::vs=>ev e x=some v/\EvL e r vs
  | _,_=>False
theorem EvL.map{a:Act}{w:World}(h:Sat N sc env H a w):∀{xs:List Operand} {vs:List Value},EvL env xs vs->xs.map a.eval=vs
  | [],[],_=>rfl
  | x::r,v::vs,hh=>by simp only [bP,h.ev hh.1,EvL.map h hh.2]
  | [],_::_,hh=>hh.elim
  | _::_,[],hh=>hh.elim
theorem Xa (n:Nat)        {al:Bool} {G:Type} {φ:G->Prop} {Yq:G->Value} {R:G->List Pc}  
    (hc:Cal P f vs.toArray pre al φ Yq R)
    (ho:o.op= .call { callee:= .value (.func f),args:=xs.toArray,argTypes:=ats }) (hd:o.dst=some d) (hN:Nat.blt d N=true)
    (m:EvL env xs vs) (s:∀args w,(callFunc f args).run P w= .ok (.enter f args) w) (c:PreOk H al pre)
    (h0:lk H 0=some (Yx w0 M0)) (hw:∀b,w0.heap.size<=b->sc b) :
    T P N sc M o env H φ (λg=>(d,Yq g)::env) (λg=>adds n (R g) H):=λa w hs K Q hK=>by
  have hr:(execOp a.eval o).run P w= .ok (.enter f vs.toArray) w:=by have hm:=m.map hs;simp [execOp,ho,resolve,invoke,Act.eval,Deferred.ofValue,hm,s]
  unfold Oper.wp;rw [hr];refine(hc w (λp W=>by obtain⟨i,I,_,hi,B,_,_⟩:=c.mem p W;exact B w (hs.hold i I hi))).mono ?_
  rintro e w' ⟨g,rfl,hg,l,D⟩;rw [hd];have Z:=hs.chg0 (Chg.of_below l);refine hK g _ _ hg (Sat.put (Z.adds (w1:=w) _ n ?_) d _ hN) (Chg.of_below l);intro p W;obtain⟨h1,h2,h3⟩:=D p W;refine⟨h1,h2,λb S=>?_,λj jt hj F b S y=>?_⟩
  . rcases h3 b S with h|⟨_,q,Y,x⟩
    . exact hw b (aB (hs.hold 0 _ h0).size h)
    . obtain⟨i,I,z,hi,_,u,_⟩:=c.mem q Y;exact hs.scope i I z hi b (u b x)
  . rcases h3 b S with h|⟨a0,q,Y,x⟩
    . have:=jt.lt w b (hs.hold j jt hj) y;omega
    . obtain⟨i,I,z,hi,_,u,a1⟩:=c.mem q Y;by_cases V:j=i
      . grind
      . exact hs.sep j i jt I V hj hi F b y (u b x)
def RV(P:Program)(N:Nat)(sc:Nat->Prop)(env:Pu)(H:Hp)(r:ResultVar)(v:Value):Prop:=
  match r with
  | .tmp t=>lk env t=some v
  | .cell c t=>∃b,lk env c=some (.pointer (some b))/\∀a w,Sat N sc env H a w->(loadVar t b).run P w= .ok v w
theorem Eo (i:Nat) {c:Tmp}  {b:Nat}  (h:lk env c=some (.pointer (some ⟨b,0,none⟩))) (g:lk H i=some (box b tb vs.toArray)) (m:∀w,(isAgg t).run P w= .ok true w) (j:∀w,(sizeOf t).run P w= .ok k w)
    (l:vs.length=k):RV P N sc env H (.cell c t) (.agg vs.toArray):=⟨_,h,λa w hs=>by
  have e:=run_loadCells_list (P:=P) w ⟨b,0,none⟩ vs (λn u q=>by rw [Ol,hs.boxc g];grind);rw [l]at e;simp [loadVar,m,j,e]⟩
theorem Yiu{c:Tmp}{i b:Nat}(g:lk env c=some (.pointer (some ⟨b,0,none⟩)))(e:lk H i=some (box b tb #[v]))(j:∀w,(isAgg t).run P w= .ok false w) :
    RV P N sc env H (.cell c t) v:=⟨_,g,λa w hs=>by
  have h:=hs.boxc e 0;simp [loadVar,j,load,Sem.run,h]⟩
theorem Zcd{r1:ResultVar}(hs:Sat N sc env H a w)(e:fn.results=#[r1])(b:RV P N sc env H r1 v1):(results fn a.tmps).run P w= .ok v1 w:=by
  cases r1 with
  | tmp t=>have:=hs.env t v1 b;rw [bO]at this;simp [results,e,this]
  | cell c t=>obtain⟨i,g,h⟩:=b;have:=hs.env c _ g;rw [bO]at this;simp [results,e,this,asAddr,h a w hs]
theorem Yfd{r1 r2:ResultVar}(hs:Sat N sc env H a w)(j:fn.results=#[r1,r2])(g:RV P N sc env H r1 v1)(b:RV P N sc env H r2 v2) :
    (results fn a.tmps).run P w= .ok (.tuple #[v1,v2]) w:=by
  cases r1 with
  | tmp t=>
    have g:=hs.env t v1 g;rw [bO]at g;cases r2 with
    | tmp i=>have b:=hs.env i v2 b;rw [bO]at b;simp [results,j,g,b]
    | cell l i=>obtain⟨q,e,m⟩:=b;have e:=hs.env l _ e;rw [bO]at e;simp [results,j,g,e,asAddr,m a w hs]
  | cell c t=>
    obtain⟨s,h,n⟩:=g;have h:=hs.env c _ h;rw [bO]at h;cases r2 with
    | tmp i=>have b:=hs.env i v2 b;rw [bO]at b;simp [results,j,h,asAddr,n a w hs,b]
    | cell l i=>obtain⟨q,e,m⟩:=b;have e:=hs.env l _ e;rw [bO]at e;simp [results,j,h,asAddr,n a w hs,e,m a w hs]
def Yp8(tmps:Array Value):ResultVar->Sem Value
  | .tmp t=>pure (tmps.getD t undef)
  | .cell c t=>do loadVar t (<-asAddr (tmps.getD c undef))
theorem Zx5{r:ResultVar}(hs:Sat N sc env H a w)(h:RV P N sc env H r v):(Yp8 a.tmps r).run P w= .ok v w:=by
  cases r with
  | tmp t=>have:=hs.env t v h;simp only [Yp8,this];rfl
  | cell c t=>obtain⟨g,b,e⟩:=h;have:=hs.env c _ b;simp only [Yp8,this,asAddr,Sem.run_bind,Sem.run_pure,Result.andThen_ok,e a w hs]
def Zl8(fn:Func)(tmps:Array Value):results fn tmps=(do let vs ←fn.results.mapM (Yp8 tmps);pure (if h:vs.size=1 then vs[0]else .tuple vs)):=rfl
theorem res3{r1 r2 r3:ResultVar}{b:Value}(hs:Sat N sc env H a w)(h:fn.results=#[r1,r2,r3])(c:RV P N sc env H r1 v1)(e:RV P N sc env H r2 v2)(g:RV P N sc env H r3 b) :
    (results fn a.tmps).run P w= .ok (.tuple #[v1,v2,b]) w:=by
  rw [Zl8,h];simp [Zx5 hs c,Zx5 hs e,Zx5 hs g]
def Zcx(P:Program)(fn:Func)(w0:World)(pre:List Pc)(al:Bool){G:Type}(φ:G->Prop)(Yq:G->Value)(c:G->List Pc):Exit->Act->World->Prop:=
  bodyPost P fn λe h => ∃ g, e = .returned (Yq g) /\ φ g /\ Below w0.heap.size w0 h /\
        ∀p∈c g,p.holds h/\p.own=false/\∀b,p.fp b->w0.heap.size<=b\/(al=true/\∃q∈pre,q.fp b)
theorem Ygt   {c:Code}   {al:Bool} {G:Type} {φ:G->Prop} {Yq:G->Value} {n:G->List Pc} {N:Nat} {env0:Pu} (g:World->Hp)
    (y:P.funcs[f]? = some fn) (m:fn.body=some c) (V:fn.ntmps=N) (l:∀t v,lk env0 t=some v->args[t]? = some v) (B:args.size<=N)
    (e:∀w,∀i p,lk (g w) i=some p->(i=0/\p=Yx w (λ_=>False))\/(i≠0/\p∈pre/\p.own=false))
    (h:∀w0 (sc:Nat->Prop),(∀b,w0.heap.size<=b->sc b)->(∀b,sc b->w0.heap.size<=b\/∃q∈pre,q.fp b)->
      E P N sc c (Zcx P fn w0 pre al φ Yq n) env0 (g w0)) :
    Cal P f args pre al φ Yq n:=λw Y=>by
  refine calls_of_wp y m (h w _ (λb m=> .inl m) (λb m=>m) _ w ?_);refine⟨O4,rfl,λt v S=>?_,λi p hi=>?_,λi j p q I hi W R b m x=>?_,λi p z hi b m=>?_⟩
  . have u:=l t v S;have D:=(aS.1 u).1;simp_all [bO,dY]
  . rcases e w i p hi with⟨_,rfl⟩|⟨_,F,_⟩
    . exact Chg.refl _ w
    grind
  . rcases e w i p hi with⟨_,rfl⟩|⟨_,F,s⟩
    . cases R
    grind
  grind
def Ib(h:(Yx w0 (λ_=>False)).holds w):Below w0.heap.size w0 w:=
  ⟨h.os,h.tape,h.output,h.size,λk b=>h.block k b (λh=>h)⟩
def Give(H:Hp)(al:Bool):List Pc->Prop
  | []=>True
  | p::r=>(p.own=false/\((∃i c,i≠0/\lk H i=some c/\(∀w,c.holds w->p.holds w)/\(∀b,p.fp b->c.fp b)/\(al=false->c.own=true))\/((∀w,p.holds w)/\∀b,¬p.fp b)))/\Give H al r
theorem Give.mem{al:Bool} : ∀{l:List Pc},Give H al l->∀p∈l,p.own=false/\((∃i c,i≠0/\lk H i=some c/\(∀w,c.holds w->p.holds w)/\(∀b,p.fp b->c.fp b)/\(al=false->c.own=true))\/((∀w,p.holds w)/\∀b,¬p.fp b))
  | p::r,h,q,e=>by
    cases e with
    | head=>exact h.1
    | tail _ e=>exact Give.mem h.2 q e
def Za{al:Bool} : Give H al []:=aA
def Gp(i:Nat)(hi:lk H i=some p)(b:Nat.beq i 0=false)(c:p.own=false)(h:Give H true r):Give H true (p::r):=
  ⟨⟨c,.inl ⟨i,p,λe=>O10,hi,λ_ h=>h,λ_ h=>h,λh=>O4⟩⟩,h⟩
def Ylr{al:Bool}{α:Type}{e:TypeId}{enc:α->Value}{xs:List α}(i:Nat)(hi:lk H i=some (Of k e enc v xs))(j:Nat.beq i 0=false)(g:Enc P t k enc)(h:Give H al r) :
    Give H al (Yy k enc v xs::r):=
  ⟨⟨rfl,.inl ⟨i,_,λe=>O10,hi,λw h=>⟨Ar g.cells h,λb c=>(h.lt b c.2).2⟩,λ_ h=>h.2,λ_=>rfl⟩⟩,h⟩
def Cc{α:Type}(k:Nat)(enc:α->Value)(w:World):(Yy k enc (.slice none 0 0) ([]:List α)).holds w:=⟨⟨none,0,rfl,aI _,O5,.inl rfl⟩,λb c=>O4⟩
theorem Lg{al:Bool}{α:Type}{enc:α->Value}{xs:List α}(e:xs=[])(h:Give H al r):Give H al (Yy k enc (.slice none 0 0) xs::r):=by subst e;exact⟨⟨rfl,.inr ⟨λw=>Cc k enc w,λb c=>by simp [Yy,Value.ownBlock]at c⟩⟩,h⟩
theorem Ztw   {al:Bool} {G:Type} {φ:G->Prop} {Yq:G->Value} {j:G->List Pc}  {e:Exit} (R:e= .ret\/e= .normal) (B:∀b,sc b->w0.heap.size<=b\/∃q∈pre,q.fp b)
    (g:G)  (u:∀a w,Sat N sc env H a w->(results fn a.tmps).run P w= .ok v w) (hv:Yq g=v) (S:φ g) (F:lk H 0=some (Yx w0 (λ_=>False))) (c:Give H al (j g)) :
    X N sc e (Zcx P fn w0 pre al φ Yq j) env H:=λa w hs=>by
  have a0 : a.defers = [] /\ ∃ v, (results fn a.tmps).run P w = .ok v w /\ (∃ g, Ending.returned v = .returned (Yq g) /\ φ g /\ Below w0.heap.size w0 w /\
        ∀p∈j g,p.holds w/\p.own=false/\∀b,p.fp b->w0.heap.size<=b\/(al=true/\∃q∈pre,q.fp b)):=by
    refine⟨hs.defers,v,u a w hs,g,O4,S,Ib (hs.hold 0 _ F),λp Z=>?_⟩;obtain⟨Y,h|⟨h1,h2⟩⟩:=c.mem p Z
    case inr=>grind
    obtain⟨i,D,m,hi,n,y,x⟩:=h;refine⟨n w (hs.hold i D hi),Y,λb I=>?_⟩;have l:=y b I;cases al with
    | true=>
      rcases B b (hs.scope i D m hi b l)with h|h
      all_goals grind
    | false=>
      have s:=x rfl;have W:=hs.sep i 0 D _ m hi F s b l;rcases aX b _ with z|V
      . exact absurd ⟨z,λh=>h⟩ W
      omega
  rcases R with rfl|rfl
  all_goals assumption
end Go.Sky
namespace Go.Sky
open Go.RowKit Below
variable{op:Op}{b b':Bool}{cs:Array Value}{c:Code}{ch:Hp}{p:Pc}{k:Nat}{n':Int}{k' kd:IntKind}{ats:Array TypeId}{w:World}
variable {P:Program} {N:Nat} {sc:Nat->Prop} {env env':Pu} {H H':Hp} {Q Q':Exit->Act->World->Prop} {M:Nat->Prop}
section
variable {ops:Array Oper} {rest:List Oper} {d:Nat} {ty:TypeId} {pos:String} {af:Array Edge} {v:Value} {x:Operand}
theorem dt(e:Li P N sc ⟨some d,op,ty,pos,af,none⟩ env H v)(h:L P N sc ops rest Q ((d,v)::env) H)(a:Nat.blt d N=true:=by rfl) :
  L P N sc ops (⟨some d,op,ty,pos,af,none⟩::rest) Q env H:=l_det rfl rfl a e h
theorem tt {o:Oper} {G:Type} {φ:G->Prop} {a:G->Pu} {e:G->Hp} (i:T P N sc (λ_=>True) o env H φ a e) 
  (h:∀g,φ g->L P N sc ops rest Q (a g) (e g)) (f:o.guard=none:=by rfl):L P N sc ops (o::rest) Q env H:=l_step f i h
theorem Fj  {j e:Nat}  (l:Li P N sc ⟨some d,op,ty,pos,af,some (j,b)⟩ env H v) (i:(ops[j]?).bind (·.dst)=some e) (g:lk env e=some (.bool b))  
  (h:L P N sc ops rest Q ((d,v)::env) H) (a:Nat.blt e N=true:=by rfl) (f:Nat.blt d N=true:=by rfl):L P N sc ops (⟨some d,op,ty,pos,af,some (j,b)⟩::rest) Q env H:=l_gdet rfl i g a rfl f l h
def gsk  {j e:Nat}  (l:(ops[j]?).bind (·.dst)=some e) (i:lk env e=some (.bool b')) (a:(b' == b)=false) (f:Nat.blt e N=true) (g:Nat.blt d N=true)
  (h:L P N sc ops rest Q ((d,undef)::env) H):L P N sc ops (⟨some d,op,ty,pos,af,some (j,b)⟩::rest) Q env H:=Yrd rfl l i f a rfl g h
def gtt {o:Oper} {G:Type} {φ:G->Prop} {a:G->Pu} {i:G->Hp} {j e:Nat}  (q:T P N sc (λ_=>True) o env H φ a i) (m:o.guard=some (j,b)) (n:(ops[j]?).bind (·.dst)=some e) (l:lk env e=some (.bool b)) (f:Nat.blt e N=true)
  (h:∀g,φ g->L P N sc ops rest Q (a g) (i g)):L P N sc ops (o::rest) Q env H:=Yrc m n l f q h
end
section
variable {ops:Array Oper} {F:Pu->Hp->Prop} {rest:List (Nat×Nat)} {i:Nat} {o:Oper}
def Stb(P:Program)(N:Nat)(sc:Nat->Prop)(M:Nat->Prop)(o:Oper)(env:Pu)(H:Hp)(v:Value):Prop:=
 ∀a w,Sat N sc env H a w->∀e,Chg M w e->(execOp a.eval o).run P e= .ok (.value v) e
def Xm{v:Value}(f:Li P N sc o env H v):Stb P N sc (λ_=>False) o env H v:=λa w hs g e=>f a g (hs.chg0 e)
theorem st1{v:Value}(k:Nat){b:Nat}{t:TypeId}(y:lk H k=some (box b t cs))(D:Li P N sc o env (drp k H) v):Stb P N sc (λx=>x=b) o env H v:=λa w hs n l=>by
 refine D a n ?_;have f:Sat N sc env (drp k H) a w:=⟨hs.size,hs.defers,hs.env,λi g hi=>hs.hold i g (Cd _ _ _ _ hi).2,
  λi j g G h hi u=>hs.sep i j g G h (Cd _ _ _ _ hi).2 (Cd _ _ _ _ u).2,λi g r hi=>hs.scope i g r (Cd _ _ _ _ hi).2⟩
 refine⟨f.size,f.defers,f.env,λi g hi=>?_,f.sep,f.scope⟩;obtain⟨h,m⟩:=Cd _ _ _ _ hi;refine g.stable w n (f.hold i g hi) ⟨l.os,l.tape,l.output,l.size,λq B z=>l.block q B (λe=>z (λs=>?_))⟩;subst e;exact hs.sep k i _ g (gX h) y m rfl q rfl s
theorem r0{d:Nat}{v:Value}(hs:Stb P N sc M o env H v)(l:ops[i]? = some o)(j:o.guard=none)(g:o.dst=some d)(f:Nat.blt d N=true)(h:LD P N sc M ops F rest ((d,v)::env) H) :
  LD P N sc M ops F ((i,0)::rest) env H:=⟨o,d,v,l,g,f,λa w e=>⟨by simp [Region.wanted,j],hs a w e⟩,h⟩
theorem Ej {d j e:Nat}  {v:Value} (hs:Stb P N sc M o env H v) (s:ops[i]? = some o) (q:o.guard=some (j,b)) (r:(ops[j]?).bind (·.dst)=some e) (n:lk env e=some (.bool b)) (m:o.dst=some d) 
  (h:LD P N sc M ops F rest ((d,v)::env) H) (g:Nat.blt e N=true:=by rfl) (l:Nat.blt d N=true:=by rfl) :
  LD P N sc M ops F ((i,0)::rest) env H:=⟨o,d,v,s,m,l,λa w f=>⟨by simp [Region.wanted,q,f.yielded r n g],hs a w f⟩,h⟩
theorem r1{G:Type}{φ:G->Prop}{e:G->Pu}{f:G->Hp}(m:T P N sc M o env H φ e f)(l:ops[i]? = some o)(j:o.guard=none)(h:∀g,φ g->LD P N sc M ops F rest (e g) (f g)) :
  LD P N sc M ops F ((i,1)::rest) env H:=⟨o,G,φ,e,f,l,λa w _=>by simp [Region.wanted,j],m,h⟩
theorem r1g {G:Type} {φ:G->Prop} {f:G->Pu} {m:G->Hp} {j e:Nat}  (u:T P N sc M o env H φ f m) (t:ops[i]? = some o) (r:o.guard=some (j,b)) (s:(ops[j]?).bind (·.dst)=some e) (q:lk env e=some (.bool b)) (n:Nat.blt e N=true)
  (h:∀g,φ g->LD P N sc M ops F rest (f g) (m g)) :
  LD P N sc M ops F ((i,1)::rest) env H:=⟨o,G,φ,f,m,t,λa w l=>by simp [Region.wanted,r,l.yielded s q n],u,h⟩
theorem r3{G:Type}{φ:G->Prop}{e:G->Pu}{f:G->Hp}(m:T P N sc (λ_=>True) o env H φ e f)(l:ops[i]? = some o)(j:o.guard=none)(h:∀g,φ g->LD P N sc M ops F rest (e g) (f g)) :
  LD P N sc M ops F ((i,3)::rest) env H:=⟨o,G,φ,e,f,l,λa w _=>by simp [Region.wanted,j],m,h⟩
theorem r2 {d j e:Nat}  (t:ops[i]? = some o) (r:o.guard=some (j,b)) (s:(ops[j]?).bind (·.dst)=some e) (q:lk env e=some (.bool b')) (m:(b' == b)=false) (g:Nat.blt e N=true) (n:o.dst=some d) (l:Nat.blt d N=true)
  (h:LD P N sc M ops F rest ((d,undef)::env) H) :
  LD P N sc M ops F ((i,2)::rest) env H:=⟨o,d,t,n,l,λa w f=>by simp [Region.wanted,r,f.yielded s q g];grind,h⟩
def r_fin(h:F env H):LD P N sc M ops F [] env H:=h
theorem Ze7{o:Oper}{d:Nat}{v:Value}(h:Li P N sc o env H v)(g:o.dst=some d)(f:Nat.blt d N=true:=by rfl):T P N sc M o env H (G:=Unit) (λ_=>True) (λ_=>(d,v)::env) (λ_=>H):=λa w hs K Q e=>by unfold Oper.wp;rw [h a w hs];show K _ w;rw [g];exact e () _ _ aA (hs.put d v f) (Chg.refl _ _)
end
def Ytf{G:Type}(N:Nat)(sc:Nat->Prop)(cs:Pu)(ch:Hp)(j:G->Pu)(h:G->Hp)(f:G->Prop)(μ:G->Nat)(g:G):Act->World->Prop:=
 λa w=>∃e,f e/\μ e<μ g/\Sat N sc (j e ++ cs) (h e ++ ch) a w
def e_lp  {G:Type} (cs:Pu) (ch:Hp) (j:G->Pu) (h:G->Hp) (a:G->Prop) (μ:G->Nat) {f:G} (m:a f) (hs:Sub (j f ++ cs) env) (l:HSub (h f ++ ch) H)
  (e:∀g,a g->E P N sc c (Exit.then (Ytf N sc cs ch j h a μ g) Q) (j g ++ cs) (h g ++ ch)) :
  E P N sc (.loop c) Q env H:=e_loop a μ m hs l e
def x_rnd{G:Type}{cs:Pu}{l:G->Pu}{j:G->Hp}{h:G->Prop}{μ:G->Nat}{g:G}(e:G)(m:h e)(n:μ e<μ g)(hs:Sub (l e ++ cs) env)(q:HSub (j e ++ ch) H) :
  X N sc .normal (Exit.then (Ytf N sc cs ch l j h μ g) Q) env H:=λa w f=>⟨e,m,n,f.weaken hs q⟩
def JnK{G:Type}(N:Nat)(sc:Nat->Prop)(cs:Pu)(ch:Hp)(h:G->Pu)(f:G->Hp)(e:G->Prop):Act->World->Prop:=
 λa w=>∃g,e g/\Sat N sc (h g ++ cs) (f g ++ ch) a w
theorem e_jn {x y:Code} {G:Type} (cs:Pu) (ch:Hp) (m:G->Pu) (l:G->Hp) (h:G->Prop) (q:Sub cs env) (n:HSub ch H)
  (s:E P N sc x (Exit.then (JnK N sc cs ch m l h) Q) env H)
  (t:∀g,h g->E P N sc y Q (m g ++ cs) (l g ++ ch)):E P N sc (.seq x y) Q env H:=λa w hs=>by
 refine wp_seq (Code.wp_mono (λe a w j=>?_) (s a w hs));cases e with
 | normal=>obtain⟨g,r,f⟩:=j;exact t g r a w f
 | _=>exact j
def x_jn{G:Type}{cs:Pu}{j:G->Pu}{h:G->Hp}{f:G->Prop}(g:G)(l:f g)(hs:Sub (j g ++ cs) env)(m:HSub (h g ++ ch) H) :
  X N sc .normal (Exit.then (JnK N sc cs ch j h f) Q) env H:=λa w e=>⟨g,l,e.weaken hs m⟩
def Zf(hi:∀a w,Sat N sc env H a w->Sat N sc env' H' a w)(h:E P N sc c Q env' H'):E P N sc c Q env H:=λa w hs=>h a w (hi a w hs)
def Zs{e:Exit}(hi:∀a w,Sat N sc env H a w->Sat N sc env' H' a w)(h:X N sc e Q env' H'):X N sc e Q env H:=λa w hs=>h a w (hi a w hs)
def Xe{ops:Array Oper}{rest:List Oper}(hi:∀a w,Sat N sc env H a w->Sat N sc env' H' a w)(h:L P N sc ops rest Q env' H'):L P N sc ops rest Q env H:=λa w hs=>h a w (hi a w hs)
def Qi{p:Prop}(e:∀a w,Sat N sc env H a w->p)(h:p->E P N sc c Q env H):E P N sc c Q env H:=λa w hs=>h (e a w hs) a w hs
def Yg1{e:Exit}{p:Prop}(f:∀a w,Sat N sc env H a w->p)(h:p->X N sc e Q env H):X N sc e Q env H:=λa w hs=>h (f a w hs) a w hs
theorem Zqp(i:Nat){q:Pc}(hi:lk H i=some p)(G:q.own=p.own)(t:∀w,p.holds w->q.holds w)(n:∀b,q.fp b->p.fp b)(R:Nat.beq i 0=false):∀a w,Sat N sc env H a w->Sat N sc env ((i,q)::H) a w:=λa w hs=>by
  have I:i≠0:=λe=>O10;refine⟨hs.size,hs.defers,hs.env,λj s f=>?_,λj B s y h f g D b r m=>?_,λj s z f b r=>?_⟩
  .by_cases l:i=j
   .subst l;rw [Yl]at f;cases f;exact t w (hs.hold i p hi)
   .rw [Zx _ _ l]at f;exact hs.hold j s f
  .by_cases l:i=j
   .subst l;rw [Yl]at f;cases f;rw [Zx _ _ h]at g;exact hs.sep i B p y h hi g O4 b (n b r) m
   .rw [Zx _ _ l]at f;by_cases u:i=B
    .subst u;rw [Yl]at g;cases g;exact hs.sep j i s p h f hi D b r (n b m)
    .rw [Zx _ _ u]at g;exact hs.sep j B s y h f g D b r m
  .by_cases l:i=j
   .subst l;rw [Yl]at f;cases f;exact hs.scope i p I hi b (n b r)
   .rw [Zx _ _ l]at f;exact hs.scope j s z f b r
theorem Xn{α:Type}{t:TypeId}{e:TypeId}{enc:α->Value}{v:Value}{xs:List α}(i:Nat)(hi:lk H i=some (Of k e enc v xs))(I:Nat.beq i 0=false)(G:Enc P t k enc):∀a w,Sat N sc env H a w->Sat N sc env ((i,Yy k enc v xs)::H) a w:=λa w hs=>by
  have D:i≠0:=λe=>O10;refine⟨hs.size,hs.defers,hs.env,λj m f=>?_,λj B m y r f g u b l n=>?_,λj m s f b l=>?_⟩
  .by_cases h:i=j
   .subst h;rw [Yl]at f;cases f;have z:=hs.hold i _ hi;exact⟨Ar G.cells z,λb l=>(z.lt b l.2).2⟩
   .rw [Zx _ _ h]at f;exact hs.hold j m f
  .by_cases h:i=j
   .subst h;rw [Yl]at f;cases f;cases u
   .rw [Zx _ _ h]at f;by_cases q:i=B
    .subst q;rw [Yl]at g;cases g;exact hs.sep j i m _ r f hi u b l n.2
    .rw [Zx _ _ q]at g;exact hs.sep j B m y r f g u b l n
  .by_cases h:i=j
   .subst h;rw [Yl]at f;cases f;exact hs.scope i _ D hi b l.2
   .rw [Zx _ _ h]at f;exact hs.scope j m s f b l
abbrev U:Nat:=18446744073709551616
theorem Yoo(n:Nat):IntKind.u64.wrap (n:Int)=((n%U:Nat):Int):=by rfl
theorem Zd4{n:Nat}(h:n<U):IntKind.u64.wrap (n:Int)=(n:Int):=by rw [Yoo,bG h]
section
variable {o:Oper} {t t':TypeId} {x y:Operand} {m n:Nat}
theorem Ak(a:o.op= .binOp .add t x y t')(e:ev env x=some (.int .u64 (m:Int)))(f:ev env y=some (.int .u64 (n:Int))):Li P N sc o env H (.int .u64 (((m+n)%U:Nat):Int)):=Eb a e f λw=>by rfl
theorem Bh(a:o.op= .binOp .mul t x y t')(e:ev env x=some (.int .u64 (m:Int)))(f:ev env y=some (.int .u64 (n:Int))):Li P N sc o env H (.int .u64 (((m*n)%U:Nat):Int)):=Eb a e f λw=>by rfl
theorem Ze6(a:o.op= .binOp .sub t x y t')(e:ev env x=some (.int .u64 (m:Int)))(f:ev env y=some (.int .u64 (n:Int)))(g:n<U:=by decide):Li P N sc o env H (.int .u64 (((m+(U-n))%U:Nat):Int)):=Eb a e f λw=>by have:((m)-(n:Int))%18446744073709551616=(((m+(U-n))%U:Nat)):=O4;rw [<-this];rfl
theorem Yhd(j:o.op= .binOp .quo t x y t')(l:ev env x=some (.int .u64 (m:Int)))(q:ev env y=some (.int .u64 (n:Int)))(h:m<U:=by omega)(r:0<n:=by omega):Li P N sc o env H (.int .u64 ((m/n:Nat):Int)):=Eb j l q λw=>by
 have a:=aW (dX m n) h;have e:(m:Int).tdiv (n)=((m/n:Nat)):=by rfl
 have f:=Zd4 a;have g:¬((n:Int)=0):=O;simp only [binOp,ne_eq,iO,nF,Op.intDiv,g,e,f,Sem.run_pure]
theorem u_rem(e:o.op= .binOp .rem t x y t')(f:ev env x=some (.int .u64 (m:Int)))(g:ev env y=some (.int .u64 (n:Int)))(h:0<n):Li P N sc o env H (.int .u64 ((m%n:Nat):Int)):=Eb e f g λw=>by
 have a:(m:Int).tmod (n)=((m%n)):=by rfl
 simp [binOp,Op.intDiv,show ¬n=0 by omega,a]
theorem Yov(h:o.op= .binOp .or t x y t')(j:ev env x=some (.int .u64 (m:Int)))(l:ev env y=some (.int .u64 (n:Int)))(f:m<U)(g:n<U):Li P N sc o env H (.int .u64 ((m ||| n:Nat):Int)):=Eb h j l λw=>by
 have a:=jS (n:=64) f g;have e:(BitVec.ofInt 64 m ||| BitVec.ofInt 64 n).toNat=m ||| n:=by grind
 simp only [binOp,ne_eq,iO,nF,Op.intBits,Sem.run_pure];rw [show(BitVec.ofInt IntKind.u64.bits _ ||| BitVec.ofInt IntKind.u64.bits _).toNat=m ||| n from e,Zd4 a]
theorem Zt5(g:o.op= .binOp .and t x y t')(h:ev env x=some (.int .u64 (m:Int)))(j:ev env y=some (.int .u64 (n:Int)))(f:m<U:=by omega)(l:n<U:=by decide):Li P N sc o env H (.int .u64 ((m &&& n:Nat):Int)):=Eb g h j λw=>by
 have a:m &&& n<U:=aW Nat.and_le_left f;have e:(BitVec.ofInt 64 m &&& BitVec.ofInt 64 n).toNat=m &&& n:=by grind
 simp only [binOp,ne_eq,iO,nF,Op.intBits,Sem.run_pure];rw [show(BitVec.ofInt IntKind.u64.bits _ &&& BitVec.ofInt IntKind.u64.bits _).toNat=m &&& n from e,Zd4 a]
theorem Zos{k:IntKind}(j:o.op= .binOp .shl t x y t')(l:ev env x=some (.int .u64 (m:Int)))(q:ev env y=some (.int k n'))(e:n'=(n:Int))(r:n<=64:=by omega):Li P N sc o env H (.int .u64 (((m*2^n)%U:Nat):Int)):=λa w hs=>by
 subst e;have f:min n 64=n:=O;have g:IntKind.u64.wrap ((m)*2^n)=(((m*2^n)%U)):=by rfl
 have h:¬((n:Int)<0):=O5;simp [execOp,j,hs.ev l,hs.ev q,eqGuard,binOp,Op.shift,IntKind.bits,f,g,h]
theorem Zor{k:IntKind}(j:o.op= .binOp .shr t x y t')(l:ev env x=some (.int .u64 (m:Int)))(q:ev env y=some (.int k n'))(e:n'=(n:Int))(r:n<=64:=by omega):Li P N sc o env H (.int .u64 ((m/2^n:Nat):Int)):=λa w hs=>by subst e;have f:min n 64=n:=O;have g:(m:Int).fdiv (2^n)=((m/2^n)):=O4;have h:¬((n:Int)<0):=O5;simp [execOp,j,hs.ev l,hs.ev q,eqGuard,binOp,Op.shift,IntKind.bits,f,g,h]
theorem Fl (n':Nat){k:IntKind}(a:o.op= .binOp .shr t x y t')(f:ev env x=some (.int .u64 (m:Int)))(g:ev env y=some (.int k (n:Int)))(h:Nat.ble n 64=true)(e:2^n=n'):Li P N sc o env H (.int .u64 ((m/n':Nat):Int)):=by rw [<-e];exact Zor a f g rfl O10
theorem Zh9{k:IntKind}{r:Int}{m:Int}(f:o.op= .convert t t' x)(j:ev env x=some (.int k m)){ds:TypeDesc}(e:P.underlying t=some ds)(h:P.underlying t'=some (.int k'))(g:k'.wrap m=r):Li P N sc o env H (.int k' r):=λa w hs=>by subst g;cases ds<;>simp [execOp,f,hs.ev j,convert,run_underlying e,run_underlying h,Conv.intToInt]
end
theorem Zcu {o:Oper} {x y:Operand}  {k:IntKind} {m n:Int} (e:o.op= .call { callee:= .builtin .max,args:=#[x,y],argTypes:=ats })
  (f:ev env x=some (.int k m)) (g:ev env y=some (.int k n)):Li P N sc o env H (.int k (max m n)):=λa w hs=>by
 simp [execOp,e,resolve,hs.ev f,hs.ev g,invoke,builtin,Builtin.max_,Builtin.max2];omega
def Kw(v:Value)(n:Nat):Value:=match v with
 | .slice a _ c=> .slice a n c
 | u=>u
theorem Gz(v:Value)(n:Nat):(Kw v n).ownBlock=v.ownBlock:=by
 cases v with
 | slice a l c=>cases a<;>rfl
 | _=>rfl
theorem Ydc (ii:Nat)(i:Nat) {α:Type} {o:Oper} {x y:Operand} {t e:TypeId} {v:Value}   {m:Int}  {enc:α->Value} {xs:List α} (l:o.op= .slice t x none (some y) none)
  (s:ev env x=some v) (u:ev env y=some (.int kd m)) (G:lk H ii=some p) (I:Rd p k enc v xs) (r:P.underlying t=some (.slice e)) (g:∀w,(sizeOf e).run P w= .ok k w)
   (h:m=(i:Int):=by omega) (j:i<=xs.length:=by omega):Li P N sc o env H (Kw v i):=λa w hs=>by
 obtain⟨z,c,rfl,D,R,S⟩:=I w (hs.hold ii p G);subst h;have f:=aB j D;have B:∀q:Addr,q.add 0=q:=λq=>by rfl
 cases z with
 | none=>simp [execOp,l,hs.ev s,hs.ev u,Instr.sliceAt,Instr.slice,Instr.sliceBounds,Instr.sliceBound,asIntOf,run_underlying r,g,f,Kw]
 | some q=>simp [execOp,l,hs.ev s,hs.ev u,Instr.sliceAt,Instr.slice,Instr.sliceBounds,Instr.sliceBound,asIntOf,run_underlying r,g,f,Kw,B]
theorem Zee{α:Type}{enc:α->Value}{v:Value}{xs:List α}(n:Nat)(l:n<=xs.length)(h:RowAt w k enc v xs):RowAt w k enc (Kw v n) (xs.take n):=by obtain⟨a,c,rfl,g,e,j⟩:=h;have f:(xs.take n).length=n:=O4;refine⟨a,c,by rw [f];rfl,O,e,?_⟩;grind
theorem Zm9{α:Type}{v:Value}{xs:List α}{n b:Nat}(h:xs.take n≠[]/\(Kw v n).ownBlock=some b):xs≠[]/\v.ownBlock=some b:=
 ⟨λe=>h.1 O4,by grind [Gz]⟩
theorem Yit{α:Type}{enc:α->Value}{v:Value}{xs:List α}(i j n:Nat)(hi:lk H i=some (Yy k enc v xs))(s:Nat.beq i 0=false)(u:n<=xs.length:=by omega):∀a w,Sat N sc env H a w->Sat N sc env ((j,Yy k enc (Kw v n) (xs.take n))::H) a w:=
 λa w hs=>hs.add j _ ⟨Zee n u (hs.hold i _ hi).1,λb f=>(hs.hold i _ hi).2 b (Zm9 f)⟩
  (λq B z l Hf b f h=>by
   rcases Hf with Hf|Hf
   .cases Hf
   .have r:=Zm9 f;by_cases g:q=i
    .subst g;rw [hi]at l;cases l;cases Hf
    .exact hs.sep q i B _ g l hi Hf b h r)
  (λb f=>hs.scope i _ (λe=>O10) hi b (Zm9 f))
theorem Yqr{α:Type}{e:TypeId}{enc:α->Value}(D:∀x,(enc x).cells.size=k){v:Value}{xs:List α}(n:Nat)(s:n<=xs.length)(h:w.ownsRow 0 e k v xs.length (cellsOf enc xs)) :
  w.ownsRow 0 e k (Kw v n) (xs.take n).length (cellsOf enc (xs.take n)):=by
 have G:(xs.take n).length=n:=O4;refine⟨by rw [Xk D],?_⟩;rw [G];rcases h.2 with⟨rfl,S⟩|⟨g,f,j,rfl,z,B,I,l,q,a⟩
 .have:n=0:=O;subst this;exact .inl ⟨rfl,rfl⟩
 .refine .inr ⟨g,f,j,rfl,z,B,O,l,q,?_⟩;have u:∀(xs:List α) (n:Nat),n<=xs.length->cellsOf enc (xs.take n)=(cellsOf enc xs).take (n*k):=by
   intro xs
   induction xs with
   | nil=>simp [cellsOf]
   | cons x r R=>
    intro n h;cases n with
    | zero=>simp [cellsOf]
    | succ n=>
     have:=R n O4;simp only [cellsOf,kJ,gG]at this ⊢;grind [Nat.add_mul,List.take_length_add_append]
  rw [u xs n s,<-a,gP,dJ (aL k s)]
theorem s_opre{α:Type}{t:TypeId}{e:TypeId}{enc:α->Value}{v:Value}{xs:List α}(i n:Nat)(hi:lk H i=some (Of k e enc v xs))(f:Nat.beq i 0=false)(j:Enc P t k enc)(l:n<=xs.length) :
  ∀a w,Sat N sc env H a w->Sat N sc env ((i,Of k e enc (Kw v n) (xs.take n))::H) a w:=
 Zqp i hi rfl (λw h=>Yqr j.cells n l h) (λb g=>by simpa [Of,Gz]using g) f
theorem Od{α:Type}{enc:α->Value}{v:Value}{xs:List α}(i:Nat)(hi:lk H i=some p)(e:Rd p k enc v xs):∀a w,Sat N sc env H a w->xs.length<=9223372036854775807:=λa w hs=>by obtain⟨f,c,rfl,g,h,_⟩:=e w (hs.hold i p hi);have j:maxLen=9223372036854775807:=rfl;omega
theorem Fx(v:Value)(m n:Nat):Kw (Kw v m) n=Kw v n:=by cases v<;>rfl
theorem Zy7{α:Type}{enc:α->Value}{v:Value}{xs:List α}(i:Nat)(hi:lk H i=some p)(e:Rd p k enc v xs):∀a w,Sat N sc env H a w->Kw v xs.length=v:=λa w hs=>by obtain⟨f,c,rfl,_⟩:=e w (hs.hold i p hi);rfl
end Go.Sky

