/- Rules, arithmetic and contracts: part 1. No conditions but those that each theorem names. -/
import Derived.Tactics
import Derived.Tactics2
import Derived.Orders
import Derived.Below
import Derived.Laws.AppendOwn
import Derived.Laws.MakeOwn
import Derived.KernelRfl
set_option linter.all false
def aA:=@trivial
def aB:=@Nat.le_trans
def aC:=@Nat.lt_succ_iff_lt_or_eq
def aD:=@Rat.mul_nonneg
def aE:=@decide_eq_true
def aF:=@if_neg
def aG:=@decide_eq_false
def aH:=@congrArg
def aI:=@Nat.le_refl
def aJ:=@List.getD_eq_getElem?_getD
def aK:=@List.eq_nil_of_length_eq_zero
def aL:=@List.getElem?_eq_getElem
def aM:=@Array.getElem?_eq_some_iff
def aN:=@List.length_pos_iff
def aO:=@if_pos
def aP:=@Bool.and_eq_true
def aQ:=@Nat.mul_le_mul_right
def aR:=@Decidable.byContradiction
def aS:=@Int.mul_nonneg
def aT:=@Rat.mul_pos
def aU:=@Nat.mul_le_mul
def aV:=@Nat.div_div_eq_div_mul
def aW:=@List.mem_cons
def aX:=@List.length_replicate
def aY:=@Nat.lt_of_le_of_lt
def aZ:=@Classical.byContradiction
def bA:=@Nat.lt_or_ge
def bB:=@Nat.eq_zero_or_pos
def bC:=@List.all_eq_true
def bD:=@Nat.mul_le_mul_left
def bE:=@Nat.mod_eq_of_lt
def bF:=@Int.mul_ne_zero
def bG:=@Bool.false_ne_true
def bH:=@Array.getD_eq_getD_getElem?
def bI:=@Nat.zero_le
def bJ:=@Nat.not_lt_zero
def bK:=@Nat.mod_lt
def bL:=@of_decide_eq_true
def bM:=@List.length_map
def bN:=@List.mem_cons_of_mem
def bO:=@decide_eq_true_eq
def bP:=@Int.add_zero
def bQ:=@Nat.pow_add
def bR:=@Int.natAbs_mul
def bT:=@Nat.div_lt_iff_lt_mul
def bW:=@decide_eq_decide
def bX:=@List.mem_cons_self
def bZ:=@Nat.zero_add
def cC:=@Int.mul_le_mul_of_nonneg_right
def cD:=@Nat.pow_pos
def cE:=@List.mem_singleton
def cF:=@List.mem_range
def cH:=@List.length_set
def cI:=@Nat.mul_comm
def cJ:=@Classical.not_not
def cK:=@List.take_length
def cL:=@List.getElem?_eq_some_iff
def cM:=@List.length_append
def cN:=@List.take_of_length_le
def cP:=@List.map_cons
def cQ:=@Int.zero_mul
def cS:=@Int.sub_eq_add_neg
def cT:=@Rat.le_of_lt
def cW:=@List.getElem?_eq_none
def cY:=@Bool.and_false
def cZ:=@Nat.lt_of_lt_of_le
def dA:=@List.not_mem_nil
def dB:=@List.mem_append
def dC:=@Nat.pow_le_pow_right
def dD:=@List.mem_of_getElem?
def dE:=@Rat.pow_succ
def dG:=@Nat.div_add_mod
def dH:=@Nat.pow_succ
def dI:=@List.mem_iff_getElem
def dJ:=@Int.mul_ediv_cancel_left
def dK:=@Rat.mul_le_mul_of_nonneg_right
def dL:=@Int.le_of_mul_le_mul_right
def dM:=@Nat.two_pow_pos
def dO:=@Nat.add_mul
def dP:=@List.mem_map
def dS:=@Nat.mul_lt_mul_of_pos_right
def dU:=@Int.mul_pos
def dV:=@Rat.pow_zero
def dW:=@List.map_append
def dX:=@List.length_take
def dY:=@Array.getElem?_append_left
def dZ:=@Nat.div_eq_of_lt
def eA:=@Int.le_refl
def eC:=@Int.le_of_lt
def eD:=@Nat.le_of_lt
def eE:=@Rat.div_mul_cancel
def eF:=@List.length_cons
def eG:=@Nat.eq_of_beq_eq_true
def eH:=@List.mem_iff_getElem?
def eI:=@Int.mul_zero
def eJ:=@Int.pow_succ
def eK:=@List.all_eq_false
def eN:=@Nat.le_mul_of_pos_right
def eO:=@List.filter_cons_of_pos
def eP:=@Int.natAbs_natCast
def eQ:=@Nat.min_eq_left
def eT:=@Int.pow_zero
def eU:=@List.drop_eq_getElem_cons
def eV:=@Bool.true_and
def eW:=@Int.dvd_trans
def eX:=@Nat.zero_lt_one
def eY:=@Int.mul_nonpos_of_nonneg_of_nonpos
def eZ:=@Int.mul_nonpos_of_nonpos_of_nonneg
def fA:=@Option.getD_some
def fB:=@Nat.mul_assoc
def fC:=@Nat.succ_mul
def fD:=@List.getElem?_map
def fE:=@Array.length_toList
def fF:=@Nat.div_le_self
def fG:=@Rat.mul_eq_zero
def fH:=@List.getElem?_append_left
def fI:=@decide_eq_true_iff
def fJ:=@Rat.le_trans
def fK:=@Int.mul_le_mul_of_nonneg_left
def fL:=@Bool.not_eq_true'
def fM:=@Decidable.not_not
def fN:=@List.mem_filter
def fO:=@List.getElem_of_mem
def fP:=@Rat.inv_pos
def fQ:=@List.map_toArray
def fR:=@or_false
def fS:=@List.filter_append
def fT:=@List.take_append_drop
def fU:=@Int.natAbs_dvd_natAbs
def fV:=@Int.sign_eq_zero_iff_zero
def fX:=@List.foldl_cons
def fY:=@List.flatMap_cons
def fZ:=@List.mem_of_mem_take
def gC:=@List.append_assoc
def gD:=@Int.gcd_dvd_right
def gE:=@Int.mul_assoc
def gF:=@Nat.pow_le_pow_left
def gG:=@List.take_zero
def gI:=@List.mem_flatMap
def gJ:=@List.any_eq_true
def gK:=@decide_eq_false_iff_not
def gL:=@List.filter_cons_of_neg
def gM:=@Nat.add_right_comm
def gN:=@Nat.add_zero
def gO:=@List.map_map
def gP:=@Nat.sub_zero
def gQ:=@Int.natCast_mul
def gR:=@Nat.le_of_ble_eq_true
def gT:=@List.length_filter_le
def gU:=@List.ext_getElem?
def gV:=@not_true_eq_false
def gW:=@Int.lt_trichotomy
def gX:=@List.take_add_one
def gY:=@Nat.mul_pos
def iA:=@List.getElem?_append_right
def iB:=@Nat.div_lt_of_lt_mul
def iC:=@Nat.mul_lt_mul_of_lt_of_le
def iD:=@Int.natAbs_neg
def iE:=@Int.sign_eq_neg_one_of_neg
def iF:=@Int.mul_one
def iG:=@Int.neg_mul
def iH:=@Int.pow_pos
def iI:=@Nat.mul_lt_mul_of_pos_left
def iJ:=@Rat.not_lt
def iK:=@Bool.false_and
def iL:=@List.cons_append
def iM:=@Nat.zero_mul
def iN:=@List.ext_getElem
def iO:=@Nat.add_comm
def iP:=@Int.sub_zero
def iQ:=@Int.lt_or_le
def iR:=@Nat.lt_trans
def iS:=@Nat.add_mul_mod_self_left
def iT:=@Int.natAbs_ediv_le_natAbs
def iU:=@Int.eq_of_mul_eq_mul_left
def iV:=@List.replicate_succ
def iW:=@Int.ediv_mul_cancel
def iX:=@Nat.add_assoc
def iY:=@List.append_nil
def iZ:=@Nat.mul_add_div
def jA:=@Int.mul_nonneg_of_nonpos_of_nonpos
def jB:=@List.find?_eq_none
def jC:=@Int.one_mul
def jD:=@Nat.mul_one
def jE:=@Option.some.injEq
def jF:=@Ne.symm
def jG:=@List.map_nil
def jH:=@Nat.or_lt_two_pow
def jI:=@Int.mul_comm
def jJ:=@Int.mul_le_mul
def jK:=@Int.le_trans
def jL:=@Bool.and_eq_false_iff
def jM:=@List.length_drop
def jN:=@Nat.and_two_pow_sub_one_eq_mod
def jO:=@Int.gcd_dvd_left
def jP:=@List.getElem_mem
def jQ:=@if_true
def jR:=@Rat.div_def
def jS:=@Rat.mul_le_mul_of_nonneg_left
def jT:=@Nat.le_antisymm
def jU:=@Nat.div_lt_self
def jV:=@Nat.mul_add_mod
def jW:=@Int.mul_eq_zero
def jX:=@Array.getElem?_setIfInBounds
def jY:=@List.take_succ_cons
def jZ:=@Nat.pow_zero
def kA:=@Nat.two_pow_add_eq_or_of_lt
def kB:=@Nat.sub_self
def kC:=@Int.dvd_zero
def kD:=@Int.dvd_refl
def kE:=@List.take_take
def kF:=@Nat.mul_right_comm
def kG:=@Nat.eq_of_mul_eq_mul_right
def kH:=@Int.eq_of_mul_eq_mul_right
def kI:=@Int.natAbs_pow
def kJ:=@of_decide_eq_false
def kK:=@List.drop_zero
def kL:=@Int.natCast_nonneg
def kM:=@Int.mul_right_comm
def kN:=@Int.le_of_mul_le_mul_left
def kP:=@Int.dvd_mul_right
def kQ:=@Int.self_le_toNat
def kR:=@Int.mul_add
def kS:=@Nat.lt_trichotomy
def kU:=@List.foldl_append
def kV:=@List.any_eq_false
def kW:=@Nat.le_of_dvd
def kX:=@Int.pos_of_mul_pos_right
def kY:=@Int.ediv_le_self
def kZ:=@Int.dvd_of_emod_eq_zero
def lA:=@Int.add_comm
def lB:=@Nat.le_mul_of_pos_left
def lC:=@Int.sign_eq_one_of_pos
def lD:=@Int.le_total
def lE:=@Rat.mul_comm
def lF:=@List.zipWith_cons_cons
def lG:=@List.not_of_lt_findIdx
def lH:=@Nat.mod_self
def lI:=@List.range_succ
def lJ:=@Int.ediv_nonneg
def lK:=@List.nil_append
def lL:=@Option.map_some
def lM:=@Int.emod_nonneg
def lN:=@Bool.or_eq_true
def lO:=@List.nodup_cons
def lP:=@List.eq_nil_or_concat
def lQ:=@Nat.le_div_iff_mul_le
def lS:=@Nat.mul_div_mul_right
def lT:=@Nat.add_mul_div_right
def lW:=@Int.le_ediv_of_mul_le
def lX:=@Int.ediv_lt_of_lt_mul
def lY:=@Nat.mod_one
def lZ:=@Nat.mul_lt_mul_right
def mA:=@List.mem_of_mem_drop
def mB:=@List.map_id
def mC:=@Int.mul_ediv_cancel'
def mD:=@Int.add_mul
def mE:=@Rat.le_refl
def mF:=@List.findIdx_getElem
def mG:=@List.drop_replicate
def mH:=@List.map_congr_left
def mI:=@List.take_replicate
def mJ:=@Nat.pow_succ'
def mK:=@Int.le_of_dvd
def mL:=@List.getElem?_take
def mM:=@List.set_cons_zero
def mN:=@Nat.mul_div_cancel
def mO:=@Int.lt_or_gt_of_ne
def mP:=@Nat.div_mul_cancel
def mQ:=@Nat.pos_of_ne_zero
def mR:=@Rat.mul_inv_cancel
def mS:=@Nat.add_sub_cancel
def mT:=@Nat.lt_or_eq_of_le
def mU:=@Nat.sub_add_cancel
def mV:=@Option.toList_some
def mW:=@if_false
def mX:=@List.size_toArray
def mY:=@Nat.le_of_lt_succ
def mZ:=@Int.zero_add
def nA:=@Int.ediv_one
def nB:=@Nat.succ_pos
def nC:=@Nat.le_of_eq
def nD:=@Int.gcd_mul_right
def nE:=@Bool.or_true
def nF:=@bne_self_eq_false
def nG:=@Nat.mod_mul
def nH:=@Int.mul_neg
def nI:=@Rat.le_ceil
def nJ:=@Int.one_pow
def nK:=@Iff.rfl
def nL:=@beq_iff_eq
def nM:=@funext
namespace Go.Sky
variable{p:Prop}{f:Nat->Int}{i k b:Nat}{q:List Int}{xs:List Nat}
theorem O1 (h:p:=by omega):p:=h
theorem O2 (h:p:=by first|omega|(dsimp only<;>omega)):p:=h
theorem O3 (h:p:=by first|omega|(simp only [cH];omega)):p:=h
theorem O4 (h:p:=by decide):p:=h
theorem O5 (h:p:=by grind):p:=h
theorem O6 (h:p:=by first|assumption|omega):p:=h
theorem O7 (h:p:=by kernel_rfl):p:=h
theorem O8 (h:p:=by simp):p:=h
theorem O9 (h:p:=by decide +kernel):p:=h
theorem O10 (h:p:=by simp;omega):p:=h
theorem O11 (h:p:=by simp_all):p:=h
theorem O12 (h:p:=by dsimp only;omega):p:=h
theorem O13 (h:p:=by simp [Value.oneCell']):p:=h
theorem O14 (h:p:=by simp [Kb,Ye,Ob]):p:=h
def Ye(f:Nat->Int):Nat->Int
 | 0=>0
 | n+1=>Ye f n+f n
def Kf(f:Nat->Int):Ye f 0=0:=rfl
theorem Yi(f:Nat->Int)(n:Nat):Ye f (n+1)=Ye f n+f n:=rfl
theorem Xl{f g:Nat->Int} : ∀{n:Nat},(∀i,i<n->f i=g i)->Ye f n=Ye g n
 | 0,_=>rfl
 | n+1,h=>by rw [Yi,Yi,Xl (λi hi=>h i O1),h n O1]
theorem Dz(f g:Nat->Int):∀n,Ye (λi=>f i+g i) n=Ye f n+Ye g n
 | 0=>rfl
 | n+1=>by simp only [Yi,Dz f g n];omega
theorem Mr(c:Int)(f:Nat->Int):∀n,Ye (λi=>c*f i) n=c*Ye f n
 | 0=>by simp [Ye]
 | n+1=>by simp only [Yi,Mr c f n];grind
theorem Zkq(c:Int)(f:Nat->Int)(n:Nat):Ye (λi=>f i*c) n=Ye f n*c:=by grind [Int.mul_comm,Mr,Xl]
theorem Es{f:Nat->Int} : ∀{n:Nat},(∀i,i<n->f i=0)->Ye f n=0
 | 0,_=>rfl
 | n+1,h=>by rw [Yi,Es (λi hi=>h i O1),h n O1];rfl
theorem Lh(f:Nat->Int):∀n,Ye f (n+1)=f 0+Ye (λi=>f (i+1)) n
 | 0=>by simp [Ye]
 | n+1=>by rw [Yi,Lh f n,Yi];omega
theorem Znv(f:Nat->Int):∀n,Ye f n=Ye (λi=>f (n-1-i)) n
 | 0=>rfl
 | n+1=>by rw [Yi,Lh _,Znv f n];grind
theorem Zd0{m n:Nat}(a:m<=n)(h:∀i,m<=i->i<n->f i=0):Ye f n=Ye f m:=by
 induction n with
 | zero=>grind
 | succ n c=>
  grind [Yi]
theorem Znt(f:Nat->Nat->Int):∀n,Ye (λi=>Ye (λk=>f k (i-k)) (i+1)) n=Ye (λk=>Ye (λj=>f k j) (n-k)) n
 | 0=>rfl
 | n+1=>by
  rw [Yi,Znt f n,Yi (λk=>Ye _ _)];have a:Ye (λk=>Ye (λj=>f k j) (n+1-k)) n=Ye (λk=>Ye (λj=>f k j) (n-k)+f k (n-k)) n:=
   Xl λk c=>by grind [Yi]
  rw [a,Dz];simp [Yi,Kf]<;>omega
structure PS where
 c:Nat->Int
theorem PS.ext'{f g:PS}(h:∀i,f.c i=g.c i):f=g:=by cases f;congr;grind
namespace PS
def conv(f g:PS):PS:=⟨λi=>Ye (λk=>f.c k*g.c (i-k)) (i+1)⟩
def C(n:Int):PS:=⟨λi=>if i=0 then n else 0⟩
def xp(k:Nat):PS:=⟨λi=>if i=k then 1 else 0⟩
instance:Zero PS:=⟨⟨λ_=>0⟩⟩
instance:One PS:=⟨C 1⟩
instance:Add PS:=⟨λf g=>⟨λi=>f.c i+g.c i⟩⟩
instance:Neg PS:=⟨λf=>⟨λi=>- f.c i⟩⟩
instance:Sub PS:=⟨λf g=>⟨λi=>f.c i-g.c i⟩⟩
instance:Mul PS:=⟨conv⟩
instance:NatCast PS:=⟨λn=>C n⟩
instance (n:Nat):OfNat PS n:=⟨C n⟩
instance:IntCast PS:=⟨C⟩
instance:SMul Nat PS:=⟨λn f=>⟨λi=>(n:Int)*f.c i⟩⟩
instance:SMul Int PS:=⟨λn f=>⟨λi=>n*f.c i⟩⟩
def npow(f:PS):Nat->PS
 | 0=>1
 | n+1=>npow f n*f
instance:HPow PS Nat PS:=⟨npow⟩
def add_c(f g:PS)(i:Nat):(f+g).c i=f.c i+g.c i:=rfl
theorem mul_c(f g:PS)(i:Nat):(f*g).c i=Ye (λk=>f.c k*g.c (i-k)) (i+1):=rfl
theorem mul_comm'(f g:PS):f*g=g*f:=ext' λi=>by rw [mul_c,mul_c,Znv];grind [Xl,Nat.add_sub_cancel,Int.mul_comm]
def mul_assoc'(f g h:PS):f*g*h=f*(g*h):=ext' λi=>by
 rw [mul_c,mul_c];have a:Ye (λk=>(f*g).c k*h.c (i-k)) (i+1)=Ye (λk=>Ye (λj=>f.c j*g.c (k-j)*h.c (i-(j+(k-j)))) (k+1)) (i+1):=
  Xl λk c=>by rw [mul_c,<-Zkq];grind [Xl]
 rw [a,Znt (λj m=>f.c j*g.c m*h.c (i-(j+m)))];refine Xl λj b=>?_;rw [mul_c,<-Mr,show i+1-j=i-j+1 by omega];grind
def Yek(f g:PS):f+g=g+f:=ext' λi=>by simp [add_c,lA]
def Zyw(f g h:PS):f+g+h=f+(g+h):=ext' λi=>by simp [add_c]<;>omega
instance:Std.Commutative (α:=PS) (· + ·):=⟨Yek⟩
instance:Std.Associative (α:=PS) (· + ·):=⟨Zyw⟩
instance:Std.Commutative (α:=PS) (· * ·):=⟨mul_comm'⟩
instance:Std.Associative (α:=PS) (· * ·):=⟨mul_assoc'⟩
end PS
def tzl(xs:List Int):List Int:=(xs.reverse.dropWhile (· == 0)).reverse
def cf(p:List Int)(i:Nat):Int:=p.getD i 0
def mk(n:Nat)(f:Nat->Int):List Int:=(List.range n).map f
def ps(p:List Int):PS:=⟨cf p⟩
def Tr(p:List Int):Prop:=p=[]\/cf p (p.length-1)≠0
theorem Lo(p:List Int)(i:Nat):(ps p).c i=cf p i:=rfl
theorem Yx{p:List Int}(h:p.length<=i):cf p i=0:=by simp [cf,List.getD,cW h]
theorem Zi8{p:List Int}(h:i<p.length):cf p i=p[i]:=by simp [cf,List.getD,h]
theorem Yz(n:Nat)(f:Nat->Int):(mk n f).length=n:=by simp [mk]
theorem Ih(n:Nat)(f:Nat->Int)(i:Nat):cf (mk n f) i=if i<n then f i else 0:=by
 by_cases h:i<n
 .rw [aO h,Zi8 (by grind [Yz])];simp [mk]
 simp_all [aF,Yx,Yz]
theorem Ia{p:List Int}(a:p.length=q.length)(h:∀i,i<p.length->cf p i=cf q i):p=q:=by grind [List.ext_getElem,Zi8]
theorem Zgz(p:List Int):mk p.length (cf p)=p:=Ia (Yz _ _) λi h=>by simp_all [Ih,Yz,aO]
theorem Aq{n:Nat}{g:Nat->Int}(h:∀i,i<n->f i=g i):mk n f=mk n g:=Ia (by grind [Yz]) λi hi=>by simp_all [Yz,Ih,aO]
def Zov(p q:List Int)(i:Nat):cf (p ++ q) i=if i<p.length then cf p i else cf q (i-p.length):=by
 by_cases h:i<p.length
 .rw [aO h];simp [cf,List.getD,fH h]
 .simp only [cf,List.getD];grind
def Yor(n:Nat)(f:Nat->Int):mk (n+1) f=mk n f ++ [f n]:=by simp [mk,lI]
def Zm1(p:List Int)(k:Nat)(x:Int)(i:Nat)(h:k<p.length):cf (p.set k x) i=if i=k then x else cf p i:=by
 by_cases hi:i=k
 .subst hi;simp [cf,List.getD,h]
 .simp only [cf,List.getD];grind
def Dh(p:List Int)(k i:Nat):cf (p.take k) i=if i<k then cf p i else 0:=by
 by_cases hi:i<k
 .simp [cf,List.getD,mL,hi]
 .rw [aF hi,Yx];grind
theorem Zfy(p:List Int)(f:Int->Int)(a:f 0=0)(i:Nat):cf (p.map f) i=f (cf p i):=by grind [Zi8,Yx]
theorem Za3(xs:List Int):tzl (xs ++ [0])=tzl xs:=by simp [tzl]
theorem Bk(xs:List Int)(x:Int)(h:x≠0):tzl (xs ++ [x])=xs ++ [x]:=by simp [tzl,h]
def Zjk{α:Type}(xs:List α):xs=[]\/∃ys y,xs=ys ++ [y]:=by
 rcases lP xs with h|⟨ys,y,h⟩
 all_goals grind
def Zo7 (C:List Int->Prop)(b:C [])(c:∀xs,C xs->C (xs ++ [0]))(d:∀xs x,x≠0->C (xs ++ [x]))(p:List Int):C p:=by
 have a:∀n (p:List Int),p.length=n->C p:=by
  intro n
  induction n with
  | zero=>grind
  | succ n f=>
   intro p e;rcases Zjk p with rfl|⟨g,y,rfl⟩
   all_goals grind
 grind
theorem Ge(p:List Int):(tzl p).length<=p.length:=by
 refine Zo7 (λp=>(tzl p).length<=p.length) (aI _) (λa h=>?_) (λa x b=>?_) p
 .grind [Za3]
 simp_all [Bk,aI]
theorem Hm(p:List Int)(i:Nat):cf (tzl p) i=cf p i:=by
 refine Zo7 (λp=>cf (tzl p) i=cf p i) rfl (λa h=>?_) (λa x c=>?_) p
 .rw [Za3,h,Zov];split
  .rfl
  .rw [Yx O1];by_cases b:i-a.length=0
   .rw [b];rfl
   grind [Yx]
 grind [Bk]
def Tr.nil:Tr []:= .inl rfl
theorem Qt(p:List Int):Tr (tzl p):=by
 refine Zo7 (λp=>Tr (tzl p)) Tr.nil (λb h=>?_) (λb x a=>?_) p
 .grind [Za3]
 .rw [Bk _ _ a];refine .inr ?_;simp [cf];omega
theorem Za2{p:List Int}(h:Tr p):tzl p=p:=by
 rcases Zjk p with rfl|⟨b,y,rfl⟩
 .rfl
 .rcases h with h|h
  .simp_all
  .refine Bk _ _ λa=>h ?_;subst a;simp [cf]
def Tr.ext{p q:List Int}(b:Tr p)(c:Tr q)(h:∀i,cf p i=cf q i):p=q:=by
 have a:∀{p q:List Int},Tr p->(∀i,cf p i=cf q i)->p.length<=q.length:=λ{p q} b h=>by
  rcases b with rfl|b
  .simp
  grind [Nat.lt_or_ge,Yx]
 exact Ia (jT (a b h) (a c λi=>(h i).symm)) λi _=>h i
def Ym1{p:List Int}(h:∀i,cf p i=cf q i):tzl p=tzl q:=(Qt p).ext (Qt q) λi=>by grind [Hm]
def Zby{p:List Int}{n:Nat}(h:∀i,n<=i->cf p i=0):(tzl p).length<=n:=by
 rcases Qt p with a|a
 .grind
 grind [Hm,Nat.lt_or_ge]
theorem Ik(p:List Int):tzl p=[]↔∀i,cf p i=0:=
 ⟨λh i=>by rw [<-Hm,h];rfl,λh=>aK (Nat.le_zero.1 (Zby λi _=>h i))⟩
def Tr.mem{p:List Int}(h:Tr p)(a:p≠[]):cf p (p.length-1)≠0:=by
 rcases h with h|h
 all_goals grind
def Ye7{xs:List Int}(b:k<=xs.length)(a:0<k)(h:cf xs (k-1)=0):tzl (xs.take k)=tzl (xs.take (k-1)):=Ym1 λi=>by rw [Dh,Dh];grind
def Zsv{xs:List Int}(a:k<=xs.length)(h:k=0\/cf xs (k-1)≠0):tzl (xs.take k)=xs.take k:=by
 refine Za2 ?_;rcases h with rfl|h
 .simp [Tr]
 .rcases bB k with rfl|b
  .simp [Tr]
  .refine .inr ?_;rw [dX,eQ a,Dh];omega
def Za7(p q:List Int):List Int:=tzl (mk (max p.length q.length) λi=>cf p i+cf q i)
def Bq(p q:List Int):List Int:=tzl (mk (max p.length q.length) λi=>cf p i-cf q i)
def Yo(p:List Int)(c:Int):List Int:=tzl (p.map (· * c))
def Pa(p q:List Int):List Int:=tzl (mk (p.length+q.length-1) λi=>(ps p*ps q).c i)
def Xg(p:List Int):List Int:=mk (p.length-1) λi=>cf p (i+1)*((i:Int)+1)
def pev(p:List Int)(n d:Int):Int:=Ye (λi=>cf p i*(n^i*d^(p.length-1-i))) p.length
def Xq(p:List Int):Int:=p.foldl (λg c=>(Int.gcd g c:Int)) 0
def Yw(p:List Int):List Int:=p.map (· / Xq p)
def Zry(p q:List Int)(i:Nat):cf (Za7 p q) i=cf p i+cf q i:=by unfold Za7;grind [Hm,Ih,Yx]
def Bx(p q:List Int)(i:Nat):cf (Bq p q) i=cf p i-cf q i:=by unfold Bq;grind [Hm,Ih,Yx]
theorem Qp(p:List Int)(c:Int)(i:Nat):cf (Yo p c) i=cf p i*c:=by unfold Yo;grind [Hm,Zfy]
theorem Gz(p q:List Int)(i:Nat):cf (Pa p q) i=(ps p*ps q).c i:=by
 unfold Pa;rw [Hm,Ih];split
 .rfl
 .rw [PS.mul_c,Es];intro k a;rcases bA k p.length with h|h
  .rw [Lo,Lo,Yx (p:=q) O1,eI]
  .rw [Lo,Yx h,cQ]
def Zy6{p:List Int}:Tr (Bq p q):=Qt _
theorem Nu(p:List Int)(c:Int):Tr (Yo p c):=Qt _
theorem Qq(p q:List Int):Tr (Pa p q):=Qt _
theorem Zbg(p q:List Int):Pa p q=Pa q p:=(Qq p q).ext (Qq q p) λi=>by grind [Gz,PS.mul_comm']
def Yn7(p q:List Int):ps (Pa p q)=ps p*ps q:=PS.ext' λi=>Gz p q i
def tz(xs:List Nat):List Nat:=(xs.reverse.dropWhile (· == 0)).reverse
def Ir(xs:List Nat):tz (xs ++ [0])=tz xs:=by simp [tz]
theorem Cp(xs:List Nat)(x:Nat)(h:x≠0):tz (xs ++ [x])=xs ++ [x]:=by simp [tz,h]
theorem Pu{α:Type}(d:α)(xs:List α)(k:Nat)(h:k<xs.length):xs.take (k+1)=xs.take k ++ [xs.getD k d]:=by simp_all
def Zif{α:Type}(xs:List α)(k:Nat)(d:α)(h:i<k):(xs.take k).getD i d=xs.getD i d:=by grind
def Ym2(b:k<=xs.length)(a:0<k)(h:(xs.take k).getD (k-1) 0=0):tz (xs.take k)=tz (xs.take (k-1)):=by rw [Zif xs k 0 O1]at h;have:=Pu 0 xs (k-1) O1;rw [show k-1+1=k by omega]at this;simp_all [Ir]
def Zo8(b:k<=xs.length)(h:k=0\/(xs.take k).getD (k-1) 0≠0):tz (xs.take k)=xs.take k:=by
 rcases bB k with rfl|a
 .rfl
 .have:=Pu 0 xs (k-1) O1;grind [Cp]
def tz_eq(h:xs=[]\/xs.getD (xs.length-1) 0≠0):tz xs=xs:=by
 have:=Zo8 (xs:=xs) (aI _) (by grind)
 grind
def val(b:Nat):List Nat->Nat
 | []=>0
 | d::r=>d+b*val b r
def dgf(b:Nat):Nat->Nat->List Nat
 | 0,_=>[]
 | f+1,n=>if n=0 then []else n%b::dgf b f (n/b)
def dg(b n:Nat):List Nat:=dgf b n n
def Zvb{b:Nat}(d:2<=b):∀(f a n:Nat),n<=f->n<=a->dgf b f n=dgf b a n
 | 0,0,_,_,_=>rfl
 | 0,a+1,n,h,_=>by have:n=0:=O1;subst this;rfl
 | f+1,0,n,_,h=>by have:n=0:=O1;subst this;rfl
 | f+1,a+1,n,h,e=>by
  unfold dgf;by_cases c:n=0
  .grind
  .have:n/b<n:=jU O1 O1;rw [aF c,aF c,Zvb d f a _ O1 O1]
theorem Dg(b:Nat):dg b 0=[]:=rfl
theorem Zdm{n:Nat}(a:2<=b)(c:0<n):dg b n=n%b::dg b (n/b):=by
 unfold dg;obtain⟨m,rfl⟩:∃m,n=m+1:=⟨n-1,O1⟩
 conv=>lhs;unfold dgf
 rw [aF O8];have:(m+1)/b<m+1:=jU O8 O1;rw [Zvb a m _ _ O1 (aI _)]
theorem Fd(a:2<=b)(n:Nat):val b (dg b n)=n:=by
 induction n using Nat.strongRecOn with
 | _ n c=>
  rcases bB n with rfl|h
  .rfl
  .rw [Zdm a h,val,c _ (jU h O1)];grind [Nat.mod_add_div]
def Fk(c:2<=b)(n:Nat):∀d∈dg b n,d<b:=by
 induction n using Nat.strongRecOn with
 | _ n e=>
  rcases bB n with rfl|h
  .intro d a;cases a
  .rw [Zdm c h];intro d a;rcases aW.1 a with rfl|a
   .exact bK _ O1
   .exact e _ (jU h O1) d a
theorem Ke(b:Nat)(xs ys:List Nat):val b (xs ++ ys)=val b xs+b^xs.length*val b ys:=by
 induction xs with
 | nil=>simp [val]
 | cons x r a=>simp only [iL,val,a,eF,dH,Nat.mul_add];grind
theorem Zki{b:Nat}(c:0<b):∀(xs:List Nat),(∀d∈xs,d<b)->val b xs<b^xs.length
 | [],_=>by simp [val]
 | x::r,h=>by have a:=Zki c r (λd e=>h d (bN _ e));have f:=h x (bX ..);simp only [val,eF,dH];have g:=bD b a;grind
def Cj(b n:Nat):val b (List.replicate n 0)=0:=by
 induction n with
 | zero=>rfl
 | succ n a=>simp [iV,val,a]
theorem Oi(b:Nat)(xs:List Nat)(k:Nat):val b (xs.take (k+1))=val b (xs.take k)+xs.getD k 0*b^k:=by
 by_cases h:k<xs.length
 .rw [Pu 0 xs k h,Ke,dX,eQ O1,cI _];rfl
 grind [List.take_of_length_le,List.getElem?_eq_none]
def Iq(b:Nat)(xs:List Nat)(h:xs.length<=k):val b (xs.take k)=val b xs:=by rw [cN h]
def Pn(a:0<b)(h:∀d∈xs,d<b)(k:Nat):xs.getD k 0<b:=by grind [List.getElem_mem,List.getElem?_eq_none]
def Zna{α:Type}(o:List α)(k:Nat)(d:α)(h:k<o.length):(o.set k d).take (k+1)=o.take k ++ [d]:=by
 have a:k<(o.set k d).length:=O5;rw [Pu d _ _ a];congr 1
 .apply gU;grind
 grind
def Znb{α:Type}(o:List α)(k:Nat)(d:α):(o.set k d).take k=o.take k:=by apply gU;grind
def Bj(b:Nat)(o:List Nat)(d:Nat)(h:k<o.length):val b ((o.set k d).take (k+1))=val b (o.take k)+d*b^k:=by rw [Zna o k d h,Ke,dX,eQ O1,cI _];rfl
def Iy{p:Nat->Prop}{o:List Nat}(h:∀d∈o,p d)(k d:Nat)(a:p d):∀x∈o.set k d,p x:=by grind
def Lk{p:Nat->Prop}{n:Nat}(h:p 0):∀d∈List.replicate n 0,p d:=by grind
def Zbz{α:Type}(xs:List α):xs=[]\/∃ys y,xs=ys ++ [y]:=by
 rcases lP xs with h|⟨ys,y,h⟩
 all_goals grind
def Bf{b:Nat}(s:2<=b):∀(xs:List Nat),(∀d∈xs,d<b)->dg b (val b xs)=tz xs
 | [],_=>rfl
 | x::r,h=>by
  have e:=Bf s r (λd u=>h d (bN _ u));have v:=h x (bX ..);have i:(x+b*val b r)%b=x:=by rw [iS,bE v]
  have g:(x+b*val b r)/b=val b r:=by grind [Nat.add_mul_div_left,Nat.div_eq_of_lt]
  rcases bB (x+b*val b r)with f|f
  .have m:x=0:=O1;have l:val b r=0:=by
    rcases bB (val b r)with q|q
    .omega
    .have:=gY (by omega:0<b) q;omega
   rw [l,Dg]at e;simp only [val,f,Dg];subst m;rcases Zbz r with rfl|⟨a,y,rfl⟩
   .rfl
   .by_cases j:y=0
    .subst j;rw [Ir]at e;have t:=by have:=aH List.reverse e.symm;simpa [tz]using this
     unfold tz;simp_all [List.reverse_cons,List.dropWhile_append]
    .rw [Cp _ _ j]at e;simp at e
  .have:=Zdm s f;simp only [val];rw [this,i,g,e];rcases Zbz r with rfl|⟨a,y,rfl⟩
   .have:x≠0:=by simp [val]at f;omega
    simp [tz,this]
   .by_cases j:y=0
    .subst j;rw [Ir,show(x::(a ++ [0]))=(x::a) ++ [0]from rfl,Ir];have p:∀a:List Nat,0<x+b*val b a->x::tz a=tz (x::a):=by
      intro a
      induction hn:a.length using Nat.strongRecOn generalizing a with
      | _ n o=>
       intro c;rcases Zbz a with rfl|⟨k,z,rfl⟩
       .have:x≠0:=by simp [val]at c;omega
        simp [tz,this]
       .by_cases w:z=0
        .subst w;rw [Ir,show(x::(k ++ [0]))=(x::k) ++ [0]from rfl,Ir];refine o k.length O5 k rfl ?_;rw [Ke]at c;assumption
        grind [Cp]
     refine p a ?_;rw [Ke]at f;assumption
    grind [Cp]
theorem Zoo(a:2<=b){m n:Nat} : dg b m=dg b n↔m=n:=⟨λh=>by grind [Fd],λh=>O5⟩
def Ft{b:Nat}(a:2<=b):∀(i n:Nat),(dg b n).getD i 0=n/b^i%b
 | 0,n=>by
  rcases bB n with rfl|h
  all_goals simp_all [Dg,Zdm]
 | i+1,n=>by
  rcases bB n with rfl|h
  .simp [Dg]
  .rw [Zdm a h];have c:=Ft a i (n/b);simp only [List.getD_cons_succ];rw [c,aV,dH,cI b]
def Qd{b:Nat}(a:2<=b):∀(k n:Nat),(dg b n).length<=k↔n<b^k
 | 0,n=>by grind [Nat.eq_zero_or_pos,Dg,Zdm]
 | k+1,n=>by
  rcases bB n with rfl|h
  .grind [Dg,Nat.pow_pos]
  .rw [Zdm a h];simp only [eF,Nat.add_le_add_iff_right];rw [Qd a k _,dH,bT O1]
theorem Ix(a:2<=b)(k n:Nat):k<(dg b n).length↔b^k<=n:=by have:=Qd a k n;omega
def dg_top{n:Nat}(a:2<=b)(h:0<n):(dg b n).getD ((dg b n).length-1) 0≠0:=by
 have c:0<(dg b n).length:=by rw [Ix a,jZ];omega
 have d:b^((dg b n).length-1)<=n:=(Ix a _ n).1 O1;have e:=(Qd a _ n).1 (aI _);rw [Ft a];rw [show(dg b n).length=(dg b n).length-1+1 by omega,dH]at e;have f:n/b^((dg b n).length-1)<b:=by rw [bT (cD O1),cI];omega
 have g:=Nat.div_pos d (cD O1);grind [Nat.mod_eq_of_lt]
theorem Ny(a:2<=b)(n:Nat):(dg b n).length=0↔n=0:=by have:=Qd a 0 n;grind
def Zwk(c:2<=b){o:List Nat}{x:Nat}(h:∀i,i<o.length->o.getD i 0=x/b^i%b)(g:x<b^o.length):tz o=dg b x:=by
 have a:∀d∈o,d<b:=λd e=>by obtain⟨i,hi,rfl⟩:=fO e;have:=h i hi;rw [show o.getD i 0=o[i] by grind]at this;rw [this];exact bK _ O1
 rw [<-Bf c o a];have f:∀k,k<=o.length->val b (o.take k)=x%b^k:=by
  intro k
  induction k with
  | zero=>simp [val,lY]
  | succ k j=>
   grind [Oi,Nat.pow_succ,Nat.mod_mul,Nat.mul_comm]
 grind [List.take_length,Nat.mod_eq_of_lt]
def bl(n:Nat):Nat:=(dg 2 n).length
theorem Qs(k n:Nat):bl n<=k↔n<2^k:=Qd O8 k n
def Zcp(k n:Nat):k<bl n↔2^k<=n:=Ix O8 k n
theorem Fa:bl 0=0:=rfl
def Zr6{n:Nat}(h:0<n):2^(bl n-1)<=n/\0<bl n:=by have a:=(Zcp 0 n).2 O1;exact⟨(Zcp _ n).1 O1,a⟩
def Zaz(n:Nat):n<2^bl n:=(Qs _ n).1 (aI _)
def bl_eq{n:Nat}(b:n<2^k)(a:k=0\/2^(k-1)<=n):bl n=k:=by
 have:=(Qs k n).2 b;rcases a with rfl|a
 .omega
 .have:=(Zcp _ n).2 a;omega
def Zyl{n:Nat}(h:0<n):bl (n*2^k)=bl n+k:=by
 have a:=Zr6 h;refine bl_eq ?_ (.inr ?_)
 .simp [bQ,lZ,cD,Zaz]
 .rw [show bl n+k-1=(bl n-1)+k by omega,bQ];simp_all [aQ]
def Gp(n k:Nat):bl (n/2^k)=bl n-k:=by
 by_cases h:bl n<=k
 .grind [Qs,Nat.div_eq_of_lt,Fa]
 .have a:=(Zcp k n).1 O1;have b:=cZ (cD O8) a;have c:=Zr6 b;refine bl_eq ?_ (.inr ?_)
  .rw [bT (cD O8),<-bQ,show bl n-k+k=bl n by omega];simp [Zaz]
  .rw [lQ (cD O8),<-bQ,show bl n-k-1+k=bl n-1 by omega];omega
def Lq{m n:Nat}(h:m<=n):bl m<=bl n:=(Qs _ m).2 (aY h (Zaz n))
end Go.Sky
namespace Go.Sky
open Go.RowKit Below
variable{M:Nat->Prop}{a:Act}{b:Bool}{c:Operand}{w w':World}{x y:Code}{v:Value}{id d i:Nat}{p:Prop}{K:Act->World->Prop}{rest:List Oper}{oi:Oper}{Y:Act->Prop}{ts:List Nat}{listed:Array Bool}{plan:List (Nat×Nat)}
abbrev Qm:=List (Nat×Value)
def lk{α:Type} : List (Nat×α)->Nat->Option α
  | [],_=>none
  | (k,v)::r,n=>cond (Nat.beq k n) (some v) (lk r n)
def ev(e:Qm):Operand->Option Value
  | .tmp t=>lk e t
  | .const v=>some v
  | .global g=>some (.pointer (some ⟨g,0,none⟩))
  | .func f=>some (.func (.func f) #[] #[])
structure Chg (M:Nat->Prop) (w w':World):Prop where
  os:w'.os=w.os
  tape:w'.tape=w.tape
  output:w'.output=w.output
  size:w.heap.size<=w'.heap.size
  block:∀k,k<w.heap.size->¬M k->w'.heap[k]? = w.heap[k]?
def Chg.refl(M:Nat->Prop)(w:World):Chg M w w:=⟨rfl,rfl,rfl,aI _,λ_ _ _=>rfl⟩
def Chg.trans{a b c:World}(h:Chg M a b)(k:Chg M b c):Chg M a c:=
  ⟨k.os.trans h.os,k.tape.trans h.tape,k.output.trans h.output,aB h.size k.size,λi hi e=>(k.block i (cZ hi h.size) e).trans (h.block i hi e)⟩
def Chg.of_below(h:Below w.heap.size w w'):Chg M w w':=⟨h.os,h.tape,h.output,h.size,λk e _=>h.block k e⟩
structure Pc where
  own:Bool
  fp:Nat->Prop
  holds:World->Prop
  lt:∀w b,holds w->fp b->b<w.heap.size
  stable:∀w w',holds w->Chg (λb=>¬fp b) w w'->holds w'
abbrev Hp:=List (Nat×Pc)
structure Sat (N:Nat) (sc:Nat->Prop) (env:Qm) (H:Hp) (a:Act) (w:World):Prop where
  size:a.tmps.size=N
  defers:a.defers=[]
  env:∀t v,lk env t=some v->a.tmps.getD t undef=v
  hold:∀i it,lk H i=some it->it.holds w
  sep:∀i j it jt,i≠j->lk H i=some it->lk H j=some jt->it.own=true->∀b,it.fp b->jt.fp b->False
  scope:∀i it,i≠0->lk H i=some it->∀b,it.fp b->sc b
variable {P:Program} {N:Nat} {sc:Nat->Prop} {env env':Qm} {H H':Hp} {Q Q':Exit->Act->World->Prop}
def E(P:Program)(N:Nat)(sc:Nat->Prop)(c:Code)(Q:Exit->Act->World->Prop)(env:Qm)(H:Hp):Prop:=
  ∀a w,Sat N sc env H a w->c.wp P Q a w
def L(P:Program)(N:Nat)(sc:Nat->Prop)(ops:Array Oper)(rest:List Oper)(Q:Exit->Act->World->Prop)(env:Qm)(H:Hp):Prop:=
  ∀a w,Sat N sc env H a w->wpList P ops Q rest a w
def X(N:Nat)(sc:Nat->Prop)(e:Exit)(Q:Exit->Act->World->Prop)(env:Qm)(H:Hp):Prop:=
  ∀a w,Sat N sc env H a w->Q e a w
def Sub:Qm->Qm->Prop
  | [],_=>True
  | (t,v)::r,e=>lk e t=some v/\Sub r e
def HSub:Hp->Hp->Prop
  | [],_=>True
  | (t,v)::r,e=>lk e t=some v/\HSub r e
theorem Sub.lk:∀{e' e:Qm},Sub e' e->∀t v,lk e' t=some v->lk e t=some v
  | [],_,_,_,_,h=>by cases h
  | (k,u)::r,e,h,t,v,hl=>by
    unfold Sky.lk at hl;cases hb:Nat.beq k t with
    | true=>
      rw [hb]at hl;have:=eG hb;subst this;cases hl;exact h.1
    | false=>
      rw [hb]at hl;exact Sub.lk h.2 t v hl
theorem HSub.lk:∀{e' e:Hp},HSub e' e->∀t v,lk e' t=some v->lk e t=some v
  | [],_,_,_,_,h=>by cases h
  | (k,u)::r,e,h,t,v,hl=>by
    unfold Sky.lk at hl;cases hb:Nat.beq k t with
    | true=>
      rw [hb]at hl;have:=eG hb;subst this;cases hl;exact h.1
    | false=>
      rw [hb]at hl;exact HSub.lk h.2 t v hl
def Sat.weaken(h:Sat N sc env H a w)(hs:Sub env' env)(f:HSub H' H):Sat N sc env' H' a w:=
  ⟨h.size,h.defers,λt v n=>h.env t v (hs.lk t v n),λi e hi=>h.hold i e (f.lk i e hi),
   λi j e l k hi m=>h.sep i j e l k (f.lk i e hi) (f.lk j l m),λi e g hi=>h.scope i e g (f.lk i e hi)⟩
def E.weaken{c:Code}(h:E P N sc c Q env' H')(hs:Sub env' env)(f:HSub H' H):E P N sc c Q env H:=
  λa w e=>h a w (e.weaken hs f)
def X.weaken{e:Exit}(h:X N sc e Q env' H')(hs:Sub env' env)(g:HSub H' H):X N sc e Q env H:=
  λa w f=>h a w (f.weaken hs g)
theorem Zp{α:Type}(k:Nat)(v:α)(r:List (Nat×α)):lk ((k,v)::r) k=some v:=by simp [lk]
theorem Zh{α:Type}{k n:Nat}(v:α)(r:List (Nat×α))(h:k≠n):lk ((k,v)::r) n=lk r n:=by
  have:Nat.beq k n=false:=by grind [Nat.eq_of_beq_eq_true]
  simp [lk,this]
theorem Sat.ev(h:Sat N sc env H a w){x:Operand}(e:ev env x=some v):a.eval x=v:=by
  cases x with
  | tmp t=>exact h.env t v e
  | const u=>simp only [Sky.ev,jE]at e;exact e
  | global g=>simp only [Sky.ev,jE]at e;exact e
  | func f=>simp only [Sky.ev,jE]at e;exact e
theorem Sat.put(h:Sat N sc env H a w)(d:Nat)(v:Value)(j:Nat.blt d N=true):Sat N sc ((d,v)::env) H (a.put (some d) v) w:=by
  have f:d<N:=O11;refine⟨by simp [Act.put,h.size],h.defers,λt u e=>?_,h.hold,h.sep,h.scope⟩;by_cases g:d=t
  . subst g;rw [Zp]at e;cases e;simp [Act.put,h.size,f]
  . rw [Zh _ _ g]at e;have:=h.env t u e;simp only [Act.put];simp_all
def Sat.put_none(h:Sat N sc env H a w)(v:Value):Sat N sc env H (a.put none v) w:=h
def e_seq(h:E P N sc x (Exit.then (y.wp P Q) Q) env H):E P N sc (.seq x y) Q env H:=λa w hs=>wp_seq (h a w hs)
def e_skip(h:X N sc .normal Q env H):E P N sc .skip Q env H:=λa w hs=>wp_skip (h a w hs)
def e_ret(h:X N sc .ret Q env H):E P N sc .ret Q env H:=λa w hs=>wp_ret (h a w hs)
def e_exit(h:X N sc (.exit id) Q env H):E P N sc (.exit id) Q env H:=λa w hs=>wp_exit (h a w hs)
def Yp0{c:Code}(h:E P N sc c (Exit.inBlock id Q) env H):E P N sc (.block id c) Q env H:=λa w hs=>wp_block (h a w hs)
def e_reg{l:List Oper}(h:L P N sc l.toArray l Q env H):E P N sc (.region id l.toArray false) Q env H:=λa w hs=>wp_region_lit (h a w hs)
def Zb[Decidable p](e:ev env c=some (.bool (decide p)))(g:p->E P N sc x Q env H)(f:¬p->E P N sc y Q env H) :
    E P N sc (.cond c x y) Q env H:=λa w hs=>
  wp_cond_split (hs.ev e) (λh=>g O5 a w hs) (λh=>f O5 a w hs)
def Yq(e:ev env c=some (.bool b))(g:b=true->E P N sc x Q env H)(f:b=false->E P N sc y Q env H) :
    E P N sc (.cond c x y) Q env H:=λa w hs=>
  wp_cond_split (hs.ev e) (λh=>g h a w hs) (λh=>f h a w hs)
def Ypy(e:ev env c=some (.bool true))(f:E P N sc x Q env H):E P N sc (.cond c x y) Q env H:=λa w hs=>
  wp_cond_true (hs.ev e) (f a w hs)
def Ypz(e:ev env c=some (.bool false))(f:E P N sc y Q env H):E P N sc (.cond c x y) Q env H:=λa w hs=>
  wp_cond_false (hs.ev e) (f a w hs)
def Zs{ops:Array Oper}(h:X N sc .normal Q env H):L P N sc ops [] Q env H:=λa w hs=>wpList_nil (h a w hs)
def x_then(h:E P N sc y Q env H):X N sc .normal (Exit.then (y.wp P Q) Q) env H:=h
def x_ret(h:X N sc .ret Q env H):X N sc .ret (Exit.then K Q) env H:=h
def x_exit(h:X N sc (.exit id) Q env H):X N sc (.exit id) (Exit.then K Q) env H:=h
def x_bn(h:X N sc .normal Q env H):X N sc .normal (Exit.inBlock id Q) env H:=h
def x_br(h:X N sc .ret Q env H):X N sc .ret (Exit.inBlock id Q) env H:=h
theorem x_be(h:X N sc .normal Q env H):X N sc (.exit id) (Exit.inBlock id Q) env H:=λa w hs=>by show(if id=id then Q _ a w else Q _ a w);rw [aO rfl];exact h a w hs
theorem x_bo{e:Nat}(f:e≠id)(h:X N sc (.exit e) Q env H):X N sc (.exit e) (Exit.inBlock id Q) env H:=λa w hs=>by show(if e=id then Q _ a w else Q _ a w);rw [aF f];exact h a w hs
theorem e_loop {c:Code} {G:Type} {h:G->Qm} {z:G->Hp} (m:G->Prop) (μ:G->Nat) {I:G} (h₀:m I) (hs:Sub (h I) env) (hh:HSub (z I) H)
    (s:∀g,m g->E P N sc c (Exit.then (λa w=>∃t,m t/\μ t<μ g/\Sat N sc (h t) (z t) a w) Q) (h g) (z g)) :
    E P N sc (.loop c) Q env H:=by
  intro Z w0 j;have h1:=j.weaken hs hh;suffices hx:∀n g,μ g=n->m g->∀a w,Sat N sc (h g) (z g) a w->(Code.loop c).wp P Q a w from hx _ _ rfl h₀ Z w0 h1
  intro n g _ hg a w j b k F;have W:∀n g,μ g=n->m g->∀a w,Sat N sc (h g) (z g) a w->
      ∃e D w',Q e D w'/\Arrives P (lone (b.at a (.code c::.inLoop c::k)) F w) b k F e D w':=by
    intro n
    induction n using Nat.strongRecOn with
    | _ n ih=>
      intro g hn hI a w j;obtain⟨e,u,B,o,f⟩:=s g hI a w j b _ F;cases e with
      | normal=>
        obtain⟨t,R,S,r⟩:=o;obtain⟨e₂,a₂,w₂,V,q⟩:=ih _ (hn▸S) t rfl R _ _ r;exact⟨e₂,a₂,w₂,V,.of_steps (Steps.trans f (.one step_inLoop)) q⟩
      | exit id=>exact⟨_,u,B,o,.pass rfl (λ_ _=> .inl O8) f⟩
      | goto l=>exact⟨_,u,B,o,.pass rfl (λ_ _=> .inl O8) f⟩
      | ret=>exact⟨_,u,B,o,.pass rfl (λ_ _=> .inl O8) f⟩
      | panic ch=>exact⟨_,u,B,o,.pass rfl (λ_ _=> .inl O8) f⟩
      | outgrown=>exact⟨_,u,B,o,.pass rfl (λ_ _=> .inl O8) f⟩
  obtain⟨e,D,w',o,f⟩:=W _ g rfl hg a w j;exact⟨e,D,w',o,.of_steps (.one step_loop) f⟩
def Ld(P:Program)(N:Nat)(sc:Nat->Prop)(o:Oper)(env:Qm)(H:Hp)(v:Value):Prop:=
  ∀a w,Sat N sc env H a w->(execOp a.eval o).run P w= .ok (.value v) w
def T(P:Program)(N:Nat)(sc:Nat->Prop)(M:Nat->Prop)(o:Oper)(env:Qm)(H:Hp){G:Type}(φ:G->Prop)(env':G->Qm)(H':G->Hp):Prop:=
  ∀a w,Sat N sc env H a w->∀K Q,(∀g e w',φ g->Sat N sc (env' g) (H' g) e w'->Chg M w w'->K e w')->o.wp P a w K Q
theorem l_det {ops:Array Oper} {o:Oper}    (j:o.guard=none) (g:o.dst=some d) (f:Nat.blt d N=true) (k:Ld P N sc o env H v)
    (h:L P N sc ops rest Q ((d,v)::env) H):L P N sc ops (o::rest) Q env H:=λa w hs=>
  wpList_plain j λK e=>by unfold Oper.wp;rw [k a w hs];show K _ w;rw [g];exact e _ _ (h _ _ (hs.put d v f))
def l_step {ops:Array Oper} {o:Oper}  {G:Type}  {φ:G->Prop} {e:G->Qm} {k:G->Hp} (f:o.guard=none)
    (n:T P N sc M o env H φ e k) (h:∀g,φ g->L P N sc ops rest Q (e g) (k g)):L P N sc ops (o::rest) Q env H:=λa w hs=>
  wpList_plain f λK m=>n a w hs K Q λg l w' f j _=>m _ _ (h g f l w' j)
theorem Sat.yielded(h:Sat N sc env H a w){ops:Array Oper}{j:Nat}(l:(ops[j]?).bind (·.dst)=some d)(e:lk env d=some (.bool b))(k:Nat.blt d N=true) :
    yielded ops a.tmps j=some b:=by
  have g:=h.env d _ e;have f:d<a.tmps.size:=by rw [h.size];simp_all
  unfold Go.yielded;simp_all
theorem l_gdet {ops:Array Oper} {o:Oper}    {j e:Nat}  (n:o.guard=some (j,b)) (q:(ops[j]?).bind (·.dst)=some e) (m:lk env e=some (.bool b))
    (f:Nat.blt e N=true) (l:o.dst=some d) (k:Nat.blt d N=true) (r:Ld P N sc o env H v)
    (h:L P N sc ops rest Q ((d,v)::env) H):L P N sc ops (o::rest) Q env H:=λa w hs=>
  wpList_step λK g=>by
    have t:=hs.yielded q m f;have s:Region.wanted o (yielded ops a.tmps)=true:=by simp [Region.wanted,n,t]
    rw [aO s];unfold Oper.wp;rw [r a w hs];show K _ w;rw [l];exact g _ _ (h _ _ (hs.put d v k))
theorem Yo4 {ops:Array Oper} {o:Oper}  {G:Type}  {φ:G->Prop} {f:G->Qm} {n:G->Hp} {j e:Nat}  (l:o.guard=some (j,b)) (t:(ops[j]?).bind (·.dst)=some e)
    (s:lk env e=some (.bool b)) (k:Nat.blt e N=true)
    (u:T P N sc M o env H φ f n) (h:∀g,φ g->L P N sc ops rest Q (f g) (n g)):L P N sc ops (o::rest) Q env H:=λa w hs=>
  wpList_step λK r=>by
    have B:=hs.yielded t s k;have z:Region.wanted o (yielded ops a.tmps)=true:=by simp [Region.wanted,l,B]
    rw [aO z];exact u a w hs K Q λg q w' l m _=>r _ _ (h g l q w' m)
theorem Yo5 {ops:Array Oper} {o:Oper}   {j e:Nat} {g:Bool} (r:o.guard=some (j,b)) (s:(ops[j]?).bind (·.dst)=some e) (q:lk env e=some (.bool g))
    (f:Nat.blt e N=true) (m:(g == b)=false) (n:o.dst=some d) (l:Nat.blt d N=true)
    (h:L P N sc ops rest Q ((d,undef)::env) H):L P N sc ops (o::rest) Q env H:=λa w hs=>
  wpList_step λK k=>by
    have u:=hs.yielded s q f;have t:Region.wanted o (yielded ops a.tmps)=false:=by simp [Region.wanted,r,u];grind
    rw [t,n];exact k _ _ (h _ _ (hs.put d _ l))
theorem Zk (d:Nat) {ops:Array Oper}    [Decidable p] (g:lk env d=some (.bool (decide p)))
    (k:p->L P N sc ops rest Q ((d,.bool true)::env) H) (j:¬p->L P N sc ops rest Q ((d,.bool false)::env) H):L P N sc ops rest Q env H:=λa w hs=>by
  by_cases h:p
  . refine k h a w ⟨hs.size,hs.defers,λt v e=>?_,hs.hold,hs.sep,hs.scope⟩;by_cases f:d=t
    . subst f;rw [Zp]at e;have:=hs.env _ _ g;grind
    . rw [Zh _ _ f]at e;exact hs.env _ _ e
  . refine j h a w ⟨hs.size,hs.defers,λt v e=>?_,hs.hold,hs.sep,hs.scope⟩;by_cases f:d=t
    . subst f;rw [Zp]at e;have:=hs.env _ _ g;grind
    . rw [Zh _ _ f]at e;exact hs.env _ _ e
section
variable {ops:Array Oper} {md:Region.Mode} {C:World->World->Prop}
def Fv(ops:Array Oper)(ts:List Nat)(listed:Array Bool):Bool:=(List.range ops.size).all λj=>ts.contains j || listed.getD j true
def Gd(P:Program)(md:Region.Mode)(ops:Array Oper)(ts:List Nat)(C:World->World->Prop)(Q:Exit->Act->World->Prop):Nat->Array Bool->Act->World->Prop
  | 0,listed,a,w=>Region.ready md ops listed=[]/\Q .normal a w
  | e+1,listed,a,w=>if Fv ops ts listed=true then wpAny P md ops Q (e+1) listed a w else
    (Region.ready md ops listed=[]->Q .normal a w)/\
    ∀i∈Region.ready md ops listed,wpOp P ops Q i (λf w'=>C w w'/\Gd P md ops ts C Q e (listed.setIfInBounds i true) f w') a w
theorem Zbu (ts:List Nat) : ∀(e:Nat) (listed:Array Bool) (a:Act) (w:World),Gd P md ops ts C Q e listed a w->wpAny P md ops Q e listed a w
  | 0,_,_,_,h=>h
  | e+1,listed,_,_,h=>by
    unfold Gd at h;split at h
    . exact h
    . exact⟨h.1,λi hi=>wpOp_mono (λ_ _ f=>Zbu _ _ _ _ _ f.2) (h.2 i hi)⟩
def YieldsC(P:Program)(ops:Array Oper)(C:World->World->Prop)(o:Oper)(v:Value)(a:Act)(w:World):Prop:=
  (Region.wanted o (yielded ops a.tmps)=true/\∀w',C w w'->(execOp a.eval o).run P w'= .ok (.value v) w')\/
  (Region.wanted o (yielded ops a.tmps)=false/\v=undef)
theorem YieldsC.wpOp  {o:Oper}    (hi:ops[i]? = some o) (e:C w w) (j:YieldsC P ops C o v a w)
     (h:K (a.put o.dst v) w):wpOp P ops Q i K a w:=by
  unfold Go.wpOp;rcases j with⟨f,g⟩|⟨f,rfl⟩
  . simp only [f,jQ,Oper.wp,g w _,Oper.upon];grind
  grind
theorem YieldsC.of_same {o:Oper} {v:Value} {a a':Act} {w:World} (g:YieldsC P ops C o v a w) (e:execOp a'.eval o=execOp a.eval o)
    (f:Region.wanted o (yielded ops a'.tmps)=Region.wanted o (yielded ops a.tmps)):YieldsC P ops C o v a' w:=by
  unfold YieldsC at *;grind
theorem YieldsC.later{o:Oper}(e:∀a b c,C a b->C b c->C a c)(l:YieldsC P ops C o v a w)(h:C w w'):YieldsC P ops C o v a w':=by
  rcases l with⟨k,f⟩|f
  . exact .inl ⟨k,λg j=>f g (e _ _ _ h j)⟩
  . exact .inr f
theorem Yck {j:Nat} {g:Oper}  (B:ops[j]? = some g) (m:oi.apart ops g=true)
    (o:∀cs b,oi.op≠ .select cs b) (k:∀cs b,g.op≠ .select cs b)
    (G:∀c a w,Q (.panic c) (a.put oi.dst v) w->Q (.panic c) a w)    
    (z:∀a a',Y a->execOp a'.eval oi=execOp a.eval oi->Region.wanted oi (yielded ops a'.tmps)=Region.wanted oi (yielded ops a.tmps)->Y a') (q:Y a)
    (h:wpOp P ops Q j K (a.put oi.dst v) w) :
    wpOp P ops Q j (λa' w'=>Y a'/\K (a'.put oi.dst v) w') a w:=by
  obtain⟨l,F,t⟩:=Oper.apart_spec m;have Zy:=λa q u=>
    z _ _ q (execOp_put oi o a _ u t) (wanted_put oi a _ u t)
  have s:∀d,Y { a with defers:=d::a.defers }:=λd=>z _ _ q rfl rfl;unfold Go.wpOp at *;simp only [B]at *;rw [wanted_put g a _ v l]at h;split
  . rename_i D;simp only [D,jQ]at h;rcases h with h|⟨e,f⟩
    case inr=>exact .inr ⟨by unfold Oper.asks at *;rw [execOp_put g k a _ v l]at e;omega,f⟩
    unfold Oper.wp at *;rw [execOp_put g k a _ v l]at h;generalize (execOp _ g).run P w=r at *;cases r with
    | ok n w'=>
      cases n<;>simp only [Oper.upon]at h ⊢
      all_goals grind [Act.put_comm,Act.put_defers,Calls.mono,Rows.mono]
    | halt x w'=>
      cases x<;>simp only [Oper.upon]at h ⊢;grind
  grind [Act.put_comm]
theorem Zfa{o:Oper}(hi:ops[i]? = some o)(e:i ∉ ts)(f:listed.getD i true=false):Fv ops ts listed=false:=by
  cases h:Fv ops ts _ with
  | false=>rfl
  | true=>
    unfold Fv at h;grind
theorem Zbv     (hi:ops[i]? = some oi) (t:∀(j:Nat) (o:Oper) z b,ops[j]? = some o->o.op≠ .select z b)
    (G:i ∉ ts) (a1:∀(j:Nat) (n:Oper),j∈ts->ops[j]? = some n->∃e∈n.after,Region.binds md e=true/\e.on=i)
    (f:∀w,C w w) (s:∀a b c,C a b->C b c->C a c)
    (hQ:∀c a w,Q (.panic c) (a.put oi.dst v) w->Q (.panic c) a w) :
    ∀(g:Nat) (listed:Array Bool) (a:Act) (w:World),
      (∀j n,ops[j]? = some n->j≠i->listed.getD j true=false->(∀e∈n.after,Region.binds md e=true->e.on≠i)->oi.apart ops n=true)->
      i∈Region.ready md ops listed->YieldsC P ops C oi v a w->
      Gd P md ops ts C Q g (listed.setIfInBounds i true) (a.put oi.dst v) w->Gd P md ops ts C Q (g+1) listed a w:=by
  intro g
  induction g with
  | zero=>
    intro listed a w _ S u H;have a0:=Zfa hi G (mem_ready.1 S).1;unfold Gd;rw [aF O5];refine⟨λh=>O5,λj R=>?_⟩;by_cases l:j=i
    . subst l;exact u.wpOp hi (f w) ⟨f w,H⟩
    . have:=ready_mono R l;rw [H.1]at this;grind
  | succ g ih=>
    intro listed a w m S u H;have a0:=Zfa hi G (mem_ready.1 S).1;unfold Gd;rw [aF O5];refine⟨λh=>O5,λj R=>?_⟩;by_cases l:j=i
    . subst l;exact u.wpOp hi (f w) ⟨f w,H⟩
    . obtain⟨D,n,r,a2⟩:=mem_ready.1 R;have F:∀e∈n.after,Region.binds md e=true->e.on≠i:=λe he hb a4=>by grind [mem_ready,Nat.lt_or_ge,Array.getElem?_eq_none]
      have B:j ∉ ts:=λhm=>by grind
      have a3:Fv ops ts (listed.setIfInBounds i true)=false:=Zfa r B (by simp_all [getD_set_ne,jF]);unfold Gd at H;rw [aF O5]at H;have h1:=H.2 j (ready_mono R l);have h2:=Yck (Y:=λa=>YieldsC P ops C oi v a w) r (m j n r l D F) (λz b=>t i oi z b hi) (λz b=>t j n z b r) hQ
        (λa a' u he hw=>YieldsC.of_same u he hw) u h1
      have q:∀k I,ops[k]? = some I->k≠i->(listed.setIfInBounds j true).getD k true=false->
          (∀e∈I.after,Region.binds md e=true->e.on≠i)->oi.apart ops I=true:=λk I hk W a6 Z=>by
        refine m k I hk W ?_ Z;by_cases a5:j=k
        all_goals simp_all
      refine wpOp_mono (λa' w' V=>⟨V.2.1,ih (listed.setIfInBounds j true) a' w' q (ready_mono S (jF l)) (V.1.later s V.2.1) ?_⟩) h2;grind [Array.setIfInBounds_comm]
end
def drp:Nat->Hp->Hp
  | _,[]=>[]
  | k,(i,p)::r=>cond (Nat.beq i k) (drp k r) ((i,p)::drp k r)
theorem Gk:∀(k:Nat) (H:Hp) (i:Nat) (p:Pc),lk (drp k H) i=some p->i≠k/\lk H i=some p
  | _,[],_,_,h=>by cases h
  | k,(j,q)::r,i,p,h=>by
    unfold drp at h;cases hb:Nat.beq j k with
    | true=>
      rw [hb]at h;obtain⟨g,l⟩:=Gk k r i p h;have:=eG hb;refine⟨g,?_⟩;rw [Zh _ _ O1];exact l
    | false=>
      rw [hb]at h;simp only [cond_false]at h;by_cases f:j=i
      . refine⟨λe=>?_,by grind [Zp]⟩;simp_all
      . rw [Zh _ _ f]at h ⊢;exact Gk k r i p h
def LD(P:Program)(N:Nat)(sc:Nat->Prop)(M:Nat->Prop)(ops:Array Oper)(F:Qm->Hp->Prop):List (Nat×Nat)->Qm->Hp->Prop
  | [],env,H=>F env H
  | (i,0)::rest,env,H=>∃o d v,ops[i]? = some o/\o.dst=some d/\Nat.blt d N=true/\
      (∀a w,Sat N sc env H a w->Region.wanted o (yielded ops a.tmps)=true/\∀w',Chg M w w'->(execOp a.eval o).run P w'= .ok (.value v) w')/\LD P N sc M ops F rest ((d,v)::env) H
  | (i,1)::rest,env,H=>∃(o:Oper) (G:Type) (φ:G->Prop) (e:G->Qm) (f:G->Hp),ops[i]? = some o/\
      (∀a w,Sat N sc env H a w->Region.wanted o (yielded ops a.tmps)=true)/\T P N sc M o env H φ e f/\∀g,φ g->LD P N sc M ops F rest (e g) (f g)
  | (i,3)::rest,env,H=>∃(o:Oper) (G:Type) (φ:G->Prop) (e:G->Qm) (f:G->Hp),ops[i]? = some o/\
      (∀a w,Sat N sc env H a w->Region.wanted o (yielded ops a.tmps)=true)/\T P N sc (λ_=>True) o env H φ e f/\∀g,φ g->LD P N sc M ops F rest (e g) (f g)
  | (i,_)::rest,env,H=>∃o d,ops[i]? = some o/\o.dst=some d/\Nat.blt d N=true/\
      (∀a w,Sat N sc env H a w->Region.wanted o (yielded ops a.tmps)=false)/\LD P N sc M ops F rest ((d,undef)::env) H
def Ao:List (Nat×Nat)->List Nat
  | []=>[]
  | (i,3)::rest=>i::Ao rest
  | _::rest=>Ao rest
def Fx(ops:Array Oper)(ts:List Nat):List (Nat×Nat)->Array Bool->Bool
  | [],_=>true
  | (i,1)::rest,listed=>(Region.ready .any ops listed == [i]) && !(Fv ops ts listed) && Fx ops ts rest (listed.setIfInBounds i true)
  | (i,3)::rest,listed=>(Region.ready .any ops listed == [i]) && Fv ops ts listed && Fx ops ts rest (listed.setIfInBounds i true)
  | (i,_)::rest,listed=>(Region.ready .any ops listed).contains i && Region.free .any ops listed i && !(ts.contains i) &&
      ts.all (λj=>match ops[j]? with|some f=>f.after.any (λe=>Region.binds .any e && e.on == i)|none=>true) && Fx ops ts rest (listed.setIfInBounds i true)
def Ey:List (Nat×Nat)->Array Bool->Array Bool
  | [],listed=>listed
  | (i,_)::rest,listed=>Ey rest (listed.setIfInBounds i true)
def Hg(Q:Exit->Act->World->Prop):Exit->Act->World->Prop
  | .normal,a,w=>Q .normal a w
  | _,_,_=>False
theorem Zp1 {ops:Array Oper}   (h:ts.all (λj=>match ops[j]? with|some f=>f.after.any (λe=>Region.binds .any e && e.on == i)|none=>true)=true)
    (j:Nat) (f:Oper) (g:j∈ts) (k:ops[j]? = some f):∃e∈f.after,Region.binds .any e=true/\e.on=i:=by
  grind
def A(P:Program)(N:Nat)(sc:Nat->Prop)(M:Nat->Prop)(ops:Array Oper)(ts:List Nat)(Q:Exit->Act->World->Prop)(n:Nat)(listed:Array Bool)(env:Qm)(H:Hp):Prop:=
  ∀a w,Sat N sc env H a w->Gd P .any ops ts (Chg M) (Hg Q) n listed a w
theorem LD.sound{M:Nat->Prop}{ops:Array Oper}{ts:List Nat}{F:Qm->Hp->Prop}{n:Nat}(f:Region.noSelect ops=true):∀(plan:List (Nat×Nat)) (listed:Array Bool) (env:Qm) (H:Hp),Fx ops ts plan listed=true->
    LD P N sc M ops F plan env H->(∀env H,F env H->A P N sc M ops ts Q n (Ey plan listed) env H)->A P N sc M ops ts Q (plan.length+n) listed env H
  | [],listed,env,H,l,h,q,a,w,hs=>by simpa [Ey]using q _ _ h a w hs
  | (i,0)::rest,listed,env,H,l,h,q,a,w,hs=>by simp only [Fx,aP]at l;obtain⟨⟨⟨⟨z,I⟩,R⟩,r⟩,l⟩:=l;obtain⟨o,d,v,m,hd,D,u,e⟩:=h;obtain⟨V,u⟩:=u a w hs;have ih:=LD.sound f rest (listed.setIfInBounds i true) _ _ l e q _ w (hs.put d v D);show Gd P .any ops ts (Chg M) (Hg Q) ((rest.length+1)+n) listed a w;rw [gM];refine Zbv m (Region.noSelect_spec f) O5 (Zp1 r) (Chg.refl M) (λ_ _ _=>Chg.trans) (λ_ _ _ h=>h.elim) (rest.length+n) listed a w (Region.free_spec m I) O5 (.inl ⟨V,u⟩) ?_;grind
  | (i,1)::rest,listed,env,H,l,h,q,a,w,hs=>by simp only [Fx,aP,nL,fL]at l;obtain⟨⟨z,S⟩,l⟩:=l;obtain⟨o,G,φ,B,gH,m,V,ht,e⟩:=h;show Gd P .any ops ts (Chg M) (Hg Q) ((rest.length+1)+n) listed a w;rw [gM];unfold Gd;rw [aF O5];refine⟨λh0=>O5,λj s=>?_⟩;rw [z]at s;have s:=cE.1 s;subst s;unfold wpOp;simp only [m,V a w hs,jQ];exact .inl (ht a w hs _ _ λg W w' Z t hc=>⟨hc,LD.sound f rest _ _ _ l (e g Z) q W w' t⟩)
  | (i,3)::rest,listed,env,H,l,h,q,a,w,hs=>by simp only [Fx,aP,nL]at l;obtain⟨⟨z,S⟩,l⟩:=l;obtain⟨o,G,φ,B,gH,m,V,ht,e⟩:=h;show Gd P .any ops ts (Chg M) (Hg Q) ((rest.length+1)+n) listed a w;rw [gM];unfold Gd;rw [aO S];refine⟨λh0=>O5,λj s=>?_⟩;rw [z]at s;have s:=cE.1 s;subst s;unfold wpOp;simp only [m,V a w hs,jQ];exact .inl (ht a w hs _ _ λg W w' Z t _=>Zbu _ _ _ _ _ (LD.sound f rest _ _ _ l (e g Z) q W w' t))
  | (i,2)::rest,listed,env,H,l,h,q,a,w,hs=>by simp only [Fx,aP]at l;obtain⟨⟨⟨⟨z,I⟩,R⟩,r⟩,l⟩:=l;obtain⟨o,d,m,hd,D,u,e⟩:=h;have ih:=LD.sound f rest (listed.setIfInBounds i true) _ _ l e q _ w (hs.put d undef D);show Gd P .any ops ts (Chg M) (Hg Q) ((rest.length+1)+n) listed a w;rw [gM];refine Zbv m (Region.noSelect_spec f) O5 (Zp1 r) (Chg.refl M) (λ_ _ _=>Chg.trans) (λ_ _ _ h=>h.elim) (rest.length+n) listed a w (Region.free_spec m I) O5 (.inr ⟨u a w hs,rfl⟩) ?_;grind
  | (i,(k+4))::rest,listed,env,H,l,h,q,a,w,hs=>by simp only [Fx,aP]at l;obtain⟨⟨⟨⟨z,I⟩,R⟩,r⟩,l⟩:=l;obtain⟨o,d,m,hd,D,u,e⟩:=h;have ih:=LD.sound f rest (listed.setIfInBounds i true) _ _ l e q _ w (hs.put d undef D);show Gd P .any ops ts (Chg M) (Hg Q) ((rest.length+1)+n) listed a w;rw [gM];refine Zbv m (Region.noSelect_spec f) O5 (Zp1 r) (Chg.refl M) (λ_ _ _=>Chg.trans) (λ_ _ _ h=>h.elim) (rest.length+n) listed a w (Region.free_spec m I) O5 (.inr ⟨u a w hs,rfl⟩) ?_;grind
def Sat.drew(h:Sat N sc env H a w):Sat N sc env H a { w with drawn:=w.drawn+1 }:=
  ⟨h.size,h.defers,h.env,λi e hi=>e.stable w _ (h.hold i e hi) ⟨rfl,rfl,rfl,aI _,λ_ _ _=>rfl⟩,h.sep,h.scope⟩
theorem Yr{ops:Array Oper}(h:X N sc .normal Q env H)(e:(Region.ready .any ops listed).isEmpty=true:=by kernel_rfl):A P N sc M ops ts Q 0 listed env H:=
  λa w hs=>⟨O5,h a w hs⟩
def Zf1(P:Program)(N:Nat)(sc:Nat->Prop)(M:Nat->Prop)(ops:Array Oper)(ts:List Nat)(Q:Exit->Act->World->Prop)(n:Nat)(listed:Array Bool)(env:Qm)(H:Hp)(i:Nat):Prop:=
  ∃(o:Oper) (G:Type) (φ:G->Prop) (e:G->Qm) (f:G->Hp),ops[i]? = some o/\o.guard=none/\T P N sc M o env H φ e f/\∀g,φ g->A P N sc M ops ts Q n (listed.setIfInBounds i true) (e g) (f g)
theorem Yl8  {ops:Array Oper}   {n:Nat} (m:List Nat) (f:((Region.ready .any ops listed == m) && !(Fv ops ts listed) && !m.isEmpty)=true)
    (h:∀i∈m,Zf1 P N sc M ops ts Q n listed env H i):A P N sc M ops ts Q (n+1) listed env H:=λa w hs=>by
  simp only [aP,nL,fL]at f;obtain⟨⟨f,D⟩,u⟩:=f;unfold Gd;rw [aF O5];refine⟨λI=>?_,λj r=>?_⟩
  . grind
  . rw [f]at r;obtain⟨o,G,φ,q,F,z,k,B,e⟩:=h j r;unfold wpOp;simp only [z,Region.wanted,k,jQ];exact .inl (B a w hs _ _ λg s w' k l t=>⟨t,e g k s w' l⟩)
theorem a_lin  {l:List Oper}  {n m:Nat}  {F:Qm->Hp->Prop} (plan:List (Nat×Nat)) 
    (f:(Region.noSelect l.toArray && Fx l.toArray ts plan listed && Nat.beq (plan.length+n) m)=true) (h:LD P N sc M l.toArray F plan env H)
    (e:∀env H,F env H->A P N sc M l.toArray ts Q n (Ey plan listed) env H):A P N sc M l.toArray ts Q m listed env H:=by
  grind [Nat.eq_of_beq_eq_true,LD.sound]
theorem Bu  {l:List Oper} (M:Nat->Prop) (ts:List Nat) 
    (h:A P N sc M l.toArray ts Q l.length (Array.replicate l.length false) env H) (g:P.follows .mixedOrders=true:=by kernel_rfl):E P N sc (.region id l.toArray true) Q env H:=λa w hs=>by
  refine Code.wp_mono (Q:=Hg Q) (λe a w f=>by cases e<;>first|exact f|exact f.elim) ?_;refine wp_region_any g (Zbu ts (C:=Chg M) _ _ _ _ ?_);simpa using h a _ hs.drew
theorem e_dreg  {l:List Oper} (M:Nat->Prop)  (n:P.follows .mixedOrders=true)
    (f:(Region.noSelect l.toArray && Nat.beq plan.length l.length && Fx l.toArray (Ao plan) plan (Array.replicate l.length false) &&
      (Region.ready .any l.toArray (Ey plan (Array.replicate l.length false))).isEmpty)=true)
    (h:LD P N sc M l.toArray (X N sc .normal Q) plan env H):E P N sc (.region id l.toArray true) Q env H:=by
  simp only [aP]at f;obtain⟨⟨⟨g,e⟩,j⟩,k⟩:=f;have e:=eG e;refine Bu M (Ao plan) ?_ n;have:=LD.sound g _ _ env H j h (λenv H m=>Yr m k);grind
end Go.Sky
namespace Go.Sky
open Go.RowKit Below
variable{w:World}{k kd:IntKind}{v:Value}{t t' tb:TypeId}{x c y:Operand}{i b:Nat}{vs cs:Array Value}{p:Pc}
variable {P:Program} {N:Nat} {sc:Nat->Prop} {env env':Qm} {H H':Hp} {Q Q':Exit->Act->World->Prop}
def Zy(w0:World)(M:Nat->Prop):Pc:=
  { own:=false,fp:=λb=>b<w0.heap.size/\¬M b,holds:=λw=>Chg M w0 w
    lt:=λw b h f=>cZ f.1 h.size
    stable:=λw j h a=>⟨a.os.trans h.os,a.tape.trans h.tape,a.output.trans h.output,aB h.size a.size,
      λk d e=>(a.block k (cZ d h.size) (λg=>g ⟨d,e⟩)).trans (h.block k d e)⟩ }
def box(b:Nat)(t:TypeId)(cs:Array Value):Pc:=
  { own:=true,fp:=λk=>k=b,holds:=λw=>w.heap[b]? = some (.cells cs t (0,0))
    lt:=λw k h d=>by subst d;exact(aM.1 h).1
    stable:=λw f h a=>by rw [<-h];exact a.block b (aM.1 h).1 (λe=>e rfl) }
def cellsOf{α:Type}(enc:α->Value)(xs:List α):List Value:=xs.flatMap λx=>(enc x).cells.toList
def RowAt{α:Type}(w:World)(k:Nat)(enc:α->Value)(v:Value)(xs:List α):Prop:=
  ∃a c,v= .slice a xs.length c/\xs.length<=c/\c<=maxLen/\(xs=[]\/∃g d,a=some ⟨g,d,none⟩/\
    ∀i x,xs[i]? = some x->∀j u,(enc x).cells.toList[j]? = some u->w.cell? ⟨g,d+i*k+j,none⟩=some u)
theorem RowAt.same{α:Type}{w':World}{k:Nat}{enc:α->Value}{xs:List α}(h:RowAt w k enc v xs)(o:∀b,xs≠[]/\v.ownBlock=some b->w'.heap[b]? = w.heap[b]?):RowAt w' k enc v xs:=by
  obtain⟨a,c,rfl,d,e,f⟩:=h;rcases f with f|⟨g,l,rfl,n⟩
  . exact⟨a,c,rfl,d,e,.inl f⟩
  by_cases m:xs=[]
  . exact⟨_,c,rfl,d,e,.inl m⟩
  refine⟨_,c,rfl,d,e,.inr ?_⟩;refine⟨g,l,rfl,λi x hi j u q=>?_⟩;rw [<-n i x hi j u q];exact World.cell?_of_block (o g ⟨m,rfl⟩)
def Yt{α:Type}(k:Nat)(enc:α->Value)(v:Value)(xs:List α):Pc:=
  { own:=false,fp:=λb=>xs≠[]/\v.ownBlock=some b,holds:=λw=>RowAt w k enc v xs/\∀b,xs≠[]/\v.ownBlock=some b->b<w.heap.size
    lt:=λw b h a=>h.2 b a
    stable:=λw f h d=>⟨h.1.same λb a=>d.block b (h.2 b a) (λe=>e a),λb a=>cZ (h.2 b a) d.size⟩ }
def Nk{α:Type}(k:Nat)(e:TypeId)(enc:α->Value)(v:Value)(xs:List α):Pc:=
  { own:=true,fp:=λb=>v.ownBlock=some b,holds:=λw=>w.ownsRow 0 e k v xs.length (cellsOf enc xs)
    lt:=λw b h l=>(h.lt b l).2
    stable:=λw o h n=>by
      refine⟨h.1,?_⟩;rcases h.2 with m|⟨g,f,j,rfl,l,a,d⟩
      . exact .inl m
      . refine .inr ⟨g,f,j,rfl,l,?_,d⟩;rw [<-a];exact n.block g (aM.1 a).1 (λm=>m rfl) }
structure Enc {α:Type} (P:Program) (t:TypeId) (k:Nat) (enc:α->Value):Prop where
  pos:0<k
  cells:∀x,(enc x).cells.size=k
  one:∀x,∀u∈(enc x).cells.toList,u.oneCell'=true
  size:∀w,(sizeOf t).run P w= .ok k w
  load:∀x w ad,(∀j u,(enc x).cells.toList[j]? = some u->w.cell? (ad.add j)=some u)->(loadVar t ad).run P w= .ok (enc x) w
theorem Enc.flat{α:Type}{enc:α->Value}(hs:∀w,(sizeOf t).run P w= .ok 1 w)(e:∀w,(isAgg t).run P w= .ok false w)(d:∀x,(enc x).oneCell'=true):Enc P t 1 enc:=by
  have g:∀x,(enc x).cells=#[enc x]:=λx=>by have:=d x;cases hx:enc x<;>simp_all [Value.cells,Value.oneCell']
  refine⟨O8,λx=>O5,λx u j=>?_,hs,λx w f h=>?_⟩
  . grind
  . have a:=h 0 (enc x) O5;simp only [Addr.add,jQ]at a;simp [loadVar,e,a]
theorem Enc.agg {α:Type}  {k:Nat} {enc:α->Value} (m:0<k) (hs:∀w,(sizeOf t).run P w= .ok k w) (l:∀w,(isAgg t).run P w= .ok true w)
    (d:∀x,∃cs:List Value,enc x= .agg cs.toArray/\cs.length=k/\∀u∈cs,u.oneCell'=true):Enc P t k enc:=by
  refine⟨m,λx=>?_,λx u n=>?_,hs,λx w j h=>?_⟩
  . obtain⟨cs,a,e,f⟩:=d x;rw [a];assumption
  . obtain⟨cs,a,e,f⟩:=d x;rw [a]at n;exact f u ‹_›
  . obtain⟨cs,a,e,f⟩:=d x;rw [a]at h ⊢;have g:=run_loadCells_list (P:=P) w j cs ‹_›;rw [e]at g;simp [loadVar,l,hs,g]
theorem Xe{α:Type}{k:Nat}{enc:α->Value}(a:∀x,(enc x).cells.size=k):∀xs:List α,(cellsOf enc xs).length=xs.length*k
  | []=>by simp [cellsOf]
  | x::r=>by have d:=Xe a r;simp only [cellsOf,fY,cM,fE,eF]at d ⊢;rw [a x,dO];omega
theorem Gm{α:Type}{k:Nat}{enc:α->Value}(a:∀x,(enc x).cells.size=k):∀(xs:List α) (i:Nat) (x:α),xs[i]? = some x->∀j u,(enc x).cells.toList[j]? = some u->(cellsOf enc xs)[i*k+j]? = some u
  | [],_,_,h,_,_,_=>O5
  | y::r,0,x,h,j,u,hu=>by simp only [cellsOf,fY,iM,bZ];grind
  | y::r,i+1,x,h,j,u,hu=>by have d:=Gm a r i x (by simpa using h) j u hu;simp only [cellsOf,fY]at d ⊢;rw [iA (by simp [a,dO];omega)];rw [<-d];congr 1;simp [a,dO];omega
def Rd{α:Type}(p:Pc)(k:Nat)(enc:α->Value)(v:Value)(xs:List α):Prop:=∀w,p.holds w->RowAt w k enc v xs
def Zl{α:Type}{k:Nat}{enc:α->Value}{xs:List α} : Rd (Yt k enc v xs) k enc v xs:=λw h=>h.1
theorem An{α:Type}{k:Nat}{e:TypeId}{enc:α->Value}{xs:List α}(q:∀x,(enc x).cells.size=k)(h:w.ownsRow 0 e k v xs.length (cellsOf enc xs)):RowAt w k enc v xs:=by
  rcases h.2 with⟨rfl,z⟩|⟨g,d,o,rfl,_,l,m,f,r,a⟩
  . have:=aK z;subst this;exact⟨none,0,rfl,aI _,O8,.inl rfl⟩
  . refine⟨_,d,rfl,m,f,.inr ⟨g,0,rfl,λi x hi j u s=>?_⟩⟩;have n:=Gm q xs i x hi j u s;rw [<-a,mL]at n;split at n
    . simp only [World.cell?,l];grind
    grind
def Yu{α:Type}{k:Nat}{e:TypeId}{enc:α->Value}{xs:List α}(a:Enc P t k enc):Rd (Nk k e enc v xs) k enc v xs:=λw h=>An a.cells h
theorem Od(g o n:Nat):(⟨g,o,none⟩:Addr).add n=⟨g,o+n,none⟩:=by unfold Addr.add;all_goals grind
def ead(v:Value)(i k:Nat):Addr:=match v with
  | .slice (some a) _ _=>a.add (i*k)
  | _=>default
theorem Gc{o:Oper}(d:o.op= .move x)(e:ev env x=some v):Ld P N sc o env H v:=λa w hs=>by simp only [execOp,d,hs.ev e];rfl
theorem d_as{o:Oper}(d:o.op= .assign x)(e:ev env x=some v):Ld P N sc o env H v:=λa w hs=>by simp only [execOp,d,hs.ev e];rfl
theorem Zx4{o:Oper}(d:o.op= .extract x i)(f:ev env x=some (.tuple vs))(e:vs[i]? = some v):Ld P N sc o env H v:=λa w hs=>by simp [execOp,d,hs.ev f,Instr.extract,e]
theorem d_nc{o:Oper}{d:Addr}(e:o.op= .nilCheck x)(f:ev env x=some (.pointer (some d))):Ld P N sc o env H (.pointer (some d)):=λa w hs=>by simp [execOp,e,hs.ev f]
theorem d_not{o:Oper}{p:Prop}[Decidable p](d:o.op= .unOp .not t x)(e:ev env x=some (.bool (decide p))):Ld P N sc o env H (.bool (decide (¬p))):=λa w hs=>by simp [execOp,d,hs.ev e,Op.unary]
theorem Ym{o:Oper}{b:Bool}(d:o.op= .unOp .not t x)(e:ev env x=some (.bool b)):Ld P N sc o env H (.bool (!b)):=λa w hs=>by simp [execOp,d,hs.ev e,Op.unary]
theorem Bw{o:Oper}(e:o.op= .pick c x y)(d:ev env c=some (.bool true))(f:ev env x=some v):Ld P N sc o env H v:=λa w hs=>by simp [execOp,e,hs.ev d,hs.ev f,asBool]
theorem Yp6{o:Oper}(e:o.op= .pick c x y)(d:ev env c=some (.bool false))(f:ev env y=some v):Ld P N sc o env H v:=λa w hs=>by simp [execOp,e,hs.ev d,hs.ev f,asBool]
def La(n:Int):Prop:=-9223372036854775808<=n/\n<=9223372036854775807
theorem Ze8{n:Int}(h:La n):IntKind.i64.wrap n=n:=by rw [IntKind.wrap_i64];obtain⟨a,d⟩:=h;omega
theorem wrap_u(n:Int):IntKind.u64.wrap n=n%18446744073709551616:=by rfl
theorem Du {o:Oper} {d:BinOp}    {m n:Int} {r:Value} (e:o.op= .binOp d t x y t') (g:ev env x=some (.int k m)) (h:ev env y=some (.int k n))
    (f:∀w,(binOp d t (.int k m) (.int k n)).run P w= .ok r w):Ld P N sc o env H r:=λa w hs=>by
  simp [execOp,e,hs.ev g,hs.ev h,eqGuard,f w]
theorem d_add{o:Oper}{m n:Int}(a:o.op= .binOp .add t x y t')(d:ev env x=some (.int .i64 m))(e:ev env y=some (.int .i64 n))(h:La (m+n):=by exact⟨O1,O1⟩) :
    Ld P N sc o env H (.int .i64 (m+n)):=Du a d e λw=>by simp [binOp,Op.intArith,Ze8 h]
theorem d_sub{o:Oper}{m n:Int}(a:o.op= .binOp .sub t x y t')(d:ev env x=some (.int .i64 m))(e:ev env y=some (.int .i64 n))(h:La (m-n)) :
    Ld P N sc o env H (.int .i64 (m-n)):=Du a d e λw=>by simp [binOp,Op.intArith,Ze8 h]
theorem d_mul{o:Oper}{m n:Int}(a:o.op= .binOp .mul t x y t')(d:ev env x=some (.int .i64 m))(e:ev env y=some (.int .i64 n))(h:La (m*n)) :
    Ld P N sc o env H (.int .i64 (m*n)):=Du a d e λw=>by simp [binOp,Op.intArith,Ze8 h]
theorem Zmr{o:Oper}{m n:Int}(e:o.op= .binOp .quo t x y t')(g:ev env x=some (.int .i64 m))(h:ev env y=some (.int .i64 n))(a:0<=m)(j:m<=9223372036854775807)(d:0<n) :
    Ld P N sc o env H (.int .i64 (m/n)):=Du e g h λw=>by
  have f:La (m/n):=by have l:=lJ a (eC d);have q:=kY n a;exact⟨O1,O1⟩
  simp [binOp,Op.intDiv,Int.tdiv_eq_ediv_of_nonneg a,Ze8 f];omega
theorem Ko{o:Oper}{m n:Int}(d:o.op= .binOp .rem t x y t')(e:ev env x=some (.int .i64 m))(f:ev env y=some (.int .i64 n))(a:0<=m)(g:0<n) :
    Ld P N sc o env H (.int .i64 (m%n)):=Du d e f λw=>by
  simp [binOp,Op.intDiv,Int.tmod_eq_emod_of_nonneg a];omega
theorem d_lss{o:Oper}{m n:Int}(a:o.op= .binOp .lss t x y t')(d:ev env x=some (.int k m))(e:ev env y=some (.int k n)) :
    Ld P N sc o env H (.bool (decide (m<n))):=Du a d e λw=>by simp [binOp,Op.intCmp]
theorem d_leq{o:Oper}{m n:Int}(a:o.op= .binOp .leq t x y t')(d:ev env x=some (.int k m))(e:ev env y=some (.int k n)) :
    Ld P N sc o env H (.bool (decide (m<=n))):=Du a d e λw=>by simp [binOp,Op.intCmp]
theorem Zvn{o:Oper}{m n:Int}(a:o.op= .binOp .gtr t x y t')(d:ev env x=some (.int k m))(e:ev env y=some (.int k n)) :
    Ld P N sc o env H (.bool (decide (n<m))):=Du a d e λw=>by simp [binOp,Op.intCmp]
theorem d_geq{o:Oper}{m n:Int}(a:o.op= .binOp .geq t x y t')(d:ev env x=some (.int k m))(e:ev env y=some (.int k n)) :
    Ld P N sc o env H (.bool (decide (n<=m))):=Du a d e λw=>by simp [binOp,Op.intCmp]
theorem Ykl{o:Oper}{m n:Int}(a:o.op= .binOp .eql t x y t')(d:ev env x=some (.int k m))(e:ev env y=some (.int k n)) :
    Ld P N sc o env H (.bool (decide (m=n))):=Du a d e λw=>by
  simp only [binOp,ne_eq,gV,mW,Op.intCmp];rfl
theorem d_neq{o:Oper}{m n:Int}(a:o.op= .binOp .neq t x y t')(d:ev env x=some (.int k m))(e:ev env y=some (.int k n)) :
    Ld P N sc o env H (.bool (decide (m≠n))):=Du a d e λw=>by
  simp only [binOp,ne_eq,gV,mW,Op.intCmp,Sem.run_pure];grind
theorem d_len {α:Type} {o:Oper}  {e:TypeId}  {k:Nat}  {enc:α->Value} {xs:List α} (f:o.op= .call { callee:= .builtin .len,args:=#[x],argTypes:=#[t] })
    (j:ev env x=some v) (d:lk H i=some p) (g:Rd p k enc v xs) (h:P.underlying t=some (.slice e)):Ld P N sc o env H (.int .i64 xs.length):=λa w hs=>by
  obtain⟨l,c,rfl,_⟩:=g w (hs.hold i p d);simp [execOp,f,resolve,hs.ev j,invoke,builtin,Builtin.len_,run_underlying h,goInt]
theorem d_lens {o:Oper}   {s:ByteArray} (d:o.op= .call { callee:= .builtin .len,args:=#[x],argTypes:=#[t] })
    (f:ev env x=some (.string s)) (e:P.underlying t=some .string):Ld P N sc o env H (.int .i64 s.size):=λa w hs=>by
  simp [execOp,d,resolve,hs.ev f,invoke,builtin,Builtin.len_,run_underlying e,goInt]
theorem Yk (ii:Nat)(i:Nat) {α:Type} {o:Oper}  {e:TypeId}  {k:Nat}  {m:Int}  {enc:α->Value} {xs:List α} (n:o.op= .indexAddr t x y)
    (s:ev env x=some v) (u:ev env y=some (.int kd m)) (l:lk H ii=some p) (q:Rd p k enc v xs) (r:P.underlying t=some (.slice e)) (h:∀w,(sizeOf e).run P w= .ok k w)
      (d:m=(i:Int):=by omega) (f:i<xs.length:=by omega):Ld P N sc o env H (.pointer (some (ead v i k))):=λa w hs=>by
  obtain⟨B,c,rfl,D,F,j⟩:=q w (hs.hold ii p l);rcases j with rfl|⟨g,z,rfl,j⟩
  . grind
  . subst d;simp [execOp,n,hs.ev s,hs.ev u,Instr.indexAt,asIntOf,run_underlying r,h,f,ead]
theorem Pr (ii:Nat) {α:Type} {o:Oper}    {k:Nat}  {enc:α->Value} {xs:List α} (f:α) (q:o.op= .load t x)
    (s:ev env x=some (.pointer (some (ead v i k)))) (h:lk H ii=some p) (r:Rd p k enc v xs) (l:Enc P t k enc)
     (n:i<xs.length:=by omega):Ld P N sc o env H (enc (xs.getD i f)):=λa w hs=>by
  obtain⟨z,c,rfl,B,D,d⟩:=r w (hs.hold ii p h);rcases d with rfl|⟨g,e,rfl,d⟩
  . grind
  . have hi:xs[i]? = some (xs.getD i f):=O5;have:=l.load _ w (ead (.slice (some ⟨g,e,none⟩) xs.length c) i k) (λj u m=>by have:=d i _ hi j u m;simp only [ead,Od];omega)
    simp [execOp,q,hs.ev s,Instr.loadAt,Instr.sureAddr,this]
theorem Ykj {o:Oper}   {s:ByteArray}  {m:Int}  (j:o.op= .index t x y)
    (n:ev env x=some (.string s)) (q:ev env y=some (.int kd m)) (l:P.underlying t=some .string)
    (d:m=(i:Int)) (e:i<s.size):Ld P N sc o env H (.int .u8 ((s.data.toList.getD i 0).toNat:Int)):=λa w hs=>by
  subst d;have f:=getElem?_pos s i e;have g:s.data.toList.getD i 0=s[i]:=by
    have h:i<s.data.toList.length:=by assumption
    simp only [List.getD,aL h,fA];rfl
  rw [g];simp [execOp,j,hs.ev n,hs.ev q,Instr.index,asIntOf,run_underlying l,f]
theorem Ykk {o:Oper}   {f:Nat} {g:Array Field} {e:Field} {k:Nat} {d q r:Nat} (l:o.op= .fieldAddr t x f)
    (u:ev env x=some (.pointer (some ⟨b,d,none⟩))) (s:P.underlying t=some (.struct g)) (h:g[f]? = some e) (j:∀w,(sizeOf e.type).run P w= .ok (k+1) w) (m:e.offset=q) (n:d+q=r) :
    Ld P N sc o env H (.pointer (some ⟨b,r,none⟩)):=λa w hs=>by
  subst n;subst m;simp [execOp,l,hs.ev u,Instr.fieldAt,run_underlying s,h,Instr.sureAddr,fieldPlace,j,Od]
theorem Sat.boxc{a:Act}(hs:Sat N sc env H a w)(d:lk H i=some (box b t cs))(j:Nat):w.cell? ⟨b,j,none⟩=cs[j]?:=by have h:w.heap[b]? = some _:=hs.hold i _ d;simp [World.cell?,h]
theorem Zmt (i:Nat) {o:Oper}   {j:Nat}   (e:o.op= .load t x)
    (l:ev env x=some (.pointer (some ⟨b,j,none⟩))) (d:lk H i=some (box b tb cs)) (f:∀w,(isAgg t).run P w= .ok false w) (g:cs[j]? = some v):Ld P N sc o env H v:=λa w hs=>by
  have h:=hs.boxc d j;rw [g]at h;simp [execOp,e,hs.ev l,Instr.loadAt,Instr.sureAddr,loadVar,f,load,Sem.run,h]
theorem Ybp {o:Oper}   {j k:Nat}  {vs:List Value} (h:o.op= .load t x)
    (m:ev env x=some (.pointer (some ⟨b,j,none⟩))) (e:lk H i=some (box b tb cs)) (l:∀w,(isAgg t).run P w= .ok true w) (f:∀w,(sizeOf t).run P w= .ok k w)
    (g:vs.length=k) (r:∀n u,vs[n]? = some u->cs[j+n]? = some u):Ld P N sc o env H (.agg vs.toArray):=λa w hs=>by
  have d:=run_loadCells_list (P:=P) w ⟨b,j,none⟩ vs (λn u q=>by rw [Od,hs.boxc e];grind);rw [g]at d;simp [execOp,h,hs.ev m,Instr.loadAt,Instr.sureAddr,loadVar,l,f,d]
end Go.Sky
namespace Go.Sky
open Go.RowKit Below
variable{a:Act}{w w' w0:World}{M0:Nat->Prop}{t:TypeId}{d i k:Nat}{cs:Array Value}{x y:Operand}{v:Value}{p:Pc}{vs:List Value}{parts:Array (Nat×Operand)}
variable {P:Program} {N:Nat} {sc:Nat->Prop} {env env':Qm} {H H':Hp} {Q Q':Exit->Act->World->Prop} {M:Nat->Prop}
def Chg.alloc(M:Nat->Prop)(w:World)(o:Obj):Chg M w (w.alloc o):=
 ⟨rfl,rfl,rfl,O8,λk b _=>heap_alloc_old w o k b⟩
def Sat.chg(h:Sat N sc env H a w)(f:∀fp:Nat->Prop,(∀b,fp b->b<w.heap.size)->Chg (λb=>¬fp b) w w'):Sat N sc env H a w':=
 ⟨h.size,h.defers,h.env,λi c hi=>c.stable w w' (h.hold i c hi) (f _ λb e=>c.lt w b (h.hold i c hi) e),h.sep,h.scope⟩
def Sat.chg0(h:Sat N sc env H a w)(b:Chg (λ_=>False) w w'):Sat N sc env H a w':=
 h.chg λf c=>⟨b.os,b.tape,b.output,b.size,λk e g=>b.block k e (λh=>h)⟩
theorem Sat.add   (h:Sat N sc env H a w) (i:Nat) (p:Pc) (D:p.holds w) (u:∀j e,j≠i->lk H j=some e->(p.own=true\/e.own=true)->∀b,p.fp b->e.fp b->False)
  (B:∀b,p.fp b->sc b):Sat N sc env ((i,p)::H) a w:=by
 refine⟨h.size,h.defers,h.env,λj e c=>?_,λj z e s l c f m b n o=>?_,λj e q c b n=>?_⟩
 .by_cases g:i=j
  .grind [Zp]
  .rw [Zh _ _ g]at c;exact h.hold j e c
 .by_cases g:i=j
  .subst g;rw [Zp]at c;rw [Zh _ _ l]at f;grind
  .rw [Zh _ _ g]at c;by_cases r:i=z
   .grind [Zp]
   .rw [Zh _ _ r]at f;exact h.sep j z e s l c f m b n o
 .by_cases g:i=j
  .grind [Zp]
  .rw [Zh _ _ g]at c;exact h.scope j e q c b n
def Wide(sc:Nat->Prop)(H:Hp):Prop:=∃w0 M,lk H 0=some (Zy w0 M)/\∀b,w0.heap.size<=b->sc b
theorem Sat.new   (h:Sat N sc env H a w)   (f:lk H 0=some (Zy w0 M0)) (r:∀b,w0.heap.size<=b->sc b) (i:Nat) (p:Pc) (o:Obj)
  (q:p.holds (w.alloc o)) (m:∀b,p.fp b->b=w.heap.size):Sat N sc env ((i,p)::H) a (w.alloc o):=by
 have g:=h.chg0 (Chg.alloc _ w o);have s:=(h.hold 0 _ f).size;refine g.add i p q (λj e _ n _ b l c=>?_) (λb l=>r b O5);have:=e.lt w b (h.hold j e n) c;grind
theorem Zjh (i:Nat) {o:Oper}   {z:Value}    (l:o.op= .alloc t) (j:o.dst=some d) 
  (q:∀w,(zeroValue t).run P w= .ok z w) (h:z.cells=cs) (c:lk H 0=some (Zy w0 M0)) (n:∀b,w0.heap.size<=b->sc b) (f:Nat.blt d N=true:=by rfl) :
  T P N sc M o env H (G:=Nat) (λ_=>True) (λb=>(d,.pointer (some ⟨b,0,none⟩))::env) (λb=>(i,box b t cs)::H):=λa w hs K Q e=>by
 subst h;have m:(execOp a.eval o).run P w= .ok (.value (.pointer (some ⟨w.heap.size,0,none⟩))) (w.alloc (.cells z.cells t)):=by simp [execOp,l,Instr.alloc,q,newVar,newRow]
 unfold Oper.wp;rw [m];show K _ _;rw [j];exact e _ _ _ aA ((hs.new c n i _ _ (heap_alloc_new w _) (λb g=>g)).put d _ f) (Chg.alloc _ _ _)
theorem t_box {o:Oper}        (l:o.op= .box t x) (j:o.dst=some d) (f:Nat.blt d N=true)
  (q:ev env x=some v) (h:v.cells=cs) (c:lk H 0=some (Zy w0 M0)) (n:∀b,w0.heap.size<=b->sc b) :
  T P N sc M o env H (G:=Nat) (λ_=>True) (λb=>(d,.pointer (some ⟨b,0,none⟩))::env) (λb=>(i,box b t cs)::H):=λa w hs K Q e=>by
 subst h;have m:(execOp a.eval o).run P w= .ok (.value (.pointer (some ⟨w.heap.size,0,none⟩))) (w.alloc (.cells v.cells t)):=by simp [execOp,l,Instr.box,hs.ev q,newVar,newRow]
 unfold Oper.wp;rw [m];show K _ _;rw [j];exact e _ _ _ aA ((hs.new c n i _ _ (heap_alloc_new w _) (λb g=>g)).put d _ f) (Chg.alloc _ _ _)
def One(N:Nat)(sc:Nat->Prop)(env:Qm)(H:Hp)(v:Value):Prop:=∀a w,Sat N sc env H a w->v.oneCell'=true
def Zj(h:v.oneCell'=true):One N sc env H v:=λ_ _ _=>h
theorem Ow (i:Nat){α:Type}{enc:α->Value}{xs:List α}(b:lk H i=some p)(e:Rd p k enc v xs):One N sc env H v:=λa w hs=>by obtain⟨f,c,rfl,_⟩:=e w (hs.hold i p b);rfl
theorem Zn(h:v.oneCell'=true):v.cells=#[v]:=by cases v<;>simp_all [Value.cells,Value.oneCell']
def Gf{g:Nat}(b:M g):Chg M w (w.setRow g cs):=
 ⟨rfl,rfl,rfl,O8,λk _ c=>setRow_other w g k cs (λe=>c (e▸b))⟩
theorem Sat.upd   (h:Sat N sc env H a w)  {q:Pc} (hi:lk H i=some p) (f:p.own=true) (F:i≠0)
  (z:Chg p.fp w w') (Z:q.holds w') (u:∀b,q.fp b->p.fp b\/w.heap.size<=b)   (R:lk H 0=some (Zy w0 M0)) (Y:∀b,w0.heap.size<=b->sc b) :
  Sat N sc env ((i,q)::H) a w':=by
 refine⟨h.size,h.defers,h.env,λj g c=>?_,λj D g r o c e V b m n=>?_,λj g G c b m=>?_⟩
 .by_cases s:i=j
  .grind [Zp]
  .rw [Zh _ _ s]at c;exact g.stable w w' (h.hold j g c) ⟨z.os,z.tape,z.output,z.size,λb m S=>z.block b m (λW=>S (λI=>h.sep i j p g s hi c f b W I))⟩
 .by_cases s:i=j
  .subst s;rw [Zp]at c;cases c;rw [Zh _ _ o]at e;rcases u b m with l|l
   .exact h.sep i D p r o hi e f b l n
   .have:=r.lt w b (h.hold D r e) n;omega
  .rw [Zh _ _ s]at c;by_cases B:i=D
   .subst B;rw [Zp]at e;cases e;rcases u b n with l|l
    .exact h.sep i j p g (jF o) hi c f b l m
    .have:=g.lt w b (h.hold j g c) m;omega
   .rw [Zh _ _ B]at e;exact h.sep j D g r o c e V b m n
 .by_cases s:i=j
  .subst s;rw [Zp]at c;cases c;rcases u b m with l|l
   .exact h.scope i p F hi b l
   .exact Y b (aB (h.hold 0 _ R).size l)
  .rw [Zh _ _ s]at c;exact h.scope j g G c b m
def Fi(cs:Array Value)(j:Nat)(vs:List Value):Array Value:=(cs.toList.take j ++ vs ++ cs.toList.drop (j+vs.length)).toArray
theorem Zip {o:Oper}  {f:TypeId} {b j:Nat} {cs':Array Value}     (I:o.op= .store t x y) (F:o.dst=none)
  (Y:ev env x=some (.pointer (some ⟨b,j,none⟩))) (Z:ev env y=some v) (m:lk H i=some (box b f cs)) (g:i≠0) (V:v.cells=vs.toArray) (h:∀w,(sizeOf t).run P w= .ok k w) (c:vs.length=k)
  (r:j+vs.length<=cs.size) (z:∀u∈vs,One N sc env H u) (e:Fi cs j vs=cs')
  (s:lk H 0=some (Zy w0 M0)) (W:∀b,w0.heap.size<=b->sc b) (D:M b) :
  T P N sc M o env H (G:=Unit) (λ_=>True) (λ_=>env) (λ_=>(i,box b f cs')::H):=λa w hs K Q B=>by
 subst e;have n:=hs.hold i _ m;have l:=run_storeCells_at P b j f vs 0 cs w n O1 (λu S=>z u S a w hs);have R:(execOp a.eval o).run P w= .ok .skip (w.setRow b (Fi cs j vs)):=by simp [execOp,I,hs.ev Y,hs.ev Z,Instr.storeAt,Instr.sureAddr,storeVar,V,h,c,l,Fi]
 unfold Oper.wp;rw [R];show K _ _;rw [F];exact B () _ _ aA ((hs.upd m rfl g (q:=box b f (Fi cs j vs)) (Gf rfl) (setRow_heap w b cs _ f _ n) (λk h=> .inl h) s W).put_none _) (Gf D)
theorem t_bs {α:Type} {o:Oper} {e:TypeId} {n:Nat}      {enc:α->Value} (xs:List α)
  (z:o.op= .buildSlice t n parts) (r:o.dst=some d) (l:Nat.blt d N=true)
  (F:∀a w,Sat N sc env H a w->(Instr.buildSlice t n (parts.map λ(i,x)=>(i,a.eval x))).run P w= .ok (.slice (some ⟨w.heap.size,0,none⟩) n n) (w.alloc (.cells cs e)))
  (q:cs.toList=cellsOf enc xs) (D:xs.length=n) (s:∀x,(enc x).cells.size=k) (u:n<=maxLen)
  (h:lk H 0=some (Zy w0 M0)) (B:∀b,w0.heap.size<=b->sc b) :
  T P N sc M o env H (G:=Nat) (λ_=>True) (λb=>(d,.slice (some ⟨b,0,none⟩) n n)::env) (λb=>(i,Nk k e enc (.slice (some ⟨b,0,none⟩) n n) xs)::H):=λa w hs K Q j=>by
 have c:(execOp a.eval o).run P w= .ok (.value (.slice (some ⟨w.heap.size,0,none⟩) n n)) (w.alloc (.cells cs e)):=by simp only [execOp,z];simp_all
 have g:=Xe s xs;have f:cs.size=n*k:=O5;unfold Oper.wp;rw [c];show K _ _;rw [r];refine j _ _ _ aA ((hs.new h B i _ _ ?_ (λb m=>by simp [Nk,Value.ownBlock]at m;omega)).put d _ l) (Chg.alloc _ _ _);refine⟨O1,.inr ⟨w.heap.size,n,cs,O5,bI _,heap_alloc_new w _,O1,u,f,?_⟩⟩;grind
theorem Zh9{α:Type}{enc:α->Value}(f:∀x,(enc x).cells.size=k)(l:0<k)(b:α)(n:Nat):(madeCells (enc b).cells (n*k)).toList=cellsOf enc (List.replicate n b):=by
 apply gU;intro j;by_cases h:j<n*k
 .have o:j/k<n:=iB O5;have g:j%k<k:=bK _ l;have c:(List.replicate n b)[j/k]? = some b:=O5;have m:(enc b).cells.toList[j%k]? = some ((enc b).cells[j%k]!):=by grind
  have e:=Gm f _ _ b c _ _ m;rw [show j/k*k+j%k=j from by grind [Nat.mul_comm,Nat.div_add_mod]]at e;rw [e];simp [madeCells,h,f]
 simp_all [cW,fE,size_madeCells,Xe]
theorem t_mk {α:Type} {o:Oper} {e:TypeId}   {n c:Nat} {m:Int}   {enc:α->Value} {ti:TypeInfo} (g:α)
  (I:o.op= .makeSlice t x y) (B:o.dst=some d) (z:Nat.blt d N=true) (W:ev env x=some (.int .i64 m)) (Y:ev env y=some (.int .i64 m)) (F:m=(n:Int))
  (S:P.underlying t=some (.slice e)) (hi:P.info? e=some ti) (Z:ti.zero=some (enc g)) (D:∀x,(enc x).cells.size=k) (r:0<k) (l:ti.size=k) (j:ti.bytes=c)
  (h:c*n<=281474976710656) (f:0<c)
  (s:lk H 0=some (Zy w0 M0)) (V:∀b,w0.heap.size<=b->sc b) :
  T P N sc M o env H (G:=Nat) (λ_=>True) (λb=>(d,.slice (some ⟨b,0,none⟩) n n)::env) (λb=>(i,Nk k e enc (.slice (some ⟨b,0,none⟩) n n) (List.replicate n g))::H):=λa w hs K Q u=>by
 subst F;subst l;subst j;have hn:=aB (lB n f) h;have q:=run_make w t e ti _ S hi Z .i64 .i64 n n O8 (eA _) O1 O1;have R:(execOp a.eval o).run P w= .ok (.value (.slice (some ⟨w.heap.size,0,none⟩) n n)) (w.alloc (.cells (madeCells (enc g).cells (n*ti.size)) e)):=by simp [execOp,I,hs.ev W,hs.ev Y,q]
 unfold Oper.wp;rw [R];show K _ _;rw [B];refine u _ _ _ aA ((hs.new s V i _ _ ?_ (λb h=>by simp [Nk,Value.ownBlock]at h;omega)).put d _ z) (Chg.alloc _ _ _);have hl:=Xe D (List.replicate n g);refine⟨O1,.inr ⟨w.heap.size,n,_,O8,bI _,heap_alloc_new w _,O8,by simp [maxLen];omega,by rw [size_madeCells],?_⟩⟩;simp_all [Zh9,cN,aI]
theorem Zds{α:Type}{enc:α->Value}{k:Nat}(c:∀x,(enc x).cells.size=k):∀(xs:List α) (i:Nat) (x:α),i<xs.length->
  cellsOf enc (xs.set i x)=(cellsOf enc xs).take (i*k) ++ (enc x).cells.toList ++ (cellsOf enc xs).drop (i*k+k)
 | [],_,_,h=>O5
 | y::r,0,x,_=>by simp only [mM,cellsOf,fY,iM,gG,lK,bZ];simp_all
 | y::r,i+1,x,h=>by have b:=Zds c r i x O5;simp only [cellsOf,List.set_cons_succ,fY]at b ⊢;rw [b];rw [show(i+1)*k=(enc y).cells.toList.length+i*k from by grind];rw [List.take_length_add_append,iX,List.drop_length_add_append];simp
theorem Lu (i:Nat) {α:Type} {o:Oper}  {e:TypeId} {j:Nat} {u:Value} {enc:α->Value} {xs:List α} {z:α}   (ho:o.op= .store t x y) (hd:o.dst=none)
  (hx:ev env x=some (.pointer (some (ead v j k)))) (hy:ev env y=some u) (hu:u=enc z) (I:lk H i=some (Nk k e enc v xs)) (f:Enc P t k enc) 
  (V:lk H 0=some (Zy w0 M0)) (hw:∀b,w0.heap.size<=b->sc b) (D:i≠0:=by decide) (n:j<xs.length:=by omega) :
  T P N sc (λ_=>True) o env H (G:=Unit) (λ_=>True) (λ_=>env) (λ_=>(i,Nk k e enc v (xs.set j z))::H):=λa w hs K Q W=>by
 subst hu;have r:=hs.hold i _ I;have S:=f.pos;rcases r.2 with⟨rfl,hn⟩|⟨g,l,c,rfl,Y,R,F,B,a0,h⟩
 .omega
 .have a1:j*k+k<=xs.length*k:=by rw [<-fC];exact aQ k n
  have Z:xs.length*k<=l*k:=aQ k F;have m:(enc z).cells.toList.length=k:=by simp [f.cells]
  have s:=run_storeCells_at P g (j*k) e (enc z).cells.toList 0 c w R O1 (f.one z);simp only [gN,m]at s;have hr:(execOp a.eval o).run P w= .ok .skip (w.setRow g (c.toList.take (j*k) ++ (enc z).cells.toList ++ c.toList.drop (j*k+k)).toArray):=by simp [execOp,ho,hs.ev hx,hs.ev hy,Instr.storeAt,Instr.sureAddr,storeVar,f.cells,f.size,ead,Od,s]
  unfold Oper.wp;rw [hr];show K (a.put o.dst _) _;rw [hd];refine W () _ _ aA ((hs.upd I rfl D (q:=Nk k e enc _ (xs.set j z)) (Gf rfl) ?_ (λk hk=> .inl hk) V hw).put_none undef) (Gf aA);refine⟨by rw [Xe f.cells],.inr ⟨g,l,_,O8,Y,setRow_heap w g c _ e _ R,O5,B,?_,?_⟩⟩
  .grind
  .rw [Zds f.cells xs j z n,<-h];simp only [cH];apply gU;grind
end Go.Sky
namespace Go.Sky
open Go.RowKit Below
variable{w w0:World}{t tb:TypeId}{k d b:Nat}{v v1 v2:Value}{p:Pc}{M0:Nat->Prop}{r pre:List Pc}{f:FuncId}{xs:List Operand}{ats:Array TypeId}{vs:List Value}{a:Act}{fn:Func}{args:Array Value}{preH:World->Hp}
variable {P:Program} {N:Nat} {sc:Nat->Prop} {env env':Qm} {H H':Hp} {Q Q':Exit->Act->World->Prop} {M:Nat->Prop}
theorem Zey  (t ty e:TypeId) (ti:TypeInfo) (z:Value) (i W:Nat) (ht:P.underlying t=some (.slice e)) (hi:P.info? e=some ti) (hz:ti.zero=some z)
    (S:ti.size=i) (a4:ti.bytes=W) (a8:z.cells.size=i) (b0:0<i)
    (v:Value) (n:Nat) (xs:List Value) (l:w.ownsRow 0 e i v n xs)
    (a:Addr) (m c:Nat) (h:List Value) (V:h.length=m*i) (q:∀j u,h[j]? = some u->w.cell? (a.add j)=some u) (h1:∀u∈h,u.oneCell'=true)
    (a2:n+m<=maxLen) (D:(n+m)*W<=140737488355328) :
    ∃v' w',(Builtin.append_ #[t,t] ty #[v,.slice (some a) m c]).run P w= .ok v' w'/\w'.ownsRow 0 e i v' (n+m) (xs ++ h)/\w.grownBy w' v.ownBlock/\
      (∀b,v'.ownBlock=some b->v.ownBlock=some b\/w.heap.size<=b):=by
  subst S;subst a4;have a1:n+m<=9223372036854775807:=by assumption
  have F:(xs ++ h).length=(n+m)*ti.size:=by rw [cM,l.1,V,dO]
  have y:∀(o:Nat),o<n+m->∀(a0:Option Nat),
      (w.drew.alloc (.cells (xs.toArray ++ h.toArray ++ Builtin.zeroCells z.cells (grownCap w (n+m) o e-(n+m))) e)).ownsRow 0 e ti.size
        (.slice (some ⟨w.heap.size,0,none⟩) (n+m) (grownCap w (n+m) o e)) (n+m) (xs ++ h)/\
      w.grownBy (w.drew.alloc (.cells (xs.toArray ++ h.toArray ++ Builtin.zeroCells z.cells (grownCap w (n+m) o e-(n+m))) e)) a0:=by
    intro o ho a0;have a6:=grownCap_ge w (n+m) o e;have I:grownCap w (n+m) o e<=maxLen:=grownCap_le_maxLen w (n+m) o e a2;refine⟨⟨F,.inr ⟨w.heap.size,_,_,rfl,bI _,heap_alloc_new w.drew _,a6,I,?_,?_⟩⟩,⟨rfl,rfl,rfl,O8,λk hk _=>heap_alloc_old w.drew _ k hk⟩⟩
    . simp only [Array.size_append,mX,size_zeroCells,a8,l.1,V,<-dO];grind
    grind
  rcases l.2 with⟨rfl,rfl⟩|⟨g,s,G,rfl,a3,hg,a9,I,a5,a7⟩
  . have hx:xs=[]:=aK O5;subst hx;by_cases hm:m=0
    . subst hm;have hn:h=[]:=aK O1;subst hn;refine⟨.slice none 0 0,w,?_,World.ownsRow_nil w 0 e ti.size,⟨rfl,rfl,rfl,aI _,λ_ _ _=>rfl⟩,λb Y=>O5⟩;simp [Builtin.append_,run_underlying ht,sizeOf,typeInfo,hi,Builtin.lenOf,Builtin.firstCells,loadCells,loadCellsFrom]
    . have hr:=run_append_nil (P:=P) w t ty e ti z ht hi hz a m c h V q O1 O1 O5;have x:=y 0 O1 (Value.ownBlock (.slice none 0 0));simp only [bZ,lK,Array.empty_append]at x ⊢;refine⟨_,_,hr,x.1,x.2,λb Y=> .inr ?_⟩;simp [Value.ownBlock]at Y;omega
  . by_cases B:n+m<=s
    . have Z:n*ti.size+h.length<=G.size:=by rw [V,a5,<-dO];simp_all [aQ]
      have hr:=run_append_room (P:=P) w t ty e ti ht hi g n s G hg a m c h V q h1 B Z;refine⟨_,_,hr,⟨F,.inr ⟨g,s,_,rfl,a3,setRow_heap w g G _ e _ hg,B,I,?_,?_⟩⟩,⟨rfl,rfl,rfl,O8,λk _ hk=>setRow_other w g k _ (λe=>hk (by simp [Value.ownBlock,e]))⟩,λb Y=> .inl ‹_›⟩
      all_goals grind
    . have R:∀j u,xs[j]? = some u->w.cell? ((⟨g,0,none⟩:Addr).add j)=some u:=l.cells (g:=g) rfl;have hr:=run_append_grow (P:=P) w t ty e ti z ht hi hz ⟨g,0,none⟩ n s xs l.1 R a m c h V q O1 O1 (growslice_fits O1 D);have x:=y s O1 (Value.ownBlock (.slice (some ⟨g,0,none⟩) n s));refine⟨_,_,hr,x.1,x.2,λb Y=> .inr ?_⟩;simp [Value.ownBlock]at Y;omega
theorem Ii{α:Type}(enc:α->Value)(xs ys:List α):cellsOf enc (xs ++ ys)=cellsOf enc xs ++ cellsOf enc ys:=by simp [cellsOf]
theorem t_app {α:Type} {o:Oper} {x y:Operand} {e:TypeId} {i i2 j l:Nat} {u:Value} {enc:α->Value} {xs ys:List α}  {ti:TypeInfo} {z:Value}  
    (ho:o.op= .call { callee:= .builtin .append,args:=#[x,y],argTypes:=#[t,t] }) (hd:o.dst=some d) (hN:Nat.blt d N=true)
    (hx:ev env x=some v) (hy:ev env y=some u) (hH:lk H i=some (Nk k e enc v xs)) (Z:i≠0) (hj:lk H j=some p) (hr:Rd p k enc u ys) (a9:ys≠[])
    (ht:P.underlying t=some (.slice e)) (hi:P.info? e=some ti) (hz:ti.zero=some z) (n:Enc P e k enc) (a0:ti.size=k) (W:ti.bytes=l) (a4:z.cells.size=k)
    (m:(xs.length+ys.length)*l<=140737488355328) (s:0<l)
    (h0:lk H 0=some (Zy w0 M0)) (hw:∀b,w0.heap.size<=b->sc b) :
    T P N sc (λ_=>True) o env H (G:=Value) (λ_=>True) (λv'=>(d,v')::env) (λv'=>(i,Nk k e enc v' (xs ++ ys))::H):=λa w hs K Q hK=>by
  have I:=hs.hold i _ hH;obtain⟨ad,c,rfl,h1,h2,h3⟩:=hr w (hs.hold j p hj);rcases h3 with rfl|⟨g,S,rfl,h3⟩
  . grind
  have a3:∀q u,(cellsOf enc ys)[q]? = some u->w.cell? ((⟨g,S,none⟩:Addr).add q)=some u:=λq u hq=>by
    have a7:q<ys.length*k:=by rw [<-Xe n.cells ys];grind
    have a5:=n.pos;have Y:q/k<ys.length:=iB O5;have D:=aL Y;have a1:q%k<(enc ys[q/k]).cells.toList.length:=by rw [fE,n.cells];simp_all [bK]
    have hu:=aL a1;have h4:=Gm n.cells ys _ _ D _ _ hu;grind [Nat.mul_comm,Nat.div_add_mod,Nat.add_assoc,Od]
  have F:∀u∈cellsOf enc ys,u.oneCell'=true:=λu hu=>by obtain⟨y,_,hy⟩:=gI.1 hu;exact n.one y u hy
  have a6:=aB (eN _ s) m;obtain⟨v',w',R,a8,h,V⟩:=Zey (P:=P) t o.type e ti z k l ht hi hz a0 W a4 n.pos v xs.length (cellsOf enc xs) I ⟨g,S,none⟩ ys.length c (cellsOf enc ys)
    (Xe n.cells ys) a3 F (by simp only [maxLen];omega) m
  have a2:(execOp a.eval o).run P w= .ok (.value v') w':=by simp only [execOp,ho,resolve,invoke,builtin,Sem.run_bind,Sem.run_pure,Result.andThen_ok,fQ,cP,jG,hs.ev hx,hs.ev hy,R]
  unfold Oper.wp;rw [a2];show K (a.put o.dst _) _;rw [hd];have B:Chg _ w w':=⟨h.os,h.tape,h.output,h.size,λb m hn=>h.block b m (λe=>hn e.symm)⟩;refine hK v' _ _ aA ((hs.upd hH rfl Z B ?_ (λb m=>V b m) h0 hw).put d _ hN) ⟨h.os,h.tape,h.output,h.size,λb m hn=>absurd aA hn⟩;show w'.ownsRow 0 e k v' (xs ++ ys).length (cellsOf enc (xs ++ ys));grind [Ii,List.length_append]
def Cal(P:Program)(f:FuncId)(args:Array Value)(pre:List Pc)(al:Bool){G:Type}(φ:G->Prop)(val:G->Value)(c:G->List Pc):Prop:=
  ∀w,(∀p∈pre,p.holds w)->Calls P f args w λe h=>∃g,e= .returned (val g)/\φ g/\Below w.heap.size w h/\
    ∀p∈c g,p.holds h/\p.own=false/\∀b,p.fp b->w.heap.size<=b\/(al=true/\∃q∈pre,q.fp b)
@[reducible] def adds:Nat->List Pc->Hp->Hp
  | _,[],H=>H
  | n,p::r,H=>(n,p)::adds (n+1) r H
def PreOk(H:Hp)(al:Bool):List Pc->Prop
  | []=>True
  | p::r=>(∃i c,i≠0/\lk H i=some c/\(∀w,c.holds w->p.holds w)/\(∀b,p.fp b->c.fp b)/\(al=true->c.own=false))/\PreOk H al r
theorem PreOk.mem{al:Bool} : ∀{pre:List Pc},PreOk H al pre->∀p∈pre,∃i c,i≠0/\lk H i=some c/\(∀w,c.holds w->p.holds w)/\(∀b,p.fp b->c.fp b)/\(al=true->c.own=false)
  | p::r,h,q,e=>by
    cases e with
    | head=>exact h.1
    | tail _ e=>exact PreOk.mem h.2 q e
def Zo{al:Bool} : PreOk H al []:=aA
def Yc{al:Bool}(i:Nat)(hi:lk H i=some p)(c:Nat.beq i 0=false)(g:p.own=false)(h:PreOk H al r):PreOk H al (p::r):=
  ⟨⟨i,p,λe=>O11,hi,λ_ h=>h,λ_ h=>h,λ_=>g⟩,h⟩
def Yg0{α:Type}{e:TypeId}{enc:α->Value}{xs:List α}(i:Nat)(hi:lk H i=some (Nk k e enc v xs))(j:Nat.beq i 0=false)(g:Enc P t k enc)(h:PreOk H false r):PreOk H false (Yt k enc v xs::r):=
  ⟨⟨i,_,λe=>O11,hi,λw h=>⟨An g.cells h,λb c=>(h.lt b c.2).2⟩,λ_ h=>h.2,λh=>O5⟩,h⟩
theorem Sat.adds{a:Act}{w:World}{w1:World} : ∀(l:List Pc) (n:Nat) {H:Hp},Sat N sc env H a w->(∀p∈l,p.holds w/\p.own=false/\(∀b,p.fp b->sc b)/\
    ∀j c,lk H j=some c->c.own=true->∀b,p.fp b->c.fp b->False)->Sat N sc env (adds n l H) a w
  | [],_,_,h,_=>h
  | p::r,n,H,h,hl=>by
    have e:=Sat.adds (w1:=w1) r (n+1) h (λq s=>hl q (bN _ s));obtain⟨g,x,i,y⟩:=hl p (bX ..);have u:∀(l:List Pc) (m:Nat) (H:Hp) (j:Nat) (c:Pc),(∀q∈l,q.own=false)->lk (Sky.adds m l H) j=some c->c.own=true->lk H j=some c:=by
      intro l
      induction l with
      | nil=>grind
      | cons q l e=>
        grind [Zp,List.mem_cons_self,Zh,List.mem_cons_of_mem]
    refine e.add n p g (λj c _ B Ht b z o=>?_) i;grind
def evs(e:Qm):List Operand->Option (List Value)
  | []=>some []
  | x::r=>match ev e x,evs e r with
    | some v,some vs=>some (v::vs)
    | _,_=>none
def EvL(e:Qm):List Operand->List Value->Prop
  | [],[]=>True
  | x::r,v::vs=>ev e x=some v/\EvL e r vs
  | _,_=>False
theorem EvL.map{a:Act}{w:World}(h:Sat N sc env H a w):∀{xs:List Operand} {vs:List Value},EvL env xs vs->xs.map a.eval=vs
  | [],[],_=>rfl
  | x::r,v::vs,hh=>by simp only [cP,h.ev hh.1,EvL.map h hh.2]
  | [],_::_,hh=>hh.elim
  | _::_,[],hh=>hh.elim
theorem Ov (n:Nat) {o:Oper}       {al:Bool} {G:Type} {φ:G->Prop} {val:G->Value} {R:G->List Pc}  
    (hc:Cal P f vs.toArray pre al φ val R)
    (ho:o.op= .call { callee:= .value (.func f),args:=xs.toArray,argTypes:=ats }) (hd:o.dst=some d) (hN:Nat.blt d N=true)
    (m:EvL env xs vs) (s:∀args w,(callFunc f args).run P w= .ok (.enter f args) w) (c:PreOk H al pre)
    (h0:lk H 0=some (Zy w0 M0)) (hw:∀b,w0.heap.size<=b->sc b) :
    T P N sc M o env H φ (λg=>(d,val g)::env) (λg=>adds n (R g) H):=λa w hs K Q hK=>by
  have hr:(execOp a.eval o).run P w= .ok (.enter f vs.toArray) w:=by have hm:=m.map hs;simp [execOp,ho,resolve,invoke,Act.eval,Deferred.ofValue,hm,s]
  unfold Oper.wp;rw [hr];refine(hc w (λp W=>by obtain⟨i,I,_,hi,B,_,_⟩:=c.mem p W;exact B w (hs.hold i I hi))).mono ?_
  rintro e w' ⟨g,rfl,hg,l,D⟩;rw [hd];have Z:=hs.chg0 (Chg.of_below l);refine hK g _ _ hg (Sat.put (Z.adds (w1:=w) _ n ?_) d _ hN) (Chg.of_below l);intro p W;obtain⟨h1,h2,h3⟩:=D p W;refine⟨h1,h2,λb S=>?_,λj jt hj F b S y=>?_⟩
  . rcases h3 b S with h|⟨_,q,Y,x⟩
    . exact hw b (aB (hs.hold 0 _ h0).size h)
    . obtain⟨i,I,z,hi,_,u,_⟩:=c.mem q Y;exact hs.scope i I z hi b (u b x)
  . rcases h3 b S with h|⟨a0,q,Y,x⟩
    . have:=jt.lt w b (hs.hold j jt hj) y;omega
    . obtain⟨i,I,z,hi,_,u,a1⟩:=c.mem q Y;by_cases V:j=i
      . grind
      . exact hs.sep j i jt I V hj hi F b y (u b x)
def RV(P:Program)(N:Nat)(sc:Nat->Prop)(env:Qm)(H:Hp)(r:ResultVar)(v:Value):Prop:=
  match r with
  | .tmp t=>lk env t=some v
  | .cell c t=>∃e,lk env c=some (.pointer (some e))/\∀a w,Sat N sc env H a w->(loadVar t e).run P w= .ok v w
theorem Fq (i:Nat) {c:Tmp}    (h:lk env c=some (.pointer (some ⟨b,0,none⟩))) (g:lk H i=some (box b tb vs.toArray)) (m:∀w,(isAgg t).run P w= .ok true w) (j:∀w,(sizeOf t).run P w= .ok k w)
    (l:vs.length=k):RV P N sc env H (.cell c t) (.agg vs.toArray):=⟨_,h,λa w hs=>by
  have e:=run_loadCells_list (P:=P) w ⟨b,0,none⟩ vs (λn u o=>by rw [Od,hs.boxc g];grind);rw [l]at e;simp [loadVar,m,j,e]⟩
theorem Kw (i:Nat){c:Tmp}(g:lk env c=some (.pointer (some ⟨b,0,none⟩)))(e:lk H i=some (box b tb #[v]))(j:∀w,(isAgg t).run P w= .ok false w) :
    RV P N sc env H (.cell c t) v:=⟨_,g,λa w hs=>by
  have h:=hs.boxc e 0;simp [loadVar,j,load,Sem.run,h]⟩
theorem Fw{r1:ResultVar}(hs:Sat N sc env H a w)(g:fn.results=#[r1])(e:RV P N sc env H r1 v1):(results fn a.tmps).run P w= .ok v1 w:=by
  cases r1 with
  | tmp t=>have:=hs.env t v1 e;rw [bH]at this;simp [results,g,this]
  | cell c t=>obtain⟨j,h,i⟩:=e;have:=hs.env c _ h;rw [bH]at this;simp [results,g,this,asAddr,i a w hs]
theorem Zw2{r1 r2:ResultVar}(hs:Sat N sc env H a w)(l:fn.results=#[r1,r2])(h:RV P N sc env H r1 v1)(e:RV P N sc env H r2 v2) :
    (results fn a.tmps).run P w= .ok (.tuple #[v1,v2]) w:=by
  cases r1 with
  | tmp t=>
    have h:=hs.env t v1 h;rw [bH]at h;cases r2 with
    | tmp j=>have e:=hs.env j v2 e;rw [bH]at e;simp [results,l,h,e]
    | cell m j=>obtain⟨q,g,n⟩:=e;have g:=hs.env m _ g;rw [bH]at g;simp [results,l,h,g,asAddr,n a w hs]
  | cell c t=>
    obtain⟨s,i,o⟩:=h;have i:=hs.env c _ i;rw [bH]at i;cases r2 with
    | tmp j=>have e:=hs.env j v2 e;rw [bH]at e;simp [results,l,i,asAddr,o a w hs,e]
    | cell m j=>obtain⟨q,g,n⟩:=e;have g:=hs.env m _ g;rw [bH]at g;simp [results,l,i,asAddr,o a w hs,g,n a w hs]
def Yn3(tmps:Array Value):ResultVar->Sem Value
  | .tmp t=>pure (tmps.getD t undef)
  | .cell c t=>do loadVar t (<-asAddr (tmps.getD c undef))
theorem Zwz{r:ResultVar}(hs:Sat N sc env H a w)(h:RV P N sc env H r v):(Yn3 a.tmps r).run P w= .ok v w:=by
  cases r with
  | tmp t=>have:=hs.env t v h;simp only [Yn3,this];rfl
  | cell c t=>obtain⟨i,e,g⟩:=h;have:=hs.env c _ e;simp only [Yn3,this,asAddr,Sem.run_bind,Sem.run_pure,Result.andThen_ok,g a w hs]
def Zlb(fn:Func)(tmps:Array Value):results fn tmps=(do let vs ←fn.results.mapM (Yn3 tmps);pure (if h:vs.size=1 then vs[0]else .tuple vs)):=rfl
theorem res3{r1 r2 r3:ResultVar}{c:Value}(hs:Sat N sc env H a w)(i:fn.results=#[r1,r2,r3])(e:RV P N sc env H r1 v1)(g:RV P N sc env H r2 v2)(h:RV P N sc env H r3 c) :
    (results fn a.tmps).run P w= .ok (.tuple #[v1,v2,c]) w:=by
  rw [Zlb,i];simp [Zwz hs e,Zwz hs g,Zwz hs h]
def Za1(P:Program)(fn:Func)(w0:World)(pre:List Pc)(al:Bool){G:Type}(φ:G->Prop)(val:G->Value)(c:G->List Pc):Exit->Act->World->Prop:=
  bodyPost P fn λe h => ∃ g, e = .returned (val g) /\ φ g /\ Below w0.heap.size w0 h /\
        ∀p∈c g,p.holds h/\p.own=false/\∀b,p.fp b->w0.heap.size<=b\/(al=true/\∃q∈pre,q.fp b)
theorem Yeh   {c:Code}   {al:Bool} {G:Type} {φ:G->Prop} {val:G->Value} {n:G->List Pc} {N:Nat} {e:Qm} 
    (x:P.funcs[f]? = some fn) (m:fn.body=some c) (S:fn.ntmps=N) (l:∀t v,lk e t=some v->args[t]? = some v) (z:args.size<=N)
    (g:∀w,∀i p,lk (preH w) i=some p->(i=0/\p=Zy w (λ_=>False))\/(i≠0/\p∈pre/\p.own=false))
    (h:∀w0 (sc:Nat->Prop),(∀b,w0.heap.size<=b->sc b)->(∀b,sc b->w0.heap.size<=b\/∃q∈pre,q.fp b)->
      E P N sc c (Za1 P fn w0 pre al φ val n) e (preH w0)) :
    Cal P f args pre al φ val n:=λw W=>by
  refine calls_of_wp x m (h w _ (λb m=> .inl m) (λb m=>m) _ w ?_);refine⟨O5,rfl,λt v R=>?_,λi p hi=>?_,λi j p q F hi V I b m u=>?_,λi p y hi b m=>?_⟩
  . have s:=l t v R;have B:=(aM.1 s).1;simp_all [bH,dY]
  . rcases g w i p hi with⟨_,rfl⟩|⟨_,D,_⟩
    . exact Chg.refl _ w
    grind
  . rcases g w i p hi with⟨_,rfl⟩|⟨_,D,o⟩
    . cases I
    grind
  grind
def Hk(h:(Zy w0 (λ_=>False)).holds w):Below w0.heap.size w0 w:=
  ⟨h.os,h.tape,h.output,h.size,λk c=>h.block k c (λh=>h)⟩
def Give(H:Hp)(al:Bool):List Pc->Prop
  | []=>True
  | p::r=>(p.own=false/\((∃i c,i≠0/\lk H i=some c/\(∀w,c.holds w->p.holds w)/\(∀b,p.fp b->c.fp b)/\(al=false->c.own=true))\/((∀w,p.holds w)/\∀b,¬p.fp b)))/\Give H al r
theorem Give.mem{al:Bool} : ∀{l:List Pc},Give H al l->∀p∈l,p.own=false/\((∃i c,i≠0/\lk H i=some c/\(∀w,c.holds w->p.holds w)/\(∀b,p.fp b->c.fp b)/\(al=false->c.own=true))\/((∀w,p.holds w)/\∀b,¬p.fp b))
  | p::r,h,q,e=>by
    cases e with
    | head=>exact h.1
    | tail _ e=>exact Give.mem h.2 q e
def Za{al:Bool} : Give H al []:=aA
theorem Gx(i:Nat)(hi:lk H i=some p)(c:Nat.beq i 0=false)(g:p.own=false)(h:Give H true r):Give H true (p::r):=
  ⟨⟨g,.inl ⟨i,p,λe=>O11,hi,λ_ h=>h,λ_ h=>h,λh=>O5⟩⟩,h⟩
theorem Yi8{al:Bool}{α:Type}{e:TypeId}{enc:α->Value}{xs:List α}(i:Nat)(hi:lk H i=some (Nk k e enc v xs))(j:Nat.beq i 0=false)(g:Enc P t k enc)(h:Give H al r) :
    Give H al (Yt k enc v xs::r):=
  ⟨⟨rfl,.inl ⟨i,_,λe=>O11,hi,λw h=>⟨An g.cells h,λb c=>(h.lt b c.2).2⟩,λ_ h=>h.2,λ_=>rfl⟩⟩,h⟩
def Cd{α:Type}(k:Nat)(enc:α->Value)(w:World):(Yt k enc (.slice none 0 0) ([]:List α)).holds w:=⟨⟨none,0,rfl,aI _,O8,.inl rfl⟩,λb c=>O5⟩
theorem Lm{al:Bool}{α:Type}{enc:α->Value}{xs:List α}(e:xs=[])(h:Give H al r):Give H al (Yt k enc (.slice none 0 0) xs::r):=by subst e;exact⟨⟨rfl,.inr ⟨λw=>Cd k enc w,λb c=>by simp [Yt,Value.ownBlock]at c⟩⟩,h⟩
theorem Em   {al:Bool} {G:Type} {φ:G->Prop} {val:G->Value} {j:G->List Pc}  {e:Exit} (I:e= .ret\/e= .normal) (z:∀b,sc b->w0.heap.size<=b\/∃q∈pre,q.fp b)
    (g:G)  (s:∀a w,Sat N sc env H a w->(results fn a.tmps).run P w= .ok v w) (hv:val g=v) (R:φ g) (D:lk H 0=some (Zy w0 (λ_=>False))) (c:Give H al (j g)) :
    X N sc e (Za1 P fn w0 pre al φ val j) env H:=λa w hs=>by
  have Z : a.defers = [] /\ ∃ v, (results fn a.tmps).run P w = .ok v w /\ (∃ g, Ending.returned v = .returned (val g) /\ φ g /\ Below w0.heap.size w0 w /\
        ∀p∈j g,p.holds w/\p.own=false/\∀b,p.fp b->w0.heap.size<=b\/(al=true/\∃q∈pre,q.fp b)):=by
    refine⟨hs.defers,v,s a w hs,g,O5,R,Hk (hs.hold 0 _ D),λp Y=>?_⟩;obtain⟨W,h|⟨h1,h2⟩⟩:=c.mem p Y
    case inr=>grind
    obtain⟨i,B,m,hi,n,x,u⟩:=h;refine⟨n w (hs.hold i B hi),W,λb F=>?_⟩;have l:=x b F;cases al with
    | true=>
      rcases z b (hs.scope i B m hi b l)with h|h
      all_goals grind
    | false=>
      have o:=u rfl;have V:=hs.sep i 0 B _ m hi D o b l;rcases bA b _ with y|S
      . exact absurd ⟨y,λh=>h⟩ V
      omega
  rcases I with rfl|rfl
  all_goals assumption
end Go.Sky
namespace Go.Sky
open Go.RowKit Below
variable{op:Op}{b b':Bool}{cs:Array Value}{c:Code}{ch:Hp}{p:Pc}{k:Nat}{n':Int}{k' kd:IntKind}{ats:Array TypeId}{w:World}
variable {P:Program} {N:Nat} {sc:Nat->Prop} {env env':Qm} {H H':Hp} {Q Q':Exit->Act->World->Prop} {M:Nat->Prop}
section
variable {ops:Array Oper} {rest:List Oper} {d:Nat} {ty:TypeId} {pos:String} {af:Array Edge} {v:Value} {x:Operand}
theorem dt(e:Ld P N sc ⟨some d,op,ty,pos,af,none⟩ env H v)(h:L P N sc ops rest Q ((d,v)::env) H)(a:Nat.blt d N=true:=by rfl) :
  L P N sc ops (⟨some d,op,ty,pos,af,none⟩::rest) Q env H:=l_det rfl rfl a e h
theorem tt {o:Oper} {G:Type} {φ:G->Prop} {a:G->Qm} {e:G->Hp} (i:T P N sc (λ_=>True) o env H φ a e) 
  (h:∀g,φ g->L P N sc ops rest Q (a g) (e g)) (f:o.guard=none:=by rfl):L P N sc ops (o::rest) Q env H:=l_step f i h
theorem Hz  {j e:Nat}  (l:Ld P N sc ⟨some d,op,ty,pos,af,some (j,b)⟩ env H v) (i:(ops[j]?).bind (·.dst)=some e) (g:lk env e=some (.bool b))  
  (h:L P N sc ops rest Q ((d,v)::env) H) (a:Nat.blt e N=true:=by rfl) (f:Nat.blt d N=true:=by rfl):L P N sc ops (⟨some d,op,ty,pos,af,some (j,b)⟩::rest) Q env H:=l_gdet rfl i g a rfl f l h
def gsk  {j e:Nat}  (l:(ops[j]?).bind (·.dst)=some e) (i:lk env e=some (.bool b')) (a:(b' == b)=false) (f:Nat.blt e N=true) (g:Nat.blt d N=true)
  (h:L P N sc ops rest Q ((d,undef)::env) H):L P N sc ops (⟨some d,op,ty,pos,af,some (j,b)⟩::rest) Q env H:=Yo5 rfl l i f a rfl g h
def gtt {o:Oper} {G:Type} {φ:G->Prop} {a:G->Qm} {i:G->Hp} {j e:Nat}  (q:T P N sc (λ_=>True) o env H φ a i) (m:o.guard=some (j,b)) (n:(ops[j]?).bind (·.dst)=some e) (l:lk env e=some (.bool b)) (f:Nat.blt e N=true)
  (h:∀g,φ g->L P N sc ops rest Q (a g) (i g)):L P N sc ops (o::rest) Q env H:=Yo4 m n l f q h
end
section
variable {ops:Array Oper} {F:Qm->Hp->Prop} {rest:List (Nat×Nat)} {i:Nat} {o:Oper}
def Stb(P:Program)(N:Nat)(sc:Nat->Prop)(M:Nat->Prop)(o:Oper)(env:Qm)(H:Hp)(v:Value):Prop:=
 ∀a w,Sat N sc env H a w->∀e,Chg M w e->(execOp a.eval o).run P e= .ok (.value v) e
def Pj{v:Value}(f:Ld P N sc o env H v):Stb P N sc (λ_=>False) o env H v:=λa w hs g e=>f a g (hs.chg0 e)
theorem st1{v:Value}(k:Nat){b:Nat}{t:TypeId}(y:lk H k=some (box b t cs))(D:Ld P N sc o env (drp k H) v):Stb P N sc (λx=>x=b) o env H v:=λa w hs n l=>by
 refine D a n ?_;have f:Sat N sc env (drp k H) a w:=⟨hs.size,hs.defers,hs.env,λi g hi=>hs.hold i g (Gk _ _ _ _ hi).2,
  λi j g G h hi u=>hs.sep i j g G h (Gk _ _ _ _ hi).2 (Gk _ _ _ _ u).2,λi g r hi=>hs.scope i g r (Gk _ _ _ _ hi).2⟩
 refine⟨f.size,f.defers,f.env,λi g hi=>?_,f.sep,f.scope⟩;obtain⟨h,m⟩:=Gk _ _ _ _ hi;refine g.stable w n (f.hold i g hi) ⟨l.os,l.tape,l.output,l.size,λq B z=>l.block q B (λe=>z (λs=>?_))⟩;subst e;exact hs.sep k i _ g (jF h) y m rfl q rfl s
theorem r0{d:Nat}{v:Value}(hs:Stb P N sc M o env H v)(l:ops[i]? = some o)(j:o.guard=none)(g:o.dst=some d)(f:Nat.blt d N=true)(h:LD P N sc M ops F rest ((d,v)::env) H) :
  LD P N sc M ops F ((i,0)::rest) env H:=⟨o,d,v,l,g,f,λa w e=>⟨by simp [Region.wanted,j],hs a w e⟩,h⟩
theorem r0g {d j e:Nat}  {v:Value} (hs:Stb P N sc M o env H v) (s:ops[i]? = some o) (q:o.guard=some (j,b)) (r:(ops[j]?).bind (·.dst)=some e) (n:lk env e=some (.bool b)) (m:o.dst=some d) 
  (h:LD P N sc M ops F rest ((d,v)::env) H) (g:Nat.blt e N=true:=by rfl) (l:Nat.blt d N=true:=by rfl) :
  LD P N sc M ops F ((i,0)::rest) env H:=⟨o,d,v,s,m,l,λa w f=>⟨by simp [Region.wanted,q,f.yielded r n g],hs a w f⟩,h⟩
theorem r1{G:Type}{φ:G->Prop}{e:G->Qm}{f:G->Hp}(m:T P N sc M o env H φ e f)(l:ops[i]? = some o)(j:o.guard=none)(h:∀g,φ g->LD P N sc M ops F rest (e g) (f g)) :
  LD P N sc M ops F ((i,1)::rest) env H:=⟨o,G,φ,e,f,l,λa w _=>by simp [Region.wanted,j],m,h⟩
theorem r1g {G:Type} {φ:G->Prop} {f:G->Qm} {m:G->Hp} {j e:Nat}  (u:T P N sc M o env H φ f m) (t:ops[i]? = some o) (r:o.guard=some (j,b)) (s:(ops[j]?).bind (·.dst)=some e) (q:lk env e=some (.bool b)) (n:Nat.blt e N=true)
  (h:∀g,φ g->LD P N sc M ops F rest (f g) (m g)) :
  LD P N sc M ops F ((i,1)::rest) env H:=⟨o,G,φ,f,m,t,λa w l=>by simp [Region.wanted,r,l.yielded s q n],u,h⟩
theorem r3{G:Type}{φ:G->Prop}{e:G->Qm}{f:G->Hp}(m:T P N sc (λ_=>True) o env H φ e f)(l:ops[i]? = some o)(j:o.guard=none)(h:∀g,φ g->LD P N sc M ops F rest (e g) (f g)) :
  LD P N sc M ops F ((i,3)::rest) env H:=⟨o,G,φ,e,f,l,λa w _=>by simp [Region.wanted,j],m,h⟩
theorem r2 {d j e:Nat}  (t:ops[i]? = some o) (r:o.guard=some (j,b)) (s:(ops[j]?).bind (·.dst)=some e) (q:lk env e=some (.bool b')) (m:(b' == b)=false) (g:Nat.blt e N=true) (n:o.dst=some d) (l:Nat.blt d N=true)
  (h:LD P N sc M ops F rest ((d,undef)::env) H) :
  LD P N sc M ops F ((i,2)::rest) env H:=⟨o,d,t,n,l,λa w f=>by simp [Region.wanted,r,f.yielded s q g];grind,h⟩
def r_fin(h:F env H):LD P N sc M ops F [] env H:=h
theorem Zag{o:Oper}{d:Nat}{v:Value}(h:Ld P N sc o env H v)(g:o.dst=some d)(f:Nat.blt d N=true:=by rfl):T P N sc M o env H (G:=Unit) (λ_=>True) (λ_=>(d,v)::env) (λ_=>H):=λa w hs K Q e=>by unfold Oper.wp;rw [h a w hs];show K _ w;rw [g];exact e () _ _ aA (hs.put d v f) (Chg.refl _ _)
end
def Ymb{G:Type}(N:Nat)(sc:Nat->Prop)(cs:Qm)(ch:Hp)(j:G->Qm)(h:G->Hp)(f:G->Prop)(μ:G->Nat)(g:G):Act->World->Prop:=
 λa w=>∃e,f e/\μ e<μ g/\Sat N sc (j e ++ cs) (h e ++ ch) a w
def e_lp  {G:Type} (cs:Qm) (ch:Hp) (j:G->Qm) (h:G->Hp) (a:G->Prop) (μ:G->Nat) {f:G} (m:a f) (hs:Sub (j f ++ cs) env) (l:HSub (h f ++ ch) H)
  (e:∀g,a g->E P N sc c (Exit.then (Ymb N sc cs ch j h a μ g) Q) (j g ++ cs) (h g ++ ch)) :
  E P N sc (.loop c) Q env H:=e_loop a μ m hs l e
def x_rnd{G:Type}{cs:Qm}{l:G->Qm}{j:G->Hp}{h:G->Prop}{μ:G->Nat}{g:G}(e:G)(m:h e)(n:μ e<μ g)(hs:Sub (l e ++ cs) env)(q:HSub (j e ++ ch) H) :
  X N sc .normal (Exit.then (Ymb N sc cs ch l j h μ g) Q) env H:=λa w f=>⟨e,m,n,f.weaken hs q⟩
def JnK{G:Type}(N:Nat)(sc:Nat->Prop)(cs:Qm)(ch:Hp)(h:G->Qm)(f:G->Hp)(e:G->Prop):Act->World->Prop:=
 λa w=>∃g,e g/\Sat N sc (h g ++ cs) (f g ++ ch) a w
theorem e_jn {x y:Code} {G:Type} (cs:Qm) (ch:Hp) (m:G->Qm) (l:G->Hp) (h:G->Prop) (q:Sub cs env) (n:HSub ch H)
  (s:E P N sc x (Exit.then (JnK N sc cs ch m l h) Q) env H)
  (t:∀g,h g->E P N sc y Q (m g ++ cs) (l g ++ ch)):E P N sc (.seq x y) Q env H:=λa w hs=>by
 refine wp_seq (Code.wp_mono (λe a w j=>?_) (s a w hs));cases e with
 | normal=>obtain⟨g,r,f⟩:=j;exact t g r a w f
 | _=>exact j
def x_jn{G:Type}{cs:Qm}{j:G->Qm}{h:G->Hp}{f:G->Prop}(g:G)(l:f g)(hs:Sub (j g ++ cs) env)(m:HSub (h g ++ ch) H) :
  X N sc .normal (Exit.then (JnK N sc cs ch j h f) Q) env H:=λa w e=>⟨g,l,e.weaken hs m⟩
def Zq(hi:∀a w,Sat N sc env H a w->Sat N sc env' H' a w)(h:E P N sc c Q env' H'):E P N sc c Q env H:=λa w hs=>h a w (hi a w hs)
def Xh{e:Exit}(hi:∀a w,Sat N sc env H a w->Sat N sc env' H' a w)(h:X N sc e Q env' H'):X N sc e Q env H:=λa w hs=>h a w (hi a w hs)
def Ng{ops:Array Oper}{rest:List Oper}(hi:∀a w,Sat N sc env H a w->Sat N sc env' H' a w)(h:L P N sc ops rest Q env' H'):L P N sc ops rest Q env H:=λa w hs=>h a w (hi a w hs)
def Mm{p:Prop}(e:∀a w,Sat N sc env H a w->p)(h:p->E P N sc c Q env H):E P N sc c Q env H:=λa w hs=>h (e a w hs) a w hs
def Yer{e:Exit}{p:Prop}(f:∀a w,Sat N sc env H a w->p)(h:p->X N sc e Q env H):X N sc e Q env H:=λa w hs=>h (f a w hs) a w hs
theorem Zpl(i:Nat){q:Pc}(hi:lk H i=some p)(G:q.own=p.own)(t:∀w,p.holds w->q.holds w)(n:∀b,q.fp b->p.fp b)(R:Nat.beq i 0=false):∀a w,Sat N sc env H a w->Sat N sc env ((i,q)::H) a w:=λa w hs=>by
  have I:i≠0:=λe=>O11;refine⟨hs.size,hs.defers,hs.env,λj s f=>?_,λj B s y h f g D b r m=>?_,λj s z f b r=>?_⟩
  .by_cases l:i=j
   .subst l;rw [Zp]at f;cases f;exact t w (hs.hold i p hi)
   .rw [Zh _ _ l]at f;exact hs.hold j s f
  .by_cases l:i=j
   .subst l;rw [Zp]at f;cases f;rw [Zh _ _ h]at g;exact hs.sep i B p y h hi g O5 b (n b r) m
   .rw [Zh _ _ l]at f;by_cases u:i=B
    .subst u;rw [Zp]at g;cases g;exact hs.sep j i s p h f hi D b r (n b m)
    .rw [Zh _ _ u]at g;exact hs.sep j B s y h f g D b r m
  .by_cases l:i=j
   .subst l;rw [Zp]at f;cases f;exact hs.scope i p I hi b (n b r)
   .rw [Zh _ _ l]at f;exact hs.scope j s z f b r
theorem Ns{α:Type}{t:TypeId}{e:TypeId}{enc:α->Value}{v:Value}{xs:List α}(i:Nat)(hi:lk H i=some (Nk k e enc v xs))(I:Nat.beq i 0=false)(G:Enc P t k enc):∀a w,Sat N sc env H a w->Sat N sc env ((i,Yt k enc v xs)::H) a w:=λa w hs=>by
  have D:i≠0:=λe=>O11;refine⟨hs.size,hs.defers,hs.env,λj m f=>?_,λj B m y r f g u b l n=>?_,λj m s f b l=>?_⟩
  .by_cases h:i=j
   .subst h;rw [Zp]at f;cases f;have z:=hs.hold i _ hi;exact⟨An G.cells z,λb l=>(z.lt b l.2).2⟩
   .rw [Zh _ _ h]at f;exact hs.hold j m f
  .by_cases h:i=j
   .subst h;rw [Zp]at f;cases f;cases u
   .rw [Zh _ _ h]at f;by_cases q:i=B
    .subst q;rw [Zp]at g;cases g;exact hs.sep j i m _ r f hi u b l n.2
    .rw [Zh _ _ q]at g;exact hs.sep j B m y r f g u b l n
  .by_cases h:i=j
   .subst h;rw [Zp]at f;cases f;exact hs.scope i _ D hi b l.2
   .rw [Zh _ _ h]at f;exact hs.scope j m s f b l
abbrev U:Nat:=18446744073709551616
theorem Ymo(n:Nat):IntKind.u64.wrap (n:Int)=((n%U:Nat):Int):=by rfl
theorem Zdy{n:Nat}(h:n<U):IntKind.u64.wrap (n:Int)=(n:Int):=by rw [Ymo,bE h]
section
variable {o:Oper} {t t':TypeId} {x y:Operand} {m n:Nat}
theorem Aj(a:o.op= .binOp .add t x y t')(e:ev env x=some (.int .u64 (m:Int)))(f:ev env y=some (.int .u64 (n:Int))):Ld P N sc o env H (.int .u64 (((m+n)%U:Nat):Int)):=Du a e f λw=>by rfl
theorem Bh(a:o.op= .binOp .mul t x y t')(e:ev env x=some (.int .u64 (m:Int)))(f:ev env y=some (.int .u64 (n:Int))):Ld P N sc o env H (.int .u64 (((m*n)%U:Nat):Int)):=Du a e f λw=>by rfl
theorem Zeu(a:o.op= .binOp .sub t x y t')(e:ev env x=some (.int .u64 (m:Int)))(f:ev env y=some (.int .u64 (n:Int)))(g:n<U:=by decide):Ld P N sc o env H (.int .u64 (((m+(U-n))%U:Nat):Int)):=Du a e f λw=>by have:((m)-(n:Int))%18446744073709551616=(((m+(U-n))%U:Nat)):=O5;rw [<-this];rfl
theorem Ye5(j:o.op= .binOp .quo t x y t')(l:ev env x=some (.int .u64 (m:Int)))(q:ev env y=some (.int .u64 (n:Int)))(h:m<U:=by omega)(r:0<n:=by omega):Ld P N sc o env H (.int .u64 ((m/n:Nat):Int)):=Du j l q λw=>by
 have a:=aY (fF m n) h;have e:(m:Int).tdiv (n)=((m/n:Nat)):=by rfl
 have f:=Zdy a;have g:¬((n:Int)=0):=O1;simp only [binOp,ne_eq,gV,mW,Op.intDiv,g,e,f,Sem.run_pure]
theorem u_rem(e:o.op= .binOp .rem t x y t')(f:ev env x=some (.int .u64 (m:Int)))(g:ev env y=some (.int .u64 (n:Int)))(h:0<n):Ld P N sc o env H (.int .u64 ((m%n:Nat):Int)):=Du e f g λw=>by
 have a:(m:Int).tmod (n)=((m%n)):=by rfl
 simp [binOp,Op.intDiv,show ¬n=0 by omega,a]
theorem Ymz(h:o.op= .binOp .or t x y t')(j:ev env x=some (.int .u64 (m:Int)))(l:ev env y=some (.int .u64 (n:Int)))(f:m<U)(g:n<U):Ld P N sc o env H (.int .u64 ((m ||| n:Nat):Int)):=Du h j l λw=>by
 have a:=jH (n:=64) f g;have e:(BitVec.ofInt 64 m ||| BitVec.ofInt 64 n).toNat=m ||| n:=by grind
 simp only [binOp,ne_eq,gV,mW,Op.intBits,Sem.run_pure];rw [show(BitVec.ofInt IntKind.u64.bits _ ||| BitVec.ofInt IntKind.u64.bits _).toNat=m ||| n from e,Zdy a]
theorem Zsu(g:o.op= .binOp .and t x y t')(h:ev env x=some (.int .u64 (m:Int)))(j:ev env y=some (.int .u64 (n:Int)))(f:m<U:=by omega)(l:n<U:=by decide):Ld P N sc o env H (.int .u64 ((m &&& n:Nat):Int)):=Du g h j λw=>by
 have a:m &&& n<U:=aY Nat.and_le_left f;have e:(BitVec.ofInt 64 m &&& BitVec.ofInt 64 n).toNat=m &&& n:=by grind
 simp only [binOp,ne_eq,gV,mW,Op.intBits,Sem.run_pure];rw [show(BitVec.ofInt IntKind.u64.bits _ &&& BitVec.ofInt IntKind.u64.bits _).toNat=m &&& n from e,Zdy a]
theorem Zno{k:IntKind}(j:o.op= .binOp .shl t x y t')(l:ev env x=some (.int .u64 (m:Int)))(q:ev env y=some (.int k n'))(e:n'=(n:Int))(r:n<=64:=by omega):Ld P N sc o env H (.int .u64 (((m*2^n)%U:Nat):Int)):=λa w hs=>by
 subst e;have f:min n 64=n:=O1;have g:IntKind.u64.wrap ((m)*2^n)=(((m*2^n)%U)):=by rfl
 have h:¬((n:Int)<0):=O8;simp [execOp,j,hs.ev l,hs.ev q,eqGuard,binOp,Op.shift,IntKind.bits,f,g,h]
theorem Znn{k:IntKind}(j:o.op= .binOp .shr t x y t')(l:ev env x=some (.int .u64 (m:Int)))(q:ev env y=some (.int k n'))(e:n'=(n:Int))(r:n<=64:=by omega):Ld P N sc o env H (.int .u64 ((m/2^n:Nat):Int)):=λa w hs=>by subst e;have f:min n 64=n:=O1;have g:(m:Int).fdiv (2^n)=((m/2^n)):=O5;have h:¬((n:Int)<0):=O8;simp [execOp,j,hs.ev l,hs.ev q,eqGuard,binOp,Op.shift,IntKind.bits,f,g,h]
theorem Fu (n':Nat){k:IntKind}(a:o.op= .binOp .shr t x y t')(f:ev env x=some (.int .u64 (m:Int)))(g:ev env y=some (.int k (n:Int)))(h:Nat.ble n 64=true)(e:2^n=n'):Ld P N sc o env H (.int .u64 ((m/n':Nat):Int)):=by rw [<-e];exact Znn a f g rfl O11
theorem Zhq{k:IntKind}{r:Int}{m:Int}(f:o.op= .convert t t' x)(j:ev env x=some (.int k m)){ds:TypeDesc}(e:P.underlying t=some ds)(h:P.underlying t'=some (.int k'))(g:k'.wrap m=r):Ld P N sc o env H (.int k' r):=λa w hs=>by subst g;cases ds<;>simp [execOp,f,hs.ev j,convert,run_underlying e,run_underlying h,Conv.intToInt]
end
theorem Zbk {o:Oper} {x y:Operand}  {k:IntKind} {m n:Int} (e:o.op= .call { callee:= .builtin .max,args:=#[x,y],argTypes:=ats })
  (f:ev env x=some (.int k m)) (g:ev env y=some (.int k n)):Ld P N sc o env H (.int k (max m n)):=λa w hs=>by
 simp [execOp,e,resolve,hs.ev f,hs.ev g,invoke,builtin,Builtin.max_,Builtin.max2];omega
def Gv(v:Value)(n:Nat):Value:=match v with
 | .slice a _ c=> .slice a n c
 | u=>u
theorem Fh(v:Value)(n:Nat):(Gv v n).ownBlock=v.ownBlock:=by
 cases v with
 | slice a l c=>cases a<;>rfl
 | _=>rfl
theorem d_pre (ii:Nat) {α:Type} {o:Oper} {x y:Operand} {t e:TypeId} {v:Value} {i:Nat}  {m:Int}  {enc:α->Value} {xs:List α} (l:o.op= .slice t x none (some y) none)
  (s:ev env x=some v) (u:ev env y=some (.int kd m)) (G:lk H ii=some p) (I:Rd p k enc v xs) (r:P.underlying t=some (.slice e)) (g:∀w,(sizeOf e).run P w= .ok k w)
   (h:m=(i:Int):=by omega) (j:i<=xs.length:=by omega):Ld P N sc o env H (Gv v i):=λa w hs=>by
 obtain⟨z,c,rfl,D,R,S⟩:=I w (hs.hold ii p G);subst h;have f:=aB j D;have B:∀q:Addr,q.add 0=q:=λq=>by rfl
 cases z with
 | none=>simp [execOp,l,hs.ev s,hs.ev u,Instr.sliceAt,Instr.slice,Instr.sliceBounds,Instr.sliceBound,asIntOf,run_underlying r,g,f,Gv]
 | some q=>simp [execOp,l,hs.ev s,hs.ev u,Instr.sliceAt,Instr.slice,Instr.sliceBounds,Instr.sliceBound,asIntOf,run_underlying r,g,f,Gv,B]
theorem Zh2{α:Type}{enc:α->Value}{v:Value}{xs:List α}(n:Nat)(l:n<=xs.length)(h:RowAt w k enc v xs):RowAt w k enc (Gv v n) (xs.take n):=by obtain⟨a,c,rfl,g,e,j⟩:=h;have f:(xs.take n).length=n:=O5;refine⟨a,c,by rw [f];rfl,O1,e,?_⟩;grind
theorem Zxr{α:Type}{v:Value}{xs:List α}{n b:Nat}(h:xs.take n≠[]/\(Gv v n).ownBlock=some b):xs≠[]/\v.ownBlock=some b:=
 ⟨λe=>h.1 O5,by grind [Fh]⟩
theorem s_pre{α:Type}{enc:α->Value}{v:Value}{xs:List α}(i j n:Nat)(hi:lk H i=some (Yt k enc v xs))(s:Nat.beq i 0=false)(u:n<=xs.length:=by omega):∀a w,Sat N sc env H a w->Sat N sc env ((j,Yt k enc (Gv v n) (xs.take n))::H) a w:=
 λa w hs=>hs.add j _ ⟨Zh2 n u (hs.hold i _ hi).1,λb f=>(hs.hold i _ hi).2 b (Zxr f)⟩
  (λq B z l Ht b f h=>by
   rcases Ht with Ht|Ht
   .cases Ht
   .have r:=Zxr f;by_cases g:q=i
    .subst g;rw [hi]at l;cases l;cases Ht
    .exact hs.sep q i B _ g l hi Ht b h r)
  (λb f=>hs.scope i _ (λe=>O11) hi b (Zxr f))
theorem Yob{α:Type}{e:TypeId}{enc:α->Value}(D:∀x,(enc x).cells.size=k){v:Value}{xs:List α}(n:Nat)(s:n<=xs.length)(h:w.ownsRow 0 e k v xs.length (cellsOf enc xs)) :
  w.ownsRow 0 e k (Gv v n) (xs.take n).length (cellsOf enc (xs.take n)):=by
 have G:(xs.take n).length=n:=O5;refine⟨by rw [Xe D],?_⟩;rw [G];rcases h.2 with⟨rfl,S⟩|⟨g,f,j,rfl,z,B,I,l,q,a⟩
 .have:n=0:=O1;subst this;exact .inl ⟨rfl,rfl⟩
 .refine .inr ⟨g,f,j,rfl,z,B,O1,l,q,?_⟩;have u:∀(xs:List α) (n:Nat),n<=xs.length->cellsOf enc (xs.take n)=(cellsOf enc xs).take (n*k):=by
   intro xs
   induction xs with
   | nil=>simp [cellsOf]
   | cons x r R=>
    intro n h;cases n with
    | zero=>simp [cellsOf]
    | succ n=>
     have:=R n O5;simp only [cellsOf,jY,fY]at this ⊢;grind [Nat.add_mul,List.take_length_add_append]
  rw [u xs n s,<-a,kE,eQ (aQ k s)]
theorem s_opre{α:Type}{t:TypeId}{e:TypeId}{enc:α->Value}{v:Value}{xs:List α}(i n:Nat)(hi:lk H i=some (Nk k e enc v xs))(f:Nat.beq i 0=false)(j:Enc P t k enc)(l:n<=xs.length) :
  ∀a w,Sat N sc env H a w->Sat N sc env ((i,Nk k e enc (Gv v n) (xs.take n))::H) a w:=
 Zpl i hi rfl (λw h=>Yob j.cells n l h) (λb g=>by simpa [Nk,Fh]using g) f
theorem Fj{α:Type}{enc:α->Value}{v:Value}{xs:List α}(i:Nat)(hi:lk H i=some p)(e:Rd p k enc v xs):∀a w,Sat N sc env H a w->xs.length<=9223372036854775807:=λa w hs=>by obtain⟨f,c,rfl,g,h,_⟩:=e w (hs.hold i p hi);have j:maxLen=9223372036854775807:=rfl;omega
theorem Zd3(v:Value)(m n:Nat):Gv (Gv v m) n=Gv v n:=by cases v<;>rfl
theorem Yjv{α:Type}{enc:α->Value}{v:Value}{xs:List α}(i:Nat)(hi:lk H i=some p)(e:Rd p k enc v xs):∀a w,Sat N sc env H a w->Gv v xs.length=v:=λa w hs=>by obtain⟨f,c,rfl,_⟩:=e w (hs.hold i p hi);rfl
end Go.Sky

