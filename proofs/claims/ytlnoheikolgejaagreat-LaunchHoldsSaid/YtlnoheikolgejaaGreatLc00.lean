/- Rules, arithmetic and contracts: part 1. No conditions but those that each theorem names. -/
import Derived.Tactics
import Derived.Tactics2
import Derived.Orders
import Derived.Below
import Derived.Laws.AppendOwn
import Derived.Laws.MakeOwn
import Derived.KernelRfl
set_option linter.all false
def aA:=@trivial
def aB:=@Nat.le_trans
def aC:=@List.eq_nil_of_length_eq_zero
def aD:=@congrArg
def aE:=@decide_eq_false
def aF:=@Nat.le_refl
def aG:=@Rat.mul_nonneg
def aH:=@decide_eq_true
def aI:=@List.length_pos_iff
def aJ:=@if_neg
def aK:=@List.getD_eq_getElem?_getD
def aL:=@List.getElem?_eq_getElem
def aM:=@Nat.mul_le_mul_right
def aN:=@Nat.lt_succ_iff_lt_or_eq
def aO:=@List.length_append
def aP:=@if_pos
def aQ:=@Nat.mul_le_mul
def aR:=@Nat.not_lt_zero
def aS:=@Nat.div_div_eq_div_mul
def aT:=@Array.getElem?_eq_some_iff
def aU:=@List.length_replicate
def aV:=@Nat.lt_of_le_of_lt
def aW:=@List.length_map
def aX:=@Nat.zero_le
def aY:=@Bool.and_eq_true
def aZ:=@Nat.mul_le_mul_left
def bA:=@Nat.lt_or_ge
def bB:=@decide_eq_decide
def bC:=@Rat.mul_pos
def bD:=@Nat.eq_zero_or_pos
def bE:=@Int.mul_ne_zero
def bF:=@Classical.byContradiction
def bG:=@Nat.mod_lt
def bH:=@Nat.mod_eq_of_lt
def bI:=@List.mem_cons
def bJ:=@List.getElem?_eq_none
def bK:=@List.all_eq_true
def bL:=@Array.getD_eq_getD_getElem?
def bM:=@Decidable.byContradiction
def bN:=@Nat.div_lt_iff_lt_mul
def bO:=@Nat.mul_comm
def bP:=@Nat.pow_add
def bQ:=@List.map_cons
def bR:=@List.take_of_length_le
def bS:=@List.take_length
def bT:=@List.mem_cons_of_mem
def bW:=@of_decide_eq_true
def bX:=@List.length_cons
def bZ:=@Nat.pow_pos
def cC:=@List.mem_cons_self
def cD:=@Nat.zero_add
def cE:=@Int.natAbs_mul
def cF:=@List.mem_singleton
def cH:=@Nat.pow_succ
def cI:=@List.map_append
def cJ:=@Int.zero_mul
def cK:=@List.length_nil
def cL:=@Nat.add_mul
def cM:=@Nat.div_add_mod
def cN:=@List.mem_iff_getElem
def cP:=@Int.mul_nonneg
def cQ:=@List.length_take
def cS:=@Nat.div_eq_of_lt
def cT:=@List.length_set
def cW:=@List.mem_append
def cY:=@Nat.pow_le_pow_right
def cZ:=@Rat.le_of_lt
def dA:=@List.not_mem_nil
def dB:=@Rat.mul_le_mul_of_nonneg_right
def dC:=@Nat.le_of_lt
def dD:=@Int.pow_zero
def dE:=@Int.pow_succ
def dG:=@Nat.le_mul_of_pos_right
def dH:=@Nat.two_pow_pos
def dI:=@decide_eq_true_eq
def dJ:=@Nat.mul_lt_mul_of_pos_right
def dK:=@Nat.min_eq_left
def dL:=@Nat.div_le_self
def dM:=@Int.mul_le_mul_of_nonneg_right
def dN:=@Decidable.not_not
def dO:=@Int.sign_eq_zero_iff_zero
def dP:=@Nat.lt_of_lt_of_le
def dQ:=@Int.le_of_lt
def dR:=@Nat.succ_mul
def dS:=@Int.natAbs_natCast
def dU:=@Bool.false_ne_true
def dV:=@Int.natAbs_neg
def dW:=@List.getElem_of_mem
def dX:=@Int.mul_zero
def dY:=@List.filter_cons_of_pos
def dZ:=@List.take_zero
def eA:=@Array.getElem?_append_left
def eC:=@Nat.mul_assoc
def eD:=@List.getElem?_append_left
def eE:=@List.drop_eq_getElem_cons
def eF:=@Nat.eq_of_beq_eq_true
def eG:=@Rat.pow_succ
def eH:=@Nat.zero_lt_one
def eI:=@Nat.lt_or_eq_of_le
def eJ:=@Nat.add_zero
def eK:=@List.mem_map
def eN:=@Option.getD_some
def eO:=@Int.sub_eq_add_neg
def eP:=@Int.mul_assoc
def eQ:=@Int.le_refl
def eR:=@List.mem_of_mem_take
def eS:=@Int.dvd_of_emod_eq_zero
def eT:=@Classical.not_not
def eU:=@List.append_nil
def eV:=@Int.sub_zero
def eW:=@Rat.inv_pos
def eX:=@Nat.lt_succ_self
def eY:=@Int.mul_nonpos_of_nonneg_of_nonpos
def eZ:=@Int.mul_nonpos_of_nonpos_of_nonneg
def fA:=@List.filter_append
def fB:=@Ne.symm
def fC:=@List.take_append_drop
def fD:=@Int.mul_comm
def fE:=@Bool.not_eq_true'
def fF:=@List.flatMap_cons
def fG:=@List.getElem?_map
def fH:=@Int.mul_pos
def fI:=@Nat.lt_trans
def fJ:=@Array.length_toList
def fK:=@Nat.pow_le_pow_left
def fL:=@or_false
def fM:=@List.mem_range
def fN:=@decide_eq_false_iff_not
def fO:=@List.drop_length
def fP:=@List.drop_zero
def fQ:=@List.filter_cons_of_neg
def fR:=@Int.one_mul
def fS:=@Int.mul_one
def fT:=@Int.mul_le_mul_of_nonneg_left
def fU:=@Nat.pow_zero
def fV:=@Nat.add_right_comm
def fW:=@Nat.zero_mul
def fX:=@Nat.mul_zero
def fY:=@Nat.add_comm
def fZ:=@Nat.sub_self
def gC:=@Int.add_zero
def gD:=@Int.lt_or_le
def gE:=@Int.natCast_nonneg
def gF:=@Nat.le_antisymm
def gG:=@List.foldl_cons
def gI:=@Nat.mul_add_div
def gJ:=@Int.natCast_mul
def gK:=@List.mem_filter
def gL:=@Array.getElem?_setIfInBounds
def gM:=@Nat.add_assoc
def gN:=@List.eq_nil_or_concat
def gO:=@Int.tmod_add_mul_tdiv
def gP:=@Int.natAbs_dvd_natAbs
def gQ:=@Bool.and_eq_false_iff
def gR:=@List.ext_getElem?
def gT:=@not_true_eq_false
def gU:=@List.append_assoc
def gV:=@Nat.mul_pos
def gW:=@Nat.div_lt_of_lt_mul
def gX:=@List.take_take
def gY:=@Nat.mul_lt_mul_of_lt_of_le
def iA:=@Int.mul_le_mul
def iB:=@List.length_dropLast
def iC:=@Int.add_comm
def iD:=@List.cons_append
def iE:=@List.map_toArray
def iF:=@List.map_nil
def iG:=@List.ext_getElem
def iH:=@Nat.add_mul_mod_self_left
def iI:=@Int.natAbs_ediv_le_natAbs
def iJ:=@Int.eq_of_mul_eq_mul_left
def iK:=@List.replicate_succ
def iL:=@Int.dvd_trans
def iM:=@Nat.div_lt_self
def iN:=@Int.ediv_nonneg
def iO:=@Nat.mul_add_mod
def iP:=@decide_eq_true_iff
def iQ:=@of_decide_eq_false
def iR:=@Option.some.injEq
def iS:=@Nat.or_lt_two_pow
def iT:=@Rat.pow_zero
def iU:=@List.any_eq_false
def iV:=@Nat.le_div_iff_mul_le
def iW:=@Nat.le_of_ble_eq_true
def iX:=@List.mem_flatMap
def iY:=@List.length_drop
def iZ:=@Nat.and_two_pow_sub_one_eq_mod
def jA:=@List.getElem_mem
def jB:=@List.map_take
def jC:=@Int.pow_pos
def jD:=@List.mem_of_getElem?
def jE:=@List.take_succ_cons
def jF:=@if_true
def jG:=@Nat.two_pow_add_eq_or_of_lt
def jH:=@Int.dvd_zero
def jI:=@Nat.succ_pos
def jJ:=@Int.gcd_pos_of_ne_zero_left
def jK:=@List.getElem?_append_right
def jL:=@Nat.mul_right_comm
def jM:=@Nat.add_sub_cancel
def jN:=@Int.sign_eq_neg_one_of_neg
def jO:=@Nat.eq_of_mul_eq_mul_right
def jP:=@Nat.mul_lt_mul_of_pos_left
def jQ:=@Int.natAbs_pow
def jR:=@List.getElem?_eq_some_iff
def jS:=@Int.le_of_mul_le_mul_left
def jT:=@Int.mul_add
def jU:=@Int.gcd_dvd_right
def jV:=@Nat.mul_one
def jW:=@Int.dvd_mul_right
def jX:=@Int.self_le_toNat
def jY:=@Rat.le_refl
def jZ:=@Nat.lt_trichotomy
def kA:=@Bool.eq_false_iff
def kB:=@Nat.le_of_dvd
def kC:=@Int.le_of_dvd
def kD:=@List.getElem?_take_of_lt
def kE:=@Int.mul_ediv_cancel_left
def kF:=@Int.ediv_le_self
def kG:=@List.any_eq_true
def kH:=@Int.zero_add
def kI:=@Nat.le_mul_of_pos_left
def kJ:=@List.map_map
def kK:=@Nat.sub_zero
def kL:=@Int.sign_eq_one_of_pos
def kM:=@Rat.mul_comm
def kN:=@Nat.gcd_comm
def kO:=@List.drop_of_length_le
def kP:=@List.find?_cons_of_pos
def kQ:=@List.find?_cons_of_neg
def kR:=@List.nil_append
def kS:=@Int.emod_nonneg
def kT:=@Int.natAbs_tdiv
def kU:=@List.all_append
def kV:=@Nat.mul_div_mul_right
def kW:=@Nat.add_mul_div_right
def kX:=@List.mem_iff_getElem?
def kY:=@List.length_filter_le
def kZ:=@List.dropLast_eq_take
def lA:=@List.concat_eq_append
def lB:=@Nat.mod_one
def lC:=@Nat.mul_lt_mul_right
def lD:=@List.mem_of_mem_drop
def lE:=@Int.mul_ediv_cancel'
def lF:=@Int.mul_neg
def lG:=@Rat.div_def
def lH:=@List.getElem_zipWith
def lI:=@List.getD_cons_succ
def lJ:=@List.drop_replicate
def lK:=@Nat.div_le_div_left
def lL:=@List.map_congr_left
def lM:=@Nat.div_mul_le_self
def lN:=@Int.ediv_mul_cancel
def lO:=@List.mem_map_of_mem
def lP:=@List.take_replicate
def lQ:=@List.length_zipWith
def lS:=@Nat.pow_succ'
def lT:=@Bool.true_and
def lW:=@List.all_cons
def lX:=@List.getElem?_take
def lY:=@List.set_cons_zero
def lZ:=@Nat.mul_div_cancel
def mA:=@Int.lt_or_gt_of_ne
def mB:=@Nat.div_mul_cancel
def mC:=@Nat.pos_of_ne_zero
def mD:=@Nat.gcd_zero_right
def mE:=@Rat.div_mul_cancel
def mF:=@List.find?_eq_none
def mG:=@if_false
def mH:=@List.size_toArray
def mI:=@Nat.le_of_lt_succ
def mJ:=@Rat.le_trans
def mK:=@Nat.le_of_eq
def mL:=@Nat.lt_succ_of_lt
def mM:=@Nat.mod_mul
def mN:=@List.map_id
def mO:=@Int.dvd_neg
def mP:=@Rat.le_ceil
def mQ:=@Int.add_mul
def mR:=@Nat.div_one
def mS:=@beq_iff_eq
def mT:=@funext
namespace Go.Sky
variable{p:Prop}{f:Nat->Int}{m i b:Nat}{q:List Int}{xs o:List Nat}
theorem O (h:p:=by omega):p:=h
theorem O1 (h:p:=by first|omega|(dsimp only<;>omega)):p:=h
theorem O2 (h:p:=by first|omega|(simp only [cT];omega)):p:=h
theorem O3 (h:p:=by decide):p:=h
theorem O4 (h:p:=by grind):p:=h
theorem O5 (h:p:=by simp):p:=h
theorem O6 (h:p:=by kernel_rfl):p:=h
theorem O7 (h:p:=by decide +kernel):p:=h
theorem O8 (h:p:=by simp;omega):p:=h
theorem O9 (h:p:=by dsimp only;omega):p:=h
theorem O10 (h:p:=by simp_all):p:=h
theorem O11 (h:p:=by simp [Value.oneCell']):p:=h
theorem O12 (h:p:=by simp [Ho,Yo,Ot]):p:=h
theorem O13 (h:p:=by simp only [bX,cK];omega):p:=h
def Yo(f:Nat->Int):Nat->Int
 | 0=>0
 | n+1=>Yo f n+f n
def Ds(f:Nat->Int):Yo f 0=0:=rfl
theorem Ys(f:Nat->Int)(n:Nat):Yo f (n+1)=Yo f n+f n:=rfl
theorem Xl{f g:Nat->Int} : ∀{n:Nat},(∀i,i<n->f i=g i)->Yo f n=Yo g n
 | 0,_=>rfl
 | n+1,h=>by rw [Ys,Ys,Xl (λi hi=>h i O),h n O]
theorem Fy(f g:Nat->Int):∀n,Yo (λi=>f i+g i) n=Yo f n+Yo g n
 | 0=>rfl
 | n+1=>by simp only [Ys,Fy f g n];omega
theorem Mh(c:Int)(f:Nat->Int):∀n,Yo (λi=>c*f i) n=c*Yo f n
 | 0=>by simp [Yo]
 | n+1=>by simp only [Ys,Mh c f n];grind
theorem Zlr(c:Int)(f:Nat->Int)(n:Nat):Yo (λi=>f i*c) n=Yo f n*c:=by grind [Int.mul_comm,Mh,Xl]
theorem Gl{f:Nat->Int} : ∀{n:Nat},(∀i,i<n->f i=0)->Yo f n=0
 | 0,_=>rfl
 | n+1,h=>by rw [Ys,Gl (λi hi=>h i O),h n O];rfl
theorem Ms(f:Nat->Int):∀n,Yo f (n+1)=f 0+Yo (λi=>f (i+1)) n
 | 0=>by simp [Yo]
 | n+1=>by rw [Ys,Ms f n,Ys];omega
theorem Zo5(f:Nat->Int):∀n,Yo f n=Yo (λi=>f (n-1-i)) n
 | 0=>rfl
 | n+1=>by rw [Ys,Ms _,Zo5 f n];grind
theorem Zig{n:Nat}(a:m<=n)(h:∀i,m<=i->i<n->f i=0):Yo f n=Yo f m:=by
 induction n with
 | zero=>grind
 | succ n c=>
  grind [Ys]
theorem Zo3(f:Nat->Nat->Int):∀n,Yo (λi=>Yo (λk=>f k (i-k)) (i+1)) n=Yo (λk=>Yo (λj=>f k j) (n-k)) n
 | 0=>rfl
 | n+1=>by
  rw [Ys,Zo3 f n,Ys (λk=>Yo _ _)];have a:Yo (λk=>Yo (λj=>f k j) (n+1-k)) n=Yo (λk=>Yo (λj=>f k j) (n-k)+f k (n-k)) n:=
   Xl λk c=>by grind [Ys]
  rw [a,Fy];simp [Ys,Ds]<;>omega
structure PS where
 c:Nat->Int
theorem PS.ext'{f g:PS}(h:∀i,f.c i=g.c i):f=g:=by cases f;congr;grind
namespace PS
def conv(f g:PS):PS:=⟨λi=>Yo (λk=>f.c k*g.c (i-k)) (i+1)⟩
def C(n:Int):PS:=⟨λi=>if i=0 then n else 0⟩
instance:Zero PS:=⟨⟨λ_=>0⟩⟩
instance:One PS:=⟨C 1⟩
instance:Add PS:=⟨λf g=>⟨λi=>f.c i+g.c i⟩⟩
instance:Neg PS:=⟨λf=>⟨λi=>- f.c i⟩⟩
instance:Sub PS:=⟨λf g=>⟨λi=>f.c i-g.c i⟩⟩
instance:Mul PS:=⟨conv⟩
instance:NatCast PS:=⟨λn=>C n⟩
instance (n:Nat):OfNat PS n:=⟨C n⟩
instance:IntCast PS:=⟨C⟩
instance:SMul Nat PS:=⟨λn f=>⟨λi=>(n:Int)*f.c i⟩⟩
instance:SMul Int PS:=⟨λn f=>⟨λi=>n*f.c i⟩⟩
def npow(f:PS):Nat->PS
 | 0=>1
 | n+1=>npow f n*f
instance:HPow PS Nat PS:=⟨npow⟩
def add_c(f g:PS)(i:Nat):(f+g).c i=f.c i+g.c i:=rfl
theorem mul_c(f g:PS)(i:Nat):(f*g).c i=Yo (λk=>f.c k*g.c (i-k)) (i+1):=rfl
theorem zero_c(i:Nat):(0:PS).c i=0:=by show(if i=0 then((0))else 0)=0;split<;>rfl
theorem C_c(n:Int)(i:Nat):(C n).c i=if i=0 then n else 0:=rfl
theorem mul_comm'(f g:PS):f*g=g*f:=ext' λi=>by rw [mul_c,mul_c,Zo5];grind [Xl,Nat.add_sub_cancel,Int.mul_comm]
def C_mul(n:Int)(f:PS):C n*f=⟨λi=>n*f.c i⟩:=ext' λi=>by grind [mul_c,Ms,Gl,C_c]
def C_mul_c(n:Int)(f:PS)(i:Nat):(C n*f).c i=n*f.c i:=by rw [C_mul]
def Ykl(f:PS):1*f=f:=ext' λi=>by show(C 1*f).c i=f.c i;rw [C_mul_c,fR]
theorem mul_assoc'(f g h:PS):f*g*h=f*(g*h):=ext' λi=>by
 rw [mul_c,mul_c];have a:Yo (λk=>(f*g).c k*h.c (i-k)) (i+1)=Yo (λk=>Yo (λj=>f.c j*g.c (k-j)*h.c (i-(j+(k-j)))) (k+1)) (i+1):=
  Xl λk c=>by rw [mul_c,<-Zlr];grind [Xl]
 rw [a,Zo3 (λj m=>f.c j*g.c m*h.c (i-(j+m)))];refine Xl λj b=>?_;rw [mul_c,<-Mh,show i+1-j=i-j+1 by omega];grind
theorem Ysw(f g h:PS):f*(g+h)=f*g+f*h:=ext' λi=>by simp [add_c,mul_c,Fy,Xl,jT]
def distrib_r(f g h:PS):(f+g)*h=f*h+g*h:=by grind [mul_comm',Ysw]
def zero_mul'(f:PS):0*f=0:=ext' λi=>by simp [mul_c,Gl,zero_c,cJ]
def zero_add'(f:PS):0+f=f:=ext' λi=>by rw [add_c,zero_c,kH]
theorem add_comm'(f g:PS):f+g=g+f:=ext' λi=>by simp [add_c,iC]
def add_assoc'(f g h:PS):f+g+h=f+(g+h):=ext' λi=>by simp [add_c]<;>omega
theorem mul_one'(f:PS):f*1=f:=by rw [mul_comm',Ykl]
instance:Std.Commutative (α:=PS) (· + ·):=⟨add_comm'⟩
instance:Std.Associative (α:=PS) (· + ·):=⟨add_assoc'⟩
instance:Std.Commutative (α:=PS) (· * ·):=⟨mul_comm'⟩
instance:Std.Associative (α:=PS) (· * ·):=⟨mul_assoc'⟩
end PS
def tzl(xs:List Int):List Int:=(xs.reverse.dropWhile (· == 0)).reverse
def cf(p:List Int)(i:Nat):Int:=p.getD i 0
def mk(n:Nat)(f:Nat->Int):List Int:=(List.range n).map f
def ps(p:List Int):PS:=⟨cf p⟩
def Tr(p:List Int):Prop:=p=[]\/cf p (p.length-1)≠0
theorem Nu(p:List Int)(i:Nat):(ps p).c i=cf p i:=rfl
theorem Yt{p:List Int}(h:p.length<=i):cf p i=0:=by simp [cf,List.getD,bJ h]
theorem Zj0{p:List Int}(h:i<p.length):cf p i=p[i]:=by simp [cf,List.getD,h]
theorem Yy(n:Nat)(f:Nat->Int):(mk n f).length=n:=by simp [mk]
theorem Md(n:Nat)(f:Nat->Int)(i:Nat):cf (mk n f) i=if i<n then f i else 0:=by
 by_cases h:i<n
 .rw [aP h,Zj0 (by grind [Yy])];simp [mk]
 simp_all [aJ,Yt,Yy]
theorem Ib{p:List Int}(a:p.length=q.length)(h:∀i,i<p.length->cf p i=cf q i):p=q:=by grind [List.ext_getElem,Zj0]
def Zej(p:List Int):mk p.length (cf p)=p:=Ib (Yy _ _) λi h=>by simp_all [Md,Yy,aP]
theorem Cx{n:Nat}{g:Nat->Int}(h:∀i,i<n->f i=g i):mk n f=mk n g:=Ib (by grind [Yy]) λi hi=>by simp_all [Yy,Md,aP]
def Zqa(p q:List Int)(i:Nat):cf (p ++ q) i=if i<p.length then cf p i else cf q (i-p.length):=by
 by_cases h:i<p.length
 .rw [aP h];simp [cf,List.getD,eD h]
 .simp only [cf,List.getD];grind
def Fo(n:Nat)(f:Nat->Int):mk (n+1) f=mk n f ++ [f n]:=by simp [mk,List.range_succ]
def Zny(p:List Int)(k:Nat)(x:Int)(i:Nat)(h:k<p.length):cf (p.set k x) i=if i=k then x else cf p i:=by
 by_cases hi:i=k
 .subst hi;simp [cf,List.getD,h]
 .simp only [cf,List.getD];grind
def Db(p:List Int)(k i:Nat):cf (p.take k) i=if i<k then cf p i else 0:=by
 by_cases hi:i<k
 .simp [cf,List.getD,lX,hi]
 .rw [aJ hi,Yt];grind
theorem Zf2(p:List Int)(f:Int->Int)(a:f 0=0)(i:Nat):cf (p.map f) i=f (cf p i):=by grind [Zj0,Yt]
theorem Zax(xs:List Int):tzl (xs ++ [0])=tzl xs:=by simp [tzl]
theorem Bq(xs:List Int)(x:Int)(h:x≠0):tzl (xs ++ [x])=xs ++ [x]:=by simp [tzl,h]
def Zkd{α:Type}(xs:List α):xs=[]\/∃ys y,xs=ys ++ [y]:=by
 rcases gN xs with h|⟨ys,y,h⟩
 all_goals grind
def Zqi (C:List Int->Prop)(b:C [])(c:∀xs,C xs->C (xs ++ [0]))(d:∀xs x,x≠0->C (xs ++ [x]))(p:List Int):C p:=by
 have a:∀n (p:List Int),p.length=n->C p:=by
  intro n
  induction n with
  | zero=>grind
  | succ n f=>
   intro p e;rcases Zkd p with rfl|⟨g,y,rfl⟩
   all_goals grind
 grind
theorem Mg(p:List Int):(tzl p).length<=p.length:=by
 refine Zqi (λp=>(tzl p).length<=p.length) (aF _) (λa h=>?_) (λa x b=>?_) p
 .grind [Zax]
 simp_all [Bq,aF]
theorem Lg(p:List Int)(i:Nat):cf (tzl p) i=cf p i:=by
 refine Zqi (λp=>cf (tzl p) i=cf p i) rfl (λa h=>?_) (λa x c=>?_) p
 .rw [Zax,h,Zqa];split
  .rfl
  .rw [Yt O];by_cases b:i-a.length=0
   .rw [b];rfl
   grind [Yt]
 grind [Bq]
def Tr.nil:Tr []:= .inl rfl
theorem Xy(p:List Int):Tr (tzl p):=by
 refine Zqi (λp=>Tr (tzl p)) Tr.nil (λb h=>?_) (λb x a=>?_) p
 .grind [Zax]
 .rw [Bq _ _ a];refine .inr ?_;simp [cf];omega
theorem An{p:List Int}(h:Tr p):tzl p=p:=by
 rcases Zkd p with rfl|⟨b,y,rfl⟩
 .rfl
 .rcases h with h|h
  .simp_all
  .refine Bq _ _ λa=>h ?_;subst a;simp [cf]
def Tr.ext{p q:List Int}(b:Tr p)(c:Tr q)(h:∀i,cf p i=cf q i):p=q:=by
 have a:∀{p q:List Int},Tr p->(∀i,cf p i=cf q i)->p.length<=q.length:=λ{p q} b h=>by
  rcases b with rfl|b
  .simp
  grind [Nat.lt_or_ge,Yt]
 exact Ib (gF (a b h) (a c λi=>(h i).symm)) λi _=>h i
def Ypg{p:List Int}(h:∀i,cf p i=cf q i):tzl p=tzl q:=(Xy p).ext (Xy q) λi=>by grind [Lg]
def Zb0{p:List Int}{n:Nat}(h:∀i,n<=i->cf p i=0):(tzl p).length<=n:=by
 rcases Xy p with a|a
 .grind
 grind [Lg,Nat.lt_or_ge]
theorem Ik(p:List Int):tzl p=[]↔∀i,cf p i=0:=
 ⟨λh i=>by rw [<-Lg,h];rfl,λh=>aC (Nat.le_zero.1 (Zb0 λi _=>h i))⟩
def Tr.mem{p:List Int}(h:Tr p)(a:p≠[]):cf p (p.length-1)≠0:=by
 rcases h with h|h
 all_goals grind
def Zty{xs:List Int}{k:Nat}(b:k<=xs.length)(a:0<k)(h:cf xs (k-1)=0):tzl (xs.take k)=tzl (xs.take (k-1)):=Ypg λi=>by rw [Db,Db];grind
def Zgd{xs:List Int}{k:Nat}(a:k<=xs.length)(h:k=0\/cf xs (k-1)≠0):tzl (xs.take k)=xs.take k:=by
 refine An ?_;rcases h with rfl|h
 .simp [Tr]
 .rcases bD k with rfl|b
  .simp [Tr]
  .refine .inr ?_;rw [cQ,dK a,Db];omega
def Gy(p q:List Int):List Int:=tzl (mk (max p.length q.length) λi=>cf p i+cf q i)
def Bf(p q:List Int):List Int:=tzl (mk (max p.length q.length) λi=>cf p i-cf q i)
def Zw(p:List Int)(c:Int):List Int:=tzl (p.map (· * c))
def Pf(p q:List Int):List Int:=tzl (mk (p.length+q.length-1) λi=>(ps p*ps q).c i)
def Xh(p:List Int):List Int:=mk (p.length-1) λi=>cf p (i+1)*((i:Int)+1)
def pev(p:List Int)(n d:Int):Int:=Yo (λi=>cf p i*(n^i*d^(p.length-1-i))) p.length
def Yx(p:List Int):Int:=p.foldl (λg c=>(Int.gcd g c:Int)) 0
def Yf(p:List Int):List Int:=p.map (· / Yx p)
def Ck(p q:List Int)(i:Nat):cf (Gy p q) i=cf p i+cf q i:=by unfold Gy;grind [Lg,Md,Yt]
def Hd(p q:List Int)(i:Nat):cf (Bf p q) i=cf p i-cf q i:=by unfold Bf;grind [Lg,Md,Yt]
theorem Ym(p:List Int)(c:Int)(i:Nat):cf (Zw p c) i=cf p i*c:=by unfold Zw;grind [Lg,Zf2]
theorem Gw(p q:List Int)(i:Nat):cf (Pf p q) i=(ps p*ps q).c i:=by
 unfold Pf;rw [Lg,Md];split
 .rfl
 .rw [PS.mul_c,Gl];intro k a;rcases bA k p.length with h|h
  .rw [Nu,Nu,Yt (p:=q) O,dX]
  .rw [Nu,Yt h,cJ]
def Yae(p:List Int):Tr (Gy p q):=Xy _
theorem Zad(p q:List Int):Tr (Bf p q):=Xy _
theorem Ql(p:List Int)(c:Int):Tr (Zw p c):=Xy _
theorem Qk(p q:List Int):Tr (Pf p q):=Xy _
def Yqw(p q:List Int):Bf p q=Gy p (Zw q (-1)):=(Zad p q).ext (Yae p) λi=>by rw [Ck,Ym,Hd];omega
theorem Dz(p q:List Int):Pf p q=Pf q p:=(Qk p q).ext (Qk q p) λi=>by grind [Gw,PS.mul_comm']
def Yqx(p q:List Int):ps (Gy p q)=ps p+ps q:=PS.ext' λi=>Ck p q i
def Zks(p q:List Int):ps (Pf p q)=ps p*ps q:=PS.ext' λi=>Gw p q i
def Zip(p:List Int)(c:Int):ps (Zw p c)=PS.C c*ps p:=PS.ext' λi=>by rw [PS.C_mul_c,fD];exact Ym p c i
def Tr.ps_inj{p:List Int}(a:Tr p)(b:Tr q)(h:ps p=ps q):p=q:=a.ext b λi=>by rw [<-Nu,h,Nu]
def tz(xs:List Nat):List Nat:=(xs.reverse.dropWhile (· == 0)).reverse
def It(xs:List Nat):tz (xs ++ [0])=tz xs:=by simp [tz]
theorem Cn(xs:List Nat)(x:Nat)(h:x≠0):tz (xs ++ [x])=xs ++ [x]:=by simp [tz,h]
theorem Qz{α:Type}(d:α)(xs:List α)(k:Nat)(h:k<xs.length):xs.take (k+1)=xs.take k ++ [xs.getD k d]:=by simp_all
def Zi2{α:Type}(xs:List α)(k:Nat)(d:α)(h:i<k):(xs.take k).getD i d=xs.getD i d:=by grind
def Yac{k:Nat}(b:k<=xs.length)(a:0<k)(h:(xs.take k).getD (k-1) 0=0):tz (xs.take k)=tz (xs.take (k-1)):=by rw [Zi2 xs k 0 O]at h;have:=Qz 0 xs (k-1) O;rw [show k-1+1=k by omega]at this;simp_all [It]
def Zgf{k:Nat}(b:k<=xs.length)(h:k=0\/(xs.take k).getD (k-1) 0≠0):tz (xs.take k)=xs.take k:=by
 rcases bD k with rfl|a
 .rfl
 .have:=Qz 0 xs (k-1) O;grind [Cn]
def tz_eq(h:xs=[]\/xs.getD (xs.length-1) 0≠0):tz xs=xs:=by
 have:=Zgf (xs:=xs) (aF _) (by grind)
 grind
def val(b:Nat):List Nat->Nat
 | []=>0
 | d::r=>d+b*val b r
def dgf(b:Nat):Nat->Nat->List Nat
 | 0,_=>[]
 | f+1,n=>if n=0 then []else n%b::dgf b f (n/b)
def dg(b n:Nat):List Nat:=dgf b n n
def Zwr{b:Nat}(d:2<=b):∀(f a n:Nat),n<=f->n<=a->dgf b f n=dgf b a n
 | 0,0,_,_,_=>rfl
 | 0,a+1,n,h,_=>by have:n=0:=O;subst this;rfl
 | f+1,0,n,_,h=>by have:n=0:=O;subst this;rfl
 | f+1,a+1,n,h,e=>by
  unfold dgf;by_cases c:n=0
  .grind
  .have:n/b<n:=iM O O;rw [aJ c,aJ c,Zwr d f a _ O O]
theorem Gv(b:Nat):dg b 0=[]:=rfl
theorem Zcj{n:Nat}(a:2<=b)(c:0<n):dg b n=n%b::dg b (n/b):=by
 unfold dg;obtain⟨m,rfl⟩:∃m,n=m+1:=⟨n-1,O⟩
 conv=>lhs;unfold dgf
 rw [aJ O5];have:(m+1)/b<m+1:=iM O5 O;rw [Zwr a m _ _ O (aF _)]
theorem Ld(a:2<=b)(n:Nat):val b (dg b n)=n:=by
 induction n using Nat.strongRecOn with
 | _ n c=>
  rcases bD n with rfl|h
  .rfl
  .rw [Zcj a h,val,c _ (iM h O)];grind [Nat.mod_add_div]
def Nx(c:2<=b)(n:Nat):∀d∈dg b n,d<b:=by
 induction n using Nat.strongRecOn with
 | _ n e=>
  rcases bD n with rfl|h
  .intro d a;cases a
  .rw [Zcj c h];intro d a;rcases bI.1 a with rfl|a
   .exact bG _ O
   .exact e _ (iM h O) d a
theorem Me(b:Nat)(xs ys:List Nat):val b (xs ++ ys)=val b xs+b^xs.length*val b ys:=by
 induction xs with
 | nil=>simp [val]
 | cons x r a=>simp only [iD,val,a,bX,cH,Nat.mul_add];grind
theorem Zib{b:Nat}(c:0<b):∀(xs:List Nat),(∀d∈xs,d<b)->val b xs<b^xs.length
 | [],_=>by simp [val]
 | x::r,h=>by have a:=Zib c r (λd e=>h d (bT _ e));have f:=h x (cC ..);simp only [val,bX,cH];have g:=aZ b a;grind
def Fd(b n:Nat):val b (List.replicate n 0)=0:=by
 induction n with
 | zero=>rfl
 | succ n a=>simp [iK,val,a]
theorem Qt(b:Nat)(xs:List Nat)(k:Nat):val b (xs.take (k+1))=val b (xs.take k)+xs.getD k 0*b^k:=by
 by_cases h:k<xs.length
 .rw [Qz 0 xs k h,Me,cQ,dK O,bO _];rfl
 grind [List.take_of_length_le,List.getElem?_eq_none]
theorem Mn(b:Nat)(xs:List Nat)(k:Nat)(h:xs.length<=k):val b (xs.take k)=val b xs:=by rw [bR h]
def Qb(a:0<b)(h:∀d∈xs,d<b)(k:Nat):xs.getD k 0<b:=by grind [List.getElem_mem,List.getElem?_eq_none]
def Zoi{α:Type}(o:List α)(k:Nat)(d:α)(h:k<o.length):(o.set k d).take (k+1)=o.take k ++ [d]:=by
 have a:k<(o.set k d).length:=O4;rw [Qz d _ _ a];congr 1
 .apply gR;grind
 grind
def Zoj{α:Type}(o:List α)(k:Nat)(d:α):(o.set k d).take k=o.take k:=by apply gR;grind
def Bp(b:Nat)(o:List Nat){k:Nat}(d:Nat)(h:k<o.length):val b ((o.set k d).take (k+1))=val b (o.take k)+d*b^k:=by rw [Zoi o k d h,Me,cQ,dK O,bO _];rfl
def Ke{p:Nat->Prop}(h:∀d∈o,p d)(k:Nat){d:Nat}(a:p d):∀x∈o.set k d,p x:=by grind
def Nn{p:Nat->Prop}{n:Nat}(h:p 0):∀d∈List.replicate n 0,p d:=by grind
def Zb2{α:Type}(xs:List α):xs=[]\/∃ys y,xs=ys ++ [y]:=by
 rcases gN xs with h|⟨ys,y,h⟩
 all_goals grind
def Kr{b:Nat}(s:2<=b):∀(xs:List Nat),(∀d∈xs,d<b)->dg b (val b xs)=tz xs
 | [],_=>rfl
 | x::r,h=>by
  have e:=Kr s r (λd u=>h d (bT _ u));have v:=h x (cC ..);have i:(x+b*val b r)%b=x:=by rw [iH,bH v]
  have g:(x+b*val b r)/b=val b r:=by grind [Nat.add_mul_div_left,Nat.div_eq_of_lt]
  rcases bD (x+b*val b r)with f|f
  .have m:x=0:=O;have l:val b r=0:=by
    rcases bD (val b r)with q|q
    .omega
    .have:=gV (by omega:0<b) q;omega
   rw [l,Gv]at e;simp only [val,f,Gv];subst m;rcases Zb2 r with rfl|⟨a,y,rfl⟩
   .rfl
   .by_cases j:y=0
    .subst j;rw [It]at e;have t:=by have:=aD List.reverse e.symm;simpa [tz]using this
     unfold tz;simp_all [List.reverse_cons,List.dropWhile_append]
    .rw [Cn _ _ j]at e;simp at e
  .have:=Zcj s f;simp only [val];rw [this,i,g,e];rcases Zb2 r with rfl|⟨a,y,rfl⟩
   .have:x≠0:=by simp [val]at f;omega
    simp [tz,this]
   .by_cases j:y=0
    .subst j;rw [It,show(x::(a ++ [0]))=(x::a) ++ [0]from rfl,It];have p:∀a:List Nat,0<x+b*val b a->x::tz a=tz (x::a):=by
      intro a
      induction hn:a.length using Nat.strongRecOn generalizing a with
      | _ n o=>
       intro c;rcases Zb2 a with rfl|⟨k,z,rfl⟩
       .have:x≠0:=by simp [val]at c;omega
        simp [tz,this]
       .by_cases w:z=0
        .subst w;rw [It,show(x::(k ++ [0]))=(x::k) ++ [0]from rfl,It];refine o k.length O4 k rfl ?_;rw [Me]at c;assumption
        grind [Cn]
     refine p a ?_;rw [Me]at f;assumption
    grind [Cn]
theorem Zi7(a:2<=b){n:Nat} : dg b m=dg b n↔m=n:=⟨λh=>by grind [Ld],λh=>O4⟩
def Hs{b:Nat}(a:2<=b):∀(i n:Nat),(dg b n).getD i 0=n/b^i%b
 | 0,n=>by
  rcases bD n with rfl|h
  all_goals simp_all [Gv,Zcj]
 | i+1,n=>by
  rcases bD n with rfl|h
  .simp [Gv]
  .rw [Zcj a h];have c:=Hs a i (n/b);simp only [lI];rw [c,aS,cH,bO b]
def Xq{b:Nat}(a:2<=b):∀(k n:Nat),(dg b n).length<=k↔n<b^k
 | 0,n=>by grind [Nat.eq_zero_or_pos,Gv,Zcj]
 | k+1,n=>by
  rcases bD n with rfl|h
  .grind [Gv,Nat.pow_pos]
  .rw [Zcj a h];simp only [bX,Nat.add_le_add_iff_right];rw [Xq a k _,cH,bN O]
theorem Mp(a:2<=b)(k n:Nat):k<(dg b n).length↔b^k<=n:=by have:=Xq a k n;omega
def dg_top{n:Nat}(a:2<=b)(h:0<n):(dg b n).getD ((dg b n).length-1) 0≠0:=by
 have c:0<(dg b n).length:=by rw [Mp a,fU];omega
 have d:b^((dg b n).length-1)<=n:=(Mp a _ n).1 O;have e:=(Xq a _ n).1 (aF _);rw [Hs a];rw [show(dg b n).length=(dg b n).length-1+1 by omega,cH]at e;have f:n/b^((dg b n).length-1)<b:=by rw [bN (bZ O),bO];omega
 have g:=Nat.div_pos d (bZ O);grind [Nat.mod_eq_of_lt]
theorem Ok(a:2<=b)(n:Nat):(dg b n).length=0↔n=0:=by have:=Xq a 0 n;grind
def Zxr(c:2<=b){x:Nat}(h:∀i,i<o.length->o.getD i 0=x/b^i%b)(g:x<b^o.length):tz o=dg b x:=by
 have a:∀d∈o,d<b:=λd e=>by obtain⟨i,hi,rfl⟩:=dW e;have:=h i hi;rw [show o.getD i 0=o[i] by grind]at this;rw [this];exact bG _ O
 rw [<-Kr c o a];have f:∀k,k<=o.length->val b (o.take k)=x%b^k:=by
  intro k
  induction k with
  | zero=>simp [val,lB]
  | succ k j=>
   grind [Qt,Nat.pow_succ,Nat.mod_mul,Nat.mul_comm]
 grind [List.take_length,Nat.mod_eq_of_lt]
def bl(n:Nat):Nat:=(dg 2 n).length
theorem Qo(k n:Nat):bl n<=k↔n<2^k:=Xq O5 k n
def Zct(k n:Nat):k<bl n↔2^k<=n:=Mp O5 k n
theorem Ky:bl 0=0:=rfl
def Zs9{n:Nat}(h:0<n):2^(bl n-1)<=n/\0<bl n:=by have a:=(Zct 0 n).2 O;exact⟨(Zct _ n).1 O,a⟩
theorem Ac(n:Nat):n<2^bl n:=(Qo _ n).1 (aF _)
def bl_eq{n k:Nat}(b:n<2^k)(a:k=0\/2^(k-1)<=n):bl n=k:=by
 have:=(Qo k n).2 b;rcases a with rfl|a
 .omega
 .have:=(Zct _ n).2 a;omega
def Zzx{n k:Nat}(h:0<n):bl (n*2^k)=bl n+k:=by
 have a:=Zs9 h;refine bl_eq ?_ (.inr ?_)
 .simp [bP,lC,bZ,Ac]
 .rw [show bl n+k-1=(bl n-1)+k by omega,bP];simp_all [aM]
def Gk(n k:Nat):bl (n/2^k)=bl n-k:=by
 by_cases h:bl n<=k
 .grind [Qo,Nat.div_eq_of_lt,Ky]
 .have a:=(Zct k n).1 O;have b:=dP (bZ O5) a;have c:=Zs9 b;refine bl_eq ?_ (.inr ?_)
  .rw [bN (bZ O5),<-bP,show bl n-k+k=bl n by omega];simp [Ac]
  .rw [iV (bZ O5),<-bP,show bl n-k-1+k=bl n-1 by omega];omega
def Oh{n:Nat}(h:m<=n):bl m<=bl n:=(Qo _ m).2 (aV h (Ac n))
end Go.Sky
namespace Go.Sky
open Go.RowKit Below
variable{M:Nat->Prop}{a:Act}{b:Bool}{c:Operand}{w w':World}{x y:Code}{v:Value}{id d i:Nat}{p:Prop}{K:Act->World->Prop}{o oi:Oper}{rest:List Oper}{Y:Act->Prop}{ts:List Nat}{listed:Array Bool}{plan:List (Nat×Nat)}
abbrev Px:=List (Nat×Value)
def lk{α:Type} : List (Nat×α)->Nat->Option α
  | [],_=>none
  | (k,v)::r,n=>cond (Nat.beq k n) (some v) (lk r n)
def ev(e:Px):Operand->Option Value
  | .tmp t=>lk e t
  | .const v=>some v
  | .global g=>some (.pointer (some ⟨g,0,none⟩))
  | .func f=>some (.func (.func f) #[] #[])
structure Chg (M:Nat->Prop) (w w':World):Prop where
  os:w'.os=w.os
  tape:w'.tape=w.tape
  output:w'.output=w.output
  size:w.heap.size<=w'.heap.size
  block:∀k,k<w.heap.size->¬M k->w'.heap[k]? = w.heap[k]?
def Chg.refl(M:Nat->Prop)(w:World):Chg M w w:=⟨rfl,rfl,rfl,aF _,λ_ _ _=>rfl⟩
def Chg.trans{a b c:World}(h:Chg M a b)(k:Chg M b c):Chg M a c:=
  ⟨k.os.trans h.os,k.tape.trans h.tape,k.output.trans h.output,aB h.size k.size,λi hi e=>(k.block i (dP hi h.size) e).trans (h.block i hi e)⟩
def Chg.of_below(h:Below w.heap.size w w'):Chg M w w':=⟨h.os,h.tape,h.output,h.size,λk e _=>h.block k e⟩
structure Pc where
  own:Bool
  fp:Nat->Prop
  holds:World->Prop
  lt:∀w b,holds w->fp b->b<w.heap.size
  stable:∀w w',holds w->Chg (λb=>¬fp b) w w'->holds w'
abbrev Hp:=List (Nat×Pc)
structure Sat (N:Nat) (sc:Nat->Prop) (env:Px) (H:Hp) (a:Act) (w:World):Prop where
  size:a.tmps.size=N
  defers:a.defers=[]
  env:∀t v,lk env t=some v->a.tmps.getD t undef=v
  hold:∀i it,lk H i=some it->it.holds w
  sep:∀i j it jt,i≠j->lk H i=some it->lk H j=some jt->it.own=true->∀b,it.fp b->jt.fp b->False
  scope:∀i it,i≠0->lk H i=some it->∀b,it.fp b->sc b
variable {P:Program} {N:Nat} {sc:Nat->Prop} {env env':Px} {H H':Hp} {Q Q':Exit->Act->World->Prop}
def E(P:Program)(N:Nat)(sc:Nat->Prop)(c:Code)(Q:Exit->Act->World->Prop)(env:Px)(H:Hp):Prop:=
  ∀a w,Sat N sc env H a w->c.wp P Q a w
def L(P:Program)(N:Nat)(sc:Nat->Prop)(ops:Array Oper)(rest:List Oper)(Q:Exit->Act->World->Prop)(env:Px)(H:Hp):Prop:=
  ∀a w,Sat N sc env H a w->wpList P ops Q rest a w
def X(N:Nat)(sc:Nat->Prop)(e:Exit)(Q:Exit->Act->World->Prop)(env:Px)(H:Hp):Prop:=
  ∀a w,Sat N sc env H a w->Q e a w
def Sub:Px->Px->Prop
  | [],_=>True
  | (t,v)::r,e=>lk e t=some v/\Sub r e
def HSub:Hp->Hp->Prop
  | [],_=>True
  | (t,v)::r,e=>lk e t=some v/\HSub r e
theorem Sub.lk:∀{f e:Px},Sub f e->∀t v,lk f t=some v->lk e t=some v
  | [],_,_,_,_,h=>by cases h
  | (k,u)::r,e,h,t,v,hl=>by
    unfold Sky.lk at hl;cases hb:Nat.beq k t with
    | true=>
      rw [hb]at hl;have:=eF hb;subst this;cases hl;exact h.1
    | false=>
      rw [hb]at hl;exact Sub.lk h.2 t v hl
theorem HSub.lk:∀{f e:Hp},HSub f e->∀t v,lk f t=some v->lk e t=some v
  | [],_,_,_,_,h=>by cases h
  | (k,u)::r,e,h,t,v,hl=>by
    unfold Sky.lk at hl;cases hb:Nat.beq k t with
    | true=>
      rw [hb]at hl;have:=eF hb;subst this;cases hl;exact h.1
    | false=>
      rw [hb]at hl;exact HSub.lk h.2 t v hl
def Sat.weaken(h:Sat N sc env H a w)(hs:Sub env' env)(f:HSub H' H):Sat N sc env' H' a w:=
  ⟨h.size,h.defers,λt v n=>h.env t v (hs.lk t v n),λi e hi=>h.hold i e (f.lk i e hi),
   λi j e l k hi m=>h.sep i j e l k (f.lk i e hi) (f.lk j l m),λi e g hi=>h.scope i e g (f.lk i e hi)⟩
def E.weaken{c:Code}(h:E P N sc c Q env' H')(hs:Sub env' env)(f:HSub H' H):E P N sc c Q env H:=
  λa w e=>h a w (e.weaken hs f)
def X.weaken{e:Exit}(h:X N sc e Q env' H')(hs:Sub env' env)(g:HSub H' H):X N sc e Q env H:=
  λa w f=>h a w (f.weaken hs g)
theorem Yv{α:Type}(k:Nat)(v:α)(r:List (Nat×α)):lk ((k,v)::r) k=some v:=by simp [lk]
theorem Yc{α:Type}{k n:Nat}(v:α)(r:List (Nat×α))(h:k≠n):lk ((k,v)::r) n=lk r n:=by
  have:Nat.beq k n=false:=by grind [Nat.eq_of_beq_eq_true]
  simp [lk,this]
theorem Sat.ev(h:Sat N sc env H a w){x:Operand}(e:ev env x=some v):a.eval x=v:=by
  cases x with
  | tmp t=>exact h.env t v e
  | const u=>simp only [Sky.ev,iR]at e;exact e
  | global g=>simp only [Sky.ev,iR]at e;exact e
  | func f=>simp only [Sky.ev,iR]at e;exact e
theorem Sat.put(h:Sat N sc env H a w)(d:Nat)(v:Value)(j:Nat.blt d N=true):Sat N sc ((d,v)::env) H (a.put (some d) v) w:=by
  have f:d<N:=O10;refine⟨by simp [Act.put,h.size],h.defers,λt u e=>?_,h.hold,h.sep,h.scope⟩;by_cases g:d=t
  . subst g;rw [Yv]at e;cases e;simp [Act.put,h.size,f]
  . rw [Yc _ _ g]at e;have:=h.env t u e;simp only [Act.put];simp_all
def Sat.put_none(h:Sat N sc env H a w)(v:Value):Sat N sc env H (a.put none v) w:=h
def e_seq(h:E P N sc x (Exit.then (y.wp P Q) Q) env H):E P N sc (.seq x y) Q env H:=λa w hs=>wp_seq (h a w hs)
def e_skip(h:X N sc .normal Q env H):E P N sc .skip Q env H:=λa w hs=>wp_skip (h a w hs)
def e_ret(h:X N sc .ret Q env H):E P N sc .ret Q env H:=λa w hs=>wp_ret (h a w hs)
def e_exit(h:X N sc (.exit id) Q env H):E P N sc (.exit id) Q env H:=λa w hs=>wp_exit (h a w hs)
def Ysn{c:Code}(h:E P N sc c (Exit.inBlock id Q) env H):E P N sc (.block id c) Q env H:=λa w hs=>wp_block (h a w hs)
def e_reg{l:List Oper}(h:L P N sc l.toArray l Q env H):E P N sc (.region id l.toArray false) Q env H:=λa w hs=>wp_region_lit (h a w hs)
def Ze[Decidable p](e:ev env c=some (.bool (decide p)))(g:p->E P N sc x Q env H)(f:¬p->E P N sc y Q env H) :
    E P N sc (.cond c x y) Q env H:=λa w hs=>
  wp_cond_split (hs.ev e) (λh=>g O4 a w hs) (λh=>f O4 a w hs)
def Pe(e:ev env c=some (.bool b))(g:b=true->E P N sc x Q env H)(f:b=false->E P N sc y Q env H) :
    E P N sc (.cond c x y) Q env H:=λa w hs=>
  wp_cond_split (hs.ev e) (λh=>g h a w hs) (λh=>f h a w hs)
def Ysl(e:ev env c=some (.bool true))(f:E P N sc x Q env H):E P N sc (.cond c x y) Q env H:=λa w hs=>
  wp_cond_true (hs.ev e) (f a w hs)
def Ysm(e:ev env c=some (.bool false))(f:E P N sc y Q env H):E P N sc (.cond c x y) Q env H:=λa w hs=>
  wp_cond_false (hs.ev e) (f a w hs)
def l_nil{ops:Array Oper}(h:X N sc .normal Q env H):L P N sc ops [] Q env H:=λa w hs=>wpList_nil (h a w hs)
def x_then(h:E P N sc y Q env H):X N sc .normal (Exit.then (y.wp P Q) Q) env H:=h
def x_ret(h:X N sc .ret Q env H):X N sc .ret (Exit.then K Q) env H:=h
def x_exit(h:X N sc (.exit id) Q env H):X N sc (.exit id) (Exit.then K Q) env H:=h
def x_bn(h:X N sc .normal Q env H):X N sc .normal (Exit.inBlock id Q) env H:=h
def x_br(h:X N sc .ret Q env H):X N sc .ret (Exit.inBlock id Q) env H:=h
theorem x_be(h:X N sc .normal Q env H):X N sc (.exit id) (Exit.inBlock id Q) env H:=λa w hs=>by show(if id=id then Q _ a w else Q _ a w);rw [aP rfl];exact h a w hs
theorem x_bo{e:Nat}(f:e≠id)(h:X N sc (.exit e) Q env H):X N sc (.exit e) (Exit.inBlock id Q) env H:=λa w hs=>by show(if e=id then Q _ a w else Q _ a w);rw [aJ f];exact h a w hs
theorem e_loop {c:Code} {G:Type} {h:G->Px} {B:G->Hp} (m:G->Prop) (μ:G->Nat) {R:G} (h₀:m R) (hs:Sub (h R) env) (hh:HSub (B R) H)
    (t:∀g,m g->E P N sc c (Exit.then (λa w=>∃u,m u/\μ u<μ g/\Sat N sc (h u) (B u) a w) Q) (h g) (B g)) :
    E P N sc (.loop c) Q env H:=by
  intro a0 w0 j;have h1:=j.weaken hs hh;suffices hx:∀n g,μ g=n->m g->∀a w,Sat N sc (h g) (B g) a w->(Code.loop c).wp P Q a w from hx _ _ rfl h₀ a0 w0 h1
  intro n g _ hg a w j b k I;have Z:∀n g,μ g=n->m g->∀a w,Sat N sc (h g) (B g) a w->
      ∃e F w',Q e F w'/\Arrives P (lone (b.at a (.code c::.inLoop c::k)) I w) b k I e F w':=by
    intro n
    induction n using Nat.strongRecOn with
    | _ n ih=>
      intro g hn hI a w j;obtain⟨e,z,D,q,f⟩:=t g hI a w j b _ I;cases e with
      | normal=>
        obtain⟨u,S,V,s⟩:=q;obtain⟨e₂,a₂,w₂,W,r⟩:=ih _ (hn▸V) u rfl S _ _ s;exact⟨e₂,a₂,w₂,W,.of_steps (Steps.trans f (.one step_inLoop)) r⟩
      | exit id=>exact⟨_,z,D,q,.pass rfl (λ_ _=> .inl O5) f⟩
      | goto l=>exact⟨_,z,D,q,.pass rfl (λ_ _=> .inl O5) f⟩
      | ret=>exact⟨_,z,D,q,.pass rfl (λ_ _=> .inl O5) f⟩
      | panic ch=>exact⟨_,z,D,q,.pass rfl (λ_ _=> .inl O5) f⟩
      | outgrown=>exact⟨_,z,D,q,.pass rfl (λ_ _=> .inl O5) f⟩
  obtain⟨e,F,w',q,f⟩:=Z _ g rfl hg a w j;exact⟨e,F,w',q,.of_steps (.one step_loop) f⟩
def Mr(P:Program)(N:Nat)(sc:Nat->Prop)(o:Oper)(env:Px)(H:Hp)(v:Value):Prop:=
  ∀a w,Sat N sc env H a w->(execOp a.eval o).run P w= .ok (.value v) w
def T(P:Program)(N:Nat)(sc:Nat->Prop)(M:Nat->Prop)(o:Oper)(env:Px)(H:Hp){G:Type}(φ:G->Prop)(env':G->Px)(H':G->Hp):Prop:=
  ∀a w,Sat N sc env H a w->∀K Q,(∀g e w',φ g->Sat N sc (env' g) (H' g) e w'->Chg M w w'->K e w')->o.wp P a w K Q
theorem l_det {ops:Array Oper}     (j:o.guard=none) (g:o.dst=some d) (f:Nat.blt d N=true) (k:Mr P N sc o env H v)
    (h:L P N sc ops rest Q ((d,v)::env) H):L P N sc ops (o::rest) Q env H:=λa w hs=>
  wpList_plain j λK e=>by unfold Oper.wp;rw [k a w hs];show K _ w;rw [g];exact e _ _ (h _ _ (hs.put d v f))
def l_step {ops:Array Oper}   {G:Type}  {φ:G->Prop} {e:G->Px} {k:G->Hp} (f:o.guard=none)
    (n:T P N sc M o env H φ e k) (h:∀g,φ g->L P N sc ops rest Q (e g) (k g)):L P N sc ops (o::rest) Q env H:=λa w hs=>
  wpList_plain f λK m=>n a w hs K Q λg l w' f j _=>m _ _ (h g f l w' j)
theorem Sat.yielded(h:Sat N sc env H a w){ops:Array Oper}{j:Nat}(l:(ops[j]?).bind (·.dst)=some d)(e:lk env d=some (.bool b))(k:Nat.blt d N=true) :
    yielded ops a.tmps j=some b:=by
  have g:=h.env d _ e;have f:d<a.tmps.size:=by rw [h.size];simp_all
  unfold Go.yielded;simp_all
theorem l_gdet {ops:Array Oper}     {j e:Nat}  (n:o.guard=some (j,b)) (q:(ops[j]?).bind (·.dst)=some e) (m:lk env e=some (.bool b))
    (f:Nat.blt e N=true) (l:o.dst=some d) (k:Nat.blt d N=true) (r:Mr P N sc o env H v)
    (h:L P N sc ops rest Q ((d,v)::env) H):L P N sc ops (o::rest) Q env H:=λa w hs=>
  wpList_step λK g=>by
    have t:=hs.yielded q m f;have s:Region.wanted o (yielded ops a.tmps)=true:=by simp [Region.wanted,n,t]
    rw [aP s];unfold Oper.wp;rw [r a w hs];show K _ w;rw [l];exact g _ _ (h _ _ (hs.put d v k))
theorem Yru {ops:Array Oper}   {G:Type}  {φ:G->Prop} {f:G->Px} {n:G->Hp} {j e:Nat}  (l:o.guard=some (j,b)) (t:(ops[j]?).bind (·.dst)=some e)
    (s:lk env e=some (.bool b)) (k:Nat.blt e N=true)
    (u:T P N sc M o env H φ f n) (h:∀g,φ g->L P N sc ops rest Q (f g) (n g)):L P N sc ops (o::rest) Q env H:=λa w hs=>
  wpList_step λK r=>by
    have B:=hs.yielded t s k;have z:Region.wanted o (yielded ops a.tmps)=true:=by simp [Region.wanted,l,B]
    rw [aP z];exact u a w hs K Q λg q w' l m _=>r _ _ (h g l q w' m)
theorem Yrv {ops:Array Oper}    {j e:Nat} {g:Bool} (r:o.guard=some (j,b)) (s:(ops[j]?).bind (·.dst)=some e) (q:lk env e=some (.bool g))
    (f:Nat.blt e N=true) (m:(g == b)=false) (n:o.dst=some d) (l:Nat.blt d N=true)
    (h:L P N sc ops rest Q ((d,undef)::env) H):L P N sc ops (o::rest) Q env H:=λa w hs=>
  wpList_step λK k=>by
    have u:=hs.yielded s q f;have t:Region.wanted o (yielded ops a.tmps)=false:=by simp [Region.wanted,r,u];grind
    rw [t,n];exact k _ _ (h _ _ (hs.put d _ l))
theorem Zy (d:Nat) {ops:Array Oper}    [Decidable p] (g:lk env d=some (.bool (decide p)))
    (k:p->L P N sc ops rest Q ((d,.bool true)::env) H) (j:¬p->L P N sc ops rest Q ((d,.bool false)::env) H):L P N sc ops rest Q env H:=λa w hs=>by
  by_cases h:p
  . refine k h a w ⟨hs.size,hs.defers,λt v e=>?_,hs.hold,hs.sep,hs.scope⟩;by_cases f:d=t
    . subst f;rw [Yv]at e;have:=hs.env _ _ g;grind
    . rw [Yc _ _ f]at e;exact hs.env _ _ e
  . refine j h a w ⟨hs.size,hs.defers,λt v e=>?_,hs.hold,hs.sep,hs.scope⟩;by_cases f:d=t
    . subst f;rw [Yv]at e;have:=hs.env _ _ g;grind
    . rw [Yc _ _ f]at e;exact hs.env _ _ e
section
variable {ops:Array Oper} {md:Region.Mode} {C:World->World->Prop}
def Dr(ops:Array Oper)(ts:List Nat)(listed:Array Bool):Bool:=(List.range ops.size).all λj=>ts.contains j || listed.getD j true
def Hy(P:Program)(md:Region.Mode)(ops:Array Oper)(ts:List Nat)(C:World->World->Prop)(Q:Exit->Act->World->Prop):Nat->Array Bool->Act->World->Prop
  | 0,listed,a,w=>Region.ready md ops listed=[]/\Q .normal a w
  | e+1,listed,a,w=>if Dr ops ts listed=true then wpAny P md ops Q (e+1) listed a w else
    (Region.ready md ops listed=[]->Q .normal a w)/\
    ∀i∈Region.ready md ops listed,wpOp P ops Q i (λf w'=>C w w'/\Hy P md ops ts C Q e (listed.setIfInBounds i true) f w') a w
theorem Zff{ts:List Nat} : ∀(e:Nat) (listed:Array Bool) (a:Act) (w:World),Hy P md ops ts C Q e listed a w->wpAny P md ops Q e listed a w
  | 0,_,_,_,h=>h
  | e+1,listed,_,_,h=>by
    unfold Hy at h;split at h
    . exact h
    . exact⟨h.1,λi hi=>wpOp_mono (λ_ _ f=>Zff _ _ _ _ f.2) (h.2 i hi)⟩
def YieldsC(P:Program)(ops:Array Oper)(C:World->World->Prop)(o:Oper)(v:Value)(a:Act)(w:World):Prop:=
  (Region.wanted o (yielded ops a.tmps)=true/\∀w',C w w'->(execOp a.eval o).run P w'= .ok (.value v) w')\/
  (Region.wanted o (yielded ops a.tmps)=false/\v=undef)
theorem YieldsC.wpOp      (hi:ops[i]? = some o) (e:C w w) (j:YieldsC P ops C o v a w)
     (h:K (a.put o.dst v) w):wpOp P ops Q i K a w:=by
  unfold Go.wpOp;rcases j with⟨f,g⟩|⟨f,rfl⟩
  . simp only [f,jF,Oper.wp,g w _,Oper.upon];grind
  grind
theorem YieldsC.of_same {o:Oper} {v:Value} {a e:Act} {w:World} (h:YieldsC P ops C o v a w) (f:execOp e.eval o=execOp a.eval o)
    (g:Region.wanted o (yielded ops e.tmps)=Region.wanted o (yielded ops a.tmps)):YieldsC P ops C o v e w:=by
  unfold YieldsC at *;grind
theorem YieldsC.later(e:∀a b c,C a b->C b c->C a c)(l:YieldsC P ops C o v a w)(h:C w w'):YieldsC P ops C o v a w':=by
  rcases l with⟨k,f⟩|f
  . exact .inl ⟨k,λg j=>f g (e _ _ _ h j)⟩
  . exact .inr f
theorem Yee {j:Nat} {g:Oper}  (G:ops[j]? = some g) (s:oi.apart ops g=true)
    (t:∀m b,oi.op≠ .select m b) (l:∀m b,g.op≠ .select m b)
    (S:∀c a w,Q (.panic c) (a.put oi.dst v) w->Q (.panic c) a w)    
    (F:∀a k,Y a->execOp k.eval oi=execOp a.eval oi->Region.wanted oi (yielded ops k.tmps)=Region.wanted oi (yielded ops a.tmps)->Y k) (z:Y a)
    (h:wpOp P ops Q j K (a.put oi.dst v) w) :
    wpOp P ops Q j (λk w'=>Y k/\K (k.put oi.dst v) w') a w:=by
  obtain⟨q,R,D⟩:=Oper.apart_spec s;have Xu:=λa z u=>
    F _ _ z (execOp_put oi t a _ u D) (wanted_put oi a _ u D)
  have B:∀d,Y { a with defers:=d::a.defers }:=λd=>F _ _ z rfl rfl;unfold Go.wpOp at *;simp only [G]at *;rw [wanted_put g a _ v q]at h;split
  . rename_i I;simp only [I,jF]at h;rcases h with h|⟨e,f⟩
    case inr=>exact .inr ⟨by unfold Oper.asks at *;rw [execOp_put g l a _ v q]at e;omega,f⟩
    unfold Oper.wp at *;rw [execOp_put g l a _ v q]at h;generalize (execOp _ g).run P w=r at *;cases r with
    | ok n w'=>
      cases n<;>simp only [Oper.upon]at h ⊢
      all_goals grind [Act.put_comm,Act.put_defers,Calls.mono,Rows.mono]
    | halt x w'=>
      cases x<;>simp only [Oper.upon]at h ⊢;grind
  grind [Act.put_comm]
theorem Zfi(hi:ops[i]? = some o)(e:i ∉ ts)(f:listed.getD i true=false):Dr ops ts listed=false:=by
  cases h:Dr ops ts _ with
  | false=>rfl
  | true=>
    unfold Dr at h;grind
theorem Zbx     (hi:ops[i]? = some oi) (t:∀(j:Nat) (o:Oper) z b,ops[j]? = some o->o.op≠ .select z b)
    (G:i ∉ ts) (a1:∀(j:Nat) (n:Oper),j∈ts->ops[j]? = some n->∃e∈n.after,Region.binds md e=true/\e.on=i)
    (f:∀w,C w w) (s:∀a b c,C a b->C b c->C a c)
    (hQ:∀c a w,Q (.panic c) (a.put oi.dst v) w->Q (.panic c) a w) :
    ∀(g:Nat) (listed:Array Bool) (a:Act) (w:World),
      (∀j n,ops[j]? = some n->j≠i->listed.getD j true=false->(∀e∈n.after,Region.binds md e=true->e.on≠i)->oi.apart ops n=true)->
      i∈Region.ready md ops listed->YieldsC P ops C oi v a w->
      Hy P md ops ts C Q g (listed.setIfInBounds i true) (a.put oi.dst v) w->Hy P md ops ts C Q (g+1) listed a w:=by
  intro g
  induction g with
  | zero=>
    intro listed a w _ S u H;have a0:=Zfi hi G (mem_ready.1 S).1;unfold Hy;rw [aJ O4];refine⟨λh=>O4,λj R=>?_⟩;by_cases l:j=i
    . subst l;exact u.wpOp hi (f w) ⟨f w,H⟩
    . have:=ready_mono R l;rw [H.1]at this;grind
  | succ g ih=>
    intro listed a w m S u H;have a0:=Zfi hi G (mem_ready.1 S).1;unfold Hy;rw [aJ O4];refine⟨λh=>O4,λj R=>?_⟩;by_cases l:j=i
    . subst l;exact u.wpOp hi (f w) ⟨f w,H⟩
    . obtain⟨D,n,r,a2⟩:=mem_ready.1 R;have F:∀e∈n.after,Region.binds md e=true->e.on≠i:=λe he hb a4=>by grind [mem_ready,Nat.lt_or_ge,Array.getElem?_eq_none]
      have B:j ∉ ts:=λhm=>by grind
      have a3:Dr ops ts (listed.setIfInBounds i true)=false:=Zfi r B (by simp_all [getD_set_ne,fB]);unfold Hy at H;rw [aJ O4]at H;have h1:=H.2 j (ready_mono R l);have h2:=Yee (Y:=λa=>YieldsC P ops C oi v a w) r (m j n r l D F) (λz b=>t i oi z b hi) (λz b=>t j n z b r) hQ
        (λa a' u he hw=>YieldsC.of_same u he hw) u h1
      have q:∀k I,ops[k]? = some I->k≠i->(listed.setIfInBounds j true).getD k true=false->
          (∀e∈I.after,Region.binds md e=true->e.on≠i)->oi.apart ops I=true:=λk I hk W a6 Z=>by
        refine m k I hk W ?_ Z;by_cases a5:j=k
        all_goals simp_all
      refine wpOp_mono (λa' w' V=>⟨V.2.1,ih (listed.setIfInBounds j true) a' w' q (ready_mono S (fB l)) (V.1.later s V.2.1) ?_⟩) h2;grind [Array.setIfInBounds_comm]
end
def drp:Nat->Hp->Hp
  | _,[]=>[]
  | k,(i,p)::r=>cond (Nat.beq i k) (drp k r) ((i,p)::drp k r)
theorem Fu:∀(k:Nat) (H:Hp) (i:Nat) (p:Pc),lk (drp k H) i=some p->i≠k/\lk H i=some p
  | _,[],_,_,h=>by cases h
  | k,(j,q)::r,i,p,h=>by
    unfold drp at h;cases hb:Nat.beq j k with
    | true=>
      rw [hb]at h;obtain⟨g,l⟩:=Fu k r i p h;have:=eF hb;refine⟨g,?_⟩;rw [Yc _ _ O];exact l
    | false=>
      rw [hb]at h;simp only [cond_false]at h;by_cases f:j=i
      . refine⟨λe=>?_,by grind [Yv]⟩;simp_all
      . rw [Yc _ _ f]at h ⊢;exact Fu k r i p h
def LD(P:Program)(N:Nat)(sc:Nat->Prop)(M:Nat->Prop)(ops:Array Oper)(F:Px->Hp->Prop):List (Nat×Nat)->Px->Hp->Prop
  | [],env,H=>F env H
  | (i,0)::rest,env,H=>∃o d v,ops[i]? = some o/\o.dst=some d/\Nat.blt d N=true/\
      (∀a w,Sat N sc env H a w->Region.wanted o (yielded ops a.tmps)=true/\∀w',Chg M w w'->(execOp a.eval o).run P w'= .ok (.value v) w')/\LD P N sc M ops F rest ((d,v)::env) H
  | (i,1)::rest,env,H=>∃(o:Oper) (G:Type) (φ:G->Prop) (e:G->Px) (f:G->Hp),ops[i]? = some o/\
      (∀a w,Sat N sc env H a w->Region.wanted o (yielded ops a.tmps)=true)/\T P N sc M o env H φ e f/\∀g,φ g->LD P N sc M ops F rest (e g) (f g)
  | (i,3)::rest,env,H=>∃(o:Oper) (G:Type) (φ:G->Prop) (e:G->Px) (f:G->Hp),ops[i]? = some o/\
      (∀a w,Sat N sc env H a w->Region.wanted o (yielded ops a.tmps)=true)/\T P N sc (λ_=>True) o env H φ e f/\∀g,φ g->LD P N sc M ops F rest (e g) (f g)
  | (i,_)::rest,env,H=>∃o d,ops[i]? = some o/\o.dst=some d/\Nat.blt d N=true/\
      (∀a w,Sat N sc env H a w->Region.wanted o (yielded ops a.tmps)=false)/\LD P N sc M ops F rest ((d,undef)::env) H
def Zdb:List (Nat×Nat)->List Nat
  | []=>[]
  | (i,3)::rest=>i::Zdb rest
  | _::rest=>Zdb rest
def Ew(ops:Array Oper)(ts:List Nat):List (Nat×Nat)->Array Bool->Bool
  | [],_=>true
  | (i,1)::rest,listed=>(Region.ready .any ops listed == [i]) && !(Dr ops ts listed) && Ew ops ts rest (listed.setIfInBounds i true)
  | (i,3)::rest,listed=>(Region.ready .any ops listed == [i]) && Dr ops ts listed && Ew ops ts rest (listed.setIfInBounds i true)
  | (i,_)::rest,listed=>(Region.ready .any ops listed).contains i && Region.free .any ops listed i && !(ts.contains i) &&
      ts.all (λj=>match ops[j]? with|some f=>f.after.any (λe=>Region.binds .any e && e.on == i)|none=>true) && Ew ops ts rest (listed.setIfInBounds i true)
def Cu:List (Nat×Nat)->Array Bool->Array Bool
  | [],listed=>listed
  | (i,_)::rest,listed=>Cu rest (listed.setIfInBounds i true)
def Cw(Q:Exit->Act->World->Prop):Exit->Act->World->Prop
  | .normal,a,w=>Q .normal a w
  | _,_,_=>False
theorem Zrg {ops:Array Oper}   (h:ts.all (λj=>match ops[j]? with|some f=>f.after.any (λe=>Region.binds .any e && e.on == i)|none=>true)=true)
    (j:Nat) (f:Oper) (g:j∈ts) (k:ops[j]? = some f):∃e∈f.after,Region.binds .any e=true/\e.on=i:=by
  grind
def A(P:Program)(N:Nat)(sc:Nat->Prop)(M:Nat->Prop)(ops:Array Oper)(ts:List Nat)(Q:Exit->Act->World->Prop)(n:Nat)(listed:Array Bool)(env:Px)(H:Hp):Prop:=
  ∀a w,Sat N sc env H a w->Hy P .any ops ts (Chg M) (Cw Q) n listed a w
theorem LD.sound{M:Nat->Prop}{ops:Array Oper}{ts:List Nat}{F:Px->Hp->Prop}{n:Nat}(f:Region.noSelect ops=true):∀(plan:List (Nat×Nat)) (listed:Array Bool) (env:Px) (H:Hp),Ew ops ts plan listed=true->
    LD P N sc M ops F plan env H->(∀env H,F env H->A P N sc M ops ts Q n (Cu plan listed) env H)->A P N sc M ops ts Q (plan.length+n) listed env H
  | [],listed,env,H,l,h,q,a,w,hs=>by simpa [Cu]using q _ _ h a w hs
  | (i,0)::rest,listed,env,H,l,h,q,a,w,hs=>by simp only [Ew,aY]at l;obtain⟨⟨⟨⟨z,I⟩,R⟩,r⟩,l⟩:=l;obtain⟨o,d,v,m,hd,D,u,e⟩:=h;obtain⟨V,u⟩:=u a w hs;have ih:=LD.sound f rest (listed.setIfInBounds i true) _ _ l e q _ w (hs.put d v D);show Hy P .any ops ts (Chg M) (Cw Q) ((rest.length+1)+n) listed a w;rw [fV];refine Zbx m (Region.noSelect_spec f) O4 (Zrg r) (Chg.refl M) (λ_ _ _=>Chg.trans) (λ_ _ _ h=>h.elim) (rest.length+n) listed a w (Region.free_spec m I) O4 (.inl ⟨V,u⟩) ?_;grind
  | (i,1)::rest,listed,env,H,l,h,q,a,w,hs=>by simp only [Ew,aY,mS,fE]at l;obtain⟨⟨z,S⟩,l⟩:=l;obtain⟨o,G,φ,B,gH,m,V,ht,e⟩:=h;show Hy P .any ops ts (Chg M) (Cw Q) ((rest.length+1)+n) listed a w;rw [fV];unfold Hy;rw [aJ O4];refine⟨λh0=>O4,λj s=>?_⟩;rw [z]at s;have s:=cF.1 s;subst s;unfold wpOp;simp only [m,V a w hs,jF];exact .inl (ht a w hs _ _ λg W w' Z t hc=>⟨hc,LD.sound f rest _ _ _ l (e g Z) q W w' t⟩)
  | (i,3)::rest,listed,env,H,l,h,q,a,w,hs=>by simp only [Ew,aY,mS]at l;obtain⟨⟨z,S⟩,l⟩:=l;obtain⟨o,G,φ,B,gH,m,V,ht,e⟩:=h;show Hy P .any ops ts (Chg M) (Cw Q) ((rest.length+1)+n) listed a w;rw [fV];unfold Hy;rw [aP S];refine⟨λh0=>O4,λj s=>?_⟩;rw [z]at s;have s:=cF.1 s;subst s;unfold wpOp;simp only [m,V a w hs,jF];exact .inl (ht a w hs _ _ λg W w' Z t _=>Zff _ _ _ _ (LD.sound f rest _ _ _ l (e g Z) q W w' t))
  | (i,2)::rest,listed,env,H,l,h,q,a,w,hs=>by simp only [Ew,aY]at l;obtain⟨⟨⟨⟨z,I⟩,R⟩,r⟩,l⟩:=l;obtain⟨o,d,m,hd,D,u,e⟩:=h;have ih:=LD.sound f rest (listed.setIfInBounds i true) _ _ l e q _ w (hs.put d undef D);show Hy P .any ops ts (Chg M) (Cw Q) ((rest.length+1)+n) listed a w;rw [fV];refine Zbx m (Region.noSelect_spec f) O4 (Zrg r) (Chg.refl M) (λ_ _ _=>Chg.trans) (λ_ _ _ h=>h.elim) (rest.length+n) listed a w (Region.free_spec m I) O4 (.inr ⟨u a w hs,rfl⟩) ?_;grind
  | (i,(k+4))::rest,listed,env,H,l,h,q,a,w,hs=>by simp only [Ew,aY]at l;obtain⟨⟨⟨⟨z,I⟩,R⟩,r⟩,l⟩:=l;obtain⟨o,d,m,hd,D,u,e⟩:=h;have ih:=LD.sound f rest (listed.setIfInBounds i true) _ _ l e q _ w (hs.put d undef D);show Hy P .any ops ts (Chg M) (Cw Q) ((rest.length+1)+n) listed a w;rw [fV];refine Zbx m (Region.noSelect_spec f) O4 (Zrg r) (Chg.refl M) (λ_ _ _=>Chg.trans) (λ_ _ _ h=>h.elim) (rest.length+n) listed a w (Region.free_spec m I) O4 (.inr ⟨u a w hs,rfl⟩) ?_;grind
def Sat.drew(h:Sat N sc env H a w):Sat N sc env H a { w with drawn:=w.drawn+1 }:=
  ⟨h.size,h.defers,h.env,λi e hi=>e.stable w _ (h.hold i e hi) ⟨rfl,rfl,rfl,aF _,λ_ _ _=>rfl⟩,h.sep,h.scope⟩
theorem Zu{ops:Array Oper}(h:X N sc .normal Q env H)(e:(Region.ready .any ops listed).isEmpty=true:=by kernel_rfl):A P N sc M ops ts Q 0 listed env H:=
  λa w hs=>⟨O4,h a w hs⟩
def Zf6(P:Program)(N:Nat)(sc:Nat->Prop)(M:Nat->Prop)(ops:Array Oper)(ts:List Nat)(Q:Exit->Act->World->Prop)(n:Nat)(listed:Array Bool)(env:Px)(H:Hp)(i:Nat):Prop:=
  ∃(o:Oper) (G:Type) (φ:G->Prop) (e:G->Px) (f:G->Hp),ops[i]? = some o/\o.guard=none/\T P N sc M o env H φ e f/\∀g,φ g->A P N sc M ops ts Q n (listed.setIfInBounds i true) (e g) (f g)
theorem Yos  {ops:Array Oper}   {n:Nat} (m:List Nat) (f:((Region.ready .any ops listed == m) && !(Dr ops ts listed) && !m.isEmpty)=true)
    (h:∀i∈m,Zf6 P N sc M ops ts Q n listed env H i):A P N sc M ops ts Q (n+1) listed env H:=λa w hs=>by
  simp only [aY,mS,fE]at f;obtain⟨⟨f,D⟩,u⟩:=f;unfold Hy;rw [aJ O4];refine⟨λI=>?_,λj r=>?_⟩
  . grind
  . rw [f]at r;obtain⟨o,G,φ,q,F,z,k,B,e⟩:=h j r;unfold wpOp;simp only [z,Region.wanted,k,jF];exact .inl (B a w hs _ _ λg s w' k l t=>⟨t,e g k s w' l⟩)
theorem a_lin  {l:List Oper}  {n m:Nat}  {F:Px->Hp->Prop} (plan:List (Nat×Nat)) 
    (f:(Region.noSelect l.toArray && Ew l.toArray ts plan listed && Nat.beq (plan.length+n) m)=true) (h:LD P N sc M l.toArray F plan env H)
    (e:∀env H,F env H->A P N sc M l.toArray ts Q n (Cu plan listed) env H):A P N sc M l.toArray ts Q m listed env H:=by
  grind [Nat.eq_of_beq_eq_true,LD.sound]
theorem Lk  {l:List Oper} (M:Nat->Prop) (ts:List Nat) 
    (h:A P N sc M l.toArray ts Q l.length (Array.replicate l.length false) env H) (g:P.follows .mixedOrders=true:=by kernel_rfl):E P N sc (.region id l.toArray true) Q env H:=λa w hs=>by
  refine Code.wp_mono (Q:=Cw Q) (λe a w f=>by cases e<;>first|exact f|exact f.elim) ?_;refine wp_region_any g (Zff (C:=Chg M) (ts:=ts) _ _ _ _ ?_);simpa using h a _ hs.drew
theorem e_dreg  {l:List Oper} (M:Nat->Prop)  (n:P.follows .mixedOrders=true)
    (f:(Region.noSelect l.toArray && Nat.beq plan.length l.length && Ew l.toArray (Zdb plan) plan (Array.replicate l.length false) &&
      (Region.ready .any l.toArray (Cu plan (Array.replicate l.length false))).isEmpty)=true)
    (h:LD P N sc M l.toArray (X N sc .normal Q) plan env H):E P N sc (.region id l.toArray true) Q env H:=by
  simp only [aY]at f;obtain⟨⟨⟨g,e⟩,j⟩,k⟩:=f;have e:=eF e;refine Lk M (Zdb plan) ?_ n;have:=LD.sound g _ _ env H j h (λenv H m=>Zu m k);grind
end Go.Sky
namespace Go.Sky
open Go.RowKit Below
variable{w:World}{v:Value}{t t' tb:TypeId}{o:Oper}{x c y:Operand}{i b:Nat}{vs cs:Array Value}{p:Pc}{m:Int}{kd:IntKind}
variable {P:Program} {N:Nat} {sc:Nat->Prop} {env env':Px} {H H':Hp} {Q Q':Exit->Act->World->Prop}
def Xu(f:World)(M:Nat->Prop):Pc:=
  { own:=false,fp:=λb=>b<f.heap.size/\¬M b,holds:=λw=>Chg M f w
    lt:=λw b h g=>dP g.1 h.size
    stable:=λw l h a=>⟨a.os.trans h.os,a.tape.trans h.tape,a.output.trans h.output,aB h.size a.size,
      λk d e=>(a.block k (dP d h.size) (λj=>j ⟨d,e⟩)).trans (h.block k d e)⟩ }
def box(b:Nat)(t:TypeId)(cs:Array Value):Pc:=
  { own:=true,fp:=λk=>k=b,holds:=λw=>w.heap[b]? = some (.cells cs t (0,0))
    lt:=λw k h d=>by subst d;exact(aT.1 h).1
    stable:=λw f h a=>by rw [<-h];exact a.block b (aT.1 h).1 (λe=>e rfl) }
def cellsOf{α:Type}(enc:α->Value)(xs:List α):List Value:=xs.flatMap λx=>(enc x).cells.toList
def RowAt{α:Type}(w:World)(k:Nat)(enc:α->Value)(v:Value)(xs:List α):Prop:=
  ∃a c,v= .slice a xs.length c/\xs.length<=c/\c<=maxLen/\(xs=[]\/∃g d,a=some ⟨g,d,none⟩/\
    ∀i x,xs[i]? = some x->∀j u,(enc x).cells.toList[j]? = some u->w.cell? ⟨g,d+i*k+j,none⟩=some u)
theorem RowAt.same{α:Type}{w':World}{k:Nat}{enc:α->Value}{xs:List α}(h:RowAt w k enc v xs)(r:∀b,xs≠[]/\v.ownBlock=some b->w'.heap[b]? = w.heap[b]?):RowAt w' k enc v xs:=by
  obtain⟨a,c,rfl,d,e,f⟩:=h;rcases f with f|⟨g,l,rfl,q⟩
  . exact⟨a,c,rfl,d,e,.inl f⟩
  by_cases n:xs=[]
  . exact⟨_,c,rfl,d,e,.inl n⟩
  refine⟨_,c,rfl,d,e,.inr ?_⟩;refine⟨g,l,rfl,λi x hi j u s=>?_⟩;rw [<-q i x hi j u s];exact World.cell?_of_block (r g ⟨n,rfl⟩)
def Yl{α:Type}(k:Nat)(enc:α->Value)(v:Value)(xs:List α):Pc:=
  { own:=false,fp:=λb=>xs≠[]/\v.ownBlock=some b,holds:=λw=>RowAt w k enc v xs/\∀b,xs≠[]/\v.ownBlock=some b->b<w.heap.size
    lt:=λw b h a=>h.2 b a
    stable:=λw f h d=>⟨h.1.same λb a=>d.block b (h.2 b a) (λe=>e a),λb a=>dP (h.2 b a) d.size⟩ }
def Oe{α:Type}(k:Nat)(e:TypeId)(enc:α->Value)(v:Value)(xs:List α):Pc:=
  { own:=true,fp:=λb=>v.ownBlock=some b,holds:=λw=>w.ownsRow 0 e k v xs.length (cellsOf enc xs)
    lt:=λw b h l=>(h.lt b l).2
    stable:=λw r h q=>by
      refine⟨h.1,?_⟩;rcases h.2 with n|⟨g,f,j,rfl,l,a,d⟩
      . exact .inl n
      . refine .inr ⟨g,f,j,rfl,l,?_,d⟩;rw [<-a];exact q.block g (aT.1 a).1 (λn=>n rfl) }
structure Enc {α:Type} (P:Program) (t:TypeId) (k:Nat) (enc:α->Value):Prop where
  pos:0<k
  cells:∀x,(enc x).cells.size=k
  one:∀x,∀u∈(enc x).cells.toList,u.oneCell'=true
  size:∀w,(sizeOf t).run P w= .ok k w
  load:∀x w ad,(∀j u,(enc x).cells.toList[j]? = some u->w.cell? (ad.add j)=some u)->(loadVar t ad).run P w= .ok (enc x) w
theorem Enc.flat{α:Type}{enc:α->Value}(hs:∀w,(sizeOf t).run P w= .ok 1 w)(e:∀w,(isAgg t).run P w= .ok false w)(d:∀x,(enc x).oneCell'=true):Enc P t 1 enc:=by
  have g:∀x,(enc x).cells=#[enc x]:=λx=>by have:=d x;cases hx:enc x<;>simp_all [Value.cells,Value.oneCell']
  refine⟨O5,λx=>O4,λx u j=>?_,hs,λx w f h=>?_⟩
  . grind
  . have a:=h 0 (enc x) O4;simp only [Addr.add,jF]at a;simp [loadVar,e,a]
theorem Enc.agg {α:Type}  {k:Nat} {enc:α->Value} (n:0<k) (hs:∀w,(sizeOf t).run P w= .ok k w) (l:∀w,(isAgg t).run P w= .ok true w)
    (d:∀x,∃cs:List Value,enc x= .agg cs.toArray/\cs.length=k/\∀u∈cs,u.oneCell'=true):Enc P t k enc:=by
  refine⟨n,λx=>?_,λx u q=>?_,hs,λx w j h=>?_⟩
  . obtain⟨cs,a,e,f⟩:=d x;rw [a];assumption
  . obtain⟨cs,a,e,f⟩:=d x;rw [a]at q;exact f u ‹_›
  . obtain⟨cs,a,e,f⟩:=d x;rw [a]at h ⊢;have g:=run_loadCells_list (P:=P) w j cs ‹_›;rw [e]at g;simp [loadVar,l,hs,g]
theorem Xo{α:Type}{k:Nat}{enc:α->Value}(a:∀x,(enc x).cells.size=k):∀xs:List α,(cellsOf enc xs).length=xs.length*k
  | []=>by simp [cellsOf]
  | x::r=>by have d:=Xo a r;simp only [cellsOf,fF,aO,fJ,bX]at d ⊢;rw [a x,cL];omega
theorem Gf{α:Type}{k:Nat}{enc:α->Value}(a:∀x,(enc x).cells.size=k):∀(xs:List α) (i:Nat) (x:α),xs[i]? = some x->∀j u,(enc x).cells.toList[j]? = some u->(cellsOf enc xs)[i*k+j]? = some u
  | [],_,_,h,_,_,_=>O4
  | y::r,0,x,h,j,u,hu=>by simp only [cellsOf,fF,fW,cD];grind
  | y::r,i+1,x,h,j,u,hu=>by have d:=Gf a r i x (by simpa using h) j u hu;simp only [cellsOf,fF]at d ⊢;rw [jK (by simp [a,cL];omega)];rw [<-d];congr 1;simp [a,cL];omega
def Rd{α:Type}(p:Pc)(k:Nat)(enc:α->Value)(v:Value)(xs:List α):Prop:=∀w,p.holds w->RowAt w k enc v xs
def Zl{α:Type}{k:Nat}{enc:α->Value}{xs:List α} : Rd (Yl k enc v xs) k enc v xs:=λw h=>h.1
theorem Au{α:Type}{k:Nat}{e:TypeId}{enc:α->Value}{xs:List α}(s:∀x,(enc x).cells.size=k)(h:w.ownsRow 0 e k v xs.length (cellsOf enc xs)):RowAt w k enc v xs:=by
  rcases h.2 with⟨rfl,D⟩|⟨g,d,r,rfl,_,l,n,f,z,a⟩
  . have:=aC D;subst this;exact⟨none,0,rfl,aF _,O5,.inl rfl⟩
  . refine⟨_,d,rfl,n,f,.inr ⟨g,0,rfl,λi x hi j u B=>?_⟩⟩;have q:=Gf s xs i x hi j u B;rw [<-a,lX]at q;split at q
    . simp only [World.cell?,l];grind
    grind
def Yb{α:Type}{k:Nat}{e:TypeId}{enc:α->Value}{xs:List α}(a:Enc P t k enc):Rd (Oe k e enc v xs) k enc v xs:=λw h=>Au a.cells h
theorem Ol(g o n:Nat):(⟨g,o,none⟩:Addr).add n=⟨g,o+n,none⟩:=by unfold Addr.add;all_goals grind
def ead(v:Value)(i k:Nat):Addr:=match v with
  | .slice (some a) _ _=>a.add (i*k)
  | _=>default
theorem Zdm(d:o.op= .move x)(e:ev env x=some v):Mr P N sc o env H v:=λa w hs=>by simp only [execOp,d,hs.ev e];rfl
theorem d_as(d:o.op= .assign x)(e:ev env x=some v):Mr P N sc o env H v:=λa w hs=>by simp only [execOp,d,hs.ev e];rfl
theorem Zze(d:o.op= .extract x i)(f:ev env x=some (.tuple vs))(e:vs[i]? = some v):Mr P N sc o env H v:=λa w hs=>by simp [execOp,d,hs.ev f,Instr.extract,e]
theorem d_nc{d:Addr}(e:o.op= .nilCheck x)(f:ev env x=some (.pointer (some d))):Mr P N sc o env H (.pointer (some d)):=λa w hs=>by simp [execOp,e,hs.ev f]
theorem d_not{p:Prop}[Decidable p](d:o.op= .unOp .not t x)(e:ev env x=some (.bool (decide p))):Mr P N sc o env H (.bool (decide (¬p))):=λa w hs=>by simp [execOp,d,hs.ev e,Op.unary]
theorem Qn{b:Bool}(d:o.op= .unOp .not t x)(e:ev env x=some (.bool b)):Mr P N sc o env H (.bool (!b)):=λa w hs=>by simp [execOp,d,hs.ev e,Op.unary]
theorem Bz(e:o.op= .pick c x y)(d:ev env c=some (.bool true))(f:ev env x=some v):Mr P N sc o env H v:=λa w hs=>by simp [execOp,e,hs.ev d,hs.ev f,asBool]
theorem Zes(e:o.op= .pick c x y)(d:ev env c=some (.bool false))(f:ev env y=some v):Mr P N sc o env H v:=λa w hs=>by simp [execOp,e,hs.ev d,hs.ev f,asBool]
def Lo(n:Int):Prop:=-9223372036854775808<=n/\n<=9223372036854775807
theorem Zbw{n:Int}(h:Lo n):IntKind.i64.wrap n=n:=by rw [IntKind.wrap_i64];obtain⟨a,d⟩:=h;omega
theorem wrap_u(n:Int):IntKind.u64.wrap n=n%18446744073709551616:=by rfl
theorem Eh  {d:BinOp}   {k:IntKind} {n:Int} {r:Value} (e:o.op= .binOp d t x y t') (g:ev env x=some (.int k m)) (h:ev env y=some (.int k n))
    (f:∀w,(binOp d t (.int k m) (.int k n)).run P w= .ok r w):Mr P N sc o env H r:=λa w hs=>by
  simp [execOp,e,hs.ev g,hs.ev h,eqGuard,f w]
theorem d_add{n:Int}(a:o.op= .binOp .add t x y t')(d:ev env x=some (.int .i64 m))(e:ev env y=some (.int .i64 n))(h:Lo (m+n):=by exact⟨O,O⟩) :
    Mr P N sc o env H (.int .i64 (m+n)):=Eh a d e λw=>by simp [binOp,Op.intArith,Zbw h]
theorem d_sub{n:Int}(a:o.op= .binOp .sub t x y t')(d:ev env x=some (.int .i64 m))(e:ev env y=some (.int .i64 n))(h:Lo (m-n)) :
    Mr P N sc o env H (.int .i64 (m-n)):=Eh a d e λw=>by simp [binOp,Op.intArith,Zbw h]
theorem d_mul{n:Int}(a:o.op= .binOp .mul t x y t')(d:ev env x=some (.int .i64 m))(e:ev env y=some (.int .i64 n))(h:Lo (m*n)) :
    Mr P N sc o env H (.int .i64 (m*n)):=Eh a d e λw=>by simp [binOp,Op.intArith,Zbw h]
theorem Zfb{n:Int}(e:o.op= .binOp .quo t x y t')(g:ev env x=some (.int .i64 m))(h:ev env y=some (.int .i64 n))(a:0<=m)(j:m<=9223372036854775807)(d:0<n) :
    Mr P N sc o env H (.int .i64 (m/n)):=Eh e g h λw=>by
  have f:Lo (m/n):=by have k:=iN a (dQ d);have l:=kF n a;exact⟨O,O⟩
  simp [binOp,Op.intDiv,Int.tdiv_eq_ediv_of_nonneg a,Zbw f];omega
theorem Znr{n:Int}(d:o.op= .binOp .rem t x y t')(e:ev env x=some (.int .i64 m))(f:ev env y=some (.int .i64 n))(a:0<=m)(g:0<n) :
    Mr P N sc o env H (.int .i64 (m%n)):=Eh d e f λw=>by
  simp [binOp,Op.intDiv,Int.tmod_eq_emod_of_nonneg a];omega
theorem Ym7{k:IntKind}{n:Int}(a:o.op= .binOp .lss t x y t')(d:ev env x=some (.int k m))(e:ev env y=some (.int k n)) :
    Mr P N sc o env H (.bool (decide (m<n))):=Eh a d e λw=>by simp [binOp,Op.intCmp]
theorem d_leq{k:IntKind}{n:Int}(a:o.op= .binOp .leq t x y t')(d:ev env x=some (.int k m))(e:ev env y=some (.int k n)) :
    Mr P N sc o env H (.bool (decide (m<=n))):=Eh a d e λw=>by simp [binOp,Op.intCmp]
theorem Zbp{k:IntKind}{n:Int}(a:o.op= .binOp .gtr t x y t')(d:ev env x=some (.int k m))(e:ev env y=some (.int k n)) :
    Mr P N sc o env H (.bool (decide (n<m))):=Eh a d e λw=>by simp [binOp,Op.intCmp]
theorem d_geq{k:IntKind}{n:Int}(a:o.op= .binOp .geq t x y t')(d:ev env x=some (.int k m))(e:ev env y=some (.int k n)) :
    Mr P N sc o env H (.bool (decide (n<=m))):=Eh a d e λw=>by simp [binOp,Op.intCmp]
theorem Ym8{k:IntKind}{n:Int}(a:o.op= .binOp .eql t x y t')(d:ev env x=some (.int k m))(e:ev env y=some (.int k n)) :
    Mr P N sc o env H (.bool (decide (m=n))):=Eh a d e λw=>by
  simp only [binOp,ne_eq,gT,mG,Op.intCmp];rfl
theorem Ym5{k:IntKind}{n:Int}(a:o.op= .binOp .neq t x y t')(d:ev env x=some (.int k m))(e:ev env y=some (.int k n)) :
    Mr P N sc o env H (.bool (decide (m≠n))):=Eh a d e λw=>by
  simp only [binOp,ne_eq,gT,mG,Op.intCmp,Sem.run_pure];grind
theorem Yc3 {α:Type}   {e:TypeId}  {k:Nat}  {enc:α->Value} {xs:List α} (f:o.op= .call { callee:= .builtin .len,args:=#[x],argTypes:=#[t] })
    (j:ev env x=some v) (d:lk H i=some p) (g:Rd p k enc v xs) (h:P.underlying t=some (.slice e)):Mr P N sc o env H (.int .i64 xs.length):=λa w hs=>by
  obtain⟨l,c,rfl,_⟩:=g w (hs.hold i p d);simp [execOp,f,resolve,hs.ev j,invoke,builtin,Builtin.len_,run_underlying h,goInt]
theorem d_lens    {s:ByteArray} (d:o.op= .call { callee:= .builtin .len,args:=#[x],argTypes:=#[t] })
    (f:ev env x=some (.string s)) (e:P.underlying t=some .string):Mr P N sc o env H (.int .i64 s.size):=λa w hs=>by
  simp [execOp,d,resolve,hs.ev f,invoke,builtin,Builtin.len_,run_underlying e,goInt]
theorem Zs (ii:Nat)(i:Nat) {α:Type}   {e:TypeId}  {k:Nat}    {enc:α->Value} {xs:List α} (n:o.op= .indexAddr t x y)
    (s:ev env x=some v) (u:ev env y=some (.int kd m)) (l:lk H ii=some p) (q:Rd p k enc v xs) (r:P.underlying t=some (.slice e)) (h:∀w,(sizeOf e).run P w= .ok k w)
      (d:m=(i:Int):=by omega) (f:i<xs.length:=by omega):Mr P N sc o env H (.pointer (some (ead v i k))):=λa w hs=>by
  obtain⟨B,c,rfl,D,F,j⟩:=q w (hs.hold ii p l);rcases j with rfl|⟨g,z,rfl,j⟩
  . grind
  . subst d;simp [execOp,n,hs.ev s,hs.ev u,Instr.indexAt,asIntOf,run_underlying r,h,f,ead]
theorem Yr (ii:Nat) {α:Type}     {k:Nat}  {enc:α->Value} {xs:List α} (f:α) (r:o.op= .load t x)
    (z:ev env x=some (.pointer (some (ead v i k)))) (h:lk H ii=some p) (s:Rd p k enc v xs) (l:Enc P t k enc)
     (q:i<xs.length:=by omega):Mr P N sc o env H (enc (xs.getD i f)):=λa w hs=>by
  obtain⟨B,c,rfl,D,F,d⟩:=s w (hs.hold ii p h);rcases d with rfl|⟨g,e,rfl,d⟩
  . grind
  . have hi:xs[i]? = some (xs.getD i f):=O4;have:=l.load _ w (ead (.slice (some ⟨g,e,none⟩) xs.length c) i k) (λj u n=>by have:=d i _ hi j u n;simp only [ead,Ol];omega)
    simp [execOp,r,hs.ev z,Instr.loadAt,Instr.sureAddr,this]
theorem Yc5    {s:ByteArray}    (j:o.op= .index t x y)
    (l:ev env x=some (.string s)) (n:ev env y=some (.int kd m)) (k:P.underlying t=some .string)
    (d:m=(i:Int)) (e:i<s.size):Mr P N sc o env H (.int .u8 ((s.data.toList.getD i 0).toNat:Int)):=λa w hs=>by
  subst d;have f:=getElem?_pos s i e;have g:s.data.toList.getD i 0=s[i]:=by
    have h:i<s.data.toList.length:=by assumption
    simp only [List.getD,aL h,eN];rfl
  rw [g];simp [execOp,j,hs.ev l,hs.ev n,Instr.index,asIntOf,run_underlying k,f]
theorem d_fa    {f:Nat} {g:Array Field} {e:Field} {k:Nat} {d q r:Nat} (l:o.op= .fieldAddr t x f)
    (z:ev env x=some (.pointer (some ⟨b,d,none⟩))) (u:P.underlying t=some (.struct g)) (h:g[f]? = some e) (j:∀w,(sizeOf e.type).run P w= .ok (k+1) w) (n:e.offset=q) (s:d+q=r) :
    Mr P N sc o env H (.pointer (some ⟨b,r,none⟩)):=λa w hs=>by
  subst s;subst n;simp [execOp,l,hs.ev z,Instr.fieldAt,run_underlying u,h,Instr.sureAddr,fieldPlace,j,Ol]
theorem Sat.boxc{a:Act}(hs:Sat N sc env H a w)(d:lk H i=some (box b t cs))(j:Nat):w.cell? ⟨b,j,none⟩=cs[j]?:=by have h:w.heap[b]? = some _:=hs.hold i _ d;simp [World.cell?,h]
theorem Yge (i:Nat)    {j:Nat}   (e:o.op= .load t x)
    (k:ev env x=some (.pointer (some ⟨b,j,none⟩))) (d:lk H i=some (box b tb cs)) (f:∀w,(isAgg t).run P w= .ok false w) (g:cs[j]? = some v):Mr P N sc o env H v:=λa w hs=>by
  have h:=hs.boxc d j;rw [g]at h;simp [execOp,e,hs.ev k,Instr.loadAt,Instr.sureAddr,loadVar,f,load,Sem.run,h]
theorem Yc4    {j k:Nat}  {vs:List Value} (h:o.op= .load t x)
    (q:ev env x=some (.pointer (some ⟨b,j,none⟩))) (e:lk H i=some (box b tb cs)) (l:∀w,(isAgg t).run P w= .ok true w) (f:∀w,(sizeOf t).run P w= .ok k w)
    (g:vs.length=k) (s:∀n u,vs[n]? = some u->cs[j+n]? = some u):Mr P N sc o env H (.agg vs.toArray):=λa w hs=>by
  have d:=run_loadCells_list (P:=P) w ⟨b,j,none⟩ vs (λn u r=>by rw [Ol,hs.boxc e];grind);rw [g]at d;simp [execOp,h,hs.ev q,Instr.loadAt,Instr.sureAddr,loadVar,l,f,d]
end Go.Sky
namespace Go.Sky
open Go.RowKit Below
variable{a:Act}{w w' w0:World}{M0:Nat->Prop}{o:Oper}{t:TypeId}{d i:Nat}{cs:Array Value}{x y:Operand}{v:Value}{p:Pc}{vs:List Value}{parts:Array (Nat×Operand)}
variable {P:Program} {N:Nat} {sc:Nat->Prop} {env env':Px} {H H':Hp} {Q Q':Exit->Act->World->Prop} {M:Nat->Prop}
def Chg.alloc(M:Nat->Prop)(w:World)(o:Obj):Chg M w (w.alloc o):=
 ⟨rfl,rfl,rfl,O5,λk b _=>heap_alloc_old w o k b⟩
def Sat.chg(h:Sat N sc env H a w)(f:∀fp:Nat->Prop,(∀b,fp b->b<w.heap.size)->Chg (λb=>¬fp b) w w'):Sat N sc env H a w':=
 ⟨h.size,h.defers,h.env,λi c hi=>c.stable w w' (h.hold i c hi) (f _ λb e=>c.lt w b (h.hold i c hi) e),h.sep,h.scope⟩
def Sat.chg0(h:Sat N sc env H a w)(b:Chg (λ_=>False) w w'):Sat N sc env H a w':=
 h.chg λf c=>⟨b.os,b.tape,b.output,b.size,λk e g=>b.block k e (λh=>h)⟩
theorem Sat.add   (h:Sat N sc env H a w) (i:Nat) (p:Pc) (D:p.holds w) (u:∀j e,j≠i->lk H j=some e->(p.own=true\/e.own=true)->∀b,p.fp b->e.fp b->False)
  (B:∀b,p.fp b->sc b):Sat N sc env ((i,p)::H) a w:=by
 refine⟨h.size,h.defers,h.env,λj e c=>?_,λj z e s k c f l b m n=>?_,λj e q c b m=>?_⟩
 .by_cases g:i=j
  .grind [Yv]
  .rw [Yc _ _ g]at c;exact h.hold j e c
 .by_cases g:i=j
  .subst g;rw [Yv]at c;rw [Yc _ _ k]at f;grind
  .rw [Yc _ _ g]at c;by_cases r:i=z
   .grind [Yv]
   .rw [Yc _ _ r]at f;exact h.sep j z e s k c f l b m n
 .by_cases g:i=j
  .grind [Yv]
  .rw [Yc _ _ g]at c;exact h.scope j e q c b m
def Wide(sc:Nat->Prop)(H:Hp):Prop:=∃w0 M,lk H 0=some (Xu w0 M)/\∀b,w0.heap.size<=b->sc b
theorem Sat.new   (h:Sat N sc env H a w)   (f:lk H 0=some (Xu w0 M0)) (q:∀b,w0.heap.size<=b->sc b) (i:Nat) (p:Pc) (o:Obj)
  (n:p.holds (w.alloc o)) (l:∀b,p.fp b->b=w.heap.size):Sat N sc env ((i,p)::H) a (w.alloc o):=by
 have g:=h.chg0 (Chg.alloc _ w o);have r:=(h.hold 0 _ f).size;refine g.add i p n (λj e _ m _ b k c=>?_) (λb k=>q b O4);have:=e.lt w b (h.hold j e m) c;grind
theorem Zkb (i:Nat)    {z:Value}    (k:o.op= .alloc t) (j:o.dst=some d) (f:Nat.blt d N=true)
  (n:∀w,(zeroValue t).run P w= .ok z w) (h:z.cells=cs) (c:lk H 0=some (Xu w0 M0)) (m:∀b,w0.heap.size<=b->sc b) :
  T P N sc M o env H (G:=Nat) (λ_=>True) (λb=>(d,.pointer (some ⟨b,0,none⟩))::env) (λb=>(i,box b t cs)::H):=λa w hs K Q e=>by
 subst h;have l:(execOp a.eval o).run P w= .ok (.value (.pointer (some ⟨w.heap.size,0,none⟩))) (w.alloc (.cells z.cells t)):=by simp [execOp,k,Instr.alloc,n,newVar,newRow]
 unfold Oper.wp;rw [l];show K _ _;rw [j];exact e _ _ _ aA ((hs.new c m i _ _ (heap_alloc_new w _) (λb g=>g)).put d _ f) (Chg.alloc _ _ _)
theorem t_box         (k:o.op= .box t x) (j:o.dst=some d) (f:Nat.blt d N=true)
  (n:ev env x=some v) (h:v.cells=cs) (c:lk H 0=some (Xu w0 M0)) (m:∀b,w0.heap.size<=b->sc b) :
  T P N sc M o env H (G:=Nat) (λ_=>True) (λb=>(d,.pointer (some ⟨b,0,none⟩))::env) (λb=>(i,box b t cs)::H):=λa w hs K Q e=>by
 subst h;have l:(execOp a.eval o).run P w= .ok (.value (.pointer (some ⟨w.heap.size,0,none⟩))) (w.alloc (.cells v.cells t)):=by simp [execOp,k,Instr.box,hs.ev n,newVar,newRow]
 unfold Oper.wp;rw [l];show K _ _;rw [j];exact e _ _ _ aA ((hs.new c m i _ _ (heap_alloc_new w _) (λb g=>g)).put d _ f) (Chg.alloc _ _ _)
def One(N:Nat)(sc:Nat->Prop)(env:Px)(H:Hp)(v:Value):Prop:=∀a w,Sat N sc env H a w->v.oneCell'=true
def Zk(h:v.oneCell'=true):One N sc env H v:=λ_ _ _=>h
theorem Pj (i:Nat){α:Type}{k:Nat}{enc:α->Value}{xs:List α}(b:lk H i=some p)(e:Rd p k enc v xs):One N sc env H v:=λa w hs=>by obtain⟨f,c,rfl,_⟩:=e w (hs.hold i p b);rfl
theorem Zr(h:v.oneCell'=true):v.cells=#[v]:=by cases v<;>simp_all [Value.cells,Value.oneCell']
def Gb{g:Nat}(b:M g):Chg M w (w.setRow g cs):=
 ⟨rfl,rfl,rfl,O5,λk _ c=>setRow_other w g k cs (λe=>c (e▸b))⟩
theorem Sat.upd   (h:Sat N sc env H a w)  {q:Pc} (hi:lk H i=some p) (f:p.own=true) (F:i≠0)
  (z:Chg p.fp w w') (Z:q.holds w') (u:∀b,q.fp b->p.fp b\/w.heap.size<=b)   (R:lk H 0=some (Xu w0 M0)) (Y:∀b,w0.heap.size<=b->sc b) :
  Sat N sc env ((i,q)::H) a w':=by
 refine⟨h.size,h.defers,h.env,λj g c=>?_,λj D g r n c e V b l m=>?_,λj g G c b l=>?_⟩
 .by_cases s:i=j
  .grind [Yv]
  .rw [Yc _ _ s]at c;exact g.stable w w' (h.hold j g c) ⟨z.os,z.tape,z.output,z.size,λb l S=>z.block b l (λW=>S (λI=>h.sep i j p g s hi c f b W I))⟩
 .by_cases s:i=j
  .subst s;rw [Yv]at c;cases c;rw [Yc _ _ n]at e;rcases u b l with k|k
   .exact h.sep i D p r n hi e f b k m
   .have:=r.lt w b (h.hold D r e) m;omega
  .rw [Yc _ _ s]at c;by_cases B:i=D
   .subst B;rw [Yv]at e;cases e;rcases u b m with k|k
    .exact h.sep i j p g (fB n) hi c f b k l
    .have:=g.lt w b (h.hold j g c) l;omega
   .rw [Yc _ _ B]at e;exact h.sep j D g r n c e V b l m
 .by_cases s:i=j
  .subst s;rw [Yv]at c;cases c;rcases u b l with k|k
   .exact h.scope i p F hi b k
   .exact Y b (aB (h.hold 0 _ R).size k)
  .rw [Yc _ _ s]at c;exact h.scope j g G c b l
def Fj(cs:Array Value)(j:Nat)(vs:List Value):Array Value:=(cs.toList.take j ++ vs ++ cs.toList.drop (j+vs.length)).toArray
theorem Zji   {f:TypeId} {b j k:Nat} {cs':Array Value}     (I:o.op= .store t x y) (F:o.dst=none)
  (Y:ev env x=some (.pointer (some ⟨b,j,none⟩))) (Z:ev env y=some v) (m:lk H i=some (box b f cs)) (g:i≠0) (V:v.cells=vs.toArray) (h:∀w,(sizeOf t).run P w= .ok k w) (c:vs.length=k)
  (r:j+vs.length<=cs.size) (z:∀u∈vs,One N sc env H u) (e:Fj cs j vs=cs')
  (s:lk H 0=some (Xu w0 M0)) (W:∀b,w0.heap.size<=b->sc b) (D:M b) :
  T P N sc M o env H (G:=Unit) (λ_=>True) (λ_=>env) (λ_=>(i,box b f cs')::H):=λa w hs K Q B=>by
 subst e;have n:=hs.hold i _ m;have l:=run_storeCells_at P b j f vs 0 cs w n O (λu S=>z u S a w hs);have R:(execOp a.eval o).run P w= .ok .skip (w.setRow b (Fj cs j vs)):=by simp [execOp,I,hs.ev Y,hs.ev Z,Instr.storeAt,Instr.sureAddr,storeVar,V,h,c,l,Fj]
 unfold Oper.wp;rw [R];show K _ _;rw [F];exact B () _ _ aA ((hs.upd m rfl g (q:=box b f (Fj cs j vs)) (Gb rfl) (setRow_heap w b cs _ f _ n) (λk h=> .inl h) s W).put_none _) (Gb D)
theorem t_bs {α:Type}  {e:TypeId} {k n:Nat}      {enc:α->Value} (xs:List α)
  (z:o.op= .buildSlice t n parts) (r:o.dst=some d) (l:Nat.blt d N=true)
  (F:∀a w,Sat N sc env H a w->(Instr.buildSlice t n (parts.map λ(i,x)=>(i,a.eval x))).run P w= .ok (.slice (some ⟨w.heap.size,0,none⟩) n n) (w.alloc (.cells cs e)))
  (q:cs.toList=cellsOf enc xs) (D:xs.length=n) (s:∀x,(enc x).cells.size=k) (u:n<=maxLen)
  (h:lk H 0=some (Xu w0 M0)) (B:∀b,w0.heap.size<=b->sc b) :
  T P N sc M o env H (G:=Nat) (λ_=>True) (λb=>(d,.slice (some ⟨b,0,none⟩) n n)::env) (λb=>(i,Oe k e enc (.slice (some ⟨b,0,none⟩) n n) xs)::H):=λa w hs K Q j=>by
 have c:(execOp a.eval o).run P w= .ok (.value (.slice (some ⟨w.heap.size,0,none⟩) n n)) (w.alloc (.cells cs e)):=by simp only [execOp,z];simp_all
 have g:=Xo s xs;have f:cs.size=n*k:=O4;unfold Oper.wp;rw [c];show K _ _;rw [r];refine j _ _ _ aA ((hs.new h B i _ _ ?_ (λb m=>by simp [Oe,Value.ownBlock]at m;omega)).put d _ l) (Chg.alloc _ _ _);refine⟨O,.inr ⟨w.heap.size,n,cs,O4,aX _,heap_alloc_new w _,O,u,f,?_⟩⟩;grind
theorem Ziw{α:Type}{enc:α->Value}{k:Nat}(f:∀x,(enc x).cells.size=k)(l:0<k)(b:α)(n:Nat):(madeCells (enc b).cells (n*k)).toList=cellsOf enc (List.replicate n b):=by
 apply gR;intro j;by_cases h:j<n*k
 .have q:j/k<n:=gW O4;have g:j%k<k:=bG _ l;have c:(List.replicate n b)[j/k]? = some b:=O4;have m:(enc b).cells.toList[j%k]? = some ((enc b).cells[j%k]!):=by grind
  have e:=Gf f _ _ b c _ _ m;rw [show j/k*k+j%k=j from by grind [Nat.mul_comm,Nat.div_add_mod]]at e;rw [e];simp [madeCells,h,f]
 simp_all [bJ,fJ,size_madeCells,Xo]
theorem t_mk {α:Type}  {e:TypeId} {k:Nat}  {n c:Nat} {m:Int}   {enc:α->Value} {ti:TypeInfo} (g:α)
  (I:o.op= .makeSlice t x y) (B:o.dst=some d) (z:Nat.blt d N=true) (W:ev env x=some (.int .i64 m)) (Y:ev env y=some (.int .i64 m)) (F:m=(n:Int))
  (S:P.underlying t=some (.slice e)) (hi:P.info? e=some ti) (Z:ti.zero=some (enc g)) (D:∀x,(enc x).cells.size=k) (r:0<k) (l:ti.size=k) (j:ti.bytes=c)
  (h:c*n<=281474976710656) (f:0<c)
  (s:lk H 0=some (Xu w0 M0)) (V:∀b,w0.heap.size<=b->sc b) :
  T P N sc M o env H (G:=Nat) (λ_=>True) (λb=>(d,.slice (some ⟨b,0,none⟩) n n)::env) (λb=>(i,Oe k e enc (.slice (some ⟨b,0,none⟩) n n) (List.replicate n g))::H):=λa w hs K Q u=>by
 subst F;subst l;subst j;have hn:=aB (kI n f) h;have q:=run_make w t e ti _ S hi Z .i64 .i64 n n O5 (eQ _) O O;have R:(execOp a.eval o).run P w= .ok (.value (.slice (some ⟨w.heap.size,0,none⟩) n n)) (w.alloc (.cells (madeCells (enc g).cells (n*ti.size)) e)):=by simp [execOp,I,hs.ev W,hs.ev Y,q]
 unfold Oper.wp;rw [R];show K _ _;rw [B];refine u _ _ _ aA ((hs.new s V i _ _ ?_ (λb h=>by simp [Oe,Value.ownBlock]at h;omega)).put d _ z) (Chg.alloc _ _ _);have hl:=Xo D (List.replicate n g);refine⟨O,.inr ⟨w.heap.size,n,_,O5,aX _,heap_alloc_new w _,O5,by simp [maxLen];omega,by rw [size_madeCells],?_⟩⟩;simp_all [Ziw,bR,aF]
theorem Zdt{α:Type}{enc:α->Value}{k:Nat}(c:∀x,(enc x).cells.size=k):∀(xs:List α) (i:Nat) (x:α),i<xs.length->
  cellsOf enc (xs.set i x)=(cellsOf enc xs).take (i*k) ++ (enc x).cells.toList ++ (cellsOf enc xs).drop (i*k+k)
 | [],_,_,h=>O4
 | y::r,0,x,_=>by simp only [lY,cellsOf,fF,fW,dZ,kR,cD];simp_all
 | y::r,i+1,x,h=>by have b:=Zdt c r i x O4;simp only [cellsOf,List.set_cons_succ,fF]at b ⊢;rw [b];rw [show(i+1)*k=(enc y).cells.toList.length+i*k from by grind];rw [List.take_length_add_append,gM,List.drop_length_add_append];simp
theorem Ln (i:Nat) {α:Type}   {e:TypeId} {j k:Nat} {u:Value} {enc:α->Value} {xs:List α} {z:α}   (ho:o.op= .store t x y) (hd:o.dst=none)
  (hx:ev env x=some (.pointer (some (ead v j k)))) (hy:ev env y=some u) (hu:u=enc z) (I:lk H i=some (Oe k e enc v xs)) (f:Enc P t k enc) 
  (V:lk H 0=some (Xu w0 M0)) (hw:∀b,w0.heap.size<=b->sc b) (D:i≠0:=by decide) (n:j<xs.length:=by omega) :
  T P N sc (λ_=>True) o env H (G:=Unit) (λ_=>True) (λ_=>env) (λ_=>(i,Oe k e enc v (xs.set j z))::H):=λa w hs K Q W=>by
 subst hu;have r:=hs.hold i _ I;have S:=f.pos;rcases r.2 with⟨rfl,hn⟩|⟨g,l,c,rfl,Y,R,F,B,a0,h⟩
 .omega
 .have a1:j*k+k<=xs.length*k:=by rw [<-dR];exact aM k n
  have Z:xs.length*k<=l*k:=aM k F;have m:(enc z).cells.toList.length=k:=by simp [f.cells]
  have s:=run_storeCells_at P g (j*k) e (enc z).cells.toList 0 c w R O (f.one z);simp only [eJ,m]at s;have hr:(execOp a.eval o).run P w= .ok .skip (w.setRow g (c.toList.take (j*k) ++ (enc z).cells.toList ++ c.toList.drop (j*k+k)).toArray):=by simp [execOp,ho,hs.ev hx,hs.ev hy,Instr.storeAt,Instr.sureAddr,storeVar,f.cells,f.size,ead,Ol,s]
  unfold Oper.wp;rw [hr];show K (a.put o.dst _) _;rw [hd];refine W () _ _ aA ((hs.upd I rfl D (q:=Oe k e enc _ (xs.set j z)) (Gb rfl) ?_ (λk hk=> .inl hk) V hw).put_none undef) (Gb aA);refine⟨by rw [Xo f.cells],.inr ⟨g,l,_,O5,Y,setRow_heap w g c _ e _ R,O4,B,?_,?_⟩⟩
  .grind
  .rw [Zdt f.cells xs j z n,<-h];simp only [cT];apply gR;grind
end Go.Sky
namespace Go.Sky
open Go.RowKit Below
variable{w w0:World}{o:Oper}{t tb:TypeId}{d b:Nat}{v v1 v2:Value}{p:Pc}{M0:Nat->Prop}{r pre:List Pc}{f:FuncId}{xs:List Operand}{ats:Array TypeId}{vs:List Value}{a:Act}{fn:Func}{args:Array Value}{preH:World->Hp}
variable {P:Program} {N:Nat} {sc:Nat->Prop} {env env':Px} {H H':Hp} {Q Q':Exit->Act->World->Prop} {M:Nat->Prop}
theorem Ze3  (t ty e:TypeId) (ti:TypeInfo) (z:Value) (i Y:Nat) (ht:P.underlying t=some (.slice e)) (hi:P.info? e=some ti) (hz:ti.zero=some z)
    (V:ti.size=i) (a5:ti.bytes=Y) (a9:z.cells.size=i) (b1:0<i)
    (v:Value) (n:Nat) (xs:List Value) (l:w.ownsRow 0 e i v n xs)
    (a:Addr) (m c:Nat) (h:List Value) (W:h.length=m*i) (s:∀j u,h[j]? = some u->w.cell? (a.add j)=some u) (h1:∀u∈h,u.oneCell'=true)
    (a3:n+m<=maxLen) (F:(n+m)*Y<=140737488355328) :
    ∃v' w',(Builtin.append_ #[t,t] ty #[v,.slice (some a) m c]).run P w= .ok v' w'/\w'.ownsRow 0 e i v' (n+m) (xs ++ h)/\w.grownBy w' v.ownBlock/\
      (∀b,v'.ownBlock=some b->v.ownBlock=some b\/w.heap.size<=b):=by
  subst V;subst a5;have a2:n+m<=9223372036854775807:=by assumption
  have G:(xs ++ h).length=(n+m)*ti.size:=by rw [aO,l.1,W,cL]
  have B:∀(q:Nat),q<n+m->∀(a1:Option Nat),
      (w.drew.alloc (.cells (xs.toArray ++ h.toArray ++ Builtin.zeroCells z.cells (grownCap w (n+m) q e-(n+m))) e)).ownsRow 0 e ti.size
        (.slice (some ⟨w.heap.size,0,none⟩) (n+m) (grownCap w (n+m) q e)) (n+m) (xs ++ h)/\
      w.grownBy (w.drew.alloc (.cells (xs.toArray ++ h.toArray ++ Builtin.zeroCells z.cells (grownCap w (n+m) q e-(n+m))) e)) a1:=by
    intro q ho a1;have a7:=grownCap_ge w (n+m) q e;have R:grownCap w (n+m) q e<=maxLen:=grownCap_le_maxLen w (n+m) q e a3;refine⟨⟨G,.inr ⟨w.heap.size,_,_,rfl,aX _,heap_alloc_new w.drew _,a7,R,?_,?_⟩⟩,⟨rfl,rfl,rfl,O5,λk hk _=>heap_alloc_old w.drew _ k hk⟩⟩
    . simp only [Array.size_append,mH,size_zeroCells,a9,l.1,W,<-cL];grind
    grind
  rcases l.2 with⟨rfl,rfl⟩|⟨g,x,I,rfl,a4,hg,b0,R,a6,a8⟩
  . have hx:xs=[]:=aC O4;subst hx;by_cases hm:m=0
    . subst hm;have hn:h=[]:=aC O;subst hn;refine⟨.slice none 0 0,w,?_,World.ownsRow_nil w 0 e ti.size,⟨rfl,rfl,rfl,aF _,λ_ _ _=>rfl⟩,λb Z=>O4⟩;simp [Builtin.append_,run_underlying ht,sizeOf,typeInfo,hi,Builtin.lenOf,Builtin.firstCells,loadCells,loadCellsFrom]
    . have hr:=run_append_nil (P:=P) w t ty e ti z ht hi hz a m c h W s O O O4;have y:=B 0 O (Value.ownBlock (.slice none 0 0));simp only [cD,kR,Array.empty_append]at y ⊢;refine⟨_,_,hr,y.1,y.2,λb Z=> .inr ?_⟩;simp [Value.ownBlock]at Z;omega
  . by_cases D:n+m<=x
    . have a0:n*ti.size+h.length<=I.size:=by rw [W,a6,<-cL];simp_all [aM]
      have hr:=run_append_room (P:=P) w t ty e ti ht hi g n x I hg a m c h W s h1 D a0;refine⟨_,_,hr,⟨G,.inr ⟨g,x,_,rfl,a4,setRow_heap w g I _ e _ hg,D,R,?_,?_⟩⟩,⟨rfl,rfl,rfl,O5,λk _ hk=>setRow_other w g k _ (λe=>hk (by simp [Value.ownBlock,e]))⟩,λb Z=> .inl ‹_›⟩
      all_goals grind
    . have S:∀j u,xs[j]? = some u->w.cell? ((⟨g,0,none⟩:Addr).add j)=some u:=l.cells (g:=g) rfl;have hr:=run_append_grow (P:=P) w t ty e ti z ht hi hz ⟨g,0,none⟩ n x xs l.1 S a m c h W s O O (growslice_fits O F);have y:=B x O (Value.ownBlock (.slice (some ⟨g,0,none⟩) n x));refine⟨_,_,hr,y.1,y.2,λb Z=> .inr ?_⟩;simp [Value.ownBlock]at Z;omega
theorem Ii{α:Type}(enc:α->Value)(xs ys:List α):cellsOf enc (xs ++ ys)=cellsOf enc xs ++ cellsOf enc ys:=by simp [cellsOf]
theorem t_app {α:Type}  {x y:Operand} {e:TypeId} {i i2 j k l:Nat} {u:Value} {enc:α->Value} {xs ys:List α}  {ti:TypeInfo} {z:Value}  
    (ho:o.op= .call { callee:= .builtin .append,args:=#[x,y],argTypes:=#[t,t] }) (hd:o.dst=some d) (hN:Nat.blt d N=true)
    (hx:ev env x=some v) (hy:ev env y=some u) (hH:lk H i=some (Oe k e enc v xs)) (Z:i≠0) (hj:lk H j=some p) (hr:Rd p k enc u ys) (a9:ys≠[])
    (ht:P.underlying t=some (.slice e)) (hi:P.info? e=some ti) (hz:ti.zero=some z) (n:Enc P e k enc) (a0:ti.size=k) (W:ti.bytes=l) (a4:z.cells.size=k)
    (m:(xs.length+ys.length)*l<=140737488355328) (s:0<l)
    (h0:lk H 0=some (Xu w0 M0)) (hw:∀b,w0.heap.size<=b->sc b) :
    T P N sc (λ_=>True) o env H (G:=Value) (λ_=>True) (λv'=>(d,v')::env) (λv'=>(i,Oe k e enc v' (xs ++ ys))::H):=λa w hs K Q hK=>by
  have I:=hs.hold i _ hH;obtain⟨ad,c,rfl,h1,h2,h3⟩:=hr w (hs.hold j p hj);rcases h3 with rfl|⟨g,S,rfl,h3⟩
  . grind
  have a3:∀q u,(cellsOf enc ys)[q]? = some u->w.cell? ((⟨g,S,none⟩:Addr).add q)=some u:=λq u hq=>by
    have a7:q<ys.length*k:=by rw [<-Xo n.cells ys];grind
    have a5:=n.pos;have Y:q/k<ys.length:=gW O4;have D:=aL Y;have a1:q%k<(enc ys[q/k]).cells.toList.length:=by rw [fJ,n.cells];simp_all [bG]
    have hu:=aL a1;have h4:=Gf n.cells ys _ _ D _ _ hu;grind [Nat.mul_comm,Nat.div_add_mod,Nat.add_assoc,Ol]
  have F:∀u∈cellsOf enc ys,u.oneCell'=true:=λu hu=>by obtain⟨y,_,hy⟩:=iX.1 hu;exact n.one y u hy
  have a6:=aB (dG _ s) m;obtain⟨v',w',R,a8,h,V⟩:=Ze3 (P:=P) t o.type e ti z k l ht hi hz a0 W a4 n.pos v xs.length (cellsOf enc xs) I ⟨g,S,none⟩ ys.length c (cellsOf enc ys)
    (Xo n.cells ys) a3 F (by simp only [maxLen];omega) m
  have a2:(execOp a.eval o).run P w= .ok (.value v') w':=by simp only [execOp,ho,resolve,invoke,builtin,Sem.run_bind,Sem.run_pure,Result.andThen_ok,iE,bQ,iF,hs.ev hx,hs.ev hy,R]
  unfold Oper.wp;rw [a2];show K (a.put o.dst _) _;rw [hd];have B:Chg _ w w':=⟨h.os,h.tape,h.output,h.size,λb m hn=>h.block b m (λe=>hn e.symm)⟩;refine hK v' _ _ aA ((hs.upd hH rfl Z B ?_ (λb m=>V b m) h0 hw).put d _ hN) ⟨h.os,h.tape,h.output,h.size,λb m hn=>absurd aA hn⟩;show w'.ownsRow 0 e k v' (xs ++ ys).length (cellsOf enc (xs ++ ys));grind [Ii,List.length_append]
def Cal(P:Program)(f:FuncId)(args:Array Value)(pre:List Pc)(al:Bool){G:Type}(φ:G->Prop)(val:G->Value)(c:G->List Pc):Prop:=
  ∀w,(∀p∈pre,p.holds w)->Calls P f args w λe h=>∃g,e= .returned (val g)/\φ g/\Below w.heap.size w h/\
    ∀p∈c g,p.holds h/\p.own=false/\∀b,p.fp b->w.heap.size<=b\/(al=true/\∃q∈pre,q.fp b)
@[reducible] def adds:Nat->List Pc->Hp->Hp
  | _,[],H=>H
  | n,p::r,H=>(n,p)::adds (n+1) r H
def PreOk(H:Hp)(al:Bool):List Pc->Prop
  | []=>True
  | p::r=>(∃i c,i≠0/\lk H i=some c/\(∀w,c.holds w->p.holds w)/\(∀b,p.fp b->c.fp b)/\(al=true->c.own=false))/\PreOk H al r
theorem PreOk.mem{al:Bool} : ∀{pre:List Pc},PreOk H al pre->∀p∈pre,∃i c,i≠0/\lk H i=some c/\(∀w,c.holds w->p.holds w)/\(∀b,p.fp b->c.fp b)/\(al=true->c.own=false)
  | p::r,h,q,e=>by
    cases e with
    | head=>exact h.1
    | tail _ e=>exact PreOk.mem h.2 q e
def Zq{al:Bool} : PreOk H al []:=aA
def Zp{al:Bool}(i:Nat)(hi:lk H i=some p)(c:Nat.beq i 0=false)(g:p.own=false)(h:PreOk H al r):PreOk H al (p::r):=
  ⟨⟨i,p,λe=>O10,hi,λ_ h=>h,λ_ h=>h,λ_=>g⟩,h⟩
def Zu7{α:Type}{k:Nat}{e:TypeId}{enc:α->Value}{xs:List α}(i:Nat)(hi:lk H i=some (Oe k e enc v xs))(j:Nat.beq i 0=false)(g:Enc P t k enc)(h:PreOk H false r):PreOk H false (Yl k enc v xs::r):=
  ⟨⟨i,_,λe=>O10,hi,λw h=>⟨Au g.cells h,λb c=>(h.lt b c.2).2⟩,λ_ h=>h.2,λh=>O4⟩,h⟩
theorem Sat.adds{a:Act}{w:World}{w1:World} : ∀(l:List Pc) (n:Nat) {H:Hp},Sat N sc env H a w->(∀p∈l,p.holds w/\p.own=false/\(∀b,p.fp b->sc b)/\
    ∀j c,lk H j=some c->c.own=true->∀b,p.fp b->c.fp b->False)->Sat N sc env (adds n l H) a w
  | [],_,_,h,_=>h
  | p::r,n,H,h,hl=>by
    have e:=Sat.adds (w1:=w1) r (n+1) h (λq s=>hl q (bT _ s));obtain⟨g,x,i,y⟩:=hl p (cC ..);have u:∀(l:List Pc) (m:Nat) (H:Hp) (j:Nat) (c:Pc),(∀q∈l,q.own=false)->lk (Sky.adds m l H) j=some c->c.own=true->lk H j=some c:=by
      intro l
      induction l with
      | nil=>grind
      | cons q l e=>
        grind [Yv,List.mem_cons_self,Yc,List.mem_cons_of_mem]
    refine e.add n p g (λj c _ B Ej b z k=>?_) i;grind
def EvL(e:Px):List Operand->List Value->Prop
  | [],[]=>True
  | x::r,v::vs=>ev e x=some v/\EvL e r vs
  | _,_=>False
theorem EvL.map{a:Act}{w:World}(h:Sat N sc env H a w):∀{xs:List Operand} {vs:List Value},EvL env xs vs->xs.map a.eval=vs
  | [],[],_=>rfl
  | x::r,v::vs,hh=>by simp only [bQ,h.ev hh.1,EvL.map h hh.2]
  | [],_::_,hh=>hh.elim
  | _::_,[],hh=>hh.elim
theorem Xb (n:Nat)        {al:Bool} {G:Type} {φ:G->Prop} {val:G->Value} {I:G->List Pc}  
    (hc:Cal P f vs.toArray pre al φ val I)
    (ho:o.op= .call { callee:= .value (.func f),args:=xs.toArray,argTypes:=ats }) (hd:o.dst=some d) (hN:Nat.blt d N=true)
    (l:EvL env xs vs) (m:∀args w,(callFunc f args).run P w= .ok (.enter f args) w) (c:PreOk H al pre)
    (h0:lk H 0=some (Xu w0 M0)) (hw:∀b,w0.heap.size<=b->sc b) :
    T P N sc M o env H φ (λg=>(d,val g)::env) (λg=>adds n (I g) H):=λa w hs K Q hK=>by
  have hr:(execOp a.eval o).run P w= .ok (.enter f vs.toArray) w:=by have hm:=l.map hs;simp [execOp,ho,resolve,invoke,Act.eval,Deferred.ofValue,hm,m]
  unfold Oper.wp;rw [hr];refine(hc w (λp V=>by obtain⟨i,F,_,hi,z,_,_⟩:=c.mem p V;exact z w (hs.hold i F hi))).mono ?_
  rintro e w' ⟨g,rfl,hg,k,B⟩;rw [hd];have Y:=hs.chg0 (Chg.of_below k);refine hK g _ _ hg (Sat.put (Y.adds (w1:=w) _ n ?_) d _ hN) (Chg.of_below k);intro p V;obtain⟨h1,h2,h3⟩:=B p V;refine⟨h1,h2,λb R=>?_,λj Z hj D b R x=>?_⟩
  . rcases h3 b R with h|⟨_,q,W,u⟩
    . exact hw b (aB (hs.hold 0 _ h0).size h)
    . obtain⟨i,F,y,hi,_,s,_⟩:=c.mem q W;exact hs.scope i F y hi b (s b u)
  . rcases h3 b R with h|⟨a0,q,W,u⟩
    . have:=Z.lt w b (hs.hold j Z hj) x;omega
    . obtain⟨i,F,y,hi,_,s,a1⟩:=c.mem q W;by_cases S:j=i
      . grind
      . exact hs.sep j i Z F S hj hi D b x (s b u)
def RV(P:Program)(N:Nat)(sc:Nat->Prop)(env:Px)(H:Hp)(r:ResultVar)(v:Value):Prop:=
  match r with
  | .tmp t=>lk env t=some v
  | .cell c t=>∃e,lk env c=some (.pointer (some e))/\∀a w,Sat N sc env H a w->(loadVar t e).run P w= .ok v w
theorem Er (i:Nat) {c:Tmp}  {k:Nat}  (h:lk env c=some (.pointer (some ⟨b,0,none⟩))) (g:lk H i=some (box b tb vs.toArray)) (m:∀w,(isAgg t).run P w= .ok true w) (j:∀w,(sizeOf t).run P w= .ok k w)
    (l:vs.length=k):RV P N sc env H (.cell c t) (.agg vs.toArray):=⟨_,h,λa w hs=>by
  have e:=run_loadCells_list (P:=P) w ⟨b,0,none⟩ vs (λn u q=>by rw [Ol,hs.boxc g];grind);rw [l]at e;simp [loadVar,m,j,e]⟩
theorem Yir{c:Tmp}{i:Nat}(g:lk env c=some (.pointer (some ⟨b,0,none⟩)))(e:lk H i=some (box b tb #[v]))(j:∀w,(isAgg t).run P w= .ok false w) :
    RV P N sc env H (.cell c t) v:=⟨_,g,λa w hs=>by
  have h:=hs.boxc e 0;simp [loadVar,j,load,Sem.run,h]⟩
theorem Zeu{r1:ResultVar}(hs:Sat N sc env H a w)(g:fn.results=#[r1])(e:RV P N sc env H r1 v1):(results fn a.tmps).run P w= .ok v1 w:=by
  cases r1 with
  | tmp t=>have:=hs.env t v1 e;rw [bL]at this;simp [results,g,this]
  | cell c t=>obtain⟨j,h,i⟩:=e;have:=hs.env c _ h;rw [bL]at this;simp [results,g,this,asAddr,i a w hs]
theorem Zl9{r1 r2:ResultVar}(hs:Sat N sc env H a w)(k:fn.results=#[r1,r2])(h:RV P N sc env H r1 v1)(e:RV P N sc env H r2 v2) :
    (results fn a.tmps).run P w= .ok (.tuple #[v1,v2]) w:=by
  cases r1 with
  | tmp t=>
    have h:=hs.env t v1 h;rw [bL]at h;cases r2 with
    | tmp j=>have e:=hs.env j v2 e;rw [bL]at e;simp [results,k,h,e]
    | cell l j=>obtain⟨q,g,m⟩:=e;have g:=hs.env l _ g;rw [bL]at g;simp [results,k,h,g,asAddr,m a w hs]
  | cell c t=>
    obtain⟨s,i,n⟩:=h;have i:=hs.env c _ i;rw [bL]at i;cases r2 with
    | tmp j=>have e:=hs.env j v2 e;rw [bL]at e;simp [results,k,i,asAddr,n a w hs,e]
    | cell l j=>obtain⟨q,g,m⟩:=e;have g:=hs.env l _ g;rw [bL]at g;simp [results,k,i,asAddr,n a w hs,g,m a w hs]
def Yqq(tmps:Array Value):ResultVar->Sem Value
  | .tmp t=>pure (tmps.getD t undef)
  | .cell c t=>do loadVar t (<-asAddr (tmps.getD c undef))
theorem Zx4{r:ResultVar}(hs:Sat N sc env H a w)(h:RV P N sc env H r v):(Yqq a.tmps r).run P w= .ok v w:=by
  cases r with
  | tmp t=>have:=hs.env t v h;simp only [Yqq,this];rfl
  | cell c t=>obtain⟨i,e,g⟩:=h;have:=hs.env c _ e;simp only [Yqq,this,asAddr,Sem.run_bind,Sem.run_pure,Result.andThen_ok,g a w hs]
def Zl8(fn:Func)(tmps:Array Value):results fn tmps=(do let vs ←fn.results.mapM (Yqq tmps);pure (if h:vs.size=1 then vs[0]else .tuple vs)):=rfl
theorem Yja{r1 r2 r3:ResultVar}{c:Value}(hs:Sat N sc env H a w)(i:fn.results=#[r1,r2,r3])(e:RV P N sc env H r1 v1)(g:RV P N sc env H r2 v2)(h:RV P N sc env H r3 c) :
    (results fn a.tmps).run P w= .ok (.tuple #[v1,v2,c]) w:=by
  rw [Zl8,i];simp [Zx4 hs e,Zx4 hs g,Zx4 hs h]
def Zcu(P:Program)(fn:Func)(w0:World)(pre:List Pc)(al:Bool){G:Type}(φ:G->Prop)(val:G->Value)(c:G->List Pc):Exit->Act->World->Prop:=
  bodyPost P fn λe h => ∃ g, e = .returned (val g) /\ φ g /\ Below w0.heap.size w0 h /\
        ∀p∈c g,p.holds h/\p.own=false/\∀b,p.fp b->w0.heap.size<=b\/(al=true/\∃q∈pre,q.fp b)
theorem Ygi   {c:Code}   {al:Bool} {G:Type} {φ:G->Prop} {val:G->Value} {m:G->List Pc} {N:Nat} {e:Px} 
    (x:P.funcs[f]? = some fn) (l:fn.body=some c) (S:fn.ntmps=N) (k:∀t v,lk e t=some v->args[t]? = some v) (z:args.size<=N)
    (g:∀w,∀i p,lk (preH w) i=some p->(i=0/\p=Xu w (λ_=>False))\/(i≠0/\p∈pre/\p.own=false))
    (h:∀w0 (sc:Nat->Prop),(∀b,w0.heap.size<=b->sc b)->(∀b,sc b->w0.heap.size<=b\/∃q∈pre,q.fp b)->
      E P N sc c (Zcu P fn w0 pre al φ val m) e (preH w0)) :
    Cal P f args pre al φ val m:=λw W=>by
  refine calls_of_wp x l (h w _ (λb l=> .inl l) (λb l=>l) _ w ?_);refine⟨O4,rfl,λt v R=>?_,λi p hi=>?_,λi j p q F hi V I b l u=>?_,λi p y hi b l=>?_⟩
  . have s:=k t v R;have B:=(aT.1 s).1;simp_all [bL,eA]
  . rcases g w i p hi with⟨_,rfl⟩|⟨_,D,_⟩
    . exact Chg.refl _ w
    grind
  . rcases g w i p hi with⟨_,rfl⟩|⟨_,D,n⟩
    . cases I
    grind
  grind
def Hl(h:(Xu w0 (λ_=>False)).holds w):Below w0.heap.size w0 w:=
  ⟨h.os,h.tape,h.output,h.size,λk c=>h.block k c (λh=>h)⟩
def Give(H:Hp)(al:Bool):List Pc->Prop
  | []=>True
  | p::r=>(p.own=false/\((∃i c,i≠0/\lk H i=some c/\(∀w,c.holds w->p.holds w)/\(∀b,p.fp b->c.fp b)/\(al=false->c.own=true))\/((∀w,p.holds w)/\∀b,¬p.fp b)))/\Give H al r
theorem Give.mem{al:Bool} : ∀{l:List Pc},Give H al l->∀p∈l,p.own=false/\((∃i c,i≠0/\lk H i=some c/\(∀w,c.holds w->p.holds w)/\(∀b,p.fp b->c.fp b)/\(al=false->c.own=true))\/((∀w,p.holds w)/\∀b,¬p.fp b))
  | p::r,h,q,e=>by
    cases e with
    | head=>exact h.1
    | tail _ e=>exact Give.mem h.2 q e
def Za{al:Bool} : Give H al []:=aA
theorem Gt(i:Nat)(hi:lk H i=some p)(c:Nat.beq i 0=false)(g:p.own=false)(h:Give H true r):Give H true (p::r):=
  ⟨⟨g,.inl ⟨i,p,λe=>O10,hi,λ_ h=>h,λ_ h=>h,λh=>O4⟩⟩,h⟩
theorem Yl6{al:Bool}{α:Type}{k:Nat}{e:TypeId}{enc:α->Value}{xs:List α}(i:Nat)(hi:lk H i=some (Oe k e enc v xs))(j:Nat.beq i 0=false)(g:Enc P t k enc)(h:Give H al r) :
    Give H al (Yl k enc v xs::r):=
  ⟨⟨rfl,.inl ⟨i,_,λe=>O10,hi,λw h=>⟨Au g.cells h,λb c=>(h.lt b c.2).2⟩,λ_ h=>h.2,λ_=>rfl⟩⟩,h⟩
def Gr{α:Type}(k:Nat)(enc:α->Value)(w:World):(Yl k enc (.slice none 0 0) ([]:List α)).holds w:=⟨⟨none,0,rfl,aF _,O5,.inl rfl⟩,λb c=>O4⟩
theorem Nb{al:Bool}{α:Type}{k:Nat}{enc:α->Value}{xs:List α}(e:xs=[])(h:Give H al r):Give H al (Yl k enc (.slice none 0 0) xs::r):=by subst e;exact⟨⟨rfl,.inr ⟨λw=>Gr k enc w,λb c=>by simp [Yl,Value.ownBlock]at c⟩⟩,h⟩
theorem Ztn   {al:Bool} {G:Type} {φ:G->Prop} {val:G->Value} {j:G->List Pc}  {e:Exit} (I:e= .ret\/e= .normal) (z:∀b,sc b->w0.heap.size<=b\/∃q∈pre,q.fp b)
    (g:G)  (s:∀a w,Sat N sc env H a w->(results fn a.tmps).run P w= .ok v w) (hv:val g=v) (R:φ g) (D:lk H 0=some (Xu w0 (λ_=>False))) (c:Give H al (j g)) :
    X N sc e (Zcu P fn w0 pre al φ val j) env H:=λa w hs=>by
  have Z : a.defers = [] /\ ∃ v, (results fn a.tmps).run P w = .ok v w /\ (∃ g, Ending.returned v = .returned (val g) /\ φ g /\ Below w0.heap.size w0 w /\
        ∀p∈j g,p.holds w/\p.own=false/\∀b,p.fp b->w0.heap.size<=b\/(al=true/\∃q∈pre,q.fp b)):=by
    refine⟨hs.defers,v,s a w hs,g,O4,R,Hl (hs.hold 0 _ D),λp Y=>?_⟩;obtain⟨W,h|⟨h1,h2⟩⟩:=c.mem p Y
    case inr=>grind
    obtain⟨i,B,l,hi,m,x,u⟩:=h;refine⟨m w (hs.hold i B hi),W,λb F=>?_⟩;have k:=x b F;cases al with
    | true=>
      rcases z b (hs.scope i B l hi b k)with h|h
      all_goals grind
    | false=>
      have n:=u rfl;have V:=hs.sep i 0 B _ l hi D n b k;rcases bA b _ with y|S
      . exact absurd ⟨y,λh=>h⟩ V
      omega
  rcases I with rfl|rfl
  all_goals assumption
end Go.Sky
namespace Go.Sky
open Go.RowKit Below
variable{op:Op}{b b':Bool}{cs:Array Value}{c:Code}{ch:Hp}{p:Pc}{n':Int}{k' kd:IntKind}{ats:Array TypeId}{w:World}
variable {P:Program} {N:Nat} {sc:Nat->Prop} {env env':Px} {H H':Hp} {Q Q':Exit->Act->World->Prop} {M:Nat->Prop}
section
variable {ops:Array Oper} {rest:List Oper} {d:Nat} {ty:TypeId} {pos:String} {af:Array Edge} {v:Value} {x:Operand}
theorem dt(e:Mr P N sc ⟨some d,op,ty,pos,af,none⟩ env H v)(h:L P N sc ops rest Q ((d,v)::env) H)(a:Nat.blt d N=true:=by rfl) :
  L P N sc ops (⟨some d,op,ty,pos,af,none⟩::rest) Q env H:=l_det rfl rfl a e h
def tt {o:Oper} {G:Type} {φ:G->Prop} {a:G->Px} {e:G->Hp} (i:T P N sc (λ_=>True) o env H φ a e) (f:o.guard=none)
  (h:∀g,φ g->L P N sc ops rest Q (a g) (e g)):L P N sc ops (o::rest) Q env H:=l_step f i h
theorem Di  {j e:Nat}  (k:Mr P N sc ⟨some d,op,ty,pos,af,some (j,b)⟩ env H v) (i:(ops[j]?).bind (·.dst)=some e) (g:lk env e=some (.bool b))  
  (h:L P N sc ops rest Q ((d,v)::env) H) (a:Nat.blt e N=true:=by rfl) (f:Nat.blt d N=true:=by rfl):L P N sc ops (⟨some d,op,ty,pos,af,some (j,b)⟩::rest) Q env H:=l_gdet rfl i g a rfl f k h
def gsk  {j e:Nat}  (k:(ops[j]?).bind (·.dst)=some e) (i:lk env e=some (.bool b')) (a:(b' == b)=false) (f:Nat.blt e N=true) (g:Nat.blt d N=true)
  (h:L P N sc ops rest Q ((d,undef)::env) H):L P N sc ops (⟨some d,op,ty,pos,af,some (j,b)⟩::rest) Q env H:=Yrv rfl k i f a rfl g h
def gtt {o:Oper} {G:Type} {φ:G->Prop} {a:G->Px} {i:G->Hp} {j e:Nat}  (n:T P N sc (λ_=>True) o env H φ a i) (l:o.guard=some (j,b)) (m:(ops[j]?).bind (·.dst)=some e) (k:lk env e=some (.bool b)) (f:Nat.blt e N=true)
  (h:∀g,φ g->L P N sc ops rest Q (a g) (i g)):L P N sc ops (o::rest) Q env H:=Yru l m k f n h
end
section
variable {ops:Array Oper} {F:Px->Hp->Prop} {rest:List (Nat×Nat)} {i:Nat} {o:Oper}
def Stb(P:Program)(N:Nat)(sc:Nat->Prop)(M:Nat->Prop)(o:Oper)(env:Px)(H:Hp)(v:Value):Prop:=
 ∀a w,Sat N sc env H a w->∀e,Chg M w e->(execOp a.eval o).run P e= .ok (.value v) e
def Xn{v:Value}(f:Mr P N sc o env H v):Stb P N sc (λ_=>False) o env H v:=λa w hs g e=>f a g (hs.chg0 e)
theorem st1{v:Value}(k:Nat){b:Nat}{t:TypeId}(y:lk H k=some (box b t cs))(D:Mr P N sc o env (drp k H) v):Stb P N sc (λx=>x=b) o env H v:=λa w hs n l=>by
 refine D a n ?_;have f:Sat N sc env (drp k H) a w:=⟨hs.size,hs.defers,hs.env,λi g hi=>hs.hold i g (Fu _ _ _ _ hi).2,
  λi j g G h hi u=>hs.sep i j g G h (Fu _ _ _ _ hi).2 (Fu _ _ _ _ u).2,λi g r hi=>hs.scope i g r (Fu _ _ _ _ hi).2⟩
 refine⟨f.size,f.defers,f.env,λi g hi=>?_,f.sep,f.scope⟩;obtain⟨h,m⟩:=Fu _ _ _ _ hi;refine g.stable w n (f.hold i g hi) ⟨l.os,l.tape,l.output,l.size,λq B z=>l.block q B (λe=>z (λs=>?_))⟩;subst e;exact hs.sep k i _ g (fB h) y m rfl q rfl s
theorem r0{d:Nat}{v:Value}(hs:Stb P N sc M o env H v)(k:ops[i]? = some o)(j:o.guard=none)(g:o.dst=some d)(f:Nat.blt d N=true)(h:LD P N sc M ops F rest ((d,v)::env) H) :
  LD P N sc M ops F ((i,0)::rest) env H:=⟨o,d,v,k,g,f,λa w e=>⟨by simp [Region.wanted,j],hs a w e⟩,h⟩
theorem r0g {d j e:Nat}  {v:Value} (hs:Stb P N sc M o env H v) (r:ops[i]? = some o) (n:o.guard=some (j,b)) (q:(ops[j]?).bind (·.dst)=some e) (m:lk env e=some (.bool b)) (l:o.dst=some d) 
  (h:LD P N sc M ops F rest ((d,v)::env) H) (g:Nat.blt e N=true:=by rfl) (k:Nat.blt d N=true:=by rfl) :
  LD P N sc M ops F ((i,0)::rest) env H:=⟨o,d,v,r,l,k,λa w f=>⟨by simp [Region.wanted,n,f.yielded q m g],hs a w f⟩,h⟩
theorem r1{G:Type}{φ:G->Prop}{e:G->Px}{f:G->Hp}(l:T P N sc M o env H φ e f)(k:ops[i]? = some o)(j:o.guard=none)(h:∀g,φ g->LD P N sc M ops F rest (e g) (f g)) :
  LD P N sc M ops F ((i,1)::rest) env H:=⟨o,G,φ,e,f,k,λa w _=>by simp [Region.wanted,j],l,h⟩
theorem r1g {G:Type} {φ:G->Prop} {f:G->Px} {l:G->Hp} {j e:Nat}  (t:T P N sc M o env H φ f l) (s:ops[i]? = some o) (q:o.guard=some (j,b)) (r:(ops[j]?).bind (·.dst)=some e) (n:lk env e=some (.bool b)) (m:Nat.blt e N=true)
  (h:∀g,φ g->LD P N sc M ops F rest (f g) (l g)) :
  LD P N sc M ops F ((i,1)::rest) env H:=⟨o,G,φ,f,l,s,λa w k=>by simp [Region.wanted,q,k.yielded r n m],t,h⟩
theorem r3{G:Type}{φ:G->Prop}{e:G->Px}{f:G->Hp}(l:T P N sc (λ_=>True) o env H φ e f)(k:ops[i]? = some o)(j:o.guard=none)(h:∀g,φ g->LD P N sc M ops F rest (e g) (f g)) :
  LD P N sc M ops F ((i,3)::rest) env H:=⟨o,G,φ,e,f,k,λa w _=>by simp [Region.wanted,j],l,h⟩
theorem r2 {d j e:Nat}  (s:ops[i]? = some o) (q:o.guard=some (j,b)) (r:(ops[j]?).bind (·.dst)=some e) (n:lk env e=some (.bool b')) (l:(b' == b)=false) (g:Nat.blt e N=true) (m:o.dst=some d) (k:Nat.blt d N=true)
  (h:LD P N sc M ops F rest ((d,undef)::env) H) :
  LD P N sc M ops F ((i,2)::rest) env H:=⟨o,d,s,m,k,λa w f=>by simp [Region.wanted,q,f.yielded r n g];grind,h⟩
def r_fin(h:F env H):LD P N sc M ops F [] env H:=h
theorem Ze0{o:Oper}{d:Nat}{v:Value}(h:Mr P N sc o env H v)(g:o.dst=some d)(f:Nat.blt d N=true):T P N sc M o env H (G:=Unit) (λ_=>True) (λ_=>(d,v)::env) (λ_=>H):=λa w hs K Q e=>by unfold Oper.wp;rw [h a w hs];show K _ w;rw [g];exact e () _ _ aA (hs.put d v f) (Chg.refl _ _)
end
def Yua{G:Type}(N:Nat)(sc:Nat->Prop)(cs:Px)(ch:Hp)(j:G->Px)(h:G->Hp)(f:G->Prop)(μ:G->Nat)(g:G):Act->World->Prop:=
 λa w=>∃e,f e/\μ e<μ g/\Sat N sc (j e ++ cs) (h e ++ ch) a w
def e_lp  {G:Type} (cs:Px) (ch:Hp) (j:G->Px) (h:G->Hp) (a:G->Prop) (μ:G->Nat) {f:G} (l:a f) (hs:Sub (j f ++ cs) env) (k:HSub (h f ++ ch) H)
  (e:∀g,a g->E P N sc c (Exit.then (Yua N sc cs ch j h a μ g) Q) (j g ++ cs) (h g ++ ch)) :
  E P N sc (.loop c) Q env H:=e_loop a μ l hs k e
def x_rnd{G:Type}{cs:Px}{k:G->Px}{j:G->Hp}{h:G->Prop}{μ:G->Nat}{g:G}(e:G)(l:h e)(m:μ e<μ g)(hs:Sub (k e ++ cs) env)(n:HSub (j e ++ ch) H) :
  X N sc .normal (Exit.then (Yua N sc cs ch k j h μ g) Q) env H:=λa w f=>⟨e,l,m,f.weaken hs n⟩
def JnK{G:Type}(N:Nat)(sc:Nat->Prop)(cs:Px)(ch:Hp)(h:G->Px)(f:G->Hp)(e:G->Prop):Act->World->Prop:=
 λa w=>∃g,e g/\Sat N sc (h g ++ cs) (f g ++ ch) a w
theorem e_jn {x y:Code} {G:Type} (cs:Px) (ch:Hp) (l:G->Px) (k:G->Hp) (h:G->Prop) (n:Sub cs env) (m:HSub ch H)
  (r:E P N sc x (Exit.then (JnK N sc cs ch l k h) Q) env H)
  (s:∀g,h g->E P N sc y Q (l g ++ cs) (k g ++ ch)):E P N sc (.seq x y) Q env H:=λa w hs=>by
 refine wp_seq (Code.wp_mono (λe a w j=>?_) (r a w hs));cases e with
 | normal=>obtain⟨g,q,f⟩:=j;exact s g q a w f
 | _=>exact j
def x_jn{G:Type}{cs:Px}{j:G->Px}{h:G->Hp}{f:G->Prop}(g:G)(k:f g)(hs:Sub (j g ++ cs) env)(l:HSub (h g ++ ch) H) :
  X N sc .normal (Exit.then (JnK N sc cs ch j h f) Q) env H:=λa w e=>⟨g,k,e.weaken hs l⟩
def Zf(hi:∀a w,Sat N sc env H a w->Sat N sc env' H' a w)(h:E P N sc c Q env' H'):E P N sc c Q env H:=λa w hs=>h a w (hi a w hs)
def Zn{e:Exit}(hi:∀a w,Sat N sc env H a w->Sat N sc env' H' a w)(h:X N sc e Q env' H'):X N sc e Q env H:=λa w hs=>h a w (hi a w hs)
def Yk{ops:Array Oper}{rest:List Oper}(hi:∀a w,Sat N sc env H a w->Sat N sc env' H' a w)(h:L P N sc ops rest Q env' H'):L P N sc ops rest Q env H:=λa w hs=>h a w (hi a w hs)
def Xz{p:Prop}(e:∀a w,Sat N sc env H a w->p)(h:p->E P N sc c Q env H):E P N sc c Q env H:=λa w hs=>h (e a w hs) a w hs
def Ygt{e:Exit}{p:Prop}(f:∀a w,Sat N sc env H a w->p)(h:p->X N sc e Q env H):X N sc e Q env H:=λa w hs=>h (f a w hs) a w hs
theorem Zqs(i:Nat){q:Pc}(hi:lk H i=some p)(D:q.own=p.own)(s:∀w,p.holds w->q.holds w)(m:∀b,q.fp b->p.fp b)(I:Nat.beq i 0=false):∀a w,Sat N sc env H a w->Sat N sc env ((i,q)::H) a w:=λa w hs=>by
  have G:i≠0:=λe=>O10;refine⟨hs.size,hs.defers,hs.env,λj r f=>?_,λj z r u h f g B b n l=>?_,λj r y f b n=>?_⟩
  .by_cases k:i=j
   .subst k;rw [Yv]at f;cases f;exact s w (hs.hold i p hi)
   .rw [Yc _ _ k]at f;exact hs.hold j r f
  .by_cases k:i=j
   .subst k;rw [Yv]at f;cases f;rw [Yc _ _ h]at g;exact hs.sep i z p u h hi g O4 b (m b n) l
   .rw [Yc _ _ k]at f;by_cases t:i=z
    .subst t;rw [Yv]at g;cases g;exact hs.sep j i r p h f hi B b n (m b l)
    .rw [Yc _ _ t]at g;exact hs.sep j z r u h f g B b n l
  .by_cases k:i=j
   .subst k;rw [Yv]at f;cases f;exact hs.scope i p G hi b (m b n)
   .rw [Yc _ _ k]at f;exact hs.scope j r y f b n
theorem Xa{α:Type}{t:TypeId}{k:Nat}{e:TypeId}{enc:α->Value}{v:Value}{xs:List α}(i:Nat)(hi:lk H i=some (Oe k e enc v xs))(I:Nat.beq i 0=false)(G:Enc P t k enc):∀a w,Sat N sc env H a w->Sat N sc env ((i,Yl k enc v xs)::H) a w:=λa w hs=>by
  have D:i≠0:=λe=>O10;refine⟨hs.size,hs.defers,hs.env,λj m f=>?_,λj B m y r f g u b l n=>?_,λj m s f b l=>?_⟩
  .by_cases h:i=j
   .subst h;rw [Yv]at f;cases f;have z:=hs.hold i _ hi;exact⟨Au G.cells z,λb l=>(z.lt b l.2).2⟩
   .rw [Yc _ _ h]at f;exact hs.hold j m f
  .by_cases h:i=j
   .subst h;rw [Yv]at f;cases f;cases u
   .rw [Yc _ _ h]at f;by_cases q:i=B
    .subst q;rw [Yv]at g;cases g;exact hs.sep j i m _ r f hi u b l n.2
    .rw [Yc _ _ q]at g;exact hs.sep j B m y r f g u b l n
  .by_cases h:i=j
   .subst h;rw [Yv]at f;cases f;exact hs.scope i _ D hi b l.2
   .rw [Yc _ _ h]at f;exact hs.scope j m s f b l
abbrev U:Nat:=18446744073709551616
theorem Yo3(n:Nat):IntKind.u64.wrap (n:Int)=((n%U:Nat):Int):=by rfl
theorem Zd1{n:Nat}(h:n<U):IntKind.u64.wrap (n:Int)=(n:Int):=by rw [Yo3,bH h]
section
variable {o:Oper} {t t':TypeId} {x y:Operand} {m n:Nat}
theorem Am(a:o.op= .binOp .add t x y t')(e:ev env x=some (.int .u64 (m:Int)))(f:ev env y=some (.int .u64 (n:Int))):Mr P N sc o env H (.int .u64 (((m+n)%U:Nat):Int)):=Eh a e f λw=>by rfl
theorem Bl(a:o.op= .binOp .mul t x y t')(e:ev env x=some (.int .u64 (m:Int)))(f:ev env y=some (.int .u64 (n:Int))):Mr P N sc o env H (.int .u64 (((m*n)%U:Nat):Int)):=Eh a e f λw=>by rfl
theorem Zey(a:o.op= .binOp .sub t x y t')(e:ev env x=some (.int .u64 (m:Int)))(f:ev env y=some (.int .u64 (n:Int)))(g:n<U:=by decide):Mr P N sc o env H (.int .u64 (((m+(U-n))%U:Nat):Int)):=Eh a e f λw=>by have:((m)-(n:Int))%18446744073709551616=(((m+(U-n))%U:Nat)):=O4;rw [<-this];rfl
theorem Yg2(j:o.op= .binOp .quo t x y t')(k:ev env x=some (.int .u64 (m:Int)))(l:ev env y=some (.int .u64 (n:Int)))(h:m<U:=by omega)(q:0<n:=by omega):Mr P N sc o env H (.int .u64 ((m/n:Nat):Int)):=Eh j k l λw=>by
 have a:=aV (dL m n) h;have e:(m:Int).tdiv (n)=((m/n:Nat)):=by rfl
 have f:=Zd1 a;have g:¬((n:Int)=0):=O;simp only [binOp,ne_eq,gT,mG,Op.intDiv,g,e,f,Sem.run_pure]
theorem u_rem(e:o.op= .binOp .rem t x y t')(f:ev env x=some (.int .u64 (m:Int)))(g:ev env y=some (.int .u64 (n:Int)))(h:0<n):Mr P N sc o env H (.int .u64 ((m%n:Nat):Int)):=Eh e f g λw=>by
 have a:(m:Int).tmod (n)=((m%n)):=by rfl
 simp [binOp,Op.intDiv,show ¬n=0 by omega,a]
theorem Ypf(h:o.op= .binOp .or t x y t')(j:ev env x=some (.int .u64 (m:Int)))(k:ev env y=some (.int .u64 (n:Int)))(f:m<U)(g:n<U):Mr P N sc o env H (.int .u64 ((m ||| n:Nat):Int)):=Eh h j k λw=>by
 have a:=iS (n:=64) f g;have e:(BitVec.ofInt 64 m ||| BitVec.ofInt 64 n).toNat=m ||| n:=by grind
 simp only [binOp,ne_eq,gT,mG,Op.intBits,Sem.run_pure];rw [show(BitVec.ofInt IntKind.u64.bits _ ||| BitVec.ofInt IntKind.u64.bits _).toNat=m ||| n from e,Zd1 a]
theorem Ztx(g:o.op= .binOp .and t x y t')(h:ev env x=some (.int .u64 (m:Int)))(j:ev env y=some (.int .u64 (n:Int)))(f:m<U:=by omega)(k:n<U:=by decide):Mr P N sc o env H (.int .u64 ((m &&& n:Nat):Int)):=Eh g h j λw=>by
 have a:m &&& n<U:=aV Nat.and_le_left f;have e:(BitVec.ofInt 64 m &&& BitVec.ofInt 64 n).toNat=m &&& n:=by grind
 simp only [binOp,ne_eq,gT,mG,Op.intBits,Sem.run_pure];rw [show(BitVec.ofInt IntKind.u64.bits _ &&& BitVec.ofInt IntKind.u64.bits _).toNat=m &&& n from e,Zd1 a]
theorem Zow{k:IntKind}(j:o.op= .binOp .shl t x y t')(l:ev env x=some (.int .u64 (m:Int)))(q:ev env y=some (.int k n'))(e:n'=(n:Int))(r:n<=64:=by omega):Mr P N sc o env H (.int .u64 (((m*2^n)%U:Nat):Int)):=λa w hs=>by
 subst e;have f:min n 64=n:=O;have g:IntKind.u64.wrap ((m)*2^n)=(((m*2^n)%U)):=by rfl
 have h:¬((n:Int)<0):=O5;simp [execOp,j,hs.ev l,hs.ev q,eqGuard,binOp,Op.shift,IntKind.bits,f,g,h]
theorem Zov{k:IntKind}(j:o.op= .binOp .shr t x y t')(l:ev env x=some (.int .u64 (m:Int)))(q:ev env y=some (.int k n'))(e:n'=(n:Int))(r:n<=64:=by omega):Mr P N sc o env H (.int .u64 ((m/2^n:Nat):Int)):=λa w hs=>by subst e;have f:min n 64=n:=O;have g:(m:Int).fdiv (2^n)=((m/2^n)):=O4;have h:¬((n:Int)<0):=O5;simp [execOp,j,hs.ev l,hs.ev q,eqGuard,binOp,Op.shift,IntKind.bits,f,g,h]
theorem El (n':Nat){k:IntKind}(a:o.op= .binOp .shr t x y t')(f:ev env x=some (.int .u64 (m:Int)))(g:ev env y=some (.int k (n:Int)))(h:Nat.ble n 64=true)(e:2^n=n'):Mr P N sc o env H (.int .u64 ((m/n':Nat):Int)):=by rw [<-e];exact Zov a f g rfl O10
theorem Zic{k:IntKind}{r:Int}{m:Int}(f:o.op= .convert t t' x)(j:ev env x=some (.int k m)){ds:TypeDesc}(e:P.underlying t=some ds)(h:P.underlying t'=some (.int k'))(g:k'.wrap m=r):Mr P N sc o env H (.int k' r):=λa w hs=>by subst g;cases ds<;>simp [execOp,f,hs.ev j,convert,run_underlying e,run_underlying h,Conv.intToInt]
end
theorem Zcr {o:Oper} {x y:Operand}  {k:IntKind} {m n:Int} (e:o.op= .call { callee:= .builtin .max,args:=#[x,y],argTypes:=ats })
  (f:ev env x=some (.int k m)) (g:ev env y=some (.int k n)):Mr P N sc o env H (.int k (max m n)):=λa w hs=>by
 simp [execOp,e,resolve,hs.ev f,hs.ev g,invoke,builtin,Builtin.max_,Builtin.max2];omega
def Kp(v:Value)(n:Nat):Value:=match v with
 | .slice a _ c=> .slice a n c
 | u=>u
theorem Fg(v:Value)(n:Nat):(Kp v n).ownBlock=v.ownBlock:=by
 cases v with
 | slice a l c=>cases a<;>rfl
 | _=>rfl
theorem Zwy (ii:Nat)(i:Nat) {α:Type} {o:Oper} {x y:Operand} {t e:TypeId} {v:Value} {k:Nat}  {m:Int}  {enc:α->Value} {xs:List α} (l:o.op= .slice t x none (some y) none)
  (s:ev env x=some v) (u:ev env y=some (.int kd m)) (G:lk H ii=some p) (I:Rd p k enc v xs) (r:P.underlying t=some (.slice e)) (g:∀w,(sizeOf e).run P w= .ok k w)
   (h:m=(i:Int):=by omega) (j:i<=xs.length:=by omega):Mr P N sc o env H (Kp v i):=λa w hs=>by
 obtain⟨z,c,rfl,D,R,S⟩:=I w (hs.hold ii p G);subst h;have f:=aB j D;have B:∀q:Addr,q.add 0=q:=λq=>by rfl
 cases z with
 | none=>simp [execOp,l,hs.ev s,hs.ev u,Instr.sliceAt,Instr.slice,Instr.sliceBounds,Instr.sliceBound,asIntOf,run_underlying r,g,f,Kp]
 | some q=>simp [execOp,l,hs.ev s,hs.ev u,Instr.sliceAt,Instr.slice,Instr.sliceBounds,Instr.sliceBound,asIntOf,run_underlying r,g,f,Kp,B]
theorem Zea{α:Type}{k:Nat}{enc:α->Value}{v:Value}{xs:List α}(n:Nat)(l:n<=xs.length)(h:RowAt w k enc v xs):RowAt w k enc (Kp v n) (xs.take n):=by obtain⟨a,c,rfl,g,e,j⟩:=h;have f:(xs.take n).length=n:=O4;refine⟨a,c,by rw [f];rfl,O,e,?_⟩;grind
theorem Zni{α:Type}{v:Value}{xs:List α}{n b:Nat}(h:xs.take n≠[]/\(Kp v n).ownBlock=some b):xs≠[]/\v.ownBlock=some b:=
 ⟨λe=>h.1 O4,by grind [Fg]⟩
theorem Yio{α:Type}{k:Nat}{enc:α->Value}{v:Value}{xs:List α}(i j n:Nat)(hi:lk H i=some (Yl k enc v xs))(s:Nat.beq i 0=false)(u:n<=xs.length:=by omega):∀a w,Sat N sc env H a w->Sat N sc env ((j,Yl k enc (Kp v n) (xs.take n))::H) a w:=
 λa w hs=>hs.add j _ ⟨Zea n u (hs.hold i _ hi).1,λb f=>(hs.hold i _ hi).2 b (Zni f)⟩
  (λq B z l Ej b f h=>by
   rcases Ej with Ej|Ej
   .cases Ej
   .have r:=Zni f;by_cases g:q=i
    .subst g;rw [hi]at l;cases l;cases Ej
    .exact hs.sep q i B _ g l hi Ej b h r)
  (λb f=>hs.scope i _ (λe=>O10) hi b (Zni f))
theorem Yq5{α:Type}{k:Nat}{e:TypeId}{enc:α->Value}(D:∀x,(enc x).cells.size=k){v:Value}{xs:List α}(n:Nat)(s:n<=xs.length)(h:w.ownsRow 0 e k v xs.length (cellsOf enc xs)) :
  w.ownsRow 0 e k (Kp v n) (xs.take n).length (cellsOf enc (xs.take n)):=by
 have G:(xs.take n).length=n:=O4;refine⟨by rw [Xo D],?_⟩;rw [G];rcases h.2 with⟨rfl,S⟩|⟨g,f,j,rfl,z,B,I,l,q,a⟩
 .have:n=0:=O;subst this;exact .inl ⟨rfl,rfl⟩
 .refine .inr ⟨g,f,j,rfl,z,B,O,l,q,?_⟩;have u:∀(xs:List α) (n:Nat),n<=xs.length->cellsOf enc (xs.take n)=(cellsOf enc xs).take (n*k):=by
   intro xs
   induction xs with
   | nil=>simp [cellsOf]
   | cons x r R=>
    intro n h;cases n with
    | zero=>simp [cellsOf]
    | succ n=>
     have:=R n O4;simp only [cellsOf,jE,fF]at this ⊢;grind [Nat.add_mul,List.take_length_add_append]
  rw [u xs n s,<-a,gX,dK (aM k s)]
theorem Yip{α:Type}{t:TypeId}{k:Nat}{e:TypeId}{enc:α->Value}{v:Value}{xs:List α}(i n:Nat)(hi:lk H i=some (Oe k e enc v xs))(f:Nat.beq i 0=false)(j:Enc P t k enc)(l:n<=xs.length) :
  ∀a w,Sat N sc env H a w->Sat N sc env ((i,Oe k e enc (Kp v n) (xs.take n))::H) a w:=
 Zqs i hi rfl (λw h=>Yq5 j.cells n l h) (λb g=>by simpa [Oe,Fg]using g) f
theorem Oa{α:Type}{k:Nat}{enc:α->Value}{v:Value}{xs:List α}(i:Nat)(hi:lk H i=some p)(e:Rd p k enc v xs):∀a w,Sat N sc env H a w->xs.length<=9223372036854775807:=λa w hs=>by obtain⟨f,c,rfl,g,h,_⟩:=e w (hs.hold i p hi);have j:maxLen=9223372036854775807:=rfl;omega
theorem Ea(v:Value)(m n:Nat):Kp (Kp v m) n=Kp v n:=by cases v<;>rfl
theorem Zy6{α:Type}{k:Nat}{enc:α->Value}{v:Value}{xs:List α}(i:Nat)(hi:lk H i=some p)(e:Rd p k enc v xs):∀a w,Sat N sc env H a w->Kp v xs.length=v:=λa w hs=>by obtain⟨f,c,rfl,_⟩:=e w (hs.hold i p hi);rfl
end Go.Sky

