/- Rules, arithmetic and contracts: part 1. No conditions but those that each theorem names. -/
import Derived.Tactics
import Derived.Tactics2
import Derived.Orders
import Derived.Below
import Derived.Laws.AppendOwn
import Derived.Laws.MakeOwn
import Derived.KernelRfl
set_option linter.all false
namespace Go.Sky
variable{p:Prop}{f:Nat->Int}{m i k b:Nat}{q:List Int}{xs o:List Nat}
theorem O (h:p:=by omega):p:=h
theorem O1 (h:p:=by first|omega|(dsimp only<;>omega)):p:=h
theorem O2 (h:p:=by decide):p:=h
theorem O3 (h:p:=by first|omega|(simp only [List.length_set];omega)):p:=h
theorem O4 (h:p:=by grind):p:=h
theorem O5 (h:p:=by kernel_rfl):p:=h
theorem O6 (h:p:=by decide +kernel):p:=h
theorem O7 (h:p:=by simp):p:=h
theorem O8 (h:p:=by simp;omega):p:=h
theorem O9 (h:p:=by dsimp only;omega):p:=h
theorem O10 (h:p:=by simp [Iz,Ye,Oi]):p:=h
theorem O11 (h:p:=by simp [Value.oneCell']):p:=h
def Ye(f:Nat->Int):Nat->Int
 | 0=>0
 | n+1=>Ye f n+f n
def Hm(f:Nat->Int):Ye f 0=0:=rfl
def Yj(f:Nat->Int)(n:Nat):Ye f (n+1)=Ye f n+f n:=rfl
theorem Yy{f g:Nat->Int} : ∀{n:Nat},(∀i,i<n->f i=g i)->Ye f n=Ye g n
 | 0,_=>rfl
 | n+1,h=>by rw [Yj,Yj,Yy (λi hi=>h i O),h n O]
theorem Ff(f g:Nat->Int):∀n,Ye (λi=>f i+g i) n=Ye f n+Ye g n
 | 0=>rfl
 | n+1=>by simp only [Yj,Ff f g n];omega
theorem Mr(c:Int)(f:Nat->Int):∀n,Ye (λi=>c*f i) n=c*Ye f n
 | 0=>by simp [Ye]
 | n+1=>by simp only [Yj,Mr c f n];grind
theorem Zj9(c:Int)(f:Nat->Int)(n:Nat):Ye (λi=>f i*c) n=Ye f n*c:=by rw [Int.mul_comm,<-Mr];exact Yy λi _=>Int.mul_comm _ _
theorem Gd{f:Nat->Int} : ∀{n:Nat},(∀i,i<n->f i=0)->Ye f n=0
 | 0,_=>rfl
 | n+1,h=>by rw [Yj,Gd (λi hi=>h i O),h n O];rfl
theorem Me(f:Nat->Int):∀n,Ye f (n+1)=f 0+Ye (λi=>f (i+1)) n
 | 0=>by simp [Ye]
 | n+1=>by rw [Yj,Me f n,Yj];omega
theorem Zng(f:Nat->Int):∀n,Ye f n=Ye (λi=>f (n-1-i)) n
 | 0=>rfl
 | n+1=>by
  rw [Yj,Me (λi=>f (n+1-1-i)),Zng f n];have:Ye (λi=>f (n-1-i)) n=Ye (λi=>f (n+1-1-(i+1))) n:=Yy λi hi=>by congr 1;omega
  rw [this];simp only [Nat.add_sub_cancel,Nat.sub_zero];omega
theorem Zha{n:Nat}(a:m<=n)(h:∀i,m<=i->i<n->f i=0):Ye f n=Ye f m:=by
 induction n with
 | zero=>simp at a;subst a;rfl
 | succ n e=>
  by_cases d:m=n+1
  .subst d;rfl
  .rw [Yj,e O (λi c g=>h i c O),h n O O];omega
theorem Zne(f:Nat->Nat->Int):∀n,Ye (λi=>Ye (λk=>f k (i-k)) (i+1)) n=Ye (λk=>Ye (λj=>f k j) (n-k)) n
 | 0=>rfl
 | n+1=>by
  rw [Yj,Zne f n,Yj (λk=>Ye (λj=>f k j) (n+1-k))];have a:Ye (λk=>Ye (λj=>f k j) (n+1-k)) n=Ye (λk=>Ye (λj=>f k j) (n-k)+f k (n-k)) n:=
   Yy λk c=>by rw [show n+1-k=n-k+1 by omega,Yj]
  rw [a,Ff,Yj (λk=>f k (n-k)) n];rw [show n+1-n=0+1 by omega,Yj,Hm,show n-n=0 by omega];omega
structure PS where
 c:Nat->Int
theorem PS.ext'{f g:PS}(h:∀i,f.c i=g.c i):f=g:=by cases f;cases g;congr;exact funext h
namespace PS
def conv(f g:PS):PS:=⟨λi=>Ye (λk=>f.c k*g.c (i-k)) (i+1)⟩
def C(n:Int):PS:=⟨λi=>if i=0 then n else 0⟩
def xp(k:Nat):PS:=⟨λi=>if i=k then 1 else 0⟩
instance:Zero PS:=⟨⟨λ_=>0⟩⟩
instance:One PS:=⟨C 1⟩
instance:Add PS:=⟨λf g=>⟨λi=>f.c i+g.c i⟩⟩
instance:Neg PS:=⟨λf=>⟨λi=>- f.c i⟩⟩
instance:Sub PS:=⟨λf g=>⟨λi=>f.c i-g.c i⟩⟩
instance:Mul PS:=⟨conv⟩
instance:NatCast PS:=⟨λn=>C n⟩
instance (n:Nat):OfNat PS n:=⟨C n⟩
instance:IntCast PS:=⟨C⟩
instance:SMul Nat PS:=⟨λn f=>⟨λi=>(n:Int)*f.c i⟩⟩
instance:SMul Int PS:=⟨λn f=>⟨λi=>n*f.c i⟩⟩
def npow(f:PS):Nat->PS
 | 0=>1
 | n+1=>npow f n*f
instance:HPow PS Nat PS:=⟨npow⟩
def add_c(f g:PS)(i:Nat):(f+g).c i=f.c i+g.c i:=rfl
def mul_c(f g:PS)(i:Nat):(f*g).c i=Ye (λk=>f.c k*g.c (i-k)) (i+1):=rfl
def zero_c(i:Nat):(0:PS).c i=0:=by show(if i=0 then((0:Nat):Int)else 0)=0;split<;>rfl
def one_c(i:Nat):(1:PS).c i=if i=0 then 1 else 0:=rfl
def C_c(n:Int)(i:Nat):(C n).c i=if i=0 then n else 0:=rfl
def mul_comm'(f g:PS):f*g=g*f:=ext' λi=>by
 rw [mul_c,mul_c,Zng];exact Yy λk a=>by simp only [Nat.add_sub_cancel];rw [show i-(i-k)=k by omega,Int.mul_comm]
def C_mul(n:Int)(f:PS):C n*f=⟨λi=>n*f.c i⟩:=ext' λi=>by rw [mul_c,Me];rw [Gd (f:=λk=>(C n).c (k+1)*f.c (i-(k+1))) (λk a=>by simp [C_c])];simp [C_c]
def C_mul_c(n:Int)(f:PS)(i:Nat):(C n*f).c i=n*f.c i:=by rw [C_mul]
def Yg6(f:PS):1*f=f:=ext' λi=>by show(C 1*f).c i=f.c i;rw [C_mul_c,Int.one_mul]
def mul_assoc'(f g h:PS):f*g*h=f*(g*h):=ext' λi=>by
 rw [mul_c,mul_c];have a:Ye (λk=>(f*g).c k*h.c (i-k)) (i+1)=Ye (λk=>Ye (λj=>f.c j*g.c (k-j)*h.c (i-(j+(k-j)))) (k+1)) (i+1):=
  Yy λk c=>by rw [mul_c,<-Zj9];exact Yy λj b=>by rw [show j+(k-j)=k by omega]
 rw [a,Zne (λj m=>f.c j*g.c m*h.c (i-(j+m)))];refine Yy λj b=>?_;rw [mul_c,<-Mr,show i+1-j=i-j+1 by omega];exact Yy λm d=>by rw [Int.mul_assoc,show i-(j+m)=i-j-m by omega]
def Yop(f g h:PS):f*(g+h)=f*g+f*h:=ext' λi=>by rw [add_c,mul_c,mul_c,mul_c,<-Ff];exact Yy λk _=>by rw [add_c,Int.mul_add]
def distrib_r(f g h:PS):(f+g)*h=f*h+g*h:=by rw [mul_comm',Yop,mul_comm' h f,mul_comm' h g]
def zero_mul'(f:PS):0*f=0:=ext' λi=>by rw [mul_c,Gd (λk _=>by rw [zero_c,Int.zero_mul]),zero_c]
def add_zero'(f:PS):f+0=f:=ext' λi=>by rw [add_c,zero_c,Int.add_zero]
def zero_add'(f:PS):0+f=f:=ext' λi=>by rw [add_c,zero_c,Int.zero_add]
def add_comm'(f g:PS):f+g=g+f:=ext' λi=>by rw [add_c,add_c,Int.add_comm]
def add_assoc'(f g h:PS):f+g+h=f+(g+h):=ext' λi=>by simp only [add_c];omega
def mul_one'(f:PS):f*1=f:=by rw [mul_comm',Yg6]
instance:Std.Commutative (α:=PS) (· + ·):=⟨add_comm'⟩
instance:Std.Associative (α:=PS) (· + ·):=⟨add_assoc'⟩
instance:Std.Commutative (α:=PS) (· * ·):=⟨mul_comm'⟩
instance:Std.Associative (α:=PS) (· * ·):=⟨mul_assoc'⟩
end PS
def tzl(xs:List Int):List Int:=(xs.reverse.dropWhile (· == 0)).reverse
def cf(p:List Int)(i:Nat):Int:=p.getD i 0
def mk(n:Nat)(f:Nat->Int):List Int:=(List.range n).map f
def ps(p:List Int):PS:=⟨cf p⟩
def Tr(p:List Int):Prop:=p=[]\/cf p (p.length-1)≠0
def Oh(p:List Int)(i:Nat):(ps p).c i=cf p i:=rfl
def Yl{p:List Int}(h:p.length<=i):cf p i=0:=by simp [cf,List.getD,List.getElem?_eq_none h]
def Zc4{p:List Int}(h:i<p.length):cf p i=p[i]:=by simp [cf,List.getD,h]
def Yp(n:Nat)(f:Nat->Int):(mk n f).length=n:=by simp [mk]
def Nk(n:Nat)(f:Nat->Int)(i:Nat):cf (mk n f) i=if i<n then f i else 0:=by
 by_cases h:i<n
 .rw [if_pos h,Zc4 (by rw [Yp];exact h)];simp [mk]
 .rw [if_neg h,Yl (by rw [Yp];omega)]
def Ia{p:List Int}(c:p.length=q.length)(h:∀i,i<p.length->cf p i=cf q i):p=q:=by apply List.ext_getElem c;intro i a b;have:=h i a;rwa [Zc4 a,Zc4 b]at this
def Zdr(p:List Int):mk p.length (cf p)=p:=Ia (Yp _ _) λi h=>by rw [Nk,Yp]at *;rw [if_pos h]
def Gs{n:Nat}{g:Nat->Int}(h:∀i,i<n->f i=g i):mk n f=mk n g:=Ia (by rw [Yp,Yp]) λi hi=>by rw [Yp]at hi;rw [Nk,Nk,if_pos hi,if_pos hi,h i hi]
def Zd0(p q:List Int)(i:Nat):cf (p ++ q) i=if i<p.length then cf p i else cf q (i-p.length):=by
 by_cases h:i<p.length
 .rw [if_pos h];simp [cf,List.getD,List.getElem?_append_left h]
 .rw [if_neg h];simp only [cf,List.getD];rw [List.getElem?_append_right O]
def Dq(n:Nat)(f:Nat->Int):mk (n+1) f=mk n f ++ [f n]:=by simp [mk,List.range_succ]
def Zma(p:List Int)(k:Nat)(x:Int)(i:Nat)(h:k<p.length):cf (p.set k x) i=if i=k then x else cf p i:=by
 by_cases hi:i=k
 .subst hi;rw [if_pos rfl];simp [cf,List.getD,h]
 .rw [if_neg hi];simp only [cf,List.getD];rw [List.getElem?_set_ne (Ne.symm hi)]
def Ei(p:List Int)(k i:Nat):cf (p.take k) i=if i<k then cf p i else 0:=by
 by_cases hi:i<k
 .rw [if_pos hi];simp [cf,List.getD,List.getElem?_take,hi]
 .rw [if_neg hi,Yl];rw [List.length_take];omega
def Zc3(p:List Int)(f:Int->Int)(a:f 0=0)(i:Nat):cf (p.map f) i=f (cf p i):=by
 by_cases hi:i<p.length
 .rw [Zc4 (by simpa using hi),Zc4 hi];simp
 .rw [Yl (by simpa using hi),Yl O,a]
def Zac(xs:List Int):tzl (xs ++ [0])=tzl xs:=by simp [tzl]
def Cp(xs:List Int)(x:Int)(h:x≠0):tzl (xs ++ [x])=xs ++ [x]:=by simp [tzl,h]
def Zi6{α:Type}(xs:List α):xs=[]\/∃ys y,xs=ys ++ [y]:=by
 rcases List.eq_nil_or_concat xs with h|⟨ys,y,h⟩
 .exact .inl h
 .exact .inr ⟨ys,y,by simpa using h⟩
def Zoo{C:List Int->Prop}(c:C [])(e:∀xs,C xs->C (xs ++ [0]))(f:∀xs x,x≠0->C (xs ++ [x]))(p:List Int):C p:=by
 have b:∀n (p:List Int),p.length=n->C p:=by
  intro n
  induction n with
  | zero=>intro p a;rw [List.eq_nil_of_length_eq_zero a];exact c
  | succ n g=>
   intro p a;rcases Zi6 p with rfl|⟨h,y,rfl⟩
   .exact c
   .by_cases d:y=0
    .subst d;exact e _ (g h (by simpa using a))
    .exact f _ _ d
 exact b _ p rfl
def Mx(p:List Int):(tzl p).length<=p.length:=by
 refine Zoo (C:=λp=>(tzl p).length<=p.length) (Nat.le_refl _) (λb h=>?_) (λb x a=>?_) p
 .rw [Zac];simp;omega
 .rw [Cp _ _ a];exact Nat.le_refl _
def Ks(p:List Int)(i:Nat):cf (tzl p) i=cf p i:=by
 refine Zoo (C:=λp=>cf (tzl p) i=cf p i) rfl (λa h=>?_) (λa x c=>?_) p
 .rw [Zac,h,Zd0];split
  .rfl
  .rw [Yl O];by_cases b:i-a.length=0
   .rw [b];rfl
   .rw [Yl O8]
 .rw [Cp _ _ c]
def Tr.nil:Tr []:= .inl rfl
def Qc(p:List Int):Tr (tzl p):=by
 refine Zoo (C:=λp=>Tr (tzl p)) Tr.nil (λb h=>?_) (λb x a=>?_) p
 .rw [Zac];exact h
 .rw [Cp _ _ a];refine .inr ?_;rw [Zd0];simp [cf];exact a
def Zab{p:List Int}(h:Tr p):tzl p=p:=by
 rcases Zi6 p with rfl|⟨b,y,rfl⟩
 .rfl
 .rcases h with h|h
  .simp at h
  .refine Cp _ _ λa=>h ?_;subst a;rw [Zd0];simp [cf]
def Tr.ext{p q:List Int}(a:Tr p)(d:Tr q)(h:∀i,cf p i=cf q i):p=q:=by
 have b:∀{p q:List Int},Tr p->(∀i,cf p i=cf q i)->p.length<=q.length:=λ{p q} a h=>by
  rcases a with rfl|a
  .exact Nat.zero_le _
  .rw [h]at a;rcases Nat.lt_or_ge (p.length-1) q.length with c|c
   .omega
   .exact absurd (Yl c) a
 exact Ia (Nat.le_antisymm (b a h) (b d λi=>(h i).symm)) λi _=>h i
def Ylq{p:List Int}(h:∀i,cf p i=cf q i):tzl p=tzl q:=(Qc p).ext (Qc q) λi=>by rw [Ks,Ks,h]
def Zbg{p:List Int}{n:Nat}(h:∀i,n<=i->cf p i=0):(tzl p).length<=n:=by
 rcases Qc p with a|a
 .rw [a];exact Nat.zero_le _
 .rw [Ks]at a;rcases Nat.lt_or_ge ((tzl p).length-1) n with b|b
  .omega
  .exact absurd (h _ b) a
def Lz(p:List Int):tzl p=[]↔∀i,cf p i=0:=
 ⟨λh i=>by rw [<-Ks,h];rfl,λh=>List.eq_nil_of_length_eq_zero (Nat.le_zero.1 (Zbg λi _=>h i))⟩
def Tr.mem{p:List Int}(h:Tr p)(a:p≠[]):cf p (p.length-1)≠0:=by
 rcases h with h|h
 .exact absurd h a
 .exact h
def Zsd{xs:List Int}(c:k<=xs.length)(b:0<k)(h:cf xs (k-1)=0):tzl (xs.take k)=tzl (xs.take (k-1)):=Ylq λi=>by
 rw [Ei,Ei];by_cases hi:i=k-1
 .subst hi;rw [if_pos O,if_neg O,h]
 .by_cases a:i<k
  .rw [if_pos a,if_pos O]
  .rw [if_neg a,if_neg O]
def Zfc{xs:List Int}(a:k<=xs.length)(h:k=0\/cf xs (k-1)≠0):tzl (xs.take k)=xs.take k:=by
 refine Zab ?_;rcases h with rfl|h
 .simp [Tr]
 .rcases Nat.eq_zero_or_pos k with rfl|b
  .simp [Tr]
  .refine .inr ?_;rw [List.length_take,Nat.min_eq_left a,Ei,if_pos O];exact h
def Hh(p q:List Int):List Int:=tzl (mk (max p.length q.length) λi=>cf p i+cf q i)
def Ct(p q:List Int):List Int:=tzl (mk (max p.length q.length) λi=>cf p i-cf q i)
def Zm(p:List Int)(c:Int):List Int:=tzl (p.map (· * c))
def Qn(p q:List Int):List Int:=tzl (mk (p.length+q.length-1) λi=>(ps p*ps q).c i)
def Xd(p:List Int):List Int:=mk (p.length-1) λi=>cf p (i+1)*((i:Int)+1)
def pev(p:List Int)(n d:Int):Int:=Ye (λi=>cf p i*(n^i*d^(p.length-1-i))) p.length
def Ym(p:List Int):Int:=p.foldl (λg c=>(Int.gcd g c:Int)) 0
def Zz(p:List Int):List Int:=p.map (· / Ym p)
def Ej(p q:List Int)(i:Nat):cf (Hh p q) i=cf p i+cf q i:=by
 unfold Hh;rw [Ks,Nk];split
 .rfl
 .rw [Yl,Yl]<;>omega
def Ds(p q:List Int)(i:Nat):cf (Ct p q) i=cf p i-cf q i:=by
 unfold Ct;rw [Ks,Nk];split
 .rfl
 .rw [Yl,Yl]<;>omega
def Yu(p:List Int)(c:Int)(i:Nat):cf (Zm p c) i=cf p i*c:=by unfold Zm;rw [Ks,Zc3 _ _ O7]
def Hg(p q:List Int)(i:Nat):cf (Qn p q) i=(ps p*ps q).c i:=by
 unfold Qn;rw [Ks,Nk];split
 .rfl
 .rw [PS.mul_c,Gd];intro k a;rcases Nat.lt_or_ge k p.length with h|h
  .rw [Oh,Oh,Yl (p:=q) O,Int.mul_zero]
  .rw [Oh,Yl h,Int.zero_mul]
def Zye(p q:List Int):Tr (Hh p q):=Qc _
def Zfe(p q:List Int):Tr (Ct p q):=Qc _
def Qk(p:List Int)(c:Int):Tr (Zm p c):=Qc _
def Qa(p q:List Int):Tr (Qn p q):=Qc _
def Ym3(p q:List Int):Ct p q=Hh p (Zm q (-1)):=(Zfe p q).ext (Zye p _) λi=>by rw [Ej,Yu,Ds];omega
def Be(p q:List Int):Qn p q=Qn q p:=(Qa p q).ext (Qa q p) λi=>by rw [Hg,Hg,PS.mul_comm']
def Ym4(p q:List Int):ps (Hh p q)=ps p+ps q:=PS.ext' λi=>Ej p q i
def Zje(p q:List Int):ps (Qn p q)=ps p*ps q:=PS.ext' λi=>Hg p q i
def Zhi(p:List Int)(c:Int):ps (Zm p c)=PS.C c*ps p:=PS.ext' λi=>by rw [PS.C_mul_c,Int.mul_comm];exact Yu p c i
def Tr.ps_inj{p:List Int}(a:Tr p)(b:Tr q)(h:ps p=ps q):p=q:=a.ext b λi=>by rw [<-Oh,h,Oh]
def tz(xs:List Nat):List Nat:=(xs.reverse.dropWhile (· == 0)).reverse
def Ka(xs:List Nat):tz (xs ++ [0])=tz xs:=by simp [tz]
def Hl(xs:List Nat)(x:Nat)(h:x≠0):tz (xs ++ [x])=xs ++ [x]:=by simp [tz,h]
def Ps{α:Type}(d:α)(xs:List α)(k:Nat)(h:k<xs.length):xs.take (k+1)=xs.take k ++ [xs.getD k d]:=by rw [List.take_succ_eq_append_getElem h];simp [List.getD,h]
def Zdv{α:Type}(xs:List α)(k i:Nat)(d:α)(h:i<k):(xs.take k).getD i d=xs.getD i d:=by simp [List.getD,h]
def Zyc(b:k<=xs.length)(a:0<k)(h:(xs.take k).getD (k-1) 0=0):tz (xs.take k)=tz (xs.take (k-1)):=by rw [Zdv xs k (k-1) 0 O]at h;have:=Ps 0 xs (k-1) O;rw [show k-1+1=k by omega]at this;rw [this,h,Ka]
def Zfd(b:k<=xs.length)(h:k=0\/(xs.take k).getD (k-1) 0≠0):tz (xs.take k)=xs.take k:=by
 rcases Nat.eq_zero_or_pos k with rfl|a
 .rfl
 .have h:=h.resolve_left O;rw [Zdv xs k (k-1) 0 O]at h;have:=Ps 0 xs (k-1) O;rw [show k-1+1=k by omega]at this;rw [this,Hl _ _ h]
def tz_eq(h:xs=[]\/xs.getD (xs.length-1) 0≠0):tz xs=xs:=by
 have:=Zfd (xs:=xs) (k:=xs.length) (Nat.le_refl _) (by
  rcases h with rfl|h
  .exact .inl rfl
  .right;rwa [List.take_length])
 rwa [List.take_length]at this
def Yh(b:Nat):List Nat->Nat
 | []=>0
 | d::r=>d+b*Yh b r
def dgf(b:Nat):Nat->Nat->List Nat
 | 0,_=>[]
 | f+1,n=>if n=0 then []else n%b::dgf b f (n/b)
def dg(b n:Nat):List Nat:=dgf b n n
def Zuy{b:Nat}(d:2<=b):∀(f a n:Nat),n<=f->n<=a->dgf b f n=dgf b a n
 | 0,0,_,_,_=>rfl
 | 0,a+1,n,h,_=>by have:n=0:=O;subst this;simp [dgf]
 | f+1,0,n,_,h=>by have:n=0:=O;subst this;simp [dgf]
 | f+1,a+1,n,h,e=>by
  unfold dgf;by_cases c:n=0
  .simp [c]
  .have:n/b<n:=Nat.div_lt_self O O;rw [if_neg c,if_neg c,Zuy d f a (n/b) O O]
def Gl(b:Nat):dg b 0=[]:=rfl
def Zbx{n:Nat}(a:2<=b)(c:0<n):dg b n=n%b::dg b (n/b):=by
 unfold dg;obtain⟨m,rfl⟩:∃m,n=m+1:=⟨n-1,O⟩
 conv=>lhs;unfold dgf
 rw [if_neg O];have:(m+1)/b<m+1:=Nat.div_lt_self O O;rw [Zuy a m ((m+1)/b) ((m+1)/b) O (Nat.le_refl _)]
def Mc(a:2<=b)(n:Nat):Yh b (dg b n)=n:=by
 induction n using Nat.strongRecOn with
 | _ n c=>
  rcases Nat.eq_zero_or_pos n with rfl|h
  .rfl
  .rw [Zbx a h,Yh,c _ (Nat.div_lt_self h O)];have:=Nat.mod_add_div n b;omega
def Ni(c:2<=b)(n:Nat):∀d∈dg b n,d<b:=by
 induction n using Nat.strongRecOn with
 | _ n e=>
  rcases Nat.eq_zero_or_pos n with rfl|h
  .intro d a;cases a
  .rw [Zbx c h];intro d a;rcases List.mem_cons.1 a with rfl|a
   .exact Nat.mod_lt _ O
   .exact e _ (Nat.div_lt_self h O) d a
def Ns(b:Nat)(xs ys:List Nat):Yh b (xs ++ ys)=Yh b xs+b^xs.length*Yh b ys:=by
 induction xs with
 | nil=>simp [Yh]
 | cons x r a=>simp only [List.cons_append,Yh,a,List.length_cons,Nat.pow_succ,Nat.mul_add];rw [Nat.mul_comm (b^r.length) b,Nat.mul_assoc];omega
def Zg1{b:Nat}(e:0<b):∀(xs:List Nat),(∀d∈xs,d<b)->Yh b xs<b^xs.length
 | [],_=>by simp [Yh]
 | x::r,h=>by have a:=Zg1 e r (λd f=>h d (List.mem_cons_of_mem _ f));have g:=h x (List.mem_cons_self ..);simp only [Yh,List.length_cons,Nat.pow_succ];have c:b*(Yh b r+1)<=b*b^r.length:=Nat.mul_le_mul_left b a;rw [Nat.mul_comm (b^r.length) b];rw [Nat.mul_add]at c;omega
def Gp(b n:Nat):Yh b (List.replicate n 0)=0:=by
 induction n with
 | zero=>rfl
 | succ n a=>simp [List.replicate_succ,Yh,a]
def Ql(b:Nat)(xs:List Nat)(k:Nat):Yh b (xs.take (k+1))=Yh b (xs.take k)+xs.getD k 0*b^k:=by
 by_cases h:k<xs.length
 .rw [Ps 0 xs k h,Ns,Yh,Yh,List.length_take,Nat.min_eq_left O,Nat.mul_comm (b^k)];simp
 .rw [List.take_of_length_le O,List.take_of_length_le O];have:xs.getD k 0=0:=by simp [List.getD,List.getElem?_eq_none (by omega:xs.length<=k)]
  rw [this];omega
def Nx(b:Nat)(xs:List Nat)(k:Nat)(h:xs.length<=k):Yh b (xs.take k)=Yh b xs:=by rw [List.take_of_length_le h]
def Xq(c:0<b)(h:∀d∈xs,d<b)(k:Nat):xs.getD k 0<b:=by
 by_cases a:k<xs.length
 .have:xs.getD k 0=xs[k]:=by simp [List.getD,a]
  rw [this];exact h _ (List.getElem_mem a)
 .have:xs.getD k 0=0:=by simp [List.getD,List.getElem?_eq_none (by omega:xs.length<=k)]
  omega
def Zmr{α:Type}(o:List α)(k:Nat)(d:α)(h:k<o.length):(o.set k d).take (k+1)=o.take k ++ [d]:=by
 have a:k<(o.set k d).length:=by simpa using h
 rw [Ps d _ _ a];congr 1
 .apply List.ext_getElem?;intro i;rw [List.getElem?_take,List.getElem?_take];split
  .rw [List.getElem?_set_ne O]
  .rfl
 .simp [List.getD,h]
def Zms{α:Type}(o:List α)(k:Nat)(d:α):(o.set k d).take k=o.take k:=by
 apply List.ext_getElem?;intro i;rw [List.getElem?_take,List.getElem?_take];split
 .rw [List.getElem?_set_ne O]
 .rfl
def Co(b:Nat)(o:List Nat)(k d:Nat)(h:k<o.length):Yh b ((o.set k d).take (k+1))=Yh b (o.take k)+d*b^k:=by rw [Zmr o k d h,Ns,Yh,Yh,List.length_take,Nat.min_eq_left O,Nat.mul_comm (b^k)];simp
def Lv{p:Nat->Prop}(h:∀d∈o,p d)(k d:Nat)(b:p d):∀x∈o.set k d,p x:=by
 intro x c;rcases List.mem_or_eq_of_mem_set c with a|a
 .exact h x a
 .rw [a];exact b
def Ou{p:Nat->Prop}(n:Nat)(h:p 0):∀d∈List.replicate n 0,p d:=by intro d a;rw [(List.mem_replicate.1 a).2];exact h
def Zbh{α:Type}(xs:List α):xs=[]\/∃ys y,xs=ys ++ [y]:=by
 rcases List.eq_nil_or_concat xs with h|⟨ys,y,h⟩
 .exact .inl h
 .exact .inr ⟨ys,y,by simpa using h⟩
def Ic{b:Nat}(u:2<=b):∀(xs:List Nat),(∀d∈xs,d<b)->dg b (Yh b xs)=tz xs
 | [],_=>rfl
 | x::r,h=>by
  have g:=Ic u r (λd w=>h d (List.mem_cons_of_mem _ w));have v:=h x (List.mem_cons_self ..);have k:(x+b*Yh b r)%b=x:=by rw [Nat.add_mul_mod_self_left,Nat.mod_eq_of_lt v]
  have j:(x+b*Yh b r)/b=Yh b r:=by rw [Nat.add_mul_div_left _ _ O,Nat.div_eq_of_lt v];omega
  rcases Nat.eq_zero_or_pos (x+b*Yh b r)with e|e
  .have p:x=0:=O;have o:Yh b r=0:=by
    rcases Nat.eq_zero_or_pos (Yh b r)with m|m
    .exact m
    .have:=Nat.mul_pos (by omega:0<b) m;omega
   rw [o,Gl]at g;simp only [Yh,e,Gl];subst p;rcases Zbh r with rfl|⟨a,y,rfl⟩
   .rfl
   .by_cases f:y=0
    .subst f;rw [Ka]at g;rw [show(0::(a ++ [0]))=(0::a) ++ [0]from rfl,Ka];have l:(a.reverse.dropWhile (· == 0))=[]:=by have:=congrArg List.reverse g.symm;simpa [tz]using this
     unfold tz;rw [List.reverse_cons,List.dropWhile_append,l];simp
    .rw [Hl _ _ f]at g;simp at g
  .have:=Zbx u e;simp only [Yh];rw [this,k,j,g];rcases Zbh r with rfl|⟨a,y,rfl⟩
   .have:x≠0:=by simp [Yh]at e;omega
    simp [tz,this]
   .by_cases f:y=0
    .subst f;rw [Ka,show(x::(a ++ [0]))=(x::a) ++ [0]from rfl,Ka];have t:∀a:List Nat,0<x+b*Yh b a->x::tz a=tz (x::a):=by
      intro a
      induction hn:a.length using Nat.strongRecOn generalizing a with
      | _ n s=>
       intro c;rcases Zbh a with rfl|⟨i,z,rfl⟩
       .have:x≠0:=by simp [Yh]at c;omega
        simp [tz,this]
       .by_cases q:z=0
        .subst q;rw [Ka,show(x::(i ++ [0]))=(x::i) ++ [0]from rfl,Ka];refine s i.length (by simp at hn;omega) i rfl ?_;rw [Ns]at c;simpa [Yh]using c
        .rw [Hl _ _ q,show(x::(i ++ [z]))=(x::i) ++ [z]from rfl,Hl _ _ q]
     refine t a ?_;rw [Ns]at e;simpa [Yh]using e
    .rw [Hl _ _ f,show(x::(a ++ [y]))=(x::a) ++ [y]from rfl,Hl _ _ f]
def Zhv(a:2<=b){n:Nat} : dg b m=dg b n↔m=n:=⟨λh=>by rw [<-Mc a m,h,Mc a],λh=>by rw [h]⟩
def Hf{b:Nat}(a:2<=b):∀(i n:Nat),(dg b n).getD i 0=n/b^i%b
 | 0,n=>by
  rcases Nat.eq_zero_or_pos n with rfl|h
  .simp [Gl]
  .rw [Zbx a h];simp
 | i+1,n=>by
  rcases Nat.eq_zero_or_pos n with rfl|h
  .simp [Gl]
  .rw [Zbx a h];have c:=Hf a i (n/b);simp only [List.getD_cons_succ];rw [c,Nat.div_div_eq_div_mul,Nat.pow_succ,Nat.mul_comm b]
def Xp{b:Nat}(a:2<=b):∀(k n:Nat),(dg b n).length<=k↔n<b^k
 | 0,n=>by
  rcases Nat.eq_zero_or_pos n with rfl|h
  .simp [Gl]
  .rw [Zbx a h];simp;omega
 | k+1,n=>by
  rcases Nat.eq_zero_or_pos n with rfl|h
  .simp [Gl,Nat.pow_pos (by omega:0<b)]
  .rw [Zbx a h];simp only [List.length_cons,Nat.add_le_add_iff_right];rw [Xp a k (n/b),Nat.pow_succ,Nat.div_lt_iff_lt_mul O]
def Nh(a:2<=b)(k n:Nat):k<(dg b n).length↔b^k<=n:=by have:=Xp a k n;omega
def dg_top{n:Nat}(a:2<=b)(h:0<n):(dg b n).getD ((dg b n).length-1) 0≠0:=by
 have d:0<(dg b n).length:=by rw [Nh a,Nat.pow_zero];omega
 have e:b^((dg b n).length-1)<=n:=(Nh a _ n).1 O;have c:n<b^(dg b n).length:=(Xp a _ n).1 (Nat.le_refl _);rw [Hf a];rw [show(dg b n).length=(dg b n).length-1+1 by omega,Nat.pow_succ]at c;have f:n/b^((dg b n).length-1)<b:=by rw [Nat.div_lt_iff_lt_mul (Nat.pow_pos O),Nat.mul_comm];exact c
 have g:0<n/b^((dg b n).length-1):=Nat.div_pos e (Nat.pow_pos O);rw [Nat.mod_eq_of_lt f];omega
def Pw(a:2<=b)(n:Nat):(dg b n).length=0↔n=0:=by have:=Xp a 0 n;rw [Nat.pow_zero]at this;omega
def Zv0(e:2<=b){x:Nat}(h:∀i,i<o.length->o.getD i 0=x/b^i%b)(g:x<b^o.length):tz o=dg b x:=by
 have a:∀d∈o,d<b:=λd f=>by obtain⟨i,hi,rfl⟩:=List.getElem_of_mem f;have:=h i hi;rw [show o.getD i 0=o[i] by simp [List.getD,hi]]at this;rw [this];exact Nat.mod_lt _ O
 rw [<-Ic e o a];congr 1;have c:∀k,k<=o.length->Yh b (o.take k)=x%b^k:=by
  intro k
  induction k with
  | zero=>intro _;simp [Yh,Nat.mod_one]
  | succ k j=>
   intro l;rw [Ql,j O,h k O,Nat.pow_succ,Nat.mod_mul,Nat.mul_comm]
 have:=c o.length (Nat.le_refl _);rw [List.take_length]at this;rw [this,Nat.mod_eq_of_lt g]
def bl(n:Nat):Nat:=(dg 2 n).length
def Qg(k n:Nat):bl n<=k↔n<2^k:=Xp O k n
def Zb7(k n:Nat):k<bl n↔2^k<=n:=Nh O k n
def Lu:bl 0=0:=rfl
def Zrp{n:Nat}(h:0<n):2^(bl n-1)<=n/\0<bl n:=by have a:0<bl n:=(Zb7 0 n).2 (by rw [Nat.pow_zero];omega);exact⟨(Zb7 _ n).1 O,a⟩
def Dx(n:Nat):n<2^bl n:=(Qg _ n).1 (Nat.le_refl _)
def bl_eq{n:Nat}(b:n<2^k)(a:k=0\/2^(k-1)<=n):bl n=k:=by
 have:=(Qg k n).2 b;rcases a with rfl|a
 .omega
 .have:=(Zb7 (k-1) n).2 a;omega
def Zx0(n k:Nat)(h:0<n):bl (n*2^k)=bl n+k:=by
 have a:=Zrp h;refine bl_eq ?_ (.inr ?_)
 .rw [Nat.pow_add];exact(Nat.mul_lt_mul_right (Nat.pow_pos O)).2 (Dx n)
 .rw [show bl n+k-1=(bl n-1)+k by omega,Nat.pow_add];exact Nat.mul_le_mul_right _ a.1
def Ga(n k:Nat):bl (n/2^k)=bl n-k:=by
 by_cases h:bl n<=k
 .have:=(Qg k n).1 h;rw [Nat.div_eq_of_lt this,Lu];omega
 .have a:2^k<=n:=(Zb7 k n).1 O;have b:0<n:=Nat.lt_of_lt_of_le (Nat.pow_pos O) a;have c:=Zrp b;refine bl_eq ?_ (.inr ?_)
  .rw [Nat.div_lt_iff_lt_mul (Nat.pow_pos O),<-Nat.pow_add,show bl n-k+k=bl n by omega];exact Dx n
  .rw [Nat.le_div_iff_mul_le (Nat.pow_pos O),<-Nat.pow_add,show bl n-k-1+k=bl n-1 by omega];exact c.1
def Og{n:Nat}(h:m<=n):bl m<=bl n:=(Qg _ m).2 (Nat.lt_of_le_of_lt h (Dx n))
end Go.Sky
namespace Go.Sky
open Go.RowKit (Below)
variable{M:Nat->Prop}{a:Act}{b:Bool}{c:Operand}{w w':World}{x y:Code}{v:Value}{id d i:Nat}{p:Prop}{K:Act->World->Prop}{o oi:Oper}{rest:List Oper}{Y:Act->Prop}{ts:List Nat}{listed:Array Bool}
abbrev Ph:=List (Nat×Value)
def lk{α:Type} : List (Nat×α)->Nat->Option α
  | [],_=>none
  | (k,v)::r,n=>cond (Nat.beq k n) (some v) (lk r n)
def ev(e:Ph):Operand->Option Value
  | .tmp t=>lk e t
  | .const v=>some v
  | .global g=>some (.pointer (some ⟨g,0,none⟩))
  | .func f=>some (.func (.func f) #[] #[])
structure Chg (M:Nat->Prop) (w w':World):Prop where
  os:w'.os=w.os
  tape:w'.tape=w.tape
  output:w'.output=w.output
  size:w.heap.size<=w'.heap.size
  block:∀k,k<w.heap.size->¬M k->w'.heap[k]? = w.heap[k]?
def Chg.refl(M:Nat->Prop)(w:World):Chg M w w:=⟨rfl,rfl,rfl,Nat.le_refl _,λ_ _ _=>rfl⟩
def Chg.trans{a b c:World}(h:Chg M a b)(k:Chg M b c):Chg M a c:=
  ⟨k.os.trans h.os,k.tape.trans h.tape,k.output.trans h.output,Nat.le_trans h.size k.size,λi hi e=>(k.block i (Nat.lt_of_lt_of_le hi h.size) e).trans (h.block i hi e)⟩
def Chg.of_below(h:Below w.heap.size w w'):Chg M w w':=⟨h.os,h.tape,h.output,h.size,λk e _=>h.block k e⟩
structure Pc where
  own:Bool
  fp:Nat->Prop
  holds:World->Prop
  lt:∀w b,holds w->fp b->b<w.heap.size
  stable:∀w w',holds w->Chg (λb=>¬fp b) w w'->holds w'
abbrev Hp:=List (Nat×Pc)
structure Sat (N:Nat) (sc:Nat->Prop) (env:Ph) (H:Hp) (a:Act) (w:World):Prop where
  size:a.tmps.size=N
  defers:a.defers=[]
  env:∀t v,lk env t=some v->a.tmps.getD t undef=v
  hold:∀i it,lk H i=some it->it.holds w
  sep:∀i j it jt,i≠j->lk H i=some it->lk H j=some jt->it.own=true->∀b,it.fp b->jt.fp b->False
  scope:∀i it,i≠0->lk H i=some it->∀b,it.fp b->sc b
variable {P:Program} {N:Nat} {sc:Nat->Prop} {env env':Ph} {H H':Hp} {Q Q':Exit->Act->World->Prop}
def E(P:Program)(N:Nat)(sc:Nat->Prop)(c:Code)(Q:Exit->Act->World->Prop)(env:Ph)(H:Hp):Prop:=
  ∀a w,Sat N sc env H a w->c.wp P Q a w
def L(P:Program)(N:Nat)(sc:Nat->Prop)(ops:Array Oper)(rest:List Oper)(Q:Exit->Act->World->Prop)(env:Ph)(H:Hp):Prop:=
  ∀a w,Sat N sc env H a w->wpList P ops Q rest a w
def X(N:Nat)(sc:Nat->Prop)(e:Exit)(Q:Exit->Act->World->Prop)(env:Ph)(H:Hp):Prop:=
  ∀a w,Sat N sc env H a w->Q e a w
def Sub:Ph->Ph->Prop
  | [],_=>True
  | (t,v)::r,e=>lk e t=some v/\Sub r e
def HSub:Hp->Hp->Prop
  | [],_=>True
  | (t,v)::r,e=>lk e t=some v/\HSub r e
theorem Sub.lk:∀{f e:Ph},Sub f e->∀t v,lk f t=some v->lk e t=some v
  | [],_,_,_,_,h=>by cases h
  | (k,u)::r,e,h,t,v,hl=>by
    unfold Sky.lk at hl;cases hb:Nat.beq k t with
    | true=>
      rw [hb]at hl;have:=Nat.eq_of_beq_eq_true hb;subst this;simp only [cond_true]at hl;cases hl;exact h.1
    | false=>
      rw [hb]at hl;exact Sub.lk h.2 t v hl
theorem HSub.lk:∀{f e:Hp},HSub f e->∀t v,lk f t=some v->lk e t=some v
  | [],_,_,_,_,h=>by cases h
  | (k,u)::r,e,h,t,v,hl=>by
    unfold Sky.lk at hl;cases hb:Nat.beq k t with
    | true=>
      rw [hb]at hl;have:=Nat.eq_of_beq_eq_true hb;subst this;simp only [cond_true]at hl;cases hl;exact h.1
    | false=>
      rw [hb]at hl;exact HSub.lk h.2 t v hl
def Sat.weaken(h:Sat N sc env H a w)(hs:Sub env' env)(f:HSub H' H):Sat N sc env' H' a w:=
  ⟨h.size,h.defers,λt v n=>h.env t v (hs.lk t v n),λi e hi=>h.hold i e (f.lk i e hi),
   λi j e l k hi m=>h.sep i j e l k (f.lk i e hi) (f.lk j l m),λi e g hi=>h.scope i e g (f.lk i e hi)⟩
def E.weaken{c:Code}(h:E P N sc c Q env' H')(hs:Sub env' env)(f:HSub H' H):E P N sc c Q env H:=
  λa w e=>h a w (e.weaken hs f)
def X.weaken{e:Exit}(h:X N sc e Q env' H')(hs:Sub env' env)(g:HSub H' H):X N sc e Q env H:=
  λa w f=>h a w (f.weaken hs g)
theorem Yd{α:Type}(k:Nat)(v:α)(r:List (Nat×α)):lk ((k,v)::r) k=some v:=by simp [lk]
theorem Zt{α:Type}{k n:Nat}(v:α)(r:List (Nat×α))(h:k≠n):lk ((k,v)::r) n=lk r n:=by
  have:Nat.beq k n=false:=by
    cases hb:Nat.beq k n with
    | false=>rfl
    | true=>exact absurd (Nat.eq_of_beq_eq_true hb) h
  simp [lk,this]
theorem Sat.ev(h:Sat N sc env H a w){x:Operand}(e:ev env x=some v):a.eval x=v:=by
  cases x with
  | tmp t=>exact h.env t v e
  | const u=>simp only [Sky.ev,Option.some.injEq]at e;exact e
  | global g=>simp only [Sky.ev,Option.some.injEq]at e;exact e
  | func f=>simp only [Sky.ev,Option.some.injEq]at e;exact e
theorem Sat.put(h:Sat N sc env H a w)(d:Nat)(v:Value)(j:Nat.blt d N=true):Sat N sc ((d,v)::env) H (a.put (some d) v) w:=by
  have g:d<N:=by simpa using j
  refine⟨by simp [Act.put,h.size],h.defers,λt u e=>?_,h.hold,h.sep,h.scope⟩;by_cases f:d=t
  . subst f;rw [Yd]at e;cases e;simp [Act.put,h.size,g]
  . rw [Zt _ _ f]at e;have:=h.env t u e;simp only [Act.put];rw [<-this];simp [Array.getD_eq_getD_getElem?,Array.getElem?_setIfInBounds_ne f]
def Sat.put_none(h:Sat N sc env H a w)(v:Value):Sat N sc env H (a.put none v) w:=h
def e_seq(h:E P N sc x (Exit.then (y.wp P Q) Q) env H):E P N sc (.seq x y) Q env H:=λa w hs=>wp_seq (h a w hs)
def e_skip(h:X N sc .normal Q env H):E P N sc .skip Q env H:=λa w hs=>wp_skip (h a w hs)
def e_ret(h:X N sc .ret Q env H):E P N sc .ret Q env H:=λa w hs=>wp_ret (h a w hs)
def e_exit(h:X N sc (.exit id) Q env H):E P N sc (.exit id) Q env H:=λa w hs=>wp_exit (h a w hs)
def Yol{c:Code}(h:E P N sc c (Exit.inBlock id Q) env H):E P N sc (.block id c) Q env H:=λa w hs=>wp_block (h a w hs)
def e_reg{l:List Oper}(h:L P N sc l.toArray l Q env H):E P N sc (.region id l.toArray false) Q env H:=λa w hs=>wp_region_lit (h a w hs)
theorem Zc[Decidable p](e:ev env c=some (.bool (decide p)))(g:p->E P N sc x Q env H)(f:¬p->E P N sc y Q env H) :
    E P N sc (.cond c x y) Q env H:=λa w hs=>
  wp_cond_split (hs.ev e) (λh=>g (by simpa using h) a w hs) (λh=>f (by simpa using h) a w hs)
def Mv(e:ev env c=some (.bool b))(g:b=true->E P N sc x Q env H)(f:b=false->E P N sc y Q env H) :
    E P N sc (.cond c x y) Q env H:=λa w hs=>
  wp_cond_split (hs.ev e) (λh=>g h a w hs) (λh=>f h a w hs)
def Yoj(e:ev env c=some (.bool true))(f:E P N sc x Q env H):E P N sc (.cond c x y) Q env H:=λa w hs=>
  wp_cond_true (hs.ev e) (f a w hs)
def Yok(e:ev env c=some (.bool false))(f:E P N sc y Q env H):E P N sc (.cond c x y) Q env H:=λa w hs=>
  wp_cond_false (hs.ev e) (f a w hs)
def Cn{ops:Array Oper}(h:X N sc .normal Q env H):L P N sc ops [] Q env H:=λa w hs=>wpList_nil (h a w hs)
def x_then(h:E P N sc y Q env H):X N sc .normal (Exit.then (y.wp P Q) Q) env H:=h
def x_ret(h:X N sc .ret Q env H):X N sc .ret (Exit.then K Q) env H:=h
def x_exit(h:X N sc (.exit id) Q env H):X N sc (.exit id) (Exit.then K Q) env H:=h
def x_bn(h:X N sc .normal Q env H):X N sc .normal (Exit.inBlock id Q) env H:=h
def x_br(h:X N sc .ret Q env H):X N sc .ret (Exit.inBlock id Q) env H:=h
theorem x_be(h:X N sc .normal Q env H):X N sc (.exit id) (Exit.inBlock id Q) env H:=λa w hs=>by show(if id=id then Q .normal a w else Q (.exit id) a w);rw [if_pos rfl];exact h a w hs
theorem x_bo{e:Nat}(f:e≠id)(h:X N sc (.exit e) Q env H):X N sc (.exit e) (Exit.inBlock id Q) env H:=λa w hs=>by show(if e=id then Q .normal a w else Q (.exit e) a w);rw [if_neg f];exact h a w hs
theorem e_loop {c:Code} {G:Type} (h:G->Ph) (D:G->Hp) (m:G->Prop) (μ:G->Nat) (I:G) (h₀:m I) (hs:Sub (h I) env) (hh:HSub (D I) H)
    (u:∀g,m g->E P N sc c (Exit.then (λa w=>∃r,m r/\μ r<μ g/\Sat N sc (h r) (D r) a w) Q) (h g) (D g)) :
    E P N sc (.loop c) Q env H:=by
  intro a0 w0 j;have h1:=j.weaken hs hh;suffices hx:∀n g,μ g=n->m g->∀a w,Sat N sc (h g) (D g) a w->(Code.loop c).wp P Q a w from hx _ I rfl h₀ a0 w0 h1
  intro n g _ hg a w j b k R;have Z:∀n g,μ g=n->m g->∀a w,Sat N sc (h g) (D g) a w->
      ∃e F w',Q e F w'/\Arrives P (lone (b.at a (.code c::.inLoop c::k)) R w) b k R e F w':=by
    intro n
    induction n using Nat.strongRecOn with
    | _ n ih=>
      intro g hn hI a w j;obtain⟨e,z,B,q,f⟩:=u g hI a w j b (.inLoop c::k) R;cases e with
      | normal=>
        obtain⟨r,S,V,t⟩:=q;obtain⟨e₂,a₂,w₂,W,s⟩:=ih (μ r) (hn▸V) r rfl S z B t;exact⟨e₂,a₂,w₂,W,.of_steps (Steps.trans f (.one step_inLoop)) s⟩
      | exit id=>exact⟨_,z,B,q,.pass (x:= .inLoop c) rfl (λ_ _=> .inl O7) f⟩
      | goto l=>exact⟨_,z,B,q,.pass (x:= .inLoop c) rfl (λ_ _=> .inl O7) f⟩
      | ret=>exact⟨_,z,B,q,.pass (x:= .inLoop c) rfl (λ_ _=> .inl O7) f⟩
      | panic ch=>exact⟨_,z,B,q,.pass (x:= .inLoop c) rfl (λ_ _=> .inl O7) f⟩
      | outgrown=>exact⟨_,z,B,q,.pass (x:= .inLoop c) rfl (λ_ _=> .inl O7) f⟩
  obtain⟨e,F,w',q,f⟩:=Z _ g rfl hg a w j;exact⟨e,F,w',q,.of_steps (.one step_loop) f⟩
def Mo(P:Program)(N:Nat)(sc:Nat->Prop)(o:Oper)(env:Ph)(H:Hp)(v:Value):Prop:=
  ∀a w,Sat N sc env H a w->(execOp a.eval o).run P w= .ok (.value v) w
def T(P:Program)(N:Nat)(sc:Nat->Prop)(M:Nat->Prop)(o:Oper)(env:Ph)(H:Hp){G:Type}(φ:G->Prop)(env':G->Ph)(H':G->Hp):Prop:=
  ∀a w,Sat N sc env H a w->∀K Q,(∀g e w',φ g->Sat N sc (env' g) (H' g) e w'->Chg M w w'->K e w')->o.wp P a w K Q
theorem l_det {ops:Array Oper}     (j:o.guard=none) (g:o.dst=some d) (f:Nat.blt d N=true) (k:Mo P N sc o env H v)
    (h:L P N sc ops rest Q ((d,v)::env) H):L P N sc ops (o::rest) Q env H:=λa w hs=>
  wpList_plain j λK e=>by unfold Oper.wp;rw [k a w hs];show K (a.put o.dst v) w;rw [g];exact e _ _ (h _ _ (hs.put d v f))
def l_step {ops:Array Oper}   {G:Type}  {φ:G->Prop} {e:G->Ph} {k:G->Hp} (f:o.guard=none)
    (n:T P N sc M o env H φ e k) (h:∀g,φ g->L P N sc ops rest Q (e g) (k g)):L P N sc ops (o::rest) Q env H:=λa w hs=>
  wpList_plain f λK m=>n a w hs K Q λg l w' f j _=>m _ _ (h g f l w' j)
theorem Sat.yielded(h:Sat N sc env H a w){ops:Array Oper}{j:Nat}(l:(ops[j]?).bind (·.dst)=some d)(k:lk env d=some (.bool b))(g:Nat.blt d N=true) :
    yielded ops a.tmps j=some b:=by
  have f:=h.env d _ k;have e:d<a.tmps.size:=by rw [h.size];simpa using g
  unfold Go.yielded;rw [l];simp only [Option.bind_some];rw [Array.getD_eq_getD_getElem?,Array.getElem?_eq_getElem e]at f;simp only [Option.getD_some]at f;rw [Array.getElem?_eq_getElem e,f]
theorem l_gdet {ops:Array Oper}     {j e:Nat}  (n:o.guard=some (j,b)) (q:(ops[j]?).bind (·.dst)=some e) (m:lk env e=some (.bool b))
    (f:Nat.blt e N=true) (l:o.dst=some d) (k:Nat.blt d N=true) (r:Mo P N sc o env H v)
    (h:L P N sc ops rest Q ((d,v)::env) H):L P N sc ops (o::rest) Q env H:=λa w hs=>
  wpList_step λK g=>by
    have t:=hs.yielded q m f;have s:Region.wanted o (yielded ops a.tmps)=true:=by simp [Region.wanted,n,t]
    rw [if_pos s];unfold Oper.wp;rw [r a w hs];show K (a.put o.dst v) w;rw [l];exact g _ _ (h _ _ (hs.put d v k))
theorem Yny {ops:Array Oper}   {G:Type}  {φ:G->Prop} {f:G->Ph} {n:G->Hp} {j e:Nat}  (l:o.guard=some (j,b)) (t:(ops[j]?).bind (·.dst)=some e)
    (s:lk env e=some (.bool b)) (k:Nat.blt e N=true)
    (u:T P N sc M o env H φ f n) (h:∀g,φ g->L P N sc ops rest Q (f g) (n g)):L P N sc ops (o::rest) Q env H:=λa w hs=>
  wpList_step λK r=>by
    have B:=hs.yielded t s k;have z:Region.wanted o (yielded ops a.tmps)=true:=by simp [Region.wanted,l,B]
    rw [if_pos z];exact u a w hs K Q λg q w' l m _=>r _ _ (h g l q w' m)
theorem Ynz {ops:Array Oper}    {j e:Nat} {k:Bool} (r:o.guard=some (j,b)) (s:(ops[j]?).bind (·.dst)=some e) (q:lk env e=some (.bool k))
    (g:Nat.blt e N=true) (f:(k == b)=false) (n:o.dst=some d) (m:Nat.blt d N=true)
    (h:L P N sc ops rest Q ((d,undef)::env) H):L P N sc ops (o::rest) Q env H:=λa w hs=>
  wpList_step λK l=>by
    have u:=hs.yielded s q g;have t:Region.wanted o (yielded ops a.tmps)=false:=by simp [Region.wanted,r,u];simpa using f
    rw [t,if_neg O7,n];exact l _ _ (h _ _ (hs.put d undef m))
theorem Xg {ops:Array Oper}    [Decidable p] (h:lk env d=some (.bool (decide p)))
    (k:p->L P N sc ops rest Q ((d,.bool true)::env) H) (j:¬p->L P N sc ops rest Q ((d,.bool false)::env) H):L P N sc ops rest Q env H:=λa w hs=>by
  by_cases g:p
  . refine k g a w ⟨hs.size,hs.defers,λt v e=>?_,hs.hold,hs.sep,hs.scope⟩;by_cases f:d=t
    . subst f;rw [Yd]at e;cases e;have:=hs.env _ _ h;rw [this];simp [g]
    . rw [Zt _ _ f]at e;exact hs.env _ _ e
  . refine j g a w ⟨hs.size,hs.defers,λt v e=>?_,hs.hold,hs.sep,hs.scope⟩;by_cases f:d=t
    . subst f;rw [Yd]at e;cases e;have:=hs.env _ _ h;rw [this];simp [g]
    . rw [Zt _ _ f]at e;exact hs.env _ _ e
section
variable {ops:Array Oper} {md:Region.Mode} {C:World->World->Prop}
def Ch(ops:Array Oper)(ts:List Nat)(listed:Array Bool):Bool:=(List.range ops.size).all λj=>ts.contains j || listed.getD j true
def Hk(P:Program)(md:Region.Mode)(ops:Array Oper)(ts:List Nat)(C:World->World->Prop)(Q:Exit->Act->World->Prop):Nat->Array Bool->Act->World->Prop
  | 0,listed,a,w=>Region.ready md ops listed=[]/\Q .normal a w
  | e+1,listed,a,w=>if Ch ops ts listed=true then wpAny P md ops Q (e+1) listed a w else
    (Region.ready md ops listed=[]->Q .normal a w)/\
    ∀i∈Region.ready md ops listed,wpOp P ops Q i (λf w'=>C w w'/\Hk P md ops ts C Q e (listed.setIfInBounds i true) f w') a w
theorem Bj{ts:List Nat} : ∀(e:Nat) (listed:Array Bool) (a:Act) (w:World),Hk P md ops ts C Q e listed a w->wpAny P md ops Q e listed a w
  | 0,_,_,_,h=>h
  | e+1,listed,_,_,h=>by
    unfold Hk at h;split at h
    . exact h
    . exact⟨h.1,λi hi=>wpOp_mono (λ_ _ f=>Bj e _ _ _ f.2) (h.2 i hi)⟩
def YieldsC(P:Program)(ops:Array Oper)(C:World->World->Prop)(o:Oper)(v:Value)(a:Act)(w:World):Prop:=
  (Region.wanted o (yielded ops a.tmps)=true/\∀w',C w w'->(execOp a.eval o).run P w'= .ok (.value v) w')\/
  (Region.wanted o (yielded ops a.tmps)=false/\v=undef)
theorem YieldsC.wpOp      (hi:ops[i]? = some o) (e:C w w) (j:YieldsC P ops C o v a w)
     (h:K (a.put o.dst v) w):wpOp P ops Q i K a w:=by
  unfold Go.wpOp;simp only [hi];rcases j with⟨f,g⟩|⟨f,rfl⟩
  . simp only [f,if_true,Oper.wp,g w e,Oper.upon];exact .inl h
  . simp only [f,Bool.false_eq_true,if_false];exact h
theorem YieldsC.of_same {o:Oper} {v:Value} {a e:Act} {w:World} (h:YieldsC P ops C o v a w) (f:execOp e.eval o=execOp a.eval o)
    (g:Region.wanted o (yielded ops e.tmps)=Region.wanted o (yielded ops a.tmps)):YieldsC P ops C o v e w:=by
  unfold YieldsC at *;rw [f,g];exact h
theorem YieldsC.later(e:∀a b c,C a b->C b c->C a c)(l:YieldsC P ops C o v a w)(h:C w w'):YieldsC P ops C o v a w':=by
  rcases l with⟨k,f⟩|f
  . exact .inl ⟨k,λg j=>f g (e _ _ _ h j)⟩
  . exact .inr f
theorem Ybt {j:Nat} {k:Oper}  (Z:ops[j]? = some k) (F:oi.apart ops k=true)
    (G:∀cs b,oi.op≠ .select cs b) (B:∀cs b,k.op≠ .select cs b)
    (V:∀c a w,Q (.panic c) (a.put oi.dst v) w->Q (.panic c) a w)    
    (W:∀a s,Y a->execOp s.eval oi=execOp a.eval oi->Region.wanted oi (yielded ops s.tmps)=Region.wanted oi (yielded ops a.tmps)->Y s) (l:Y a)
    (h:wpOp P ops Q j K (a.put oi.dst v) w) :
    wpOp P ops Q j (λs w'=>Y s/\K (s.put oi.dst v) w') a w:=by
  obtain⟨D,t,S⟩:=Oper.apart_spec F;have Yo:∀(a:Act),Y a->∀u,Y (a.put k.dst u):=λa l u=>
    W _ _ l (execOp_put oi G a k.dst u S) (wanted_put oi a k.dst u S)
  have q:∀d,Y { a with defers:=d::a.defers }:=λd=>W _ _ l rfl rfl;unfold Go.wpOp at *;simp only [Z]at *;rw [wanted_put k a oi.dst v D]at h;split
  . rename_i I;simp only [I,if_true]at h;rcases h with h|⟨g,m⟩
    case inr=>exact .inr ⟨by unfold Oper.asks at *;rw [execOp_put k B a oi.dst v D]at g;exact g,m⟩
    refine .inl ?_;unfold Oper.wp at *;rw [execOp_put k B a oi.dst v D]at h;generalize (execOp a.eval k).run P w=r at *;cases r with
    | ok n w'=>
      cases n<;>simp only [Oper.upon]at h ⊢
      case value u=>exact⟨Yo a l u,by rw [<-Act.put_comm a v u t];exact h⟩
      case skip=>exact⟨Yo a l _,by rw [<-Act.put_comm a v undef t];exact h⟩
      case defer d=>
        refine⟨Yo _ (q d) _,?_⟩;rw [<-Act.put_comm _ v undef t,<-Act.put_defers];exact h
      case enter f args=>
        refine Calls.mono h λe R z=>?_;cases e with
        | returned u=>exact⟨Yo a l u,by rw [<-Act.put_comm a v u t];exact z⟩
        | panicked c=>exact V _ _ _ z
        | outgrown=>exact z
      case row row args=>exact Rows.mono h λu R z=>⟨Yo a l u,by rw [<-Act.put_comm a v u t];exact z⟩
    | halt x w'=>
      cases x<;>simp only [Oper.upon]at h ⊢
      case panic u=>exact V _ _ _ h
  . rename_i I;simp only [I]at h;exact⟨Yo a l _,by rw [<-Act.put_comm a v undef t];exact h⟩
theorem Zei(hi:ops[i]? = some o)(e:i ∉ ts)(f:listed.getD i true=false):Ch ops ts listed=false:=by
  cases h:Ch ops ts listed with
  | false=>rfl
  | true=>
    unfold Ch at h;rw [List.all_eq_true]at h;have:=h i (List.mem_range.2 (Array.getElem?_eq_some_iff.1 hi).1);rw [f]at this;simp [e]at this
theorem Zbc     (hi:ops[i]? = some oi) (B:∀(j:Nat) (o:Oper) R b,ops[j]? = some o->o.op≠ .select R b)
    (a2:i ∉ ts) (S:∀(j:Nat) (r:Oper),j∈ts->ops[j]? = some r->∃e∈r.after,Region.binds md e=true/\e.on=i)
    (g:∀w,C w w) (u:∀a b c,C a b->C b c->C a c)
    (hQ:∀c a w,Q (.panic c) (a.put oi.dst v) w->Q (.panic c) a w) :
    ∀(l:Nat) (listed:Array Bool) (a:Act) (w:World),
      (∀j r,ops[j]? = some r->j≠i->listed.getD j true=false->(∀e∈r.after,Region.binds md e=true->e.on≠i)->oi.apart ops r=true)->
      i∈Region.ready md ops listed->YieldsC P ops C oi v a w->
      Hk P md ops ts C Q l (listed.setIfInBounds i true) (a.put oi.dst v) w->Hk P md ops ts C Q (l+1) listed a w:=by
  intro l
  induction l with
  | zero=>
    intro listed a w _ t I H;have G:=Zei hi a2 (mem_ready.1 t).1;unfold Hk;rw [if_neg (by rw [G];exact Bool.false_ne_true)];refine⟨λh=>(by rw [h]at t;cases t),λj hj=>?_⟩;by_cases f:j=i
    . subst f;exact I.wpOp hi (g w) ⟨g w,H⟩
    . have:=ready_mono hj f;rw [H.1]at this;cases this
  | succ l ih=>
    intro listed a w m t I H;have G:=Zei hi a2 (mem_ready.1 t).1;unfold Hk;rw [if_neg (by rw [G];exact Bool.false_ne_true)];refine⟨λh=>(by rw [h]at t;cases t),λj hj=>?_⟩;by_cases f:j=i
    . subst f;exact I.wpOp hi (g w) ⟨g w,H⟩
    . obtain⟨n,r,q,V⟩:=mem_ready.1 hj;have z:∀e∈r.after,Region.binds md e=true->e.on≠i:=λe W hb F=>by
        have D:=V e W hb;have h0:=(mem_ready.1 t).1;rw [F]at D;rcases Nat.lt_or_ge i listed.size with h'|h'
        . simp [h']at h0 D;rw [h0]at D;cases D
        . simp [Array.getElem?_eq_none h']at D
      have a0:j ∉ ts:=λhm=>by obtain⟨e,W,hb,F⟩:=S j r hm q;exact z e W hb F
      have a1:Ch ops ts (listed.setIfInBounds i true)=false:=Zei q a0 (by rw [getD_set_ne true (Ne.symm f)];exact n);unfold Hk at H;rw [if_neg (by rw [a1];exact Bool.false_ne_true)]at H;have D:=H.2 j (ready_mono hj f);have h2:=Ybt (Y:=λa=>YieldsC P ops C oi v a w) q (m j r q f n z) (λR b=>B i oi R b hi) (λR b=>B j r R b q) hQ
        (λa a' I W hw=>YieldsC.of_same I W hw) I D
      have s:∀k ok,ops[k]? = some ok->k≠i->(listed.setIfInBounds j true).getD k true=false->
          (∀e∈ok.after,Region.binds md e=true->e.on≠i)->oi.apart ops ok=true:=λk ok hk a4 a3 a5=>by
        refine m k ok hk a4 ?_ a5;by_cases Z:j=k
        . subst Z;exact n
        . rw [getD_set_ne true Z]at a3;exact a3
      refine wpOp_mono (λa' w' h3=>⟨h3.2.1,ih (listed.setIfInBounds j true) a' w' s (ready_mono t (Ne.symm f)) (h3.1.later u h3.2.1) ?_⟩) h2;rw [Array.setIfInBounds_comm _ _ f];exact h3.2.2
end
def drp:Nat->Hp->Hp
  | _,[]=>[]
  | k,(i,p)::r=>cond (Nat.beq i k) (drp k r) ((i,p)::drp k r)
theorem Dd:∀(k:Nat) (H:Hp) (i:Nat) (p:Pc),lk (drp k H) i=some p->i≠k/\lk H i=some p
  | _,[],_,_,h=>by cases h
  | k,(j,q)::r,i,p,h=>by
    unfold drp at h;cases hb:Nat.beq j k with
    | true=>
      rw [hb]at h;obtain⟨g,l⟩:=Dd k r i p h;have:=Nat.eq_of_beq_eq_true hb;refine⟨g,?_⟩;rw [Zt _ _ O];exact l
    | false=>
      rw [hb]at h;simp only [cond_false]at h;by_cases f:j=i
      . subst f;rw [Yd]at h;refine⟨λe=>?_,by rw [Yd];exact h⟩;subst e;simp at hb
      . rw [Zt _ _ f]at h ⊢;exact Dd k r i p h
def LD(P:Program)(N:Nat)(sc:Nat->Prop)(M:Nat->Prop)(ops:Array Oper)(F:Ph->Hp->Prop):List (Nat×Nat)->Ph->Hp->Prop
  | [],env,H=>F env H
  | (i,0)::rest,env,H=>∃o d v,ops[i]? = some o/\o.dst=some d/\Nat.blt d N=true/\
      (∀a w,Sat N sc env H a w->Region.wanted o (yielded ops a.tmps)=true/\∀w',Chg M w w'->(execOp a.eval o).run P w'= .ok (.value v) w')/\LD P N sc M ops F rest ((d,v)::env) H
  | (i,1)::rest,env,H=>∃(o:Oper) (G:Type) (φ:G->Prop) (e:G->Ph) (f:G->Hp),ops[i]? = some o/\
      (∀a w,Sat N sc env H a w->Region.wanted o (yielded ops a.tmps)=true)/\T P N sc M o env H φ e f/\∀g,φ g->LD P N sc M ops F rest (e g) (f g)
  | (i,3)::rest,env,H=>∃(o:Oper) (G:Type) (φ:G->Prop) (e:G->Ph) (f:G->Hp),ops[i]? = some o/\
      (∀a w,Sat N sc env H a w->Region.wanted o (yielded ops a.tmps)=true)/\T P N sc (λ_=>True) o env H φ e f/\∀g,φ g->LD P N sc M ops F rest (e g) (f g)
  | (i,_)::rest,env,H=>∃o d,ops[i]? = some o/\o.dst=some d/\Nat.blt d N=true/\
      (∀a w,Sat N sc env H a w->Region.wanted o (yielded ops a.tmps)=false)/\LD P N sc M ops F rest ((d,undef)::env) H
def Bs:List (Nat×Nat)->List Nat
  | []=>[]
  | (i,3)::rest=>i::Bs rest
  | _::rest=>Bs rest
def Fy(ops:Array Oper)(ts:List Nat):List (Nat×Nat)->Array Bool->Bool
  | [],_=>true
  | (i,1)::rest,listed=>(Region.ready .any ops listed == [i]) && !(Ch ops ts listed) && Fy ops ts rest (listed.setIfInBounds i true)
  | (i,3)::rest,listed=>(Region.ready .any ops listed == [i]) && Ch ops ts listed && Fy ops ts rest (listed.setIfInBounds i true)
  | (i,_)::rest,listed=>(Region.ready .any ops listed).contains i && Region.free .any ops listed i && !(ts.contains i) &&
      ts.all (λj=>match ops[j]? with|some f=>f.after.any (λe=>Region.binds .any e && e.on == i)|none=>true) && Fy ops ts rest (listed.setIfInBounds i true)
def Cc:List (Nat×Nat)->Array Bool->Array Bool
  | [],listed=>listed
  | (i,_)::rest,listed=>Cc rest (listed.setIfInBounds i true)
def Gr(Q:Exit->Act->World->Prop):Exit->Act->World->Prop
  | .normal,a,w=>Q .normal a w
  | _,_,_=>False
theorem Zpo {ops:Array Oper}   (h:ts.all (λj=>match ops[j]? with|some f=>f.after.any (λe=>Region.binds .any e && e.on == i)|none=>true)=true)
    (j:Nat) (f:Oper) (m:j∈ts) (n:ops[j]? = some f):∃e∈f.after,Region.binds .any e=true/\e.on=i:=by
  rw [List.all_eq_true]at h;have k:=h j m;simp only [n]at k;obtain⟨e,l,g⟩:=Array.any_eq_true'.1 k;simp only [Bool.and_eq_true,beq_iff_eq]at g;exact⟨e,l,g.1,g.2⟩
def A(P:Program)(N:Nat)(sc:Nat->Prop)(M:Nat->Prop)(ops:Array Oper)(ts:List Nat)(Q:Exit->Act->World->Prop)(n:Nat)(listed:Array Bool)(env:Ph)(H:Hp):Prop:=
  ∀a w,Sat N sc env H a w->Hk P .any ops ts (Chg M) (Gr Q) n listed a w
theorem LD.sound{M:Nat->Prop}{ops:Array Oper}{ts:List Nat}{F:Ph->Hp->Prop}{n:Nat}(f:Region.noSelect ops=true):∀(m:List (Nat×Nat)) (listed:Array Bool) (env:Ph) (H:Hp),Fy ops ts m listed=true->
    LD P N sc M ops F m env H->(∀env H,F env H->A P N sc M ops ts Q n (Cc m listed) env H)->A P N sc M ops ts Q (m.length+n) listed env H
  | [],listed,env,H,l,h,r,a,w,hs=>by simpa [Cc]using r _ _ h a w hs
  | (i,0)::rest,listed,env,H,l,h,r,a,w,hs=>by simp only [Fy,Bool.and_eq_true]at l;obtain⟨⟨⟨⟨u,Z⟩,t⟩,s⟩,l⟩:=l;obtain⟨o,d,v,q,W,V,I,e⟩:=h;obtain⟨hw,I⟩:=I a w hs;have ih:=LD.sound f rest (listed.setIfInBounds i true) _ _ l e r _ w (hs.put d v V);show Hk P .any ops ts (Chg M) (Gr Q) ((rest.length+1)+n) listed a w;rw [Nat.add_right_comm];refine Zbc q (Region.noSelect_spec f) (by simpa using t) (Zpo s) (Chg.refl M) (λ_ _ _=>Chg.trans) (λ_ _ _ h=>h.elim) (rest.length+n) listed a w (Region.free_spec q Z) (by simpa using u) (.inl ⟨hw,I⟩) ?_;rw [W];exact ih
  | (i,1)::rest,listed,env,H,l,h,r,a,w,hs=>by simp only [Fy,Bool.and_eq_true,beq_iff_eq,Bool.not_eq_true']at l;obtain⟨⟨u,D⟩,l⟩:=l;obtain⟨o,G,φ,R,gH,q,hw,ht,e⟩:=h;show Hk P .any ops ts (Chg M) (Gr Q) ((rest.length+1)+n) listed a w;rw [Nat.add_right_comm];unfold Hk;rw [if_neg (by rw [D];exact Bool.false_ne_true)];refine⟨λS=>(by rw [u]at S;cases S),λj z=>?_⟩;rw [u]at z;have z:=List.mem_singleton.1 z;subst z;unfold wpOp;simp only [q,hw a w hs,if_true];exact .inl (ht a w hs _ _ λg a' w' hg B hc=>⟨hc,LD.sound f rest _ _ _ l (e g hg) r a' w' B⟩)
  | (i,3)::rest,listed,env,H,l,h,r,a,w,hs=>by simp only [Fy,Bool.and_eq_true,beq_iff_eq]at l;obtain⟨⟨u,D⟩,l⟩:=l;obtain⟨o,G,φ,R,gH,q,hw,ht,e⟩:=h;show Hk P .any ops ts (Chg M) (Gr Q) ((rest.length+1)+n) listed a w;rw [Nat.add_right_comm];unfold Hk;rw [if_pos D];refine⟨λS=>(by rw [u]at S;cases S),λj z=>?_⟩;rw [u]at z;have z:=List.mem_singleton.1 z;subst z;unfold wpOp;simp only [q,hw a w hs,if_true];exact .inl (ht a w hs _ _ λg a' w' hg B _=>Bj _ _ _ _ (LD.sound f rest _ _ _ l (e g hg) r a' w' B))
  | (i,2)::rest,listed,env,H,l,h,r,a,w,hs=>by simp only [Fy,Bool.and_eq_true]at l;obtain⟨⟨⟨⟨u,Z⟩,t⟩,s⟩,l⟩:=l;obtain⟨o,d,q,W,V,I,e⟩:=h;have ih:=LD.sound f rest (listed.setIfInBounds i true) _ _ l e r _ w (hs.put d undef V);show Hk P .any ops ts (Chg M) (Gr Q) ((rest.length+1)+n) listed a w;rw [Nat.add_right_comm];refine Zbc q (Region.noSelect_spec f) (by simpa using t) (Zpo s) (Chg.refl M) (λ_ _ _=>Chg.trans) (λ_ _ _ h=>h.elim) (rest.length+n) listed a w (Region.free_spec q Z) (by simpa using u) (.inr ⟨I a w hs,rfl⟩) ?_;rw [W];exact ih
  | (i,(k+4))::rest,listed,env,H,l,h,r,a,w,hs=>by simp only [Fy,Bool.and_eq_true]at l;obtain⟨⟨⟨⟨u,Z⟩,t⟩,s⟩,l⟩:=l;obtain⟨o,d,q,W,V,I,e⟩:=h;have ih:=LD.sound f rest (listed.setIfInBounds i true) _ _ l e r _ w (hs.put d undef V);show Hk P .any ops ts (Chg M) (Gr Q) ((rest.length+1)+n) listed a w;rw [Nat.add_right_comm];refine Zbc q (Region.noSelect_spec f) (by simpa using t) (Zpo s) (Chg.refl M) (λ_ _ _=>Chg.trans) (λ_ _ _ h=>h.elim) (rest.length+n) listed a w (Region.free_spec q Z) (by simpa using u) (.inr ⟨I a w hs,rfl⟩) ?_;rw [W];exact ih
def Sat.drew(h:Sat N sc env H a w):Sat N sc env H a { w with drawn:=w.drawn+1 }:=
  ⟨h.size,h.defers,h.env,λi e hi=>e.stable w _ (h.hold i e hi) ⟨rfl,rfl,rfl,Nat.le_refl _,λ_ _ _=>rfl⟩,h.sep,h.scope⟩
theorem Zp{ops:Array Oper}(h:X N sc .normal Q env H)(e:(Region.ready .any ops listed).isEmpty=true:=by kernel_rfl):A P N sc M ops ts Q 0 listed env H:=
  λa w hs=>⟨by simpa using e,h a w hs⟩
def Zrz(P:Program)(N:Nat)(sc:Nat->Prop)(M:Nat->Prop)(ops:Array Oper)(ts:List Nat)(Q:Exit->Act->World->Prop)(n:Nat)(listed:Array Bool)(env:Ph)(H:Hp)(i:Nat):Prop:=
  ∃(o:Oper) (G:Type) (φ:G->Prop) (e:G->Ph) (f:G->Hp),ops[i]? = some o/\o.guard=none/\T P N sc M o env H φ e f/\∀g,φ g->A P N sc M ops ts Q n (listed.setIfInBounds i true) (e g) (f g)
theorem a_br  {ops:Array Oper}   {n:Nat} (r:List Nat) (f:((Region.ready .any ops listed == r) && !(Ch ops ts listed) && !r.isEmpty)=true)
    (h:∀i∈r,Zrz P N sc M ops ts Q n listed env H i):A P N sc M ops ts Q (n+1) listed env H:=λa w hs=>by
  simp only [Bool.and_eq_true,beq_iff_eq,Bool.not_eq_true']at f;obtain⟨⟨f,q⟩,l⟩:=f;unfold Hk;rw [if_neg (by rw [q];exact Bool.false_ne_true)];refine⟨λt=>?_,λj u=>?_⟩
  . rw [f]at t;subst t;simp at l
  . rw [f]at u;obtain⟨o,G,φ,s,I,D,k,F,e⟩:=h j u;unfold wpOp;simp only [D,Region.wanted,k,if_true];exact .inl (F a w hs _ _ λg z w' k m B=>⟨B,e g k z w' m⟩)
theorem a_lin  {l:List Oper}  {n m:Nat}  (F:Ph->Hp->Prop) (e:List (Nat×Nat)) 
    (g:(Region.noSelect l.toArray && Fy l.toArray ts e listed && Nat.beq (e.length+n) m)=true) (h:LD P N sc M l.toArray F e env H)
    (q:∀env H,F env H->A P N sc M l.toArray ts Q n (Cc e listed) env H):A P N sc M l.toArray ts Q m listed env H:=by
  simp only [Bool.and_eq_true]at g;obtain⟨⟨j,k⟩,f⟩:=g;have f:=Nat.eq_of_beq_eq_true f;subst f;exact LD.sound j e listed env H k h q
theorem It  {l:List Oper} (M:Nat->Prop) (ts:List Nat) 
    (h:A P N sc M l.toArray ts Q l.length (Array.replicate l.length false) env H) (g:P.follows .mixedOrders=true:=by kernel_rfl):E P N sc (.region id l.toArray true) Q env H:=λa w hs=>by
  refine Code.wp_mono (Q:=Gr Q) (λe a w f=>by cases e<;>first|exact f|exact f.elim) ?_;refine wp_region_any g (Bj (C:=Chg M) (ts:=ts) _ _ _ _ ?_);simpa using h a _ hs.drew
theorem e_dreg  {l:List Oper} (M:Nat->Prop) (e:List (Nat×Nat)) (r:P.follows .mixedOrders=true)
    (g:(Region.noSelect l.toArray && Nat.beq e.length l.length && Fy l.toArray (Bs e) e (Array.replicate l.length false) &&
      (Region.ready .any l.toArray (Cc e (Array.replicate l.length false))).isEmpty)=true)
    (h:LD P N sc M l.toArray (X N sc .normal Q) e env H):E P N sc (.region id l.toArray true) Q env H:=by
  simp only [Bool.and_eq_true]at g;obtain⟨⟨⟨j,f⟩,k⟩,m⟩:=g;have f:=Nat.eq_of_beq_eq_true f;refine It M (Bs e) ?_ r;have:=LD.sound (n:=0) (Q:=Q) j e _ env H k h (λenv H q=>Zp q m);rw [<-f];rw [<-f]at this;simpa using this
end Go.Sky
namespace Go.Sky
open Go.RowKit (Below)
variable{w:World}{k kd:IntKind}{v:Value}{t t' tb:TypeId}{o:Oper}{x c y:Operand}{i b:Nat}{vs cs:Array Value}{p:Pc}{m:Int}
variable {P:Program} {N:Nat} {sc:Nat->Prop} {env env':Ph} {H H':Hp} {Q Q':Exit->Act->World->Prop}
def Yo(w0:World)(M:Nat->Prop):Pc:=
  { own:=false,fp:=λb=>b<w0.heap.size/\¬M b,holds:=λw=>Chg M w0 w
    lt:=λw b h f=>Nat.lt_of_lt_of_le f.1 h.size
    stable:=λw j h a=>⟨a.os.trans h.os,a.tape.trans h.tape,a.output.trans h.output,Nat.le_trans h.size a.size,
      λk d e=>(a.block k (Nat.lt_of_lt_of_le d h.size) (λg=>g ⟨d,e⟩)).trans (h.block k d e)⟩ }
def box(b:Nat)(t:TypeId)(cs:Array Value):Pc:=
  { own:=true,fp:=λk=>k=b,holds:=λw=>w.heap[b]? = some (.cells cs t (0,0))
    lt:=λw k h d=>by subst d;exact(Array.getElem?_eq_some_iff.1 h).1
    stable:=λw f h a=>by rw [<-h];exact a.block b (Array.getElem?_eq_some_iff.1 h).1 (λe=>e rfl) }
def cellsOf{α:Type}(enc:α->Value)(xs:List α):List Value:=xs.flatMap λx=>(enc x).cells.toList
def RowAt{α:Type}(w:World)(k:Nat)(enc:α->Value)(v:Value)(xs:List α):Prop:=
  ∃a c,v= .slice a xs.length c/\xs.length<=c/\c<=maxLen/\(xs=[]\/∃g d,a=some ⟨g,d,none⟩/\
    ∀i x,xs[i]? = some x->∀j u,(enc x).cells.toList[j]? = some u->w.cell? ⟨g,d+i*k+j,none⟩=some u)
theorem RowAt.same{α:Type}{w':World}{k:Nat}{enc:α->Value}{xs:List α}(h:RowAt w k enc v xs)(r:∀b,xs≠[]/\v.ownBlock=some b->w'.heap[b]? = w.heap[b]?):RowAt w' k enc v xs:=by
  obtain⟨a,c,rfl,d,e,f⟩:=h;rcases f with f|⟨g,l,rfl,q⟩
  . exact⟨a,c,rfl,d,e,.inl f⟩
  by_cases n:xs=[]
  . exact⟨_,c,rfl,d,e,.inl n⟩
  refine⟨_,c,rfl,d,e,.inr ?_⟩;refine⟨g,l,rfl,λi x hi j u s=>?_⟩;rw [<-q i x hi j u s];exact World.cell?_of_block (r g ⟨n,rfl⟩)
def Ys{α:Type}(k:Nat)(enc:α->Value)(v:Value)(xs:List α):Pc:=
  { own:=false,fp:=λb=>xs≠[]/\v.ownBlock=some b,holds:=λw=>RowAt w k enc v xs/\∀b,xs≠[]/\v.ownBlock=some b->b<w.heap.size
    lt:=λw b h a=>h.2 b a
    stable:=λw f h d=>⟨h.1.same λb a=>d.block b (h.2 b a) (λe=>e a),λb a=>Nat.lt_of_lt_of_le (h.2 b a) d.size⟩ }
def Oe{α:Type}(k:Nat)(e:TypeId)(enc:α->Value)(v:Value)(xs:List α):Pc:=
  { own:=true,fp:=λb=>v.ownBlock=some b,holds:=λw=>w.ownsRow 0 e k v xs.length (cellsOf enc xs)
    lt:=λw b h l=>(h.lt b l).2
    stable:=λw r h q=>by
      refine⟨h.1,?_⟩;rcases h.2 with n|⟨g,f,j,rfl,l,a,d⟩
      . exact .inl n
      . refine .inr ⟨g,f,j,rfl,l,?_,d⟩;rw [<-a];exact q.block g (Array.getElem?_eq_some_iff.1 a).1 (λn=>n rfl) }
structure Enc {α:Type} (P:Program) (t:TypeId) (k:Nat) (enc:α->Value):Prop where
  pos:0<k
  cells:∀x,(enc x).cells.size=k
  one:∀x,∀u∈(enc x).cells.toList,u.oneCell'=true
  size:∀w,(sizeOf t).run P w= .ok k w
  load:∀x w ad,(∀j u,(enc x).cells.toList[j]? = some u->w.cell? (ad.add j)=some u)->(loadVar t ad).run P w= .ok (enc x) w
theorem Enc.flat{α:Type}{enc:α->Value}(hs:∀w,(sizeOf t).run P w= .ok 1 w)(g:∀w,(isAgg t).run P w= .ok false w)(f:∀x,(enc x).oneCell'=true):Enc P t 1 enc:=by
  have a:∀x,(enc x).cells=#[enc x]:=λx=>by have:=f x;cases hx:enc x<;>simp_all [Value.cells,Value.oneCell']
  refine⟨O,λx=>by rw [a];rfl,λx u d=>?_,hs,λx w j h=>?_⟩
  . rw [a]at d;simp at d;rw [d];exact f x
  . have e:=h 0 (enc x) (by rw [a];rfl);simp only [Addr.add,if_true]at e;simp [loadVar,g,e]
theorem Enc.agg {α:Type}  {k:Nat} {enc:α->Value} (q:0<k) (hs:∀w,(sizeOf t).run P w= .ok k w) (n:∀w,(isAgg t).run P w= .ok true w)
    (e:∀x,∃cs:List Value,enc x= .agg cs.toArray/\cs.length=k/\∀u∈cs,u.oneCell'=true):Enc P t k enc:=by
  refine⟨q,λx=>?_,λx u j=>?_,hs,λx w l h=>?_⟩
  . obtain⟨cs,a,d,f⟩:=e x;rw [a];simpa [Value.cells]using d
  . obtain⟨cs,a,d,f⟩:=e x;rw [a]at j;exact f u (by simpa [Value.cells]using j)
  . obtain⟨cs,a,d,f⟩:=e x;rw [a]at h ⊢;have g:=run_loadCells_list (P:=P) w l cs (by simpa [Value.cells]using h);rw [d]at g;simp [loadVar,n,hs,g]
theorem Xc{α:Type}{k:Nat}{enc:α->Value}(a:∀x,(enc x).cells.size=k):∀xs:List α,(cellsOf enc xs).length=xs.length*k
  | []=>by simp [cellsOf]
  | x::r=>by have d:=Xc a r;simp only [cellsOf,List.flatMap_cons,List.length_append,Array.length_toList,List.length_cons]at d ⊢;rw [d,a x,Nat.add_mul];omega
theorem Hy{α:Type}{k:Nat}{enc:α->Value}(a:∀x,(enc x).cells.size=k):∀(xs:List α) (i:Nat) (x:α),xs[i]? = some x->∀j u,(enc x).cells.toList[j]? = some u->(cellsOf enc xs)[i*k+j]? = some u
  | [],_,_,h,_,_,_=>by simp at h
  | y::r,0,x,h,j,u,hu=>by simp at h;subst h;simp only [cellsOf,List.flatMap_cons,Nat.zero_mul,Nat.zero_add];rw [List.getElem?_append_left (List.getElem?_eq_some_iff.1 hu).1];exact hu
  | y::r,i+1,x,h,j,u,hu=>by have d:=Hy a r i x (by simpa using h) j u hu;simp only [cellsOf,List.flatMap_cons]at d ⊢;rw [List.getElem?_append_right (by simp [a,Nat.add_mul];omega)];rw [<-d];congr 1;simp [a,Nat.add_mul];omega
def Rd{α:Type}(p:Pc)(k:Nat)(enc:α->Value)(v:Value)(xs:List α):Prop:=∀w,p.holds w->RowAt w k enc v xs
def Zn{α:Type}{k:Nat}{enc:α->Value}{xs:List α} : Rd (Ys k enc v xs) k enc v xs:=λw h=>h.1
theorem Bp{α:Type}{k:Nat}{e:TypeId}{enc:α->Value}{xs:List α}(s:∀x,(enc x).cells.size=k)(h:w.ownsRow 0 e k v xs.length (cellsOf enc xs)):RowAt w k enc v xs:=by
  rcases h.2 with⟨rfl,D⟩|⟨g,f,r,rfl,_,n,q,l,z,a⟩
  . have:xs=[]:=List.eq_nil_of_length_eq_zero D;subst this;exact⟨none,0,rfl,Nat.le_refl _,O7,.inl rfl⟩
  . refine⟨_,f,rfl,q,l,.inr ⟨g,0,rfl,λi x hi j u B=>?_⟩⟩;have d:=Hy s xs i x hi j u B;rw [<-a,List.getElem?_take]at d;simp only [Nat.zero_add];split at d
    . simp only [World.cell?,n];simpa using d
    . cases d
def Yb{α:Type}{k:Nat}{e:TypeId}{enc:α->Value}{xs:List α}(a:Enc P t k enc):Rd (Oe k e enc v xs) k enc v xs:=λw h=>Bp a.cells h
theorem Py(g o n:Nat):(⟨g,o,none⟩:Addr).add n=⟨g,o+n,none⟩:=by unfold Addr.add;split<;>simp_all
def ead(v:Value)(i k:Nat):Addr:=match v with
  | .slice (some a) _ _=>a.add (i*k)
  | _=>default
theorem Zak(d:o.op= .move x)(e:ev env x=some v):Mo P N sc o env H v:=λa w hs=>by simp only [execOp,d,hs.ev e];rfl
theorem d_as(d:o.op= .assign x)(e:ev env x=some v):Mo P N sc o env H v:=λa w hs=>by simp only [execOp,d,hs.ev e];rfl
theorem Zxi(d:o.op= .extract x i)(f:ev env x=some (.tuple vs))(e:vs[i]? = some v):Mo P N sc o env H v:=λa w hs=>by simp [execOp,d,hs.ev f,Instr.extract,e]
theorem d_nc{d:Addr}(e:o.op= .nilCheck x)(f:ev env x=some (.pointer (some d))):Mo P N sc o env H (.pointer (some d)):=λa w hs=>by simp [execOp,e,hs.ev f]
theorem Yjk{p:Prop}[Decidable p](d:o.op= .unOp .not t x)(e:ev env x=some (.bool (decide p))):Mo P N sc o env H (.bool (decide (¬p))):=λa w hs=>by simp [execOp,d,hs.ev e,Op.unary]
theorem Yw{b:Bool}(d:o.op= .unOp .not t x)(e:ev env x=some (.bool b)):Mo P N sc o env H (.bool (!b)):=λa w hs=>by simp [execOp,d,hs.ev e,Op.unary]
theorem Cz(e:o.op= .pick c x y)(d:ev env c=some (.bool true))(f:ev env x=some v):Mo P N sc o env H v:=λa w hs=>by simp [execOp,e,hs.ev d,hs.ev f,asBool]
theorem Yor(e:o.op= .pick c x y)(d:ev env c=some (.bool false))(f:ev env y=some v):Mo P N sc o env H v:=λa w hs=>by simp [execOp,e,hs.ev d,hs.ev f,asBool]
def Ng(n:Int):Prop:=-9223372036854775808<=n/\n<=9223372036854775807
theorem Zbb{n:Int}(h:Ng n):IntKind.i64.wrap n=n:=by rw [IntKind.wrap_i64];obtain⟨a,d⟩:=h;omega
theorem Zok(n:Int):IntKind.u64.wrap n=n%18446744073709551616:=by simp [IntKind.wrap,IntKind.bits,IntKind.signed]
theorem Fo  {d:BinOp}    {n:Int} {r:Value} (e:o.op= .binOp d t x y t') (g:ev env x=some (.int k m)) (h:ev env y=some (.int k n))
    (f:∀w,(binOp d t (.int k m) (.int k n)).run P w= .ok r w):Mo P N sc o env H r:=λa w hs=>by
  simp [execOp,e,hs.ev g,hs.ev h,eqGuard,f w]
theorem Yjr{n:Int}(a:o.op= .binOp .add t x y t')(d:ev env x=some (.int .i64 m))(e:ev env y=some (.int .i64 n))(h:Ng (m+n):=by exact⟨O,O⟩) :
    Mo P N sc o env H (.int .i64 (m+n)):=Fo a d e λw=>by simp [binOp,Op.intArith,Zbb h]
theorem d_sub{n:Int}(a:o.op= .binOp .sub t x y t')(d:ev env x=some (.int .i64 m))(e:ev env y=some (.int .i64 n))(h:Ng (m-n)) :
    Mo P N sc o env H (.int .i64 (m-n)):=Fo a d e λw=>by simp [binOp,Op.intArith,Zbb h]
theorem d_mul{n:Int}(a:o.op= .binOp .mul t x y t')(d:ev env x=some (.int .i64 m))(e:ev env y=some (.int .i64 n))(h:Ng (m*n)) :
    Mo P N sc o env H (.int .i64 (m*n)):=Fo a d e λw=>by simp [binOp,Op.intArith,Zbb h]
theorem Zee{n:Int}(e:o.op= .binOp .quo t x y t')(g:ev env x=some (.int .i64 m))(h:ev env y=some (.int .i64 n))(a:0<=m:=by omega)(j:m<=9223372036854775807:=by omega)(d:0<n:=by omega) :
    Mo P N sc o env H (.int .i64 (m/n)):=Fo e g h λw=>by
  have f:Ng (m/n):=by have l:=Int.ediv_nonneg a (Int.le_of_lt d);have q:m/n<=m:=Int.ediv_le_self n a;exact⟨O,O⟩
  simp [binOp,Op.intDiv,Int.tdiv_eq_ediv_of_nonneg a,Zbb f];omega
theorem Zl1{n:Int}(d:o.op= .binOp .rem t x y t')(e:ev env x=some (.int .i64 m))(f:ev env y=some (.int .i64 n))(a:0<=m:=by omega)(g:0<n:=by omega) :
    Mo P N sc o env H (.int .i64 (m%n)):=Fo d e f λw=>by
  simp [binOp,Op.intDiv,Int.tmod_eq_emod_of_nonneg a];omega
theorem Yjm{n:Int}(a:o.op= .binOp .lss t x y t')(d:ev env x=some (.int k m))(e:ev env y=some (.int k n)) :
    Mo P N sc o env H (.bool (decide (m<n))):=Fo a d e λw=>by simp [binOp,Op.intCmp]
theorem d_leq{n:Int}(a:o.op= .binOp .leq t x y t')(d:ev env x=some (.int k m))(e:ev env y=some (.int k n)) :
    Mo P N sc o env H (.bool (decide (m<=n))):=Fo a d e λw=>by simp [binOp,Op.intCmp]
theorem Za3{n:Int}(a:o.op= .binOp .gtr t x y t')(d:ev env x=some (.int k m))(e:ev env y=some (.int k n)) :
    Mo P N sc o env H (.bool (decide (n<m))):=Fo a d e λw=>by simp [binOp,Op.intCmp]
theorem d_geq{n:Int}(a:o.op= .binOp .geq t x y t')(d:ev env x=some (.int k m))(e:ev env y=some (.int k n)) :
    Mo P N sc o env H (.bool (decide (n<=m))):=Fo a d e λw=>by simp [binOp,Op.intCmp]
theorem Yjp{n:Int}(a:o.op= .binOp .eql t x y t')(d:ev env x=some (.int k m))(e:ev env y=some (.int k n)) :
    Mo P N sc o env H (.bool (decide (m=n))):=Fo a d e λw=>by
  simp only [binOp,ne_eq,not_true_eq_false,if_false,Op.intCmp];rw [show(m == n)=decide (m=n)from rfl];rfl
theorem Zl2{n:Int}(a:o.op= .binOp .neq t x y t')(d:ev env x=some (.int k m))(e:ev env y=some (.int k n)) :
    Mo P N sc o env H (.bool (decide (m≠n))):=Fo a d e λw=>by
  simp only [binOp,ne_eq,not_true_eq_false,if_false,Op.intCmp,Sem.run_pure];congr 2;by_cases h:m=n<;>simp [h]
theorem d_len {α:Type}   {e:TypeId}  {k:Nat}  {enc:α->Value} {xs:List α} (f:o.op= .call { callee:= .builtin .len,args:=#[x],argTypes:=#[t] })
    (j:ev env x=some v) (d:lk H i=some p) (g:Rd p k enc v xs) (h:P.underlying t=some (.slice e)):Mo P N sc o env H (.int .i64 xs.length):=λa w hs=>by
  obtain⟨l,c,rfl,_⟩:=g w (hs.hold i p d);simp [execOp,f,resolve,hs.ev j,invoke,builtin,Builtin.len_,run_underlying h,goInt]
theorem d_lens    {s:ByteArray} (d:o.op= .call { callee:= .builtin .len,args:=#[x],argTypes:=#[t] })
    (f:ev env x=some (.string s)) (e:P.underlying t=some .string):Mo P N sc o env H (.int .i64 s.size):=λa w hs=>by
  simp [execOp,d,resolve,hs.ev f,invoke,builtin,Builtin.len_,run_underlying e,goInt]
theorem Zu {α:Type}   {e:TypeId}  {ii k:Nat}    {enc:α->Value} {xs:List α} (n:o.op= .indexAddr t x y)
    (s:ev env x=some v) (u:ev env y=some (.int kd m)) (l:lk H ii=some p) (q:Rd p k enc v xs) (r:P.underlying t=some (.slice e)) (h:∀w,(sizeOf e).run P w= .ok k w)
      (f:m=(i:Int):=by omega) (d:i<xs.length:=by omega):Mo P N sc o env H (.pointer (some (ead v i k))):=λa w hs=>by
  obtain⟨B,c,rfl,D,F,j⟩:=q w (hs.hold ii p l);rcases j with rfl|⟨g,z,rfl,j⟩
  . simp at d
  . subst f;simp [execOp,n,hs.ev s,hs.ev u,Instr.indexAt,asIntOf,run_underlying r,h,d,ead]
theorem Xf {α:Type}     {ii k:Nat}  {enc:α->Value} {xs:List α} (e:α) (r:o.op= .load t x)
    (z:ev env x=some (.pointer (some (ead v i k)))) (l:lk H ii=some p) (s:Rd p k enc v xs) (n:Enc P t k enc)
     (d:i<xs.length:=by omega):Mo P N sc o env H (enc (xs.getD i e)):=λa w hs=>by
  obtain⟨B,c,rfl,D,F,f⟩:=s w (hs.hold ii p l);rcases f with rfl|⟨g,h,rfl,f⟩
  . simp at d
  . have hi:xs[i]? = some (xs.getD i e):=by simp [List.getD,List.getElem?_eq_getElem d]
    have:=n.load (xs.getD i e) w (ead (.slice (some ⟨g,h,none⟩) xs.length c) i k) (λj u q=>by have:=f i _ hi j u q;simp only [ead,Py];exact this)
    simp [execOp,r,hs.ev z,Instr.loadAt,Instr.sureAddr,this]
theorem Yjo    {s:ByteArray}    (j:o.op= .index t x y)
    (n:ev env x=some (.string s)) (q:ev env y=some (.int kd m)) (l:P.underlying t=some .string)
    (e:m=(i:Int)) (d:i<s.size:=by omega):Mo P N sc o env H (.int .u8 ((s.data.toList.getD i 0).toNat:Int)):=λa w hs=>by
  subst e;have f:s[i]? = some s[i]:=getElem?_pos s i d;have g:s.data.toList.getD i 0=s[i]:=by
    have h:i<s.data.toList.length:=by simpa using d
    simp only [List.getD,List.getElem?_eq_getElem h,Option.getD_some];rfl
  rw [g];simp [execOp,j,hs.ev n,hs.ev q,Instr.index,asIntOf,run_underlying l,f]
theorem d_fa    {f:Nat} {fs:Array Field} {e:Field} {k:Nat} {d q r:Nat} (j:o.op= .fieldAddr t x f)
    (u:ev env x=some (.pointer (some ⟨b,d,none⟩))) (s:P.underlying t=some (.struct fs)) (g:fs[f]? = some e) (h:∀w,(sizeOf e.type).run P w= .ok (k+1) w) (l:e.offset=q) (n:d+q=r) :
    Mo P N sc o env H (.pointer (some ⟨b,r,none⟩)):=λa w hs=>by
  subst n;subst l;simp [execOp,j,hs.ev u,Instr.fieldAt,run_underlying s,g,Instr.sureAddr,fieldPlace,h,Py]
theorem Sat.boxc{a:Act}(hs:Sat N sc env H a w)(d:lk H i=some (box b t cs))(j:Nat):w.cell? ⟨b,j,none⟩=cs[j]?:=by have h:w.heap[b]? = some (.cells cs t (0,0)):=hs.hold i _ d;simp [World.cell?,h]
theorem Ydm    {j:Nat}   (e:o.op= .load t x)
    (l:ev env x=some (.pointer (some ⟨b,j,none⟩))) (d:lk H i=some (box b tb cs)) (f:∀w,(isAgg t).run P w= .ok false w) (g:cs[j]? = some v):Mo P N sc o env H v:=λa w hs=>by
  have h:=hs.boxc d j;rw [g]at h;simp [execOp,e,hs.ev l,Instr.loadAt,Instr.sureAddr,loadVar,f,load,Sem.run,h]
theorem Zu7    {j k:Nat}  {vs:List Value} (h:o.op= .load t x)
    (s:ev env x=some (.pointer (some ⟨b,j,none⟩))) (e:lk H i=some (box b tb cs)) (l:∀w,(isAgg t).run P w= .ok true w) (f:∀w,(sizeOf t).run P w= .ok k w)
    (g:vs.length=k) (r:∀n u,vs[n]? = some u->cs[j+n]? = some u):Mo P N sc o env H (.agg vs.toArray):=λa w hs=>by
  have d:=run_loadCells_list (P:=P) w ⟨b,j,none⟩ vs (λn u q=>by rw [Py,hs.boxc e];exact r n u q);rw [g]at d;simp [execOp,h,hs.ev s,Instr.loadAt,Instr.sureAddr,loadVar,l,f,d]
theorem Yjn    {j:Nat}  {d e f g:Value} (B:o.op= .load t x)
    (F:ev env x=some (.pointer (some ⟨b,j,none⟩))) (s:lk H i=some (box b tb cs)) (D:∀w,(isAgg t).run P w= .ok true w) (z:∀w,(sizeOf t).run P w= .ok 4 w)
    (h:cs[j]? = some d) (l:cs[j+1]? = some e) (q:cs[j+2]? = some f) (r:cs[j+3]? = some g):Mo P N sc o env H (.agg #[d,e,f,g]):=
  Zu7 B F s D z (vs:=[d,e,f,g]) rfl (λn u a=>by
    match n,a with
    | 0,a=>simp at a;subst a;exact h
    | 1,a=>simp at a;subst a;exact l
    | 2,a=>simp at a;subst a;exact q
    | 3,a=>simp at a;subst a;exact r
    | n+4,a=>simp at a)
end Go.Sky
namespace Go.Sky
open Go.RowKit (Below)
variable{a:Act}{w w' w0:World}{M0:Nat->Prop}{o:Oper}{t:TypeId}{d i k:Nat}{cs:Array Value}{x y:Operand}{v:Value}{p:Pc}{vs:List Value}{parts:Array (Nat×Operand)}
variable {P:Program} {N:Nat} {sc:Nat->Prop} {env env':Ph} {H H':Hp} {Q Q':Exit->Act->World->Prop} {M:Nat->Prop}
def Chg.alloc(M:Nat->Prop)(w:World)(o:Obj):Chg M w (w.alloc o):=
 ⟨rfl,rfl,rfl,O7,λk b _=>heap_alloc_old w o k b⟩
def Sat.chg(h:Sat N sc env H a w)(f:∀fp:Nat->Prop,(∀b,fp b->b<w.heap.size)->Chg (λb=>¬fp b) w w'):Sat N sc env H a w':=
 ⟨h.size,h.defers,h.env,λi c hi=>c.stable w w' (h.hold i c hi) (f _ λb e=>c.lt w b (h.hold i c hi) e),h.sep,h.scope⟩
def Sat.chg0(h:Sat N sc env H a w)(b:Chg (λ_=>False) w w'):Sat N sc env H a w':=
 h.chg λf c=>⟨b.os,b.tape,b.output,b.size,λk e g=>b.block k e (λh=>h)⟩
theorem Sat.add   (h:Sat N sc env H a w) (i:Nat) (p:Pc) (F:p.holds w) (n:∀j g,j≠i->lk H j=some g->(p.own=true\/g.own=true)->∀b,p.fp b->g.fp b->False)
  (B:∀b,p.fp b->sc b):Sat N sc env ((i,p)::H) a w:=by
 refine⟨h.size,h.defers,h.env,λj g c=>?_,λj D g u l c e f b r q=>?_,λj g z c b r=>?_⟩
 .by_cases m:i=j
  .subst m;rw [Yd]at c;cases c;exact F
  .rw [Zt _ _ m]at c;exact h.hold j g c
 .by_cases m:i=j
  .subst m;rw [Yd]at c;cases c;rw [Zt _ _ l]at e;exact n D u (Ne.symm l) e (.inl f) b r q
  .rw [Zt _ _ m]at c;by_cases s:i=D
   .subst s;rw [Yd]at e;cases e;exact n j g l c (.inr f) b q r
   .rw [Zt _ _ s]at e;exact h.sep j D g u l c e f b r q
 .by_cases m:i=j
  .subst m;rw [Yd]at c;cases c;exact B b r
  .rw [Zt _ _ m]at c;exact h.scope j g z c b r
def Wide(sc:Nat->Prop)(H:Hp):Prop:=∃w0 M,lk H 0=some (Yo w0 M)/\∀b,w0.heap.size<=b->sc b
theorem Sat.new   (h:Sat N sc env H a w)   (l:lk H 0=some (Yo w0 M0)) (s:∀b,w0.heap.size<=b->sc b) (i:Nat) (p:Pc) (o:Obj)
  (r:p.holds (w.alloc o)) (c:∀b,p.fp b->b=w.heap.size):Sat N sc env ((i,p)::H) a (w.alloc o):=by
 have m:=h.chg0 (Chg.alloc _ w o);have q:w0.heap.size<=w.heap.size:=(h.hold 0 _ l).size;refine m.add i p r (λj g _ n _ b e f=>?_) (λb e=>s b (by rw [c b e];exact q));have:=g.lt w b (h.hold j g n) f;rw [c b e]at this;omega
theorem Zi3    {z:Value}    (l:o.op= .alloc t) (j:o.dst=some d) (f:Nat.blt d N=true)
  (q:∀w,(zeroValue t).run P w= .ok z w) (h:z.cells=cs) (c:lk H 0=some (Yo w0 M0)) (n:∀b,w0.heap.size<=b->sc b) :
  T P N sc M o env H (G:=Nat) (λ_=>True) (λb=>(d,.pointer (some ⟨b,0,none⟩))::env) (λb=>(i,box b t cs)::H):=λa w hs K Q e=>by
 subst h;have m:(execOp a.eval o).run P w= .ok (.value (.pointer (some ⟨w.heap.size,0,none⟩))) (w.alloc (.cells z.cells t)):=by simp [execOp,l,Instr.alloc,q,newVar,newRow]
 unfold Oper.wp;rw [m];show K (a.put o.dst _) _;rw [j];exact e w.heap.size _ _ trivial ((hs.new c n i (box w.heap.size t z.cells) (.cells z.cells t) (heap_alloc_new w _) (λb g=>g)).put d _ f) (Chg.alloc _ _ _)
theorem t_box         (l:o.op= .box t x) (j:o.dst=some d) (f:Nat.blt d N=true)
  (q:ev env x=some v) (h:v.cells=cs) (c:lk H 0=some (Yo w0 M0)) (n:∀b,w0.heap.size<=b->sc b) :
  T P N sc M o env H (G:=Nat) (λ_=>True) (λb=>(d,.pointer (some ⟨b,0,none⟩))::env) (λb=>(i,box b t cs)::H):=λa w hs K Q e=>by
 subst h;have m:(execOp a.eval o).run P w= .ok (.value (.pointer (some ⟨w.heap.size,0,none⟩))) (w.alloc (.cells v.cells t)):=by simp [execOp,l,Instr.box,hs.ev q,newVar,newRow]
 unfold Oper.wp;rw [m];show K (a.put o.dst _) _;rw [j];exact e w.heap.size _ _ trivial ((hs.new c n i (box w.heap.size t v.cells) (.cells v.cells t) (heap_alloc_new w _) (λb g=>g)).put d _ f) (Chg.alloc _ _ _)
def One(N:Nat)(sc:Nat->Prop)(env:Ph)(H:Hp)(v:Value):Prop:=∀a w,Sat N sc env H a w->v.oneCell'=true
def Yf(h:v.oneCell'=true):One N sc env H v:=λ_ _ _=>h
theorem Oj{α:Type}{enc:α->Value}{xs:List α}(b:lk H i=some p)(e:Rd p k enc v xs):One N sc env H v:=λa w hs=>by obtain⟨f,c,rfl,_⟩:=e w (hs.hold i p b);rfl
theorem Yc(h:v.oneCell'=true):v.cells=#[v]:=by cases v<;>simp_all [Value.cells,Value.oneCell']
def Kk{g:Nat}(cs:Array Value)(b:M g):Chg M w (w.setRow g cs):=
 ⟨rfl,rfl,rfl,O7,λk _ c=>setRow_other w g k cs (λe=>c (e▸b))⟩
theorem Sat.upd   (h:Sat N sc env H a w)  {q:Pc} (hi:lk H i=some p) (f:p.own=true) (G:i≠0)
  (B:Chg p.fp w w') (Z:q.holds w') (z:∀b,q.fp b->p.fp b\/w.heap.size<=b)   (S:lk H 0=some (Yo w0 M0)) (hw:∀b,w0.heap.size<=b->sc b) :
  Sat N sc env ((i,q)::H) a w':=by
 refine⟨h.size,h.defers,h.env,λj g c=>?_,λj F g u s c e W b m n=>?_,λj g I c b m=>?_⟩
 .by_cases r:i=j
  .subst r;rw [Yd]at c;cases c;exact Z
  .rw [Zt _ _ r]at c;exact g.stable w w' (h.hold j g c) ⟨B.os,B.tape,B.output,B.size,λb m V=>B.block b m (λY=>V (λR=>h.sep i j p g r hi c f b Y R))⟩
 .by_cases r:i=j
  .subst r;rw [Yd]at c;cases c;rw [Zt _ _ s]at e;rcases z b m with l|l
   .exact h.sep i F p u s hi e f b l n
   .have:=u.lt w b (h.hold F u e) n;omega
  .rw [Zt _ _ r]at c;by_cases D:i=F
   .subst D;rw [Yd]at e;cases e;rcases z b n with l|l
    .exact h.sep i j p g (Ne.symm s) hi c f b l m
    .have:=g.lt w b (h.hold j g c) m;omega
   .rw [Zt _ _ D]at e;exact h.sep j F g u s c e W b m n
 .by_cases r:i=j
  .subst r;rw [Yd]at c;cases c;rcases z b m with l|l
   .exact h.scope i p G hi b l
   .exact hw b (Nat.le_trans (h.hold 0 _ S).size l)
  .rw [Zt _ _ r]at c;exact h.scope j g I c b m
def Fl(cs:Array Value)(j:Nat)(vs:List Value):Array Value:=(cs.toList.take j ++ vs ++ cs.toList.drop (j+vs.length)).toArray
theorem Zj8   {c:TypeId} {b j:Nat} {cs':Array Value}     (I:o.op= .store t x y) (F:o.dst=none)
  (Y:ev env x=some (.pointer (some ⟨b,j,none⟩))) (Z:ev env y=some v) (n:lk H i=some (box b c cs)) (l:i≠0) (V:v.cells=vs.toArray) (m:∀w,(sizeOf t).run P w= .ok k w) (f:vs.length=k)
  (e:j+vs.length<=cs.size) (z:∀u∈vs,One N sc env H u) (g:Fl cs j vs=cs')
  (s:lk H 0=some (Yo w0 M0)) (W:∀b,w0.heap.size<=b->sc b) (D:M b) :
  T P N sc M o env H (G:=Unit) (λ_=>True) (λ_=>env) (λ_=>(i,box b c cs')::H):=λa w hs K Q B=>by
 subst g;have r:w.heap[b]? = some (.cells cs c (0,0)):=hs.hold i _ n;have h:=run_storeCells_at P b j c vs 0 cs w r (by simpa using e) (λu S=>z u S a w hs);simp only [Nat.add_zero]at h;have R:(execOp a.eval o).run P w= .ok .skip (w.setRow b (Fl cs j vs)):=by simp [execOp,I,hs.ev Y,hs.ev Z,Instr.storeAt,Instr.sureAddr,storeVar,V,m,f,h,Fl]
 unfold Oper.wp;rw [R];show K (a.put o.dst _) _;rw [F];exact B () _ _ trivial ((hs.upd n rfl l (q:=box b c (Fl cs j vs)) (Kk (M:=λk=>k=b) _ rfl) (setRow_heap w b cs _ c _ r) (λk m=> .inl m) s W).put_none undef) (Kk _ D)
theorem t_bs {α:Type}  {e:TypeId} {n:Nat}      {enc:α->Value} (xs:List α)
  (B:o.op= .buildSlice t n parts) (s:o.dst=some d) (r:Nat.blt d N=true)
  (D:∀a w,Sat N sc env H a w->(Instr.buildSlice t n (parts.map λ(i,x)=>(i,a.eval x))).run P w= .ok (.slice (some ⟨w.heap.size,0,none⟩) n n) (w.alloc (.cells cs e)))
  (f:cs.toList=cellsOf enc xs) (h:xs.length=n) (u:∀x,(enc x).cells.size=k) (z:n<=maxLen)
  (m:lk H 0=some (Yo w0 M0)) (F:∀b,w0.heap.size<=b->sc b) :
  T P N sc M o env H (G:=Nat) (λ_=>True) (λb=>(d,.slice (some ⟨b,0,none⟩) n n)::env) (λb=>(i,Oe k e enc (.slice (some ⟨b,0,none⟩) n n) xs)::H):=λa w hs K Q q=>by
 have j:(execOp a.eval o).run P w= .ok (.value (.slice (some ⟨w.heap.size,0,none⟩) n n)) (w.alloc (.cells cs e)):=by simp only [execOp,B];rw [show(do pure (.value (<-Instr.buildSlice t n (parts.map λ(i,x)=>(i,a.eval x)))):Sem Next)=(Instr.buildSlice t n (parts.map λ(i,x)=>(i,a.eval x)) >>= λv=>pure (.value v))from rfl];rw [Sem.run_bind,D a w hs];rfl
 have c:=Xc u xs;have g:cs.size=n*k:=by rw [<-Array.length_toList,f,c,h]
 unfold Oper.wp;rw [j];show K (a.put o.dst _) _;rw [s];refine q w.heap.size _ _ trivial ((hs.new m F i (Oe k e enc (.slice (some ⟨w.heap.size,0,none⟩) n n) xs) (.cells cs e) ?_ (λb l=>by simp [Oe,Value.ownBlock]at l;exact l.symm)).put d _ r) (Chg.alloc _ _ _);refine⟨by rw [c],.inr ⟨w.heap.size,n,cs,by rw [h],Nat.zero_le _,heap_alloc_new w _,O,z,g,?_⟩⟩;rw [h,<-f,List.take_of_length_le (by rw [Array.length_toList,g];exact Nat.le_refl _)]
theorem Zhn{α:Type}{enc:α->Value}(f:∀x,(enc x).cells.size=k)(l:0<k)(b:α)(n:Nat):(madeCells (enc b).cells (n*k)).toList=cellsOf enc (List.replicate n b):=by
 apply List.ext_getElem?;intro j;by_cases h:j<n*k
 .have m:j/k<n:=Nat.div_lt_of_lt_mul (by rw [Nat.mul_comm];exact h);have e:j%k<k:=Nat.mod_lt _ l;have c:(List.replicate n b)[j/k]? = some b:=by simp [m]
  have q:(enc b).cells.toList[j%k]? = some ((enc b).cells[j%k]!):=by
   have:j%k<(enc b).cells.size:=by rw [f];exact e
   rw [getElem!_pos (enc b).cells (j%k) this];simp [this]
  have g:=Hy f (List.replicate n b) (j/k) b c (j%k) _ q;rw [show j/k*k+j%k=j from by rw [Nat.mul_comm];exact Nat.div_add_mod j k]at g;rw [g];simp [madeCells,h,f]
 .rw [List.getElem?_eq_none (by rw [Array.length_toList,size_madeCells];omega),List.getElem?_eq_none (by rw [Xc f];simp;omega)]
theorem t_mk {α:Type}  {e:TypeId}   {n by_:Nat} {m:Int}   {enc:α->Value} {ti:TypeInfo} (c:α)
  (I:o.op= .makeSlice t x y) (D:o.dst=some d) (B:Nat.blt d N=true) (W:ev env x=some (.int .i64 m)) (Y:ev env y=some (.int .i64 m)) (F:m=(n:Int))
  (S:P.underlying t=some (.slice e)) (hi:P.info? e=some ti) (Z:ti.zero=some (enc c)) (r:∀x,(enc x).cells.size=k) (g:0<k) (q:ti.size=k) (l:ti.bytes=by_)
  (j:by_*n<=281474976710656) (f:0<by_)
  (u:lk H 0=some (Yo w0 M0)) (V:∀b,w0.heap.size<=b->sc b) :
  T P N sc M o env H (G:=Nat) (λ_=>True) (λb=>(d,.slice (some ⟨b,0,none⟩) n n)::env) (λb=>(i,Oe k e enc (.slice (some ⟨b,0,none⟩) n n) (List.replicate n c))::H):=λa w hs K Q z=>by
 subst F;subst q;subst l;have hn:n<=281474976710656:=Nat.le_trans (Nat.le_mul_of_pos_left n f) j;have h:=run_make (P:=P) w t e ti (enc c) S hi Z .i64 .i64 n n O (Int.le_refl _) (by rw [<-Int.natCast_mul];omega) O;simp only [Int.toNat_natCast]at h;have R:(execOp a.eval o).run P w= .ok (.value (.slice (some ⟨w.heap.size,0,none⟩) n n)) (w.alloc (.cells (madeCells (enc c).cells (n*ti.size)) e)):=by simp [execOp,I,hs.ev W,hs.ev Y,h]
 unfold Oper.wp;rw [R];show K (a.put o.dst _) _;rw [D];refine z w.heap.size _ _ trivial ((hs.new u V i (Oe ti.size e enc (.slice (some ⟨w.heap.size,0,none⟩) n n) (List.replicate n c)) _ ?_ (λb j=>by simp [Oe,Value.ownBlock]at j;exact j.symm)).put d _ B) (Chg.alloc _ _ _);have s:=Xc r (List.replicate n c);refine⟨by rw [s],.inr ⟨w.heap.size,n,_,O7,Nat.zero_le _,heap_alloc_new w _,O7,by simp [maxLen];omega,by rw [size_madeCells],?_⟩⟩;rw [Zhn r g,List.take_of_length_le (by rw [s];exact Nat.le_refl _)]
theorem Cg{α:Type}{enc:α->Value}{k:Nat}(b:∀x,(enc x).cells.size=k):∀(xs:List α) (i:Nat) (x:α),i<xs.length->
  cellsOf enc (xs.set i x)=(cellsOf enc xs).take (i*k) ++ (enc x).cells.toList ++ (cellsOf enc xs).drop (i*k+k)
 | [],_,_,h=>by simp at h
 | y::r,0,x,_=>by simp only [List.set_cons_zero,cellsOf,List.flatMap_cons,Nat.zero_mul,List.take_zero,List.nil_append,Nat.zero_add];rw [List.drop_append_of_le_length (by simp [b])];rw [List.drop_of_length_le (by simp [b])];simp
 | y::r,i+1,x,h=>by
  have c:=Cg b r i x (by simpa using h);simp only [cellsOf,List.set_cons_succ,List.flatMap_cons]at c ⊢;rw [c];have e:(enc y).cells.toList.length=k:=by simp [b]
  rw [show(i+1)*k=(enc y).cells.toList.length+i*k from by rw [e,Nat.add_mul];omega];rw [List.take_length_add_append,Nat.add_assoc,List.drop_length_add_append];simp
theorem Kb {α:Type}   {e:TypeId} {j:Nat} {u:Value} {enc:α->Value} {xs:List α} (z:α)   (ho:o.op= .store t x y) (hd:o.dst=none)
  (hx:ev env x=some (.pointer (some (ead v j k)))) (hy:ev env y=some u) (hu:u=enc z) (Y:lk H i=some (Oe k e enc v xs)) (n:Enc P t k enc) 
  (h0:lk H 0=some (Yo w0 M0)) (hw:∀b,w0.heap.size<=b->sc b) (V:i≠0:=by decide) (B:j<xs.length:=by omega) :
  T P N sc (λ_=>True) o env H (G:=Unit) (λ_=>True) (λ_=>env) (λ_=>(i,Oe k e enc v (xs.set j z))::H):=λa w hs K Q hK=>by
 subst hu;have F:w.ownsRow 0 e k v xs.length (cellsOf enc xs):=hs.hold i _ Y;have a0:=n.pos;rcases F.2 with⟨rfl,hn⟩|⟨g,l,h,rfl,hb,Z,D,S,s,r⟩
 .omega
 .have a2:j*k+k<=xs.length*k:=by rw [<-Nat.succ_mul];exact Nat.mul_le_mul_right k B
  have a1:xs.length*k<=l*k:=Nat.mul_le_mul_right k D;have c:(enc z).cells.toList.length=k:=by simp [n.cells]
  have I:=run_storeCells_at P g (j*k) e (enc z).cells.toList 0 h w Z (by rw [c,s];omega) (n.one z);simp only [Nat.add_zero,c]at I;have hr:(execOp a.eval o).run P w= .ok .skip (w.setRow g (h.toList.take (j*k) ++ (enc z).cells.toList ++ h.toList.drop (j*k+k)).toArray):=by simp [execOp,ho,hs.ev hx,hs.ev hy,Instr.storeAt,Instr.sureAddr,storeVar,n.cells,n.size,ead,Py,I]
  unfold Oper.wp;rw [hr];show K (a.put o.dst _) _;rw [hd];refine hK () _ _ trivial ((hs.upd Y rfl V (q:=Oe k e enc (.slice (some ⟨g,0,none⟩) xs.length l) (xs.set j z)) (Kk (M:=λk=>(Value.slice (some ⟨g,0,none⟩) xs.length l).ownBlock=some k) _ rfl) ?_ (λk hk=> .inl hk) h0 hw).put_none undef) (Kk _ trivial);have f:h.toList.length=l*k:=by rw [Array.length_toList,s]
  refine⟨by rw [Xc n.cells],.inr ⟨g,l,_,O7,hb,setRow_heap w g h _ e _ Z,by simpa using D,S,?_,?_⟩⟩
  .simp only [List.size_toArray,List.length_append,List.length_take,List.length_drop,c,f];omega
  .rw [Cg n.cells xs j z B,<-r];simp only [List.length_set];apply List.ext_getElem?;intro q;have m:(h.toList.take (j*k)).length=j*k:=by rw [List.length_take,f];omega
   by_cases R:q<j*k
   .rw [List.getElem?_take,if_pos O];rw [List.append_assoc,List.getElem?_append_left (by rw [m];exact R),List.append_assoc,List.getElem?_append_left (by rw [List.length_take,List.length_take,f];omega)];rw [List.getElem?_take,List.getElem?_take,List.getElem?_take,if_pos R,if_pos R,if_pos O]
   .by_cases h2:q<j*k+k
    .rw [List.getElem?_take,if_pos O];rw [List.append_assoc,List.getElem?_append_right (by rw [m];omega),m,List.getElem?_append_left (by rw [c];omega)];rw [List.append_assoc,List.getElem?_append_right (by rw [List.length_take,List.length_take,f];omega)];rw [List.getElem?_append_left (by rw [c,List.length_take,List.length_take,f];omega)];congr 1;rw [List.length_take,List.length_take,f];omega
    .by_cases W:q<xs.length*k
     .rw [List.getElem?_take,if_pos W];rw [List.getElem?_append_right (by rw [List.length_append,m,c];omega),List.length_append,m,c,List.getElem?_drop];rw [List.getElem?_append_right (by rw [List.length_append,List.length_take,List.length_take,f,c];omega),List.getElem?_drop,List.getElem?_take];rw [List.length_append,List.length_take,List.length_take,f,c,if_pos O];congr 1;omega
     .rw [List.getElem?_take,if_neg W];rw [List.getElem?_eq_none];simp only [List.length_append,List.length_take,List.length_drop,c,f];omega
end Go.Sky
namespace Go.Sky
open Go.RowKit (Below)
variable{w w0:World}{o:Oper}{t tb:TypeId}{i k d:Nat}{v v1 v2:Value}{p:Pc}{M0:Nat->Prop}{r pre:List Pc}{f:FuncId}{xs:List Operand}{ats:Array TypeId}{vs:List Value}{a:Act}{fn:Func}{args:Array Value}
variable {P:Program} {N:Nat} {sc:Nat->Prop} {env env':Ph} {H H':Hp} {Q Q':Exit->Act->World->Prop} {M:Nat->Prop}
theorem Zd8  (t ty e:TypeId) (ti:TypeInfo) (z:Value) (q by_:Nat) (ht:P.underlying t=some (.slice e)) (hi:P.info? e=some ti) (hz:ti.zero=some z)
    (Z:ti.size=q) (a6:ti.bytes=by_) (a9:z.cells.size=q) (b1:0<q)
    (v:Value) (n:Nat) (xs:List Value) (l:w.ownsRow 0 e q v n xs)
    (a:Addr) (m c:Nat) (h:List Value) (W:h.length=m*q) (x:∀j u,h[j]? = some u->w.cell? (a.add j)=some u) (h1:∀u∈h,u.oneCell'=true)
    (a1:n+m<=maxLen) (B:(n+m)*by_<=140737488355328) :
    ∃v' w',(Builtin.append_ #[t,t] ty #[v,.slice (some a) m c]).run P w= .ok v' w'/\w'.ownsRow 0 e q v' (n+m) (xs ++ h)/\w.grownBy w' v.ownBlock/\
      (∀b,v'.ownBlock=some b->v.ownBlock=some b\/w.heap.size<=b):=by
  subst Z;subst a6;have a4:n+m<=9223372036854775807:=by simp only [maxLen]at a1;omega
  have D:(xs ++ h).length=(n+m)*ti.size:=by rw [List.length_append,l.1,W,Nat.add_mul]
  have I:∀(s:Nat),s<n+m->∀(a3:Option Nat),
      (w.drew.alloc (.cells (xs.toArray ++ h.toArray ++ Builtin.zeroCells z.cells (grownCap w (n+m) s e-(n+m))) e)).ownsRow 0 e ti.size
        (.slice (some ⟨w.heap.size,0,none⟩) (n+m) (grownCap w (n+m) s e)) (n+m) (xs ++ h)/\
      w.grownBy (w.drew.alloc (.cells (xs.toArray ++ h.toArray ++ Builtin.zeroCells z.cells (grownCap w (n+m) s e-(n+m))) e)) a3:=by
    intro s ho a3;have a8:=grownCap_ge w (n+m) s e;have V:grownCap w (n+m) s e<=maxLen:=grownCap_le_maxLen w (n+m) s e a1;refine⟨⟨D,.inr ⟨w.heap.size,_,_,rfl,Nat.zero_le _,heap_alloc_new w.drew _,a8,V,?_,?_⟩⟩,⟨rfl,rfl,rfl,O7,λk hk _=>heap_alloc_old w.drew _ k hk⟩⟩
    . simp only [Array.size_append,List.size_toArray,size_zeroCells,a9,l.1,W,<-Nat.add_mul];congr 1;omega
    . simp only [Array.toList_append,List.append_assoc];rw [<-List.append_assoc,<-D];exact List.take_left
  rcases l.2 with⟨rfl,rfl⟩|⟨g,F,S,rfl,a5,hg,b0,V,a7,a0⟩
  . have hx:xs=[]:=List.eq_nil_of_length_eq_zero (by simpa using l.1);subst hx;by_cases hm:m=0
    . subst hm;have hn:h=[]:=List.eq_nil_of_length_eq_zero (by simpa using W);subst hn;refine⟨.slice none 0 0,w,?_,World.ownsRow_nil w 0 e ti.size,⟨rfl,rfl,rfl,Nat.le_refl _,λ_ _ _=>rfl⟩,λb R=>by simp [Value.ownBlock]at R⟩;simp [Builtin.append_,run_underlying ht,sizeOf,typeInfo,hi,Builtin.lenOf,Builtin.firstCells,loadCells,loadCellsFrom]
    . have hr:=run_append_nil (P:=P) w t ty e ti z ht hi hz a m c h W x O O (by have R:=B;simp only [Nat.zero_add]at R;omega);have G:=I 0 O (Value.ownBlock (.slice none 0 0));simp only [Nat.zero_add,List.nil_append,Array.empty_append]at G ⊢;refine⟨_,_,hr,G.1,G.2,λb R=> .inr ?_⟩;simp [Value.ownBlock]at R;omega
  . by_cases y:n+m<=F
    . have a2:n*ti.size+h.length<=S.size:=by rw [W,a7,<-Nat.add_mul];exact Nat.mul_le_mul_right _ y
      have hr:=run_append_room (P:=P) w t ty e ti ht hi g n F S hg a m c h W x h1 y a2;refine⟨_,_,hr,⟨D,.inr ⟨g,F,_,rfl,a5,setRow_heap w g S _ e _ hg,y,V,?_,?_⟩⟩,⟨rfl,rfl,rfl,O7,λk _ hk=>setRow_other w g k _ (λe=>hk (by simp [Value.ownBlock,e]))⟩,λb R=> .inl (by simpa [Value.ownBlock]using R)⟩
      . simp only [List.size_toArray,List.length_append,List.length_take,List.length_drop,Array.length_toList];omega
      . rw [a0,<-D];exact List.take_left
    . have Y:∀j u,xs[j]? = some u->w.cell? ((⟨g,0,none⟩:Addr).add j)=some u:=l.cells (g:=g) rfl;have hr:=run_append_grow (P:=P) w t ty e ti z ht hi hz ⟨g,0,none⟩ n F xs l.1 Y a m c h W x O O (growslice_fits O B);have G:=I F O (Value.ownBlock (.slice (some ⟨g,0,none⟩) n F));refine⟨_,_,hr,G.1,G.2,λb R=> .inr ?_⟩;simp [Value.ownBlock]at R;omega
theorem Ie{α:Type}(enc:α->Value)(xs ys:List α):cellsOf enc (xs ++ ys)=cellsOf enc xs ++ cellsOf enc ys:=by simp [cellsOf]
theorem t_app {α:Type}  {x y:Operand} {e:TypeId} {i2 j by_:Nat} {u:Value} {enc:α->Value} {xs ys:List α}  {ti:TypeInfo} {z:Value}  
    (ho:o.op= .call { callee:= .builtin .append,args:=#[x,y],argTypes:=#[t,t] }) (hd:o.dst=some d) (hN:Nat.blt d N=true)
    (hx:ev env x=some v) (hy:ev env y=some u) (hH:lk H i=some (Oe k e enc v xs)) (a3:i≠0) (hj:lk H j=some p) (hr:Rd p k enc u ys) (b0:ys≠[])
    (ht:P.underlying t=some (.slice e)) (hi:P.info? e=some ti) (hz:ti.zero=some z) (n:Enc P e k enc) (a4:ti.size=k) (a1:ti.bytes=by_) (b1:z.cells.size=k)
    (m:(xs.length+ys.length)*by_<=140737488355328) (s:0<by_)
    (h0:lk H 0=some (Yo w0 M0)) (hw:∀b,w0.heap.size<=b->sc b) :
    T P N sc (λ_=>True) o env H (G:=Value) (λ_=>True) (λv'=>(d,v')::env) (λv'=>(i,Oe k e enc v' (xs ++ ys))::H):=λa w hs K Q hK=>by
  have R:w.ownsRow 0 e k v xs.length (cellsOf enc xs):=hs.hold i _ hH;obtain⟨ad,c,rfl,h1,h2,Y⟩:=hr w (hs.hold j p hj);rcases Y with rfl|⟨g,V,rfl,Y⟩
  . exact absurd rfl b0
  have a9:∀q u,(cellsOf enc ys)[q]? = some u->w.cell? ((⟨g,V,none⟩:Addr).add q)=some u:=λq u hq=>by
    have a5:q<ys.length*k:=by rw [<-Xc n.cells ys];exact(List.getElem?_eq_some_iff.1 hq).1
    have F:=n.pos;have a2:q/k<ys.length:=Nat.div_lt_of_lt_mul (by rw [Nat.mul_comm];exact a5);have l:ys[q/k]? = some ys[q/k]:=List.getElem?_eq_getElem a2;have a7:q%k<(enc ys[q/k]).cells.toList.length:=by rw [Array.length_toList,n.cells];exact Nat.mod_lt _ F
    have W:=List.getElem?_eq_getElem a7;have Z:=Hy n.cells ys _ _ l _ _ W;have h5:=Y _ _ l _ _ W;have I:q/k*k+q%k=q:=by rw [Nat.mul_comm];exact Nat.div_add_mod q k
    rw [I]at Z;rw [Nat.add_assoc,I]at h5;rw [hq]at Z;cases Z;rw [Py];exact h5
  have D:∀u∈cellsOf enc ys,u.oneCell'=true:=λu W=>by obtain⟨y,_,hy⟩:=List.mem_flatMap.1 W;exact n.one y u hy
  have b2:xs.length+ys.length<=140737488355328:=Nat.le_trans (Nat.le_mul_of_pos_right _ s) m;obtain⟨v',w',S,a6,h,a0⟩:=Zd8 (P:=P) t o.type e ti z k by_ ht hi hz a4 a1 b1 n.pos v xs.length (cellsOf enc xs) R ⟨g,V,none⟩ ys.length c (cellsOf enc ys)
    (Xc n.cells ys) a9 D (by simp only [maxLen];omega) m
  have a8:(execOp a.eval o).run P w= .ok (.value v') w':=by simp only [execOp,ho,resolve,invoke,builtin,Sem.run_bind,Sem.run_pure,Result.andThen_ok,List.map_toArray,List.map_cons,List.map_nil,hs.ev hx,hs.ev hy,S]
  unfold Oper.wp;rw [a8];show K (a.put o.dst _) _;rw [hd];have B:Chg (λb=>v.ownBlock=some b) w w':=⟨h.os,h.tape,h.output,h.size,λb m hn=>h.block b m (λe=>hn e.symm)⟩;refine hK v' _ _ trivial ((hs.upd hH rfl a3 (q:=Oe k e enc v' (xs ++ ys)) B ?_ (λb m=>a0 b m) h0 hw).put d _ hN) ⟨h.os,h.tape,h.output,h.size,λb m hn=>absurd trivial hn⟩;show w'.ownsRow 0 e k v' (xs ++ ys).length (cellsOf enc (xs ++ ys));rw [Ie,List.length_append];exact a6
def Cal(P:Program)(f:FuncId)(args:Array Value)(pre:List Pc)(al:Bool){G:Type}(φ:G->Prop)(Yh:G->Value)(c:G->List Pc):Prop:=
  ∀w,(∀p∈pre,p.holds w)->Calls P f args w λe h=>∃g,e= .returned (Yh g)/\φ g/\Below w.heap.size w h/\
    ∀p∈c g,p.holds h/\p.own=false/\∀b,p.fp b->w.heap.size<=b\/(al=true/\∃q∈pre,q.fp b)
@[reducible] def adds:Nat->List Pc->Hp->Hp
  | _,[],H=>H
  | n,p::r,H=>(n,p)::adds (n+1) r H
def PreOk(H:Hp)(al:Bool):List Pc->Prop
  | []=>True
  | p::r=>(∃i c,i≠0/\lk H i=some c/\(∀w,c.holds w->p.holds w)/\(∀b,p.fp b->c.fp b)/\(al=true->c.own=false))/\PreOk H al r
theorem PreOk.mem{al:Bool} : ∀{pre:List Pc},PreOk H al pre->∀p∈pre,∃i c,i≠0/\lk H i=some c/\(∀w,c.holds w->p.holds w)/\(∀b,p.fp b->c.fp b)/\(al=true->c.own=false)
  | p::r,h,q,e=>by
    cases e with
    | head=>exact h.1
    | tail _ e=>exact PreOk.mem h.2 q e
def Zs{al:Bool} : PreOk H al []:=trivial
theorem Zl{al:Bool}(i:Nat)(hi:lk H i=some p)(b:Nat.beq i 0=false)(c:p.own=false)(h:PreOk H al r):PreOk H al (p::r):=
  ⟨⟨i,p,λe=>by subst e;simp at b,hi,λ_ h=>h,λ_ h=>h,λ_=>c⟩,h⟩
theorem Ygi{α:Type}{e:TypeId}{enc:α->Value}{xs:List α}(i:Nat)(hi:lk H i=some (Oe k e enc v xs))(c:Nat.beq i 0=false)(j:Enc P t k enc)(h:PreOk H false r):PreOk H false (Ys k enc v xs::r):=
  ⟨⟨i,_,λe=>by subst e;simp at c,hi,λw h=>⟨Bp j.cells h,λb g=>(h.lt b g.2).2⟩,λ_ h=>h.2,λh=>by cases h⟩,h⟩
theorem Sat.adds{a:Act}{w:World}{w1:World} : ∀(l:List Pc) (n:Nat) {H:Hp},Sat N sc env H a w->(∀p∈l,p.holds w/\p.own=false/\(∀b,p.fp b->sc b)/\
    ∀j c,lk H j=some c->c.own=true->∀b,p.fp b->c.fp b->False)->Sat N sc env (adds n l H) a w
  | [],_,_,h,_=>h
  | p::r,n,H,h,hl=>by
    have x:=Sat.adds (w1:=w1) r (n+1) h (λq e=>hl q (List.mem_cons_of_mem _ e));obtain⟨B,D,F,G⟩:=hl p (List.mem_cons_self ..);have y:∀(l:List Pc) (m:Nat) (H:Hp) (j:Nat) (c:Pc),(∀q∈l,q.own=false)->lk (Sky.adds m l H) j=some c->c.own=true->lk H j=some c:=by
      intro l
      induction l with
      | nil=>intro m H j c _ h _;exact h
      | cons q l x=>
        intro m H j c e h s;by_cases z:m=j
        . subst z;simp only [Sky.adds]at h;rw [Yd]at h;cases h;rw [e q (List.mem_cons_self ..)]at s;cases s
        . simp only [Sky.adds]at h;rw [Zt _ _ z]at h;exact x (m+1) H j c (λq u=>e q (List.mem_cons_of_mem _ u)) h s
    refine x.add n p B (λj c _ R Lp b I g=>?_) F;rcases Lp with Lp|Lp
    . rw [D]at Lp;cases Lp
    . exact G j c (y r (n+1) H j c (λq e=>(hl q (List.mem_cons_of_mem _ e)).2.1) R Lp) Lp b I g
def evs(e:Ph):List Operand->Option (List Value)
  | []=>some []
  | x::r=>match ev e x,evs e r with
    | some v,some vs=>some (v::vs)
    | _,_=>none
def EvL(e:Ph):List Operand->List Value->Prop
  | [],[]=>True
  | x::r,v::vs=>ev e x=some v/\EvL e r vs
  | _,_=>False
theorem EvL.map{a:Act}{w:World}(h:Sat N sc env H a w):∀{xs:List Operand} {vs:List Value},EvL env xs vs->xs.map a.eval=vs
  | [],[],_=>rfl
  | x::r,v::vs,hh=>by simp only [List.map_cons,h.ev hh.1,EvL.map h hh.2]
  | [],_::_,hh=>hh.elim
  | _::_,[],hh=>hh.elim
theorem Qj     {n:Nat}   {al:Bool} {G:Type} {φ:G->Prop} {Yh:G->Value} {z:G->List Pc}  
    (hc:Cal P f vs.toArray pre al φ Yh z)
    (ho:o.op= .call { callee:= .value (.func f),args:=xs.toArray,argTypes:=ats }) (hd:o.dst=some d) (hN:Nat.blt d N=true)
    (s:EvL env xs vs) (u:∀args w,(callFunc f args).run P w= .ok (.enter f args) w) (l:PreOk H al pre)
    (h0:lk H 0=some (Yo w0 M0)) (hw:∀b,w0.heap.size<=b->sc b) :
    T P N sc M o env H φ (λg=>(d,Yh g)::env) (λg=>adds n (z g) H):=λa w hs K Q hK=>by
  have hr:(execOp a.eval o).run P w= .ok (.enter f vs.toArray) w:=by have hm:=s.map hs;simp [execOp,ho,resolve,invoke,Act.eval,Deferred.ofValue,hm,u]
  unfold Oper.wp;rw [hr];refine(hc w (λp hp=>by obtain⟨i,S,_,hi,I,_,_⟩:=l.mem p hp;exact I w (hs.hold i S hi))).mono ?_
  rintro e w' ⟨g,rfl,hg,m,R⟩;show K (a.put o.dst (Yh g)) w';rw [hd];have a0:Sat N sc env H a w':=hs.chg0 (Chg.of_below m);refine hK g _ _ hg (Sat.put (a0.adds (w1:=w) (z g) n ?_) d _ hN) (Chg.of_below m);intro p hp;obtain⟨h1,h2,h3⟩:=R p hp;refine⟨h1,h2,λb Y=>?_,λj jt V c b Y B=>?_⟩
  . rcases h3 b Y with h|⟨_,q,hq,y⟩
    . exact hw b (Nat.le_trans (hs.hold 0 _ h0).size h)
    . obtain⟨i,S,D,hi,_,x,_⟩:=l.mem q hq;exact hs.scope i S D hi b (x b y)
  . rcases h3 b Y with h|⟨W,q,hq,y⟩
    . have:=jt.lt w b (hs.hold j jt V) B;omega
    . obtain⟨i,S,D,hi,_,x,Z⟩:=l.mem q hq;by_cases F:j=i
      . subst F;rw [hi]at V;cases V;rw [Z W]at c;cases c
      . exact hs.sep j i jt S F V hi c b B (x b y)
def RV(P:Program)(N:Nat)(sc:Nat->Prop)(env:Ph)(H:Hp)(r:ResultVar)(v:Value):Prop:=
  match r with
  | .tmp t=>lk env t=some v
  | .cell c t=>∃b,lk env c=some (.pointer (some b))/\∀a w,Sat N sc env H a w->(loadVar t b).run P w= .ok v w
theorem Fv {c:Tmp}  {b:Nat}  (h:lk env c=some (.pointer (some ⟨b,0,none⟩))) (g:lk H i=some (box b tb vs.toArray)) (m:∀w,(isAgg t).run P w= .ok true w) (j:∀w,(sizeOf t).run P w= .ok k w)
    (l:vs.length=k):RV P N sc env H (.cell c t) (.agg vs.toArray):=⟨_,h,λa w hs=>by
  have e:=run_loadCells_list (P:=P) w ⟨b,0,none⟩ vs (λn u q=>by rw [Py,hs.boxc g];simpa using q);rw [l]at e;simp [loadVar,m,j,e]⟩
theorem Yfo{c:Tmp}{b:Nat}(g:lk env c=some (.pointer (some ⟨b,0,none⟩)))(e:lk H i=some (box b tb #[v]))(j:∀w,(isAgg t).run P w= .ok false w) :
    RV P N sc env H (.cell c t) v:=⟨_,g,λa w hs=>by
  have h:=hs.boxc e 0;simp at h;simp [loadVar,j,load,Sem.run,h]⟩
theorem Zbm{r1:ResultVar}(hs:Sat N sc env H a w)(e:fn.results=#[r1])(b:RV P N sc env H r1 v1):(results fn a.tmps).run P w= .ok v1 w:=by
  cases r1 with
  | tmp t=>have:=hs.env t v1 b;rw [Array.getD_eq_getD_getElem?]at this;simp [results,e,this]
  | cell c t=>obtain⟨j,g,h⟩:=b;have:=hs.env c _ g;rw [Array.getD_eq_getD_getElem?]at this;simp [results,e,this,asAddr,h a w hs]
theorem Yci{r1 r2:ResultVar}(hs:Sat N sc env H a w)(l:fn.results=#[r1,r2])(g:RV P N sc env H r1 v1)(b:RV P N sc env H r2 v2) :
    (results fn a.tmps).run P w= .ok (.tuple #[v1,v2]) w:=by
  cases r1 with
  | tmp t=>
    have g:=hs.env t v1 g;rw [Array.getD_eq_getD_getElem?]at g;cases r2 with
    | tmp j=>have b:=hs.env j v2 b;rw [Array.getD_eq_getD_getElem?]at b;simp [results,l,g,b]
    | cell m j=>obtain⟨s,e,n⟩:=b;have e:=hs.env m _ e;rw [Array.getD_eq_getD_getElem?]at e;simp [results,l,g,e,asAddr,n a w hs]
  | cell c t=>
    obtain⟨u,h,q⟩:=g;have h:=hs.env c _ h;rw [Array.getD_eq_getD_getElem?]at h;cases r2 with
    | tmp j=>have b:=hs.env j v2 b;rw [Array.getD_eq_getD_getElem?]at b;simp [results,l,h,asAddr,q a w hs,b]
    | cell m j=>obtain⟨s,e,n⟩:=b;have e:=hs.env m _ e;rw [Array.getD_eq_getD_getElem?]at e;simp [results,l,h,asAddr,q a w hs,e,n a w hs]
def Ymz(tmps:Array Value):ResultVar->Sem Value
  | .tmp t=>pure (tmps.getD t undef)
  | .cell c t=>do loadVar t (<-asAddr (tmps.getD c undef))
theorem Zwf{r:ResultVar}(hs:Sat N sc env H a w)(h:RV P N sc env H r v):(Ymz a.tmps r).run P w= .ok v w:=by
  cases r with
  | tmp t=>have:=hs.env t v h;simp only [Ymz,this];rfl
  | cell c t=>obtain⟨g,b,e⟩:=h;have:=hs.env c _ b;simp only [Ymz,this,asAddr,Sem.run_bind,Sem.run_pure,Result.andThen_ok,e a w hs]
def Zks(fn:Func)(tmps:Array Value):results fn tmps=(do let vs ←fn.results.mapM (Ymz tmps);pure (if h:vs.size=1 then vs[0]else .tuple vs)):=rfl
theorem res3{r1 r2 r3:ResultVar}{b:Value}(hs:Sat N sc env H a w)(h:fn.results=#[r1,r2,r3])(c:RV P N sc env H r1 v1)(e:RV P N sc env H r2 v2)(g:RV P N sc env H r3 b) :
    (results fn a.tmps).run P w= .ok (.tuple #[v1,v2,b]) w:=by
  rw [Zks,h];simp [Zwf hs c,Zwf hs e,Zwf hs g]
def Zb8(P:Program)(fn:Func)(w0:World)(pre:List Pc)(al:Bool){G:Type}(φ:G->Prop)(Yh:G->Value)(c:G->List Pc):Exit->Act->World->Prop:=
  bodyPost P fn λe h => ∃ g, e = .returned (Yh g) /\ φ g /\ Below w0.heap.size w0 h /\
        ∀p∈c g,p.holds h/\p.own=false/\∀b,p.fp b->w0.heap.size<=b\/(al=true/\∃q∈pre,q.fp b)
theorem Ydp   {c:Code}   {al:Bool} {G:Type} {φ:G->Prop} {Yh:G->Value} {s:G->List Pc} {N:Nat} {env0:Ph} (l:World->Hp)
    (R:P.funcs[f]? = some fn) (g:fn.body=some c) (F:fn.ntmps=N) (m:∀t v,lk env0 t=some v->args[t]? = some v) (S:args.size<=N)
    (e:∀w,∀i p,lk (l w) i=some p->(i=0/\p=Yo w (λ_=>False))\/(i≠0/\p∈pre/\p.own=false))
    (h:∀w0 (sc:Nat->Prop),(∀b,w0.heap.size<=b->sc b)->(∀b,sc b->w0.heap.size<=b\/∃q∈pre,q.fp b)->
      E P N sc c (Zb8 P fn w0 pre al φ Yh s) env0 (l w0)) :
    Cal P f args pre al φ Yh s:=λw W=>by
  refine calls_of_wp R g (h w (λb=>w.heap.size<=b\/∃q∈pre,q.fp b) (λb g=> .inl g) (λb g=>g) _ w ?_);refine⟨by simp [F];omega,rfl,λt v Y=>?_,λi p hi=>?_,λi j p q V hi Z z b g I=>?_,λi p x hi b g=>?_⟩
  . have B:=m t v Y;have y:=(Array.getElem?_eq_some_iff.1 B).1;rw [Array.getD_eq_getD_getElem?,Array.getElem?_append_left y,B];rfl
  . rcases e w i p hi with⟨_,rfl⟩|⟨_,u,_⟩
    . exact Chg.refl _ w
    . exact W p u
  . rcases e w i p hi with⟨_,rfl⟩|⟨_,u,n⟩
    . cases z
    . rw [n]at z;cases z
  . rcases e w i p hi with⟨D,_⟩|⟨_,u,_⟩
    . exact absurd D x
    . exact .inr ⟨p,u,g⟩
def Kt(h:(Yo w0 (λ_=>False)).holds w):Below w0.heap.size w0 w:=
  ⟨h.os,h.tape,h.output,h.size,λk b=>h.block k b (λh=>h)⟩
def Give(H:Hp)(al:Bool):List Pc->Prop
  | []=>True
  | p::r=>(p.own=false/\((∃i c,i≠0/\lk H i=some c/\(∀w,c.holds w->p.holds w)/\(∀b,p.fp b->c.fp b)/\(al=false->c.own=true))\/((∀w,p.holds w)/\∀b,¬p.fp b)))/\Give H al r
theorem Give.mem{al:Bool} : ∀{l:List Pc},Give H al l->∀p∈l,p.own=false/\((∃i c,i≠0/\lk H i=some c/\(∀w,c.holds w->p.holds w)/\(∀b,p.fp b->c.fp b)/\(al=false->c.own=true))\/((∀w,p.holds w)/\∀b,¬p.fp b))
  | p::r,h,q,e=>by
    cases e with
    | head=>exact h.1
    | tail _ e=>exact Give.mem h.2 q e
def Za{al:Bool} : Give H al []:=trivial
theorem Gj(i:Nat)(hi:lk H i=some p)(b:Nat.beq i 0=false)(c:p.own=false)(h:Give H true r):Give H true (p::r):=
  ⟨⟨c,.inl ⟨i,p,λe=>by subst e;simp at b,hi,λ_ h=>h,λ_ h=>h,λh=>by cases h⟩⟩,h⟩
theorem Yif{al:Bool}{α:Type}{e:TypeId}{enc:α->Value}{xs:List α}(i:Nat)(hi:lk H i=some (Oe k e enc v xs))(c:Nat.beq i 0=false)(j:Enc P t k enc)(h:Give H al r) :
    Give H al (Ys k enc v xs::r):=
  ⟨⟨rfl,.inl ⟨i,_,λe=>by subst e;simp at c,hi,λw h=>⟨Bp j.cells h,λb g=>(h.lt b g.2).2⟩,λ_ h=>h.2,λ_=>rfl⟩⟩,h⟩
theorem Zay{α:Type}(k:Nat)(enc:α->Value)(w:World):(Ys k enc (.slice none 0 0) ([]:List α)).holds w:=⟨⟨none,0,rfl,Nat.le_refl _,O7,.inl rfl⟩,λb c=>by simp [Value.ownBlock]at c⟩
theorem Mu{al:Bool}{α:Type}{enc:α->Value}{xs:List α}(e:xs=[])(h:Give H al r):Give H al (Ys k enc (.slice none 0 0) xs::r):=by subst e;exact⟨⟨rfl,.inr ⟨λw=>Zay k enc w,λb c=>by simp [Ys,Value.ownBlock]at c⟩⟩,h⟩
theorem Zr2   {al:Bool} {G:Type} {φ:G->Prop} {Yh:G->Value} {j:G->List Pc}  {e:Exit} (Z:e= .ret\/e= .normal) (I:∀b,sc b->w0.heap.size<=b\/∃q∈pre,q.fp b)
    (g:G) (v:Value) (u:∀a w,Sat N sc env H a w->(results fn a.tmps).run P w= .ok v w) (hv:Yh g=v) (hg:φ g) (S:lk H 0=some (Yo w0 (λ_=>False))) (c:Give H al (j g)) :
    X N sc e (Zb8 P fn w0 pre al φ Yh j) env H:=λa w hs=>by
  have x : a.defers = [] /\ ∃ v, (results fn a.tmps).run P w = .ok v w /\ (∃ g, Ending.returned v = .returned (Yh g) /\ φ g /\ Below w0.heap.size w0 w /\
        ∀p∈j g,p.holds w/\p.own=false/\∀b,p.fp b->w0.heap.size<=b\/(al=true/\∃q∈pre,q.fp b)):=by
    refine⟨hs.defers,v,u a w hs,g,by rw [hv],hg,Kt (hs.hold 0 _ S),λp hp=>?_⟩;obtain⟨V,h|⟨W,Y⟩⟩:=c.mem p hp
    case inr=>exact⟨W w,V,λb z=>absurd z (Y b)⟩
    obtain⟨i,R,m,hi,n,B,y⟩:=h;refine⟨n w (hs.hold i R hi),V,λb z=>?_⟩;have l:=B b z;cases al with
    | true=>
      rcases I b (hs.scope i R m hi b l)with h|h
      . exact .inl h
      . exact .inr ⟨rfl,h⟩
    | false=>
      have s:=y rfl;have hn:=hs.sep i 0 R _ m hi S s b l;refine .inl ?_;rcases Nat.lt_or_ge b w0.heap.size with F|D
      . exact absurd ⟨F,λh=>h⟩ hn
      . exact D
  rcases Z with rfl|rfl
  . exact x
  . exact x
end Go.Sky

