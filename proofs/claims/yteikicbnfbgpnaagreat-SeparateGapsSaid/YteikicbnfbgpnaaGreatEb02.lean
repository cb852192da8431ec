/- Rules, arithmetic and contracts: part 3. No conditions but those that each theorem names. -/
import Derived.Test.YteikicbnfbgpnaaGreatEb01
set_option linter.all false
namespace Go.Sky
set_option maxRecDepth 20000
variable{k D:Nat}{R ys:List Nat}{y x:Int}{b t s:Bool}{p xs:List Int}{f:FuncId}{args:Array Value}{pre:List Pc}
theorem Zg4{n:Nat}(h:n<U):tz [n]=dg U n:=by rw [<-Ic Xr [n] (by simpa using h)];simp [Yh]
theorem Zia{N:Nat}{sc:Nat->Prop}{env:Ph}{H:Hp}{α:Type}{e:TypeId}{enc:α->Value}{v:Value}{xs ys:List α}(i:Nat)(h:xs=ys)(hi:lk H i=some (Oe k e enc v xs))(c:Nat.beq i 0=false) :
  ∀a w,Sat N sc env H a w->Sat N sc env ((i,Oe k e enc v ys)::H) a w:=by
 subst h;exact Zox i hi rfl (λw h=>h) (λb d=>d) c
theorem Zmq(R:List Nat)(j:Nat)(a:j<=R.length):Yh U R=Yh U (R.take j)+U^j*Yh U (R.drop j):=by have:=Ns U (R.take j) (R.drop j);rw [List.take_append_drop,List.length_take,Nat.min_eq_left a]at this;exact this
theorem Zj0(g:∀d∈R,d<U)(j:Nat)(e:j<=R.length):Yh U (R.take j)=Yh U R%U^j/\Yh U (R.drop j)=Yh U R/U^j:=by
 have c:=Zmq R j e;have a:=Zg1 Xw (R.take j) (λd h=>g d (List.mem_of_mem_take h));rw [List.length_take,Nat.min_eq_left e]at a;have i:0<U^j:=Nat.pow_pos Xw;constructor
 .rw [c,Nat.add_comm,Nat.mul_add_mod,Nat.mod_eq_of_lt a]
 .rw [c,Nat.add_comm,Nat.mul_add_div i,Nat.div_eq_of_lt a,Nat.add_zero]
theorem Zfb(e:∀d∈R,d<U){n:Nat}(g:n<=R.length)(h:Yh U R<U^n):Yh U (R.drop n)=0/\Yh U (R.take n)=Yh U R:=by obtain⟨a,c⟩:=Zj0 e n g;rw [c,a,Nat.mod_eq_of_lt h];exact⟨Nat.div_eq_of_lt h,rfl⟩
theorem Ylg(c:∀d∈R,d<U){j n:Nat}(g:j+n<=R.length)(h:Yh U R<U^(j+n)):tz ((R.drop j).take n)=dg U (Yh U R/U^j):=by have a:∀d∈R.drop j,d<U:=λd a=>c d (List.mem_of_mem_drop a);rw [<-(Zj0 c j O).2,<-Ic Xr _ (λd e=>a d (List.mem_of_mem_take e))];congr 1;refine(Zfb a (by rw [List.length_drop];omega) ?_).2;rw [(Zj0 c j O).2,Nat.div_lt_iff_lt_mul (Nat.pow_pos Xw),<-Nat.pow_add,Nat.add_comm];exact h
theorem Zrx(c:∀d∈R,d<U)(e:∀d∈ys,d<U)(lo:Nat):∀d∈spl R lo ys,d<U:=λd a=>by
 simp only [spl,List.mem_append]at a;rcases a with(a|a)|a
 .exact c d (List.mem_of_mem_take a)
 .exact e d a
 .exact c d (List.mem_of_mem_drop a)
theorem Zsa(L:Nat)(ys:List Nat):Yh U (spl (List.replicate L 0) 0 ys)=Yh U ys:=by simp [spl,Ns,List.drop_replicate,Gp]
theorem Yln(a:∀d∈R,d<U){j n:Nat}(g:j+n<=R.length)(h:Yh U R<U^(j+n))(i:ys.length<=n) :
  Yh U (spl (spl R j (List.replicate n 0)) j ys)=Yh U R%U^j+U^j*Yh U ys:=by
 have c:(spl R j (List.replicate n 0)).take j=R.take j:=by simp only [spl,List.append_assoc];rw [List.take_append_of_le_length (by rw [List.length_take];omega),List.take_take,Nat.min_self]
 have e:(spl R j (List.replicate n 0)).drop (j+ys.length)=List.replicate (n-ys.length) 0 ++ R.drop (j+n):=by simp only [spl,List.append_assoc,List.length_replicate];rw [<-List.drop_drop,List.drop_left' (by rw [List.length_take];omega),List.drop_append_of_le_length (by rw [List.length_replicate];exact i),List.drop_replicate]
 rw [spl,c,e,Ns,Ns,Ns,Gp,(Zfb a g h).1,(Zj0 a j O).1,List.length_take,Nat.min_eq_left O];simp
theorem Ynk{y b:Nat}(d:0<y)(l:k=(dg U y).length)(r:b=64-bl ((dg U y).getD (k-1) 0)):(dg U (y*2^b)).length=k/\2^b*U^k<=y*2^b*U*2^b/\1<=k/\y*2^b<U^k/\b<=63/\U^(k-1)*9223372036854775808<=y*2^b:=by
 obtain⟨m,n,g,o⟩:=Zyn d;rw [<-l]at m n g o;obtain⟨h,q⟩:=Zrp d;have i:=Dx y;have e:bl y+b=64*k:=O;have c:y*2^b<U^k:=by rw [Zda,<-e,Nat.pow_add];exact Nat.mul_lt_mul_of_pos_right i (Nat.two_pow_pos b)
 have a:U^(k-1)*9223372036854775808<=y*2^b:=by
  have:U^(k-1)*9223372036854775808=2^(bl y-1)*2^b:=by rw [Zda,<-Nat.pow_add,show 9223372036854775808=2^63 from rfl,<-Nat.pow_add];congr 1;omega
  rw [this];exact Nat.mul_le_mul_right _ h
 have j:U^k=U^(k-1)*U:=by rw [<-Nat.pow_succ];congr 1;omega
 refine⟨?_,?_,g,c,O,a⟩
 .refine Nat.le_antisymm ((Xp Xr _ _).2 c) ?_;have:k-1<(dg U (y*2^b)).length:=(Nh Xr _ _).2 (Nat.le_trans (Nat.le_mul_of_pos_right _ O) a);omega
 .rw [j,Nat.mul_comm (2^b)];refine Nat.mul_le_mul_right _ ?_;refine Nat.mul_le_mul_right _ (Nat.le_trans (Nat.le_mul_of_pos_right _ O) a)
theorem Yid{W w1 w0 t:Nat}(a:t*U^k<=D)(e:0<t)(c:W/U^k=w1*U+w0):W/D<=(w1*U+w0)/t:=by have d:0<U^k:=Nat.pow_pos Xw;rw [<-c,Nat.div_div_eq_div_mul,Nat.mul_comm];exact Nat.div_le_div_left a (Nat.mul_pos e d)
theorem Ylu(c:∀d∈R,d<U){j:Nat}(m:1<=k)(h:Yh U R<U^(j+k+1))(n:j+k+1<=R.length):Yh U R/U^j/U^(k-1)=R.getD (j+k) 0*U+R.getD (j+k-1) 0:=by
 have e:∀i,R.getD i 0=Yh U R/U^i%U:=λi=>by
  rcases Nat.lt_or_ge i R.length with hi|hi
  .have a:=(Zj0 c i O).2;rw [Zcy 0 R i hi]at a;simp only [Yh]at a;rw [<-a,Nat.add_mul_mod_self_left,Nat.mod_eq_of_lt (Xq Xw c i)]
  .rw [show R.getD i 0=0 by simp [List.getD,List.getElem?_eq_none hi],Nat.div_eq_of_lt (Nat.lt_of_lt_of_le (Zg1 Xw R c) (Nat.pow_le_pow_right Xw hi))];rfl
 rw [e,e,Nat.div_div_eq_div_mul,<-Nat.pow_add,show j+(k-1)=j+k-1 by omega];have g:Yh U R/U^(j+k)<U:=by rw [Nat.div_lt_iff_lt_mul (Nat.pow_pos Xw),<-Nat.pow_succ',Nat.add_comm (j+k)]at *;rw [Nat.add_comm 1]at *;exact h
 have l:Yh U R/U^(j+k)=Yh U R/U^(j+k-1)/U:=by rw [Nat.div_div_eq_div_mul,<-Nat.pow_succ];congr 2;omega
 rw [Nat.mod_eq_of_lt g,l,Nat.mul_comm,Nat.div_add_mod]
theorem Yje{x b lx:Nat}(e:x<U^lx)(c:b<=63)(l:1<=k)(d:k<=lx+1)(a:U^(k-1)*9223372036854775808<=D):x*2^b<D*U^(lx+1-k):=by
 have g:x*2^b<U^lx*2^b:=Nat.mul_lt_mul_of_pos_right e (Nat.two_pow_pos b);have h:U^lx*2^b<=U^lx*9223372036854775808:=Nat.mul_le_mul_left _ (by rw [show 9223372036854775808=2^63 from rfl];exact Nat.pow_le_pow_right O c)
 have i:U^lx*9223372036854775808=U^(k-1)*9223372036854775808*U^(lx+1-k):=by rw [Nat.mul_right_comm,<-Nat.pow_add];congr 2;omega
 have j:U^(k-1)*9223372036854775808*U^(lx+1-k)<=D*U^(lx+1-k):=Nat.mul_le_mul_right _ a;omega
theorem Yjd{V j Q Vq N:Nat}(h:0<D)(a:Q=V/U^j/D)(i:Vq*U^(j+1)*D+V=N) :
  V%U^j+U^j*(V/U^j-D*Q)<D*U^j/\(Q+U*Vq)*U^j*D+(V%U^j+U^j*(V/U^j-D*Q))=N:=by
 have l:0<U^j:=Nat.pow_pos Xw;have o:=Nat.mod_lt V l;have q:=Nat.div_add_mod V (U^j);have c:=Nat.div_add_mod (V/U^j) D;have d:=Nat.mod_lt (V/U^j) h;have e:V/U^j-D*Q=V/U^j%D:=by rw [a];omega
 rw [e];constructor
 .have g:U^j*(V/U^j%D+1)<=U^j*D:=Nat.mul_le_mul_left _ d;rw [Nat.mul_add]at g;rw [Nat.mul_comm D];omega
 .rw [<-i];have m:(Q+U*Vq)*U^j*D=U^j*(D*Q)+Vq*U^(j+1)*D:=by
   rw [Nat.add_mul,Nat.add_mul,Nat.pow_succ];congr 1
   .rw [Nat.mul_comm Q,Nat.mul_assoc,Nat.mul_comm Q]
   .rw [Nat.mul_comm U Vq,Nat.mul_assoc Vq,Nat.mul_comm U]
  have n:U^j*(D*Q)+U^j*(V/U^j%D)=U^j*(V/U^j):=by rw [<-Nat.mul_add,a,c]
  omega
def sg(s:Bool)(x:Int):Prop:=(s=true->x<=0)/\(s=false->0<=x)
theorem Yfb(h:sg s x):sg (!s) (-x):=by cases s<;>simp [sg]at*<;>omega
theorem Yfc(hs:sg s x)(a:sg t y):sg (s != t) (x*y):=by
 cases s<;>cases t<;>simp [sg]at *
 .exact Int.mul_nonneg hs a
 .exact Int.mul_nonpos_of_nonneg_of_nonpos hs a
 .exact Int.mul_nonpos_of_nonpos_of_nonneg hs a
 .exact Int.mul_nonneg_of_nonpos_of_nonpos hs a
theorem Yb7(h:(((dg U x.natAbs).length:Nat):Int)=0):Value.int .i64 x.sign= .int .i64 0:=by have a:=(Pw Xr x.natAbs).1 O;have:x=0:=O;subst this;rfl
theorem Ye6(hs:sg s x)(a:s=true)(h:¬(((dg U x.natAbs).length:Nat):Int)=0):Value.int .i64 x.sign= .int .i64 (-1):=by have c:¬x.natAbs=0:=λe=>h (by rw [(Pw Xr x.natAbs).2 e];rfl);have d:=hs.1 a;rw [Int.sign_eq_neg_one_of_neg O]
theorem Ye5(hs:sg s x)(a:s=false)(h:¬(((dg U x.natAbs).length:Nat):Int)=0):Value.int .i64 x.sign= .int .i64 1:=by have c:¬x.natAbs=0:=λe=>h (by rw [(Pw Xr x.natAbs).2 e];rfl);have d:=hs.2 a;rw [Int.sign_eq_one_of_pos O]
theorem Zyu(hs:sg s x)(a:sg s y):sg s (x+y):=by cases s<;>simp [sg]at*<;>omega
theorem Zgx(hs:sg s x)(a:sg s y):(x+y).natAbs=x.natAbs+y.natAbs:=by cases s<;>simp [sg]at*<;>omega
theorem Zi7(hs:sg s x)(c:sg t y)(h:s≠t)(a:y.natAbs<=x.natAbs):sg s (x+y):=by cases s<;>cases t<;>simp [sg]at*<;>omega
theorem Za9(hs:sg s x)(c:sg t y)(h:s≠t)(a:y.natAbs<=x.natAbs):(x+y).natAbs=x.natAbs-y.natAbs:=by cases s<;>cases t<;>simp [sg]at*<;>omega
abbrev wv (x:Int):Value:= .agg #[.bool (decide (x<0)),.string (Qh x.natAbs)]
def Za5(x:Int):Int:=if 65536<bl x.natAbs then 0 else x
def Zix(x:Int):Int:=if 65536<bl x.natAbs then 7 else 0
theorem Yo8(x:Int):bl (Za5 x).natAbs<=65536:=by
 unfold Za5;split
 .decide
 .omega
theorem Iu(h:bl x.natAbs<=65536):Za5 x=x:=by unfold Za5;rw [if_neg O]
theorem Zqj(h:bl x.natAbs<=65536):Zix x=0:=by unfold Zix;rw [if_neg O]
theorem Yo7(h:65536<bl x.natAbs):Za5 x=0:=by unfold Za5;rw [if_pos h]
theorem Yn9(h:65536<bl x.natAbs):Zix x=7:=by unfold Zix;rw [if_pos h]
abbrev Zcc (x:Int):Value:= .tuple #[wv (Za5 x),.int .i64 (Zix x)]
theorem Ybu(h:((65536:Int)<((bl x.natAbs:Nat):Int))):Zcc x= .tuple #[.agg #[.bool false,.string ⟨#[]⟩],.int .i64 7]:=by unfold Zcc;rw [Yo7 O,Yn9 O];rfl
theorem Zx9(h:¬((65536:Int)<((bl x.natAbs:Nat):Int))):Zcc x= .tuple #[wv x,.int .i64 0]:=by unfold Zcc;rw [Iu O,Zqj O]
theorem Zr4(hs:sg false x)(h:¬((65536:Int)<((bl x.natAbs:Nat):Int))):Zcc x= .tuple #[.agg #[.bool false,.string (Qh x.natAbs)],.int .i64 0]:=by rw [Zx9 h,wv,decide_eq_false (by have:=hs.2 rfl;omega)]
theorem Zr3(hs:sg true x)(h:¬((65536:Int)<((bl x.natAbs:Nat):Int))):Zcc x= .tuple #[.agg #[.bool (decide ((0:Int)<(((dg U x.natAbs).length:Nat):Int))),.string (Qh x.natAbs)],.int .i64 0]:=by have a:=hs.1 rfl;have c:=Pw Xr x.natAbs;rw [Zx9 h,wv,show decide (x<0)=decide ((0:Int)<(((dg U x.natAbs).length:Nat):Int))from decide_eq_decide.2 ⟨λh=>O,λh=>O⟩]
theorem Zdx{q r:Int}(d:y≠0)(h:x=y*q+r)(l:0<=r)(m:r<(y.natAbs:Int)):x/y=q/\x%y=r:=by
 have e:=Int.mul_ediv_add_emod x y;have i:=Int.emod_nonneg x d;have j:=Int.emod_lt x d;have c:x/y=q:=by
  have g:y*(x/y-q)=r-x%y:=by rw [Int.mul_sub];omega
  have a:(y*(x/y-q)).natAbs<y.natAbs:=by rw [g];omega
  rw [Int.natAbs_mul]at a;rcases Nat.eq_zero_or_pos (x/y-q).natAbs with h|h
  .omega
  .exact absurd (Nat.le_mul_of_pos_right y.natAbs h) O
 refine⟨c,?_⟩;rw [c]at e;omega
theorem Zwa(h:sg s x):x=if s then -(x.natAbs:Int)else(x.natAbs:Int):=by cases s<;>simp [sg]at*<;>omega
theorem Yaq(hs:sg s x)(d:sg t y)(e:y≠0)(Q R:Nat)(g:R<y.natAbs)(h:x=(if s then -1 else 1)*((y.natAbs:Int)*Q)+R) :
  sg (s != t) (x/y)/\(x/y).natAbs=Q/\(x%y).natAbs=R:=by
 have c:=Zwa d;have a:x/y=(if s != t then -(Q:Int)else Q)/\x%y=R:=by
  refine Zdx e ?_ O O
  conv=>lhs;rw [h]
  conv=>rhs;rw [c]
  cases s<;>cases t<;>simp [Int.neg_mul,Int.mul_neg]
 rw [a.1,a.2];cases s<;>cases t<;>simp [sg]
theorem divB(hs:sg s x)(h:sg t y)(i:y≠0)(g:s=false\/x.natAbs%y.natAbs=0):sg (s != t) (x/y)/\(x/y).natAbs=x.natAbs/y.natAbs/\(x%y).natAbs=x.natAbs%y.natAbs:=by
 have c:=Zwa hs;have e:=Nat.div_add_mod x.natAbs y.natAbs;refine Yaq hs h i _ _ (Nat.mod_lt _ O) ?_;have a:((y.natAbs:Int)*((x.natAbs/y.natAbs:Nat):Int))+((x.natAbs%y.natAbs:Nat):Int)=x.natAbs:=by rw [<-Int.natCast_mul,<-Int.natCast_add,e]
 rcases g with rfl|d
 .simp at c ⊢;simp at a;omega
 .rw [d]at a ⊢;cases s<;>simp at c a ⊢<;>omega
theorem divA(hs:sg true x)(a:sg t y)(c:y≠0)(g:0<x.natAbs%y.natAbs):sg (true != t) (x/y)/\(x/y).natAbs=x.natAbs/y.natAbs+1/\(x%y).natAbs=y.natAbs-x.natAbs%y.natAbs:=by
 have i:=Zwa hs;have e:=Nat.div_add_mod x.natAbs y.natAbs;have h:=Nat.mod_lt x.natAbs (show 0<y.natAbs by omega);refine Yaq hs a c _ _ O ?_;have d:((y.natAbs:Int)*((x.natAbs/y.natAbs:Nat):Int))+((x.natAbs%y.natAbs:Nat):Int)=x.natAbs:=by rw [<-Int.natCast_mul,<-Int.natCast_add,e]
 rw [Int.natCast_sub O,Int.natCast_add,Int.mul_add];generalize ((y.natAbs:Int)*((x.natAbs/y.natAbs:Nat):Int))=P at *;generalize ((x.natAbs%y.natAbs:Nat):Int)=R at *;simp only [if_true]at *;omega
def okW(b:Bool)(s:ByteArray):Bool:=if s.size=0 then !b else decide ((s.data.toList.getD 0 0).toNat≠0) && decide (s.size<=8192)
theorem bl256{n:Nat} : (dg 256 n).length<=k↔bl n<=8*k:=by rw [Zlj];omega
theorem Zcp(h:bl x.natAbs<=65536):okW (decide (x<0)) (Qh x.natAbs)=true:=by
 unfold okW;rw [Dk];split
 .rename_i c;have:=(Pw (by omega:2<=256) x.natAbs).1 c;simp;omega
 .rename_i c;have g:0<x.natAbs:=by
   rcases Nat.eq_zero_or_pos x.natAbs with a|a
   .rw [a]at c;simp [Gl]at c
   .exact a
  have a:=Zvo x.natAbs 0 O;have d:=dg_top (by omega:2<=256) g;rw [Hf O]at d;have e:=(bl256 (n:=x.natAbs) (k:=8192)).2 O;rw [Bool.and_eq_true];refine⟨decide_eq_true (by rw [a];simpa using d),decide_eq_true e⟩
theorem Zhy{a b:ByteArray}(h:a.data.toList=b.data.toList):a=b:=by cases a;cases b;simp at h;rw [h]
theorem Ypk{s:ByteArray}(e:s.size≠0)(h:(s.data.toList.getD 0 0).toNat≠0):s=Qh (Yh 256 (s.data.toList.reverse.map UInt8.toNat)):=by
 have g:s.data.toList.length=s.size:=rfl;have a:∀d∈s.data.toList.reverse.map UInt8.toNat,d<256:=λd c=>by obtain⟨u,_,rfl⟩:=List.mem_map.1 c;exact u.toNat_lt
 refine Zhy ?_;unfold Qh;rw [Ic O _ a,tz_eq]
 .simp [List.map_reverse,Function.comp_def]
 .refine .inr ?_;rw [List.length_map,List.length_reverse,List.getD_eq_getElem?_getD,List.getElem?_map,List.getElem?_reverse O];rw [show s.data.toList.length-1-(s.data.toList.length-1)=0 by omega];rw [List.getD_eq_getElem?_getD]at h;cases hx:s.data.toList[0]? with
  | none=>rw [hx]at h;simp at h
  | some u=>rw [hx]at h;simpa using h
theorem Zps{s:ByteArray}(h:okW b s=true):∃x:Int,bl x.natAbs<=65536/\b=decide (x<0)/\s=Qh x.natAbs:=by
 unfold okW at h;split at h
 .rename_i c;refine⟨0,by simp [Lu],?_,?_⟩
  .cases b<;>simp_all
  .refine Zhy ?_;have:s.data.toList.length=0:=c;rw [List.eq_nil_of_length_eq_zero this];rfl
 .rename_i c;rw [Bool.and_eq_true]at h;have e:=of_decide_eq_true h.1;have g:=of_decide_eq_true h.2;have hs:=Ypk c e;generalize Yh 256 (s.data.toList.reverse.map UInt8.toNat)=n at hs;have d:(dg 256 n).length=s.size:=by rw [hs,Dk]
  have i:0<n:=by
   rcases Nat.eq_zero_or_pos n with h|h
   .subst h;simp [Gl]at d;omega
   .exact h
  have a:bl n<=65536:=by have:=(bl256 (n:=n) (k:=8192)).1 O;omega
  cases b with
  | true=>exact⟨-(n:Int),by simpa using a,O8,by simpa using hs⟩
  | false=>exact⟨n,by simpa using a,O7,by simpa using hs⟩
def eqW(a:Bool)(s:ByteArray)(b:Bool)(t:ByteArray):Bool:=(a == b) && (s.toList == t.toList)
theorem Ydz(h:decide (x<0)=decide (y<0))(g:Qh x.natAbs=Qh y.natAbs):x=y:=by
 have j:x.natAbs=y.natAbs:=by
  have a:(dg 256 x.natAbs).reverse.map UInt8.ofNat=(dg 256 y.natAbs).reverse.map UInt8.ofNat:=by have:=congrArg (λb:ByteArray=>b.data.toList) g;simpa [Qh]using this
  have c:∀n:Nat,((dg 256 n).reverse.map UInt8.ofNat).map UInt8.toNat=(dg 256 n).reverse:=λn=>by
   rw [List.map_map]
   conv=>rhs;rw [<-List.map_id (dg 256 n).reverse]
   refine List.map_congr_left λd i=>?_;have:=Ni (by omega:2<=256) n d (List.mem_reverse.1 i);simp [UInt8.toNat_ofNat',Nat.mod_eq_of_lt this]
  have e:=congrArg (List.map UInt8.toNat) a;rw [c,c]at e;exact(Zhv (by omega:2<=256)).1 (List.reverse_inj.1 e)
 have a:=decide_eq_decide.1 h;omega
theorem Zq0{a:Bool}{s t:ByteArray} : eqW a s b t=true↔a=b/\s=t:=by unfold eqW;rw [Bool.and_eq_true,ByteArray.toList_eq,ByteArray.toList_eq,beq_iff_eq,beq_iff_eq];exact⟨λh=>⟨h.1,Zhy h.2⟩,λh=>⟨h.1,by rw [h.2]⟩⟩
theorem Yi2(x y:Int):eqW (decide (x<0)) (Qh x.natAbs) (decide (y<0)) (Qh y.natAbs)=decide (x=y):=by rw [Bool.eq_iff_iff,Zq0,decide_eq_true_iff];exact⟨λh=>Ydz h.1 h.2,λh=>by rw [h];exact⟨rfl,rfl⟩⟩
theorem Xm(x:Int):sg (decide (x<0)) x:=by unfold sg;simp;omega
def Iv(x y:Int):bl (x+y).natAbs<=max (bl x.natAbs) (bl y.natAbs)+1:=
 Nat.le_trans (Og (Int.natAbs_add_le x y)) (bl_add _ _)
theorem Xa(x y:Int):bl (x*y).natAbs<=bl x.natAbs+bl y.natAbs:=by rw [Int.natAbs_mul];exact Zmf _ _
theorem Zaa(x y:Int):bl (x-y).natAbs<=max (bl x.natAbs) (bl y.natAbs)+1:=by have:=Iv x (-y);rwa [Int.natAbs_neg,<-Int.sub_eq_add_neg]at this
theorem Zme(x:Int):bl (-x).natAbs=bl x.natAbs:=by rw [Int.natAbs_neg]
theorem Zjv(x y:Int):bl (x/y).natAbs<=bl x.natAbs+1:=by have h:(x/y).natAbs<=x.natAbs:=Int.natAbs_ediv_le_natAbs x y;have:=Og h;omega
theorem Ybi(x y:Int)(a:y≠0):bl (x%y).natAbs<=bl y.natAbs:=by have c:=Int.emod_nonneg x a;have d:=Int.emod_lt x a;exact Og O
theorem Zrr(x y:Nat):bl (Nat.gcd x y)<=max (bl x) (bl y):=by
 rcases Nat.eq_zero_or_pos x with h|h
 .subst h;rw [Nat.gcd_zero_left];omega
 .have:=Og (Nat.le_of_dvd h (Nat.gcd_dvd_left x y));omega
def Ymj(x:Int)(h:y≠0):sg false (x%y):=⟨λa=>Bool.noConfusion a,λ_=>Int.emod_nonneg x h⟩
def Le(x y:Int):Int:=if y<0 then -(Int.gcd x y:Int)else(Int.gcd x y:Int)
theorem Zcr(x y:Int):(Le x y).natAbs=Nat.gcd x.natAbs y.natAbs:=by unfold Le;split<;>simp [Int.gcd]
theorem Zzy(h:y≠0):Le x y≠0:=λe=>by have a:=Zcr x y;rw [e]at a;have:=(Nat.gcd_eq_zero_iff.1 a.symm).2;omega
theorem Ymh(a:sg t y)(c:y≠0):sg t (Le x y):=by
 unfold Le sg at *;refine⟨λh=>?_,λh=>?_⟩
 .rw [if_pos (by have:=a.1 h;omega)];omega
 .rw [if_neg (by have:=a.2 h;omega)];omega
theorem Zzx(v:Value)(x y:Int):Eu v (Nat.gcd x.natAbs y.natAbs)=Eu v (Le x y).natAbs:=by rw [Zcr]
def Ll(x y:Int):Prop:=65536<bl (x/Le x y).natAbs\/65536<bl (y/Le x y).natAbs
instance (x y:Int):Decidable (Ll x y):=by unfold Ll;infer_instance
def Gy(x y:Int):Int:=if Ll x y then 0 else x/Le x y
def Ge(x y:Int):Int:=if Ll x y then 0 else y/Le x y
def Yf4(x y:Int):Int:=if Ll x y then 7 else 0
abbrev Zbo (x y:Int):Value:= .tuple #[.agg #[.bool (decide (Gy x y<0)),.string (Qh (Gy x y).natAbs),.bool (decide (Ge x y<0)),.string (Qh (Ge x y).natAbs)],.int .i64 (Yf4 x y)]
theorem Zbn(h:Ll x y):Zbo x y= .tuple #[.agg #[.bool false,.string ⟨#[]⟩,.bool false,.string ⟨#[]⟩],.int .i64 7]:=by unfold Zbo Gy Ge Yf4;rw [if_pos h,if_pos h,if_pos h];rfl
theorem Aw(h:Zix x≠0):65536<bl x.natAbs:=by
 unfold Zix at h;split at h
 .assumption
 .exact absurd rfl h
theorem Zjk(h:Zix x=0):bl x.natAbs<=65536:=by
 unfold Zix at h;split at h
 .omega
 .omega
theorem Ztc(c:Zix (x/Le x y)=0)(d:Zix (y/Le x y)=0):Zbo x y= .tuple #[.agg #[.bool (decide (Za5 (x/Le x y)<0)),.string (Qh (Za5 (x/Le x y)).natAbs),.bool (decide (Za5 (y/Le x y)<0)),.string (Qh (Za5 (y/Le x y)).natAbs)],.int .i64 0]:=by
 have a:¬Ll x y:=λh=>by have:=Zjk c;have:=Zjk d;unfold Ll at h;omega
 unfold Zbo Gy Ge Yf4;rw [if_neg a,if_neg a,if_neg a,Iu (Zjk c),Iu (Zjk d)]
def okR(b:Bool)(s:ByteArray)(c:Bool)(t:ByteArray):Bool:=okW b s && okW c t && (!c && decide (0<t.size))
theorem Zpj(z:Int):(!decide (z<0) && decide (0<(Qh z.natAbs).size))=decide (0<z):=by rw [Bool.eq_iff_iff,Bool.and_eq_true,Dk,decide_eq_true_iff,decide_eq_true_iff];have:=Pw (by omega:2<=256) z.natAbs;simp only [Bool.not_eq_true',decide_eq_false_iff_not];omega
theorem Ft(z:Int):decide (0<z.sign)=decide (0<z):=by
 rw [decide_eq_decide];rcases Int.lt_trichotomy z 0 with h|h|h
 .rw [Int.sign_eq_neg_one_of_neg h];omega
 .subst h;simp
 .rw [Int.sign_eq_one_of_pos h];omega
theorem Ztw{s:ByteArray}{z:Int}(a:okW b s=true)(c:bl z.natAbs<=65536):okR b s (decide (z<0)) (Qh z.natAbs)=decide (0<z.sign):=by unfold okR;rw [a,Zcp c,Zpj,Ft];rfl
theorem okR_wv(c:bl x.natAbs<=65536)(d:bl y.natAbs<=65536)(a:0<y):okR (decide (x<0)) (Qh x.natAbs) (decide (y<0)) (Qh y.natAbs)=true:=by unfold okR;rw [Zcp c,Zcp d,Zpj];simp [a]
theorem Yg7{c:Bool}{s t:ByteArray}(h:okR b s c t=true):∃x y:Int,bl x.natAbs<=65536/\bl y.natAbs<=65536/\0<y/\b=decide (x<0)/\s=Qh x.natAbs/\c=decide (y<0)/\t=Qh y.natAbs:=by unfold okR at h;rw [Bool.and_eq_true,Bool.and_eq_true]at h;obtain⟨⟨d,e⟩,a⟩:=h;obtain⟨x,g,rfl,rfl⟩:=Zps d;obtain⟨y,i,rfl,rfl⟩:=Zps e;rw [Zpj]at a;exact⟨x,y,g,i,of_decide_eq_true a,rfl,rfl,rfl,rfl⟩
open Go.RowKit (Below)
def Sz(n:Nat)(p:List Int):Prop:=∀i,bl (cf p i).natAbs<=n
def Sz.getD{n:Nat}(h:Sz n p)(i:Nat):bl (p.getD i 0).natAbs<=n:=h i
def Sz.mono{n m:Nat}(h:Sz n p)(a:n<=m):Sz m p:=λi=>Nat.le_trans (h i) a
theorem Sz.tzl{n:Nat}(h:Sz n p):Sz n (tzl p):=λi=>by rw [Ks];exact h i
theorem Sz.nil(n:Nat):Sz n []:=λi=>by simp [cf,Lu]
theorem Sz.take{n:Nat}(h:Sz n p)(k:Nat):Sz n (p.take k):=λi=>by
 rw [Ei];split
 .exact h i
 .simp [Lu]
theorem Sz.mem{n:Nat}(h:Sz n p)(a:x∈p):bl x.natAbs<=n:=by obtain⟨i,hi,rfl⟩:=List.mem_iff_getElem.1 a;have:=h i;rwa [Zc4 hi]at this
theorem Sz.of_mem{n:Nat}(h:∀x∈p,bl x.natAbs<=n):Sz n p:=λi=>by
 rcases Nat.lt_or_ge i p.length with hi|hi
 .rw [Zc4 hi];exact h _ (List.getElem_mem hi)
 .rw [Yl hi];simp [Lu]
structure Vp (p:List Int):Prop where
 sz:Sz 65536 p
 tr:Tr p
 len:p.length<=25
def wr(x:Int):Bool×ByteArray:=(decide (x<0),Qh x.natAbs)
def okP(r:List (Bool×ByteArray)):Bool:=r.all (λw=>okW w.1 w.2) && (decide (r.length<=25) && (decide (r.length=0) || decide ((r.getD (r.length-1) (false,⟨#[]⟩)).2.size≠0)))
theorem Ze2 : (Qh x.natAbs).size=0↔x=0:=by rw [Dk];have:=Pw (by omega:2<=256) x.natAbs;omega
theorem Zcv(xs:List Int)(i:Nat)(h:i<xs.length):(xs.map wr).getD i (false,⟨#[]⟩)=wr (cf xs i):=by rw [Zc4 h];simp [List.getD,h]
theorem okP_wr(h:Vp xs):okP (xs.map wr)=true:=by
 unfold okP;rw [Bool.and_eq_true,Bool.and_eq_true,Bool.or_eq_true];refine⟨List.all_eq_true.2 λw e=>?_,by simpa using h.len,?_⟩
 .obtain⟨x,g,rfl⟩:=List.mem_map.1 e;exact Zcp (h.sz.mem g)
 .rcases h.tr with a|a
  .left;simp [a]
  .right;have i:0<xs.length:=by
    rcases Nat.eq_zero_or_pos xs.length with c|c
    .rw [Yl O]at a;exact absurd rfl a
    .exact c
   rw [List.length_map,Zcv _ _ O];refine decide_eq_true λd=>a (Ze2.1 d)
theorem Ztv{r:List (Bool×ByteArray)}(h:∀w∈r,okW w.1 w.2=true):∃xs:List Int,(∀x∈xs,bl x.natAbs<=65536)/\r=xs.map wr:=by
 induction r with
 | nil=>exact⟨[],O7,rfl⟩
 | cons w r l=>
  obtain⟨xs,c,d⟩:=l λu i=>h u (List.mem_cons_of_mem _ i);obtain⟨x,j,e,g⟩:=Zps (h w (List.mem_cons_self ..));refine⟨x::xs,λy a=>?_,?_⟩
  .rcases List.mem_cons.1 a with rfl|a
   .exact j
   .exact c y a
  .rw [List.map_cons,<-d,wr,<-e,<-g]
theorem okP_ex{r:List (Bool×ByteArray)}(h:okP r=true):∃xs:List Int,Vp xs/\r=xs.map wr:=by
 unfold okP at h;rw [Bool.and_eq_true,Bool.and_eq_true,Bool.or_eq_true]at h;obtain⟨d,e,a⟩:=h;obtain⟨xs,g,rfl⟩:=Ztv (List.all_eq_true.1 d);refine⟨xs,⟨Sz.of_mem g,?_,by simpa using e⟩,rfl⟩;rcases a with a|a
 .left;exact List.eq_nil_of_length_eq_zero (by simpa using a)
 .rcases Nat.eq_zero_or_pos xs.length with c|c
  .left;exact List.eq_nil_of_length_eq_zero c
  .right;rw [List.length_map,Zcv _ _ O]at a;exact λi=>of_decide_eq_true a (Ze2.2 i)
theorem Zj7{j:Nat}(h:j<k)(a:(xs.take k).getD j 0=0):cf xs j=0:=by rw [Zdv _ _ _ _ h]at a;exact a
theorem Zfh{j:Nat}(h:j<k)(a:¬((xs.take k).getD j 0).sign=0):cf xs j≠0:=λe=>a (by rw [Zdv _ _ _ _ h];rw [show xs.getD j 0=0 from e];rfl)
theorem Ynf{r:List (Bool×ByteArray)}{w:Bool×ByteArray}(a:w∈r)(h:okW w.1 w.2=false):okP r=false:=by unfold okP;rw [show r.all (λw=>okW w.1 w.2)=false from List.all_eq_false.2 ⟨w,a,by simp [h]⟩];rfl
theorem Zpt(h:∀x∈xs,bl x.natAbs<=65536):okP (xs.map wr)=(decide (xs.length<=25) && (decide (xs.length=0) || decide (¬(xs.getD (xs.length-1) 0).sign=0))):=by
 unfold okP;rw [show(xs.map wr).all (λw=>okW w.1 w.2)=true from List.all_eq_true.2 λw c=>by obtain⟨x,d,rfl⟩:=List.mem_map.1 c;exact Zcp (h x d)]
 rw [List.length_map,Bool.true_and];congr 1;by_cases a:xs.length=0
 .simp [a]
 .rw [decide_eq_false a,Bool.false_or,Bool.false_or,Zcv _ _ O];rw [decide_eq_decide,Int.sign_eq_zero_iff_zero];exact not_congr Ze2
def err(e x:Int):Int:=if e=0 then Zix x else e
theorem Zxc(h:bl x.natAbs<=65536):err 0 x=0:=by unfold err;rw [if_pos rfl,Zqj h]
def Pa:List Int->Nat
 | []=>0
 | x::r=>max (bl x.natAbs) (Pa r)
theorem Lx(p:List Int):Sz (Pa p) p:=by
 refine Sz.of_mem λx a=>?_
 induction p with
 | nil=>cases a
 | cons y r c=>
  rcases List.mem_cons.1 a with rfl|h
  .simp only [Pa];omega
  .have:=c h;simp only [Pa];omega
theorem Pr{n:Nat}(h:Sz n p):Pa p<=n:=by
 have c:∀x∈p,bl x.natAbs<=n:=λx a=>h.mem a;clear h
 induction p with
 | nil=>exact Nat.zero_le _
 | cons y r d=>
  have:=c y (List.mem_cons_self ..);have:=d λx a=>c x (List.mem_cons_of_mem _ a);simp only [Pa];omega
theorem Yho(p:List Int)(x:Int):Pa (p ++ [x])=max (Pa p) (bl x.natAbs):=by
 induction p with
 | nil=>simp [Pa]
 | cons y r a=>simp only [List.cons_append,Pa,a];omega
variable {P:Program} {N:Nat} {sc:Nat->Prop} {env env':Ph} {H H':Hp} {Q Q':Exit->Act->World->Prop} {M:Nat->Prop}
theorem fpm{α β:Type}{f:α->β}{xs:List α}{p:Prop}(h:xs.map f≠[]/\p):xs≠[]/\p:=⟨λe=>h.1 (by rw [e];rfl),h.2⟩
def fpn{α β:Type}{f:α->β}{xs:List α}{p:Prop}(h:xs≠[]/\p):xs.map f≠[]/\p:=⟨λe=>h.1 (List.map_eq_nil_iff.1 e),h.2⟩
theorem Zv7(v:Value)(xs:List Int)(w:World)(h:(Ys 2 wv v xs).holds w):(Ys 2 (λw:Bool×ByteArray=>Value.agg #[.bool w.1,.string w.2]) v (xs.map wr)).holds w:=by
 obtain⟨⟨a,c,l,m,n,d⟩,q⟩:=h;refine⟨⟨a,c,by rw [List.length_map];exact l,by rw [List.length_map];exact m,n,?_⟩,λb h=>q b (fpm h)⟩;rcases d with d|⟨g,e,d,o⟩
 .left;rw [d];rfl
 .right;refine⟨g,e,d,λi x hi j u r=>?_⟩;rw [List.getElem?_map]at hi;cases hx:xs[i]? with
  | none=>rw [hx]at hi;cases hi
  | some y=>rw [hx]at hi;cases hi;exact o i y hx j u r
theorem Ymb(v:Value)(xs:List Int)(w:World)(h:(Ys 2 (λw:Bool×ByteArray=>Value.agg #[.bool w.1,.string w.2]) v (xs.map wr)).holds w):(Ys 2 wv v xs).holds w:=by
 obtain⟨⟨a,c,l,m,n,d⟩,q⟩:=h;rw [List.length_map]at l m;refine⟨⟨a,c,l,m,n,?_⟩,λb h=>q b (fpn h)⟩;rcases d with d|⟨g,e,d,o⟩
 .left;simpa using d
 .right;refine⟨g,e,d,λi x hi j u r=>?_⟩;exact o i (wr x) (by rw [List.getElem?_map,hi];rfl) j u r
theorem Cal.imp{p q:Pc}{al:Bool}{G:Type}{φ:G->Prop}{Yh:G->Value}{i:G->List Pc}(h:Cal P f args (p::pre) al φ Yh i)(F:∀w,q.holds w->p.holds w)(z:∀b,p.fp b->q.fp b) :
  Cal P f args (q::pre) al φ Yh i:=λw m=>by
 refine(h w λr a=>?_).mono ?_
 .rcases List.mem_cons.1 a with rfl|a
  .exact F w (m q (List.mem_cons_self ..))
  .exact m r (List.mem_cons_of_mem _ a)
 .rintro e S ⟨g,v,B,j,c⟩;refine⟨g,v,B,j,λI l=>?_⟩;obtain⟨n,o,u⟩:=c I l;refine⟨n,o,λb j=>?_⟩;rcases u b j with h|⟨h,r,a,d⟩
  .exact .inl h
  .refine .inr ⟨h,?_⟩;rcases List.mem_cons.1 a with rfl|a
   .exact⟨q,List.mem_cons_self ..,z b d⟩
   .exact⟨r,List.mem_cons_of_mem _ a,d⟩
end Go.Sky
namespace Go.Sky
variable{k m i:Nat}{f:Nat->Int}{xs:List Int}
def fill(n k:Nat)(f:Nat->Int):List Int:=mk n λi=>if i<k then f i else 0
def Pd(n k:Nat)(f:Nat->Int):(fill n k f).length=n:=Yp _ _
theorem Zcw{n:Nat}(h:k<n):(fill n k f).set k (f k)=fill n (k+1) f:=Ia (by simp [Pd]) λi hi=>by
 rw [List.length_set,Pd]at hi;rw [Zma _ _ _ _ (by rw [Pd];exact h)];unfold fill;rw [Nk,Nk,if_pos hi,if_pos hi];by_cases b:i=k
 .subst b;rw [if_pos rfl,if_pos O]
 .rw [if_neg b];by_cases a:i<k
  .rw [if_pos a,if_pos O]
  .rw [if_neg a,if_neg O]
theorem Bi(n:Nat)(f:Nat->Int):List.replicate n 0=fill n 0 f:=Ia (by simp [Pd]) λi hi=>by rw [List.length_replicate]at hi;unfold fill;rw [Nk,if_pos hi,if_neg O,Zc4 (by simpa using hi)];simp
theorem Eg(n:Nat)(f:Nat->Int):fill n n f=mk n f:=Gs λi hi=>by rw [if_pos hi]
theorem Zp2(xs:List Int)(g:Int->Int):mk xs.length (λi=>g (cf xs i))=xs.map g:=Ia (by simp [Yp]) λi hi=>by rw [Yp]at hi;rw [Nk,if_pos hi,Zc4 hi,Zc4 (p:=xs.map g) (by simpa using hi)];simp
theorem Ao{n:Nat}(h:∀i,i<n->bl (f i).natAbs<=m):Sz m (mk n f):=λi=>by
 rw [Nk];split
 .exact h i ‹_›
 .simp [Lu]
theorem Mp{p:List Int}(h:Tr p):Tr (Xd p):=by
 unfold Xd;rcases Nat.lt_or_ge 1 p.length with a|a
 .right;rw [Yp,Nk,if_pos O];have c:=h.mem (by intro e;rw [e]at a;simp at a);rw [show p.length-1-1+1=p.length-1 by omega];intro d;rcases Int.mul_eq_zero.1 d with b|b
  .exact c b
  .omega
 .left;exact List.eq_nil_of_length_eq_zero (by rw [Yp];omega)
theorem Yck(xs:List Int)(c:Int):tzl (fill xs.length xs.length λi=>cf xs i*c)=Zm xs c:=by rw [Eg,Zp2 xs (· * c)];rfl
theorem Yna(h:Tr xs):tzl (fill (xs.length-1) (xs.length-1) λi=>cf xs (i+1)*((i:Int)+1))=Xd xs:=by rw [Eg];exact Zab (Mp h)
theorem Yg0{p:List Int}(h:p.length=0):Xd p=[]:=List.eq_nil_of_length_eq_zero (by unfold Xd;rw [Yp];omega)
theorem Zky(p:List Int)(x:Int):Ym (p ++ [x])=(Int.gcd (Ym p) x:Int):=by unfold Ym;rw [List.foldl_append];rfl
theorem Nb(p:List Int):0<=Ym p:=by
 rcases Zi6 p with rfl|⟨a,y,rfl⟩
 .exact Int.le_refl _
 .rw [Zky];omega
theorem Lc{p:List Int}(h:k<p.length):Ym (p.take (k+1))=(Int.gcd (Ym (p.take k)) (p.getD k 0):Int):=by rw [Ps 0 _ _ h,Zky]
theorem Zax{n:Nat} : ∀(p:List Int),Sz n p->bl (Ym p).natAbs<=n:=λp=>by
 have a:∀k,k<=p.length->Sz n p->bl (Ym (p.take k)).natAbs<=n:=by
  intro k
  induction k with
  | zero=>intro _ _;rw [List.take_zero];exact Nat.zero_le _
  | succ k d=>
   intro c hs;rw [Lc c];have e:=d O hs;have b:=hs k;have:=Zrr (Ym (p.take k)).natAbs (p.getD k 0).natAbs;have g:bl (p.getD k 0).natAbs<=n:=b;show bl (Nat.gcd _ _)<=n;omega
 intro hs;have:=a p.length (Nat.le_refl _) hs;rwa [List.take_length]at this
theorem Lo(p:List Int):∀i,Ym p∣cf p i:=by
 have a:∀k,k<=p.length->∀i,i<k->Ym (p.take k)∣cf p i:=by
  intro k
  induction k with
  | zero=>intro _ i hi;omega
  | succ k c=>
   intro b i hi;rw [Lc b];rcases Nat.lt_or_ge i k with h|h
   .exact Int.dvd_trans (Int.gcd_dvd_left ..) (c O i h)
   .have:i=k:=O;subst this;exact Int.gcd_dvd_right ..
 intro i;rcases Nat.lt_or_ge i p.length with h|h
 .have:=a p.length (Nat.le_refl _) i h;rwa [List.take_length]at this
 .rw [Yl h];exact Int.dvd_zero _
theorem Zcn(p:List Int):Ym p=0↔∀i,cf p i=0:=by
 refine⟨λh i=>by have:=Lo p i;rw [h]at this;exact Int.zero_dvd.1 this,λh=>?_⟩;have a:∀k,k<=p.length->Ym (p.take k)=0:=by
  intro k
  induction k with
  | zero=>intro _;rfl
  | succ k c=>
   intro b;rw [Lc b,c O];have:=h k;rw [show p.getD k 0=0 from this];rfl
 have:=a p.length (Nat.le_refl _);rwa [List.take_length]at this
theorem Fn{p:List Int}{d:Int}(h:∀i,d∣cf p i):d∣Ym p:=by
 have a:∀k,k<=p.length->d∣Ym (p.take k):=by
  intro k
  induction k with
  | zero=>intro _;exact Int.dvd_zero _
  | succ k c=>
   intro b;rw [Lc b];exact Int.dvd_coe_gcd (c O) (h k)
 have:=a p.length (Nat.le_refl _);rwa [List.take_length]at this
theorem Za7(p:List Int)(i:Nat):cf (Zz p) i=cf p i/Ym p:=by unfold Zz;rw [Zc3 _ _ O7]
theorem Ya(p:List Int):(Zz p).length=p.length:=by simp [Zz]
theorem Dg{x y:Int}{n:Nat}(h:y∣x)(b:bl x.natAbs<=n):bl (x/y).natAbs<=n:=by have a:(x/y).natAbs<=x.natAbs:=Int.natAbs_ediv_le_natAbs x y;exact Nat.le_trans (Og a) b
theorem Xb{p:List Int}(h:Tr p):Tr (Zz p):=by
 rcases h with rfl|h
 .left;rfl
 .right;rw [Za7,Ya];intro a;have b:=Lo p (p.length-1);have:=Int.mul_ediv_cancel' b;rw [a,Int.mul_zero]at this;exact h this.symm
theorem Fs{n:Nat}{p:List Int}(h:Sz n p):Sz n (Zz p):=λi=>by rw [Za7];exact Dg (Lo p i) (h i)
theorem Iw{p:List Int}(h:Vp p):Vp (Zz p):=⟨Fs h.sz,Xb h.tr,by rw [Ya];exact h.len⟩
def Vp.ne{p:List Int}(h:Vp p)(a:p≠[]):Ym p≠0:=λe=>h.tr.mem a ((Zcn p).1 e _)
def Lp(p:List Int)(n d:Int)(i:Nat):Int:=Ye (λm=>cf p (i+m)*(n^m*d^(p.length-1-(i+m)))) (p.length-i)
theorem Zum(p:List Int)(n d:Int):Lp p n d 0=pev p n d:=by unfold Lp pev;simp only [Nat.zero_add,Nat.sub_zero]
theorem Yn2{p:List Int}(n d:Int)(h:0<p.length):Lp p n d (p.length-1)=cf p (p.length-1):=by unfold Lp;rw [show p.length-(p.length-1)=0+1 by omega,Yj,Hm];simp
theorem Yh9{p:List Int}(n d:Int)(h:i<p.length):Lp p n d i=Lp p n d (i+1)*n+cf p i*d^(p.length-1-i):=by
 unfold Lp;rw [show p.length-i=p.length-(i+1)+1 by omega,Me];rw [<-Zj9];have:Ye (λm=>cf p (i+(m+1))*(n^(m+1)*d^(p.length-1-(i+(m+1))))) (p.length-(i+1))=Ye (λm=>cf p (i+1+m)*(n^m*d^(p.length-1-(i+1+m)))*n) (p.length-(i+1)):=
  Yy λm a=>by rw [show i+(m+1)=i+1+m by omega,Int.pow_succ];grind
 rw [this];simp only [Nat.add_zero,Int.pow_zero,Int.one_mul];omega
theorem Zxz{K:Nat}{f:Nat->Int} : ∀{n:Nat},(∀i,i<n->bl (f i).natAbs<=K)->(Ye f n).natAbs<=n*(2^K-1)
 | 0,_=>by simp [Ye]
 | n+1,h=>by have b:=Zxz (n:=n) λi hi=>h i O;have a:=(Qg K _).1 (h n O);rw [Yj,Nat.add_mul];have:=Int.natAbs_add_le (Ye f n) (f n);omega
theorem Zjt{K:Nat}{n:Nat}(h:∀i,i<n->bl (f i).natAbs<=K)(a:n<=31):bl (Ye f n).natAbs<=K+5:=by rw [Qg];have b:=Zxz h;have c:n*(2^K-1)<=31*(2^K-1):=Nat.mul_le_mul_right _ a;have d:0<2^K:=Nat.two_pow_pos K;rw [Nat.pow_add];omega
theorem Eo(x:Int){m:Nat}(h:bl x.natAbs<=m):∀k,0<k->bl (x^k).natAbs<=k*m
 | 0,a=>O
 | 1,_=>by rw [Int.pow_succ,Int.pow_zero,Int.one_mul,Nat.one_mul];exact h
 | k+2,_=>by have b:=Eo x h (k+1) O;rw [Int.pow_succ,show k+2=(k+1)+1 from rfl,Nat.add_mul (k+1) 1 m];have:=Xa (x^(k+1)) x;omega
def Ykk:bl 1=1:=O2
theorem Zgt{a n d:Int}{A j:Nat}(l:bl a.natAbs<=A)(h:bl n.natAbs<=m)(g:bl d.natAbs<=m):bl (a*(n^i*d^j)).natAbs<=A+(i+j)*m:=by
 rcases Nat.eq_zero_or_pos i with rfl|hi
 .rcases Nat.eq_zero_or_pos j with rfl|c
  .simp;exact l
  .have e:=Eo d g j c;have b:=Xa a (n^0*d^j);rw [Int.pow_zero,Int.one_mul]at b ⊢;rw [Nat.zero_add];omega
 .rcases Nat.eq_zero_or_pos j with rfl|c
  .have e:=Eo n h i hi;have b:=Xa a (n^i*d^0);rw [Int.pow_zero,Int.mul_one]at b ⊢;rw [Nat.add_zero];omega
  .have e:=Eo n h i hi;have b:=Eo d g j c;have o:=Xa (n^i) (d^j);have p:=Xa a (n^i*d^j);rw [Nat.add_mul];omega
theorem Ykl{p:List Int}{n d:Int}{A:Nat}(e:Sz A p)(c:bl n.natAbs<=m)(b:bl d.natAbs<=m)(h:p.length<=31)(i:Nat):bl (Lp p n d i).natAbs<=A+(p.length-1-i)*m+5:=by unfold Lp;refine Zjt (λk g=>?_) O;have a:=Zgt (i:=k) (j:=p.length-1-(i+k)) (e (i+k)) c b;rw [show k+(p.length-1-(i+k))=p.length-1-i by omega]at a;exact a
def Kr(p:List Int)(n d:Int):Prop:=p≠[]/\65536<Pa p+(p.length-1)*Pa [n,d]+8
instance (p:List Int) (n d:Int):Decidable (Kr p n d):=by unfold Kr;infer_instance
def evv(p:List Int)(n d:Int):Int:=if Kr p n d then 0 else pev p n d
def eve(p:List Int)(n d:Int):Int:=if Kr p n d then 7 else 0
abbrev wc (x:Int):Array Value:=#[.bool (decide (x<0)),.string (Qh x.natAbs)]
section
variable {p:List Int} {n d:Int} (hF:Pa p+(p.length-1)*Pa [n,d]+8<=65536) (hl:p.length<=25)
include hF
theorem Zii:bl n.natAbs<=Pa [n,d]/\bl d.natAbs<=Pa [n,d]:=by simp only [Pa];omega
theorem Zqv : bl (d^(p.length-1-k)).natAbs<=65536:=by
 rcases Nat.eq_zero_or_pos (p.length-1-k)with h|h
 .rw [h,Int.pow_zero];decide
 .have a:=Eo d (Zii hF).2 _ h;have b:(p.length-1-k)*Pa [n,d]<=(p.length-1)*Pa [n,d]:=Nat.mul_le_mul_right _ O;omega
theorem Zqu : bl (cf p k*d^(p.length-1-k)).natAbs<=65536:=by have a:=Zgt (i:=0) (j:=p.length-1-k) (Lx p k) (Zii hF).1 (Zii hF).2;have b:(0+(p.length-1-k))*Pa [n,d]<=(p.length-1)*Pa [n,d]:=Nat.mul_le_mul_right _ O;rw [Int.pow_zero,Int.one_mul]at a;omega
include hl
theorem Zqw(k:Nat):bl (Lp p n d k).natAbs<=65536:=by have a:=Ykl (Lx p) (Zii hF).1 (Zii hF).2 O k;have b:(p.length-1-k)*Pa [n,d]<=(p.length-1)*Pa [n,d]:=Nat.mul_le_mul_right _ O;omega
theorem Zxb(a:1<=k)(b:k<=p.length-1):bl (Lp p n d k*n).natAbs<=65536:=by
 have c:=Ykl (Lx p) (Zii hF).1 (Zii hF).2 O k;have e:=Xa (Lp p n d k) n;have g:=(Zii hF).1;have h:(p.length-1-k)*Pa [n,d]+Pa [n,d]<=(p.length-1)*Pa [n,d]:=by rw [<-Nat.succ_mul];exact Nat.mul_le_mul_right _ O
 omega
end
theorem evv_bl{p:List Int}{n d:Int}(hl:p.length<=25):bl (evv p n d).natAbs<=65536:=by
 unfold evv;split
 .decide
 .rename_i h;rcases Nat.eq_zero_or_pos p.length with a|a
  .rw [List.eq_nil_of_length_eq_zero a,show pev [] n d=0 from rfl];decide
  .rw [<-Zum];have c:p≠[]:=λe=>by rw [e]at a;simp at a
   exact Zqw (Nat.le_of_not_lt λb=>h ⟨c,b⟩) hl 0
theorem Ygp(d:Int){L:Nat}(a:1<=k)(b:k<=L):d^(L-k)*d=d^(L-(k-1)):=by rw [show L-(k-1)=L-k+1 by omega,Int.pow_succ]
theorem Yc8{p:List Int}(n d:Int)(a:1<=k)(b:k<=p.length-1):Lp p n d k*n+cf p (k-1)*d^(p.length-1-(k-1))=Lp p n d (k-1):=by rw [Yh9 n d (i:=k-1) O,show k-1+1=k by omega]
end Go.Sky
namespace Go.Sky
variable{k i B t:Nat}{f:Nat->Int}{q r c R:List Int}{a b:Int}
def acc(p q:List Int)(i t:Nat):Int:=Ye (λk=>if k<=t then cf p k*cf q (t-k)else 0) i
def Za8(p q:List Int)(i j t:Nat):Int:=acc p q i t+if i<=t/\t<i+j then cf p i*cf q (t-i)else 0
theorem Yds(p q:List Int)(i:Nat):Za8 p q i 0=acc p q i:=funext λt=>by unfold Za8;rw [if_neg O,Int.add_zero]
theorem Yk1(p q:List Int)(i:Nat):Za8 p q i q.length=acc p q (i+1):=funext λt=>by
 unfold Za8 acc;rw [Yj];by_cases h:i<=t
 .rw [if_pos h];by_cases d:t<i+q.length
  .rw [if_pos ⟨h,d⟩]
  .rw [if_neg (λh=>d h.2),Yl (p:=q) O,Int.mul_zero]
 .rw [if_neg h,if_neg (λd=>h d.1)]
theorem Zk8{L:Nat}{g:Nat->Int}(j:k<L)(h:∀t,t<L->t≠k->f t=g t)(x:Int)(l:x=g k):(mk L f).set k x=mk L g:=Ia (by simp [Yp]) λt e=>by
 rw [List.length_set,Yp]at e;rw [Zma _ _ _ _ (by rw [Yp];exact j),Nk,Nk,if_pos e];by_cases d:t=k
 .rw [if_pos d,d,l,if_pos j]
 .rw [if_neg d,if_pos e,h t e d]
theorem Yk0{p:List Int}{L j:Nat}(h:i+j<L):(mk L (Za8 p q i j)).set (i+j) (Za8 p q i j (i+j)+cf p i*cf q j)=mk L (Za8 p q i (j+1)):=by
 refine Zk8 h (λt g e=>?_) _ ?_
 .unfold Za8;by_cases d:i<=t/\t<i+j
  .rw [if_pos d,if_pos O]
  .rw [if_neg d,if_neg O]
 .unfold Za8;rw [if_neg O,if_pos O,Int.add_zero,show i+j-i=j by omega]
theorem Zvv(p q:List Int)(t:Nat):acc p q p.length t=(ps p*ps q).c t:=by
 rw [PS.mul_c];unfold acc;have d:Ye (λk=>if k<=t then cf p k*cf q (t-k)else 0) (max (t+1) p.length)=Ye (λk=>if k<=t then cf p k*cf q (t-k)else 0) p.length:=
  Zha O λk d _=>by rw [Yl d,Int.zero_mul];split<;>rfl
 have e:Ye (λk=>if k<=t then cf p k*cf q (t-k)else 0) (max (t+1) p.length)=Ye (λk=>if k<=t then cf p k*cf q (t-k)else 0) (t+1):=
  Zha O λk d _=>by rw [if_neg O]
 rw [<-d,e];exact Yy λk g=>by rw [if_pos O];rfl
theorem Zwj(L:Nat):List.replicate L 0=mk L λ_=>0:=by rw [Bi L λ_=>0];unfold fill;exact Gs λi _=>by split<;>rfl
theorem Ygu(p q:List Int):tzl (mk (p.length+q.length-1) (acc p q p.length))=Qn p q:=by unfold Qn;congr 1;exact Gs λi _=>Zvv p q i
theorem Ypu{p:List Int}{A j:Nat}(g:Sz A p)(l:Sz B q)(hi:i<31):bl (Za8 p q i j t).natAbs<=A+B+5:=by
 have h:Za8 p q i j t=Ye (λk=>if k<i then(if k<=t then cf p k*cf q (t-k)else 0)else if i<=t/\t<i+j then cf p i*cf q (t-i)else 0) (i+1):=by rw [Yj];rw [if_neg (Nat.lt_irrefl i)];unfold Za8 acc;congr 1;exact Yy λk d=>by rw [if_pos d]
 rw [h];have e:∀a b,bl (cf p a*cf q b).natAbs<=A+B:=λa b=>by have:=Xa (cf p a) (cf q b);have:=g a;have:=l b;omega
 refine Zjt (λk d=>?_) O;split
 .split
  .exact e _ _
  .simp [Lu]
 .split
  .exact e _ _
  .simp [Lu]
theorem bl_acc{p:List Int}{A:Nat}(d:Sz A p)(e:Sz B q)(hi:i<=31):bl (acc p q i t).natAbs<=A+B+5:=by
 refine Zjt (λk g=>?_) hi;split
 .have:=Xa (cf p k) (cf q (t-k));have:=d k;have:=e (t-k);omega
 .simp [Lu]
def An(p q:List Int):Prop:=p≠[]/\q≠[]/\(24<p.length+q.length-2\/65536<Pa p+Pa q+5)
instance (p q:List Int):Decidable (An p q):=by unfold An;infer_instance
theorem Zdw{L:Nat}(h:i<L):(mk L f).getD i 0=f i:=by have:=Nk L f i;rw [if_pos h]at this;exact this
def Yoo(p q:List Int):Bool:=decide (q≠[]) && decide (p.length<q.length)
def Cy(p q:List Int):Int:=if q.length=0 then 3 else if p.length<q.length then 0 else if 65536<Pa p+(p.length-q.length+1)*(Pa q+1)then 7 else 0
def Zib(q r:List Int)(d:Nat):List Int:=
 mk r.length λt=>cf r t*cf q (q.length-1)-if d-(q.length-1)<=t/\t<d-(q.length-1)+q.length then cf r d*cf q (t-(d-(q.length-1)))else 0
def Pb(p q:List Int):Nat->List Int
 | 0=>p
 | j+1=>Zib q (Pb p q j) (p.length-1-j)
def Zf9(q r:List Int)(d:Nat):(Zib q r d).length=r.length:=Yp _ _
theorem Lm(p q:List Int):∀j,(Pb p q j).length=p.length
 | 0=>rfl
 | j+1=>by unfold Pb;rw [Zf9,Lm p q j]
def Qp(p q:List Int):List Int:=if p.length<q.length then p else tzl (Pb p q (p.length-q.length+1))
theorem Zvl{d:Nat}(e:t<r.length):cf (Zib q r d) t=cf r t*cf q (q.length-1)-if d-(q.length-1)<=t/\t<d-(q.length-1)+q.length then cf r d*cf q (t-(d-(q.length-1)))else 0:=by unfold Zib;rw [Nk,if_pos e]
theorem Ybg{c d:Int}{A:Nat}(j:bl a.natAbs<=A)(l:bl b.natAbs<=B)(m:bl c.natAbs<=A)(n:bl d.natAbs<=B):bl (a*b-c*d).natAbs<=A+(B+1):=by have e:=Xa a b;have g:=Xa c d;have h:=Zaa (a*b) (c*d);omega
theorem Yei{A:Nat}(e:Sz A r)(d:Sz B q)(g:Nat):Sz (A+(B+1)) (Zib q r g):=by
 unfold Zib;refine Ao λt h=>?_;split
 .exact Ybg (e t) (d _) (e _) (d _)
 .rw [Int.sub_zero];have:=Xa (cf r t) (cf q (q.length-1));have:=e t;have:=d (q.length-1);omega
theorem Zg7(p q:List Int):∀j,Sz (Pa p+j*(Pa q+1)) (Pb p q j)
 | 0=>by rw [Nat.zero_mul];exact Lx p
 | j+1=>by unfold Pb;rw [Nat.succ_mul,<-Nat.add_assoc];exact Yei (Zg7 p q j) (Lx q) _
def dq(q r:List Int)(k:Nat):Int:=cf r (k+q.length-1)/cf q (q.length-1)
def Zly(q r:List Int)(k:Nat):List Int:=mk r.length λt=>cf r t-if k<=t/\t<k+q.length then dq q r k*cf q (t-k)else 0
def Pg(p q:List Int):Nat->List Int
 | 0=>p
 | j+1=>Zly q (Pg p q j) (p.length-q.length-j)
theorem Zai(p q:List Int):∀j,(Pg p q j).length=p.length
 | 0=>rfl
 | j+1=>by unfold Pg Zly;rw [Yp,Zai p q j]
def Yas(p q:List Int)(k:Nat):Int:=dq q (Pg p q (p.length-q.length-k)) k
def Hd(p q:List Int)(k:Nat):Prop:=cf (Pg p q (p.length-q.length-k)) (k+q.length-1)%cf q (q.length-1)=0
def Ygm(p q:List Int):List Int:=tzl (mk (p.length-q.length+1) (Yas p q))
def pdivs(p q:List Int):Prop:=p=[]\/(q.length<=p.length/\(∀k,k<=p.length-q.length->Hd p q k)/\∀i,cf (Pg p q (p.length-q.length+1)) i=0)
theorem Yek{A:Nat}(d:Sz A r)(g:Sz B q)(k:Nat)(e:cf r (k+q.length-1)%cf q (q.length-1)=0):Sz (A+(B+1)) (Zly q r k):=by
 unfold Zly;refine Ao λt m=>?_;split
 .have h:bl (dq q r k).natAbs<=A:=Dg (Int.dvd_of_emod_eq_zero e) (d _);have j:=Xa (dq q r k) (cf q (t-k));have l:=Zaa (cf r t) (dq q r k*cf q (t-k));have:=d t;have:=g (t-k);omega
 .rw [Int.sub_zero];have:=d t;omega
theorem Zg9(p q:List Int):∀j,j<=p.length-q.length+1->(∀k,p.length-q.length<k+j->k<=p.length-q.length->Hd p q k)->Sz (Pa p+j*(Pa q+1)) (Pg p q j)
 | 0,_,_=>by rw [Nat.zero_mul];exact Lx p
 | j+1,g,h=>by unfold Pg;rw [Nat.succ_mul,<-Nat.add_assoc];refine Yek (Zg9 p q j O λk e d=>h k O d) (Lx q) _ ?_;have:=h (p.length-q.length-j) O O;unfold Hd at this;rw [show p.length-q.length-(p.length-q.length-j)=j by omega]at this;exact this
theorem Yi4{x y:Bool×ByteArray}(h:eqW x.1 x.2 y.1 y.2=true):x=y:=by obtain⟨d,e⟩:=Zq0.1 h;exact Prod.ext d e
def Yi3(a:Bool)(s:ByteArray):eqW a s a s=true:=Zq0.2 ⟨rfl,rfl⟩
theorem Ydt(p q:List Int)(i j:Nat):Za8 p q i (j+1) (i+j)=Za8 p q i j (i+j)+cf p i*cf q j:=by unfold Za8;rw [if_pos O,if_neg O,Int.add_zero,show i+j-i=j by omega]
theorem Zav{p:List Int}(h:p.length=0\/q.length=0):Qn p q=[]:=by
 unfold Qn;refine(Lz _).2 λi=>?_;rw [Nk];split
 .rw [PS.mul_c];refine Gd λk _=>?_;rcases h with h|h
  .rw [Oh,Yl O,Int.zero_mul]
  .rw [Oh,Oh,Yl (p:=q) O,Int.mul_zero]
 .rfl
def Zit(R:List Int)(l:Int)(i:Nat):List Int:=mk R.length λt=>if t<i then cf R t*l else cf R t
def Zmt(q R:List Int)(l c:Int)(s i:Nat):List Int:=mk R.length λt=>cf R t*l-if s<=t/\t<s+i then c*cf q (t-s)else 0
def Zt9(R:List Int)(l:Int)(i:Nat):(Zit R l i).length=R.length:=Yp _ _
def Zt8(q R:List Int)(l c:Int)(s i:Nat):(Zmt q R l c s i).length=R.length:=Yp _ _
theorem Ycv(R:List Int)(l:Int):Zit R l 0=R:=by unfold Zit;refine Eq.trans (Gs λi hi=>?_) (Zdr R);rw [if_neg O]
theorem Yhn{l:Int}(h:i<R.length):(Zit R l i).getD i 0=cf R i:=by unfold Zit;rw [Zdw h,if_neg O]
theorem Yhm{l:Int}(h:i<R.length):(Zit R l i).set i (cf R i*l)=Zit R l (i+1):=by
 unfold Zit;refine Zk8 h (λt g e=>?_) _ (by rw [if_pos O]);by_cases d:t<i
 .rw [if_pos d,if_pos O]
 .rw [if_neg d,if_neg O]
theorem Yb2(q R:List Int)(l c:Int)(s:Nat):Zit R l R.length=Zmt q R l c s 0:=by unfold Zit Zmt;exact Gs λi hi=>by rw [if_pos hi,if_neg O,Int.sub_zero]
theorem Yeo{l c:Int}{s:Nat}(h:s+i<R.length):(Zmt q R l c s i).getD (s+i) 0=cf R (s+i)*l:=by unfold Zmt;rw [Zdw h,if_neg O,Int.sub_zero]
theorem Yen{l c:Int}{s:Nat}(h:s+i<R.length):(Zmt q R l c s i).set (s+i) (cf R (s+i)*l-c*cf q i)=Zmt q R l c s (i+1):=by
 unfold Zmt;refine Zk8 h (λt g e=>?_) _ (by rw [if_pos O,show s+i-s=i by omega]);by_cases d:s<=t/\t<s+i
 .rw [if_pos d,if_pos O]
 .rw [if_neg d,if_neg O]
theorem rest_b{p:List Int}{j:Nat}(g:Pa p+(p.length-q.length+1)*(Pa q+1)<=65536)(h:j<p.length-q.length+1) :
  (∀t,bl (cf (Pb p q j) t).natAbs<=65536)/\(∀t i,bl (cf (Pb p q j) t*cf q i).natAbs<=65536)/\(∀t i t2 i2,bl (cf (Pb p q j) t*cf q i-cf (Pb p q j) t2*cf q i2).natAbs<=65536):=by
 have d:=Zg7 p q j;have e:j*(Pa q+1)+(Pa q+1)<=(p.length-q.length+1)*(Pa q+1):=by rw [<-Nat.succ_mul];exact Nat.mul_le_mul_right _ O
 refine⟨λt=>by have:=d t;omega,λt i=>?_,λt i t2 i2=>?_⟩
 .have:=d t;have:=Lx q i;have:=Xa (cf (Pb p q j) t) (cf q i);omega
 .have:=Ybg (d t) (Lx q i) (d t2) (Lx q i2);omega
def Zsi{p:List Int}(d:Pa p+(p.length-q.length+1)*(Pa q+1)<=65536):Sz 65536 (Pb p q (p.length-q.length+1)):=(Zg7 p q _).mono d
theorem Zdy{p:List Int}(h:Cy p q=0):q.length≠0/\(q.length<=p.length->Pa p+(p.length-q.length+1)*(Pa q+1)<=65536):=by
 unfold Cy at h;split at h
 .omega
 .refine⟨‹_›,λd=>?_⟩;rw [if_neg O]at h;split at h
  .omega
  .omega
theorem Zgm{p:List Int}(h:q.length≠0):Yoo p q=decide (p.length<q.length):=by unfold Yoo;have d:q≠[]:=λe=>h (by rw [e];rfl);simp [d]
def Zmz(q R:List Int)(c:Int)(k i:Nat):List Int:=mk R.length λt=>cf R t-if k<=t/\t<k+i then c*cf q (t-k)else 0
def Zua(q R:List Int)(c:Int)(k i:Nat):(Zmz q R c k i).length=R.length:=Yp _ _
theorem Ydg(q R:List Int)(c:Int)(k:Nat):R=Zmz q R c k 0:=by unfold Zmz;refine Eq.trans (Zdr R).symm (Gs λi hi=>?_);rw [if_neg O,Int.sub_zero]
theorem Yi9{c:Int}(h:k+i<R.length):(Zmz q R c k i).getD (k+i) 0=cf R (k+i):=by unfold Zmz;rw [Zdw h,if_neg O,Int.sub_zero]
theorem Yi8{c:Int}(h:k+i<R.length):(Zmz q R c k i).set (k+i) (cf R (k+i)-c*cf q i)=Zmz q R c k (i+1):=by
 unfold Zmz;refine Zk8 h (λt g e=>?_) _ (by rw [if_pos O,show k+i-k=i by omega]);by_cases d:k<=t/\t<k+i
 .rw [if_pos d,if_pos O]
 .rw [if_neg d,if_neg O]
def Zhu(p q:List Int)(j:Nat):List Int:=mk (p.length-q.length+1) λt=>if p.length-q.length<t+j then Yas p q t else 0
def Zcs(p q:List Int)(j:Nat):(Zhu p q j).length=p.length-q.length+1:=Yp _ _
theorem Ydj(p q:List Int):List.replicate (p.length-q.length+1) 0=Zhu p q 0:=by rw [Zwj];unfold Zhu;exact Gs λi hi=>by rw [if_neg O]
theorem Yjc{p:List Int}{j:Nat}(g:j<p.length-q.length+1):(Zhu p q j).set (p.length-q.length-j) (dq q (Pg p q j) (p.length-q.length-j))=Zhu p q (j+1):=by
 unfold Zhu;refine Zk8 O (λt h e=>?_) _ ?_
 .by_cases d:p.length-q.length<t+j
  .rw [if_pos d,if_pos O]
  .rw [if_neg d,if_neg O]
 .rw [if_pos O];unfold Yas;rw [show p.length-q.length-(p.length-q.length-j)=j by omega]
theorem Zgl(p q:List Int):tzl (Zhu p q (p.length-q.length+1))=Ygm p q:=by unfold Zhu Ygm;congr 1;exact Gs λi hi=>by rw [if_pos O]
def pdv(p q:List Int):Prop:=p=[]\/(q.length<=p.length/\(∀k,k<=p.length-q.length->Hd p q k)/\tzl (Pg p q (p.length-q.length+1))=[])
instance (p q:List Int) (k:Nat):Decidable (Hd p q k):=by unfold Hd;infer_instance
instance (p q:List Int):Decidable (pdv p q):=by unfold pdv;infer_instance
theorem div_b{p:List Int}{j:Nat}(n:Pa p+(p.length-q.length+1)*(Pa q+1)<=65536)(o:j<p.length-q.length+1)(h:∀k,p.length-q.length<k+j->k<=p.length-q.length->Hd p q k) :
  (∀t,bl (cf (Pg p q j) t).natAbs<=65536)/\(Hd p q (p.length-q.length-j)->bl (dq q (Pg p q j) (p.length-q.length-j)).natAbs<=65536/\(∀i,bl (dq q (Pg p q j) (p.length-q.length-j)*cf q i).natAbs<=65536)/\
   ∀t i,bl (cf (Pg p q j) t-dq q (Pg p q j) (p.length-q.length-j)*cf q i).natAbs<=65536):=by
 have d:=Zg9 p q j O h;have l:j*(Pa q+1)+(Pa q+1)<=(p.length-q.length+1)*(Pa q+1):=by rw [<-Nat.succ_mul];exact Nat.mul_le_mul_right _ O
 refine⟨λt=>by have:=d t;omega,λe=>?_⟩;unfold Hd at e;rw [show p.length-q.length-(p.length-q.length-j)=j by omega]at e;have m:bl (dq q (Pg p q j) (p.length-q.length-j)).natAbs<=Pa p+j*(Pa q+1):=Dg (Int.dvd_of_emod_eq_zero e) (d _);have g:∀i,bl (dq q (Pg p q j) (p.length-q.length-j)*cf q i).natAbs<=Pa p+j*(Pa q+1)+Pa q:=λi=>by have:=Xa (dq q (Pg p q j) (p.length-q.length-j)) (cf q i);have:=Lx q i;omega
 refine⟨O,λi=>by have:=g i;omega,λt i=>?_⟩;have:=Zaa (cf (Pg p q j) t) (dq q (Pg p q j) (p.length-q.length-j)*cf q i);have:=g i;have:=d t;omega
theorem Zyi{p:List Int}(g:Pa p+(p.length-q.length+1)*(Pa q+1)<=65536)(e:∀k,k<=p.length-q.length->Hd p q k)(j:Nat):Sz 65536 (Zhu p q j):=by
 unfold Zhu;refine Ao λt l=>?_;split
 .have d:=(div_b g (j:=p.length-q.length-t) O (λk _ h=>e k h)).2;rw [show p.length-q.length-(p.length-q.length-t)=t by omega]at d;exact(d (e t O)).1
 .simp [Lu]
def Yel{p:List Int}(d:Pa p+(p.length-q.length+1)*(Pa q+1)<=65536)(g:∀k,k<=p.length-q.length->Hd p q k):Sz 65536 (Pg p q (p.length-q.length+1)):=
 (Zg9 p q _ (Nat.le_refl _) λk _ e=>g k e).mono d
def Ml(p:List Int)(a b d:Int):Nat->List Int
 | 0=>[cf p (p.length-1)]
 | j+1=>mk ((Ml p a b d j).length+1) λt=>cf (Ml p a b d j) t*a+(if t=0 then cf p (p.length-2-j)*d^(j+1)else cf (Ml p a b d j) (t-1)*b)
def Fp(p:List Int)(a b d:Int):Ml p a b d 0=[cf p (p.length-1)]:=rfl
def Zoe(p:List Int)(a b d:Int)(j:Nat):Ml p a b d (j+1)=mk ((Ml p a b d j).length+1) (λt=>cf (Ml p a b d j) t*a+(if t=0 then cf p (p.length-2-j)*d^(j+1)else cf (Ml p a b d j) (t-1)*b)):=rfl
theorem Zct(p:List Int)(a b d:Int):∀j,(Ml p a b d j).length=j+1
 | 0=>rfl
 | j+1=>by unfold Ml;rw [Yp,Zct p a b d j]
def Ld(p:List Int)(a b d:Int):List Int:=if p.length=0 then []else tzl (Ml p a b d (p.length-1))
def Zl3(p:List Int)(a b d:Int):Prop:=p≠[]/\65536<Pa p+(p.length-1)*(Pa [a,b,d]+1)+8
instance (p:List Int) (a b d:Int):Decidable (Zl3 p a b d):=by unfold Zl3;infer_instance
def Kz(p q:List Int):List Int:=if p=[]then []else Ygm p q
def Ztm{p:List Int}(h:p≠[]):Kz p q=Ygm p q:=if_neg h
theorem Zu0{p:List Int}{j:Nat}(d:j<=p.length-q.length):Hd p q (p.length-q.length-j)↔cf (Pg p q j) (p.length-q.length-j+q.length-1)%cf q (q.length-1)=0:=by unfold Hd;rw [show p.length-q.length-(p.length-q.length-j)=j by omega]
def Zvj{x y:Int}(e:y≠0)(d:bl y.natAbs<=65536):Za5 (x%y)=x%y:=Iu (Nat.le_trans (Ybi x y e) d)
def cnx(c:List Int)(a b:Int)(i:Nat):List Int:=mk (c.length+1) λt=>if t<i then cf c t*a+(if t=0 then 0 else cf c (t-1)*b)else if t=i/\0<i then cf c (t-1)*b else 0
def Hu(c:List Int)(a b:Int)(i:Nat):(cnx c a b i).length=c.length+1:=Yp _ _
theorem Yj4(c:List Int)(a b:Int):List.replicate (c.length+1) 0=cnx c a b 0:=by rw [Zwj];unfold cnx;exact Gs λi hi=>by rw [if_neg O,if_neg O]
theorem Ya3(h:i<c.length):(cnx c a b i).getD i 0=if i=0 then 0 else cf c (i-1)*b:=by
 unfold cnx;rw [Zdw O,if_neg O];by_cases d:i=0
 .rw [if_neg O,if_pos d]
 .rw [if_pos O,if_neg d]
theorem Yoz(h:i<c.length):((cnx c a b i).set i ((cnx c a b i).getD i 0+cf c i*a)).set (i+1) (cf c i*b)=cnx c a b (i+1):=Ia (by simp [Hu]) λt g=>by
 rw [List.length_set,List.length_set,Hu]at g;rw [Zma _ _ _ _ (by rw [List.length_set,Hu];omega),Zma _ _ _ _ (by rw [Hu];omega),Ya3 h];unfold cnx;rw [Nk,Nk,if_pos g,if_pos g];by_cases d:t=i+1
 .subst d;rw [if_pos rfl,if_neg O,if_pos O,show i+1-1=i by omega]
 .rw [if_neg d];by_cases e:t=i
  .subst e;rw [if_pos rfl,if_pos (Nat.lt_succ_self t)];split<;>omega
  .rw [if_neg e];by_cases j:t<i
   .simp [j,show t<i+1 by omega]
   .simp [j,e,d,show ¬t<i+1 by omega]
theorem Zvg(h:0<c.length):(cnx c a b c.length).getD 0 0=cf c 0*a:=by unfold cnx;rw [Zdw O,if_pos h,if_pos rfl,Int.add_zero]
theorem Yo0{w:Int}(h:0<c.length):(cnx c a b c.length).set 0 ((cnx c a b c.length).getD 0 0+w)=mk (c.length+1) λt=>cf c t*a+(if t=0 then w else cf c (t-1)*b):=Ia (by simp [Hu,Yp]) λt e=>by
 rw [List.length_set,Hu]at e;rw [Zma _ _ _ _ (by rw [Hu];omega),Zvg h,Nk,if_pos e];unfold cnx;rw [Nk,if_pos e];by_cases d:t=0
 .rw [if_pos d,if_pos d,d]
 .rw [if_neg d,if_neg d,if_neg d];by_cases g:t<c.length
  .rw [if_pos g]
  .rw [if_neg g,if_pos (show t=c.length/\0<c.length by omega),Yl (i:=t) O];omega
theorem Zi5{p:List Int}{x y z:Int}{A m:Nat}(d:Sz A p)(l:bl x.natAbs<=m)(v:bl y.natAbs<=m)(n:bl z.natAbs<=m):∀j,Sz (A+j*(m+1)) (Ml p x y z j)
 | 0=>Sz.of_mem λw g=>by have g:w∈[cf p (p.length-1)]:=g;rw [List.mem_singleton.1 g];have:=d (p.length-1);omega
 | j+1=>by
  have o:=Zi5 d l v n j;unfold Ml;refine Ao λt G=>?_;have D:=Xa (cf (Ml p x y z j) t) x;have F:=o t;have e:(j+1)*(m+1)=j*(m+1)+m+1:=by rw [Nat.succ_mul];omega
  split
  .have h:=Zgt (i:=0) (j:=j+1) (d (p.length-2-j)) l n;rw [Int.pow_zero,Int.one_mul]at h;have s:(0+(j+1))*m<=j*(m+1)+m:=by rw [Nat.zero_add,Nat.succ_mul];have:j*m<=j*(m+1):=Nat.mul_le_mul_left _ O;omega
   have u:=Iv (cf (Ml p x y z j) t*x) (cf p (p.length-2-j)*z^(j+1));omega
  .have h:=Xa (cf (Ml p x y z j) (t-1)) y;have s:=o (t-1);have u:=Iv (cf (Ml p x y z j) t*x) (cf (Ml p x y z j) (t-1)*y);omega
section
variable {p:List Int} {x y z:Int} (hF:Pa p+(p.length-1)*(Pa [x,y,z]+1)+8<=65536) {j:Nat} (hj:j<p.length-1)
include hF hj
theorem cp_all:bl (z^j).natAbs<=65536/\bl (z^(j+1)).natAbs<=65536/\(∀t,bl (cf (Ml p x y z j) t).natAbs<=65536)/\(∀t,bl (cf (Ml p x y z j) t*x).natAbs<=65536)/\(∀t,bl (cf (Ml p x y z j) t*y).natAbs<=65536)/\
  (∀t,bl ((if t=0 then 0 else cf (Ml p x y z j) (t-1)*y)).natAbs<=65536)/\(∀t,bl ((if t=0 then 0 else cf (Ml p x y z j) (t-1)*y)+cf (Ml p x y z j) t*x).natAbs<=65536)/\
  bl (cf p (p.length-2-j)*z^(j+1)).natAbs<=65536/\bl (cf (Ml p x y z j) 0*x+cf p (p.length-2-j)*z^(j+1)).natAbs<=65536:=by
 have v:bl x.natAbs<=Pa [x,y,z]:=by simp only [Pa];omega
 have F:bl y.natAbs<=Pa [x,y,z]:=by simp only [Pa];omega
 have d:bl z.natAbs<=Pa [x,y,z]:=by simp only [Pa];omega
 have l:=Zi5 (Lx p) v F d j;generalize Pa [x,y,z]=m at *;have e:j*(m+1)+(m+1)<=(p.length-1)*(m+1):=by rw [<-Nat.succ_mul];exact Nat.mul_le_mul_right _ O
 have D:j*m<=j*(m+1):=Nat.mul_le_mul_left _ O;have w:=Zgt (i:=0) (j:=j+1) (Lx p (p.length-2-j)) v d;rw [Int.pow_zero,Int.one_mul,Nat.zero_add,Nat.succ_mul]at w;have o:=Eo z d (j+1) O;rw [Nat.succ_mul]at o;have n:bl (z^j).natAbs<=65536:=by
  rcases Nat.eq_zero_or_pos j with h|h
  .rw [h,Int.pow_zero];decide
  .have:=Eo z d j h;omega
 have g:∀t,bl (cf (Ml p x y z j) t*x).natAbs<=Pa p+j*(m+1)+m:=λt=>by have:=Xa (cf (Ml p x y z j) t) x;have:=l t;omega
 have s:∀t,bl (cf (Ml p x y z j) t*y).natAbs<=Pa p+j*(m+1)+m:=λt=>by have:=Xa (cf (Ml p x y z j) t) y;have:=l t;omega
 have u:∀t,bl ((if t=0 then 0 else cf (Ml p x y z j) (t-1)*y)).natAbs<=Pa p+j*(m+1)+m:=λt=>by
  split
  .simp [Lu]
  .exact s _
 refine⟨n,O,λt=>by have:=l t;omega,λt=>by have:=g t;omega,λt=>by have:=s t;omega,λt=>by have:=u t;omega,λt=>?_,O,?_⟩
 .have:=Iv (if t=0 then 0 else cf (Ml p x y z j) (t-1)*y) (cf (Ml p x y z j) t*x);have:=g t;have:=u t;omega
 .have:=Iv (cf (Ml p x y z j) 0*x) (cf p (p.length-2-j)*z^(j+1));have:=g 0;omega
end
theorem Yox{p:List Int}{x y z:Int}(hF:Pa p+(p.length-1)*(Pa [x,y,z]+1)+8<=65536):Sz 65536 (Ml p x y z (p.length-1)):=by
 have d:bl x.natAbs<=Pa [x,y,z]:=by simp only [Pa];omega
 have e:bl y.natAbs<=Pa [x,y,z]:=by simp only [Pa];omega
 have g:bl z.natAbs<=Pa [x,y,z]:=by simp only [Pa];omega
 exact(Zi5 (Lx p) d e g _).mono O
theorem Ziu(p q:List Int):(Qp p q).length<=p.length:=by
 unfold Qp;split
 .exact Nat.le_refl _
 .have:=Mx (Pb p q (p.length-q.length+1));rw [Lm]at this;exact this
theorem Zcd{p:List Int}(d:Vp p)(e:Cy p q=0):Vp (Qp p q):=by
 have g:=Ziu p q;refine⟨?_,?_,by have:=d.len;omega⟩
 .unfold Qp;split
  .exact d.sz
  .exact(Zsi ((Zdy e).2 O)).tzl
 .unfold Qp;split
  .exact d.tr
  .exact Qc _
def Zn5(p q:List Int):Prop:=p.length≠0/\q.length≠0/\65536<(max p.length q.length+2)*(max p.length q.length+2)*(max (Pa p) (Pa q)+8)
instance (p q:List Int):Decidable (Zn5 p q):=by unfold Zn5;infer_instance
def gA(p q:List Int):List Int:=if p.length<q.length then Zz q else Zz p
def gB(p q:List Int):List Int:=if p.length<q.length then Zz p else Zz q
def eok:Nat->List Int->List Int->Prop
 | 0,_,b=>b=[]
 | f+1,a,b=>b=[]\/(Cy a b=0/\eok f b (Zz (Qp a b)))
def eu:Nat->List Int->List Int->List Int
 | 0,a,_=>a
 | f+1,a,b=>if b=[]then a else eu f b (Zz (Qp a b))
theorem Yi5{f:Nat}{a b:List Int}(h:eok f a b)(d:b≠[]):∃g,f=g+1/\Cy a b=0/\eok g b (Zz (Qp a b))/\eu f a b=eu g b (Zz (Qp a b)):=by
 cases f with
 | zero=>exact absurd h d
 | succ g=>
  rcases h with h|h
  .exact absurd h d
  .exact⟨g,rfl,h.1,h.2,by show(if b=[]then a else _)=_;rw [if_neg d]⟩
theorem Zht(f:Nat)(a:List Int):eu f a []=a:=by cases f<;>rfl
def Hx(g:List Int):List Int:=if g.length≠0/\cf g (g.length-1)<0 then Zm g (-1)else g
def Mh(f:Nat)(p q:List Int):List Int:=Hx (eu f (gA p q) (gB p q))
theorem vp_gA{p:List Int}(d:Vp p)(e:Vp q):Vp (gA p q):=by unfold gA;split<;>exact Iw ‹_›
theorem vp_gB{p:List Int}(d:Vp p)(e:Vp q):Vp (gB p q):=by unfold gB;split<;>exact Iw ‹_›
theorem Zb0{p:List Int}(h:Sz 65536 p)(i:Nat):bl (cf p i * -1).natAbs<=65536:=by rw [Int.mul_neg,Int.mul_one,Int.natAbs_neg];exact h i
theorem Oc(z:Int):z.sign<0↔z<0:=by
 rcases Int.lt_trichotomy z 0 with h|h|h
 .rw [Int.sign_eq_neg_one_of_neg h];omega
 .subst h;simp
 .rw [Int.sign_eq_one_of_pos h];omega
end Go.Sky
namespace Go.Sky
variable{b k c:Nat}{xs ys:List Nat}{p:Nat->Prop}
theorem Zi4{l:List Int}(h:∀x∈l,Ng x):Sz 65536 l:=Sz.of_mem λx a=>by obtain⟨d,e⟩:=h x a;have:bl x.natAbs<=64:=(Qg 64 _).2 O;omega
open Go.RowKit (Below)
set_option maxRecDepth 20000
def Pi:2<=1000000000:=O2
def Ih:0<1000000000:=O2
abbrev Kf (v:Value) (x:Nat):Pc:=Ys 1 Hc v (dg 1000000000 x)
theorem Im(x:Nat):(dg 1000000000 x).length<=bl x:=by rw [Xp Pi];exact Nat.lt_of_lt_of_le (Dx x) (Nat.pow_le_pow_left O2 _)
theorem Zyd(a:2<=b){o:List Nat}(f:∀d∈o,d<b){x:Nat}(g:Yh b o=x)(h:o.length=0\/b^(o.length-1)<=x):o=dg b x:=by
 rw [<-g,Ic a o f];have j:(tz o).length<=o.length:=(Bb o).1;have i:o.length<=(tz o).length:=by
  rw [<-Ic a o f,g];rcases h with h|h
  .omega
  .have:=(Nh a (o.length-1) x).2 h;omega
 have e:=(Bb o).2;rw [List.take_of_length_le i]at e;exact e
theorem Yco{o:List Nat}(a:o.length=k)(h:Yh b o+c*b^k=Yh b (xs.take k)+Yh b (ys.take k)) :
  Yh b (o ++ [(c+xs.getD k 0+ys.getD k 0)%b])+(c+xs.getD k 0+ys.getD k 0)/b*b^(k+1)=Yh b (xs.take (k+1))+Yh b (ys.take (k+1)):=by
 rw [Ns,Ql,Ql,a];have e:=Nat.div_add_mod (c+xs.getD k 0+ys.getD k 0) b;generalize (c+xs.getD k 0+ys.getD k 0)/b=q at *;generalize (c+xs.getD k 0+ys.getD k 0)%b=r at *;simp only [Yh,Nat.pow_succ];generalize b^k=B at *;have:(b*q+r)*B=(c+xs.getD k 0+ys.getD k 0)*B:=by rw [e]
 grind
def d9s(a b c:Nat):Nat:=if a<b+c then a+1000000000-(b+c)else a-(b+c)
theorem Yau{a:Nat}(d:a<1000000000)(e:b<1000000000)(f:c<=1):d9s a b c<1000000000/\d9s a b c+(b+c)=a+brw a b c*1000000000:=by unfold d9s brw;split<;>omega
theorem Zwv{o:List Nat}(a:c<=1)(f:xs.getD k 0<1000000000)(g:ys.getD k 0<1000000000)(d:o.length=k)(h:Yh 1000000000 o+Yh 1000000000 (ys.take k)=Yh 1000000000 (xs.take k)+c*1000000000^k) :
  Yh 1000000000 (o ++ [d9s (xs.getD k 0) (ys.getD k 0) c])+Yh 1000000000 (ys.take (k+1))=Yh 1000000000 (xs.take (k+1))+brw (xs.getD k 0) (ys.getD k 0) c*1000000000^(k+1):=by
 rw [Ns,Ql,Ql,d];have e:=(Yau f g a).2;generalize d9s (xs.getD k 0) (ys.getD k 0) c=r at *;generalize brw (xs.getD k 0) (ys.getD k 0) c=q at *;simp only [Yh,Nat.pow_succ];generalize 1000000000^k=B at *;have:(r+(ys.getD k 0+c))*B=(xs.getD k 0+q*1000000000)*B:=by rw [e]
 grind
theorem Zmo{o:List Nat}(h:∀d∈o,p d){x:Nat}(f:p x):∀d∈o ++ [x],p d:=λd e=>by
 rcases List.mem_append.1 e with a|a
 .exact h d a
 .rw [List.mem_singleton.1 a];exact f
def Zau{x:Nat}(a:2<=b)(h:k<(dg b x).length):b^k<=x:=(Nh a k x).1 h
theorem Fd{x:Nat}(a:2<=b)(h:(dg b x).length<=k):Yh b ((dg b x).take k)=x:=by rw [Nx _ _ _ h,Mc a]
theorem Zsf{a o:Nat}(d:a<1000000000)(e:b<1000000000)(g:o<1000000000)(f:c<1000000000):(o+c+a*b)/1000000000<1000000000/\o+c+a*b<=9223372036854775807:=by have h:a*b<=999999999*999999999:=Nat.mul_le_mul O O;refine⟨?_,O⟩;rw [Nat.div_lt_iff_lt_mul Ih];omega
theorem Zv1{o:List Nat}{i V:Nat}(h:Yh 1000000000 o+c*1000000000^(i+k)=V+xs.getD i 0*1000000000^i*Yh 1000000000 (ys.take k))(d:i+k<o.length) :
  Yh 1000000000 (o.set (i+k) ((o.getD (i+k) 0+c+xs.getD i 0*ys.getD k 0)%1000000000))+(o.getD (i+k) 0+c+xs.getD i 0*ys.getD k 0)/1000000000*1000000000^(i+(k+1))=V+xs.getD i 0*1000000000^i*Yh 1000000000 (ys.take (k+1)):=by
 have a:=Zi2 1000000000 o o.length (i+k) ((o.getD (i+k) 0+c+xs.getD i 0*ys.getD k 0)%1000000000) d d;rw [List.take_of_length_le (by rw [List.length_set];exact Nat.le_refl _),List.take_of_length_le (Nat.le_refl _)]at a;rw [Ql];have e:=Nat.div_add_mod (o.getD (i+k) 0+c+xs.getD i 0*ys.getD k 0) 1000000000;generalize (o.getD (i+k) 0+c+xs.getD i 0*ys.getD k 0)/1000000000=q at *;generalize (o.getD (i+k) 0+c+xs.getD i 0*ys.getD k 0)%1000000000=r at *;generalize Yh 1000000000 (o.set (i+k) r)=W at *;rw [show i+(k+1)=(i+k)+1 by omega,Nat.pow_succ];have f:1000000000^(i+k)=1000000000^i*1000000000^k:=Nat.pow_add _ _ _;rw [f]at h a ⊢;generalize 1000000000^i=A at *;generalize 1000000000^k=B at *;have g:(1000000000*q+r)*(A*B)=(o.getD (i+k) 0+c+xs.getD i 0*ys.getD k 0)*(A*B):=by rw [e]
 simp only [Nat.add_mul]at g;have t1:q*(A*B*1000000000)=1000000000*q*(A*B):=O4;have t2:xs.getD i 0*A*(Yh 1000000000 (ys.take k)+ys.getD k 0*B)=xs.getD i 0*A*Yh 1000000000 (ys.take k)+xs.getD i 0*ys.getD k 0*(A*B):=O4;rw [t1,t2];omega
def Ziz(x y:Nat):Int:=if x<y then -1 else if y<x then 1 else 0
section
variable {P:Program} {N:Nat} {sc:Nat->Prop} {env env':Ph} {H H':Hp} {Q Q':Exit->Act->World->Prop} {M:Nat->Prop}
variable {o:Oper} {t t':TypeId} {x y:Operand} {m n:Nat}
theorem Zf4(a:o.op= .binOp .add t x y t')(d:ev env x=some (.int .i64 (m:Int)))(e:ev env y=some (.int .i64 (n:Int)))(h:m+n<=9223372036854775807):Mo P N sc o env H (.int .i64 ((m+n:Nat):Int)):=by have:=Yjr (P:=P) (N:=N) (sc:=sc) (H:=H) a d e ;rwa [<-Int.natCast_add]at this
theorem n_mul(a:o.op= .binOp .mul t x y t')(d:ev env x=some (.int .i64 (m:Int)))(e:ev env y=some (.int .i64 (n:Int)))(h:m*n<=9223372036854775807):Mo P N sc o env H (.int .i64 ((m*n:Nat):Int)):=by have:=d_mul (P:=P) (N:=N) (sc:=sc) (H:=H) a d e (by rw [<-Int.natCast_mul];exact⟨O,O⟩);rwa [<-Int.natCast_mul]at this
theorem Zk4(a:o.op= .binOp .quo t x y t')(d:ev env x=some (.int .i64 (m:Int)))(e:ev env y=some (.int .i64 (n:Int)))(h:m<=9223372036854775807)(f:0<n):Mo P N sc o env H (.int .i64 ((m/n:Nat):Int)):=by have:=Zee (P:=P) (N:=N) (sc:=sc) (H:=H) a d e   ;rwa [<-Int.natCast_ediv]at this
theorem Zt1(a:o.op= .binOp .rem t x y t')(d:ev env x=some (.int .i64 (m:Int)))(e:ev env y=some (.int .i64 (n:Int)))(f:0<n):Mo P N sc o env H (.int .i64 ((m%n:Nat):Int)):=by have:=Zl1 (P:=P) (N:=N) (sc:=sc) (H:=H) a d e  ;rwa [<-Int.natCast_emod]at this
end
end Go.Sky
namespace Go.Sky
variable{b a r k:Nat}{q:List Nat}
theorem Zcz{l:List Nat}{i:Nat}(h:l.length<=i):l.getD i 0=0:=by simp [List.getD,List.getElem?_eq_none h]
theorem Zuz{x y:Nat}(d:2<=b)(h:x<=y):(dg b x).length<=(dg b y).length:=by
 rcases Nat.lt_or_ge (dg b y).length (dg b x).length with c|c
 .have:=Za2 d c;omega
 .exact c
theorem Yjf{n:Nat}(c:2<=b)(h:n<b)(d:n≠0):dg b n=[n]:=by rw [Zbx c O,Nat.mod_eq_of_lt h,Nat.div_eq_of_lt h,Gl]
theorem Ylr(c:2<=b)(f:a<b):tz (a::dg b r)=dg b (r*b+a):=by
 have h:∀d∈a::dg b r,d<b:=λd e=>by
  rcases List.mem_cons.1 e with rfl|e
  .exact f
  .exact Ni c r d e
 rw [<-Ic c _ h];congr 1;simp only [Yh,Mc c];rw [Nat.mul_comm];omega
theorem Zvi : Ziz a b<0↔a<b:=by unfold Ziz;split<;>(try split)<;>omega
theorem Ya4 : Ziz a b<=0↔a<=b:=by unfold Ziz;split<;>(try split)<;>omega
theorem Ya5 : 0<=Ziz a b↔b<=a:=by unfold Ziz;split<;>(try split)<;>omega
theorem Zwr{x:Nat}(c:0<k):x/1000000000^k*1000000000+x/1000000000^(k-1)%1000000000=x/1000000000^(k-1):=by
 have h:x/1000000000^k=x/1000000000^(k-1)/1000000000:=by rw [Nat.div_div_eq_div_mul,<-Nat.pow_succ,show(k-1).succ=k by omega]
 rw [h,Nat.mul_comm];exact Nat.div_add_mod _ _
theorem over_Q{y:Nat}(c:r<y)(d:a<1000000000):(r*1000000000+a)/y<1000000000:=by rw [Nat.div_lt_iff_lt_mul O];have:(r+1)*1000000000<=y*1000000000:=Nat.mul_le_mul_right _ c;rw [Nat.mul_comm 1000000000];omega
theorem bl_m30{y m:Nat}(h:bl m<=30):bl (y*m)<=bl y+30:=by have:=Zmf y m;omega
theorem Yps{y:Nat}(f:r<y)(g:a<1000000000):bl (r*1000000000+a)<=bl y+30:=by
 have c:r*1000000000+a<y*1000000000:=by have:(r+1)*1000000000<=y*1000000000:=Nat.mul_le_mul_right _ f;omega
 have d:=Og (Nat.le_of_lt c);have e:=bl_m30 (y:=y) (m:=1000000000) ((Qg 30 _).2 O);exact Nat.le_trans d e
theorem Ykj{y n:Nat}(e:n<1000000000):bl (y*n)<=bl y+30:=by have c:=Zmf y n;have d:bl n<=30:=(Qg 30 _).2 O;omega
theorem Zgi{d:Nat}(c:0<k)(h:k<=q.length):Yh 1000000000 ((q.set (k-1) d).drop (k-1))=d+1000000000*Yh 1000000000 (q.drop k):=by rw [drop_set _ _ _ O,show k-1+1=k by omega];rfl
theorem Ydh(d:0<k)(h:k<=q.length)(c:q.getD (k-1) 0=0):Yh 1000000000 (q.drop (k-1))=1000000000*Yh 1000000000 (q.drop k):=by rw [Zcy 0 q (k-1) O,c,show k-1+1=k by omega];simp [Yh]
theorem Zse{m:Nat}(h:m<9223372036854775809):tz [m%1000000000,m/1000000000%1000000000,m/1000000000/1000000000]=dg 1000000000 m:=by rw [<-Ic Pi [m%1000000000,m/1000000000%1000000000,m/1000000000/1000000000] (by intro d c;simp at c;omega)];congr 1;simp only [Yh];omega
theorem sign9{x:Int}(h:(((dg 1000000000 x.natAbs).length:Nat):Int)=0):Value.int .i64 x.sign= .int .i64 0:=by have c:=(Pw Pi x.natAbs).1 O;have:x=0:=O;subst this;rfl
theorem Zli{x:Nat}(h:¬(((dg 1000000000 x).length:Nat):Int)=0):0<x:=by
 rcases Nat.eq_zero_or_pos x with c|c
 .subst c;simp [Gl]at h
 .exact c
theorem Yhs{s:Bool}{n:Nat}{z:Int}(c:n=z.natAbs)(hs:sg s z):(s && decide (0<n))=decide (z<0):=by
 subst c;cases s
 .have:=hs.2 rfl;rw [Bool.false_and,decide_eq_false O]
 .have:=hs.1 rfl;rw [Bool.true_and,decide_eq_decide];omega
theorem Zud(n:Nat):decide ((0:Int)<(((dg 1000000000 n).length:Nat):Int))=decide (0<n):=by rw [decide_eq_decide];have:=Pw Pi n;omega
theorem Ypv{a b:Bool}(h:(a == b)=true):a=b:=by simpa using h
theorem Yl0{x y:Int}(c:y≠0):(x-x.tdiv y*y=x.tmod y):=by have:=Int.tmod_add_mul_tdiv x y;have e:x.tdiv y*y=y*x.tdiv y:=Int.mul_comm _ _;omega
def Zj6(x y:Int):x.natAbs/y.natAbs=(x.tdiv y).natAbs:=(Int.natAbs_tdiv x y).symm
theorem Ymf(x y:Int):sg (decide (x<0) != decide (y<0)) (x.tdiv y):=by
 have e:∀a b:Int,0<=a->0<=b->0<=a.tdiv b:=λa b i j=>Int.tdiv_nonneg i j;rcases Int.lt_or_le x 0 with h|h<;>rcases Int.lt_or_le y 0 with d|d
 .have c:=e (-x) (-y) O O;rw [Int.neg_tdiv,Int.tdiv_neg]at c;simp only [sg,h,d,decide_true,bne_self_eq_false];exact⟨λh=>Bool.noConfusion h,λ_=>O⟩
 .have c:=e (-x) y O d;rw [Int.neg_tdiv]at c;have:¬y<0:=O;simp [sg,h,this];omega
 .have c:=e x (-y) h O;rw [Int.tdiv_neg]at c;have:¬x<0:=O;simp [sg,d,this];omega
 .have c:=e x y h d;have f:¬x<0:=O;have g:¬y<0:=O;simp [sg,f,g];exact c
theorem Zj5(x:Int){y:Int}(c:y≠0):(x.tmod y).natAbs<y.natAbs:=by rw [Int.natAbs_tmod];exact Nat.mod_lt _ O
theorem Ym1{x y:Int}(f:0<y)(h:x.tmod y<0):x/y=x.tdiv y-1/\x%y=x-(x.tdiv y-1)*y:=by
 have c:=Zj5 x (show y≠0 by omega);have d:=Int.tmod_add_mul_tdiv x y;have e:(x.tdiv y-1)*y=y*x.tdiv y-y:=by rw [Int.sub_mul,Int.mul_comm];omega
 have:=Zdx (x:=x) (y:=y) (q:=x.tdiv y-1) (r:=x-(x.tdiv y-1)*y) O (by rw [Int.mul_comm y];omega) O O;exact this
theorem Ym2{x y:Int}(f:y<0)(h:x.tmod y<0):x/y=x.tdiv y+1/\x%y=x-(x.tdiv y+1)*y:=by
 have c:=Zj5 x (show y≠0 by omega);have d:=Int.tmod_add_mul_tdiv x y;have e:(x.tdiv y+1)*y=y*x.tdiv y+y:=by rw [Int.add_mul,Int.mul_comm];omega
 have:=Zdx (x:=x) (y:=y) (q:=x.tdiv y+1) (r:=x-(x.tdiv y+1)*y) O (by rw [Int.mul_comm y];omega) O O;exact this
theorem Ygg{x y:Int}(c:y≠0)(h:¬x.tmod y<0):x/y=x.tdiv y/\x%y=x.tmod y:=by have d:=Zj5 x c;have e:=Int.tmod_add_mul_tdiv x y;exact Zdx c O O O
theorem Ypq(x y:Int):bl (x.tdiv y).natAbs<=bl x.natAbs:=by rw [Int.natAbs_tdiv];exact Og (Nat.div_le_self _ _)
theorem Zxy(x y:Int):bl (x.tdiv y*y).natAbs<=bl x.natAbs:=by rw [Int.natAbs_mul,Int.natAbs_tdiv];exact Og (Nat.div_mul_le_self _ _)
section
variable {P:Program} {N:Nat} {sc:Nat->Prop} {env env':Ph} {H H':Hp} {Q Q':Exit->Act->World->Prop} {M:Nat->Prop}
variable {o:Oper} {t t':TypeId} {x y:Operand} {m n:Nat}
theorem Zwu(e:o.op= .binOp .quo t x y t')(g:ev env x=some (.int .i64 (-(m:Int))))(i:ev env y=some (.int .i64 (n:Int)))(h:m<=9223372036854775808)(d:1<n):Mo P N sc o env H (.int .i64 (-((m/n:Nat):Int))):=Fo e g i λw=>by
 have c:(-(m:Int)).tdiv (n:Int)=-((m/n:Nat):Int):=by rw [Int.neg_tdiv,Int.ofNat_tdiv]
 have j:m/n<=9223372036854775807:=by have:=Nat.div_le_div_left (show 2<=n from d) (by omega:0<2) (a:=m);omega
 generalize m/n=q at *;have f:Ng (-(q:Int)):=⟨O,O⟩;simp [binOp,Op.intDiv,c,Zbb f];omega
theorem Yhe(d:o.op= .binOp .rem t x y t')(e:ev env x=some (.int .i64 (-(m:Int))))(f:ev env y=some (.int .i64 (n:Int)))(g:0<n):Mo P N sc o env H (.int .i64 (-((m%n:Nat):Int))):=Fo d e f λw=>by
 have c:(-(m:Int)).tmod (n:Int)=-((m%n:Nat):Int):=by rw [Int.neg_tmod,Int.ofNat_tmod]
 simp [binOp,Op.intDiv,c];omega
theorem Yhi(c:o.op= .unOp .neg t x)(e:ev env x=some (.int .i64 (-(m:Int))))(h:m<=9223372036854775807):Mo P N sc o env H (.int .i64 (m:Int)):=λa w hs=>by have d:Ng (m:Int):=⟨O,O⟩;simp [execOp,c,hs.ev e,Op.unary,Op.intArith,Zbb d]
end
end Go.Sky
namespace Go.Sky
variable{p:Pc}{k m i:Nat}{r:List Pc}{bs ts ks:List Nat}{x y:Operand}{v u:Value}{ops:Array Oper}{listed:Array Bool}{zs:List (Int×SL)}{z:Int×SL}{o:Oper}{t:TypeId}{w0:World}{M0:Nat->Prop}
theorem Ylw{p xs:List Nat}{r:Nat}(b:0<k)(c:k<=p.length)(d:k<=xs.length)(a:Yh 1000000000 (p.drop k)*256+r=Yh 1000000000 (xs.drop k)) :
  Yh 1000000000 ((p.set (k-1) ((r*1000000000+xs.getD (k-1) 0)/256)).drop (k-1))*256+(r*1000000000+xs.getD (k-1) 0)%256=Yh 1000000000 (xs.drop (k-1)):=by
 rw [Zgi b c,Zcy 0 xs (k-1) O,show k-1+1=k by omega];simp only [Yh];have e:=Nat.div_add_mod (r*1000000000+xs.getD (k-1) 0) 256;generalize (r*1000000000+xs.getD (k-1) 0)/256=q at *;generalize (r*1000000000+xs.getD (k-1) 0)%256=s at *;generalize Yh 1000000000 (p.drop k)=A at *;generalize Yh 1000000000 (xs.drop k)=B at *;rw [<-a,Nat.add_mul,Nat.mul_add,Nat.mul_assoc 1000000000 A 256];generalize 1000000000*(A*256)=Z;clear a;omega
theorem Yec{r a:Nat}(d:r<256)(c:a<1000000000):(r*1000000000+a)/256<1000000000:=by
 have h:r*1000000000+a<256*1000000000:=by have b:r*1000000000<=255*1000000000:=Nat.mul_le_mul_right _ O;omega
 exact Nat.div_lt_of_lt_mul h
theorem Ylx{n:Nat}(a:Yh 256 bs+256^bs.length*m=n):Yh 256 (bs ++ [m%256])+256^(bs ++ [m%256]).length*(m/256)=n:=by rw [Ns,List.length_append];simp only [Yh,List.length_cons,List.length_nil,Nat.pow_succ,Nat.zero_add,Nat.mul_zero,Nat.add_zero,Nat.pow_zero,Nat.mul_one];have e:=Nat.div_add_mod m 256;generalize m/256=q at *;generalize m%256=s at *;rw [<-a,<-e];generalize 256^bs.length=P at *;grind
theorem to_ge{n:Nat}(b:Yh 256 bs+256^bs.length*m=n)(a:0<m):256^bs.length<=n:=by have:=Nat.le_mul_of_pos_right (256^bs.length) a;omega
theorem to_len{n:Nat}(h:256^bs.length<=n):bs.length<=bl n:=by have a:=Zau (b:=256) (x:=n) (k:=bs.length) O ((Nh O _ _).2 h);have c:=(Nh (by omega:2<=256) bs.length n).2 h;have d:=Zlj n;omega
theorem Yjb(a:0<k)(h:k<=bs.length):(bs.drop k).reverse ++ [bs.getD (k-1) 0]=(bs.drop (k-1)).reverse:=by rw [Zcy 0 bs (k-1) O,show k-1+1=k by omega];simp
theorem Ypl{n:Nat}(h:bs=dg 256 n):(⟨((bs.drop 0).reverse.map UInt8.ofNat).toArray⟩:ByteArray)=Qh n:=by rw [h,List.drop_zero];rfl
def Zti(a b:Int):Prop:=65536<bl a.natAbs\/65536<bl b.natAbs
instance (a b:Int):Decidable (Zti a b):=by unfold Zti;infer_instance
def qn(a b:Int):Int:=if Zti a b then 0 else a
def qd(a b:Int):Int:=if Zti a b then 0 else b
def qe(a b:Int):Int:=if Zti a b then 7 else 0
def Ynu{x y:Int}(h:¬y<0):Le x y=(Int.gcd x y:Int):=if_neg h
def Zju(x y:Int):bl ((Int.gcd x y:Int)).natAbs<=max (bl x.natAbs) (bl y.natAbs):=Zrr _ _
open Go.RowKit (Below)
variable {P:Program} {N:Nat} {sc:Nat->Prop} {env env':Ph} {H H':Hp} {Q Q':Exit->Act->World->Prop} {M:Nat->Prop}
abbrev Zxe (w:Bool×ByteArray):Value:= .agg #[.bool w.1,.string w.2]
abbrev Gk (z:Int×SL):Value:= .agg #[.bool (decide (z.1<0)),Xi z.2]
abbrev Nq {α:Type} (z:SL×α):Value:=Xi z.1
abbrev qI (z:Int×SL):Pc:=Kf (Xi z.2) z.1.natAbs
abbrev pp (v:Value) (zs:List (Int×SL)):Pc:=Xt 2 Gk qI v zs
abbrev Zr (zs:List (Int×SL)):List Int:=zs.map Prod.fst
abbrev I0:Int×SL:=(0,none,0,0)
def Xk(zs:List (Int×SL)):(Zr zs).length=zs.length:=O7
theorem Mw(zs:List (Int×SL))(i:Nat):(zs.getD i I0).1=cf (Zr zs) i:=by simp only [cf,List.getD,Zr,List.getElem?_map];cases zs[i]?<;>rfl
theorem Ztl{β:Type}{enc:β->Value}{q:β->Pc}{zs:List β}{al:Bool}{z:β}(i:Nat)(hi:lk H i=some (Xt k enc q v zs))(a:Nat.beq i 0=false)(c:z∈zs)(h:PreOk H al r):PreOk H al (q z::r):=
 ⟨⟨i,_,λe=>by subst e;simp at a,hi,λw h=>h.2 z c,λb d=> .inr ⟨z,c,d⟩,λ_=>rfl⟩,h⟩
theorem Ydb{β:Type}{enc:β->Value}{q:β->Pc}{zs:List β}{z:β}(i:Nat)(hi:lk H i=some (Xt k enc q v zs))(a:Nat.beq i 0=false)(c:z∈zs)(f:(q z).own=false)(h:Give H true r):Give H true (q z::r):=
 ⟨⟨f,.inl ⟨i,_,λe=>by subst e;simp at a,hi,λw h=>h.2 z c,λb d=> .inr ⟨z,c,d⟩,λh=>by cases h⟩⟩,h⟩
theorem Yce{β:Type}{enc:β->Value}{q:β->Pc}{zs:List β}(i j n:Nat)(hi:lk H i=some (Xt k enc q v zs))(d:Nat.beq i 0=false)(f:n<=zs.length):∀a w,Sat N sc env H a w->Sat N sc env ((j,Xt k enc q (Kn v n) (zs.take n))::H) a w:=
 Zd6 i j hi d rfl (λw h=>⟨⟨Zdg n f h.1.1,λb c=>h.1.2 b (Zlr c)⟩,λz e=>h.2 z (List.mem_of_mem_take e)⟩) (λb c=>by
  rcases c with c|⟨z,e,c⟩
  .exact .inl (Zlr c)
  .right;exact⟨z,List.mem_of_mem_take e,c⟩) rfl
theorem Yk4{n:Nat}{α:Type}{p:α->Prop}(b:∀a w,Sat N sc env H a w->∃x,p x)(h:∀x,p x->A P N sc M ops ts Q n listed env H):A P N sc M ops ts Q n listed env H:=λa w hs=>by obtain⟨x,c⟩:=b a w hs;exact h x c a w hs
theorem Zbk(i:Nat):∀a w,Sat N sc env H a w->Sat N sc env ((i,pp (.slice none 0 0) [])::H) a w:=λa w hs=>
 hs.add i _ ⟨Zay 2 Gk w,λz d=>by cases d⟩ (λf g _ _ Lp b c e=>by
  rcases c with c|⟨z,d,_⟩
  .exact absurd rfl c.1
  .cases d) (λb c=>by
  rcases c with c|⟨z,d,_⟩
  .exact absurd rfl c.1
  .cases d)
theorem Zur{β:Type}{enc:β->Value}{q:β->Pc}{zs:List β}(i:Nat)(hi:lk H i=some (Xt k enc q v zs)):∀a w,Sat N sc env H a w->Kn v zs.length=v:=λa w hs=>by obtain⟨b,c,h,_⟩:=(hs.hold i _ hi).1.1;rw [h];rfl
theorem Zg6(zs:List (Int×SL))(k:Nat):Zr (zs.take k)=(Zr zs).take k:=by simp [Zr,List.map_take]
def Na{al:Bool}(i:Nat)(hi:lk H i=some (pp v zs))(a:Nat.beq i 0=false)(b:z∈zs)(h:PreOk H al r):PreOk H al (Kf (Xi z.2) z.1.natAbs::r):=Ztl (q:=qI) (z:=z) i hi a b h
theorem Yn4(i:Nat)(hi:lk H i=some (pp v zs))(a:Nat.beq i 0=false)(c:z∈zs)(b:Kf (Xi z.2) z.1.natAbs=p)(h:Give H true r):Give H true (p::r):=by subst b;exact Ydb (q:=qI) (z:=z) i hi a c rfl h
theorem t_appM {α:Type}   {e:TypeId} {i2 j by_ d:Nat}  {enc:α->Value} {xs ys:List α}  {ti:TypeInfo} {z:Value}  
  (ho:o.op= .call { callee:= .builtin .append,args:=#[x,y],argTypes:=#[t,t] }) (hd:o.dst=some d) (hN:Nat.blt d N=true)
  (hx:ev env x=some v) (hy:ev env y=some u) (hH:lk H i=some (Oe k e enc v xs)) (a3:i≠0) (hj:lk H j=some p) (hr:Rd p k enc u ys) (b0:ys≠[])
  (ht:P.underlying t=some (.slice e)) (hi:P.info? e=some ti) (hz:ti.zero=some z) (n:Enc P e k enc) (a4:ti.size=k) (a1:ti.bytes=by_) (b1:z.cells.size=k)
  (h:(xs.length+ys.length)*by_<=140737488355328) (s:0<by_)
  (h0:lk H 0=some (Yo w0 M0)) (hw:∀b,w0.heap.size<=b->sc b) (hM:∀b,(Oe k e enc v xs).fp b->M b) :
  T P N sc M o env H (G:=Value) (λ_=>True) (λv'=>(d,v')::env) (λv'=>(i,Oe k e enc v' (xs ++ ys))::H):=λa w hs K Q hK=>by
 have R:w.ownsRow 0 e k v xs.length (cellsOf enc xs):=hs.hold i _ hH;obtain⟨ad,c,rfl,h1,h2,Y⟩:=hr w (hs.hold j p hj);rcases Y with rfl|⟨g,V,rfl,Y⟩
 .exact absurd rfl b0
 have a9:∀q u,(cellsOf enc ys)[q]? = some u->w.cell? ((⟨g,V,none⟩:Addr).add q)=some u:=λq u hq=>by
  have a5:q<ys.length*k:=by rw [<-Xc n.cells ys];exact(List.getElem?_eq_some_iff.1 hq).1
  have F:=n.pos;have a2:q/k<ys.length:=Nat.div_lt_of_lt_mul (by rw [Nat.mul_comm];exact a5);have l:ys[q/k]? = some ys[q/k]:=List.getElem?_eq_getElem a2;have a7:q%k<(enc ys[q/k]).cells.toList.length:=by rw [Array.length_toList,n.cells];exact Nat.mod_lt _ F
  have W:=List.getElem?_eq_getElem a7;have Z:=Hy n.cells ys _ _ l _ _ W;have h5:=Y _ _ l _ _ W;have I:q/k*k+q%k=q:=by rw [Nat.mul_comm];exact Nat.div_add_mod q k
  rw [I]at Z;rw [Nat.add_assoc,I]at h5;rw [hq]at Z;cases Z;rw [Py];exact h5
 have D:∀u∈cellsOf enc ys,u.oneCell'=true:=λu W=>by obtain⟨y,_,hy⟩:=List.mem_flatMap.1 W;exact n.one y u hy
 have b2:xs.length+ys.length<=140737488355328:=Nat.le_trans (Nat.le_mul_of_pos_right _ s) h;obtain⟨v',w',S,a6,f,a0⟩:=Zd8 (P:=P) t o.type e ti z k by_ ht hi hz a4 a1 b1 n.pos v xs.length (cellsOf enc xs) R ⟨g,V,none⟩ ys.length c (cellsOf enc ys)
  (Xc n.cells ys) a9 D (by simp only [maxLen];omega) h
 have a8:(execOp a.eval o).run P w= .ok (.value v') w':=by simp only [execOp,ho,resolve,invoke,builtin,Sem.run_bind,Sem.run_pure,Result.andThen_ok,List.map_toArray,List.map_cons,List.map_nil,hs.ev hx,hs.ev hy,S]
 unfold Oper.wp;rw [a8];show K (a.put o.dst _) _;rw [hd];have B:Chg (λb=>v.ownBlock=some b) w w':=⟨f.os,f.tape,f.output,f.size,λb h hn=>f.block b h (λe=>hn e.symm)⟩;refine hK v' _ _ trivial ((hs.upd hH rfl a3 (q:=Oe k e enc v' (xs ++ ys)) B ?_ (λb h=>a0 b h) h0 hw).put d _ hN) ⟨f.os,f.tape,f.output,f.size,λb h hn=>f.block b h (λe=>hn (hM b e.symm))⟩;show w'.ownsRow 0 e k v' (xs ++ ys).length (cellsOf enc (xs ++ ys));rw [Ie,List.length_append];exact a6
theorem Zoq {α:Type}   {e:TypeId} {j by_ d:Nat}  {enc:α->Value} {xs ys:List α}  {ti:TypeInfo} {z:Value}  
  (ho:o.op= .call { callee:= .builtin .append,args:=#[x,y],argTypes:=#[t,t] }) (hd:o.dst=some d) (hN:Nat.blt d N=true)
  (hx:ev env x=some v) (hy:ev env y=some u) (Y:lk H i=some (Oe k e enc v xs)) (F:i≠0) (hj:lk H j=some p) (hr:Rd p k enc u ys)
  (ht:P.underlying t=some (.slice e)) (hi:P.info? e=some ti) (hz:ti.zero=some z) (he:Enc P e k enc) (a2:ti.size=k) (a1:ti.bytes=by_) (a4:z.cells.size=k)
  (Z:(xs.length+ys.length)*by_<=140737488355328) (B:0<by_)
  (h0:lk H 0=some (Yo w0 M0)) (hw:∀b,w0.heap.size<=b->sc b) (hM:∀b,(Oe k e enc v xs).fp b->M b) :
  T P N sc M o env H (G:=Value) (λ_=>True) (λv'=>(d,v')::env) (λv'=>(i,Oe k e enc v' (xs ++ ys))::H):=by
 by_cases S:ys=[]
 .subst S;intro a w hs K Q hK;have h:w.ownsRow 0 e k v xs.length (cellsOf enc xs):=hs.hold i _ Y;obtain⟨V,c,rfl,h1,h2,h3⟩:=hr w (hs.hold j p hj);have I:∃l n s,v= .slice l n s/\n=xs.length/\n<=s:=by
   rcases h.2 with⟨rfl,hn⟩|⟨g,W,a5,rfl,_,_,f,_⟩
   .exact⟨none,0,0,rfl,hn.symm,Nat.le_refl _⟩
   .exact⟨_,_,W,rfl,rfl,f⟩
  obtain⟨l,n,s,rfl,rfl,f⟩:=I;have R:(Builtin.append_ #[t,t] o.type #[.slice l xs.length s,.slice V ([]:List α).length c]).run P w= .ok (.slice l xs.length s) w:=by
   have D:(Builtin.firstCells ti.size 0 (.slice V 0 c)).run P w= .ok #[] w:=by
    cases V with
    | none=>rfl
    | some q=>simp [Builtin.firstCells,loadCells,loadCellsFrom]
   cases l with
   | none=>simp [Builtin.append_,run_underlying ht,sizeOf,typeInfo,hi,Builtin.lenOf,D,f]
   | some q=>simp [Builtin.append_,run_underlying ht,sizeOf,typeInfo,hi,Builtin.lenOf,D,f,storeCells]
  have a3:(execOp a.eval o).run P w= .ok (.value (.slice l xs.length s)) w:=by simp only [execOp,ho,resolve,invoke,builtin,Sem.run_bind,Sem.run_pure,Result.andThen_ok,List.map_toArray,List.map_cons,List.map_nil,hs.ev hx,hs.ev hy,R]
  unfold Oper.wp;rw [a3];show K (a.put o.dst _) _;rw [hd];refine hK _ _ _ trivial ((Sat.upd hs Y rfl F (q:=Oe k e enc (.slice l xs.length s) (xs ++ [])) (Chg.refl _ w) ?_ (λb Z=> .inl Z) h0 hw).put d _ hN) (Chg.refl _ w);rw [List.append_nil];exact h
 .exact t_appM (i2:=0) ho hd hN hx hy Y F hj hr S ht hi hz he a2 a1 a4 Z B h0 hw hM
theorem Zv3  {G:Type} {φ:G->Prop} {c:G->Ph} {g:G->Hp} {d:Hp}   (i:Nat) (hi:lk H i=some p) (F:p.own=true) (D:ks.all (λk=>!Nat.beq k i)=true) (n:Agr d H ks)
  (h:(∀b,p.fp b->Off d ks b)->T P N sc (Off d ks) o env H φ c g):T P N sc (Off d ks) o env H φ c g:=λa w hs=>
 h (λb s k j q l B=>by
  rw [<-n.mem k j]at l;have f:i≠k:=λe=>by subst e;have:=List.all_eq_true.1 D i j;simp at this
  exact hs.sep i k p q f hi l F b s B) a w hs
def eaf(v:Value)(i k q:Nat):Addr:=(ead v i k).add q
theorem Lh {α:Type}    {f:Nat} {fs:Array Field} {b:Field} {G ii q:Nat}   {enc:α->Value} {xs:List α} (s:o.op= .fieldAddr t x f)
  (h:ev env x=some (.pointer (some (ead v i k)))) (j:lk H ii=some p) (D:Rd p k enc v xs) (F:P.underlying t=some (.struct fs)) (l:fs[f]? = some b) (n:∀w,(sizeOf b.type).run P w= .ok (G+1) w) (B:b.offset=q) (d:i<xs.length:=by omega) :
  Mo P N sc o env H (.pointer (some (eaf v i k q))):=λa w hs=>by
 obtain⟨R,c,rfl,S,V,e⟩:=D w (hs.hold ii p j);rcases e with rfl|⟨g,I,rfl,e⟩
 .simp at d
 .subst B;simp only [ead,Py]at h;simp [execOp,s,hs.ev h,Instr.fieldAt,run_underlying F,l,Instr.sureAddr,fieldPlace,n,Py,eaf,ead]
theorem Lr {α:Type}    {ii q:Nat}   {enc:α->Value} {xs:List α} (e:α) (n:o.op= .load t x)
  (f:ev env x=some (.pointer (some (eaf v i k q)))) (j:lk H ii=some p) (s:Rd p k enc v xs) (l:∀w,(isAgg t).run P w= .ok false w) (B:(enc (xs.getD i e)).cells.toList[q]? = some u) (b:i<xs.length:=by omega):Mo P N sc o env H u:=λa w hs=>by
 obtain⟨F,c,rfl,G,I,d⟩:=s w (hs.hold ii p j);rcases d with rfl|⟨g,D,rfl,d⟩
 .simp at b
 .have hi:xs[i]? = some (xs.getD i e):=by simp [List.getD,List.getElem?_eq_getElem b]
  have h:=d i _ hi q u B;simp only [eaf,ead,Py]at f;simp [execOp,n,hs.ev f,Instr.loadAt,Instr.sureAddr,loadVar,l,load,Sem.run,h]
end Go.Sky
namespace Go.Sky
variable{o:Oper}{r pre:List Pc}{f:FuncId}{xs:List Operand}{vs us fs:List Value}{a:Act}{w:World}{c x:Operand}{ats:Array TypeId}{M0:Nat->Prop}{b:Nat}{t:TypeId}{cs:Array Value}
abbrev rq (z:Int×Int):Value:= .agg #[.bool (decide (z.1<0)),.string (Qh z.1.natAbs),.bool (decide (z.2<0)),.string (Qh z.2.natAbs)]
abbrev encQ (z:(Bool×ByteArray)×(Bool×ByteArray)):Value:= .agg #[.bool z.1.1,.string z.1.2,.bool z.2.1,.string z.2.2]
def Yz{P:Program}{N:Nat}{sc:Nat->Prop}{env:Ph}{H:Hp}{r r':Value}(h:Mo P N sc o env H r)(e:r=r'):Mo P N sc o env H r':=e▸h
open Go.RowKit (Below)
variable {P:Program} {N:Nat} {sc:Nat->Prop} {env env':Ph} {H H':Hp} {Q Q':Exit->Act->World->Prop} {M:Nat->Prop}
theorem Zu5{ys:List Operand}(g:o.op= .makeFunc (.func f) xs.toArray ys.toArray)(i:EvL env xs vs)(h:EvL env ys us):Mo P N sc o env H (.func (.func f) vs.toArray us.toArray):=λa w hs=>by have d:=i.map hs;have e:=h.map hs;simp [execOp,g,Instr.makeFunc,d,e]
theorem Zd7   (hs:Sat N sc env H a w)       (h:o.op= .call { callee:= .value c,args:=xs.toArray,argTypes:=ats })
  (e:ev env c=some (.func (.func f) fs.toArray us.toArray)) (d:EvL env xs vs):(execOp a.eval o).run P w=(callFunc f (fs ++ vs ++ us).toArray).run P w:=by
 have g:=d.map hs;simp [execOp,h,resolve,invoke,hs.ev e,Deferred.ofValue,g]
theorem Zyh      {d n:Nat}   {al:Bool} {G:Type} {φ:G->Prop} {Yh:G->Value} {k:G->List Pc} {w0:World} 
  (z:Cal P f (fs ++ vs ++ us).toArray pre al φ Yh k)
  (D:o.op= .call { callee:= .value c,args:=xs.toArray,argTypes:=ats }) (p:ev env c=some (.func (.func f) fs.toArray us.toArray)) (B:o.dst=some d) (y:Nat.blt d N=true)
  (h:EvL env xs vs) (e:∀args w,(callFunc f args).run P w= .ok (.enter f args) w) (j:PreOk H al pre)
  (s:lk H 0=some (Yo w0 M0)) (I:∀b,w0.heap.size<=b->sc b) :
  T P N sc M o env H φ (λg=>(d,Yh g)::env) (λg=>adds n (k g) H):=λa w hs K Q u=>by
 have F:(execOp a.eval o).run P w= .ok (.enter f (fs ++ vs ++ us).toArray) w:=by rw [Zd7 hs D p h,e]
 let o2:Oper:={ o with op:= .call { callee:= .value (.func f),args:=((fs ++ vs ++ us).map Operand.const).toArray,argTypes:=ats } };have i:∀l:List Value,EvL env (l.map Operand.const) l:=λl=>by
  induction l with
  | nil=>trivial
  | cons v r R=>exact⟨rfl,R⟩
 have q:(execOp a.eval o2).run P w= .ok (.enter f (fs ++ vs ++ us).toArray) w:=by rw [Ik hs (o:=o2) rfl (i _),e]
 have m:o2.wp P a w K Q:=Qj (n:=n) (M:=M) z (o:=o2) rfl B y (i _) e j s I a w hs K Q u;unfold Oper.wp at m ⊢;rw [q]at m;rw [F];exact m
theorem Zhj(i:Nat)(hi:lk H i=some (box b t cs))(d:Nat.beq i 0=false)(h:PreOk H false r):PreOk H false (Kl b t cs::r):=
 ⟨⟨i,_,λe=>by subst e;simp at d,hi,λw h=>h,λb g=>g,λh=>by cases h⟩,h⟩
theorem Sat.rboxc(hs:Sat N sc env H a w){i:Nat}(d:lk H i=some (Kl b t cs))(j:Nat):w.cell? ⟨b,j,none⟩=cs[j]?:=by have h:w.heap[b]? = some (.cells cs t (0,0)):=hs.hold i _ d;simp [World.cell?,h]
theorem d_lra   {v:TypeId} {i j k:Nat}   (l:o.op= .load t x)
  (s:ev env x=some (.pointer (some ⟨b,j,none⟩))) (e:lk H i=some (Kl b v cs)) (m:∀w,(isAgg t).run P w= .ok true w) (g:∀w,(sizeOf t).run P w= .ok k w)
  (h:vs.length=k) (q:∀n u,vs[n]? = some u->cs[j+n]? = some u):Mo P N sc o env H (.agg vs.toArray):=λa w hs=>by
 have d:=run_loadCells_list (P:=P) w ⟨b,j,none⟩ vs (λn u p=>by rw [Py,hs.rboxc e];exact q n u p);rw [h]at d;simp [execOp,l,hs.ev s,Instr.loadAt,Instr.sureAddr,loadVar,m,g,d]
theorem Yjl{m:Int}(d:o.op= .unOp .neg t x)(e:ev env x=some (.int .i64 m))(h:Ng (-m):=by exact⟨O,O⟩):Mo P N sc o env H (.int .i64 (-m)):=λa w hs=>by simp [execOp,d,hs.ev e,Op.unary,Op.intArith,Zbb h]
theorem fill24(n p q s d e g h j k l m:Value):Instr.fill (λi=>some (i*4,4)) ((List.range (2*4)).map ((Value.agg #[n,p,q,s]).cells[· % (Value.agg #[n,p,q,s]).cells.size]!)).toArray [(0,.agg #[d,e,g,h]),(1,.agg #[j,k,l,m])]=some #[d,e,g,h,j,k,l,m]:=by
 simp [Instr.fill,Value.cells,List.range,List.range.loop]
 try rfl
end Go.Sky
namespace Go.Sky
open Go.RowKit (Below)
variable{f:FuncId}{c:Operand}{xs:List Operand}{ats:Array TypeId}{p:Pc}{vs:List Value}{pre:List Pc}{w0:World}{M0:Nat->Prop}{fn:Func}
variable {P:Program} {N:Nat} {sc:Nat->Prop} {env env':Ph} {H H':Hp} {Q Q':Exit->Act->World->Prop} {M:Nat->Prop}
abbrev iq (z:(Int×Int)×(Int×Int)):Value:= .agg #[.bool (decide (z.1.1<0)),.string (Qh z.1.1.natAbs),.bool (decide (z.1.2<0)),.string (Qh z.1.2.natAbs),.bool (decide (z.2.1<0)),.string (Qh z.2.1.natAbs),.bool (decide (z.2.2<0)),.string (Qh z.2.2.natAbs)]
def Yp0(P:Program)(f:FuncId)(args:Array Value)(pre:List Pc)(p:Pc){G:Type}(φ:G->Prop)(Yh:G->Value)(q:G->Pc):Prop:=
 ∀w,(∀r∈pre,r.holds w/\∀k,p.fp k->¬r.fp k)->p.holds w->Calls P f args w λe a=>∃g,e= .returned (Yh g)/\φ g/\Chg p.fp w a/\(q g).holds a/\∀k,(q g).fp k->p.fp k\/w.heap.size<=k
theorem Zyg {o:Oper}     {d i:Nat}  {fs us:List Value}  {G:Type} {φ:G->Prop} {Yh:G->Value} {q:G->Pc}  
  (Y:Yp0 P f (fs ++ vs ++ us).toArray pre p φ Yh q)
  (ho:o.op= .call { callee:= .value c,args:=xs.toArray,argTypes:=ats }) (y:ev env c=some (.func (.func f) fs.toArray us.toArray)) (Z:o.dst=some d) (V:Nat.blt d N=true)
  (m:EvL env xs vs) (n:∀args w,(callFunc f args).run P w= .ok (.enter f args) w) (x:lk H i=some p) (l:p.own=true) (z:i≠0) (u:PreOk (drp i H) false pre)
  (I:lk H 0=some (Yo w0 M0)) (hw:∀b,w0.heap.size<=b->sc b) (S:∀b,p.fp b->M b) :
  T P N sc M o env H φ (λg=>(d,Yh g)::env) (λg=>(i,q g)::H):=λa w hs K Q R=>by
 have hr:(execOp a.eval o).run P w= .ok (.enter f (fs ++ vs ++ us).toArray) w:=by rw [Zd7 hs ho y m,n]
 unfold Oper.wp;rw [hr];refine(Y w (λr hp=>by obtain⟨j,F,_,v,t,s,_⟩:=u.mem r hp;obtain⟨D,v⟩:=Dd _ _ _ _ v;exact⟨t w (hs.hold j F v),λk B W=>hs.sep i j _ F (Ne.symm D) x v l k B (s k W)⟩) (hs.hold i _ x)).mono ?_
 rintro e w' ⟨g,rfl,hg,h,hq,s⟩;show K (a.put o.dst (Yh g)) w';rw [Z];exact R g _ _ hg (Sat.put (hs.upd x l z h hq s I hw) d _ V) ⟨h.os,h.tape,h.output,h.size,λk B hn=>h.block k B (λe=>hn (S k e))⟩
def Yk8(P:Program)(fn:Func)(w0:World)(p:Pc){G:Type}(φ:G->Prop)(Yh:G->Value)(q:G->Pc):Exit->Act->World->Prop:=
 bodyPost P fn λe a=>∃g,e= .returned (Yh g)/\φ g/\Chg p.fp w0 a/\(q g).holds a/\∀k,(q g).fp k->p.fp k\/w0.heap.size<=k
theorem Ybc   {c:Code}    {G:Type} {φ:G->Prop} {Yh:G->Value} {q:G->Pc} {N:Nat}
  (V:P.funcs[f]? = some fn) (S:fn.body=some c) (R:fn.ntmps=N) (n:Nat.ble vs.length N=true) (B:AllRo pre)
  (h:∀w0 (sc:Nat->Prop),(∀k,w0.heap.size<=k->sc k)->(∀k,sc k->w0.heap.size<=k\/p.fp k\/∃q∈pre,q.fp k)->
   E P N sc c (Yk8 P fn w0 p φ Yh q) (Qs 0 vs) ((0,Yo w0 p.fp)::(1,p)::Yv 2 pre)) :
  Yp0 P f vs.toArray pre p φ Yh q:=λw D s=>by
 refine calls_of_wp V S (h w (λk=>w.heap.size<=k\/p.fp k\/∃q∈pre,q.fp k) (λk b=> .inl b) (λk b=>b) _ w ?_);have n:vs.length<=N:=by simpa using n
 have a:∀i r,lk ((0,Yo w p.fp)::(1,p)::Yv 2 pre) i=some r->(i=0/\r=Yo w p.fp)\/(i=1/\r=p)\/(i≠0/\i≠1/\r∈pre/\r.own=false):=λi r hi=>by
   by_cases l:0=i
   .subst l;rw [Yd]at hi;cases hi;exact .inl ⟨rfl,rfl⟩
   .rw [Zt _ _ l]at hi;by_cases g:1=i
    .subst g;rw [Yd]at hi;cases hi;exact .inr (.inl ⟨rfl,rfl⟩)
    .rw [Zt _ _ g]at hi;obtain⟨_,d⟩:=Nf pre 2 i r hi;exact .inr (.inr ⟨λe=>l e.symm,λe=>g e.symm,d,B.mem r d⟩)
 refine⟨by simp [R];omega,rfl,λt v Y=>?_,λi r hi=>?_,λi j r F y hi W z k b m=>?_,λi r u hi k b=>?_⟩
 .have g:vs.toArray[t]? = some v:=by simpa using(Ht vs 0 t v Y).2
  have x:=(Array.getElem?_eq_some_iff.1 g).1;rw [Array.getD_eq_getD_getElem?,Array.getElem?_append_left x,g];rfl
 .rcases a i r hi with⟨_,rfl⟩|⟨_,rfl⟩|⟨_,_,d,_⟩
  .exact Chg.refl _ w
  .exact s
  .exact(D r d).1
 .rcases a i r hi with⟨_,rfl⟩|⟨g,rfl⟩|⟨_,_,d,o⟩
  .cases z
  .rcases a j F W with⟨_,rfl⟩|⟨I,rfl⟩|⟨_,_,d,_⟩
   .exact m.2 b
   .exact y (g.trans I.symm)
   .exact(D F d).2 k b m
  .rw [o]at z;cases z
 .rcases a i r hi with⟨l,_⟩|⟨_,rfl⟩|⟨_,_,d,_⟩
  .exact absurd l u
  .exact .inr (.inl b)
  .exact .inr (.inr ⟨r,d,b⟩)
theorem Ydx    {G:Type} {φ:G->Prop} {Yh:G->Value} {q:G->Pc}  {e:Exit} (B:e= .ret\/e= .normal) (u:∀k,sc k->w0.heap.size<=k\/p.fp k\/∃q∈pre,q.fp k)
  (g:G) (v:Value) (m:∀a w,Sat N sc env H a w->(results fn a.tmps).run P w= .ok v w) (I:Yh g=v) (D:φ g) (i:Nat) (hi:lk H i=some (q g)) (z:lk H 0=some (Yo w0 p.fp)) (b:Nat.beq i 0=false) (d:(q g).own=true) (l:PreOk (drp i H) false pre) :
  X N sc e (Yk8 P fn w0 p φ Yh q) env H:=λa w hs=>by
 have b:i≠0:=λe=>by subst e;simp at b
 have x:a.defers=[]/\∃v,(results fn a.tmps).run P w= .ok v w/\(∃g,Ending.returned v= .returned (Yh g)/\φ g/\Chg p.fp w0 w/\(q g).holds w/\∀k,(q g).fp k->p.fp k\/w0.heap.size<=k):=by
  refine⟨hs.defers,v,m a w hs,g,by rw [I],D,hs.hold 0 _ z,hs.hold i _ hi,λk y=>?_⟩;rcases u k (hs.scope i _ b hi k y)with h|h|⟨r,F,t⟩
  .exact .inr h
  .exact .inl h
  .obtain⟨j,R,_,o,_,n,_⟩:=l.mem r F;obtain⟨s,o⟩:=Dd _ _ _ _ o;exact(hs.sep i j _ R (Ne.symm s) hi o d k y (n k t)).elim
 rcases B with rfl|rfl<;>exact x
def gb{α:Type}(b:Nat)(t:TypeId)(k:Nat)(e:TypeId)(enc:α->Value)(v:Value)(xs:List α):Pc:=
 {own:=true,fp:=λc=>c=b\/v.ownBlock=some c,holds:=λw=>(box b t #[v]).holds w/\(Oe k e enc v xs).holds w/\v.ownBlock≠some b
  lt:=λw c h a=>by
   rcases a with rfl|a
   .exact(box c t #[v]).lt w c h.1 rfl
   .exact(Oe k e enc v xs).lt w c h.2.1 a
  stable:=λw l h a=>⟨(box b t #[v]).stable w l h.1 ⟨a.os,a.tape,a.output,a.size,λk g i=>a.block k g (λd=>i (λj=>d (.inl j)))⟩,
   (Oe k e enc v xs).stable w l h.2.1 ⟨a.os,a.tape,a.output,a.size,λk g i=>a.block k g (λd=>i (λj=>d (.inr j)))⟩,h.2.2⟩ }
end Go.Sky

