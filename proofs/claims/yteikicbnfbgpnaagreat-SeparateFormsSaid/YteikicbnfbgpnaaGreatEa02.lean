/- Rules, arithmetic and contracts: part 3. No conditions but those that each theorem names. -/
import Derived.Test.YteikicbnfbgpnaaGreatEa01
set_option linter.all false
namespace Go.Sky
set_option maxRecDepth 20000
variable{k D:Nat}{R ys:List Nat}{y x:Int}{b t s:Bool}{p xs:List Int}{f:FuncId}{args:Array Value}{pre:List Pc}
theorem Zf7{n:Nat}(h:n<U):tz [n]=dg U n:=by rw [<-Kx Xn [n] (by simpa using h)];simp [Yf]
theorem Zg5{N:Nat}{sc:Nat->Prop}{env:Pd}{H:Hp}{α:Type}{e:TypeId}{enc:α->Value}{v:Value}{xs ys:List α}(i:Nat)(h:xs=ys)(hi:lk H i=some (Oj k e enc v xs))(c:Nat.beq i 0=false) :
  ∀a w,Sat N sc env H a w->Sat N sc env ((i,Oj k e enc v ys)::H) a w:=by
 subst h;exact Znh i hi rfl (λw h=>h) (λb d=>d) c
theorem Zli(R:List Nat)(j:Nat)(a:j<=R.length):Yf U R=Yf U (R.take j)+U^j*Yf U (R.drop j):=by have:=Ni U (R.take j) (R.drop j);rw [List.take_append_drop,List.length_take,Nat.min_eq_left a]at this;exact this
theorem Ziu(g:∀d∈R,d<U)(j:Nat)(e:j<=R.length):Yf U (R.take j)=Yf U R%U^j/\Yf U (R.drop j)=Yf U R/U^j:=by
 have c:=Zli R j e;have a:=Zf4 Xs (R.take j) (λd h=>g d (List.mem_of_mem_take h));rw [List.length_take,Nat.min_eq_left e]at a;have i:0<U^j:=Nat.pow_pos Xs;constructor
 .rw [c,Nat.add_comm,Nat.mul_add_mod,Nat.mod_eq_of_lt a]
 .rw [c,Nat.add_comm,Nat.mul_add_div i,Nat.div_eq_of_lt a,Nat.add_zero]
theorem Zei(e:∀d∈R,d<U){n:Nat}(g:n<=R.length)(h:Yf U R<U^n):Yf U (R.drop n)=0/\Yf U (R.take n)=Yf U R:=by obtain⟨a,c⟩:=Ziu e n g;rw [c,a,Nat.mod_eq_of_lt h];exact⟨Nat.div_eq_of_lt h,rfl⟩
theorem Yi0(c:∀d∈R,d<U){j n:Nat}(g:j+n<=R.length)(h:Yf U R<U^(j+n)):tz ((R.drop j).take n)=dg U (Yf U R/U^j):=by have a:∀d∈R.drop j,d<U:=λd a=>c d (List.mem_of_mem_drop a);rw [<-(Ziu c j O).2,<-Kx Xn _ (λd e=>a d (List.mem_of_mem_take e))];congr 1;refine(Zei a (by rw [List.length_drop];omega) ?_).2;rw [(Ziu c j O).2,Nat.div_lt_iff_lt_mul (Nat.pow_pos Xs),<-Nat.pow_add,Nat.add_comm];exact h
theorem Zp7(c:∀d∈R,d<U)(e:∀d∈ys,d<U)(lo:Nat):∀d∈spl R lo ys,d<U:=λd a=>by
 simp only [spl,List.mem_append]at a;rcases a with(a|a)|a
 .exact c d (List.mem_of_mem_take a)
 .exact e d a
 .exact c d (List.mem_of_mem_drop a)
theorem Zql(L:Nat)(ys:List Nat):Yf U (spl (List.replicate L 0) 0 ys)=Yf U ys:=by simp [spl,Ni,List.drop_replicate,Ge]
theorem Yi7(a:∀d∈R,d<U){j n:Nat}(g:j+n<=R.length)(h:Yf U R<U^(j+n))(i:ys.length<=n) :
  Yf U (spl (spl R j (List.replicate n 0)) j ys)=Yf U R%U^j+U^j*Yf U ys:=by
 have c:(spl R j (List.replicate n 0)).take j=R.take j:=by simp only [spl,List.append_assoc];rw [List.take_append_of_le_length (by rw [List.length_take];omega),List.take_take,Nat.min_self]
 have e:(spl R j (List.replicate n 0)).drop (j+ys.length)=List.replicate (n-ys.length) 0 ++ R.drop (j+n):=by simp only [spl,List.append_assoc,List.length_replicate];rw [<-List.drop_drop,List.drop_left' (by rw [List.length_take];omega),List.drop_append_of_le_length (by rw [List.length_replicate];exact i),List.drop_replicate]
 rw [spl,c,e,Ni,Ni,Ni,Ge,(Zei a g h).1,(Ziu a j O).1,List.length_take,Nat.min_eq_left O];simp
theorem Yk0{y b:Nat}(d:0<y)(l:k=(dg U y).length)(r:b=64-bl ((dg U y).getD (k-1) 0)):(dg U (y*2^b)).length=k/\2^b*U^k<=y*2^b*U*2^b/\1<=k/\y*2^b<U^k/\b<=63/\U^(k-1)*9223372036854775808<=y*2^b:=by
 obtain⟨m,n,g,o⟩:=Zw1 d;rw [<-l]at m n g o;obtain⟨h,q⟩:=Zp0 d;have i:=Dg y;have e:bl y+b=64*k:=O;have c:y*2^b<U^k:=by rw [Zci,<-e,Nat.pow_add];exact Nat.mul_lt_mul_of_pos_right i (Nat.two_pow_pos b)
 have a:U^(k-1)*9223372036854775808<=y*2^b:=by
  have:U^(k-1)*9223372036854775808=2^(bl y-1)*2^b:=by rw [Zci,<-Nat.pow_add,show 9223372036854775808=2^63 from rfl,<-Nat.pow_add];congr 1;omega
  rw [this];exact Nat.mul_le_mul_right _ h
 have j:U^k=U^(k-1)*U:=by rw [<-Nat.pow_succ];congr 1;omega
 refine⟨?_,?_,g,c,O,a⟩
 .refine Nat.le_antisymm ((Xo Xn _ _).2 c) ?_;have:k-1<(dg U (y*2^b)).length:=(Oz Xn _ _).2 (Nat.le_trans (Nat.le_mul_of_pos_right _ O) a);omega
 .rw [j,Nat.mul_comm (2^b)];refine Nat.mul_le_mul_right _ ?_;refine Nat.mul_le_mul_right _ (Nat.le_trans (Nat.le_mul_of_pos_right _ O) a)
theorem Yf4{W w1 w0 t:Nat}(a:t*U^k<=D)(e:0<t)(c:W/U^k=w1*U+w0):W/D<=(w1*U+w0)/t:=by have d:0<U^k:=Nat.pow_pos Xs;rw [<-c,Nat.div_div_eq_div_mul,Nat.mul_comm];exact Nat.div_le_div_left a (Nat.mul_pos e d)
theorem Yjd(c:∀d∈R,d<U){j:Nat}(m:1<=k)(h:Yf U R<U^(j+k+1))(n:j+k+1<=R.length):Yf U R/U^j/U^(k-1)=R.getD (j+k) 0*U+R.getD (j+k-1) 0:=by
 have e:∀i,R.getD i 0=Yf U R/U^i%U:=λi=>by
  rcases Nat.lt_or_ge i R.length with hi|hi
  .have a:=(Ziu c i O).2;rw [Zb8 0 R i hi]at a;simp only [Yf]at a;rw [<-a,Nat.add_mul_mod_self_left,Nat.mod_eq_of_lt (Xm Xs c i)]
  .rw [show R.getD i 0=0 by simp [List.getD,List.getElem?_eq_none hi],Nat.div_eq_of_lt (Nat.lt_of_lt_of_le (Zf4 Xs R c) (Nat.pow_le_pow_right Xs hi))];rfl
 rw [e,e,Nat.div_div_eq_div_mul,<-Nat.pow_add,show j+(k-1)=j+k-1 by omega];have g:Yf U R/U^(j+k)<U:=by rw [Nat.div_lt_iff_lt_mul (Nat.pow_pos Xs),<-Nat.pow_succ',Nat.add_comm (j+k)]at *;rw [Nat.add_comm 1]at *;exact h
 have l:Yf U R/U^(j+k)=Yf U R/U^(j+k-1)/U:=by rw [Nat.div_div_eq_div_mul,<-Nat.pow_succ];congr 2;omega
 rw [Nat.mod_eq_of_lt g,l,Nat.mul_comm,Nat.div_add_mod]
theorem Yg2{x b lx:Nat}(e:x<U^lx)(c:b<=63)(l:1<=k)(d:k<=lx+1)(a:U^(k-1)*9223372036854775808<=D):x*2^b<D*U^(lx+1-k):=by
 have g:x*2^b<U^lx*2^b:=Nat.mul_lt_mul_of_pos_right e (Nat.two_pow_pos b);have h:U^lx*2^b<=U^lx*9223372036854775808:=Nat.mul_le_mul_left _ (by rw [show 9223372036854775808=2^63 from rfl];exact Nat.pow_le_pow_right O c)
 have i:U^lx*9223372036854775808=U^(k-1)*9223372036854775808*U^(lx+1-k):=by rw [Nat.mul_right_comm,<-Nat.pow_add];congr 2;omega
 have j:U^(k-1)*9223372036854775808*U^(lx+1-k)<=D*U^(lx+1-k):=Nat.mul_le_mul_right _ a;omega
theorem Yg1{V j Q Vq N:Nat}(h:0<D)(a:Q=V/U^j/D)(i:Vq*U^(j+1)*D+V=N) :
  V%U^j+U^j*(V/U^j-D*Q)<D*U^j/\(Q+U*Vq)*U^j*D+(V%U^j+U^j*(V/U^j-D*Q))=N:=by
 have l:0<U^j:=Nat.pow_pos Xs;have o:=Nat.mod_lt V l;have q:=Nat.div_add_mod V (U^j);have c:=Nat.div_add_mod (V/U^j) D;have d:=Nat.mod_lt (V/U^j) h;have e:V/U^j-D*Q=V/U^j%D:=by rw [a];omega
 rw [e];constructor
 .have g:U^j*(V/U^j%D+1)<=U^j*D:=Nat.mul_le_mul_left _ d;rw [Nat.mul_add]at g;rw [Nat.mul_comm D];omega
 .rw [<-i];have m:(Q+U*Vq)*U^j*D=U^j*(D*Q)+Vq*U^(j+1)*D:=by
   rw [Nat.add_mul,Nat.add_mul,Nat.pow_succ];congr 1
   .rw [Nat.mul_comm Q,Nat.mul_assoc,Nat.mul_comm Q]
   .rw [Nat.mul_comm U Vq,Nat.mul_assoc Vq,Nat.mul_comm U]
  have n:U^j*(D*Q)+U^j*(V/U^j%D)=U^j*(V/U^j):=by rw [<-Nat.mul_add,a,c]
  omega
def sg(s:Bool)(x:Int):Prop:=(s=true->x<=0)/\(s=false->0<=x)
theorem Ydf(h:sg s x):sg (!s) (-x):=by cases s<;>simp [sg]at*<;>omega
theorem Ydg(hs:sg s x)(a:sg t y):sg (s != t) (x*y):=by
 cases s<;>cases t<;>simp [sg]at *
 .exact Int.mul_nonneg hs a
 .exact Int.mul_nonpos_of_nonneg_of_nonpos hs a
 .exact Int.mul_nonpos_of_nonpos_of_nonneg hs a
 .exact Int.mul_nonneg_of_nonpos_of_nonpos hs a
theorem Yab(h:(((dg U x.natAbs).length:Nat):Int)=0):Value.int .i64 x.sign= .int .i64 0:=by have a:=(Ps Xn x.natAbs).1 O;have:x=0:=O;subst this;rfl
theorem Yda(hs:sg s x)(a:s=true)(h:¬(((dg U x.natAbs).length:Nat):Int)=0):Value.int .i64 x.sign= .int .i64 (-1):=by have c:¬x.natAbs=0:=λe=>h (by rw [(Ps Xn x.natAbs).2 e];rfl);have d:=hs.1 a;rw [Int.sign_eq_neg_one_of_neg O]
theorem Yc9(hs:sg s x)(a:s=false)(h:¬(((dg U x.natAbs).length:Nat):Int)=0):Value.int .i64 x.sign= .int .i64 1:=by have c:¬x.natAbs=0:=λe=>h (by rw [(Ps Xn x.natAbs).2 e];rfl);have d:=hs.2 a;rw [Int.sign_eq_one_of_pos O]
theorem Zw8(hs:sg s x)(a:sg s y):sg s (x+y):=by cases s<;>simp [sg]at*<;>omega
theorem Zf1(hs:sg s x)(a:sg s y):(x+y).natAbs=x.natAbs+y.natAbs:=by cases s<;>simp [sg]at*<;>omega
theorem Zh2(hs:sg s x)(c:sg t y)(h:s≠t)(a:y.natAbs<=x.natAbs):sg s (x+y):=by cases s<;>cases t<;>simp [sg]at*<;>omega
theorem Zaw(hs:sg s x)(c:sg t y)(h:s≠t)(a:y.natAbs<=x.natAbs):(x+y).natAbs=x.natAbs-y.natAbs:=by cases s<;>cases t<;>simp [sg]at*<;>omega
abbrev wv (x:Int):Value:= .agg #[.bool (decide (x<0)),.string (Xy x.natAbs)]
def Zas(x:Int):Int:=if 65536<bl x.natAbs then 0 else x
def Zhr(x:Int):Int:=if 65536<bl x.natAbs then 7 else 0
theorem Ymm(x:Int):bl (Zas x).natAbs<=65536:=by
 unfold Zas;split
 .decide
 .omega
theorem Il(h:bl x.natAbs<=65536):Zas x=x:=by unfold Zas;rw [if_neg O]
theorem Zoz(h:bl x.natAbs<=65536):Zhr x=0:=by unfold Zhr;rw [if_neg O]
theorem Yml(h:65536<bl x.natAbs):Zas x=0:=by unfold Zas;rw [if_pos h]
theorem Yln(h:65536<bl x.natAbs):Zhr x=7:=by unfold Zhr;rw [if_pos h]
abbrev Zbq (x:Int):Value:= .tuple #[wv (Zas x),.int .i64 (Zhr x)]
theorem Zzx(h:((65536:Int)<((bl x.natAbs:Nat):Int))):Zbq x= .tuple #[.agg #[.bool false,.string ⟨#[]⟩],.int .i64 7]:=by unfold Zbq;rw [Yml O,Yln O];rfl
theorem Zwn(h:¬((65536:Int)<((bl x.natAbs:Nat):Int))):Zbq x= .tuple #[wv x,.int .i64 0]:=by unfold Zbq;rw [Il O,Zoz O]
theorem Zqf(hs:sg false x)(h:¬((65536:Int)<((bl x.natAbs:Nat):Int))):Zbq x= .tuple #[.agg #[.bool false,.string (Xy x.natAbs)],.int .i64 0]:=by rw [Zwn h,wv,decide_eq_false (by have:=hs.2 rfl;omega)]
theorem Zqe(hs:sg true x)(h:¬((65536:Int)<((bl x.natAbs:Nat):Int))):Zbq x= .tuple #[.agg #[.bool (decide ((0:Int)<(((dg U x.natAbs).length:Nat):Int))),.string (Xy x.natAbs)],.int .i64 0]:=by have a:=hs.1 rfl;have c:=Ps Xn x.natAbs;rw [Zwn h,wv,show decide (x<0)=decide ((0:Int)<(((dg U x.natAbs).length:Nat):Int))from decide_eq_decide.2 ⟨λh=>O,λh=>O⟩]
theorem Zc6{q r:Int}(d:y≠0)(h:x=y*q+r)(l:0<=r)(m:r<(y.natAbs:Int)):x/y=q/\x%y=r:=by
 have e:=Int.mul_ediv_add_emod x y;have i:=Int.emod_nonneg x d;have j:=Int.emod_lt x d;have c:x/y=q:=by
  have g:y*(x/y-q)=r-x%y:=by rw [Int.mul_sub];omega
  have a:(y*(x/y-q)).natAbs<y.natAbs:=by rw [g];omega
  rw [Int.natAbs_mul]at a;rcases Nat.eq_zero_or_pos (x/y-q).natAbs with h|h
  .omega
  .exact absurd (Nat.le_mul_of_pos_right y.natAbs h) O
 refine⟨c,?_⟩;rw [c]at e;omega
theorem Zui(h:sg s x):x=if s then -(x.natAbs:Int)else(x.natAbs:Int):=by cases s<;>simp [sg]at*<;>omega
theorem Zyx(hs:sg s x)(d:sg t y)(e:y≠0)(Q R:Nat)(g:R<y.natAbs)(h:x=(if s then -1 else 1)*((y.natAbs:Int)*Q)+R) :
  sg (s != t) (x/y)/\(x/y).natAbs=Q/\(x%y).natAbs=R:=by
 have c:=Zui d;have a:x/y=(if s != t then -(Q:Int)else Q)/\x%y=R:=by
  refine Zc6 e ?_ O O
  conv=>lhs;rw [h]
  conv=>rhs;rw [c]
  cases s<;>cases t<;>simp [Int.neg_mul,Int.mul_neg]
 rw [a.1,a.2];cases s<;>cases t<;>simp [sg]
theorem divB(hs:sg s x)(h:sg t y)(i:y≠0)(g:s=false\/x.natAbs%y.natAbs=0):sg (s != t) (x/y)/\(x/y).natAbs=x.natAbs/y.natAbs/\(x%y).natAbs=x.natAbs%y.natAbs:=by
 have c:=Zui hs;have e:=Nat.div_add_mod x.natAbs y.natAbs;refine Zyx hs h i _ _ (Nat.mod_lt _ O) ?_;have a:((y.natAbs:Int)*((x.natAbs/y.natAbs:Nat):Int))+((x.natAbs%y.natAbs:Nat):Int)=x.natAbs:=by rw [<-Int.natCast_mul,<-Int.natCast_add,e]
 rcases g with rfl|d
 .simp at c ⊢;simp at a;omega
 .rw [d]at a ⊢;cases s<;>simp at c a ⊢<;>omega
theorem divA(hs:sg true x)(a:sg t y)(c:y≠0)(g:0<x.natAbs%y.natAbs):sg (true != t) (x/y)/\(x/y).natAbs=x.natAbs/y.natAbs+1/\(x%y).natAbs=y.natAbs-x.natAbs%y.natAbs:=by
 have i:=Zui hs;have e:=Nat.div_add_mod x.natAbs y.natAbs;have h:=Nat.mod_lt x.natAbs (show 0<y.natAbs by omega);refine Zyx hs a c _ _ O ?_;have d:((y.natAbs:Int)*((x.natAbs/y.natAbs:Nat):Int))+((x.natAbs%y.natAbs:Nat):Int)=x.natAbs:=by rw [<-Int.natCast_mul,<-Int.natCast_add,e]
 rw [Int.natCast_sub O,Int.natCast_add,Int.mul_add];generalize ((y.natAbs:Int)*((x.natAbs/y.natAbs:Nat):Int))=P at *;generalize ((x.natAbs%y.natAbs:Nat):Int)=R at *;simp only [if_true]at *;omega
def okW(b:Bool)(s:ByteArray):Bool:=if s.size=0 then !b else decide ((s.data.toList.getD 0 0).toNat≠0) && decide (s.size<=8192)
theorem bl256{n:Nat} : (dg 256 n).length<=k↔bl n<=8*k:=by rw [Zkb];omega
theorem Zb0(h:bl x.natAbs<=65536):okW (decide (x<0)) (Xy x.natAbs)=true:=by
 unfold okW;rw [Ew];split
 .rename_i c;have:=(Ps (by omega:2<=256) x.natAbs).1 c;simp;omega
 .rename_i c;have g:0<x.natAbs:=by
   rcases Nat.eq_zero_or_pos x.natAbs with a|a
   .rw [a]at c;simp [Gb]at c
   .exact a
  have a:=Ztu x.natAbs 0 O;have d:=dg_top (by omega:2<=256) g;rw [Gc O]at d;have e:=(bl256 (n:=x.natAbs) (k:=8192)).2 O;rw [Bool.and_eq_true];refine⟨decide_eq_true (by rw [a];simpa using d),decide_eq_true e⟩
theorem Zgv{a b:ByteArray}(h:a.data.toList=b.data.toList):a=b:=by cases a;cases b;simp at h;rw [h]
theorem Ymx{s:ByteArray}(e:s.size≠0)(h:(s.data.toList.getD 0 0).toNat≠0):s=Xy (Yf 256 (s.data.toList.reverse.map UInt8.toNat)):=by
 have g:s.data.toList.length=s.size:=rfl;have a:∀d∈s.data.toList.reverse.map UInt8.toNat,d<256:=λd c=>by obtain⟨u,_,rfl⟩:=List.mem_map.1 c;exact u.toNat_lt
 refine Zgv ?_;unfold Xy;rw [Kx O _ a,tz_eq]
 .simp [List.map_reverse,Function.comp_def]
 .refine .inr ?_;rw [List.length_map,List.length_reverse,List.getD_eq_getElem?_getD,List.getElem?_map,List.getElem?_reverse O];rw [show s.data.toList.length-1-(s.data.toList.length-1)=0 by omega];rw [List.getD_eq_getElem?_getD]at h;cases hx:s.data.toList[0]? with
  | none=>rw [hx]at h;simp at h
  | some u=>rw [hx]at h;simpa using h
theorem Zn9{s:ByteArray}(h:okW b s=true):∃x:Int,bl x.natAbs<=65536/\b=decide (x<0)/\s=Xy x.natAbs:=by
 unfold okW at h;split at h
 .rename_i c;refine⟨0,by simp [Kp],?_,?_⟩
  .cases b<;>simp_all
  .refine Zgv ?_;have:s.data.toList.length=0:=c;rw [List.eq_nil_of_length_eq_zero this];rfl
 .rename_i c;rw [Bool.and_eq_true]at h;have e:=of_decide_eq_true h.1;have g:=of_decide_eq_true h.2;have hs:=Ymx c e;generalize Yf 256 (s.data.toList.reverse.map UInt8.toNat)=n at hs;have d:(dg 256 n).length=s.size:=by rw [hs,Ew]
  have i:0<n:=by
   rcases Nat.eq_zero_or_pos n with h|h
   .subst h;simp [Gb]at d;omega
   .exact h
  have a:bl n<=65536:=by have:=(bl256 (n:=n) (k:=8192)).1 O;omega
  cases b with
  | true=>exact⟨-(n:Int),by simpa using a,O8,by simpa using hs⟩
  | false=>exact⟨n,by simpa using a,O7,by simpa using hs⟩
def eqW(a:Bool)(s:ByteArray)(b:Bool)(t:ByteArray):Bool:=(a == b) && (s.toList == t.toList)
theorem Yb4(h:decide (x<0)=decide (y<0))(g:Xy x.natAbs=Xy y.natAbs):x=y:=by
 have j:x.natAbs=y.natAbs:=by
  have a:(dg 256 x.natAbs).reverse.map UInt8.ofNat=(dg 256 y.natAbs).reverse.map UInt8.ofNat:=by have:=congrArg (λb:ByteArray=>b.data.toList) g;simpa [Xy]using this
  have c:∀n:Nat,((dg 256 n).reverse.map UInt8.ofNat).map UInt8.toNat=(dg 256 n).reverse:=λn=>by
   rw [List.map_map]
   conv=>rhs;rw [<-List.map_id (dg 256 n).reverse]
   refine List.map_congr_left λd i=>?_;have:=Nc (by omega:2<=256) n d (List.mem_reverse.1 i);simp [UInt8.toNat_ofNat',Nat.mod_eq_of_lt this]
  have e:=congrArg (List.map UInt8.toNat) a;rw [c,c]at e;exact(Zgt (by omega:2<=256)).1 (List.reverse_inj.1 e)
 have a:=decide_eq_decide.1 h;omega
theorem Zpf{a:Bool}{s t:ByteArray} : eqW a s b t=true↔a=b/\s=t:=by unfold eqW;rw [Bool.and_eq_true,ByteArray.toList_eq,ByteArray.toList_eq,beq_iff_eq,beq_iff_eq];exact⟨λh=>⟨h.1,Zgv h.2⟩,λh=>⟨h.1,by rw [h.2]⟩⟩
theorem Ygq(x y:Int):eqW (decide (x<0)) (Xy x.natAbs) (decide (y<0)) (Xy y.natAbs)=decide (x=y):=by rw [Bool.eq_iff_iff,Zpf,decide_eq_true_iff];exact⟨λh=>Yb4 h.1 h.2,λh=>by rw [h];exact⟨rfl,rfl⟩⟩
theorem Xk(x:Int):sg (decide (x<0)) x:=by unfold sg;simp;omega
def Gd(x y:Int):bl (x+y).natAbs<=max (bl x.natAbs) (bl y.natAbs)+1:=
 Nat.le_trans (Py (Int.natAbs_add_le x y)) (bl_add _ _)
theorem Xj(x y:Int):bl (x*y).natAbs<=bl x.natAbs+bl y.natAbs:=by rw [Int.natAbs_mul];exact Zk9 _ _
theorem An(x y:Int):bl (x-y).natAbs<=max (bl x.natAbs) (bl y.natAbs)+1:=by have:=Gd x (-y);rwa [Int.natAbs_neg,<-Int.sub_eq_add_neg]at this
theorem Zk8(x:Int):bl (-x).natAbs=bl x.natAbs:=by rw [Int.natAbs_neg]
theorem Zip(x y:Int):bl (x/y).natAbs<=bl x.natAbs+1:=by have h:(x/y).natAbs<=x.natAbs:=Int.natAbs_ediv_le_natAbs x y;have:=Py h;omega
theorem Zzl(x y:Int)(a:y≠0):bl (x%y).natAbs<=bl y.natAbs:=by have c:=Int.emod_nonneg x a;have d:=Int.emod_lt x a;exact Py O
theorem Zp2(x y:Nat):bl (Nat.gcd x y)<=max (bl x) (bl y):=by
 rcases Nat.eq_zero_or_pos x with h|h
 .subst h;rw [Nat.gcd_zero_left];omega
 .have:=Py (Nat.le_of_dvd h (Nat.gcd_dvd_left x y));omega
def Yj2(x:Int)(h:y≠0):sg false (x%y):=⟨λa=>Bool.noConfusion a,λ_=>Int.emod_nonneg x h⟩
def Mv(x y:Int):Int:=if y<0 then -(Int.gcd x y:Int)else(Int.gcd x y:Int)
theorem Zb2(x y:Int):(Mv x y).natAbs=Nat.gcd x.natAbs y.natAbs:=by unfold Mv;split<;>simp [Int.gcd]
theorem Zx7(h:y≠0):Mv x y≠0:=λe=>by have a:=Zb2 x y;rw [e]at a;have:=(Nat.gcd_eq_zero_iff.1 a.symm).2;omega
theorem Yj0(a:sg t y)(c:y≠0):sg t (Mv x y):=by
 unfold Mv sg at *;refine⟨λh=>?_,λh=>?_⟩
 .rw [if_pos (by have:=a.1 h;omega)];omega
 .rw [if_neg (by have:=a.2 h;omega)];omega
theorem Zx6(v:Value)(x y:Int):Eg v (Nat.gcd x.natAbs y.natAbs)=Eg v (Mv x y).natAbs:=by rw [Zb2]
def La(x y:Int):Prop:=65536<bl (x/Mv x y).natAbs\/65536<bl (y/Mv x y).natAbs
instance (x y:Int):Decidable (La x y):=by unfold La;infer_instance
def Gt(x y:Int):Int:=if La x y then 0 else x/Mv x y
def Hu(x y:Int):Int:=if La x y then 0 else y/Mv x y
def Yd7(x y:Int):Int:=if La x y then 7 else 0
abbrev Za6 (x y:Int):Value:= .tuple #[.agg #[.bool (decide (Gt x y<0)),.string (Xy (Gt x y).natAbs),.bool (decide (Hu x y<0)),.string (Xy (Hu x y).natAbs)],.int .i64 (Yd7 x y)]
theorem Za5(h:La x y):Za6 x y= .tuple #[.agg #[.bool false,.string ⟨#[]⟩,.bool false,.string ⟨#[]⟩],.int .i64 7]:=by unfold Za6 Gt Hu Yd7;rw [if_pos h,if_pos h,if_pos h];rfl
theorem Aj(h:Zhr x≠0):65536<bl x.natAbs:=by
 unfold Zhr at h;split at h
 .assumption
 .exact absurd rfl h
theorem Zif(h:Zhr x=0):bl x.natAbs<=65536:=by
 unfold Zhr at h;split at h
 .omega
 .omega
theorem Zrj(c:Zhr (x/Mv x y)=0)(d:Zhr (y/Mv x y)=0):Za6 x y= .tuple #[.agg #[.bool (decide (Zas (x/Mv x y)<0)),.string (Xy (Zas (x/Mv x y)).natAbs),.bool (decide (Zas (y/Mv x y)<0)),.string (Xy (Zas (y/Mv x y)).natAbs)],.int .i64 0]:=by
 have a:¬La x y:=λh=>by have:=Zif c;have:=Zif d;unfold La at h;omega
 unfold Za6 Gt Hu Yd7;rw [if_neg a,if_neg a,if_neg a,Il (Zif c),Il (Zif d)]
def okR(b:Bool)(s:ByteArray)(c:Bool)(t:ByteArray):Bool:=okW b s && okW c t && (!c && decide (0<t.size))
theorem Zn1(z:Int):(!decide (z<0) && decide (0<(Xy z.natAbs).size))=decide (0<z):=by rw [Bool.eq_iff_iff,Bool.and_eq_true,Ew,decide_eq_true_iff,decide_eq_true_iff];have:=Ps (by omega:2<=256) z.natAbs;simp only [Bool.not_eq_true',decide_eq_false_iff_not];omega
theorem Fj(z:Int):decide (0<z.sign)=decide (0<z):=by
 rw [decide_eq_decide];rcases Int.lt_trichotomy z 0 with h|h|h
 .rw [Int.sign_eq_neg_one_of_neg h];omega
 .subst h;simp
 .rw [Int.sign_eq_one_of_pos h];omega
theorem Zr2{s:ByteArray}{z:Int}(a:okW b s=true)(c:bl z.natAbs<=65536):okR b s (decide (z<0)) (Xy z.natAbs)=decide (0<z.sign):=by unfold okR;rw [a,Zb0 c,Zn1,Fj];rfl
theorem okR_wv(c:bl x.natAbs<=65536)(d:bl y.natAbs<=65536)(a:0<y):okR (decide (x<0)) (Xy x.natAbs) (decide (y<0)) (Xy y.natAbs)=true:=by unfold okR;rw [Zb0 c,Zb0 d,Zn1];simp [a]
theorem Ye4{c:Bool}{s t:ByteArray}(h:okR b s c t=true):∃x y:Int,bl x.natAbs<=65536/\bl y.natAbs<=65536/\0<y/\b=decide (x<0)/\s=Xy x.natAbs/\c=decide (y<0)/\t=Xy y.natAbs:=by unfold okR at h;rw [Bool.and_eq_true,Bool.and_eq_true]at h;obtain⟨⟨d,e⟩,a⟩:=h;obtain⟨x,g,rfl,rfl⟩:=Zn9 d;obtain⟨y,i,rfl,rfl⟩:=Zn9 e;rw [Zn1]at a;exact⟨x,y,g,i,of_decide_eq_true a,rfl,rfl,rfl,rfl⟩
open Go.RowKit (Below)
def Sz(n:Nat)(p:List Int):Prop:=∀i,bl (cf p i).natAbs<=n
def Sz.getD{n:Nat}(h:Sz n p)(i:Nat):bl (p.getD i 0).natAbs<=n:=h i
def Sz.mono{n m:Nat}(h:Sz n p)(a:n<=m):Sz m p:=λi=>Nat.le_trans (h i) a
theorem Sz.tzl{n:Nat}(h:Sz n p):Sz n (tzl p):=λi=>by rw [Kj];exact h i
theorem Sz.nil(n:Nat):Sz n []:=λi=>by simp [cf,Kp]
theorem Sz.take{n:Nat}(h:Sz n p)(k:Nat):Sz n (p.take k):=λi=>by
 rw [Fw];split
 .exact h i
 .simp [Kp]
theorem Sz.mem{n:Nat}(h:Sz n p)(a:x∈p):bl x.natAbs<=n:=by obtain⟨i,hi,rfl⟩:=List.mem_iff_getElem.1 a;have:=h i;rwa [Zcd hi]at this
theorem Sz.of_mem{n:Nat}(h:∀x∈p,bl x.natAbs<=n):Sz n p:=λi=>by
 rcases Nat.lt_or_ge i p.length with hi|hi
 .rw [Zcd hi];exact h _ (List.getElem_mem hi)
 .rw [Yq hi];simp [Kp]
structure Vp (p:List Int):Prop where
 sz:Sz 65536 p
 tr:Tr p
 len:p.length<=25
def wr(x:Int):Bool×ByteArray:=(decide (x<0),Xy x.natAbs)
def okP(r:List (Bool×ByteArray)):Bool:=r.all (λw=>okW w.1 w.2) && (decide (r.length<=25) && (decide (r.length=0) || decide ((r.getD (r.length-1) (false,⟨#[]⟩)).2.size≠0)))
theorem Zd9 : (Xy x.natAbs).size=0↔x=0:=by rw [Ew];have:=Ps (by omega:2<=256) x.natAbs;omega
theorem Zb6(xs:List Int)(i:Nat)(h:i<xs.length):(xs.map wr).getD i (false,⟨#[]⟩)=wr (cf xs i):=by rw [Zcd h];simp [List.getD,h]
theorem okP_wr(h:Vp xs):okP (xs.map wr)=true:=by
 unfold okP;rw [Bool.and_eq_true,Bool.and_eq_true,Bool.or_eq_true];refine⟨List.all_eq_true.2 λw e=>?_,by simpa using h.len,?_⟩
 .obtain⟨x,g,rfl⟩:=List.mem_map.1 e;exact Zb0 (h.sz.mem g)
 .rcases h.tr with a|a
  .left;simp [a]
  .right;have i:0<xs.length:=by
    rcases Nat.eq_zero_or_pos xs.length with c|c
    .rw [Yq O]at a;exact absurd rfl a
    .exact c
   rw [List.length_map,Zb6 _ _ O];refine decide_eq_true λd=>a (Zd9.1 d)
theorem Zr1{r:List (Bool×ByteArray)}(h:∀w∈r,okW w.1 w.2=true):∃xs:List Int,(∀x∈xs,bl x.natAbs<=65536)/\r=xs.map wr:=by
 induction r with
 | nil=>exact⟨[],O7,rfl⟩
 | cons w r l=>
  obtain⟨xs,c,d⟩:=l λu i=>h u (List.mem_cons_of_mem _ i);obtain⟨x,j,e,g⟩:=Zn9 (h w (List.mem_cons_self ..));refine⟨x::xs,λy a=>?_,?_⟩
  .rcases List.mem_cons.1 a with rfl|a
   .exact j
   .exact c y a
  .rw [List.map_cons,<-d,wr,<-e,<-g]
theorem okP_ex{r:List (Bool×ByteArray)}(h:okP r=true):∃xs:List Int,Vp xs/\r=xs.map wr:=by
 unfold okP at h;rw [Bool.and_eq_true,Bool.and_eq_true,Bool.or_eq_true]at h;obtain⟨d,e,a⟩:=h;obtain⟨xs,g,rfl⟩:=Zr1 (List.all_eq_true.1 d);refine⟨xs,⟨Sz.of_mem g,?_,by simpa using e⟩,rfl⟩;rcases a with a|a
 .left;exact List.eq_nil_of_length_eq_zero (by simpa using a)
 .rcases Nat.eq_zero_or_pos xs.length with c|c
  .left;exact List.eq_nil_of_length_eq_zero c
  .right;rw [List.length_map,Zb6 _ _ O]at a;exact λi=>of_decide_eq_true a (Zd9.2 i)
theorem Zi1{j:Nat}(h:j<k)(a:(xs.take k).getD j 0=0):cf xs j=0:=by rw [Zc4 _ _ _ _ h]at a;exact a
theorem Zeo{j:Nat}(h:j<k)(a:¬((xs.take k).getD j 0).sign=0):cf xs j≠0:=λe=>a (by rw [Zc4 _ _ _ _ h];rw [show xs.getD j 0=0 from e];rfl)
theorem Ykv{r:List (Bool×ByteArray)}{w:Bool×ByteArray}(a:w∈r)(h:okW w.1 w.2=false):okP r=false:=by unfold okP;rw [show r.all (λw=>okW w.1 w.2)=false from List.all_eq_false.2 ⟨w,a,by simp [h]⟩];rfl
theorem Zoa(h:∀x∈xs,bl x.natAbs<=65536):okP (xs.map wr)=(decide (xs.length<=25) && (decide (xs.length=0) || decide (¬(xs.getD (xs.length-1) 0).sign=0))):=by
 unfold okP;rw [show(xs.map wr).all (λw=>okW w.1 w.2)=true from List.all_eq_true.2 λw c=>by obtain⟨x,d,rfl⟩:=List.mem_map.1 c;exact Zb0 (h x d)]
 rw [List.length_map,Bool.true_and];congr 1;by_cases a:xs.length=0
 .simp [a]
 .rw [decide_eq_false a,Bool.false_or,Bool.false_or,Zb6 _ _ O];rw [decide_eq_decide,Int.sign_eq_zero_iff_zero];exact not_congr Zd9
def err(e x:Int):Int:=if e=0 then Zhr x else e
theorem Zvk(h:bl x.natAbs<=65536):err 0 x=0:=by unfold err;rw [if_pos rfl,Zoz h]
def Qx:List Int->Nat
 | []=>0
 | x::r=>max (bl x.natAbs) (Qx r)
theorem Kt(p:List Int):Sz (Qx p) p:=by
 refine Sz.of_mem λx a=>?_
 induction p with
 | nil=>cases a
 | cons y r c=>
  rcases List.mem_cons.1 a with rfl|h
  .simp only [Qx];omega
  .have:=c h;simp only [Qx];omega
theorem Pr{n:Nat}(h:Sz n p):Qx p<=n:=by
 have c:∀x∈p,bl x.natAbs<=n:=λx a=>h.mem a;clear h
 induction p with
 | nil=>exact Nat.zero_le _
 | cons y r d=>
  have:=c y (List.mem_cons_self ..);have:=d λx a=>c x (List.mem_cons_of_mem _ a);simp only [Qx];omega
theorem Yfg(p:List Int)(x:Int):Qx (p ++ [x])=max (Qx p) (bl x.natAbs):=by
 induction p with
 | nil=>simp [Qx]
 | cons y r a=>simp only [List.cons_append,Qx,a];omega
variable {P:Program} {N:Nat} {sc:Nat->Prop} {env env':Pd} {H H':Hp} {Q Q':Exit->Act->World->Prop} {M:Nat->Prop}
theorem fpm{α β:Type}{f:α->β}{xs:List α}{p:Prop}(h:xs.map f≠[]/\p):xs≠[]/\p:=⟨λe=>h.1 (by rw [e];rfl),h.2⟩
def fpn{α β:Type}{f:α->β}{xs:List α}{p:Prop}(h:xs≠[]/\p):xs.map f≠[]/\p:=⟨λe=>h.1 (List.map_eq_nil_iff.1 e),h.2⟩
theorem Zuf(v:Value)(xs:List Int)(w:World)(h:(Yl 2 wv v xs).holds w):(Yl 2 (λw:Bool×ByteArray=>Value.agg #[.bool w.1,.string w.2]) v (xs.map wr)).holds w:=by
 obtain⟨⟨a,c,l,m,n,d⟩,q⟩:=h;refine⟨⟨a,c,by rw [List.length_map];exact l,by rw [List.length_map];exact m,n,?_⟩,λb h=>q b (fpm h)⟩;rcases d with d|⟨g,e,d,o⟩
 .left;rw [d];rfl
 .right;refine⟨g,e,d,λi x hi j u r=>?_⟩;rw [List.getElem?_map]at hi;cases hx:xs[i]? with
  | none=>rw [hx]at hi;cases hi
  | some y=>rw [hx]at hi;cases hi;exact o i y hx j u r
theorem Yju(v:Value)(xs:List Int)(w:World)(h:(Yl 2 (λw:Bool×ByteArray=>Value.agg #[.bool w.1,.string w.2]) v (xs.map wr)).holds w):(Yl 2 wv v xs).holds w:=by
 obtain⟨⟨a,c,l,m,n,d⟩,q⟩:=h;rw [List.length_map]at l m;refine⟨⟨a,c,l,m,n,?_⟩,λb h=>q b (fpn h)⟩;rcases d with d|⟨g,e,d,o⟩
 .left;simpa using d
 .right;refine⟨g,e,d,λi x hi j u r=>?_⟩;exact o i (wr x) (by rw [List.getElem?_map,hi];rfl) j u r
theorem Cal.imp{p q:Pc}{al:Bool}{G:Type}{φ:G->Prop}{Yf:G->Value}{i:G->List Pc}(h:Cal P f args (p::pre) al φ Yf i)(F:∀w,q.holds w->p.holds w)(z:∀b,p.fp b->q.fp b) :
  Cal P f args (q::pre) al φ Yf i:=λw m=>by
 refine(h w λr a=>?_).mono ?_
 .rcases List.mem_cons.1 a with rfl|a
  .exact F w (m q (List.mem_cons_self ..))
  .exact m r (List.mem_cons_of_mem _ a)
 .rintro e S ⟨g,v,B,j,c⟩;refine⟨g,v,B,j,λI l=>?_⟩;obtain⟨n,o,u⟩:=c I l;refine⟨n,o,λb j=>?_⟩;rcases u b j with h|⟨h,r,a,d⟩
  .exact .inl h
  .refine .inr ⟨h,?_⟩;rcases List.mem_cons.1 a with rfl|a
   .exact⟨q,List.mem_cons_self ..,z b d⟩
   .exact⟨r,List.mem_cons_of_mem _ a,d⟩
end Go.Sky
namespace Go.Sky
variable{k m i:Nat}{f:Nat->Int}{xs:List Int}
def fill(n k:Nat)(f:Nat->Int):List Int:=mk n λi=>if i<k then f i else 0
def Qz(n k:Nat)(f:Nat->Int):(fill n k f).length=n:=Yw _ _
theorem Zb7{n:Nat}(h:k<n):(fill n k f).set k (f k)=fill n (k+1) f:=Kv (by simp [Qz]) λi hi=>by
 rw [List.length_set,Qz]at hi;rw [Zk4 _ _ _ _ (by rw [Qz];exact h)];unfold fill;rw [Lc,Lc,if_pos hi,if_pos hi];by_cases b:i=k
 .subst b;rw [if_pos rfl,if_pos O]
 .rw [if_neg b];by_cases a:i<k
  .rw [if_pos a,if_pos O]
  .rw [if_neg a,if_neg O]
theorem Cy(n:Nat)(f:Nat->Int):List.replicate n 0=fill n 0 f:=Kv (by simp [Qz]) λi hi=>by rw [List.length_replicate]at hi;unfold fill;rw [Lc,if_pos hi,if_neg O,Zcd (by simpa using hi)];simp
theorem Ft(n:Nat)(f:Nat->Int):fill n n f=mk n f:=Gh λi hi=>by rw [if_pos hi]
theorem Zoj(xs:List Int)(g:Int->Int):mk xs.length (λi=>g (cf xs i))=xs.map g:=Kv (by simp [Yw]) λi hi=>by rw [Yw]at hi;rw [Lc,if_pos hi,Zcd hi,Zcd (p:=xs.map g) (by simpa using hi)];simp
theorem Ae{n:Nat}(h:∀i,i<n->bl (f i).natAbs<=m):Sz m (mk n f):=λi=>by
 rw [Lc];split
 .exact h i ‹_›
 .simp [Kp]
theorem Mj{p:List Int}(h:Tr p):Tr (Xe p):=by
 unfold Xe;rcases Nat.lt_or_ge 1 p.length with a|a
 .right;rw [Yw,Lc,if_pos O];have c:=h.mem (by intro e;rw [e]at a;simp at a);rw [show p.length-1-1+1=p.length-1 by omega];intro d;rcases Int.mul_eq_zero.1 d with b|b
  .exact c b
  .omega
 .left;exact List.eq_nil_of_length_eq_zero (by rw [Yw];omega)
theorem Yao(xs:List Int)(c:Int):tzl (fill xs.length xs.length λi=>cf xs i*c)=Zq xs c:=by rw [Ft,Zoj xs (· * c)];rfl
theorem Ykq(h:Tr xs):tzl (fill (xs.length-1) (xs.length-1) λi=>cf xs (i+1)*((i:Int)+1))=Xe xs:=by rw [Ft];exact Ao (Mj h)
theorem Yey{p:List Int}(h:p.length=0):Xe p=[]:=List.eq_nil_of_length_eq_zero (by unfold Xe;rw [Yw];omega)
theorem Zjs(p:List Int)(x:Int):Yo (p ++ [x])=(Int.gcd (Yo p) x:Int):=by unfold Yo;rw [List.foldl_append];rfl
theorem Ov(p:List Int):0<=Yo p:=by
 rcases Zh1 p with rfl|⟨a,y,rfl⟩
 .exact Int.le_refl _
 .rw [Zjs];omega
theorem Lm{p:List Int}(h:k<p.length):Yo (p.take (k+1))=(Int.gcd (Yo (p.take k)) (p.getD k 0):Int):=by rw [Pm 0 _ _ h,Zjs]
theorem Ze7{n:Nat} : ∀(p:List Int),Sz n p->bl (Yo p).natAbs<=n:=λp=>by
 have a:∀k,k<=p.length->Sz n p->bl (Yo (p.take k)).natAbs<=n:=by
  intro k
  induction k with
  | zero=>intro _ _;rw [List.take_zero];exact Nat.zero_le _
  | succ k d=>
   intro c hs;rw [Lm c];have e:=d O hs;have b:=hs k;have:=Zp2 (Yo (p.take k)).natAbs (p.getD k 0).natAbs;have g:bl (p.getD k 0).natAbs<=n:=b;show bl (Nat.gcd _ _)<=n;omega
 intro hs;have:=a p.length (Nat.le_refl _) hs;rwa [List.take_length]at this
theorem Ld(p:List Int):∀i,Yo p∣cf p i:=by
 have a:∀k,k<=p.length->∀i,i<k->Yo (p.take k)∣cf p i:=by
  intro k
  induction k with
  | zero=>intro _ i hi;omega
  | succ k c=>
   intro b i hi;rw [Lm b];rcases Nat.lt_or_ge i k with h|h
   .exact Int.dvd_trans (Int.gcd_dvd_left ..) (c O i h)
   .have:i=k:=O;subst this;exact Int.gcd_dvd_right ..
 intro i;rcases Nat.lt_or_ge i p.length with h|h
 .have:=a p.length (Nat.le_refl _) i h;rwa [List.take_length]at this
 .rw [Yq h];exact Int.dvd_zero _
theorem Zbz(p:List Int):Yo p=0↔∀i,cf p i=0:=by
 refine⟨λh i=>by have:=Ld p i;rw [h]at this;exact Int.zero_dvd.1 this,λh=>?_⟩;have a:∀k,k<=p.length->Yo (p.take k)=0:=by
  intro k
  induction k with
  | zero=>intro _;rfl
  | succ k c=>
   intro b;rw [Lm b,c O];have:=h k;rw [show p.getD k 0=0 from this];rfl
 have:=a p.length (Nat.le_refl _);rwa [List.take_length]at this
theorem Fe{p:List Int}{d:Int}(h:∀i,d∣cf p i):d∣Yo p:=by
 have a:∀k,k<=p.length->d∣Yo (p.take k):=by
  intro k
  induction k with
  | zero=>intro _;exact Int.dvd_zero _
  | succ k c=>
   intro b;rw [Lm b];exact Int.dvd_coe_gcd (c O) (h k)
 have:=a p.length (Nat.le_refl _);rwa [List.take_length]at this
theorem Zau(p:List Int)(i:Nat):cf (Zu p) i=cf p i/Yo p:=by unfold Zu;rw [Zcc _ _ O7]
theorem Zw(p:List Int):(Zu p).length=p.length:=by simp [Zu]
theorem Zbd{x y:Int}{n:Nat}(h:y∣x)(b:bl x.natAbs<=n):bl (x/y).natAbs<=n:=by have a:(x/y).natAbs<=x.natAbs:=Int.natAbs_ediv_le_natAbs x y;exact Nat.le_trans (Py a) b
theorem Xc{p:List Int}(h:Tr p):Tr (Zu p):=by
 rcases h with rfl|h
 .left;rfl
 .right;rw [Zau,Zw];intro a;have b:=Ld p (p.length-1);have:=Int.mul_ediv_cancel' b;rw [a,Int.mul_zero]at this;exact h this.symm
theorem Fi{n:Nat}{p:List Int}(h:Sz n p):Sz n (Zu p):=λi=>by rw [Zau];exact Zbd (Ld p i) (h i)
theorem Im{p:List Int}(h:Vp p):Vp (Zu p):=⟨Fi h.sz,Xc h.tr,by rw [Zw];exact h.len⟩
def Vp.ne{p:List Int}(h:Vp p)(a:p≠[]):Yo p≠0:=λe=>h.tr.mem a ((Zbz p).1 e _)
def Lf(p:List Int)(n d:Int)(i:Nat):Int:=Ye (λm=>cf p (i+m)*(n^m*d^(p.length-1-(i+m)))) (p.length-i)
theorem Zss(p:List Int)(n d:Int):Lf p n d 0=pev p n d:=by unfold Lf pev;simp only [Nat.zero_add,Nat.sub_zero]
theorem Ylg{p:List Int}(n d:Int)(h:0<p.length):Lf p n d (p.length-1)=cf p (p.length-1):=by unfold Lf;rw [show p.length-(p.length-1)=0+1 by omega,Yn,He];simp
theorem Yf0{p:List Int}(n d:Int)(h:i<p.length):Lf p n d i=Lf p n d (i+1)*n+cf p i*d^(p.length-1-i):=by
 unfold Lf;rw [show p.length-i=p.length-(i+1)+1 by omega,Nz];rw [<-Zi3];have:Ye (λm=>cf p (i+(m+1))*(n^(m+1)*d^(p.length-1-(i+(m+1))))) (p.length-(i+1))=Ye (λm=>cf p (i+1+m)*(n^m*d^(p.length-1-(i+1+m)))*n) (p.length-(i+1)):=
  Xa λm a=>by rw [show i+(m+1)=i+1+m by omega,Int.pow_succ];grind
 rw [this];simp only [Nat.add_zero,Int.pow_zero,Int.one_mul];omega
theorem Zv8{K:Nat}{f:Nat->Int} : ∀{n:Nat},(∀i,i<n->bl (f i).natAbs<=K)->(Ye f n).natAbs<=n*(2^K-1)
 | 0,_=>by simp [Ye]
 | n+1,h=>by have b:=Zv8 (n:=n) λi hi=>h i O;have a:=(Qh K _).1 (h n O);rw [Yn,Nat.add_mul];have:=Int.natAbs_add_le (Ye f n) (f n);omega
theorem Zio{K:Nat}{n:Nat}(h:∀i,i<n->bl (f i).natAbs<=K)(a:n<=31):bl (Ye f n).natAbs<=K+5:=by rw [Qh];have b:=Zv8 h;have c:n*(2^K-1)<=31*(2^K-1):=Nat.mul_le_mul_right _ a;have d:0<2^K:=Nat.two_pow_pos K;rw [Nat.pow_add];omega
theorem Cr(x:Int){m:Nat}(h:bl x.natAbs<=m):∀k,0<k->bl (x^k).natAbs<=k*m
 | 0,a=>O
 | 1,_=>by rw [Int.pow_succ,Int.pow_zero,Int.one_mul,Nat.one_mul];exact h
 | k+2,_=>by have b:=Cr x h (k+1) O;rw [Int.pow_succ,show k+2=(k+1)+1 from rfl,Nat.add_mul (k+1) 1 m];have:=Xj (x^(k+1)) x;omega
theorem Zin{a n d:Int}{A j:Nat}(l:bl a.natAbs<=A)(h:bl n.natAbs<=m)(g:bl d.natAbs<=m):bl (a*(n^i*d^j)).natAbs<=A+(i+j)*m:=by
 rcases Nat.eq_zero_or_pos i with rfl|hi
 .rcases Nat.eq_zero_or_pos j with rfl|c
  .simp;exact l
  .have e:=Cr d g j c;have b:=Xj a (n^0*d^j);rw [Int.pow_zero,Int.one_mul]at b ⊢;rw [Nat.zero_add];omega
 .rcases Nat.eq_zero_or_pos j with rfl|c
  .have e:=Cr n h i hi;have b:=Xj a (n^i*d^0);rw [Int.pow_zero,Int.mul_one]at b ⊢;rw [Nat.add_zero];omega
  .have e:=Cr n h i hi;have b:=Cr d g j c;have o:=Xj (n^i) (d^j);have p:=Xj a (n^i*d^j);rw [Nat.add_mul];omega
theorem Yh5{p:List Int}{n d:Int}{A:Nat}(e:Sz A p)(c:bl n.natAbs<=m)(b:bl d.natAbs<=m)(h:p.length<=31)(i:Nat):bl (Lf p n d i).natAbs<=A+(p.length-1-i)*m+5:=by unfold Lf;refine Zio (λk g=>?_) O;have a:=Zin (i:=k) (j:=p.length-1-(i+k)) (e (i+k)) c b;rw [show k+(p.length-1-(i+k))=p.length-1-i by omega]at a;exact a
def Ki(p:List Int)(n d:Int):Prop:=p≠[]/\65536<Qx p+(p.length-1)*Qx [n,d]+8
instance (p:List Int) (n d:Int):Decidable (Ki p n d):=by unfold Ki;infer_instance
def evv(p:List Int)(n d:Int):Int:=if Ki p n d then 0 else pev p n d
def eve(p:List Int)(n d:Int):Int:=if Ki p n d then 7 else 0
abbrev wc (x:Int):Array Value:=#[.bool (decide (x<0)),.string (Xy x.natAbs)]
section
variable {p:List Int} {n d:Int} (hF:Qx p+(p.length-1)*Qx [n,d]+8<=65536) (hl:p.length<=25)
include hF
theorem Zhc:bl n.natAbs<=Qx [n,d]/\bl d.natAbs<=Qx [n,d]:=by simp only [Qx];omega
theorem Zpa : bl (d^(p.length-1-k)).natAbs<=65536:=by
 rcases Nat.eq_zero_or_pos (p.length-1-k)with h|h
 .rw [h,Int.pow_zero];decide
 .have a:=Cr d (Zhc hF).2 _ h;have b:(p.length-1-k)*Qx [n,d]<=(p.length-1)*Qx [n,d]:=Nat.mul_le_mul_right _ O;omega
theorem Zo9 : bl (cf p k*d^(p.length-1-k)).natAbs<=65536:=by have a:=Zin (i:=0) (j:=p.length-1-k) (Kt p k) (Zhc hF).1 (Zhc hF).2;have b:(0+(p.length-1-k))*Qx [n,d]<=(p.length-1)*Qx [n,d]:=Nat.mul_le_mul_right _ O;rw [Int.pow_zero,Int.one_mul]at a;omega
include hl
theorem Zpb(k:Nat):bl (Lf p n d k).natAbs<=65536:=by have a:=Yh5 (Kt p) (Zhc hF).1 (Zhc hF).2 O k;have b:(p.length-1-k)*Qx [n,d]<=(p.length-1)*Qx [n,d]:=Nat.mul_le_mul_right _ O;omega
theorem Zvj(a:1<=k)(b:k<=p.length-1):bl (Lf p n d k*n).natAbs<=65536:=by
 have c:=Yh5 (Kt p) (Zhc hF).1 (Zhc hF).2 O k;have e:=Xj (Lf p n d k) n;have g:=(Zhc hF).1;have h:(p.length-1-k)*Qx [n,d]+Qx [n,d]<=(p.length-1)*Qx [n,d]:=by rw [<-Nat.succ_mul];exact Nat.mul_le_mul_right _ O
 omega
end
theorem evv_bl{p:List Int}{n d:Int}(hl:p.length<=25):bl (evv p n d).natAbs<=65536:=by
 unfold evv;split
 .decide
 .rename_i h;rcases Nat.eq_zero_or_pos p.length with a|a
  .rw [List.eq_nil_of_length_eq_zero a,show pev [] n d=0 from rfl];decide
  .rw [<-Zss];have c:p≠[]:=λe=>by rw [e]at a;simp at a
   exact Zpb (Nat.le_of_not_lt λb=>h ⟨c,b⟩) hl 0
theorem Yeo(d:Int){L:Nat}(a:1<=k)(b:k<=L):d^(L-k)*d=d^(L-(k-1)):=by rw [show L-(k-1)=L-k+1 by omega,Int.pow_succ]
theorem Ybc{p:List Int}(n d:Int)(a:1<=k)(b:k<=p.length-1):Lf p n d k*n+cf p (k-1)*d^(p.length-1-(k-1))=Lf p n d (k-1):=by rw [Yf0 n d (i:=k-1) O,show k-1+1=k by omega]
end Go.Sky
namespace Go.Sky
variable{k i B t:Nat}{f:Nat->Int}{q r c R:List Int}{a b:Int}
def acc(p q:List Int)(i t:Nat):Int:=Ye (λk=>if k<=t then cf p k*cf q (t-k)else 0) i
def Zav(p q:List Int)(i j t:Nat):Int:=acc p q i t+if i<=t/\t<i+j then cf p i*cf q (t-i)else 0
theorem Ybx(p q:List Int)(i:Nat):Zav p q i 0=acc p q i:=funext λt=>by unfold Zav;rw [if_neg O,Int.add_zero]
theorem Yim(p q:List Int)(i:Nat):Zav p q i q.length=acc p q (i+1):=funext λt=>by
 unfold Zav acc;rw [Yn];by_cases h:i<=t
 .rw [if_pos h];by_cases d:t<i+q.length
  .rw [if_pos ⟨h,d⟩]
  .rw [if_neg (λh=>d h.2),Yq (p:=q) O,Int.mul_zero]
 .rw [if_neg h,if_neg (λd=>h d.1)]
theorem Zj1{L:Nat}{g:Nat->Int}(j:k<L)(h:∀t,t<L->t≠k->f t=g t)(x:Int)(l:x=g k):(mk L f).set k x=mk L g:=Kv (by simp [Yw]) λt e=>by
 rw [List.length_set,Yw]at e;rw [Zk4 _ _ _ _ (by rw [Yw];exact j),Lc,Lc,if_pos e];by_cases d:t=k
 .rw [if_pos d,d,l,if_pos j]
 .rw [if_neg d,if_pos e,h t e d]
theorem Yil{p:List Int}{L j:Nat}(h:i+j<L):(mk L (Zav p q i j)).set (i+j) (Zav p q i j (i+j)+cf p i*cf q j)=mk L (Zav p q i (j+1)):=by
 refine Zj1 h (λt g e=>?_) _ ?_
 .unfold Zav;by_cases d:i<=t/\t<i+j
  .rw [if_pos d,if_pos O]
  .rw [if_neg d,if_neg O]
 .unfold Zav;rw [if_neg O,if_pos O,Int.add_zero,show i+j-i=j by omega]
theorem Zt2(p q:List Int)(t:Nat):acc p q p.length t=(ps p*ps q).c t:=by
 rw [PS.mul_c];unfold acc;have d:Ye (λk=>if k<=t then cf p k*cf q (t-k)else 0) (max (t+1) p.length)=Ye (λk=>if k<=t then cf p k*cf q (t-k)else 0) p.length:=
  Zgc O λk d _=>by rw [Yq d,Int.zero_mul];split<;>rfl
 have e:Ye (λk=>if k<=t then cf p k*cf q (t-k)else 0) (max (t+1) p.length)=Ye (λk=>if k<=t then cf p k*cf q (t-k)else 0) (t+1):=
  Zgc O λk d _=>by rw [if_neg O]
 rw [<-d,e];exact Xa λk g=>by rw [if_pos O];rfl
theorem Zus(L:Nat):List.replicate L 0=mk L λ_=>0:=by rw [Cy L λ_=>0];unfold fill;exact Gh λi _=>by split<;>rfl
theorem Yet(p q:List Int):tzl (mk (p.length+q.length-1) (acc p q p.length))=Qf p q:=by unfold Qf;congr 1;exact Gh λi _=>Zt2 p q i
theorem Ym7{p:List Int}{A j:Nat}(g:Sz A p)(l:Sz B q)(hi:i<31):bl (Zav p q i j t).natAbs<=A+B+5:=by
 have h:Zav p q i j t=Ye (λk=>if k<i then(if k<=t then cf p k*cf q (t-k)else 0)else if i<=t/\t<i+j then cf p i*cf q (t-i)else 0) (i+1):=by rw [Yn];rw [if_neg (Nat.lt_irrefl i)];unfold Zav acc;congr 1;exact Xa λk d=>by rw [if_pos d]
 rw [h];have e:∀a b,bl (cf p a*cf q b).natAbs<=A+B:=λa b=>by have:=Xj (cf p a) (cf q b);have:=g a;have:=l b;omega
 refine Zio (λk d=>?_) O;split
 .split
  .exact e _ _
  .simp [Kp]
 .split
  .exact e _ _
  .simp [Kp]
theorem bl_acc{p:List Int}{A:Nat}(d:Sz A p)(e:Sz B q)(hi:i<=31):bl (acc p q i t).natAbs<=A+B+5:=by
 refine Zio (λk g=>?_) hi;split
 .have:=Xj (cf p k) (cf q (t-k));have:=d k;have:=e (t-k);omega
 .simp [Kp]
def Ad(p q:List Int):Prop:=p≠[]/\q≠[]/\(24<p.length+q.length-2\/65536<Qx p+Qx q+5)
instance (p q:List Int):Decidable (Ad p q):=by unfold Ad;infer_instance
theorem Zc5{L:Nat}(h:i<L):(mk L f).getD i 0=f i:=by have:=Lc L f i;rw [if_pos h]at this;exact this
def Yl2(p q:List Int):Bool:=decide (q≠[]) && decide (p.length<q.length)
def Cn(p q:List Int):Int:=if q.length=0 then 3 else if p.length<q.length then 0 else if 65536<Qx p+(p.length-q.length+1)*(Qx q+1)then 7 else 0
def Zg6(q r:List Int)(d:Nat):List Int:=
 mk r.length λt=>cf r t*cf q (q.length-1)-if d-(q.length-1)<=t/\t<d-(q.length-1)+q.length then cf r d*cf q (t-(d-(q.length-1)))else 0
def Qw(p q:List Int):Nat->List Int
 | 0=>p
 | j+1=>Zg6 q (Qw p q j) (p.length-1-j)
def Zfg(q r:List Int)(d:Nat):(Zg6 q r d).length=r.length:=Yw _ _
theorem Lb(p q:List Int):∀j,(Qw p q j).length=p.length
 | 0=>rfl
 | j+1=>by unfold Qw;rw [Zfg,Lb p q j]
def Qk(p q:List Int):List Int:=if p.length<q.length then p else tzl (Qw p q (p.length-q.length+1))
theorem Ztq{d:Nat}(e:t<r.length):cf (Zg6 q r d) t=cf r t*cf q (q.length-1)-if d-(q.length-1)<=t/\t<d-(q.length-1)+q.length then cf r d*cf q (t-(d-(q.length-1)))else 0:=by unfold Zg6;rw [Lc,if_pos e]
theorem Zzj{c d:Int}{A:Nat}(j:bl a.natAbs<=A)(l:bl b.natAbs<=B)(m:bl c.natAbs<=A)(n:bl d.natAbs<=B):bl (a*b-c*d).natAbs<=A+(B+1):=by have e:=Xj a b;have g:=Xj c d;have h:=An (a*b) (c*d);omega
theorem Ycm{A:Nat}(e:Sz A r)(d:Sz B q)(g:Nat):Sz (A+(B+1)) (Zg6 q r g):=by
 unfold Zg6;refine Ae λt h=>?_;split
 .exact Zzj (e t) (d _) (e _) (d _)
 .rw [Int.sub_zero];have:=Xj (cf r t) (cf q (q.length-1));have:=e t;have:=d (q.length-1);omega
theorem Zf9(p q:List Int):∀j,Sz (Qx p+j*(Qx q+1)) (Qw p q j)
 | 0=>by rw [Nat.zero_mul];exact Kt p
 | j+1=>by unfold Qw;rw [Nat.succ_mul,<-Nat.add_assoc];exact Ycm (Zf9 p q j) (Kt q) _
def dq(q r:List Int)(k:Nat):Int:=cf r (k+q.length-1)/cf q (q.length-1)
def Zkr(q r:List Int)(k:Nat):List Int:=mk r.length λt=>cf r t-if k<=t/\t<k+q.length then dq q r k*cf q (t-k)else 0
def Pa(p q:List Int):Nat->List Int
 | 0=>p
 | j+1=>Zkr q (Pa p q j) (p.length-q.length-j)
theorem Aw(p q:List Int):∀j,(Pa p q j).length=p.length
 | 0=>rfl
 | j+1=>by unfold Pa Zkr;rw [Yw,Aw p q j]
def Zyz(p q:List Int)(k:Nat):Int:=dq q (Pa p q (p.length-q.length-k)) k
def Iv(p q:List Int)(k:Nat):Prop:=cf (Pa p q (p.length-q.length-k)) (k+q.length-1)%cf q (q.length-1)=0
def Yel(p q:List Int):List Int:=tzl (mk (p.length-q.length+1) (Zyz p q))
def pdivs(p q:List Int):Prop:=p=[]\/(q.length<=p.length/\(∀k,k<=p.length-q.length->Iv p q k)/\∀i,cf (Pa p q (p.length-q.length+1)) i=0)
theorem Yco{A:Nat}(d:Sz A r)(g:Sz B q)(k:Nat)(e:cf r (k+q.length-1)%cf q (q.length-1)=0):Sz (A+(B+1)) (Zkr q r k):=by
 unfold Zkr;refine Ae λt m=>?_;split
 .have h:bl (dq q r k).natAbs<=A:=Zbd (Int.dvd_of_emod_eq_zero e) (d _);have j:=Xj (dq q r k) (cf q (t-k));have l:=An (cf r t) (dq q r k*cf q (t-k));have:=d t;have:=g (t-k);omega
 .rw [Int.sub_zero];have:=d t;omega
theorem Zgb(p q:List Int):∀j,j<=p.length-q.length+1->(∀k,p.length-q.length<k+j->k<=p.length-q.length->Iv p q k)->Sz (Qx p+j*(Qx q+1)) (Pa p q j)
 | 0,_,_=>by rw [Nat.zero_mul];exact Kt p
 | j+1,g,h=>by unfold Pa;rw [Nat.succ_mul,<-Nat.add_assoc];refine Yco (Zgb p q j O λk e d=>h k O d) (Kt q) _ ?_;have:=h (p.length-q.length-j) O O;unfold Iv at this;rw [show p.length-q.length-(p.length-q.length-j)=j by omega]at this;exact this
theorem Ygs{x y:Bool×ByteArray}(h:eqW x.1 x.2 y.1 y.2=true):x=y:=by obtain⟨d,e⟩:=Zpf.1 h;exact Prod.ext d e
def Ygr(a:Bool)(s:ByteArray):eqW a s a s=true:=Zpf.2 ⟨rfl,rfl⟩
theorem Yby(p q:List Int)(i j:Nat):Zav p q i (j+1) (i+j)=Zav p q i j (i+j)+cf p i*cf q j:=by unfold Zav;rw [if_pos O,if_neg O,Int.add_zero,show i+j-i=j by omega]
theorem Zai{p:List Int}(h:p.length=0\/q.length=0):Qf p q=[]:=by
 unfold Qf;refine(Lo _).2 λi=>?_;rw [Lc];split
 .rw [PS.mul_c];refine Gk λk _=>?_;rcases h with h|h
  .rw [Na,Yq O,Int.zero_mul]
  .rw [Na,Na,Yq (p:=q) O,Int.mul_zero]
 .rfl
def Zhn(R:List Int)(l:Int)(i:Nat):List Int:=mk R.length λt=>if t<i then cf R t*l else cf R t
def Zlm(q R:List Int)(l c:Int)(s i:Nat):List Int:=mk R.length λt=>cf R t*l-if s<=t/\t<s+i then c*cf q (t-s)else 0
def Zsg(R:List Int)(l:Int)(i:Nat):(Zhn R l i).length=R.length:=Yw _ _
def Zsf(q R:List Int)(l c:Int)(s i:Nat):(Zlm q R l c s i).length=R.length:=Yw _ _
theorem Yaz(R:List Int)(l:Int):Zhn R l 0=R:=by unfold Zhn;refine Eq.trans (Gh λi hi=>?_) (Zcz R);rw [if_neg O]
theorem Yff{l:Int}(h:i<R.length):(Zhn R l i).getD i 0=cf R i:=by unfold Zhn;rw [Zc5 h,if_neg O]
theorem Yfe{l:Int}(h:i<R.length):(Zhn R l i).set i (cf R i*l)=Zhn R l (i+1):=by
 unfold Zhn;refine Zj1 h (λt g e=>?_) _ (by rw [if_pos O]);by_cases d:t<i
 .rw [if_pos d,if_pos O]
 .rw [if_neg d,if_neg O]
theorem Zz6(q R:List Int)(l c:Int)(s:Nat):Zhn R l R.length=Zlm q R l c s 0:=by unfold Zhn Zlm;exact Gh λi hi=>by rw [if_pos hi,if_neg O,Int.sub_zero]
theorem Ycs{l c:Int}{s:Nat}(h:s+i<R.length):(Zlm q R l c s i).getD (s+i) 0=cf R (s+i)*l:=by unfold Zlm;rw [Zc5 h,if_neg O,Int.sub_zero]
theorem Ycr{l c:Int}{s:Nat}(h:s+i<R.length):(Zlm q R l c s i).set (s+i) (cf R (s+i)*l-c*cf q i)=Zlm q R l c s (i+1):=by
 unfold Zlm;refine Zj1 h (λt g e=>?_) _ (by rw [if_pos O,show s+i-s=i by omega]);by_cases d:s<=t/\t<s+i
 .rw [if_pos d,if_pos O]
 .rw [if_neg d,if_neg O]
theorem rest_b{p:List Int}{j:Nat}(g:Qx p+(p.length-q.length+1)*(Qx q+1)<=65536)(h:j<p.length-q.length+1) :
  (∀t,bl (cf (Qw p q j) t).natAbs<=65536)/\(∀t i,bl (cf (Qw p q j) t*cf q i).natAbs<=65536)/\(∀t i t2 i2,bl (cf (Qw p q j) t*cf q i-cf (Qw p q j) t2*cf q i2).natAbs<=65536):=by
 have d:=Zf9 p q j;have e:j*(Qx q+1)+(Qx q+1)<=(p.length-q.length+1)*(Qx q+1):=by rw [<-Nat.succ_mul];exact Nat.mul_le_mul_right _ O
 refine⟨λt=>by have:=d t;omega,λt i=>?_,λt i t2 i2=>?_⟩
 .have:=d t;have:=Kt q i;have:=Xj (cf (Qw p q j) t) (cf q i);omega
 .have:=Zzj (d t) (Kt q i) (d t2) (Kt q i2);omega
def Zqt{p:List Int}(d:Qx p+(p.length-q.length+1)*(Qx q+1)<=65536):Sz 65536 (Qw p q (p.length-q.length+1)):=(Zf9 p q _).mono d
theorem Zc7{p:List Int}(h:Cn p q=0):q.length≠0/\(q.length<=p.length->Qx p+(p.length-q.length+1)*(Qx q+1)<=65536):=by
 unfold Cn at h;split at h
 .omega
 .refine⟨‹_›,λd=>?_⟩;rw [if_neg O]at h;split at h
  .omega
  .omega
theorem Zft{p:List Int}(h:q.length≠0):Yl2 p q=decide (p.length<q.length):=by unfold Yl2;have d:q≠[]:=λe=>h (by rw [e];rfl);simp [d]
def Zlr(q R:List Int)(c:Int)(k i:Nat):List Int:=mk R.length λt=>cf R t-if k<=t/\t<k+i then c*cf q (t-k)else 0
def Zsh(q R:List Int)(c:Int)(k i:Nat):(Zlr q R c k i).length=R.length:=Yw _ _
theorem Ybk(q R:List Int)(c:Int)(k:Nat):R=Zlr q R c k 0:=by unfold Zlr;refine Eq.trans (Zcz R).symm (Gh λi hi=>?_);rw [if_neg O,Int.sub_zero]
theorem Ygx{c:Int}(h:k+i<R.length):(Zlr q R c k i).getD (k+i) 0=cf R (k+i):=by unfold Zlr;rw [Zc5 h,if_neg O,Int.sub_zero]
theorem Ygw{c:Int}(h:k+i<R.length):(Zlr q R c k i).set (k+i) (cf R (k+i)-c*cf q i)=Zlr q R c k (i+1):=by
 unfold Zlr;refine Zj1 h (λt g e=>?_) _ (by rw [if_pos O,show k+i-k=i by omega]);by_cases d:k<=t/\t<k+i
 .rw [if_pos d,if_pos O]
 .rw [if_neg d,if_neg O]
def Zgs(p q:List Int)(j:Nat):List Int:=mk (p.length-q.length+1) λt=>if p.length-q.length<t+j then Zyz p q t else 0
def Zb3(p q:List Int)(j:Nat):(Zgs p q j).length=p.length-q.length+1:=Yw _ _
theorem Ybn(p q:List Int):List.replicate (p.length-q.length+1) 0=Zgs p q 0:=by rw [Zus];unfold Zgs;exact Gh λi hi=>by rw [if_neg O]
theorem Yg0{p:List Int}{j:Nat}(g:j<p.length-q.length+1):(Zgs p q j).set (p.length-q.length-j) (dq q (Pa p q j) (p.length-q.length-j))=Zgs p q (j+1):=by
 unfold Zgs;refine Zj1 O (λt h e=>?_) _ ?_
 .by_cases d:p.length-q.length<t+j
  .rw [if_pos d,if_pos O]
  .rw [if_neg d,if_neg O]
 .rw [if_pos O];unfold Zyz;rw [show p.length-q.length-(p.length-q.length-j)=j by omega]
theorem Zfs(p q:List Int):tzl (Zgs p q (p.length-q.length+1))=Yel p q:=by unfold Zgs Yel;congr 1;exact Gh λi hi=>by rw [if_pos O]
def pdv(p q:List Int):Prop:=p=[]\/(q.length<=p.length/\(∀k,k<=p.length-q.length->Iv p q k)/\tzl (Pa p q (p.length-q.length+1))=[])
instance (p q:List Int) (k:Nat):Decidable (Iv p q k):=by unfold Iv;infer_instance
instance (p q:List Int):Decidable (pdv p q):=by unfold pdv;infer_instance
theorem div_b{p:List Int}{j:Nat}(n:Qx p+(p.length-q.length+1)*(Qx q+1)<=65536)(o:j<p.length-q.length+1)(h:∀k,p.length-q.length<k+j->k<=p.length-q.length->Iv p q k) :
  (∀t,bl (cf (Pa p q j) t).natAbs<=65536)/\(Iv p q (p.length-q.length-j)->bl (dq q (Pa p q j) (p.length-q.length-j)).natAbs<=65536/\(∀i,bl (dq q (Pa p q j) (p.length-q.length-j)*cf q i).natAbs<=65536)/\
   ∀t i,bl (cf (Pa p q j) t-dq q (Pa p q j) (p.length-q.length-j)*cf q i).natAbs<=65536):=by
 have d:=Zgb p q j O h;have l:j*(Qx q+1)+(Qx q+1)<=(p.length-q.length+1)*(Qx q+1):=by rw [<-Nat.succ_mul];exact Nat.mul_le_mul_right _ O
 refine⟨λt=>by have:=d t;omega,λe=>?_⟩;unfold Iv at e;rw [show p.length-q.length-(p.length-q.length-j)=j by omega]at e;have m:bl (dq q (Pa p q j) (p.length-q.length-j)).natAbs<=Qx p+j*(Qx q+1):=Zbd (Int.dvd_of_emod_eq_zero e) (d _);have g:∀i,bl (dq q (Pa p q j) (p.length-q.length-j)*cf q i).natAbs<=Qx p+j*(Qx q+1)+Qx q:=λi=>by have:=Xj (dq q (Pa p q j) (p.length-q.length-j)) (cf q i);have:=Kt q i;omega
 refine⟨O,λi=>by have:=g i;omega,λt i=>?_⟩;have:=An (cf (Pa p q j) t) (dq q (Pa p q j) (p.length-q.length-j)*cf q i);have:=g i;have:=d t;omega
theorem Zwx{p:List Int}(g:Qx p+(p.length-q.length+1)*(Qx q+1)<=65536)(e:∀k,k<=p.length-q.length->Iv p q k)(j:Nat):Sz 65536 (Zgs p q j):=by
 unfold Zgs;refine Ae λt l=>?_;split
 .have d:=(div_b g (j:=p.length-q.length-t) O (λk _ h=>e k h)).2;rw [show p.length-q.length-(p.length-q.length-t)=t by omega]at d;exact(d (e t O)).1
 .simp [Kp]
def Ycp{p:List Int}(d:Qx p+(p.length-q.length+1)*(Qx q+1)<=65536)(g:∀k,k<=p.length-q.length->Iv p q k):Sz 65536 (Pa p q (p.length-q.length+1)):=
 (Zgb p q _ (Nat.le_refl _) λk _ e=>g k e).mono d
def Mz(p:List Int)(a b d:Int):Nat->List Int
 | 0=>[cf p (p.length-1)]
 | j+1=>mk ((Mz p a b d j).length+1) λt=>cf (Mz p a b d j) t*a+(if t=0 then cf p (p.length-2-j)*d^(j+1)else cf (Mz p a b d j) (t-1)*b)
def Ev(p:List Int)(a b d:Int):Mz p a b d 0=[cf p (p.length-1)]:=rfl
def Ybs(p:List Int)(a b d:Int)(j:Nat):Mz p a b d (j+1)=mk ((Mz p a b d j).length+1) (λt=>cf (Mz p a b d j) t*a+(if t=0 then cf p (p.length-2-j)*d^(j+1)else cf (Mz p a b d j) (t-1)*b)):=rfl
theorem Zb4(p:List Int)(a b d:Int):∀j,(Mz p a b d j).length=j+1
 | 0=>rfl
 | j+1=>by unfold Mz;rw [Yw,Zb4 p a b d j]
def Ks(p:List Int)(a b d:Int):List Int:=if p.length=0 then []else tzl (Mz p a b d (p.length-1))
def Zkw(p:List Int)(a b d:Int):Prop:=p≠[]/\65536<Qx p+(p.length-1)*(Qx [a,b,d]+1)+8
instance (p:List Int) (a b d:Int):Decidable (Zkw p a b d):=by unfold Zkw;infer_instance
def Kr(p q:List Int):List Int:=if p=[]then []else Yel p q
def Zrr{p:List Int}(h:p≠[]):Kr p q=Yel p q:=if_neg h
theorem Zs5{p:List Int}{j:Nat}(d:j<=p.length-q.length):Iv p q (p.length-q.length-j)↔cf (Pa p q j) (p.length-q.length-j+q.length-1)%cf q (q.length-1)=0:=by unfold Iv;rw [show p.length-q.length-(p.length-q.length-j)=j by omega]
def Zto{x y:Int}(e:y≠0)(d:bl y.natAbs<=65536):Zas (x%y)=x%y:=Il (Nat.le_trans (Zzl x y e) d)
def cnx(c:List Int)(a b:Int)(i:Nat):List Int:=mk (c.length+1) λt=>if t<i then cf c t*a+(if t=0 then 0 else cf c (t-1)*b)else if t=i/\0<i then cf c (t-1)*b else 0
def Hj(c:List Int)(a b:Int)(i:Nat):(cnx c a b i).length=c.length+1:=Yw _ _
theorem Yhp(c:List Int)(a b:Int):List.replicate (c.length+1) 0=cnx c a b 0:=by rw [Zus];unfold cnx;exact Gh λi hi=>by rw [if_neg O,if_neg O]
theorem Zy7(h:i<c.length):(cnx c a b i).getD i 0=if i=0 then 0 else cf c (i-1)*b:=by
 unfold cnx;rw [Zc5 O,if_neg O];by_cases d:i=0
 .rw [if_neg O,if_pos d]
 .rw [if_pos O,if_neg d]
theorem Ymd(h:i<c.length):((cnx c a b i).set i ((cnx c a b i).getD i 0+cf c i*a)).set (i+1) (cf c i*b)=cnx c a b (i+1):=Kv (by simp [Hj]) λt g=>by
 rw [List.length_set,List.length_set,Hj]at g;rw [Zk4 _ _ _ _ (by rw [List.length_set,Hj];omega),Zk4 _ _ _ _ (by rw [Hj];omega),Zy7 h];unfold cnx;rw [Lc,Lc,if_pos g,if_pos g];by_cases d:t=i+1
 .subst d;rw [if_pos rfl,if_neg O,if_pos O,show i+1-1=i by omega]
 .rw [if_neg d];by_cases e:t=i
  .subst e;rw [if_pos rfl,if_pos (Nat.lt_succ_self t)];split<;>omega
  .rw [if_neg e];by_cases j:t<i
   .simp [j,show t<i+1 by omega]
   .simp [j,e,d,show ¬t<i+1 by omega]
theorem Ztl(h:0<c.length):(cnx c a b c.length).getD 0 0=cf c 0*a:=by unfold cnx;rw [Zc5 O,if_pos h,if_pos rfl,Int.add_zero]
theorem Yme{w:Int}(h:0<c.length):(cnx c a b c.length).set 0 ((cnx c a b c.length).getD 0 0+w)=mk (c.length+1) λt=>cf c t*a+(if t=0 then w else cf c (t-1)*b):=Kv (by simp [Hj,Yw]) λt e=>by
 rw [List.length_set,Hj]at e;rw [Zk4 _ _ _ _ (by rw [Hj];omega),Ztl h,Lc,if_pos e];unfold cnx;rw [Lc,if_pos e];by_cases d:t=0
 .rw [if_pos d,if_pos d,d]
 .rw [if_neg d,if_neg d,if_neg d];by_cases g:t<c.length
  .rw [if_pos g]
  .rw [if_neg g,if_pos (show t=c.length/\0<c.length by omega),Yq (i:=t) O];omega
theorem Zh0{p:List Int}{x y z:Int}{A m:Nat}(d:Sz A p)(l:bl x.natAbs<=m)(v:bl y.natAbs<=m)(n:bl z.natAbs<=m):∀j,Sz (A+j*(m+1)) (Mz p x y z j)
 | 0=>Sz.of_mem λw g=>by have g:w∈[cf p (p.length-1)]:=g;rw [List.mem_singleton.1 g];have:=d (p.length-1);omega
 | j+1=>by
  have o:=Zh0 d l v n j;unfold Mz;refine Ae λt G=>?_;have D:=Xj (cf (Mz p x y z j) t) x;have F:=o t;have e:(j+1)*(m+1)=j*(m+1)+m+1:=by rw [Nat.succ_mul];omega
  split
  .have h:=Zin (i:=0) (j:=j+1) (d (p.length-2-j)) l n;rw [Int.pow_zero,Int.one_mul]at h;have s:(0+(j+1))*m<=j*(m+1)+m:=by rw [Nat.zero_add,Nat.succ_mul];have:j*m<=j*(m+1):=Nat.mul_le_mul_left _ O;omega
   have u:=Gd (cf (Mz p x y z j) t*x) (cf p (p.length-2-j)*z^(j+1));omega
  .have h:=Xj (cf (Mz p x y z j) (t-1)) y;have s:=o (t-1);have u:=Gd (cf (Mz p x y z j) t*x) (cf (Mz p x y z j) (t-1)*y);omega
section
variable {p:List Int} {x y z:Int} (hF:Qx p+(p.length-1)*(Qx [x,y,z]+1)+8<=65536) {j:Nat} (hj:j<p.length-1)
include hF hj
theorem cp_all:bl (z^j).natAbs<=65536/\bl (z^(j+1)).natAbs<=65536/\(∀t,bl (cf (Mz p x y z j) t).natAbs<=65536)/\(∀t,bl (cf (Mz p x y z j) t*x).natAbs<=65536)/\(∀t,bl (cf (Mz p x y z j) t*y).natAbs<=65536)/\
  (∀t,bl ((if t=0 then 0 else cf (Mz p x y z j) (t-1)*y)).natAbs<=65536)/\(∀t,bl ((if t=0 then 0 else cf (Mz p x y z j) (t-1)*y)+cf (Mz p x y z j) t*x).natAbs<=65536)/\
  bl (cf p (p.length-2-j)*z^(j+1)).natAbs<=65536/\bl (cf (Mz p x y z j) 0*x+cf p (p.length-2-j)*z^(j+1)).natAbs<=65536:=by
 have v:bl x.natAbs<=Qx [x,y,z]:=by simp only [Qx];omega
 have F:bl y.natAbs<=Qx [x,y,z]:=by simp only [Qx];omega
 have d:bl z.natAbs<=Qx [x,y,z]:=by simp only [Qx];omega
 have l:=Zh0 (Kt p) v F d j;generalize Qx [x,y,z]=m at *;have e:j*(m+1)+(m+1)<=(p.length-1)*(m+1):=by rw [<-Nat.succ_mul];exact Nat.mul_le_mul_right _ O
 have D:j*m<=j*(m+1):=Nat.mul_le_mul_left _ O;have w:=Zin (i:=0) (j:=j+1) (Kt p (p.length-2-j)) v d;rw [Int.pow_zero,Int.one_mul,Nat.zero_add,Nat.succ_mul]at w;have o:=Cr z d (j+1) O;rw [Nat.succ_mul]at o;have n:bl (z^j).natAbs<=65536:=by
  rcases Nat.eq_zero_or_pos j with h|h
  .rw [h,Int.pow_zero];decide
  .have:=Cr z d j h;omega
 have g:∀t,bl (cf (Mz p x y z j) t*x).natAbs<=Qx p+j*(m+1)+m:=λt=>by have:=Xj (cf (Mz p x y z j) t) x;have:=l t;omega
 have s:∀t,bl (cf (Mz p x y z j) t*y).natAbs<=Qx p+j*(m+1)+m:=λt=>by have:=Xj (cf (Mz p x y z j) t) y;have:=l t;omega
 have u:∀t,bl ((if t=0 then 0 else cf (Mz p x y z j) (t-1)*y)).natAbs<=Qx p+j*(m+1)+m:=λt=>by
  split
  .simp [Kp]
  .exact s _
 refine⟨n,O,λt=>by have:=l t;omega,λt=>by have:=g t;omega,λt=>by have:=s t;omega,λt=>by have:=u t;omega,λt=>?_,O,?_⟩
 .have:=Gd (if t=0 then 0 else cf (Mz p x y z j) (t-1)*y) (cf (Mz p x y z j) t*x);have:=g t;have:=u t;omega
 .have:=Gd (cf (Mz p x y z j) 0*x) (cf p (p.length-2-j)*z^(j+1));have:=g 0;omega
end
theorem Yma{p:List Int}{x y z:Int}(hF:Qx p+(p.length-1)*(Qx [x,y,z]+1)+8<=65536):Sz 65536 (Mz p x y z (p.length-1)):=by
 have d:bl x.natAbs<=Qx [x,y,z]:=by simp only [Qx];omega
 have e:bl y.natAbs<=Qx [x,y,z]:=by simp only [Qx];omega
 have g:bl z.natAbs<=Qx [x,y,z]:=by simp only [Qx];omega
 exact(Zh0 (Kt p) d e g _).mono O
theorem Zho(p q:List Int):(Qk p q).length<=p.length:=by
 unfold Qk;split
 .exact Nat.le_refl _
 .have:=Ic (Qw p q (p.length-q.length+1));rw [Lb]at this;exact this
theorem Zbr{p:List Int}(d:Vp p)(e:Cn p q=0):Vp (Qk p q):=by
 have g:=Zho p q;refine⟨?_,?_,by have:=d.len;omega⟩
 .unfold Qk;split
  .exact d.sz
  .exact(Zqt ((Zc7 e).2 O)).tzl
 .unfold Qk;split
  .exact d.tr
  .exact Xx _
def Zmt(p q:List Int):Prop:=p.length≠0/\q.length≠0/\65536<(max p.length q.length+2)*(max p.length q.length+2)*(max (Qx p) (Qx q)+8)
instance (p q:List Int):Decidable (Zmt p q):=by unfold Zmt;infer_instance
def gA(p q:List Int):List Int:=if p.length<q.length then Zu q else Zu p
def gB(p q:List Int):List Int:=if p.length<q.length then Zu p else Zu q
def eok:Nat->List Int->List Int->Prop
 | 0,_,b=>b=[]
 | f+1,a,b=>b=[]\/(Cn a b=0/\eok f b (Zu (Qk a b)))
def eu:Nat->List Int->List Int->List Int
 | 0,a,_=>a
 | f+1,a,b=>if b=[]then a else eu f b (Zu (Qk a b))
theorem Ygt{f:Nat}{a b:List Int}(h:eok f a b)(d:b≠[]):∃g,f=g+1/\Cn a b=0/\eok g b (Zu (Qk a b))/\eu f a b=eu g b (Zu (Qk a b)):=by
 cases f with
 | zero=>exact absurd h d
 | succ g=>
  rcases h with h|h
  .exact absurd h d
  .exact⟨g,rfl,h.1,h.2,by show(if b=[]then a else _)=_;rw [if_neg d]⟩
theorem Zgq(f:Nat)(a:List Int):eu f a []=a:=by cases f<;>rfl
def Hk(g:List Int):List Int:=if g.length≠0/\cf g (g.length-1)<0 then Zq g (-1)else g
def Mb(f:Nat)(p q:List Int):List Int:=Hk (eu f (gA p q) (gB p q))
theorem vp_gA{p:List Int}(d:Vp p)(e:Vp q):Vp (gA p q):=by unfold gA;split<;>exact Im ‹_›
theorem vp_gB{p:List Int}(d:Vp p)(e:Vp q):Vp (gB p q):=by unfold gB;split<;>exact Im ‹_›
theorem Zbh{p:List Int}(h:Sz 65536 p)(i:Nat):bl (cf p i * -1).natAbs<=65536:=by rw [Int.mul_neg,Int.mul_one,Int.natAbs_neg];exact h i
theorem Pv(z:Int):z.sign<0↔z<0:=by
 rcases Int.lt_trichotomy z 0 with h|h|h
 .rw [Int.sign_eq_neg_one_of_neg h];omega
 .subst h;simp
 .rw [Int.sign_eq_one_of_pos h];omega
end Go.Sky
namespace Go.Sky
variable{b k c:Nat}{xs ys:List Nat}{p:Nat->Prop}
theorem Zhz{l:List Int}(h:∀x∈l,Qe x):Sz 65536 l:=Sz.of_mem λx a=>by obtain⟨d,e⟩:=h x a;have:bl x.natAbs<=64:=(Qh 64 _).2 O;omega
open Go.RowKit (Below)
set_option maxRecDepth 20000
def Pe:2<=1000000000:=O3
def Kz:0<1000000000:=O3
abbrev Gj (v:Value) (x:Nat):Pc:=Yl 1 Iy v (dg 1000000000 x)
theorem Ii(x:Nat):(dg 1000000000 x).length<=bl x:=by rw [Xo Pe];exact Nat.lt_of_lt_of_le (Dg x) (Nat.pow_le_pow_left O3 _)
theorem Zws(a:2<=b){o:List Nat}(f:∀d∈o,d<b){x:Nat}(g:Yf b o=x)(h:o.length=0\/b^(o.length-1)<=x):o=dg b x:=by
 rw [<-g,Kx a o f];have j:(tz o).length<=o.length:=(Cu o).1;have i:o.length<=(tz o).length:=by
  rw [<-Kx a o f,g];rcases h with h|h
  .omega
  .have:=(Oz a (o.length-1) x).2 h;omega
 have e:=(Cu o).2;rw [List.take_of_length_le i]at e;exact e
theorem Yas{o:List Nat}(a:o.length=k)(h:Yf b o+c*b^k=Yf b (xs.take k)+Yf b (ys.take k)) :
  Yf b (o ++ [(c+xs.getD k 0+ys.getD k 0)%b])+(c+xs.getD k 0+ys.getD k 0)/b*b^(k+1)=Yf b (xs.take (k+1))+Yf b (ys.take (k+1)):=by
 rw [Ni,Qc,Qc,a];have e:=Nat.div_add_mod (c+xs.getD k 0+ys.getD k 0) b;generalize (c+xs.getD k 0+ys.getD k 0)/b=q at *;generalize (c+xs.getD k 0+ys.getD k 0)%b=r at *;simp only [Yf,Nat.pow_succ];generalize b^k=B at *;have:(b*q+r)*B=(c+xs.getD k 0+ys.getD k 0)*B:=by rw [e]
 grind
def d9s(a b c:Nat):Nat:=if a<b+c then a+1000000000-(b+c)else a-(b+c)
theorem Zy1{a:Nat}(d:a<1000000000)(e:b<1000000000)(f:c<=1):d9s a b c<1000000000/\d9s a b c+(b+c)=a+brw a b c*1000000000:=by unfold d9s brw;split<;>omega
theorem Zu5{o:List Nat}(a:c<=1)(f:xs.getD k 0<1000000000)(g:ys.getD k 0<1000000000)(d:o.length=k)(h:Yf 1000000000 o+Yf 1000000000 (ys.take k)=Yf 1000000000 (xs.take k)+c*1000000000^k) :
  Yf 1000000000 (o ++ [d9s (xs.getD k 0) (ys.getD k 0) c])+Yf 1000000000 (ys.take (k+1))=Yf 1000000000 (xs.take (k+1))+brw (xs.getD k 0) (ys.getD k 0) c*1000000000^(k+1):=by
 rw [Ni,Qc,Qc,d];have e:=(Zy1 f g a).2;generalize d9s (xs.getD k 0) (ys.getD k 0) c=r at *;generalize brw (xs.getD k 0) (ys.getD k 0) c=q at *;simp only [Yf,Nat.pow_succ];generalize 1000000000^k=B at *;have:(r+(ys.getD k 0+c))*B=(xs.getD k 0+q*1000000000)*B:=by rw [e]
 grind
theorem Zlh{o:List Nat}(h:∀d∈o,p d){x:Nat}(f:p x):∀d∈o ++ [x],p d:=λd e=>by
 rcases List.mem_append.1 e with a|a
 .exact h d a
 .rw [List.mem_singleton.1 a];exact f
def Zah{x:Nat}(a:2<=b)(h:k<(dg b x).length):b^k<=x:=(Oz a k x).1 h
theorem Gy{x:Nat}(a:2<=b)(h:(dg b x).length<=k):Yf b ((dg b x).take k)=x:=by rw [Nq _ _ _ h,Nw a]
theorem Zqq{a o:Nat}(d:a<1000000000)(e:b<1000000000)(g:o<1000000000)(f:c<1000000000):(o+c+a*b)/1000000000<1000000000/\o+c+a*b<=9223372036854775807:=by have h:a*b<=999999999*999999999:=Nat.mul_le_mul O O;refine⟨?_,O⟩;rw [Nat.div_lt_iff_lt_mul Kz];omega
theorem Zua{o:List Nat}{i V:Nat}(h:Yf 1000000000 o+c*1000000000^(i+k)=V+xs.getD i 0*1000000000^i*Yf 1000000000 (ys.take k))(d:i+k<o.length) :
  Yf 1000000000 (o.set (i+k) ((o.getD (i+k) 0+c+xs.getD i 0*ys.getD k 0)%1000000000))+(o.getD (i+k) 0+c+xs.getD i 0*ys.getD k 0)/1000000000*1000000000^(i+(k+1))=V+xs.getD i 0*1000000000^i*Yf 1000000000 (ys.take (k+1)):=by
 have a:=Zhx 1000000000 o o.length (i+k) ((o.getD (i+k) 0+c+xs.getD i 0*ys.getD k 0)%1000000000) d d;rw [List.take_of_length_le (by rw [List.length_set];exact Nat.le_refl _),List.take_of_length_le (Nat.le_refl _)]at a;rw [Qc];have e:=Nat.div_add_mod (o.getD (i+k) 0+c+xs.getD i 0*ys.getD k 0) 1000000000;generalize (o.getD (i+k) 0+c+xs.getD i 0*ys.getD k 0)/1000000000=q at *;generalize (o.getD (i+k) 0+c+xs.getD i 0*ys.getD k 0)%1000000000=r at *;generalize Yf 1000000000 (o.set (i+k) r)=W at *;rw [show i+(k+1)=(i+k)+1 by omega,Nat.pow_succ];have f:1000000000^(i+k)=1000000000^i*1000000000^k:=Nat.pow_add _ _ _;rw [f]at h a ⊢;generalize 1000000000^i=A at *;generalize 1000000000^k=B at *;have g:(1000000000*q+r)*(A*B)=(o.getD (i+k) 0+c+xs.getD i 0*ys.getD k 0)*(A*B):=by rw [e]
 simp only [Nat.add_mul]at g;have t1:q*(A*B*1000000000)=1000000000*q*(A*B):=O4;have t2:xs.getD i 0*A*(Yf 1000000000 (ys.take k)+ys.getD k 0*B)=xs.getD i 0*A*Yf 1000000000 (ys.take k)+xs.getD i 0*ys.getD k 0*(A*B):=O4;rw [t1,t2];omega
def Zhu(x y:Nat):Int:=if x<y then -1 else if y<x then 1 else 0
section
variable {P:Program} {N:Nat} {sc:Nat->Prop} {env env':Pd} {H H':Hp} {Q Q':Exit->Act->World->Prop} {M:Nat->Prop}
variable {o:Oper} {t t':TypeId} {x y:Operand} {m n:Nat}
theorem Zfd(a:o.op= .binOp .add t x y t')(d:ev env x=some (.int .i64 (m:Int)))(e:ev env y=some (.int .i64 (n:Int)))(h:m+n<=9223372036854775807):Mi P N sc o env H (.int .i64 ((m+n:Nat):Int)):=by have:=Yhe (P:=P) (N:=N) (sc:=sc) (H:=H) a d e ;rwa [<-Int.natCast_add]at this
theorem n_mul(a:o.op= .binOp .mul t x y t')(d:ev env x=some (.int .i64 (m:Int)))(e:ev env y=some (.int .i64 (n:Int)))(h:m*n<=9223372036854775807):Mi P N sc o env H (.int .i64 ((m*n:Nat):Int)):=by have:=d_mul (P:=P) (N:=N) (sc:=sc) (H:=H) a d e (by rw [<-Int.natCast_mul];exact⟨O,O⟩);rwa [<-Int.natCast_mul]at this
theorem Zjx(a:o.op= .binOp .quo t x y t')(d:ev env x=some (.int .i64 (m:Int)))(e:ev env y=some (.int .i64 (n:Int)))(h:m<=9223372036854775807)(f:0<n):Mi P N sc o env H (.int .i64 ((m/n:Nat):Int)):=by have:=Zdl (P:=P) (N:=N) (sc:=sc) (H:=H) a d e   ;rwa [<-Int.natCast_ediv]at this
theorem Zr7(a:o.op= .binOp .rem t x y t')(d:ev env x=some (.int .i64 (m:Int)))(e:ev env y=some (.int .i64 (n:Int)))(f:0<n):Mi P N sc o env H (.int .i64 ((m%n:Nat):Int)):=by have:=Zku (P:=P) (N:=N) (sc:=sc) (H:=H) a d e  ;rwa [<-Int.natCast_emod]at this
end
end Go.Sky
namespace Go.Sky
variable{b a r k:Nat}{q:List Nat}
theorem Zb9{l:List Nat}{i:Nat}(h:l.length<=i):l.getD i 0=0:=by simp [List.getD,List.getElem?_eq_none h]
theorem Zs4{x y:Nat}(d:2<=b)(h:x<=y):(dg b x).length<=(dg b y).length:=by
 rcases Nat.lt_or_ge (dg b y).length (dg b x).length with c|c
 .have:=Zap d c;omega
 .exact c
theorem Yg3{n:Nat}(c:2<=b)(h:n<b)(d:n≠0):dg b n=[n]:=by rw [Zbe c O,Nat.mod_eq_of_lt h,Nat.div_eq_of_lt h,Gb]
theorem Yjb(c:2<=b)(f:a<b):tz (a::dg b r)=dg b (r*b+a):=by
 have h:∀d∈a::dg b r,d<b:=λd e=>by
  rcases List.mem_cons.1 e with rfl|e
  .exact f
  .exact Nc c r d e
 rw [<-Kx c _ h];congr 1;simp only [Yf,Nw c];rw [Nat.mul_comm];omega
theorem Ztn : Zhu a b<0↔a<b:=by unfold Zhu;split<;>(try split)<;>omega
theorem Zy8 : Zhu a b<=0↔a<=b:=by unfold Zhu;split<;>(try split)<;>omega
theorem Zy9 : 0<=Zhu a b↔b<=a:=by unfold Zhu;split<;>(try split)<;>omega
theorem Zuy{x:Nat}(c:0<k):x/1000000000^k*1000000000+x/1000000000^(k-1)%1000000000=x/1000000000^(k-1):=by
 have h:x/1000000000^k=x/1000000000^(k-1)/1000000000:=by rw [Nat.div_div_eq_div_mul,<-Nat.pow_succ,show(k-1).succ=k by omega]
 rw [h,Nat.mul_comm];exact Nat.div_add_mod _ _
theorem over_Q{y:Nat}(c:r<y)(d:a<1000000000):(r*1000000000+a)/y<1000000000:=by rw [Nat.div_lt_iff_lt_mul O];have:(r+1)*1000000000<=y*1000000000:=Nat.mul_le_mul_right _ c;rw [Nat.mul_comm 1000000000];omega
theorem bl_m30{y m:Nat}(h:bl m<=30):bl (y*m)<=bl y+30:=by have:=Zk9 y m;omega
theorem Ym5{y:Nat}(f:r<y)(g:a<1000000000):bl (r*1000000000+a)<=bl y+30:=by
 have c:r*1000000000+a<y*1000000000:=by have:(r+1)*1000000000<=y*1000000000:=Nat.mul_le_mul_right _ f;omega
 have d:=Py (Nat.le_of_lt c);have e:=bl_m30 (y:=y) (m:=1000000000) ((Qh 30 _).2 O);exact Nat.le_trans d e
theorem Yh3{y n:Nat}(e:n<1000000000):bl (y*n)<=bl y+30:=by have c:=Zk9 y n;have d:bl n<=30:=(Qh 30 _).2 O;omega
theorem Zfp{d:Nat}(c:0<k)(h:k<=q.length):Yf 1000000000 ((q.set (k-1) d).drop (k-1))=d+1000000000*Yf 1000000000 (q.drop k):=by rw [drop_set _ _ _ O,show k-1+1=k by omega];rfl
theorem Ybl(d:0<k)(h:k<=q.length)(c:q.getD (k-1) 0=0):Yf 1000000000 (q.drop (k-1))=1000000000*Yf 1000000000 (q.drop k):=by rw [Zb8 0 q (k-1) O,c,show k-1+1=k by omega];simp [Yf]
theorem Zqp{m:Nat}(h:m<9223372036854775809):tz [m%1000000000,m/1000000000%1000000000,m/1000000000/1000000000]=dg 1000000000 m:=by rw [<-Kx Pe [m%1000000000,m/1000000000%1000000000,m/1000000000/1000000000] (by intro d c;simp at c;omega)];congr 1;simp only [Yf];omega
theorem sign9{x:Int}(h:(((dg 1000000000 x.natAbs).length:Nat):Int)=0):Value.int .i64 x.sign= .int .i64 0:=by have c:=(Ps Pe x.natAbs).1 O;have:x=0:=O;subst this;rfl
theorem Zka{x:Nat}(h:¬(((dg 1000000000 x).length:Nat):Int)=0):0<x:=by
 rcases Nat.eq_zero_or_pos x with c|c
 .subst c;simp [Gb]at h
 .exact c
theorem Yfl{s:Bool}{n:Nat}{z:Int}(c:n=z.natAbs)(hs:sg s z):(s && decide (0<n))=decide (z<0):=by
 subst c;cases s
 .have:=hs.2 rfl;rw [Bool.false_and,decide_eq_false O]
 .have:=hs.1 rfl;rw [Bool.true_and,decide_eq_decide];omega
theorem Zsk(n:Nat):decide ((0:Int)<(((dg 1000000000 n).length:Nat):Int))=decide (0<n):=by rw [decide_eq_decide];have:=Ps Pe n;omega
theorem Ym8{a b:Bool}(h:(a == b)=true):a=b:=by simpa using h
theorem Yjj{x y:Int}(c:y≠0):(x-x.tdiv y*y=x.tmod y):=by have:=Int.tmod_add_mul_tdiv x y;have e:x.tdiv y*y=y*x.tdiv y:=Int.mul_comm _ _;omega
def Zi0(x y:Int):x.natAbs/y.natAbs=(x.tdiv y).natAbs:=(Int.natAbs_tdiv x y).symm
theorem Yjy(x y:Int):sg (decide (x<0) != decide (y<0)) (x.tdiv y):=by
 have e:∀a b:Int,0<=a->0<=b->0<=a.tdiv b:=λa b i j=>Int.tdiv_nonneg i j;rcases Int.lt_or_le x 0 with h|h<;>rcases Int.lt_or_le y 0 with d|d
 .have c:=e (-x) (-y) O O;rw [Int.neg_tdiv,Int.tdiv_neg]at c;simp only [sg,h,d,decide_true,bne_self_eq_false];exact⟨λh=>Bool.noConfusion h,λ_=>O⟩
 .have c:=e (-x) y O d;rw [Int.neg_tdiv]at c;have:¬y<0:=O;simp [sg,h,this];omega
 .have c:=e x (-y) h O;rw [Int.tdiv_neg]at c;have:¬x<0:=O;simp [sg,d,this];omega
 .have c:=e x y h d;have f:¬x<0:=O;have g:¬y<0:=O;simp [sg,f,g];exact c
theorem Ziz(x:Int){y:Int}(c:y≠0):(x.tmod y).natAbs<y.natAbs:=by rw [Int.natAbs_tmod];exact Nat.mod_lt _ O
theorem Yki{x y:Int}(f:0<y)(h:x.tmod y<0):x/y=x.tdiv y-1/\x%y=x-(x.tdiv y-1)*y:=by
 have c:=Ziz x (show y≠0 by omega);have d:=Int.tmod_add_mul_tdiv x y;have e:(x.tdiv y-1)*y=y*x.tdiv y-y:=by rw [Int.sub_mul,Int.mul_comm];omega
 have:=Zc6 (x:=x) (y:=y) (q:=x.tdiv y-1) (r:=x-(x.tdiv y-1)*y) O (by rw [Int.mul_comm y];omega) O O;exact this
theorem Ykj{x y:Int}(f:y<0)(h:x.tmod y<0):x/y=x.tdiv y+1/\x%y=x-(x.tdiv y+1)*y:=by
 have c:=Ziz x (show y≠0 by omega);have d:=Int.tmod_add_mul_tdiv x y;have e:(x.tdiv y+1)*y=y*x.tdiv y+y:=by rw [Int.add_mul,Int.mul_comm];omega
 have:=Zc6 (x:=x) (y:=y) (q:=x.tdiv y+1) (r:=x-(x.tdiv y+1)*y) O (by rw [Int.mul_comm y];omega) O O;exact this
theorem Yef{x y:Int}(c:y≠0)(h:¬x.tmod y<0):x/y=x.tdiv y/\x%y=x.tmod y:=by have d:=Ziz x c;have e:=Int.tmod_add_mul_tdiv x y;exact Zc6 c O O O
theorem Ym3(x y:Int):bl (x.tdiv y).natAbs<=bl x.natAbs:=by rw [Int.natAbs_tdiv];exact Py (Nat.div_le_self _ _)
theorem Zv7(x y:Int):bl (x.tdiv y*y).natAbs<=bl x.natAbs:=by rw [Int.natAbs_mul,Int.natAbs_tdiv];exact Py (Nat.div_mul_le_self _ _)
section
variable {P:Program} {N:Nat} {sc:Nat->Prop} {env env':Pd} {H H':Hp} {Q Q':Exit->Act->World->Prop} {M:Nat->Prop}
variable {o:Oper} {t t':TypeId} {x y:Operand} {m n:Nat}
theorem Zu4(e:o.op= .binOp .quo t x y t')(g:ev env x=some (.int .i64 (-(m:Int))))(i:ev env y=some (.int .i64 (n:Int)))(h:m<=9223372036854775808)(d:1<n):Mi P N sc o env H (.int .i64 (-((m/n:Nat):Int))):=Ff e g i λw=>by
 have c:(-(m:Int)).tdiv (n:Int)=-((m/n:Nat):Int):=by rw [Int.neg_tdiv,Int.ofNat_tdiv]
 have j:m/n<=9223372036854775807:=by have:=Nat.div_le_div_left (show 2<=n from d) (by omega:0<2) (a:=m);omega
 generalize m/n=q at *;have f:Qe (-(q:Int)):=⟨O,O⟩;simp [binOp,Op.intDiv,c,Zay f];omega
theorem Ye6(d:o.op= .binOp .rem t x y t')(e:ev env x=some (.int .i64 (-(m:Int))))(f:ev env y=some (.int .i64 (n:Int)))(g:0<n):Mi P N sc o env H (.int .i64 (-((m%n:Nat):Int))):=Ff d e f λw=>by
 have c:(-(m:Int)).tmod (n:Int)=-((m%n:Nat):Int):=by rw [Int.neg_tmod,Int.ofNat_tmod]
 simp [binOp,Op.intDiv,c];omega
theorem Yfa(c:o.op= .unOp .neg t x)(e:ev env x=some (.int .i64 (-(m:Int))))(h:m<=9223372036854775807):Mi P N sc o env H (.int .i64 (m:Int)):=λa w hs=>by have d:Qe (m:Int):=⟨O,O⟩;simp [execOp,c,hs.ev e,Op.unary,Op.intArith,Zay d]
end
end Go.Sky
namespace Go.Sky
variable{p:Pc}{k m i:Nat}{r:List Pc}{bs ts ks:List Nat}{x y:Operand}{v u:Value}{ops:Array Oper}{listed:Array Bool}{zs:List (Int×SL)}{z:Int×SL}{o:Oper}{t:TypeId}{w0:World}{M0:Nat->Prop}
theorem Yjf{p xs:List Nat}{r:Nat}(b:0<k)(c:k<=p.length)(d:k<=xs.length)(a:Yf 1000000000 (p.drop k)*256+r=Yf 1000000000 (xs.drop k)) :
  Yf 1000000000 ((p.set (k-1) ((r*1000000000+xs.getD (k-1) 0)/256)).drop (k-1))*256+(r*1000000000+xs.getD (k-1) 0)%256=Yf 1000000000 (xs.drop (k-1)):=by
 rw [Zfp b c,Zb8 0 xs (k-1) O,show k-1+1=k by omega];simp only [Yf];have e:=Nat.div_add_mod (r*1000000000+xs.getD (k-1) 0) 256;generalize (r*1000000000+xs.getD (k-1) 0)/256=q at *;generalize (r*1000000000+xs.getD (k-1) 0)%256=s at *;generalize Yf 1000000000 (p.drop k)=A at *;generalize Yf 1000000000 (xs.drop k)=B at *;rw [<-a,Nat.add_mul,Nat.mul_add,Nat.mul_assoc 1000000000 A 256];generalize 1000000000*(A*256)=Z;clear a;omega
theorem Ycf{r a:Nat}(d:r<256)(c:a<1000000000):(r*1000000000+a)/256<1000000000:=by
 have h:r*1000000000+a<256*1000000000:=by have b:r*1000000000<=255*1000000000:=Nat.mul_le_mul_right _ O;omega
 exact Nat.div_lt_of_lt_mul h
theorem Yjg{n:Nat}(a:Yf 256 bs+256^bs.length*m=n):Yf 256 (bs ++ [m%256])+256^(bs ++ [m%256]).length*(m/256)=n:=by rw [Ni,List.length_append];simp only [Yf,List.length_cons,List.length_nil,Nat.pow_succ,Nat.zero_add,Nat.mul_zero,Nat.add_zero,Nat.pow_zero,Nat.mul_one];have e:=Nat.div_add_mod m 256;generalize m/256=q at *;generalize m%256=s at *;rw [<-a,<-e];generalize 256^bs.length=P at *;grind
theorem to_ge{n:Nat}(b:Yf 256 bs+256^bs.length*m=n)(a:0<m):256^bs.length<=n:=by have:=Nat.le_mul_of_pos_right (256^bs.length) a;omega
theorem to_len{n:Nat}(h:256^bs.length<=n):bs.length<=bl n:=by have a:=Zah (b:=256) (x:=n) (k:=bs.length) O ((Oz O _ _).2 h);have c:=(Oz (by omega:2<=256) bs.length n).2 h;have d:=Zkb n;omega
theorem Ygz(a:0<k)(h:k<=bs.length):(bs.drop k).reverse ++ [bs.getD (k-1) 0]=(bs.drop (k-1)).reverse:=by rw [Zb8 0 bs (k-1) O,show k-1+1=k by omega];simp
theorem Ymy{n:Nat}(h:bs=dg 256 n):(⟨((bs.drop 0).reverse.map UInt8.ofNat).toArray⟩:ByteArray)=Xy n:=by rw [h,List.drop_zero];rfl
def Zro(a b:Int):Prop:=65536<bl a.natAbs\/65536<bl b.natAbs
instance (a b:Int):Decidable (Zro a b):=by unfold Zro;infer_instance
def qn(a b:Int):Int:=if Zro a b then 0 else a
def qd(a b:Int):Int:=if Zro a b then 0 else b
def qe(a b:Int):Int:=if Zro a b then 7 else 0
def Yk8{x y:Int}(h:¬y<0):Mv x y=(Int.gcd x y:Int):=if_neg h
def Zp1(x y:Int):bl ((Int.gcd x y:Int)).natAbs<=max (bl x.natAbs) (bl y.natAbs):=Zp2 _ _
open Go.RowKit (Below)
variable {P:Program} {N:Nat} {sc:Nat->Prop} {env env':Pd} {H H':Hp} {Q Q':Exit->Act->World->Prop} {M:Nat->Prop}
abbrev Zvm (w:Bool×ByteArray):Value:= .agg #[.bool w.1,.string w.2]
abbrev Es (z:Int×SL):Value:= .agg #[.bool (decide (z.1<0)),Yy z.2]
abbrev Lx {α:Type} (z:SL×α):Value:=Yy z.1
abbrev qI (z:Int×SL):Pc:=Gj (Yy z.2) z.1.natAbs
abbrev pp (v:Value) (zs:List (Int×SL)):Pc:=Qq 2 Es qI v zs
abbrev Yi (zs:List (Int×SL)):List Int:=zs.map Prod.fst
abbrev I0:Int×SL:=(0,none,0,0)
def Ph(zs:List (Int×SL)):(Yi zs).length=zs.length:=O7
theorem Gq(zs:List (Int×SL))(i:Nat):(zs.getD i I0).1=cf (Yi zs) i:=by simp only [cf,List.getD,Yi,List.getElem?_map];cases zs[i]?<;>rfl
theorem Zrq{β:Type}{enc:β->Value}{q:β->Pc}{zs:List β}{al:Bool}{z:β}(i:Nat)(hi:lk H i=some (Qq k enc q v zs))(a:Nat.beq i 0=false)(c:z∈zs)(h:PreOk H al r):PreOk H al (q z::r):=
 ⟨⟨i,_,λe=>by subst e;simp at a,hi,λw h=>h.2 z c,λb d=> .inr ⟨z,c,d⟩,λ_=>rfl⟩,h⟩
theorem Ybf{β:Type}{enc:β->Value}{q:β->Pc}{zs:List β}{z:β}(i:Nat)(hi:lk H i=some (Qq k enc q v zs))(a:Nat.beq i 0=false)(c:z∈zs)(f:(q z).own=false)(h:Give H true r):Give H true (q z::r):=
 ⟨⟨f,.inl ⟨i,_,λe=>by subst e;simp at a,hi,λw h=>h.2 z c,λb d=> .inr ⟨z,c,d⟩,λh=>by cases h⟩⟩,h⟩
theorem Yai{β:Type}{enc:β->Value}{q:β->Pc}{zs:List β}(i j n:Nat)(hi:lk H i=some (Qq k enc q v zs))(d:Nat.beq i 0=false)(f:n<=zs.length):∀a w,Sat N sc env H a w->Sat N sc env ((j,Qq k enc q (Ke v n) (zs.take n))::H) a w:=
 Zde i j hi d rfl (λw h=>⟨⟨Zco n f h.1.1,λb c=>h.1.2 b (Zki c)⟩,λz e=>h.2 z (List.mem_of_mem_take e)⟩) (λb c=>by
  rcases c with c|⟨z,e,c⟩
  .exact .inl (Zki c)
  .right;exact⟨z,List.mem_of_mem_take e,c⟩) rfl
theorem Km{n:Nat}{α:Type}{p:α->Prop}(b:∀a w,Sat N sc env H a w->∃x,p x)(h:∀x,p x->A P N sc M ops ts Q n listed env H):A P N sc M ops ts Q n listed env H:=λa w hs=>by obtain⟨x,c⟩:=b a w hs;exact h x c a w hs
theorem Zdw(i:Nat):∀a w,Sat N sc env H a w->Sat N sc env ((i,pp (.slice none 0 0) [])::H) a w:=λa w hs=>
 hs.add i _ ⟨Zcx 2 Es w,λz d=>by cases d⟩ (λf g _ _ Lf b c e=>by
  rcases c with c|⟨z,d,_⟩
  .exact absurd rfl c.1
  .cases d) (λb c=>by
  rcases c with c|⟨z,d,_⟩
  .exact absurd rfl c.1
  .cases d)
theorem Zsw{β:Type}{enc:β->Value}{q:β->Pc}{zs:List β}(i:Nat)(hi:lk H i=some (Qq k enc q v zs)):∀a w,Sat N sc env H a w->Ke v zs.length=v:=λa w hs=>by obtain⟨b,c,h,_⟩:=(hs.hold i _ hi).1.1;rw [h];rfl
theorem Zf8(zs:List (Int×SL))(k:Nat):Yi (zs.take k)=(Yi zs).take k:=by simp [Yi,List.map_take]
def Fo{al:Bool}(i:Nat)(hi:lk H i=some (pp v zs))(a:Nat.beq i 0=false)(b:z∈zs)(h:PreOk H al r):PreOk H al (Gj (Yy z.2) z.1.natAbs::r):=Zrq (q:=qI) (z:=z) i hi a b h
theorem Ylj(i:Nat)(hi:lk H i=some (pp v zs))(a:Nat.beq i 0=false)(c:z∈zs)(b:Gj (Yy z.2) z.1.natAbs=p)(h:Give H true r):Give H true (p::r):=by subst b;exact Ybf (q:=qI) (z:=z) i hi a c rfl h
theorem t_appM {α:Type}   {e:TypeId} {i2 j by_ d:Nat}  {enc:α->Value} {xs ys:List α}  {ti:TypeInfo} {z:Value}  
  (ho:o.op= .call { callee:= .builtin .append,args:=#[x,y],argTypes:=#[t,t] }) (hd:o.dst=some d) (hN:Nat.blt d N=true)
  (hx:ev env x=some v) (hy:ev env y=some u) (hH:lk H i=some (Oj k e enc v xs)) (a3:i≠0) (hj:lk H j=some p) (hr:Rd p k enc u ys) (b0:ys≠[])
  (ht:P.underlying t=some (.slice e)) (hi:P.info? e=some ti) (hz:ti.zero=some z) (n:Enc P e k enc) (a4:ti.size=k) (a1:ti.bytes=by_) (b1:z.cells.size=k)
  (h:(xs.length+ys.length)*by_<=140737488355328) (s:0<by_)
  (h0:lk H 0=some (Ym w0 M0)) (hw:∀b,w0.heap.size<=b->sc b) (hM:∀b,(Oj k e enc v xs).fp b->M b) :
  T P N sc M o env H (G:=Value) (λ_=>True) (λv'=>(d,v')::env) (λv'=>(i,Oj k e enc v' (xs ++ ys))::H):=λa w hs K Q hK=>by
 have R:w.ownsRow 0 e k v xs.length (cellsOf enc xs):=hs.hold i _ hH;obtain⟨ad,c,rfl,h1,h2,Y⟩:=hr w (hs.hold j p hj);rcases Y with rfl|⟨g,V,rfl,Y⟩
 .exact absurd rfl b0
 have a9:∀q u,(cellsOf enc ys)[q]? = some u->w.cell? ((⟨g,V,none⟩:Addr).add q)=some u:=λq u hq=>by
  have a5:q<ys.length*k:=by rw [<-Xd n.cells ys];exact(List.getElem?_eq_some_iff.1 hq).1
  have F:=n.pos;have a2:q/k<ys.length:=Nat.div_lt_of_lt_mul (by rw [Nat.mul_comm];exact a5);have l:ys[q/k]? = some ys[q/k]:=List.getElem?_eq_getElem a2;have a7:q%k<(enc ys[q/k]).cells.toList.length:=by rw [Array.length_toList,n.cells];exact Nat.mod_lt _ F
  have W:=List.getElem?_eq_getElem a7;have Z:=Hl n.cells ys _ _ l _ _ W;have h5:=Y _ _ l _ _ W;have I:q/k*k+q%k=q:=by rw [Nat.mul_comm];exact Nat.div_add_mod q k
  rw [I]at Z;rw [Nat.add_assoc,I]at h5;rw [hq]at Z;cases Z;rw [Ob];exact h5
 have D:∀u∈cellsOf enc ys,u.oneCell'=true:=λu W=>by obtain⟨y,_,hy⟩:=List.mem_flatMap.1 W;exact n.one y u hy
 have b2:xs.length+ys.length<=140737488355328:=Nat.le_trans (Nat.le_mul_of_pos_right _ s) h;obtain⟨v',w',S,a6,f,a0⟩:=Zdg (P:=P) t o.type e ti z k by_ ht hi hz a4 a1 b1 n.pos v xs.length (cellsOf enc xs) R ⟨g,V,none⟩ ys.length c (cellsOf enc ys)
  (Xd n.cells ys) a9 D (by simp only [maxLen];omega) h
 have a8:(execOp a.eval o).run P w= .ok (.value v') w':=by simp only [execOp,ho,resolve,invoke,builtin,Sem.run_bind,Sem.run_pure,Result.andThen_ok,List.map_toArray,List.map_cons,List.map_nil,hs.ev hx,hs.ev hy,S]
 unfold Oper.wp;rw [a8];show K (a.put o.dst _) _;rw [hd];have B:Chg (λb=>v.ownBlock=some b) w w':=⟨f.os,f.tape,f.output,f.size,λb h hn=>f.block b h (λe=>hn e.symm)⟩;refine hK v' _ _ trivial ((hs.upd hH rfl a3 (q:=Oj k e enc v' (xs ++ ys)) B ?_ (λb h=>a0 b h) h0 hw).put d _ hN) ⟨f.os,f.tape,f.output,f.size,λb h hn=>f.block b h (λe=>hn (hM b e.symm))⟩;show w'.ownsRow 0 e k v' (xs ++ ys).length (cellsOf enc (xs ++ ys));rw [Ky,List.length_append];exact a6
theorem Zww {α:Type}   {e:TypeId} {j by_ d:Nat}  {enc:α->Value} {xs ys:List α}  {ti:TypeInfo} {z:Value}  
  (ho:o.op= .call { callee:= .builtin .append,args:=#[x,y],argTypes:=#[t,t] }) (hd:o.dst=some d) (hN:Nat.blt d N=true)
  (hx:ev env x=some v) (hy:ev env y=some u) (Y:lk H i=some (Oj k e enc v xs)) (F:i≠0) (hj:lk H j=some p) (hr:Rd p k enc u ys)
  (ht:P.underlying t=some (.slice e)) (hi:P.info? e=some ti) (hz:ti.zero=some z) (he:Enc P e k enc) (a2:ti.size=k) (a1:ti.bytes=by_) (a4:z.cells.size=k)
  (Z:(xs.length+ys.length)*by_<=140737488355328) (B:0<by_)
  (h0:lk H 0=some (Ym w0 M0)) (hw:∀b,w0.heap.size<=b->sc b) (hM:∀b,(Oj k e enc v xs).fp b->M b) :
  T P N sc M o env H (G:=Value) (λ_=>True) (λv'=>(d,v')::env) (λv'=>(i,Oj k e enc v' (xs ++ ys))::H):=by
 by_cases S:ys=[]
 .subst S;intro a w hs K Q hK;have h:w.ownsRow 0 e k v xs.length (cellsOf enc xs):=hs.hold i _ Y;obtain⟨V,c,rfl,h1,h2,h3⟩:=hr w (hs.hold j p hj);have I:∃l n s,v= .slice l n s/\n=xs.length/\n<=s:=by
   rcases h.2 with⟨rfl,hn⟩|⟨g,W,a5,rfl,_,_,f,_⟩
   .exact⟨none,0,0,rfl,hn.symm,Nat.le_refl _⟩
   .exact⟨_,_,W,rfl,rfl,f⟩
  obtain⟨l,n,s,rfl,rfl,f⟩:=I;have R:(Builtin.append_ #[t,t] o.type #[.slice l xs.length s,.slice V ([]:List α).length c]).run P w= .ok (.slice l xs.length s) w:=by
   have D:(Builtin.firstCells ti.size 0 (.slice V 0 c)).run P w= .ok #[] w:=by
    cases V with
    | none=>rfl
    | some q=>simp [Builtin.firstCells,loadCells,loadCellsFrom]
   cases l with
   | none=>simp [Builtin.append_,run_underlying ht,sizeOf,typeInfo,hi,Builtin.lenOf,D,f]
   | some q=>simp [Builtin.append_,run_underlying ht,sizeOf,typeInfo,hi,Builtin.lenOf,D,f,storeCells]
  have a3:(execOp a.eval o).run P w= .ok (.value (.slice l xs.length s)) w:=by simp only [execOp,ho,resolve,invoke,builtin,Sem.run_bind,Sem.run_pure,Result.andThen_ok,List.map_toArray,List.map_cons,List.map_nil,hs.ev hx,hs.ev hy,R]
  unfold Oper.wp;rw [a3];show K (a.put o.dst _) _;rw [hd];refine hK _ _ _ trivial ((Sat.upd hs Y rfl F (q:=Oj k e enc (.slice l xs.length s) (xs ++ [])) (Chg.refl _ w) ?_ (λb Z=> .inl Z) h0 hw).put d _ hN) (Chg.refl _ w);rw [List.append_nil];exact h
 .exact t_appM (i2:=0) ho hd hN hx hy Y F hj hr S ht hi hz he a2 a1 a4 Z B h0 hw hM
theorem Ycj  {G:Type} {φ:G->Prop} {c:G->Pd} {g:G->Hp} {d:Hp}   (i:Nat) (hi:lk H i=some p) (F:p.own=true) (D:ks.all (λk=>!Nat.beq k i)=true) (n:Agr d H ks)
  (h:(∀b,p.fp b->Off d ks b)->T P N sc (Off d ks) o env H φ c g):T P N sc (Off d ks) o env H φ c g:=λa w hs=>
 h (λb s k j q l B=>by
  rw [<-n.mem k j]at l;have f:i≠k:=λe=>by subst e;have:=List.all_eq_true.1 D i j;simp at this
  exact hs.sep i k p q f hi l F b s B) a w hs
def eaf(v:Value)(i k q:Nat):Addr:=(ead v i k).add q
theorem Fv {α:Type}    {f:Nat} {fs:Array Field} {b:Field} {G ii q:Nat}   {enc:α->Value} {xs:List α} (s:o.op= .fieldAddr t x f)
  (h:ev env x=some (.pointer (some (ead v i k)))) (j:lk H ii=some p) (D:Rd p k enc v xs) (F:P.underlying t=some (.struct fs)) (l:fs[f]? = some b) (n:∀w,(sizeOf b.type).run P w= .ok (G+1) w) (B:b.offset=q) (d:i<xs.length:=by omega) :
  Mi P N sc o env H (.pointer (some (eaf v i k q))):=λa w hs=>by
 obtain⟨R,c,rfl,S,V,e⟩:=D w (hs.hold ii p j);rcases e with rfl|⟨g,I,rfl,e⟩
 .simp at d
 .subst B;simp only [ead,Ob]at h;simp [execOp,s,hs.ev h,Instr.fieldAt,run_underlying F,l,Instr.sureAddr,fieldPlace,n,Ob,eaf,ead]
theorem Dt {α:Type}    {ii q:Nat}   {enc:α->Value} {xs:List α} (e:α) (n:o.op= .load t x)
  (f:ev env x=some (.pointer (some (eaf v i k q)))) (j:lk H ii=some p) (s:Rd p k enc v xs) (l:∀w,(isAgg t).run P w= .ok false w) (B:(enc (xs.getD i e)).cells.toList[q]? = some u) (b:i<xs.length:=by omega):Mi P N sc o env H u:=λa w hs=>by
 obtain⟨F,c,rfl,G,I,d⟩:=s w (hs.hold ii p j);rcases d with rfl|⟨g,D,rfl,d⟩
 .simp at b
 .have hi:xs[i]? = some (xs.getD i e):=by simp [List.getD,List.getElem?_eq_getElem b]
  have h:=d i _ hi q u B;simp only [eaf,ead,Ob]at f;simp [execOp,n,hs.ev f,Instr.loadAt,Instr.sureAddr,loadVar,l,load,Sem.run,h]
end Go.Sky
namespace Go.Sky
variable{o:Oper}{r pre:List Pc}{f:FuncId}{xs:List Operand}{vs us fs:List Value}{a:Act}{w:World}{c x:Operand}{ats:Array TypeId}{M0:Nat->Prop}{b:Nat}{t:TypeId}{cs:Array Value}
abbrev rq (z:Int×Int):Value:= .agg #[.bool (decide (z.1<0)),.string (Xy z.1.natAbs),.bool (decide (z.2<0)),.string (Xy z.2.natAbs)]
abbrev encQ (z:(Bool×ByteArray)×(Bool×ByteArray)):Value:= .agg #[.bool z.1.1,.string z.1.2,.bool z.2.1,.string z.2.2]
def Xf{P:Program}{N:Nat}{sc:Nat->Prop}{env:Pd}{H:Hp}{r r':Value}(h:Mi P N sc o env H r)(e:r=r'):Mi P N sc o env H r':=e▸h
open Go.RowKit (Below)
variable {P:Program} {N:Nat} {sc:Nat->Prop} {env env':Pd} {H H':Hp} {Q Q':Exit->Act->World->Prop} {M:Nat->Prop}
theorem Ztb{ys:List Operand}(g:o.op= .makeFunc (.func f) xs.toArray ys.toArray)(i:EvL env xs vs)(h:EvL env ys us):Mi P N sc o env H (.func (.func f) vs.toArray us.toArray):=λa w hs=>by have d:=i.map hs;have e:=h.map hs;simp [execOp,g,Instr.makeFunc,d,e]
theorem Zdf   (hs:Sat N sc env H a w)       (h:o.op= .call { callee:= .value c,args:=xs.toArray,argTypes:=ats })
  (e:ev env c=some (.func (.func f) fs.toArray us.toArray)) (d:EvL env xs vs):(execOp a.eval o).run P w=(callFunc f (fs ++ vs ++ us).toArray).run P w:=by
 have g:=d.map hs;simp [execOp,h,resolve,invoke,hs.ev e,Deferred.ofValue,g]
theorem Zwv      {d n:Nat}   {al:Bool} {G:Type} {φ:G->Prop} {Yf:G->Value} {k:G->List Pc} {w0:World} 
  (z:Cal P f (fs ++ vs ++ us).toArray pre al φ Yf k)
  (D:o.op= .call { callee:= .value c,args:=xs.toArray,argTypes:=ats }) (p:ev env c=some (.func (.func f) fs.toArray us.toArray)) (B:o.dst=some d) (y:Nat.blt d N=true)
  (h:EvL env xs vs) (e:∀args w,(callFunc f args).run P w= .ok (.enter f args) w) (j:PreOk H al pre)
  (s:lk H 0=some (Ym w0 M0)) (I:∀b,w0.heap.size<=b->sc b) :
  T P N sc M o env H φ (λg=>(d,Yf g)::env) (λg=>adds n (k g) H):=λa w hs K Q u=>by
 have F:(execOp a.eval o).run P w= .ok (.enter f (fs ++ vs ++ us).toArray) w:=by rw [Zdf hs D p h,e]
 let o2:Oper:={ o with op:= .call { callee:= .value (.func f),args:=((fs ++ vs ++ us).map Operand.const).toArray,argTypes:=ats } };have i:∀l:List Value,EvL env (l.map Operand.const) l:=λl=>by
  induction l with
  | nil=>trivial
  | cons v r R=>exact⟨rfl,R⟩
 have q:(execOp a.eval o2).run P w= .ok (.enter f (fs ++ vs ++ us).toArray) w:=by rw [Ig hs (o:=o2) rfl (i _),e]
 have m:o2.wp P a w K Q:=Of (n:=n) (M:=M) z (o:=o2) rfl B y (i _) e j s I a w hs K Q u;unfold Oper.wp at m ⊢;rw [q]at m;rw [F];exact m
theorem Zgk(i:Nat)(hi:lk H i=some (box b t cs))(d:Nat.beq i 0=false)(h:PreOk H false r):PreOk H false (Kd b t cs::r):=
 ⟨⟨i,_,λe=>by subst e;simp at d,hi,λw h=>h,λb g=>g,λh=>by cases h⟩,h⟩
theorem Sat.rboxc(hs:Sat N sc env H a w){i:Nat}(d:lk H i=some (Kd b t cs))(j:Nat):w.cell? ⟨b,j,none⟩=cs[j]?:=by have h:w.heap[b]? = some (.cells cs t (0,0)):=hs.hold i _ d;simp [World.cell?,h]
theorem d_lra   {v:TypeId} {i j k:Nat}   (l:o.op= .load t x)
  (s:ev env x=some (.pointer (some ⟨b,j,none⟩))) (e:lk H i=some (Kd b v cs)) (m:∀w,(isAgg t).run P w= .ok true w) (g:∀w,(sizeOf t).run P w= .ok k w)
  (h:vs.length=k) (q:∀n u,vs[n]? = some u->cs[j+n]? = some u):Mi P N sc o env H (.agg vs.toArray):=λa w hs=>by
 have d:=run_loadCells_list (P:=P) w ⟨b,j,none⟩ vs (λn u p=>by rw [Ob,hs.rboxc e];exact q n u p);rw [h]at d;simp [execOp,l,hs.ev s,Instr.loadAt,Instr.sureAddr,loadVar,m,g,d]
theorem d_negi{m:Int}(d:o.op= .unOp .neg t x)(e:ev env x=some (.int .i64 m))(h:Qe (-m):=by exact⟨O,O⟩):Mi P N sc o env H (.int .i64 (-m)):=λa w hs=>by simp [execOp,d,hs.ev e,Op.unary,Op.intArith,Zay h]
theorem fill24(n p q s d e g h j k l m:Value):Instr.fill (λi=>some (i*4,4)) ((List.range (2*4)).map ((Value.agg #[n,p,q,s]).cells[· % (Value.agg #[n,p,q,s]).cells.size]!)).toArray [(0,.agg #[d,e,g,h]),(1,.agg #[j,k,l,m])]=some #[d,e,g,h,j,k,l,m]:=by
 simp [Instr.fill,Value.cells,List.range,List.range.loop]
 try rfl
end Go.Sky
namespace Go.Sky
open Go.RowKit (Below)
variable{f:FuncId}{c:Operand}{xs:List Operand}{ats:Array TypeId}{p:Pc}{vs:List Value}{pre:List Pc}{w0:World}{M0:Nat->Prop}{fn:Func}
variable {P:Program} {N:Nat} {sc:Nat->Prop} {env env':Pd} {H H':Hp} {Q Q':Exit->Act->World->Prop} {M:Nat->Prop}
abbrev iq (z:(Int×Int)×(Int×Int)):Value:= .agg #[.bool (decide (z.1.1<0)),.string (Xy z.1.1.natAbs),.bool (decide (z.1.2<0)),.string (Xy z.1.2.natAbs),.bool (decide (z.2.1<0)),.string (Xy z.2.1.natAbs),.bool (decide (z.2.2<0)),.string (Xy z.2.2.natAbs)]
def Ynd(P:Program)(f:FuncId)(args:Array Value)(pre:List Pc)(p:Pc){G:Type}(φ:G->Prop)(Yf:G->Value)(q:G->Pc):Prop:=
 ∀w,(∀r∈pre,r.holds w/\∀k,p.fp k->¬r.fp k)->p.holds w->Calls P f args w λe a=>∃g,e= .returned (Yf g)/\φ g/\Chg p.fp w a/\(q g).holds a/\∀k,(q g).fp k->p.fp k\/w.heap.size<=k
theorem Zwu {o:Oper}     {d i:Nat}  {fs us:List Value}  {G:Type} {φ:G->Prop} {Yf:G->Value} {q:G->Pc}  
  (Y:Ynd P f (fs ++ vs ++ us).toArray pre p φ Yf q)
  (ho:o.op= .call { callee:= .value c,args:=xs.toArray,argTypes:=ats }) (y:ev env c=some (.func (.func f) fs.toArray us.toArray)) (Z:o.dst=some d) (V:Nat.blt d N=true)
  (m:EvL env xs vs) (n:∀args w,(callFunc f args).run P w= .ok (.enter f args) w) (x:lk H i=some p) (l:p.own=true) (z:i≠0) (u:PreOk (drp i H) false pre)
  (I:lk H 0=some (Ym w0 M0)) (hw:∀b,w0.heap.size<=b->sc b) (S:∀b,p.fp b->M b) :
  T P N sc M o env H φ (λg=>(d,Yf g)::env) (λg=>(i,q g)::H):=λa w hs K Q R=>by
 have hr:(execOp a.eval o).run P w= .ok (.enter f (fs ++ vs ++ us).toArray) w:=by rw [Zdf hs ho y m,n]
 unfold Oper.wp;rw [hr];refine(Y w (λr hp=>by obtain⟨j,F,_,v,t,s,_⟩:=u.mem r hp;obtain⟨D,v⟩:=Em _ _ _ _ v;exact⟨t w (hs.hold j F v),λk B W=>hs.sep i j _ F (Ne.symm D) x v l k B (s k W)⟩) (hs.hold i _ x)).mono ?_
 rintro e w' ⟨g,rfl,hg,h,hq,s⟩;show K (a.put o.dst (Yf g)) w';rw [Z];exact R g _ _ hg (Sat.put (hs.upd x l z h hq s I hw) d _ V) ⟨h.os,h.tape,h.output,h.size,λk B hn=>h.block k B (λe=>hn (S k e))⟩
def Yis(P:Program)(fn:Func)(w0:World)(p:Pc){G:Type}(φ:G->Prop)(Yf:G->Value)(q:G->Pc):Exit->Act->World->Prop:=
 bodyPost P fn λe a=>∃g,e= .returned (Yf g)/\φ g/\Chg p.fp w0 a/\(q g).holds a/\∀k,(q g).fp k->p.fp k\/w0.heap.size<=k
theorem Zzg   {c:Code}    {G:Type} {φ:G->Prop} {Yf:G->Value} {q:G->Pc} {N:Nat}
  (V:P.funcs[f]? = some fn) (S:fn.body=some c) (R:fn.ntmps=N) (n:Nat.ble vs.length N=true) (B:AllRo pre)
  (h:∀w0 (sc:Nat->Prop),(∀k,w0.heap.size<=k->sc k)->(∀k,sc k->w0.heap.size<=k\/p.fp k\/∃q∈pre,q.fp k)->
   E P N sc c (Yis P fn w0 p φ Yf q) (Qp 0 vs) ((0,Ym w0 p.fp)::(1,p)::Yu 2 pre)) :
  Ynd P f vs.toArray pre p φ Yf q:=λw D s=>by
 refine calls_of_wp V S (h w (λk=>w.heap.size<=k\/p.fp k\/∃q∈pre,q.fp k) (λk b=> .inl b) (λk b=>b) _ w ?_);have n:vs.length<=N:=by simpa using n
 have a:∀i r,lk ((0,Ym w p.fp)::(1,p)::Yu 2 pre) i=some r->(i=0/\r=Ym w p.fp)\/(i=1/\r=p)\/(i≠0/\i≠1/\r∈pre/\r.own=false):=λi r hi=>by
   by_cases l:0=i
   .subst l;rw [Yb]at hi;cases hi;exact .inl ⟨rfl,rfl⟩
   .rw [Zr _ _ l]at hi;by_cases g:1=i
    .subst g;rw [Yb]at hi;cases hi;exact .inr (.inl ⟨rfl,rfl⟩)
    .rw [Zr _ _ g]at hi;obtain⟨_,d⟩:=Oy pre 2 i r hi;exact .inr (.inr ⟨λe=>l e.symm,λe=>g e.symm,d,B.mem r d⟩)
 refine⟨by simp [R];omega,rfl,λt v Y=>?_,λi r hi=>?_,λi j r F y hi W z k b m=>?_,λi r u hi k b=>?_⟩
 .have g:vs.toArray[t]? = some v:=by simpa using(Hi vs 0 t v Y).2
  have x:=(Array.getElem?_eq_some_iff.1 g).1;rw [Array.getD_eq_getD_getElem?,Array.getElem?_append_left x,g];rfl
 .rcases a i r hi with⟨_,rfl⟩|⟨_,rfl⟩|⟨_,_,d,_⟩
  .exact Chg.refl _ w
  .exact s
  .exact(D r d).1
 .rcases a i r hi with⟨_,rfl⟩|⟨g,rfl⟩|⟨_,_,d,o⟩
  .cases z
  .rcases a j F W with⟨_,rfl⟩|⟨I,rfl⟩|⟨_,_,d,_⟩
   .exact m.2 b
   .exact y (g.trans I.symm)
   .exact(D F d).2 k b m
  .rw [o]at z;cases z
 .rcases a i r hi with⟨l,_⟩|⟨_,rfl⟩|⟨_,_,d,_⟩
  .exact absurd l u
  .exact .inr (.inl b)
  .exact .inr (.inr ⟨r,d,b⟩)
theorem Yb2    {G:Type} {φ:G->Prop} {Yf:G->Value} {q:G->Pc}  {e:Exit} (B:e= .ret\/e= .normal) (u:∀k,sc k->w0.heap.size<=k\/p.fp k\/∃q∈pre,q.fp k)
  (g:G) (v:Value) (m:∀a w,Sat N sc env H a w->(results fn a.tmps).run P w= .ok v w) (I:Yf g=v) (D:φ g) (i:Nat) (hi:lk H i=some (q g)) (z:lk H 0=some (Ym w0 p.fp)) (b:Nat.beq i 0=false) (d:(q g).own=true) (l:PreOk (drp i H) false pre) :
  X N sc e (Yis P fn w0 p φ Yf q) env H:=λa w hs=>by
 have b:i≠0:=λe=>by subst e;simp at b
 have x:a.defers=[]/\∃v,(results fn a.tmps).run P w= .ok v w/\(∃g,Ending.returned v= .returned (Yf g)/\φ g/\Chg p.fp w0 w/\(q g).holds w/\∀k,(q g).fp k->p.fp k\/w0.heap.size<=k):=by
  refine⟨hs.defers,v,m a w hs,g,by rw [I],D,hs.hold 0 _ z,hs.hold i _ hi,λk y=>?_⟩;rcases u k (hs.scope i _ b hi k y)with h|h|⟨r,F,t⟩
  .exact .inr h
  .exact .inl h
  .obtain⟨j,R,_,o,_,n,_⟩:=l.mem r F;obtain⟨s,o⟩:=Em _ _ _ _ o;exact(hs.sep i j _ R (Ne.symm s) hi o d k y (n k t)).elim
 rcases B with rfl|rfl<;>exact x
def gb{α:Type}(b:Nat)(t:TypeId)(k:Nat)(e:TypeId)(enc:α->Value)(v:Value)(xs:List α):Pc:=
 {own:=true,fp:=λc=>c=b\/v.ownBlock=some c,holds:=λw=>(box b t #[v]).holds w/\(Oj k e enc v xs).holds w/\v.ownBlock≠some b
  lt:=λw c h a=>by
   rcases a with rfl|a
   .exact(box c t #[v]).lt w c h.1 rfl
   .exact(Oj k e enc v xs).lt w c h.2.1 a
  stable:=λw l h a=>⟨(box b t #[v]).stable w l h.1 ⟨a.os,a.tape,a.output,a.size,λk g i=>a.block k g (λd=>i (λj=>d (.inl j)))⟩,
   (Oj k e enc v xs).stable w l h.2.1 ⟨a.os,a.tape,a.output,a.size,λk g i=>a.block k g (λd=>i (λj=>d (.inr j)))⟩,h.2.2⟩ }
end Go.Sky

