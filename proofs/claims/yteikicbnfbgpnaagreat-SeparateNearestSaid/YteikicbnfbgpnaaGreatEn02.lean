/- Rules, arithmetic and contracts: part 3. No conditions but those that each theorem names. -/
import Derived.Test.YteikicbnfbgpnaaGreatEn01
set_option linter.all false
namespace Go.Sky
set_option maxRecDepth 20000
variable{k D:Nat}{v:Value}{R ys:List Nat}{y x:Int}{b t s:Bool}{p xs:List Int}{f:FuncId}{args:Array Value}{pre:List Pc}
theorem Zh2{n:Nat}(h:n<U):tz [n]=dg U n:=by rw [<-Ic Qb [n] (by simpa using h)];simp [Yn]
theorem Zez{N:Nat}{sc:Nat->Prop}{env:Pw}{H:Hp}{α:Type}{e:TypeId}{enc:α->Value}{xs ys:List α}(i:Nat)(h:xs=ys)(hi:lk H i=some (Oa k e enc v xs))(c:Nat.beq i 0=false) :
  ∀a w,Sat N sc env H a w->Sat N sc env ((i,Oa k e enc v ys)::H) a w:=by
 subst h;exact Zqf i hi rfl (λw h=>h) (λb d=>d) c
theorem Zn3(R:List Nat)(j:Nat)(a:j<=R.length):Yn U R=Yn U (R.take j)+U^j*Yn U (R.drop j):=by have:=Mi U (R.take j) (R.drop j);rw [fJ,aQ,dJ a]at this;exact this
theorem Zld(g:∀d∈R,d<U)(j:Nat)(e:j<=R.length):Yn U (R.take j)=Yn U R%U^j/\Yn U (R.drop j)=Yn U R/U^j:=by
 have c:=Zn3 R j e;have a:=Zhy Qh (R.take j) (λd h=>g d (eV h));rw [aQ,dJ e]at a;have i:0<U^j:=cH Qh;constructor
 .rw [c,iX,iB,aX a]
 .rw [c,iX,gO i,cN a,eH]
theorem Zf2(e:∀d∈R,d<U){n:Nat}(g:n<=R.length)(h:Yn U R<U^n):Yn U (R.drop n)=0/\Yn U (R.take n)=Yn U R:=by obtain⟨a,c⟩:=Zld e n g;rw [c,a,aX h];exact⟨cN h,rfl⟩
theorem Yn8(c:∀d∈R,d<U){j n:Nat}(g:j+n<=R.length)(h:Yn U R<U^(j+n)):tz ((R.drop j).take n)=dg U (Yn U R/U^j):=by have a:∀d∈R.drop j,d<U:=λd a=>c d (kT a);rw [<-(Zld c j O).2,<-Ic Qb _ (λd e=>a d (eV e))];congr 1;refine(Zf2 a (by rw [eD];omega) ?_).2;rw [(Zld c j O).2,cF (cH Qh),<-bW,iX];exact h
theorem Ztg(c:∀d∈R,d<U)(e:∀d∈ys,d<U)(lo:Nat):∀d∈spl R lo ys,d<U:=λd a=>by
 simp only [spl,cZ]at a;rcases a with(a|a)|a
 .exact c d (eV a)
 .exact e d a
 .exact c d (kT a)
theorem Ztr(L:Nat)(ys:List Nat):Yn U (spl (List.replicate L 0) 0 ys)=Yn U ys:=by simp [spl,Mi,nP,Gw]
theorem Yoe(a:∀d∈R,d<U){j n:Nat}(g:j+n<=R.length)(h:Yn U R<U^(j+n))(i:ys.length<=n) :
  Yn U (spl (spl R j (List.replicate n 0)) j ys)=Yn U R%U^j+U^j*Yn U ys:=by
 have c:(spl R j (List.replicate n 0)).take j=R.take j:=by simp only [spl,dB];rw [fG (by rw [aQ];omega),iP,Nat.min_self]
 have e:(spl R j (List.replicate n 0)).drop (j+ys.length)=List.replicate (n-ys.length) 0 ++ R.drop (j+n):=by simp only [spl,dB,aT];rw [<-List.drop_drop,List.drop_left' (by rw [aQ];omega),gJ (by rw [aT];exact i),nP]
 rw [spl,c,e,Mi,Mi,Mi,Gw,(Zf2 a g h).1,(Zld a j O).1,aQ,dJ O];simp
theorem Yqh{y b:Nat}(d:0<y)(l:k=(dg U y).length)(r:b=64-bl ((dg U y).getD (k-1) 0)):(dg U (y*2^b)).length=k/\2^b*U^k<=y*2^b*U*2^b/\1<=k/\y*2^b<U^k/\b<=63/\U^(k-1)*9223372036854775808<=y*2^b:=by
 obtain⟨m,n,g,o⟩:=Yad d;rw [<-l]at m n g o;obtain⟨h,q⟩:=Zs7 d;have i:=Co y;have e:bl y+b=64*k:=O;have c:y*2^b<U^k:=by rw [Zdx,<-e,bW];exact eO i (dQ b)
 have a:U^(k-1)*9223372036854775808<=y*2^b:=by
  have:U^(k-1)*9223372036854775808=2^(bl y-1)*2^b:=by rw [Zdx,<-bW,show 9223372036854775808=2^63 from rfl,<-bW];congr 1;omega
  rw [this];exact aJ _ h
 have j:U^k=U^(k-1)*U:=by rw [<-bX];congr 1;omega
 refine⟨?_,?_,g,c,O,a⟩
 .refine jZ ((Xt Qb _ _).2 c) ?_;have:k-1<(dg U (y*2^b)).length:=(Nv Qb _ _).2 (aB (dW _ O) a);omega
 .rw [j,aO (2^b)];refine aJ _ ?_;refine aJ _ (aB (dW _ O) a)
theorem Yk9{W w1 w0 t:Nat}(a:t*U^k<=D)(e:0<t)(c:W/U^k=w1*U+w0):W/D<=(w1*U+w0)/t:=by have d:0<U^k:=cH Qh;rw [<-c,aV,aO];exact nQ a (gI e d)
theorem Yol(c:∀d∈R,d<U){j:Nat}(m:1<=k)(h:Yn U R<U^(j+k+1))(n:j+k+1<=R.length):Yn U R/U^j/U^(k-1)=R.getD (j+k) 0*U+R.getD (j+k-1) 0:=by
 have e:∀i,R.getD i 0=Yn U R/U^i%U:=λi=>by
  rcases aZ i R.length with hi|hi
  .have a:=(Zld c i O).2;rw [Zdh 0 R i hi]at a;simp only [Yn]at a;rw [<-a,jV,aX (Qa Qh c i)]
  .rw [show R.getD i 0=0 by simp [List.getD,bF hi],cN (dG (Zhy Qh R c) (dK Qh hi))];rfl
 rw [e,e,aV,<-bW,show j+(k-1)=j+k-1 by omega];have g:Yn U R/U^(j+k)<U:=by rw [cF (cH Qh),<-nV,iX (j+k)]at *;rw [iX 1]at *;exact h
 have l:Yn U R/U^(j+k)=Yn U R/U^(j+k-1)/U:=by rw [aV,<-bX];congr 2;omega
 rw [aX g,l,aO,cD]
theorem Yl6{x b lx:Nat}(e:x<U^lx)(c:b<=63)(l:1<=k)(d:k<=lx+1)(a:U^(k-1)*9223372036854775808<=D):x*2^b<D*U^(lx+1-k):=by
 have g:x*2^b<U^lx*2^b:=eO e (dQ b);have h:U^lx*2^b<=U^lx*9223372036854775808:=bB _ (by rw [show 9223372036854775808=2^63 from rfl];exact dK O c)
 have i:U^lx*9223372036854775808=U^(k-1)*9223372036854775808*U^(lx+1-k):=by rw [iW,<-bW];congr 2;omega
 have j:U^(k-1)*9223372036854775808*U^(lx+1-k)<=D*U^(lx+1-k):=aJ _ a;omega
theorem Yl4{V j Q Vq N:Nat}(h:0<D)(a:Q=V/U^j/D)(i:Vq*U^(j+1)*D+V=N) :
  V%U^j+U^j*(V/U^j-D*Q)<D*U^j/\(Q+U*Vq)*U^j*D+(V%U^j+U^j*(V/U^j-D*Q))=N:=by
 have l:0<U^j:=cH Qh;have o:=bR V l;have q:=cD V (U^j);have c:=cD (V/U^j) D;have d:=bR (V/U^j) h;have e:V/U^j-D*Q=V/U^j%D:=by rw [a];omega
 rw [e];constructor
 .have g:U^j*(V/U^j%D+1)<=U^j*D:=bB _ d;rw [gG]at g;rw [aO D];omega
 .rw [<-i];have m:(Q+U*Vq)*U^j*D=U^j*(D*Q)+Vq*U^(j+1)*D:=by
   rw [bG,bG,bX];congr 1
   .rw [aO Q,cY,aO Q]
   .rw [aO U Vq,cY Vq,aO U]
  have n:U^j*(D*Q)+U^j*(V/U^j%D)=U^j*(V/U^j):=by rw [<-gG,a,c]
  omega
def sg(s:Bool)(x:Int):Prop:=(s=true->x<=0)/\(s=false->0<=x)
theorem Yhz(h:sg s x):sg (!s) (-x):=by cases s<;>simp [sg]at*<;>omega
theorem Yh0(hs:sg s x)(a:sg t y):sg (s != t) (x*y):=by
 cases s<;>cases t<;>simp [sg]at *
 .exact eU hs a
 .exact gT hs a
 .exact gU hs a
 .exact Int.mul_nonneg_of_nonpos_of_nonpos hs a
theorem Yel(h:(((dg U x.natAbs).length:Nat):Int)=0):Value.int .i64 x.sign= .int .i64 0:=by have a:=(Oi Qb x.natAbs).1 O;have:x=0:=O;subst this;rfl
theorem Yhu(hs:sg s x)(a:s=true)(h:¬(((dg U x.natAbs).length:Nat):Int)=0):Value.int .i64 x.sign= .int .i64 (-1):=by have c:¬x.natAbs=0:=λe=>h (by rw [(Oi Qb x.natAbs).2 e];rfl);have d:=hs.1 a;rw [fA O]
theorem Yht(hs:sg s x)(a:s=false)(h:¬(((dg U x.natAbs).length:Nat):Int)=0):Value.int .i64 x.sign= .int .i64 1:=by have c:¬x.natAbs=0:=λe=>h (by rw [(Oi Qb x.natAbs).2 e];rfl);have d:=hs.2 a;rw [fT O]
theorem Yak(hs:sg s x)(a:sg s y):sg s (x+y):=by cases s<;>simp [sg]at*<;>omega
theorem Zhu(hs:sg s x)(a:sg s y):(x+y).natAbs=x.natAbs+y.natAbs:=by cases s<;>simp [sg]at*<;>omega
theorem Zj9(hs:sg s x)(c:sg t y)(h:s≠t)(a:y.natAbs<=x.natAbs):sg s (x+y):=by cases s<;>cases t<;>simp [sg]at*<;>omega
theorem Zbs(hs:sg s x)(c:sg t y)(h:s≠t)(a:y.natAbs<=x.natAbs):(x+y).natAbs=x.natAbs-y.natAbs:=by cases s<;>cases t<;>simp [sg]at*<;>omega
abbrev wv (x:Int):Value:= .agg #[.bool (decide (x<0)),.string (Qp x.natAbs)]
def Zbn(x:Int):Int:=if 65536<bl x.natAbs then 0 else x
def Zjx(x:Int):Int:=if 65536<bl x.natAbs then 7 else 0
theorem Yr6:bl (Zbn x).natAbs<=65536:=by
 unfold Zbn;split
 .decide
 .omega
theorem Hh(h:bl x.natAbs<=65536):Zbn x=x:=by unfold Zbn;rw [aD O]
theorem Zrz(h:bl x.natAbs<=65536):Zjx x=0:=by unfold Zjx;rw [aD O]
theorem Yr5(h:65536<bl x.natAbs):Zbn x=0:=by unfold Zbn;rw [aG h]
theorem Yq6(h:65536<bl x.natAbs):Zjx x=7:=by unfold Zjx;rw [aG h]
abbrev Zcu (x:Int):Value:= .tuple #[wv (Zbn x),.int .i64 (Zjx x)]
theorem Yd6(h:((65536:Int)<((bl x.natAbs:Nat):Int))):Zcu x= .tuple #[.agg #[.bool false,.string ⟨#[]⟩],.int .i64 7]:=by unfold Zcu;rw [Yr5 O,Yq6 O];rfl
theorem Zzy(h:¬((65536:Int)<((bl x.natAbs:Nat):Int))):Zcu x= .tuple #[wv x,.int .i64 0]:=by unfold Zcu;rw [Hh O,Zrz O]
theorem Ztm(hs:sg false x)(h:¬((65536:Int)<((bl x.natAbs:Nat):Int))):Zcu x= .tuple #[.agg #[.bool false,.string (Qp x.natAbs)],.int .i64 0]:=by rw [Zzy h,wv,aN (by have:=hs.2 rfl;omega)]
theorem Ztl(hs:sg true x)(h:¬((65536:Int)<((bl x.natAbs:Nat):Int))):Zcu x= .tuple #[.agg #[.bool (decide ((0:Int)<(((dg U x.natAbs).length:Nat):Int))),.string (Qp x.natAbs)],.int .i64 0]:=by have a:=hs.1 rfl;have c:=Oi Qb x.natAbs;rw [Zzy h,wv,show decide (x<0)=decide ((0:Int)<(((dg U x.natAbs).length:Nat):Int))from bL.2 ⟨λh=>O,λh=>O⟩]
theorem Zep{q r:Int}(d:y≠0)(h:x=y*q+r)(l:0<=r)(m:r<(y.natAbs:Int)):x/y=q/\x%y=r:=by
 have e:=Int.mul_ediv_add_emod x y;have i:=mX x d;have j:=Int.emod_lt x d;have c:x/y=q:=by
  have g:y*(x/y-q)=r-x%y:=by rw [Int.mul_sub];omega
  have a:(y*(x/y-q)).natAbs<y.natAbs:=by rw [g];omega
  rw [cJ]at a;rcases aW (x/y-q).natAbs with h|h
  .omega
  .exact absurd (dW y.natAbs h) O
 refine⟨c,?_⟩;rw [c]at e;omega
theorem Zxr(h:sg s x):x=if s then -(x.natAbs:Int)else(x.natAbs:Int):=by cases s<;>simp [sg]at*<;>omega
theorem Ycv(hs:sg s x)(d:sg t y)(e:y≠0){Q R:Nat}(g:R<y.natAbs)(h:x=(if s then -1 else 1)*((y.natAbs:Int)*Q)+R) :
  sg (s != t) (x/y)/\(x/y).natAbs=Q/\(x%y).natAbs=R:=by
 have c:=Zxr d;have a:x/y=(if s != t then -(Q:Int)else Q)/\x%y=R:=by
  refine Zep e ?_ O O
  conv=>lhs;rw [h]
  conv=>rhs;rw [c]
  cases s<;>cases t<;>simp [oM,kG]
 rw [a.1,a.2];cases s<;>cases t<;>simp [sg]
theorem divB(hs:sg s x)(h:sg t y)(i:y≠0)(g:s=false\/x.natAbs%y.natAbs=0):sg (s != t) (x/y)/\(x/y).natAbs=x.natAbs/y.natAbs/\(x%y).natAbs=x.natAbs%y.natAbs:=by
 have c:=Zxr hs;have e:=cD x.natAbs y.natAbs;refine Ycv hs h i (bR _ O) ?_;have a:((y.natAbs:Int)*((x.natAbs/y.natAbs:Nat):Int))+((x.natAbs%y.natAbs:Nat):Int)=x.natAbs:=by rw [<-fB,<-kB,e]
 rcases g with rfl|d
 .simp at c ⊢;simp at a;omega
 .rw [d]at a ⊢;cases s<;>simp at c a ⊢<;>omega
theorem divA(hs:sg true x)(a:sg t y)(c:y≠0)(g:0<x.natAbs%y.natAbs):sg (true != t) (x/y)/\(x/y).natAbs=x.natAbs/y.natAbs+1/\(x%y).natAbs=y.natAbs-x.natAbs%y.natAbs:=by
 have i:=Zxr hs;have e:=cD x.natAbs y.natAbs;have h:=bR x.natAbs (show 0<y.natAbs by omega);refine Ycv hs a c O ?_;have d:((y.natAbs:Int)*((x.natAbs/y.natAbs:Nat):Int))+((x.natAbs%y.natAbs:Nat):Int)=x.natAbs:=by rw [<-fB,<-kB,e]
 rw [Int.natCast_sub O,kB,kS];generalize ((y.natAbs:Int)*((x.natAbs/y.natAbs:Nat):Int))=P at *;generalize ((x.natAbs%y.natAbs:Nat):Int)=R at *;simp only [lC]at *;omega
def okW(b:Bool)(s:ByteArray):Bool:=if s.size=0 then !b else decide ((s.data.toList.getD 0 0).toNat≠0) && decide (s.size<=8192)
theorem bl256 (n:Nat)(k:Nat) : (dg 256 n).length<=k↔bl n<=8*k:=by rw [Zip];omega
theorem Zc8(h:bl x.natAbs<=65536):okW (decide (x<0)) (Qp x.natAbs)=true:=by
 unfold okW;rw [Ee];split
 .rename_i c;have:=(Oi (by omega:2<=256) x.natAbs).1 c;simp;omega
 .rename_i c;have g:0<x.natAbs:=by
   rcases aW x.natAbs with a|a
   .rw [a]at c;simp [Gr]at c
   .exact a
  have a:=Zno x.natAbs 0 O;have d:=dg_top (by omega:2<=256) g;rw [Hr O]at d;have e:=(bl256 x.natAbs 8192).2 O;rw [aR];refine⟨aK (by rw [a];simpa using d),aK e⟩
theorem Zix{a b:ByteArray}(h:a.data.toList=b.data.toList):a=b:=by cases a;cases b;simp at h;rw [h]
theorem Ysi{s:ByteArray}(e:s.size≠0)(h:(s.data.toList.getD 0 0).toNat≠0):s=Qp (Yn 256 (s.data.toList.reverse.map UInt8.toNat)):=by
 have g:s.data.toList.length=s.size:=rfl;have a:∀d∈s.data.toList.reverse.map UInt8.toNat,d<256:=λd c=>by obtain⟨u,_,rfl⟩:=eJ.1 c;exact u.toNat_lt
 refine Zix ?_;unfold Qp;rw [Ic O _ a,tz_eq]
 .simp [List.map_reverse,Function.comp_def]
 .refine .inr ?_;rw [aP,List.length_reverse,aE,eI,List.getElem?_reverse O];rw [show s.data.toList.length-1-(s.data.toList.length-1)=0 by omega];rw [aE]at h;cases hx:s.data.toList[0]? with
  | none=>rw [hx]at h;simp at h
  | some u=>rw [hx]at h;simpa using h
theorem Zrb{s:ByteArray}(h:okW b s=true):∃x:Int,bl x.natAbs<=65536/\b=decide (x<0)/\s=Qp x.natAbs:=by
 unfold okW at h;split at h
 .rename_i c;refine⟨0,by simp [Lt],?_,?_⟩
  .cases b<;>simp_all
  .refine Zix ?_;have:s.data.toList.length=0:=c;rw [aC this];rfl
 .rename_i c;rw [aR]at h;have e:=cE h.1;have g:=cE h.2;have hs:=Ysi c e;generalize Yn 256 (s.data.toList.reverse.map UInt8.toNat)=n at hs;have d:(dg 256 n).length=s.size:=by rw [hs,Ee]
  have i:0<n:=by
   rcases aW n with h|h
   .subst h;simp [Gr]at d;omega
   .exact h
  have a:bl n<=65536:=by have:=(bl256 n 8192).1 O;omega
  cases b with
  | true=>exact⟨-(n:Int),by simpa using a,O8,by simpa using hs⟩
  | false=>exact⟨n,by simpa using a,O7,by simpa using hs⟩
def eqW(a:Bool)(s:ByteArray)(b:Bool)(t:ByteArray):Bool:=(a == b) && (s.toList == t.toList)
theorem Ygl(h:decide (x<0)=decide (y<0))(g:Qp x.natAbs=Qp y.natAbs):x=y:=by
 have j:x.natAbs=y.natAbs:=by
  have a:(dg 256 x.natAbs).reverse.map UInt8.ofNat=(dg 256 y.natAbs).reverse.map UInt8.ofNat:=by have:=aH (λb:ByteArray=>b.data.toList) g;simpa [Qp]using this
  have c:∀n:Nat,((dg 256 n).reverse.map UInt8.ofNat).map UInt8.toNat=(dg 256 n).reverse:=λn=>by
   rw [lF]
   conv=>rhs;rw [<-oN (dg 256 n).reverse]
   refine kZ λd i=>?_;have:=Mb (by omega:2<=256) n d (List.mem_reverse.1 i);simp [UInt8.toNat_ofNat',aX this]
  have e:=aH (List.map UInt8.toNat) a;rw [c,c]at e;exact(Ziu (by omega:2<=256)).1 (List.reverse_inj.1 e)
 have a:=bL.1 h;omega
theorem Zsd{a:Bool}{s t:ByteArray} : eqW a s b t=true↔a=b/\s=t:=by unfold eqW;rw [aR,ByteArray.toList_eq,ByteArray.toList_eq,lJ,lJ];exact⟨λh=>⟨h.1,Zix h.2⟩,λh=>⟨h.1,by rw [h.2]⟩⟩
theorem Ylv(x y:Int):eqW (decide (x<0)) (Qp x.natAbs) (decide (y<0)) (Qp y.natAbs)=decide (x=y):=by rw [Bool.eq_iff_iff,Zsd,fN];exact⟨λh=>Ygl h.1 h.2,λh=>by rw [h];exact⟨rfl,rfl⟩⟩
theorem Qr(x:Int):sg (decide (x<0)) x:=by unfold sg;simp;omega
def Im(x y:Int):bl (x+y).natAbs<=max (bl x.natAbs) (bl y.natAbs)+1:=
 aB (Of (mA x y)) bl_add
theorem Yq(x y:Int):bl (x*y).natAbs<=bl x.natAbs+bl y.natAbs:=by rw [cJ];exact Znt _ _
theorem Bu(x y:Int):bl (x-y).natAbs<=max (bl x.natAbs) (bl y.natAbs)+1:=by have:=Im x (-y);rwa [eC,<-fO]at this
theorem Zns(x:Int):bl (-x).natAbs=bl x.natAbs:=by rw [eC]
theorem Zk5(x y:Int):bl (x/y).natAbs<=bl x.natAbs+1:=by have h:(x/y).natAbs<=x.natAbs:=jW x y;have:=Of h;omega
theorem Zs9(x y:Int)(a:y≠0):bl (x%y).natAbs<=bl y.natAbs:=by have c:=mX x a;have d:=Int.emod_lt x a;exact Of O
theorem Zta(x y:Nat):bl (Nat.gcd x y)<=max (bl x) (bl y):=by
 rcases aW x with h|h
 .subst h;rw [Nat.gcd_zero_left];omega
 .have:=Of (mG h (mM x y));omega
def Ypa(x:Int)(h:y≠0):sg false (x%y):=⟨λa=>Bool.noConfusion a,λ_=>mX x h⟩
def Kf(x y:Int):Int:=if y<0 then -(Int.gcd x y:Int)else(Int.gcd x y:Int)
theorem Zda(x y:Int):(Kf x y).natAbs=Nat.gcd x.natAbs y.natAbs:=by unfold Kf;split<;>simp [Int.gcd]
theorem Yqq(h:y≠0):Kf x y≠0:=λe=>by have a:=Zda x y;rw [e]at a;have:=(Nat.gcd_eq_zero_iff.1 a.symm).2;omega
theorem Yo8(a:sg t y)(c:y≠0):sg t (Kf x y):=by
 unfold Kf sg at *;refine⟨λh=>?_,λh=>?_⟩
 .rw [aG (by have:=a.1 h;omega)];omega
 .rw [aD (by have:=a.2 h;omega)];omega
theorem Yby(x y:Int):Dq v (Nat.gcd x.natAbs y.natAbs)=Dq v (Kf x y).natAbs:=by rw [Zda]
def Iq(x y:Int):Prop:=65536<bl (x/Kf x y).natAbs\/65536<bl (y/Kf x y).natAbs
instance (x y:Int):Decidable (Iq x y):=by unfold Iq;infer_instance
def Es(x y:Int):Int:=if Iq x y then 0 else x/Kf x y
def Fo(x y:Int):Int:=if Iq x y then 0 else y/Kf x y
def Yip(x y:Int):Int:=if Iq x y then 7 else 0
abbrev Zb8 (x y:Int):Value:= .tuple #[.agg #[.bool (decide (Es x y<0)),.string (Qp (Es x y).natAbs),.bool (decide (Fo x y<0)),.string (Qp (Fo x y).natAbs)],.int .i64 (Yip x y)]
theorem Zb7(h:Iq x y):Zb8 x y= .tuple #[.agg #[.bool false,.string ⟨#[]⟩,.bool false,.string ⟨#[]⟩],.int .i64 7]:=by unfold Zb8 Es Fo Yip;rw [aG h,aG h,aG h];rfl
theorem Zaq(h:Zjx x≠0):65536<bl x.natAbs:=by
 unfold Zjx at h;split at h
 .assumption
 .exact absurd rfl h
theorem Zks(h:Zjx x=0):bl x.natAbs<=65536:=by
 unfold Zjx at h;split at h
 .omega
 .omega
theorem Zuv(c:Zjx (x/Kf x y)=0)(d:Zjx (y/Kf x y)=0):Zb8 x y= .tuple #[.agg #[.bool (decide (Zbn (x/Kf x y)<0)),.string (Qp (Zbn (x/Kf x y)).natAbs),.bool (decide (Zbn (y/Kf x y)<0)),.string (Qp (Zbn (y/Kf x y)).natAbs)],.int .i64 0]:=by
 have a:¬Iq x y:=λh=>by have:=Zks c;have:=Zks d;unfold Iq at h;omega
 unfold Zb8 Es Fo Yip;rw [aD a,aD a,aD a,Hh (Zks c),Hh (Zks d)]
def okR(b:Bool)(s:ByteArray)(c:Bool)(t:ByteArray):Bool:=okW b s && okW c t && (!c && decide (0<t.size))
theorem Zq3(z:Int):(!decide (z<0) && decide (0<(Qp z.natAbs).size))=decide (0<z):=by rw [Bool.eq_iff_iff,aR,Ee,fN,fN];have:=Oi (by omega:2<=256) z.natAbs;simp only [fS,gM];omega
theorem El(z:Int):decide (0<z.sign)=decide (0<z):=by
 rw [bL];rcases jJ z 0 with h|h|h
 .rw [fA h];omega
 .subst h;simp
 .rw [fT h];omega
theorem Zve{s:ByteArray}{z:Int}(a:okW b s=true)(c:bl z.natAbs<=65536):okR b s (decide (z<0)) (Qp z.natAbs)=decide (0<z.sign):=by unfold okR;rw [a,Zc8 c,Zq3,El];rfl
theorem okR_wv(c:bl x.natAbs<=65536)(d:bl y.natAbs<=65536)(a:0<y):okR (decide (x<0)) (Qp x.natAbs) (decide (y<0)) (Qp y.natAbs)=true:=by unfold okR;rw [Zc8 c,Zc8 d,Zq3];simp [a]
theorem Yj0{c:Bool}{s t:ByteArray}(h:okR b s c t=true):∃x y:Int,bl x.natAbs<=65536/\bl y.natAbs<=65536/\0<y/\b=decide (x<0)/\s=Qp x.natAbs/\c=decide (y<0)/\t=Qp y.natAbs:=by unfold okR at h;rw [aR,aR]at h;obtain⟨⟨d,e⟩,a⟩:=h;obtain⟨x,g,rfl,rfl⟩:=Zrb d;obtain⟨y,i,rfl,rfl⟩:=Zrb e;rw [Zq3]at a;exact⟨x,y,g,i,cE a,rfl,rfl,rfl,rfl⟩
open Go.RowKit Below
def Sz(n:Nat)(p:List Int):Prop:=∀i,bl (cf p i).natAbs<=n
def Sz.getD{n:Nat}(h:Sz n p)(i:Nat):bl (p.getD i 0).natAbs<=n:=h i
def Sz.mono{n m:Nat}(h:Sz n p)(a:n<=m):Sz m p:=λi=>aB (h i) a
theorem Sz.tzl{n:Nat}(h:Sz n p):Sz n (tzl p):=λi=>by rw [Lc];exact h i
theorem Sz.nil(n:Nat):Sz n []:=λi=>by simp [cf,Lt]
theorem Sz.take{n:Nat}(h:Sz n p)(k:Nat):Sz n (p.take k):=λi=>by
 rw [Dg];split
 .exact h i
 .simp [Lt]
theorem Sz.mem{n:Nat}(h:Sz n p)(a:x∈p):bl x.natAbs<=n:=by obtain⟨i,hi,rfl⟩:=eK.1 a;have:=h i;rwa [Zdq hi]at this
theorem Sz.of_mem{n:Nat}(h:∀x∈p,bl x.natAbs<=n):Sz n p:=λi=>by
 rcases aZ i p.length with hi|hi
 .rw [Zdq hi];exact h _ (fY hi)
 .rw [Yf hi];simp [Lt]
structure Vp (p:List Int):Prop where
 sz:Sz 65536 p
 tr:Tr p
 len:p.length<=25
def wr(x:Int):Bool×ByteArray:=(decide (x<0),Qp x.natAbs)
def okP(r:List (Bool×ByteArray)):Bool:=r.all (λw=>okW w.1 w.2) && (decide (r.length<=25) && (decide (r.length=0) || decide ((r.getD (r.length-1) (false,⟨#[]⟩)).2.size≠0)))
theorem Zft : (Qp x.natAbs).size=0↔x=0:=by rw [Ee];have:=Oi (by omega:2<=256) x.natAbs;omega
theorem Zdc{i:Nat}(h:i<xs.length):(xs.map wr).getD i (false,⟨#[]⟩)=wr (cf xs i):=by rw [Zdq h];simp [List.getD,h]
theorem okP_wr(h:Vp xs):okP (xs.map wr)=true:=by
 unfold okP;rw [aR,aR,mY];refine⟨cP.2 λw e=>?_,by simpa using h.len,?_⟩
 .obtain⟨x,g,rfl⟩:=eJ.1 e;exact Zc8 (h.sz.mem g)
 .rcases h.tr with a|a
  .left;simp [a]
  .right;have i:0<xs.length:=by
    rcases aW xs.length with c|c
    .rw [Yf O]at a;exact absurd rfl a
    .exact c
   rw [aP,Zdc O];refine aK λd=>a (Zft.1 d)
theorem Zvd{r:List (Bool×ByteArray)}(h:∀w∈r,okW w.1 w.2=true):∃xs:List Int,(∀x∈xs,bl x.natAbs<=65536)/\r=xs.map wr:=by
 induction r with
 | nil=>exact⟨[],O7,rfl⟩
 | cons w r l=>
  obtain⟨xs,c,d⟩:=l λu i=>h u (bH _ i);obtain⟨x,j,e,g⟩:=Zrb (h w (bT ..));refine⟨x::xs,λy a=>?_,?_⟩
  .rcases bE.1 a with rfl|a
   .exact j
   .exact c y a
  .rw [bZ,<-d,wr,<-e,<-g]
theorem okP_ex{r:List (Bool×ByteArray)}(h:okP r=true):∃xs:List Int,Vp xs/\r=xs.map wr:=by
 unfold okP at h;rw [aR,aR,mY]at h;obtain⟨d,e,a⟩:=h;obtain⟨xs,g,rfl⟩:=Zvd (cP.1 d);refine⟨xs,⟨Sz.of_mem g,?_,by simpa using e⟩,rfl⟩;rcases a with a|a
 .left;exact aC (by simpa using a)
 .rcases aW xs.length with c|c
  .left;exact aC c
  .right;rw [aP,Zdc O]at a;exact λi=>cE a (Zft.2 i)
theorem Zli (k:Nat){j:Nat}(h:j<k)(a:(xs.take k).getD j 0=0):cf xs j=0:=by rw [Zem _ _ _ _ h]at a;exact a
theorem Zf6 (k:Nat){j:Nat}(h:j<k)(a:¬((xs.take k).getD j 0).sign=0):cf xs j≠0:=λe=>a (by rw [Zem _ _ _ _ h];rw [show xs.getD j 0=0 from e];rfl)
theorem Yqc{r:List (Bool×ByteArray)}{w:Bool×ByteArray}(a:w∈r)(h:okW w.1 w.2=false):okP r=false:=by unfold okP;rw [show r.all (λw=>okW w.1 w.2)=false from List.all_eq_false.2 ⟨w,a,by simp [h]⟩];rfl
theorem Zrc(h:∀x∈xs,bl x.natAbs<=65536):okP (xs.map wr)=(decide (xs.length<=25) && (decide (xs.length=0) || decide (¬(xs.getD (xs.length-1) 0).sign=0))):=by
 unfold okP;rw [show(xs.map wr).all (λw=>okW w.1 w.2)=true from cP.2 λw c=>by obtain⟨x,d,rfl⟩:=eJ.1 c;exact Zc8 (h x d)]
 rw [aP,mH];congr 1;by_cases a:xs.length=0
 .simp [a]
 .rw [aN a,Bool.false_or,Bool.false_or,Zdc O];rw [bL,eW];exact not_congr Zft
def err(e x:Int):Int:=if e=0 then Zjx x else e
theorem Zy0(h:bl x.natAbs<=65536):err 0 x=0:=by unfold err;rw [aG rfl,Zrz h]
def Xx:List Int->Nat
 | []=>0
 | x::r=>max (bl x.natAbs) (Xx r)
theorem Pb(p:List Int):Sz (Xx p) p:=by
 refine Sz.of_mem λx a=>?_
 induction p with
 | nil=>cases a
 | cons y r c=>
  rcases bE.1 a with rfl|h
  .simp only [Xx];omega
  .have:=c h;simp only [Xx];omega
theorem Qu{n:Nat}(h:Sz n p):Xx p<=n:=by
 have c:∀x∈p,bl x.natAbs<=n:=λx a=>h.mem a;clear h
 induction p with
 | nil=>exact bD _
 | cons y r d=>
  have:=c y (bT ..);have:=d λx a=>c x (bH _ a);simp only [Xx];omega
theorem Ykj(p:List Int)(x:Int):Xx (p ++ [x])=max (Xx p) (bl x.natAbs):=by
 induction p with
 | nil=>simp [Xx]
 | cons y r a=>simp only [iO,Xx,a];omega
variable {P:Program} {N:Nat} {sc:Nat->Prop} {env env':Pw} {H H':Hp} {Q Q':Exit->Act->World->Prop} {M:Nat->Prop}
theorem fpm{α β:Type}{f:α->β}{xs:List α}{p:Prop}(h:xs.map f≠[]/\p):xs≠[]/\p:=⟨λe=>h.1 (by rw [e];rfl),h.2⟩
def fpn{α β:Type}{f:α->β}{xs:List α}{p:Prop}(h:xs≠[]/\p):xs.map f≠[]/\p:=⟨λe=>h.1 (List.map_eq_nil_iff.1 e),h.2⟩
theorem Zxo(v:Value)(xs:List Int)(w:World)(h:(Yx 2 wv v xs).holds w):(Yx 2 (λw:Bool×ByteArray=>Value.agg #[.bool w.1,.string w.2]) v (xs.map wr)).holds w:=by
 obtain⟨⟨a,c,l,m,n,d⟩,q⟩:=h;refine⟨⟨a,c,by rw [aP];exact l,by rw [aP];exact m,n,?_⟩,λb h=>q b (fpm h)⟩;rcases d with d|⟨g,e,d,o⟩
 .left;rw [d];rfl
 .right;refine⟨g,e,d,λi x hi j u r=>?_⟩;rw [eI]at hi;cases hx:xs[i]? with
  | none=>rw [hx]at hi;cases hi
  | some y=>rw [hx]at hi;cases hi;exact o i y hx j u r
theorem Yo2(v:Value)(xs:List Int)(w:World)(h:(Yx 2 (λw:Bool×ByteArray=>Value.agg #[.bool w.1,.string w.2]) v (xs.map wr)).holds w):(Yx 2 wv v xs).holds w:=by
 obtain⟨⟨a,c,l,m,n,d⟩,q⟩:=h;rw [aP]at l m;refine⟨⟨a,c,l,m,n,?_⟩,λb h=>q b (fpn h)⟩;rcases d with d|⟨g,e,d,o⟩
 .left;simpa using d
 .right;refine⟨g,e,d,λi x hi j u r=>?_⟩;exact o i (wr x) (by rw [eI,hi];rfl) j u r
theorem Cal.imp{p q:Pc}{al:Bool}{G:Type}{φ:G->Prop}{Yn:G->Value}{i:G->List Pc}(h:Cal P f args (p::pre) al φ Yn i)(I:∀w,q.holds w->p.holds w)(B:∀b,p.fp b->q.fp b) :
  Cal P f args (q::pre) al φ Yn i:=λw m=>by
 refine(h w λr a=>?_).mono ?_
 .rcases bE.1 a with rfl|a
  .exact I w (m q (bT ..))
  .exact m r (bH _ a)
 .rintro e V ⟨g,z,F,j,c⟩;refine⟨g,z,F,j,λS l=>?_⟩;obtain⟨n,o,u⟩:=c S l;refine⟨n,o,λb j=>?_⟩;rcases u b j with h|⟨h,r,a,d⟩
  .exact .inl h
  .refine .inr ⟨h,?_⟩;rcases bE.1 a with rfl|a
   .exact⟨q,bT ..,B b d⟩
   .exact⟨r,bH _ a,d⟩
end Go.Sky
namespace Go.Sky
variable{k m:Nat}{f:Nat->Int}{xs:List Int}
def fill(n k:Nat)(f:Nat->Int):List Int:=mk n λi=>if i<k then f i else 0
def Pv(n k:Nat)(f:Nat->Int):(fill n k f).length=n:=Yu _ _
theorem Zdd{n:Nat}(h:k<n):(fill n k f).set k (f k)=fill n (k+1) f:=It (by simp [Pv]) λi hi=>by
 rw [bI,Pv]at hi;rw [Znm (by rw [Pv];exact h)];unfold fill;rw [Nw,Nw,aG hi,aG hi];by_cases b:i=k
 .subst b;rw [aG rfl,aG O]
 .rw [aD b];by_cases a:i<k
  .rw [aG a,aG O]
  .rw [aD a,aD O]
theorem Ad(n:Nat)(f:Nat->Int):List.replicate n 0=fill n 0 f:=It (by simp [Pv]) λi hi=>by rw [aT]at hi;unfold fill;rw [Nw,aG hi,aD O,Zdq (by simpa using hi)];simp
theorem Dc(n:Nat)(f:Nat->Int):fill n n f=mk n f:=Gd λi hi=>by rw [aG hi]
theorem Zrj(xs:List Int)(g:Int->Int):mk xs.length (λi=>g (cf xs i))=xs.map g:=It (by simp [Yu]) λi hi=>by rw [Yu]at hi;rw [Nw,aG hi,Zdq hi,Zdq (p:=xs.map g) (by simpa using hi)];simp
theorem Bf{n:Nat}(h:∀i,i<n->bl (f i).natAbs<=m):Sz m (mk n f):=λi=>by
 rw [Nw];split
 .exact h i ‹_›
 .simp [Lt]
theorem Nm{p:List Int}(h:Tr p):Tr (Yy p):=by
 unfold Yy;rcases aZ 1 p.length with a|a
 .right;rw [Yu,Nw,aG O];have c:=h.mem (by intro e;rw [e]at a;simp at a);rw [show p.length-1-1+1=p.length-1 by omega];intro d;rcases eR.1 d with b|b
  .exact c b
  .omega
 .left;exact aC (by rw [Yu];omega)
theorem Ye2(xs:List Int)(c:Int):tzl (fill xs.length xs.length λi=>cf xs i*c)=Zq xs c:=by rw [Dc,Zrj xs (· * c)];rfl
theorem Yp7(h:Tr xs):tzl (fill (xs.length-1) (xs.length-1) λi=>cf xs (i+1)*((i:Int)+1))=Yy xs:=by rw [Dc];exact Ah (Nm h)
theorem Yjt{p:List Int}(h:p.length=0):Yy p=[]:=aC (by unfold Yy;rw [Yu];omega)
theorem Zmd(p:List Int)(x:Int):Ys (p ++ [x])=(Int.gcd (Ys p) x:Int):=by unfold Ys;rw [List.foldl_append];rfl
theorem Nr(p:List Int):0<=Ys p:=by
 rcases Zj8 p with rfl|⟨a,y,rfl⟩
 .exact eY _
 .rw [Zmd];omega
theorem Ll{p:List Int}(h:k<p.length):Ys (p.take (k+1))=(Int.gcd (Ys (p.take k)) (p.getD k 0):Int):=by rw [Pq 0 _ _ h,Zmd]
theorem Zbg{n:Nat} : ∀(p:List Int),Sz n p->bl (Ys p).natAbs<=n:=λp=>by
 have a:∀k,k<=p.length->Sz n p->bl (Ys (p.take k)).natAbs<=n:=by
  intro k
  induction k with
  | zero=>intro _ _;rw [dS];exact bD _
  | succ k d=>
   intro c hs;rw [Ll c];have e:=d O hs;have b:=hs k;have:=Zta (Ys (p.take k)).natAbs (p.getD k 0).natAbs;have g:bl (p.getD k 0).natAbs<=n:=b;show bl (Nat.gcd _ _)<=n;omega
 intro hs;have:=a p.length (aI _) hs;rwa [bK]at this
theorem Ly(p:List Int):∀i,Ys p∣cf p i:=by
 have a:∀k,k<=p.length->∀i,i<k->Ys (p.take k)∣cf p i:=by
  intro k
  induction k with
  | zero=>intro _ i hi;omega
  | succ k c=>
   intro b i hi;rw [Ll b];rcases aZ i k with h|h
   .exact iK (kQ ..) (c O i h)
   .have:i=k:=O;subst this;exact jK ..
 intro i;rcases aZ i p.length with h|h
 .have:=a p.length (aI _) i h;rwa [bK]at this
 .rw [Yf h];exact jT _
theorem Zc6(p:List Int):Ys p=0↔∀i,cf p i=0:=by
 refine⟨λh i=>by have:=Ly p i;rw [h]at this;exact oG.1 this,λh=>?_⟩;have a:∀k,k<=p.length->Ys (p.take k)=0:=by
  intro k
  induction k with
  | zero=>intro _;rfl
  | succ k c=>
   intro b;rw [Ll b,c O];have:=h k;rw [show p.getD k 0=0 from this];rfl
 have:=a p.length (aI _);rwa [bK]at this
theorem Ea{p:List Int}{d:Int}(h:∀i,d∣cf p i):d∣Ys p:=by
 have a:∀k,k<=p.length->d∣Ys (p.take k):=by
  intro k
  induction k with
  | zero=>intro _;exact jT _
  | succ k c=>
   intro b;rw [Ll b];exact Int.dvd_coe_gcd (c O) (h k)
 have:=a p.length (aI _);rwa [bK]at this
theorem Zbq(p:List Int)(i:Nat):cf (Zw p) i=cf p i/Ys p:=by unfold Zw;rw [Zdp O7]
theorem Zy(p:List Int):(Zw p).length=p.length:=by simp [Zw]
theorem Hg{x y:Int}{n:Nat}(h:y∣x)(b:bl x.natAbs<=n):bl (x/y).natAbs<=n:=by have a:(x/y).natAbs<=x.natAbs:=jW x y;exact aB (Of a) b
theorem Yv{p:List Int}(h:Tr p):Tr (Zw p):=by
 rcases h with rfl|h
 .left;rfl
 .right;rw [Zbq,Zy];intro a;have b:=Ly p (p.length-1);have:=kU b;rw [a,dU]at this;exact h this.symm
theorem Hz{n:Nat}{p:List Int}(h:Sz n p):Sz n (Zw p):=λi=>by rw [Zbq];exact Hg (Ly p i) (h i)
theorem Kb{p:List Int}(h:Vp p):Vp (Zw p):=⟨Hz h.sz,Yv h.tr,by rw [Zy];exact h.len⟩
def Vp.ne{p:List Int}(h:Vp p)(a:p≠[]):Ys p≠0:=λe=>h.tr.mem a ((Zc6 p).1 e _)
def Lz(p:List Int)(n d:Int)(i:Nat):Int:=Ye (λm=>cf p (i+m)*(n^m*d^(p.length-1-(i+m)))) (p.length-i)
theorem Zv4(p:List Int)(n d:Int):Lz p n d 0=pev p n d:=by unfold Lz pev;simp only [cC,jR]
theorem Yqz{p:List Int}(n d:Int)(h:0<p.length):Lz p n d (p.length-1)=cf p (p.length-1):=by unfold Lz;rw [show p.length-(p.length-1)=0+1 by omega,Yk,Ga];simp
theorem Yk5{p:List Int}(n d:Int){i:Nat}(h:i<p.length):Lz p n d i=Lz p n d (i+1)*n+cf p i*d^(p.length-1-i):=by
 unfold Lz;rw [show p.length-i=p.length-(i+1)+1 by omega,My];rw [<-Zlj];have:Ye (λm=>cf p (i+(m+1))*(n^(m+1)*d^(p.length-1-(i+(m+1))))) (p.length-(i+1))=Ye (λm=>cf p (i+1+m)*(n^m*d^(p.length-1-(i+1+m)))*n) (p.length-(i+1)):=
  Xd λm a=>by rw [show i+(m+1)=i+1+m by omega,dD];grind
 rw [this];simp only [eH,cL,eX];omega
theorem Zzn{K:Nat}{f:Nat->Int} : ∀{n:Nat},(∀i,i<n->bl (f i).natAbs<=K)->(Ye f n).natAbs<=n*(2^K-1)
 | 0,_=>by simp [Ye]
 | n+1,h=>by have b:=Zzn (n:=n) λi hi=>h i O;have a:=(Qo K _).1 (h n O);rw [Yk,bG];have:=mA (Ye f n) (f n);omega
theorem Zk2{K:Nat}{n:Nat}(h:∀i,i<n->bl (f i).natAbs<=K)(a:n<=31):bl (Ye f n).natAbs<=K+5:=by rw [Qo];have b:=Zzn h;have c:n*(2^K-1)<=31*(2^K-1):=aJ _ a;have d:0<2^K:=dQ K;rw [bW];omega
theorem Fj(x:Int){m:Nat}(h:bl x.natAbs<=m):∀k,0<k->bl (x^k).natAbs<=k*m
 | 0,a=>O
 | 1,_=>by rw [dD,cL,eX,lZ];exact h
 | k+2,_=>by have b:=Fj x h (k+1) O;rw [dD,show k+2=(k+1)+1 from rfl,bG (k+1) 1 m];have:=Yq (x^(k+1)) x;omega
def Ync:bl 1=1:=O3
theorem Zhq (i:Nat)(j:Nat){a n d:Int}{A:Nat}(l:bl a.natAbs<=A)(h:bl n.natAbs<=m)(g:bl d.natAbs<=m):bl (a*(n^i*d^j)).natAbs<=A+(i+j)*m:=by
 rcases aW i with rfl|hi
 .rcases aW j with rfl|c
  .simp;exact l
  .have e:=Fj d g j c;have b:=Yq a (n^0*d^j);rw [cL,eX]at b ⊢;rw [cC];omega
 .rcases aW j with rfl|c
  .have e:=Fj n h i hi;have b:=Yq a (n^i*d^0);rw [cL,fH]at b ⊢;rw [eH];omega
  .have e:=Fj n h i hi;have b:=Fj d g j c;have o:=Yq (n^i) (d^j);have p:=Yq a (n^i*d^j);rw [bG];omega
theorem Ynd{p:List Int}{n d:Int}{A:Nat}(e:Sz A p)(c:bl n.natAbs<=m)(b:bl d.natAbs<=m)(h:p.length<=31)(i:Nat):bl (Lz p n d i).natAbs<=A+(p.length-1-i)*m+5:=by unfold Lz;refine Zk2 (λk g=>?_) O;have a:=Zhq k (p.length-1-(i+k)) (e (i+k)) c b;rw [show k+(p.length-1-(i+k))=p.length-1-i by omega]at a;exact a
def Ib(p:List Int)(n d:Int):Prop:=p≠[]/\65536<Xx p+(p.length-1)*Xx [n,d]+8
instance (p:List Int) (n d:Int):Decidable (Ib p n d):=by unfold Ib;infer_instance
def evv(p:List Int)(n d:Int):Int:=if Ib p n d then 0 else pev p n d
def eve(p:List Int)(n d:Int):Int:=if Ib p n d then 7 else 0
abbrev wc (x:Int):Array Value:=#[.bool (decide (x<0)),.string (Qp x.natAbs)]
section
variable {p:List Int} {n d:Int} (hF:Xx p+(p.length-1)*Xx [n,d]+8<=65536) (hl:p.length<=25)
include hF
theorem Zjk:bl n.natAbs<=Xx [n,d]/\bl d.natAbs<=Xx [n,d]:=by simp only [Xx];omega
theorem Zr8 : bl (d^(p.length-1-k)).natAbs<=65536:=by
 rcases aW (p.length-1-k)with h|h
 .rw [h,cL];decide
 .have a:=Fj d (Zjk hF).2 _ h;have b:(p.length-1-k)*Xx [n,d]<=(p.length-1)*Xx [n,d]:=aJ _ O;omega
theorem Zr7 : bl (cf p k*d^(p.length-1-k)).natAbs<=65536:=by have a:=Zhq 0 (p.length-1-k) (Pb p k) (Zjk hF).1 (Zjk hF).2;have b:(0+(p.length-1-k))*Xx [n,d]<=(p.length-1)*Xx [n,d]:=aJ _ O;rw [cL,eX]at a;omega
include hl
theorem Zr9(k:Nat):bl (Lz p n d k).natAbs<=65536:=by have a:=Ynd (Pb p) (Zjk hF).1 (Zjk hF).2 O k;have b:(p.length-1-k)*Xx [n,d]<=(p.length-1)*Xx [n,d]:=aJ _ O;omega
theorem Zyy(a:1<=k)(b:k<=p.length-1):bl (Lz p n d k*n).natAbs<=65536:=by
 have c:=Ynd (Pb p) (Zjk hF).1 (Zjk hF).2 O k;have e:=Yq (Lz p n d k) n;have g:=(Zjk hF).1;have h:(p.length-1-k)*Xx [n,d]+Xx [n,d]<=(p.length-1)*Xx [n,d]:=by rw [<-dA];exact aJ _ O
 omega
end
theorem evv_bl{p:List Int}{n d:Int}(hl:p.length<=25):bl (evv p n d).natAbs<=65536:=by
 unfold evv;split
 .decide
 .rename_i h;rcases aW p.length with a|a
  .rw [aC a,show pev [] n d=0 from rfl];decide
  .rw [<-Zv4];have c:p≠[]:=λe=>by rw [e]at a;simp at a
   exact Zr9 (Nat.le_of_not_lt λb=>h ⟨c,b⟩) hl 0
theorem Yjj(d:Int){L:Nat}(a:1<=k)(b:k<=L):d^(L-k)*d=d^(L-(k-1)):=by rw [show L-(k-1)=L-k+1 by omega,dD]
theorem Yft{p:List Int}(n d:Int)(a:1<=k)(b:k<=p.length-1):Lz p n d k*n+cf p (k-1)*d^(p.length-1-(k-1))=Lz p n d (k-1):=by rw [Yk5 n d (i:=k-1) O,show k-1+1=k by omega]
end Go.Sky
namespace Go.Sky
variable{k i B t top:Nat}{f:Nat->Int}{q r c R:List Int}{a b:Int}
def acc(p q:List Int)(i t:Nat):Int:=Ye (λk=>if k<=t then cf p k*cf q (t-k)else 0) i
def Zbr(p q:List Int)(i j t:Nat):Int:=acc p q i t+if i<=t/\t<i+j then cf p i*cf q (t-i)else 0
theorem Ygd(p q:List Int)(i:Nat):Zbr p q i 0=acc p q i:=oQ λt=>by unfold Zbr;rw [aD O,fK]
theorem Ynt(p q:List Int)(i:Nat):Zbr p q i q.length=acc p q (i+1):=oQ λt=>by
 unfold Zbr acc;rw [Yk];by_cases h:i<=t
 .rw [aG h];by_cases d:t<i+q.length
  .rw [aG ⟨h,d⟩]
  .rw [aD (λh=>d h.2),Yf (p:=q) O,dU]
 .rw [aD h,aD (λd=>h d.1)]
theorem Zmm{L:Nat}{g:Nat->Int}(j:k<L)(h:∀t,t<L->t≠k->f t=g t){x:Int}(l:x=g k):(mk L f).set k x=mk L g:=It (by simp [Yu]) λt e=>by
 rw [bI,Yu]at e;rw [Znm (by rw [Yu];exact j),Nw,Nw,aG e];by_cases d:t=k
 .rw [aG d,d,l,aG j]
 .rw [aD d,aG e,h t e d]
theorem Yns{p:List Int}{L j:Nat}(h:i+j<L):(mk L (Zbr p q i j)).set (i+j) (Zbr p q i j (i+j)+cf p i*cf q j)=mk L (Zbr p q i (j+1)):=by
 refine Zmm h (λt g e=>?_) ?_
 .unfold Zbr;by_cases d:i<=t/\t<i+j
  .rw [aG d,aG O]
  .rw [aD d,aD O]
 .unfold Zbr;rw [aD O,aG O,fK,show i+j-i=j by omega]
theorem Zxd(p q:List Int)(t:Nat):acc p q p.length t=(ps p*ps q).c t:=by
 rw [PS.mul_c];unfold acc;have d:Ye (λk=>if k<=t then cf p k*cf q (t-k)else 0) (max (t+1) p.length)=Ye (λk=>if k<=t then cf p k*cf q (t-k)else 0) p.length:=
  Zh6 O λk d _=>by rw [Yf d,cM];split<;>rfl
 have e:Ye (λk=>if k<=t then cf p k*cf q (t-k)else 0) (max (t+1) p.length)=Ye (λk=>if k<=t then cf p k*cf q (t-k)else 0) (t+1):=
  Zh6 O λk d _=>by rw [aD O]
 rw [<-d,e];exact Xd λk g=>by rw [aG O];rfl
theorem Zqt(L:Nat):List.replicate L 0=mk L λ_=>0:=by rw [Ad L λ_=>0];unfold fill;exact Gd λi _=>by split<;>rfl
theorem Yjo(p q:List Int):tzl (mk (p.length+q.length-1) (acc p q p.length))=Qs p q:=by unfold Qs;congr 1;exact Gd λi _=>Zxd p q i
theorem Ysr{p:List Int}{A j:Nat}(g:Sz A p)(l:Sz B q)(hi:i<31):bl (Zbr p q i j t).natAbs<=A+B+5:=by
 have h:Zbr p q i j t=Ye (λk=>if k<i then(if k<=t then cf p k*cf q (t-k)else 0)else if i<=t/\t<i+j then cf p i*cf q (t-i)else 0) (i+1):=by rw [Yk];rw [aD (Nat.lt_irrefl i)];unfold Zbr acc;congr 1;exact Xd λk d=>by rw [aG d]
 rw [h];have e:∀a b,bl (cf p a*cf q b).natAbs<=A+B:=λa b=>by have:=Yq (cf p a) (cf q b);have:=g a;have:=l b;omega
 refine Zk2 (λk d=>?_) O;split
 .split
  .exact e _ _
  .simp [Lt]
 .split
  .exact e _ _
  .simp [Lt]
theorem bl_acc{p:List Int}{A:Nat}(d:Sz A p)(e:Sz B q)(hi:i<=31):bl (acc p q i t).natAbs<=A+B+5:=by
 refine Zk2 (λk g=>?_) hi;split
 .have:=Yq (cf p k) (cf q (t-k));have:=d k;have:=e (t-k);omega
 .simp [Lt]
def Zak(p q:List Int):Prop:=p≠[]/\q≠[]/\(24<p.length+q.length-2\/65536<Xx p+Xx q+5)
instance (p q:List Int):Decidable (Zak p q):=by unfold Zak;infer_instance
theorem Zen{L:Nat}(h:i<L):(mk L f).getD i 0=f i:=by have:=Nw L f i;rw [aG h]at this;exact this
def Yrk(p q:List Int):Bool:=decide (q≠[]) && decide (p.length<q.length)
def Bs(p q:List Int):Int:=if q.length=0 then 3 else if p.length<q.length then 0 else if 65536<Xx p+(p.length-q.length+1)*(Xx q+1)then 7 else 0
def Ze2(q r:List Int)(top:Nat):List Int:=
 mk r.length λt=>cf r t*cf q (q.length-1)-if top-(q.length-1)<=t/\t<top-(q.length-1)+q.length then cf r top*cf q (t-(top-(q.length-1)))else 0
def Qn(p q:List Int):Nat->List Int
 | 0=>p
 | j+1=>Ze2 q (Qn p q j) (p.length-1-j)
def Zg2(q r:List Int)(top:Nat):(Ze2 q r top).length=r.length:=Yu _ _
theorem Pi(p q:List Int):∀j,(Qn p q j).length=p.length
 | 0=>rfl
 | j+1=>by unfold Qn;rw [Zg2,Pi p q j]
def Qc(p q:List Int):List Int:=if p.length<q.length then p else tzl (Qn p q (p.length-q.length+1))
theorem Zhn(d:t<r.length):cf (Ze2 q r top) t=cf r t*cf q (q.length-1)-if top-(q.length-1)<=t/\t<top-(q.length-1)+q.length then cf r top*cf q (t-(top-(q.length-1)))else 0:=by unfold Ze2;rw [Nw,aG d]
theorem Ydo{c d:Int}{A:Nat}(j:bl a.natAbs<=A)(l:bl b.natAbs<=B)(m:bl c.natAbs<=A)(n:bl d.natAbs<=B):bl (a*b-c*d).natAbs<=A+(B+1):=by have e:=Yq a b;have g:=Yq c d;have h:=Bu (a*b) (c*d);omega
theorem Yg5{A:Nat}(e:Sz A r)(d:Sz B q):Sz (A+(B+1)) (Ze2 q r top):=by
 unfold Ze2;refine Bf λt g=>?_;split
 .exact Ydo (e t) (d _) (e _) (d _)
 .rw [gF];have:=Yq (cf r t) (cf q (q.length-1));have:=e t;have:=d (q.length-1);omega
theorem Bw(p q:List Int):∀j,Sz (Xx p+j*(Xx q+1)) (Qn p q j)
 | 0=>by rw [gP];exact Pb p
 | j+1=>by unfold Qn;rw [dA,<-gC];exact Yg5 (Bw p q j) (Pb q)
def dq(q r:List Int)(k:Nat):Int:=cf r (k+q.length-1)/cf q (q.length-1)
def Ze7(q r:List Int)(k:Nat):List Int:=mk r.length λt=>cf r t-if k<=t/\t<k+q.length then dq q r k*cf q (t-k)else 0
def Xr(p q:List Int):Nat->List Int
 | 0=>p
 | j+1=>Ze7 q (Xr p q j) (p.length-q.length-j)
theorem Fc(p q:List Int):∀j,(Xr p q j).length=p.length
 | 0=>rfl
 | j+1=>by unfold Xr Ze7;rw [Yu,Fc p q j]
def Zwo(p q:List Int)(k:Nat):Int:=dq q (Xr p q (p.length-q.length-k)) k
def Mp(p q:List Int)(k:Nat):Prop:=cf (Xr p q (p.length-q.length-k)) (k+q.length-1)%cf q (q.length-1)=0
def Yjg(p q:List Int):List Int:=tzl (mk (p.length-q.length+1) (Zwo p q))
def pdivs(p q:List Int):Prop:=p=[]\/(q.length<=p.length/\(∀k,k<=p.length-q.length->Mp p q k)/\∀i,cf (Xr p q (p.length-q.length+1)) i=0)
theorem Yg8{A:Nat}(d:Sz A r)(g:Sz B q)(e:cf r (k+q.length-1)%cf q (q.length-1)=0):Sz (A+(B+1)) (Ze7 q r k):=by
 unfold Ze7;refine Bf λt m=>?_;split
 .have h:bl (dq q r k).natAbs<=A:=Hg (gN e) (d _);have j:=Yq (dq q r k) (cf q (t-k));have l:=Bu (cf r t) (dq q r k*cf q (t-k));have:=d t;have:=g (t-k);omega
 .rw [gF];have:=d t;omega
theorem Za7(p q:List Int):∀j,j<=p.length-q.length+1->(∀k,p.length-q.length<k+j->k<=p.length-q.length->Mp p q k)->Sz (Xx p+j*(Xx q+1)) (Xr p q j)
 | 0,_,_=>by rw [gP];exact Pb p
 | j+1,g,h=>by unfold Xr;rw [dA,<-gC];refine Yg8 (Za7 p q j O λk e d=>h k O d) (Pb q) ?_;have:=h (p.length-q.length-j) O O;unfold Mp at this;rw [show p.length-q.length-(p.length-q.length-j)=j by omega]at this;exact this
theorem Ylx{x y:Bool×ByteArray}(h:eqW x.1 x.2 y.1 y.2=true):x=y:=by obtain⟨d,e⟩:=Zsd.1 h;exact Prod.ext d e
def Ylw(a:Bool)(s:ByteArray):eqW a s a s=true:=Zsd.2 ⟨rfl,rfl⟩
theorem Yge(p q:List Int)(i j:Nat):Zbr p q i (j+1) (i+j)=Zbr p q i j (i+j)+cf p i*cf q j:=by unfold Zbr;rw [aG O,aD O,fK,show i+j-i=j by omega]
theorem Zbe{p:List Int}(h:p.length=0\/q.length=0):Qs p q=[]:=by
 unfold Qs;refine(Ko _).2 λi=>?_;rw [Nw];split
 .rw [PS.mul_c];refine Gl λk _=>?_;rcases h with h|h
  .rw [Ol,Yf O,cM]
  .rw [Ol,Ol,Yf (p:=q) O,dU]
 .rfl
def Zjs(R:List Int)(l:Int)(i:Nat):List Int:=mk R.length λt=>if t<i then cf R t*l else cf R t
def Zn6(q R:List Int)(l c:Int)(s i:Nat):List Int:=mk R.length λt=>cf R t*l-if s<=t/\t<s+i then c*cf q (t-s)else 0
def Zvr(R:List Int)(l:Int)(i:Nat):(Zjs R l i).length=R.length:=Yu _ _
def Zvq(q R:List Int)(l c:Int)(s i:Nat):(Zn6 q R l c s i).length=R.length:=Yu _ _
theorem Yfe(R:List Int)(l:Int):Zjs R l 0=R:=by unfold Zjs;refine Eq.trans (Gd λi hi=>?_) (Zei R);rw [aD O]
theorem Yki{l:Int}(h:i<R.length):(Zjs R l i).getD i 0=cf R i:=by unfold Zjs;rw [Zen h,aD O]
theorem Ykh{l:Int}(h:i<R.length):(Zjs R l i).set i (cf R i*l)=Zjs R l (i+1):=by
 unfold Zjs;refine Zmm h (λt g e=>?_) (by rw [aG O]);by_cases d:t<i
 .rw [aG d,aG O]
 .rw [aD d,aD O]
theorem Yeg(q R:List Int)(l c:Int)(s:Nat):Zjs R l R.length=Zn6 q R l c s 0:=by unfold Zjs Zn6;exact Gd λi hi=>by rw [aG hi,aD O,gF]
theorem Yhc{l c:Int}{s:Nat}(h:s+i<R.length):(Zn6 q R l c s i).getD (s+i) 0=cf R (s+i)*l:=by unfold Zn6;rw [Zen h,aD O,gF]
theorem Yhb{l c:Int}{s:Nat}(h:s+i<R.length):(Zn6 q R l c s i).set (s+i) (cf R (s+i)*l-c*cf q i)=Zn6 q R l c s (i+1):=by
 unfold Zn6;refine Zmm h (λt g e=>?_) (by rw [aG O,show s+i-s=i by omega]);by_cases d:s<=t/\t<s+i
 .rw [aG d,aG O]
 .rw [aD d,aD O]
theorem rest_b{p:List Int}{j:Nat}(g:Xx p+(p.length-q.length+1)*(Xx q+1)<=65536)(h:j<p.length-q.length+1) :
  (∀t,bl (cf (Qn p q j) t).natAbs<=65536)/\(∀t i,bl (cf (Qn p q j) t*cf q i).natAbs<=65536)/\(∀t i t2 i2,bl (cf (Qn p q j) t*cf q i-cf (Qn p q j) t2*cf q i2).natAbs<=65536):=by
 have d:=Bw p q j;have e:j*(Xx q+1)+(Xx q+1)<=(p.length-q.length+1)*(Xx q+1):=by rw [<-dA];exact aJ _ O
 refine⟨λt=>by have:=d t;omega,λt i=>?_,λt i t2 i2=>?_⟩
 .have:=d t;have:=Pb q i;have:=Yq (cf (Qn p q j) t) (cf q i);omega
 .have:=Ydo (d t) (Pb q i) (d t2) (Pb q i2);omega
def Zty{p:List Int}(d:Xx p+(p.length-q.length+1)*(Xx q+1)<=65536):Sz 65536 (Qn p q (p.length-q.length+1)):=(Bw p q _).mono d
theorem Zci{p:List Int}(h:Bs p q=0):q.length≠0/\(q.length<=p.length->Xx p+(p.length-q.length+1)*(Xx q+1)<=65536):=by
 unfold Bs at h;split at h
 .omega
 .refine⟨‹_›,λd=>?_⟩;rw [aD O]at h;split at h
  .omega
  .omega
theorem Zhg{p:List Int}(h:q.length≠0):Yrk p q=decide (p.length<q.length):=by unfold Yrk;have d:q≠[]:=λe=>h (by rw [e];rfl);simp [d]
def Zod(q R:List Int)(c:Int)(k i:Nat):List Int:=mk R.length λt=>cf R t-if k<=t/\t<k+i then c*cf q (t-k)else 0
def Zvs(q R:List Int)(c:Int)(k i:Nat):(Zod q R c k i).length=R.length:=Yu _ _
theorem Yf2(q R:List Int)(c:Int)(k:Nat):R=Zod q R c k 0:=by unfold Zod;refine Eq.trans (Zei R).symm (Gd λi hi=>?_);rw [aD O,gF]
theorem Yl1{c:Int}(h:k+i<R.length):(Zod q R c k i).getD (k+i) 0=cf R (k+i):=by unfold Zod;rw [Zen h,aD O,gF]
theorem Yl0{c:Int}(h:k+i<R.length):(Zod q R c k i).set (k+i) (cf R (k+i)-c*cf q i)=Zod q R c k (i+1):=by
 unfold Zod;refine Zmm h (λt g e=>?_) (by rw [aG O,show k+i-k=i by omega]);by_cases d:k<=t/\t<k+i
 .rw [aG d,aG O]
 .rw [aD d,aD O]
def Zdj(p q:List Int)(j:Nat):List Int:=mk (p.length-q.length+1) λt=>if p.length-q.length<t+j then Zwo p q t else 0
def Zam(p q:List Int)(j:Nat):(Zdj p q j).length=p.length-q.length+1:=Yu _ _
theorem Zpo(p q:List Int):List.replicate (p.length-q.length+1) 0=Zdj p q 0:=by rw [Zqt];unfold Zdj;exact Gd λi hi=>by rw [aD O]
theorem Zwf{p:List Int}{j:Nat}(g:j<p.length-q.length+1):(Zdj p q j).set (p.length-q.length-j) (dq q (Xr p q j) (p.length-q.length-j))=Zdj p q (j+1):=by
 unfold Zdj;refine Zmm O (λt h e=>?_) ?_
 .by_cases d:p.length-q.length<t+j
  .rw [aG d,aG O]
  .rw [aD d,aD O]
 .rw [aG O];unfold Zwo;rw [show p.length-q.length-(p.length-q.length-j)=j by omega]
theorem Zdi(p q:List Int):tzl (Zdj p q (p.length-q.length+1))=Yjg p q:=by unfold Zdj Yjg;congr 1;exact Gd λi hi=>by rw [aG O]
def pdv(p q:List Int):Prop:=p=[]\/(q.length<=p.length/\(∀k,k<=p.length-q.length->Mp p q k)/\tzl (Xr p q (p.length-q.length+1))=[])
instance (p q:List Int) (k:Nat):Decidable (Mp p q k):=by unfold Mp;infer_instance
instance (p q:List Int):Decidable (pdv p q):=by unfold pdv;infer_instance
theorem div_b{p:List Int}{j:Nat}(n:Xx p+(p.length-q.length+1)*(Xx q+1)<=65536)(o:j<p.length-q.length+1)(h:∀k,p.length-q.length<k+j->k<=p.length-q.length->Mp p q k) :
  (∀t,bl (cf (Xr p q j) t).natAbs<=65536)/\(Mp p q (p.length-q.length-j)->bl (dq q (Xr p q j) (p.length-q.length-j)).natAbs<=65536/\(∀i,bl (dq q (Xr p q j) (p.length-q.length-j)*cf q i).natAbs<=65536)/\
   ∀t i,bl (cf (Xr p q j) t-dq q (Xr p q j) (p.length-q.length-j)*cf q i).natAbs<=65536):=by
 have d:=Za7 p q j O h;have l:j*(Xx q+1)+(Xx q+1)<=(p.length-q.length+1)*(Xx q+1):=by rw [<-dA];exact aJ _ O
 refine⟨λt=>by have:=d t;omega,λe=>?_⟩;unfold Mp at e;rw [show p.length-q.length-(p.length-q.length-j)=j by omega]at e;have m:bl (dq q (Xr p q j) (p.length-q.length-j)).natAbs<=Xx p+j*(Xx q+1):=Hg (gN e) (d _);have g:∀i,bl (dq q (Xr p q j) (p.length-q.length-j)*cf q i).natAbs<=Xx p+j*(Xx q+1)+Xx q:=λi=>by have:=Yq (dq q (Xr p q j) (p.length-q.length-j)) (cf q i);have:=Pb q i;omega
 refine⟨O,λi=>by have:=g i;omega,λt i=>?_⟩;have:=Bu (cf (Xr p q j) t) (dq q (Xr p q j) (p.length-q.length-j)*cf q i);have:=g i;have:=d t;omega
theorem Zz9{p:List Int}(g:Xx p+(p.length-q.length+1)*(Xx q+1)<=65536)(e:∀k,k<=p.length-q.length->Mp p q k){j:Nat}:Sz 65536 (Zdj p q j):=by
 unfold Zdj;refine Bf λt l=>?_;split
 .have d:=(div_b g (j:=p.length-q.length-t) O (λk _ h=>e k h)).2;rw [show p.length-q.length-(p.length-q.length-t)=t by omega]at d;exact(d (e t O)).1
 .simp [Lt]
def Yg9{p:List Int}(d:Xx p+(p.length-q.length+1)*(Xx q+1)<=65536)(g:∀k,k<=p.length-q.length->Mp p q k):Sz 65536 (Xr p q (p.length-q.length+1)):=
 (Za7 p q _ (aI _) λk _ e=>g k e).mono d
def Lb(p:List Int)(a b d:Int):Nat->List Int
 | 0=>[cf p (p.length-1)]
 | j+1=>mk ((Lb p a b d j).length+1) λt=>cf (Lb p a b d j) t*a+(if t=0 then cf p (p.length-2-j)*d^(j+1)else cf (Lb p a b d j) (t-1)*b)
def Ec(p:List Int)(a b d:Int):Lb p a b d 0=[cf p (p.length-1)]:=rfl
def Zpw(p:List Int)(a b d:Int)(j:Nat):Lb p a b d (j+1)=mk ((Lb p a b d j).length+1) (λt=>cf (Lb p a b d j) t*a+(if t=0 then cf p (p.length-2-j)*d^(j+1)else cf (Lb p a b d j) (t-1)*b)):=rfl
theorem Zdb(p:List Int)(a b d:Int):∀j,(Lb p a b d j).length=j+1
 | 0=>rfl
 | j+1=>by unfold Lb;rw [Yu,Zdb p a b d j]
def Lm(p:List Int)(a b d:Int):List Int:=if p.length=0 then []else tzl (Lb p a b d (p.length-1))
def Znf(p:List Int)(a b d:Int):Prop:=p≠[]/\65536<Xx p+(p.length-1)*(Xx [a,b,d]+1)+8
instance (p:List Int) (a b d:Int):Decidable (Znf p a b d):=by unfold Znf;infer_instance
def Kc(p q:List Int):List Int:=if p=[]then []else Yjg p q
def Zl9{p:List Int}(h:p≠[]):Kc p q=Yjg p q:=aD h
theorem Zhh{p:List Int}{j:Nat}(d:j<=p.length-q.length):Mp p q (p.length-q.length-j)↔cf (Xr p q j) (p.length-q.length-j+q.length-1)%cf q (q.length-1)=0:=by unfold Mp;rw [show p.length-q.length-(p.length-q.length-j)=j by omega]
def Zw2{x y:Int}(e:y≠0)(d:bl y.natAbs<=65536):Zbn (x%y)=x%y:=Hh (aB (Zs9 x y e) d)
def cnx(c:List Int)(a b:Int)(i:Nat):List Int:=mk (c.length+1) λt=>if t<i then cf c t*a+(if t=0 then 0 else cf c (t-1)*b)else if t=i/\0<i then cf c (t-1)*b else 0
def Gf(c:List Int)(a b:Int)(i:Nat):(cnx c a b i).length=c.length+1:=Yu _ _
theorem Ymv(c:List Int)(a b:Int):List.replicate (c.length+1) 0=cnx c a b 0:=by rw [Zqt];unfold cnx;exact Gd λi hi=>by rw [aD O,aD O]
theorem Yc8(h:i<c.length):(cnx c a b i).getD i 0=if i=0 then 0 else cf c (i-1)*b:=by
 unfold cnx;rw [Zen O,aD O];by_cases d:i=0
 .rw [aD O,aG d]
 .rw [aG O,aD d]
theorem Yry(h:i<c.length):((cnx c a b i).set i ((cnx c a b i).getD i 0+cf c i*a)).set (i+1) (cf c i*b)=cnx c a b (i+1):=It (by simp [Gf]) λt g=>by
 rw [bI,bI,Gf]at g;rw [Znm (by rw [bI,Gf];omega),Znm (by rw [Gf];omega),Yc8 h];unfold cnx;rw [Nw,Nw,aG g,aG g];by_cases d:t=i+1
 .subst d;rw [aG rfl,aD O,aG O,show i+1-1=i by omega]
 .rw [aD d];by_cases e:t=i
  .subst e;rw [aG rfl,aG (iR t)];split<;>omega
  .rw [aD e];by_cases j:t<i
   .simp [j,show t<i+1 by omega]
   .simp [j,e,d,show ¬t<i+1 by omega]
theorem Zwz(h:0<c.length):(cnx c a b c.length).getD 0 0=cf c 0*a:=by unfold cnx;rw [Zen O,aG h,aG rfl,fK]
theorem Yrz{w:Int}(h:0<c.length):(cnx c a b c.length).set 0 ((cnx c a b c.length).getD 0 0+w)=mk (c.length+1) λt=>cf c t*a+(if t=0 then w else cf c (t-1)*b):=It (by simp [Gf,Yu]) λt e=>by
 rw [bI,Gf]at e;rw [Znm (by rw [Gf];omega),Zwz h,Nw,aG e];unfold cnx;rw [Nw,aG e];by_cases d:t=0
 .rw [aG d,aG d,d]
 .rw [aD d,aD d,aD d];by_cases g:t<c.length
  .rw [aG g]
  .rw [aD g,aG (show t=c.length/\0<c.length by omega),Yf (i:=t) O];omega
theorem Zj7{p:List Int}{x y z:Int}{A m:Nat}(d:Sz A p)(l:bl x.natAbs<=m)(v:bl y.natAbs<=m)(n:bl z.natAbs<=m):∀j,Sz (A+j*(m+1)) (Lb p x y z j)
 | 0=>Sz.of_mem λw g=>by have g:w∈[cf p (p.length-1)]:=g;rw [bO.1 g];have:=d (p.length-1);omega
 | j+1=>by
  have o:=Zj7 d l v n j;unfold Lb;refine Bf λt G=>?_;have D:=Yq (cf (Lb p x y z j) t) x;have F:=o t;have e:(j+1)*(m+1)=j*(m+1)+m+1:=by rw [dA];omega
  split
  .have h:=Zhq 0 (j+1) (d (p.length-2-j)) l n;rw [cL,eX]at h;have s:(0+(j+1))*m<=j*(m+1)+m:=by rw [cC,dA];have:j*m<=j*(m+1):=bB _ O;omega
   have u:=Im (cf (Lb p x y z j) t*x) (cf p (p.length-2-j)*z^(j+1));omega
  .have h:=Yq (cf (Lb p x y z j) (t-1)) y;have s:=o (t-1);have u:=Im (cf (Lb p x y z j) t*x) (cf (Lb p x y z j) (t-1)*y);omega
section
variable {p:List Int} {x y z:Int} (hF:Xx p+(p.length-1)*(Xx [x,y,z]+1)+8<=65536) {j:Nat} (hj:j<p.length-1)
include hF hj
theorem cp_all:bl (z^j).natAbs<=65536/\bl (z^(j+1)).natAbs<=65536/\(∀t,bl (cf (Lb p x y z j) t).natAbs<=65536)/\(∀t,bl (cf (Lb p x y z j) t*x).natAbs<=65536)/\(∀t,bl (cf (Lb p x y z j) t*y).natAbs<=65536)/\
  (∀t,bl ((if t=0 then 0 else cf (Lb p x y z j) (t-1)*y)).natAbs<=65536)/\(∀t,bl ((if t=0 then 0 else cf (Lb p x y z j) (t-1)*y)+cf (Lb p x y z j) t*x).natAbs<=65536)/\
  bl (cf p (p.length-2-j)*z^(j+1)).natAbs<=65536/\bl (cf (Lb p x y z j) 0*x+cf p (p.length-2-j)*z^(j+1)).natAbs<=65536:=by
 have v:bl x.natAbs<=Xx [x,y,z]:=by simp only [Xx];omega
 have F:bl y.natAbs<=Xx [x,y,z]:=by simp only [Xx];omega
 have d:bl z.natAbs<=Xx [x,y,z]:=by simp only [Xx];omega
 have l:=Zj7 (Pb p) v F d j;generalize Xx [x,y,z]=m at *;have e:j*(m+1)+(m+1)<=(p.length-1)*(m+1):=by rw [<-dA];exact aJ _ O
 have D:j*m<=j*(m+1):=bB _ O;have w:=Zhq 0 (j+1) (Pb p (p.length-2-j)) v d;rw [cL,eX,cC,dA]at w;have o:=Fj z d (j+1) O;rw [dA]at o;have n:bl (z^j).natAbs<=65536:=by
  rcases aW j with h|h
  .rw [h,cL];decide
  .have:=Fj z d j h;omega
 have g:∀t,bl (cf (Lb p x y z j) t*x).natAbs<=Xx p+j*(m+1)+m:=λt=>by have:=Yq (cf (Lb p x y z j) t) x;have:=l t;omega
 have s:∀t,bl (cf (Lb p x y z j) t*y).natAbs<=Xx p+j*(m+1)+m:=λt=>by have:=Yq (cf (Lb p x y z j) t) y;have:=l t;omega
 have u:∀t,bl ((if t=0 then 0 else cf (Lb p x y z j) (t-1)*y)).natAbs<=Xx p+j*(m+1)+m:=λt=>by
  split
  .simp [Lt]
  .exact s _
 refine⟨n,O,λt=>by have:=l t;omega,λt=>by have:=g t;omega,λt=>by have:=s t;omega,λt=>by have:=u t;omega,λt=>?_,O,?_⟩
 .have:=Im (if t=0 then 0 else cf (Lb p x y z j) (t-1)*y) (cf (Lb p x y z j) t*x);have:=g t;have:=u t;omega
 .have:=Im (cf (Lb p x y z j) 0*x) (cf p (p.length-2-j)*z^(j+1));have:=g 0;omega
end
theorem Yrw{p:List Int}{x y z:Int}(hF:Xx p+(p.length-1)*(Xx [x,y,z]+1)+8<=65536):Sz 65536 (Lb p x y z (p.length-1)):=by
 have d:bl x.natAbs<=Xx [x,y,z]:=by simp only [Xx];omega
 have e:bl y.natAbs<=Xx [x,y,z]:=by simp only [Xx];omega
 have g:bl z.natAbs<=Xx [x,y,z]:=by simp only [Xx];omega
 exact(Zj7 (Pb p) d e g _).mono O
theorem Zjt(p q:List Int):(Qc p q).length<=p.length:=by
 unfold Qc;split
 .exact aI _
 .have:=Mj (Qn p q (p.length-q.length+1));rw [Pi]at this;exact this
theorem Za3{p:List Int}(d:Vp p)(e:Bs p q=0):Vp (Qc p q):=by
 have g:=Zjt p q;refine⟨?_,?_,by have:=d.len;omega⟩
 .unfold Qc;split
  .exact d.sz
  .exact(Zty ((Zci e).2 O)).tzl
 .unfold Qc;split
  .exact d.tr
  .exact Qi _
def Zpk(p q:List Int):Prop:=p.length≠0/\q.length≠0/\65536<(max p.length q.length+2)*(max p.length q.length+2)*(max (Xx p) (Xx q)+8)
instance (p q:List Int):Decidable (Zpk p q):=by unfold Zpk;infer_instance
def gA(p q:List Int):List Int:=if p.length<q.length then Zw q else Zw p
def gB(p q:List Int):List Int:=if p.length<q.length then Zw p else Zw q
def eok:Nat->List Int->List Int->Prop
 | 0,_,b=>b=[]
 | f+1,a,b=>b=[]\/(Bs a b=0/\eok f b (Zw (Qc a b)))
def eu:Nat->List Int->List Int->List Int
 | 0,a,_=>a
 | f+1,a,b=>if b=[]then a else eu f b (Zw (Qc a b))
theorem Zwc{f:Nat}{a b:List Int}(h:eok f a b)(d:b≠[]):∃g,f=g+1/\Bs a b=0/\eok g b (Zw (Qc a b))/\eu f a b=eu g b (Zw (Qc a b)):=by
 cases f with
 | zero=>exact absurd h d
 | succ g=>
  rcases h with h|h
  .exact absurd h d
  .exact⟨g,rfl,h.1,h.2,by show(if b=[]then a else _)=_;rw [aD d]⟩
theorem Cc(f:Nat)(a:List Int):eu f a []=a:=by cases f<;>rfl
def Lv(g:List Int):List Int:=if g.length≠0/\cf g (g.length-1)<0 then Zq g (-1)else g
def Nc(f:Nat)(p q:List Int):List Int:=Lv (eu f (gA p q) (gB p q))
theorem vp_gA{p:List Int}(d:Vp p)(e:Vp q):Vp (gA p q):=by unfold gA;split<;>exact Kb ‹_›
theorem vp_gB{p:List Int}(d:Vp p)(e:Vp q):Vp (gB p q):=by unfold gB;split<;>exact Kb ‹_›
theorem Zck{p:List Int}(h:Sz 65536 p)(i:Nat):bl (cf p i * -1).natAbs<=65536:=by rw [kG,fH,eC];exact h i
theorem Pf(z:Int):z.sign<0↔z<0:=by
 rcases jJ z 0 with h|h|h
 .rw [fA h];omega
 .subst h;simp
 .rw [fT h];omega
end Go.Sky
namespace Go.Sky
variable{b k c:Nat}{xs ys:List Nat}{p:Nat->Prop}
theorem Zj6{l:List Int}(h:∀x∈l,Nz x):Sz 65536 l:=Sz.of_mem λx a=>by obtain⟨d,e⟩:=h x a;have:bl x.natAbs<=64:=(Qo 64 _).2 O;omega
open Go.RowKit Below
set_option maxRecDepth 20000
def Pt:2<=1000000000:=O3
def Iy:0<1000000000:=O3
abbrev Ox (v:Value) (x:Nat):Pc:=Yx 1 Ih v (dg 1000000000 x)
theorem Hf(x:Nat):(dg 1000000000 x).length<=bl x:=by rw [Xt Pt];exact dG (Co x) (fV O3 _)
theorem Zz4(a:2<=b){o:List Nat}(f:∀d∈o,d<b){x:Nat}(g:Yn b o=x)(h:o.length=0\/b^(o.length-1)<=x):o=dg b x:=by
 rw [<-g,Ic a o f];have j:(tz o).length<=o.length:=(Bv o).1;have i:o.length<=(tz o).length:=by
  rw [<-Ic a o f,g];rcases h with h|h
  .omega
  .have:=(Nv a (o.length-1) x).2 h;omega
 have e:=(Bv o).2;rw [bM i]at e;exact e
theorem Ye7{o:List Nat}(a:o.length=k)(h:Yn b o+c*b^k=Yn b (xs.take k)+Yn b (ys.take k)) :
  Yn b (o ++ [(c+xs.getD k 0+ys.getD k 0)%b])+(c+xs.getD k 0+ys.getD k 0)/b*b^(k+1)=Yn b (xs.take (k+1))+Yn b (ys.take (k+1)):=by
 rw [Mi,Qt,Qt,a];have e:=cD (c+xs.getD k 0+ys.getD k 0) b;generalize (c+xs.getD k 0+ys.getD k 0)/b=q at *;generalize (c+xs.getD k 0+ys.getD k 0)%b=r at *;simp only [Yn,bX];generalize b^k=B at *;have:(b*q+r)*B=(c+xs.getD k 0+ys.getD k 0)*B:=by rw [e]
 grind
def d9s(a b c:Nat):Nat:=if a<b+c then a+1000000000-(b+c)else a-(b+c)
theorem Yc0{a:Nat}(d:a<1000000000)(e:b<1000000000)(f:c<=1):d9s a b c<1000000000/\d9s a b c+(b+c)=a+brw a b c*1000000000:=by unfold d9s brw;split<;>omega
theorem Zyi{o:List Nat}(a:c<=1)(f:xs.getD k 0<1000000000)(g:ys.getD k 0<1000000000)(d:o.length=k)(h:Yn 1000000000 o+Yn 1000000000 (ys.take k)=Yn 1000000000 (xs.take k)+c*1000000000^k) :
  Yn 1000000000 (o ++ [d9s (xs.getD k 0) (ys.getD k 0) c])+Yn 1000000000 (ys.take (k+1))=Yn 1000000000 (xs.take (k+1))+brw (xs.getD k 0) (ys.getD k 0) c*1000000000^(k+1):=by
 rw [Mi,Qt,Qt,d];have e:=(Yc0 f g a).2;generalize d9s (xs.getD k 0) (ys.getD k 0) c=r at *;generalize brw (xs.getD k 0) (ys.getD k 0) c=q at *;simp only [Yn,bX];generalize 1000000000^k=B at *;have:(r+(ys.getD k 0+c))*B=(xs.getD k 0+q*1000000000)*B:=by rw [e]
 grind
theorem Zn1{o:List Nat}(h:∀d∈o,p d){x:Nat}(f:p x):∀d∈o ++ [x],p d:=λd e=>by
 rcases cZ.1 e with a|a
 .exact h d a
 .rw [bO.1 a];exact f
def Zbd{x:Nat}(a:2<=b)(h:k<(dg b x).length):b^k<=x:=(Nv a k x).1 h
theorem Fu{x:Nat}(a:2<=b)(h:(dg b x).length<=k):Yn b ((dg b x).take k)=x:=by rw [Mr _ _ h,Mw a]
theorem Ztv{a o:Nat}(d:a<1000000000)(e:b<1000000000)(g:o<1000000000)(f:c<1000000000):(o+c+a*b)/1000000000<1000000000/\o+c+a*b<=9223372036854775807:=by have h:a*b<=999999999*999999999:=aU O O;refine⟨?_,O⟩;rw [cF Iy];omega
theorem Zxk{o:List Nat}{i V:Nat}(h:Yn 1000000000 o+c*1000000000^(i+k)=V+xs.getD i 0*1000000000^i*Yn 1000000000 (ys.take k))(d:i+k<o.length) :
  Yn 1000000000 (o.set (i+k) ((o.getD (i+k) 0+c+xs.getD i 0*ys.getD k 0)%1000000000))+(o.getD (i+k) 0+c+xs.getD i 0*ys.getD k 0)/1000000000*1000000000^(i+(k+1))=V+xs.getD i 0*1000000000^i*Yn 1000000000 (ys.take (k+1)):=by
 have a:=Zj4 1000000000 o o.length (i+k) ((o.getD (i+k) 0+c+xs.getD i 0*ys.getD k 0)%1000000000) d d;rw [bM (by rw [bI];exact aI _),bM (aI _)]at a;rw [Qt];have e:=cD (o.getD (i+k) 0+c+xs.getD i 0*ys.getD k 0) 1000000000;generalize (o.getD (i+k) 0+c+xs.getD i 0*ys.getD k 0)/1000000000=q at *;generalize (o.getD (i+k) 0+c+xs.getD i 0*ys.getD k 0)%1000000000=r at *;generalize Yn 1000000000 (o.set (i+k) r)=W at *;rw [show i+(k+1)=(i+k)+1 by omega,bX];have f:1000000000^(i+k)=1000000000^i*1000000000^k:=bW _ _ _;rw [f]at h a ⊢;generalize 1000000000^i=A at *;generalize 1000000000^k=B at *;have g:(1000000000*q+r)*(A*B)=(o.getD (i+k) 0+c+xs.getD i 0*ys.getD k 0)*(A*B):=by rw [e]
 simp only [bG]at g;have t1:q*(A*B*1000000000)=1000000000*q*(A*B):=O4;have t2:xs.getD i 0*A*(Yn 1000000000 (ys.take k)+ys.getD k 0*B)=xs.getD i 0*A*Yn 1000000000 (ys.take k)+xs.getD i 0*ys.getD k 0*(A*B):=O4;rw [t1,t2];omega
def Zj1(x y:Nat):Int:=if x<y then -1 else if y<x then 1 else 0
section
variable {P:Program} {N:Nat} {sc:Nat->Prop} {env env':Pw} {H H':Hp} {Q Q':Exit->Act->World->Prop} {M:Nat->Prop}
variable {o:Oper} {t t':TypeId} {x y:Operand} {m n:Nat}
theorem Zgw(a:o.op= .binOp .add t x y t')(d:ev env x=some (.int .i64 (m:Int)))(e:ev env y=some (.int .i64 (n:Int)))(h:m+n<=9223372036854775807):Lj P N sc o env H (.int .i64 ((m+n:Nat):Int)):=by have:=Ymh (P:=P) (N:=N) (sc:=sc) (H:=H) a d e ;rwa [<-kB]at this
theorem n_mul(a:o.op= .binOp .mul t x y t')(d:ev env x=some (.int .i64 (m:Int)))(e:ev env y=some (.int .i64 (n:Int)))(h:m*n<=9223372036854775807):Lj P N sc o env H (.int .i64 ((m*n:Nat):Int)):=by have:=d_mul (P:=P) (N:=N) (sc:=sc) (H:=H) a d e (by rw [<-fB];exact⟨O,O⟩);rwa [<-fB]at this
theorem Zmj(a:o.op= .binOp .quo t x y t')(d:ev env x=some (.int .i64 (m:Int)))(e:ev env y=some (.int .i64 (n:Int)))(h:m<=9223372036854775807)(f:0<n):Lj P N sc o env H (.int .i64 ((m/n:Nat):Int)):=by have:=Zdl (P:=P) (N:=N) (sc:=sc) (H:=H) a d e   ;rwa [<-Int.natCast_ediv]at this
theorem Zvh(a:o.op= .binOp .rem t x y t')(d:ev env x=some (.int .i64 (m:Int)))(e:ev env y=some (.int .i64 (n:Int)))(f:0<n):Lj P N sc o env H (.int .i64 ((m%n:Nat):Int)):=by have:=Znd (P:=P) (N:=N) (sc:=sc) (H:=H) a d e  ;rwa [<-Int.natCast_emod]at this
end
end Go.Sky
namespace Go.Sky
variable{b a r k:Nat}{q:List Nat}
theorem Zdk{l:List Nat}{i:Nat}(h:l.length<=i):l.getD i 0=0:=by simp [List.getD,bF h]
theorem Zwj{x y:Nat}(d:2<=b)(h:x<=y):(dg b x).length<=(dg b y).length:=by
 rcases aZ (dg b y).length (dg b x).length with c|c
 .have:=Zbk d c;omega
 .exact c
theorem Yl7{n:Nat}(c:2<=b)(h:n<b)(d:n≠0):dg b n=[n]:=by rw [Zch c O,aX h,cN h,Gr]
theorem Yoi(c:2<=b)(f:a<b):tz (a::dg b r)=dg b (r*b+a):=by
 have h:∀d∈a::dg b r,d<b:=λd e=>by
  rcases bE.1 e with rfl|e
  .exact f
  .exact Mb c r d e
 rw [<-Ic c _ h];congr 1;simp only [Yn,Mw c];rw [aO];omega
theorem Zw1 : Zj1 a b<0↔a<b:=by unfold Zj1;split<;>(try split)<;>omega
theorem Yda : Zj1 a b<=0↔a<=b:=by unfold Zj1;split<;>(try split)<;>omega
theorem Ydb : 0<=Zj1 a b↔b<=a:=by unfold Zj1;split<;>(try split)<;>omega
theorem Zyd{x:Nat}(c:0<k):x/1000000000^k*1000000000+x/1000000000^(k-1)%1000000000=x/1000000000^(k-1):=by
 have h:x/1000000000^k=x/1000000000^(k-1)/1000000000:=by rw [aV,<-bX,show(k-1).succ=k by omega]
 rw [h,aO];exact cD _ _
theorem over_Q{y:Nat}(c:r<y)(d:a<1000000000):(r*1000000000+a)/y<1000000000:=by rw [cF O];have:(r+1)*1000000000<=y*1000000000:=aJ _ c;rw [aO 1000000000];omega
theorem bl_m30{y m:Nat}(h:bl m<=30):bl (y*m)<=bl y+30:=by have:=Znt y m;omega
theorem Ysp{y:Nat}(f:r<y)(g:a<1000000000):bl (r*1000000000+a)<=bl y+30:=by
 have c:r*1000000000+a<y*1000000000:=by have:(r+1)*1000000000<=y*1000000000:=aJ _ f;omega
 have d:=Of (eE c);have e:=bl_m30 (y:=y) (m:=1000000000) ((Qo 30 _).2 O);exact aB d e
theorem Znr (y:Nat)(n:Nat)(e:n<1000000000):bl (y*n)<=bl y+30:=by have c:=Znt y n;have d:bl n<=30:=(Qo 30 _).2 O;omega
theorem Zhd{d:Nat}(c:0<k)(h:k<=q.length):Yn 1000000000 ((q.set (k-1) d).drop (k-1))=d+1000000000*Yn 1000000000 (q.drop k):=by rw [drop_set O,show k-1+1=k by omega];rfl
theorem Yf3(d:0<k)(h:k<=q.length)(c:q.getD (k-1) 0=0):Yn 1000000000 (q.drop (k-1))=1000000000*Yn 1000000000 (q.drop k):=by rw [Zdh 0 q (k-1) O,c,show k-1+1=k by omega];simp [Yn]
theorem Ygw{n:Nat}(c:2<=b)(h:n<b):tz [n]=dg b n:=by have:=Ic c [n] (by simpa using h);simpa [Yn]using this.symm
theorem Ztu{m:Nat}(h:m<9223372036854775809):tz [m%1000000000,m/1000000000%1000000000,m/1000000000/1000000000]=dg 1000000000 m:=by rw [<-Ic Pt [m%1000000000,m/1000000000%1000000000,m/1000000000/1000000000] (by intro d c;simp at c;omega)];congr 1;simp only [Yn];omega
theorem sign9{x:Int}(h:(((dg 1000000000 x.natAbs).length:Nat):Int)=0):Value.int .i64 x.sign= .int .i64 0:=by have c:=(Oi Pt x.natAbs).1 O;have:x=0:=O;subst this;rfl
theorem Zmv{x:Nat}(h:¬(((dg 1000000000 x).length:Nat):Int)=0):0<x:=by
 rcases aW x with c|c
 .subst c;simp [Gr]at h
 .exact c
theorem Ykn{s:Bool}{n:Nat}{z:Int}(c:n=z.natAbs)(hs:sg s z):(s && decide (0<n))=decide (z<0):=by
 subst c;cases s
 .have:=hs.2 rfl;rw [Bool.false_and,aN O]
 .have:=hs.1 rfl;rw [mH,bL];omega
theorem Zvv(n:Nat):decide ((0:Int)<(((dg 1000000000 n).length:Nat):Int))=decide (0<n):=by rw [bL];have:=Oi Pt n;omega
theorem Yss{a b:Bool}(h:(a == b)=true):a=b:=by simpa using h
theorem Yor{x y:Int}(c:y≠0):(x-x.tdiv y*y=x.tmod y):=by have:=jE x y;have e:x.tdiv y*y=y*x.tdiv y:=cQ _ _;omega
def Zlh(x y:Int):x.natAbs/y.natAbs=(x.tdiv y).natAbs:=(mZ x y).symm
theorem Yo6(x y:Int):sg (decide (x<0) != decide (y<0)) (x.tdiv y):=by
 have e:∀a b:Int,0<=a->0<=b->0<=a.tdiv b:=λa b i j=>Int.tdiv_nonneg i j;rcases iH x 0 with h|h<;>rcases iH y 0 with d|d
 .have c:=e (-x) (-y) O O;rw [oH,Int.tdiv_neg]at c;simp only [sg,h,d,decide_true,bne_self_eq_false];exact⟨λh=>Bool.noConfusion h,λ_=>O⟩
 .have c:=e (-x) y O d;rw [oH]at c;have:¬y<0:=O;simp [sg,h,this];omega
 .have c:=e x (-y) h O;rw [Int.tdiv_neg]at c;have:¬x<0:=O;simp [sg,d,this];omega
 .have c:=e x y h d;have f:¬x<0:=O;have g:¬y<0:=O;simp [sg,f,g];exact c
theorem Zlg(x:Int){y:Int}(c:y≠0):(x.tmod y).natAbs<y.natAbs:=by rw [Int.natAbs_tmod];exact bR _ O
theorem Ypw{x y:Int}(f:0<y)(h:x.tmod y<0):x/y=x.tdiv y-1/\x%y=x-(x.tdiv y-1)*y:=by
 have c:=Zlg x (show y≠0 by omega);have d:=jE x y;have e:(x.tdiv y-1)*y=y*x.tdiv y-y:=by rw [Int.sub_mul,cQ];omega
 have:=Zep (x:=x) (y:=y) (q:=x.tdiv y-1) (r:=x-(x.tdiv y-1)*y) O (by rw [cQ y];omega) O O;exact this
theorem Ypx{x y:Int}(f:y<0)(h:x.tmod y<0):x/y=x.tdiv y+1/\x%y=x-(x.tdiv y+1)*y:=by
 have c:=Zlg x (show y≠0 by omega);have d:=jE x y;have e:(x.tdiv y+1)*y=y*x.tdiv y+y:=by rw [mB,cQ];omega
 have:=Zep (x:=x) (y:=y) (q:=x.tdiv y+1) (r:=x-(x.tdiv y+1)*y) O (by rw [cQ y];omega) O O;exact this
theorem Yi9{x y:Int}(c:y≠0)(h:¬x.tmod y<0):x/y=x.tdiv y/\x%y=x.tmod y:=by have d:=Zlg x c;have e:=jE x y;exact Zep c O O O
theorem Yso(x y:Int):bl (x.tdiv y).natAbs<=bl x.natAbs:=by rw [mZ];exact Of (eQ _ _)
theorem Zzm(x y:Int):bl (x.tdiv y*y).natAbs<=bl x.natAbs:=by rw [cJ,mZ];exact Of (nR _ _)
section
variable {P:Program} {N:Nat} {sc:Nat->Prop} {env env':Pw} {H H':Hp} {Q Q':Exit->Act->World->Prop} {M:Nat->Prop}
variable {o:Oper} {t t':TypeId} {x y:Operand} {m n:Nat}
theorem Zyh(e:o.op= .binOp .quo t x y t')(g:ev env x=some (.int .i64 (-(m:Int))))(i:ev env y=some (.int .i64 (n:Int)))(h:m<=9223372036854775808)(d:1<n):Lj P N sc o env H (.int .i64 (-((m/n:Nat):Int))):=Eb e g i λw=>by
 have c:(-(m:Int)).tdiv (n:Int)=-((m/n:Nat):Int):=by rw [oH,Int.ofNat_tdiv]
 have j:m/n<=9223372036854775807:=by have:=nQ (show 2<=n from d) (by omega:0<2) (a:=m);omega
 generalize m/n=q at *;have f:Nz (-(q:Int)):=⟨O,O⟩;simp [binOp,Op.intDiv,c,Zbu f];omega
theorem Yj9(d:o.op= .binOp .rem t x y t')(e:ev env x=some (.int .i64 (-(m:Int))))(f:ev env y=some (.int .i64 (n:Int)))(g:0<n):Lj P N sc o env H (.int .i64 (-((m%n:Nat):Int))):=Eb d e f λw=>by
 have c:(-(m:Int)).tmod (n:Int)=-((m%n:Nat):Int):=by rw [Int.neg_tmod,Int.ofNat_tmod]
 simp [binOp,Op.intDiv,c];omega
theorem Ykd(c:o.op= .unOp .neg t x)(e:ev env x=some (.int .i64 (-(m:Int))))(h:m<=9223372036854775807):Lj P N sc o env H (.int .i64 (m:Int)):=λa w hs=>by have d:Nz (m:Int):=⟨O,O⟩;simp [execOp,c,hs.ev e,Op.unary,Op.intArith,Zbu d]
end
end Go.Sky
namespace Go.Sky
variable{i k m:Nat}{p:Pc}{r:List Pc}{bs ts ks:List Nat}{x y:Operand}{v u:Value}{ops:Array Oper}{listed:Array Bool}{zs:List (Int×SL)}{z:Int×SL}{o:Oper}{t:TypeId}{w0:World}{M0:Nat->Prop}
def Yfz(n:Nat):n/256^((dg 256 n).length-0)=0:=cN ((Xt O _ n).1 O)
theorem Zpn{n:Nat}(h:i<(dg 256 n).length):n/256^((dg 256 n).length-i)*256+n/256^((dg 256 n).length-1-i)%256=n/256^((dg 256 n).length-(i+1)):=by
 rw [show(dg 256 n).length-1-i=(dg 256 n).length-(i+1) by omega];have a:n/256^((dg 256 n).length-i)=n/256^((dg 256 n).length-(i+1))/256:=by rw [aV,<-bX,show((dg 256 n).length-(i+1)).succ=(dg 256 n).length-i by omega]
 rw [a,aO];exact cD _ _
theorem Yon{p xs:List Nat}{r:Nat}(b:0<k)(c:k<=p.length)(d:k<=xs.length)(a:Yn 1000000000 (p.drop k)*256+r=Yn 1000000000 (xs.drop k)) :
  Yn 1000000000 ((p.set (k-1) ((r*1000000000+xs.getD (k-1) 0)/256)).drop (k-1))*256+(r*1000000000+xs.getD (k-1) 0)%256=Yn 1000000000 (xs.drop (k-1)):=by
 rw [Zhd b c,Zdh 0 xs (k-1) O,show k-1+1=k by omega];simp only [Yn];have e:=cD (r*1000000000+xs.getD (k-1) 0) 256;generalize (r*1000000000+xs.getD (k-1) 0)/256=q at *;generalize (r*1000000000+xs.getD (k-1) 0)%256=s at *;generalize Yn 1000000000 (p.drop k)=A at *;generalize Yn 1000000000 (xs.drop k)=B at *;rw [<-a,bG,gG,cY 1000000000 A 256];generalize 1000000000*(A*256)=Z;clear a;omega
theorem Ygz{r a:Nat}(d:r<256)(c:a<1000000000):(r*1000000000+a)/256<1000000000:=by
 have h:r*1000000000+a<256*1000000000:=by have b:r*1000000000<=255*1000000000:=aJ _ O;omega
 exact iD h
theorem Yoo{n:Nat}(a:Yn 256 bs+256^bs.length*m=n):Yn 256 (bs ++ [m%256])+256^(bs ++ [m%256]).length*(m/256)=n:=by rw [Mi,aS];simp only [Yn,dV,fC,bX,cC,iG,eH,fL,jO];have e:=cD m 256;generalize m/256=q at *;generalize m%256=s at *;rw [<-a,<-e];generalize 256^bs.length=P at *;grind
theorem to_ge{n:Nat}(b:Yn 256 bs+256^bs.length*m=n)(a:0<m):256^bs.length<=n:=by have:=dW (256^bs.length) a;omega
theorem to_len{n:Nat}(h:256^bs.length<=n):bs.length<=bl n:=by have a:=Zbd (b:=256) (x:=n) (k:=bs.length) O ((Nv O _ _).2 h);have c:=(Nv (by omega:2<=256) bs.length n).2 h;have d:=Zip n;omega
theorem Yl3(a:0<k)(h:k<=bs.length):(bs.drop k).reverse ++ [bs.getD (k-1) 0]=(bs.drop (k-1)).reverse:=by rw [Zdh 0 bs (k-1) O,show k-1+1=k by omega];simp
theorem Ysj{n:Nat}(h:bs=dg 256 n):(⟨((bs.drop 0).reverse.map UInt8.ofNat).toArray⟩:ByteArray)=Qp n:=by rw [h,gV];rfl
def Zu2(a b:Int):Prop:=65536<bl a.natAbs\/65536<bl b.natAbs
instance (a b:Int):Decidable (Zu2 a b):=by unfold Zu2;infer_instance
def qn(a b:Int):Int:=if Zu2 a b then 0 else a
def qd(a b:Int):Int:=if Zu2 a b then 0 else b
def qe(a b:Int):Int:=if Zu2 a b then 7 else 0
def Yqr{x y:Int}(h:¬y<0):Kf x y=(Int.gcd x y:Int):=aD h
def Zk4(x y:Int):bl ((Int.gcd x y:Int)).natAbs<=max (bl x.natAbs) (bl y.natAbs):=Zta _ _
open Go.RowKit Below
variable {P:Program} {N:Nat} {sc:Nat->Prop} {env env':Pw} {H H':Hp} {Q Q':Exit->Act->World->Prop} {M:Nat->Prop}
abbrev Zy2 (w:Bool×ByteArray):Value:= .agg #[.bool w.1,.string w.2]
abbrev Mo (z:Int×SL):Value:= .agg #[.bool (decide (z.1<0)),Xm z.2]
abbrev Nk {α:Type} (z:SL×α):Value:=Xm z.1
abbrev qI (z:Int×SL):Pc:=Ox (Xm z.2) z.1.natAbs
abbrev pp (v:Value) (zs:List (Int×SL)):Pc:=Xs 2 Mo qI v zs
abbrev Zb (zs:List (Int×SL)):List Int:=zs.map Prod.fst
abbrev I0:Int×SL:=(0,none,0,0)
def Zi(zs:List (Int×SL)):(Zb zs).length=zs.length:=O7
theorem Qx(zs:List (Int×SL))(i:Nat):(zs.getD i I0).1=cf (Zb zs) i:=by simp only [cf,List.getD,Zb,eI];cases zs[i]?<;>rfl
theorem Zu4{β:Type}{enc:β->Value}{q:β->Pc}{zs:List β}{al:Bool}{z:β}(i:Nat)(hi:lk H i=some (Xs k enc q v zs))(a:Nat.beq i 0=false)(c:z∈zs)(h:PreOk H al r):PreOk H al (q z::r):=
 ⟨⟨i,_,λe=>by subst e;simp at a,hi,λw h=>h.2 z c,λb d=> .inr ⟨z,c,d⟩,λ_=>rfl⟩,h⟩
theorem Yfw{β:Type}{enc:β->Value}{q:β->Pc}{zs:List β}{z:β}(i:Nat)(hi:lk H i=some (Xs k enc q v zs))(a:Nat.beq i 0=false)(c:z∈zs)(f:(q z).own=false)(h:Give H true r):Give H true (q z::r):=
 ⟨⟨f,.inl ⟨i,_,λe=>by subst e;simp at a,hi,λw h=>h.2 z c,λb d=> .inr ⟨z,c,d⟩,λh=>by cases h⟩⟩,h⟩
theorem Yes{β:Type}{enc:β->Value}{q:β->Pc}{zs:List β}(i j n:Nat)(hi:lk H i=some (Xs k enc q v zs))(d:Nat.beq i 0=false)(f:n<=zs.length):∀a w,Sat N sc env H a w->Sat N sc env ((j,Xs k enc q (Kz v n) (zs.take n))::H) a w:=
 Zc1 i j hi d rfl (λw h=>⟨⟨Zd8 n f h.1.1,λb c=>h.1.2 b (Zm2 c)⟩,λz e=>h.2 z (eV e)⟩) (λb c=>by
  rcases c with c|⟨z,e,c⟩
  .exact .inl (Zm2 c)
  .right;exact⟨z,eV e,c⟩) rfl
theorem Zoe{n:Nat}{α:Type}{p:α->Prop}(b:∀a w,Sat N sc env H a w->∃x,p x)(h:∀x,p x->A P N sc M ops ts Q n listed env H):A P N sc M ops ts Q n listed env H:=λa w hs=>by obtain⟨x,c⟩:=b a w hs;exact h x c a w hs
theorem Fm(i:Nat):∀a w,Sat N sc env H a w->Sat N sc env ((i,pp (.slice none 0 0) [])::H) a w:=λa w hs=>
 hs.add i _ ⟨Bz 2 Mo w,λz d=>by cases d⟩ (λf g _ _ Lz b c e=>by
  rcases c with c|⟨z,d,_⟩
  .exact absurd rfl c.1
  .cases d) (λb c=>by
  rcases c with c|⟨z,d,_⟩
  .exact absurd rfl c.1
  .cases d)
theorem Zv9{β:Type}{enc:β->Value}{q:β->Pc}{zs:List β}(i:Nat)(hi:lk H i=some (Xs k enc q v zs)):∀a w,Sat N sc env H a w->Kz v zs.length=v:=λa w hs=>by obtain⟨b,c,h,_⟩:=(hs.hold i _ hi).1.1;rw [h];rfl
theorem Zh4(zs:List (Int×SL))(k:Nat):Zb (zs.take k)=(Zb zs).take k:=by simp [Zb,mI]
def Xz{al:Bool}(i:Nat)(hi:lk H i=some (pp v zs))(a:Nat.beq i 0=false)(b:z∈zs)(h:PreOk H al r):PreOk H al (Ox (Xm z.2) z.1.natAbs::r):=Zu4 (q:=qI) (z:=z) i hi a b h
theorem Yq1(i:Nat)(hi:lk H i=some (pp v zs))(a:Nat.beq i 0=false)(c:z∈zs)(b:Ox (Xm z.2) z.1.natAbs=p)(h:Give H true r):Give H true (p::r):=by subst b;exact Yfw (q:=qI) (z:=z) i hi a c rfl h
theorem t_appM {α:Type}   {e:TypeId} {i2 j h d:Nat}  {enc:α->Value} {xs ys:List α}  {ti:TypeInfo} {z:Value}  
  (ho:o.op= .call { callee:= .builtin .append,args:=#[x,y],argTypes:=#[t,t] }) (hd:o.dst=some d) (hN:Nat.blt d N=true)
  (hx:ev env x=some v) (hy:ev env y=some u) (hH:lk H i=some (Oa k e enc v xs)) (a3:i≠0) (hj:lk H j=some p) (hr:Rd p k enc u ys) (b0:ys≠[])
  (ht:P.underlying t=some (.slice e)) (hi:P.info? e=some ti) (hz:ti.zero=some z) (s:Enc P e k enc) (a4:ti.size=k) (a1:ti.bytes=h) (b1:z.cells.size=k)
  (l:(xs.length+ys.length)*h<=140737488355328) (B:0<h)
  (h0:lk H 0=some (Yt w0 M0)) (hw:∀b,w0.heap.size<=b->sc b) (hM:∀b,(Oa k e enc v xs).fp b->M b) :
  T P N sc M o env H (G:=Value) (λ_=>True) (λv'=>(d,v')::env) (λv'=>(i,Oa k e enc v' (xs ++ ys))::H):=λa w hs K Q hK=>by
 have S:w.ownsRow 0 e k v xs.length (cellsOf enc xs):=hs.hold i _ hH;obtain⟨ad,c,rfl,h1,h2,Z⟩:=hr w (hs.hold j p hj);rcases Z with rfl|⟨g,W,rfl,Z⟩
 .exact absurd rfl b0
 have a9:∀q u,(cellsOf enc ys)[q]? = some u->w.cell? ((⟨g,W,none⟩:Addr).add q)=some u:=λq u hq=>by
  have a5:q<ys.length*k:=by rw [<-Xk s.cells ys];exact(dZ.1 hq).1
  have I:=s.pos;have a2:q/k<ys.length:=iD (by rw [aO];exact a5);have n:ys[q/k]? = some ys[q/k]:=aM a2;have a7:q%k<(enc ys[q/k]).cells.toList.length:=by rw [dI,s.cells];exact bR _ I
  have Y:=aM a7;have h4:=Gg s.cells ys _ _ n _ _ Y;have h5:=Z _ _ n _ _ Y;have R:q/k*k+q%k=q:=by rw [aO];exact cD q k
  rw [R]at h4;rw [gC,R]at h5;rw [hq]at h4;cases h4;rw [Ok];exact h5
 have F:∀u∈cellsOf enc ys,u.oneCell'=true:=λu Y=>by obtain⟨y,_,hy⟩:=kO.1 Y;exact s.one y u hy
 have b2:xs.length+ys.length<=140737488355328:=aB (dW _ B) l;obtain⟨v',w',V,a6,f,a0⟩:=Ze1 (P:=P) t o.type e ti z k h ht hi hz a4 a1 b1 s.pos v xs.length (cellsOf enc xs) S ⟨g,W,none⟩ ys.length c (cellsOf enc ys)
  (Xk s.cells ys) a9 F (by simp only [maxLen];omega) l
 have a8:(execOp a.eval o).run P w= .ok (.value v') w':=by simp only [execOp,ho,resolve,invoke,builtin,Sem.run_bind,Sem.run_pure,Result.andThen_ok,gR,bZ,gD,hs.ev hx,hs.ev hy,V]
 unfold Oper.wp;rw [a8];show K (a.put o.dst _) _;rw [hd];have D:Chg (λb=>v.ownBlock=some b) w w':=⟨f.os,f.tape,f.output,f.size,λb l hn=>f.block b l (λe=>hn e.symm)⟩;refine hK v' _ _ aA ((hs.upd hH rfl a3 (q:=Oa k e enc v' (xs ++ ys)) D ?_ (λb l=>a0 b l) h0 hw).put d _ hN) ⟨f.os,f.tape,f.output,f.size,λb l hn=>f.block b l (λe=>hn (hM b e.symm))⟩;show w'.ownsRow 0 e k v' (xs ++ ys).length (cellsOf enc (xs ++ ys));rw [Iw,aS];exact a6
theorem Bj (i:Nat)(j:Nat)(s:Nat) {α:Type}   {e:TypeId} {d:Nat}  {enc:α->Value} {xs ys:List α}  {ti:TypeInfo} {z:Value}  
  (ho:o.op= .call { callee:= .builtin .append,args:=#[x,y],argTypes:=#[t,t] }) (hd:o.dst=some d) (hN:Nat.blt d N=true)
  (hx:ev env x=some v) (hy:ev env y=some u) (Z:lk H i=some (Oa k e enc v xs)) (I:i≠0) (hj:lk H j=some p) (hr:Rd p k enc u ys)
  (ht:P.underlying t=some (.slice e)) (hi:P.info? e=some ti) (hz:ti.zero=some z) (he:Enc P e k enc) (a2:ti.size=k) (a1:ti.bytes=s) (a4:z.cells.size=k)
  (hb:(xs.length+ys.length)*s<=140737488355328) (D:0<s)
  (h0:lk H 0=some (Yt w0 M0)) (hw:∀b,w0.heap.size<=b->sc b) (hM:∀b,(Oa k e enc v xs).fp b->M b) :
  T P N sc M o env H (G:=Value) (λ_=>True) (λv'=>(d,v')::env) (λv'=>(i,Oa k e enc v' (xs ++ ys))::H):=by
 by_cases V:ys=[]
 .subst V;intro a w hs K Q hK;have h:w.ownsRow 0 e k v xs.length (cellsOf enc xs):=hs.hold i _ Z;obtain⟨W,c,rfl,h1,h2,h3⟩:=hr w (hs.hold j p hj);have R:∃l n B,v= .slice l n B/\n=xs.length/\n<=B:=by
   rcases h.2 with⟨rfl,hn⟩|⟨g,Y,a5,rfl,_,_,f,_⟩
   .exact⟨none,0,0,rfl,hn.symm,aI _⟩
   .exact⟨_,_,Y,rfl,rfl,f⟩
  obtain⟨l,n,B,rfl,rfl,f⟩:=R;have S:(Builtin.append_ #[t,t] o.type #[.slice l xs.length B,.slice W ([]:List α).length c]).run P w= .ok (.slice l xs.length B) w:=by
   have F:(Builtin.firstCells ti.size 0 (.slice W 0 c)).run P w= .ok #[] w:=by
    cases W with
    | none=>rfl
    | some q=>simp [Builtin.firstCells,loadCells,loadCellsFrom]
   cases l with
   | none=>simp [Builtin.append_,run_underlying ht,sizeOf,typeInfo,hi,Builtin.lenOf,F,f]
   | some q=>simp [Builtin.append_,run_underlying ht,sizeOf,typeInfo,hi,Builtin.lenOf,F,f,storeCells]
  have a3:(execOp a.eval o).run P w= .ok (.value (.slice l xs.length B)) w:=by simp only [execOp,ho,resolve,invoke,builtin,Sem.run_bind,Sem.run_pure,Result.andThen_ok,gR,bZ,gD,hs.ev hx,hs.ev hy,S]
  unfold Oper.wp;rw [a3];show K (a.put o.dst _) _;rw [hd];refine hK _ _ _ aA ((Sat.upd hs Z rfl I (q:=Oa k e enc (.slice l xs.length B) (xs ++ [])) (Chg.refl _ w) ?_ (λb hb=> .inl hb) h0 hw).put d _ hN) (Chg.refl _ w);rw [iA];exact h
 .exact t_appM (i2:=0) ho hd hN hx hy Z I hj hr V ht hi hz he a2 a1 a4 hb D h0 hw hM
theorem Zb0  {G:Type} {φ:G->Prop} {c:G->Pw} {g:G->Hp} {d:Hp}   (i:Nat) (hi:lk H i=some p) (F:p.own=true) (D:ks.all (λk=>!Nat.beq k i)=true) (n:Agr d H ks)
  (h:(∀b,p.fp b->Off d ks b)->T P N sc (Off d ks) o env H φ c g):T P N sc (Off d ks) o env H φ c g:=λa w hs=>
 h (λb s k j q l B=>by
  rw [<-n.mem k j]at l;have f:i≠k:=λe=>by subst e;have:=cP.1 D i j;simp at this
  exact hs.sep i k p q f hi l F b s B) a w hs
def eaf(v:Value)(i k q:Nat):Addr:=(ead v i k).add q
theorem Li (ii:Nat) {α:Type}    {f:Nat} {e:Array Field} {b:Field} {I q:Nat}   {enc:α->Value} {xs:List α} (B:o.op= .fieldAddr t x f)
  (j:ev env x=some (.pointer (some (ead v i k)))) (l:lk H ii=some p) (F:Rd p k enc v xs) (G:P.underlying t=some (.struct e)) (n:e[f]? = some b) (s:∀w,(sizeOf b.type).run P w= .ok (I+1) w) (D:b.offset=q) (d:i<xs.length:=by omega) :
  Lj P N sc o env H (.pointer (some (eaf v i k q))):=λa w hs=>by
 obtain⟨S,c,rfl,V,W,h⟩:=F w (hs.hold ii p l);rcases h with rfl|⟨g,R,rfl,h⟩
 .simp at d
 .subst D;simp only [ead,Ok]at j;simp [execOp,B,hs.ev j,Instr.fieldAt,run_underlying G,n,Instr.sureAddr,fieldPlace,s,Ok,eaf,ead]
theorem Lx (ii:Nat) {α:Type}    {q:Nat}   {enc:α->Value} {xs:List α} (e:α) (n:o.op= .load t x)
  (f:ev env x=some (.pointer (some (eaf v i k q)))) (j:lk H ii=some p) (s:Rd p k enc v xs) (l:∀w,(isAgg t).run P w= .ok false w) (B:(enc (xs.getD i e)).cells.toList[q]? = some u) (b:i<xs.length:=by omega):Lj P N sc o env H u:=λa w hs=>by
 obtain⟨F,c,rfl,G,I,d⟩:=s w (hs.hold ii p j);rcases d with rfl|⟨g,D,rfl,d⟩
 .simp at b
 .have hi:xs[i]? = some (xs.getD i e):=by simp [List.getD,aM b]
  have h:=d i _ hi q u B;simp only [eaf,ead,Ok]at f;simp [execOp,n,hs.ev f,Instr.loadAt,Instr.sureAddr,loadVar,l,load,Sem.run,h]
end Go.Sky
namespace Go.Sky
variable{o:Oper}{r pre:List Pc}{f:FuncId}{xs:List Operand}{a:Act}{w:World}{c x:Operand}{ats:Array TypeId}{vs:List Value}{M0:Nat->Prop}{b:Nat}{t:TypeId}{cs:Array Value}
abbrev rq (z:Int×Int):Value:= .agg #[.bool (decide (z.1<0)),.string (Qp z.1.natAbs),.bool (decide (z.2<0)),.string (Qp z.2.natAbs)]
abbrev encQ (z:(Bool×ByteArray)×(Bool×ByteArray)):Value:= .agg #[.bool z.1.1,.string z.1.2,.bool z.2.1,.string z.2.2]
def Xh (d:Value){P:Program}{N:Nat}{sc:Nat->Prop}{env:Pw}{H:Hp}{r:Value}(h:Lj P N sc o env H r)(e:r=d):Lj P N sc o env H d:=e▸h
open Go.RowKit Below
variable {P:Program} {N:Nat} {sc:Nat->Prop} {env env':Pw} {H H':Hp} {Q Q':Exit->Act->World->Prop} {M:Nat->Prop}
theorem Zwp (vs:List Value)(d:List Value){ys:List Operand}(h:o.op= .makeFunc (.func f) xs.toArray ys.toArray)(j:EvL env xs vs)(i:EvL env ys d):Lj P N sc o env H (.func (.func f) vs.toArray d.toArray):=λa w hs=>by have e:=j.map hs;have g:=i.map hs;simp [execOp,h,Instr.makeFunc,e,g]
theorem Ze0   (hs:Sat N sc env H a w)      {e g:List Value} (j:o.op= .call { callee:= .value c,args:=xs.toArray,argTypes:=ats })
  (h:ev env c=some (.func (.func f) e.toArray g.toArray)) (d:EvL env xs vs):(execOp a.eval o).run P w=(callFunc f (e ++ vs ++ g).toArray).run P w:=by
 have i:=d.map hs;simp [execOp,j,resolve,invoke,hs.ev h,Deferred.ofValue,i]
theorem Zz8 (n:Nat)(i:List Value)(vs:List Value)(p:List Value)      {d:Nat}   {al:Bool} {G:Type} {φ:G->Prop} {Yn:G->Value} {m:G->List Pc} {w0:World} 
  (D:Cal P f (i ++ vs ++ p).toArray pre al φ Yn m)
  (I:o.op= .call { callee:= .value c,args:=xs.toArray,argTypes:=ats }) (s:ev env c=some (.func (.func f) i.toArray p.toArray)) (F:o.dst=some d) (B:Nat.blt d N=true)
  (h:EvL env xs vs) (e:∀args w,(callFunc f args).run P w= .ok (.enter f args) w) (k:PreOk H al pre)
  (y:lk H 0=some (Yt w0 M0)) (S:∀b,w0.heap.size<=b->sc b) :
  T P N sc M o env H φ (λg=>(d,Yn g)::env) (λg=>adds n (m g) H):=λa w hs K Q z=>by
 have R:(execOp a.eval o).run P w= .ok (.enter f (i ++ vs ++ p).toArray) w:=by rw [Ze0 hs I s h,e]
 let o2:Oper:={ o with op:= .call { callee:= .value (.func f),args:=((i ++ vs ++ p).map Operand.const).toArray,argTypes:=ats } };have j:∀l:List Value,EvL env (l.map Operand.const) l:=λl=>by
  induction l with
  | nil=>trivial
  | cons v r V=>exact⟨rfl,V⟩
 have u:(execOp a.eval o2).run P w= .ok (.enter f (i ++ vs ++ p).toArray) w:=by rw [Hb hs (o:=o2) rfl (j _),e]
 have q:o2.wp P a w K Q:=Xc n (M:=M) D (o:=o2) rfl F B (j _) e k y S a w hs K Q z;unfold Oper.wp at q ⊢;rw [u]at q;rw [R];exact q
theorem Zig(i:Nat)(hi:lk H i=some (box b t cs))(d:Nat.beq i 0=false)(h:PreOk H false r):PreOk H false (Ky b t cs::r):=
 ⟨⟨i,_,λe=>by subst e;simp at d,hi,λw h=>h,λb g=>g,λh=>by cases h⟩,h⟩
theorem Sat.rboxc(hs:Sat N sc env H a w){i:Nat}(d:lk H i=some (Ky b t cs))(j:Nat):w.cell? ⟨b,j,none⟩=cs[j]?:=by have h:w.heap[b]? = some (.cells cs t (0,0)):=hs.hold i _ d;simp [World.cell?,h]
theorem d_lra   {v:TypeId} {i j k:Nat}   (l:o.op= .load t x)
  (s:ev env x=some (.pointer (some ⟨b,j,none⟩))) (e:lk H i=some (Ky b v cs)) (m:∀w,(isAgg t).run P w= .ok true w) (g:∀w,(sizeOf t).run P w= .ok k w)
  (h:vs.length=k) (q:∀n u,vs[n]? = some u->cs[j+n]? = some u):Lj P N sc o env H (.agg vs.toArray):=λa w hs=>by
 have d:=run_loadCells_list (P:=P) w ⟨b,j,none⟩ vs (λn u p=>by rw [Ok,hs.rboxc e];exact q n u p);rw [h]at d;simp [execOp,l,hs.ev s,Instr.loadAt,Instr.sureAddr,loadVar,m,g,d]
theorem Ymd{m:Int}(d:o.op= .unOp .neg t x)(e:ev env x=some (.int .i64 m))(h:Nz (-m):=by exact⟨O,O⟩):Lj P N sc o env H (.int .i64 (-m)):=λa w hs=>by simp [execOp,d,hs.ev e,Op.unary,Op.intArith,Zbu h]
theorem fill24{n p q s d e g h j k l m:Value}:Instr.fill (λi=>some (i*4,4)) ((List.range (2*4)).map ((Value.agg #[n,p,q,s]).cells[· % (Value.agg #[n,p,q,s]).cells.size]!)).toArray [(0,.agg #[d,e,g,h]),(1,.agg #[j,k,l,m])]=some #[d,e,g,h,j,k,l,m]:=by
 simp [Instr.fill,Value.cells,List.range,List.range.loop]
 try rfl
end Go.Sky
namespace Go.Sky
open Go.RowKit Below
variable{f:FuncId}{c:Operand}{xs:List Operand}{ats:Array TypeId}{p:Pc}{pre:List Pc}{w0:World}{M0:Nat->Prop}{fn:Func}{vs:List Value}
variable {P:Program} {N:Nat} {sc:Nat->Prop} {env env':Pw} {H H':Hp} {Q Q':Exit->Act->World->Prop} {M:Nat->Prop}
abbrev iq (z:(Int×Int)×(Int×Int)):Value:= .agg #[.bool (decide (z.1.1<0)),.string (Qp z.1.1.natAbs),.bool (decide (z.1.2<0)),.string (Qp z.1.2.natAbs),.bool (decide (z.2.1<0)),.string (Qp z.2.1.natAbs),.bool (decide (z.2.2<0)),.string (Qp z.2.2.natAbs)]
def Ysx(P:Program)(f:FuncId)(args:Array Value)(pre:List Pc)(p:Pc){G:Type}(φ:G->Prop)(Yn:G->Value)(q:G->Pc):Prop:=
 ∀w,(∀r∈pre,r.holds w/\∀k,p.fp k->¬r.fp k)->p.holds w->Calls P f args w λe a=>∃g,e= .returned (Yn g)/\φ g/\Chg p.fp w a/\(q g).holds a/\∀k,(q g).fp k->p.fp k\/w.heap.size<=k
theorem Zz7 (i:Nat)(x:List Value)(vs:List Value)(I:List Value) {o:Oper}     {d:Nat}    {G:Type} {φ:G->Prop} {Yn:G->Value} {q:G->Pc}  
  (hc:Ysx P f (x ++ vs ++ I).toArray pre p φ Yn q)
  (ho:o.op= .call { callee:= .value c,args:=xs.toArray,argTypes:=ats }) (z:ev env c=some (.func (.func f) x.toArray I.toArray)) (hd:o.dst=some d) (Y:Nat.blt d N=true)
  (m:EvL env xs vs) (n:∀args w,(callFunc f args).run P w= .ok (.enter f args) w) (y:lk H i=some p) (l:p.own=true) (B:i≠0) (u:PreOk (drp i H) false pre)
  (S:lk H 0=some (Yt w0 M0)) (hw:∀b,w0.heap.size<=b->sc b) (W:∀b,p.fp b->M b) :
  T P N sc M o env H φ (λg=>(d,Yn g)::env) (λg=>(i,q g)::H):=λa w hs K Q V=>by
 have hr:(execOp a.eval o).run P w= .ok (.enter f (x ++ vs ++ I).toArray) w:=by rw [Ze0 hs ho z m,n]
 unfold Oper.wp;rw [hr];refine(hc w (λr hp=>by obtain⟨j,R,_,v,t,s,_⟩:=u.mem r hp;obtain⟨F,v⟩:=Ca _ _ _ _ v;exact⟨t w (hs.hold j R v),λk D Z=>hs.sep i j _ R (iL F) y v l k D (s k Z)⟩) (hs.hold i _ y)).mono ?_
 rintro e w' ⟨g,rfl,hg,h,hq,s⟩;show K (a.put o.dst (Yn g)) w';rw [hd];exact V g _ _ hg (Sat.put (hs.upd y l B h hq s S hw) d _ Y) ⟨h.os,h.tape,h.output,h.size,λk D hn=>h.block k D (λe=>hn (W k e))⟩
def Yn0(P:Program)(fn:Func)(w0:World)(p:Pc){G:Type}(φ:G->Prop)(Yn:G->Value)(q:G->Pc):Exit->Act->World->Prop:=
 bodyPost P fn λe a=>∃g,e= .returned (Yn g)/\φ g/\Chg p.fp w0 a/\(q g).holds a/\∀k,(q g).fp k->p.fp k\/w0.heap.size<=k
theorem Ydk   {c:Code}    {G:Type} {φ:G->Prop} {Yn:G->Value} {q:G->Pc} {N:Nat}
  (V:P.funcs[f]? = some fn) (S:fn.body=some c) (R:fn.ntmps=N) (n:Nat.ble vs.length N=true) (B:AllRo pre)
  (h:∀w0 (sc:Nat->Prop),(∀k,w0.heap.size<=k->sc k)->(∀k,sc k->w0.heap.size<=k\/p.fp k\/∃q∈pre,q.fp k)->
   E P N sc c (Yn0 P fn w0 p φ Yn q) (Pa 0 vs) ((0,Yt w0 p.fp)::(1,p)::Xb 2 pre)) :
  Ysx P f vs.toArray pre p φ Yn q:=λw D s=>by
 refine calls_of_wp V S (h w (λk=>w.heap.size<=k\/p.fp k\/∃q∈pre,q.fp k) (λk b=> .inl b) (λk b=>b) _ w ?_);have n:vs.length<=N:=by simpa using n
 have a:∀i r,lk ((0,Yt w p.fp)::(1,p)::Xb 2 pre) i=some r->(i=0/\r=Yt w p.fp)\/(i=1/\r=p)\/(i≠0/\i≠1/\r∈pre/\r.own=false):=λi r hi=>by
   by_cases l:0=i
   .subst l;rw [Yg]at hi;cases hi;exact .inl ⟨rfl,rfl⟩
   .rw [Zx l]at hi;by_cases g:1=i
    .subst g;rw [Yg]at hi;cases hi;exact .inr (.inl ⟨rfl,rfl⟩)
    .rw [Zx g]at hi;obtain⟨_,d⟩:=Nt pre 2 i r hi;exact .inr (.inr ⟨λe=>l e.symm,λe=>g e.symm,d,B.mem r d⟩)
 refine⟨by simp [R];omega,rfl,λt v Y=>?_,λi r hi=>?_,λi j r F y hi W z k b m=>?_,λi r u hi k b=>?_⟩
 .have g:vs.toArray[t]? = some v:=by simpa using(Ge vs 0 t v Y).2
  have x:=(aY.1 g).1;rw [bN,eT x,g];rfl
 .rcases a i r hi with⟨_,rfl⟩|⟨_,rfl⟩|⟨_,_,d,_⟩
  .exact Chg.refl _ w
  .exact s
  .exact(D r d).1
 .rcases a i r hi with⟨_,rfl⟩|⟨g,rfl⟩|⟨_,_,d,o⟩
  .cases z
  .rcases a j F W with⟨_,rfl⟩|⟨I,rfl⟩|⟨_,_,d,_⟩
   .exact m.2 b
   .exact y (g.trans I.symm)
   .exact(D F d).2 k b m
  .rw [o]at z;cases z
 .rcases a i r hi with⟨l,_⟩|⟨_,rfl⟩|⟨_,_,d,_⟩
  .exact absurd l u
  .exact .inr (.inl b)
  .exact .inr (.inr ⟨r,d,b⟩)
theorem Ygj    {G:Type} {φ:G->Prop} {Yn:G->Value} {q:G->Pc}  {e:Exit} (B:e= .ret\/e= .normal) (u:∀k,sc k->w0.heap.size<=k\/p.fp k\/∃q∈pre,q.fp k)
  (g:G) {v:Value} (m:∀a w,Sat N sc env H a w->(results fn a.tmps).run P w= .ok v w) (I:Yn g=v) (D:φ g) (i:Nat) (hi:lk H i=some (q g)) (z:lk H 0=some (Yt w0 p.fp)) (b:Nat.beq i 0=false) (d:(q g).own=true) (l:PreOk (drp i H) false pre) :
  X N sc e (Yn0 P fn w0 p φ Yn q) env H:=λa w hs=>by
 have b:i≠0:=λe=>by subst e;simp at b
 have x:a.defers=[]/\∃v,(results fn a.tmps).run P w= .ok v w/\(∃g,Ending.returned v= .returned (Yn g)/\φ g/\Chg p.fp w0 w/\(q g).holds w/\∀k,(q g).fp k->p.fp k\/w0.heap.size<=k):=by
  refine⟨hs.defers,v,m a w hs,g,by rw [I],D,hs.hold 0 _ z,hs.hold i _ hi,λk y=>?_⟩;rcases u k (hs.scope i _ b hi k y)with h|h|⟨r,F,t⟩
  .exact .inr h
  .exact .inl h
  .obtain⟨j,R,_,o,_,n,_⟩:=l.mem r F;obtain⟨s,o⟩:=Ca _ _ _ _ o;exact(hs.sep i j _ R (iL s) hi o d k y (n k t)).elim
 rcases B with rfl|rfl<;>exact x
def gb{α:Type}(b:Nat)(t:TypeId)(k:Nat)(e:TypeId)(enc:α->Value)(v:Value)(xs:List α):Pc:=
 {own:=true,fp:=λc=>c=b\/v.ownBlock=some c,holds:=λw=>(box b t #[v]).holds w/\(Oa k e enc v xs).holds w/\v.ownBlock≠some b
  lt:=λw c h a=>by
   rcases a with rfl|a
   .exact(box c t #[v]).lt w c h.1 rfl
   .exact(Oa k e enc v xs).lt w c h.2.1 a
  stable:=λw l h a=>⟨(box b t #[v]).stable w l h.1 ⟨a.os,a.tape,a.output,a.size,λk g i=>a.block k g (λd=>i (λj=>d (.inl j)))⟩,
   (Oa k e enc v xs).stable w l h.2.1 ⟨a.os,a.tape,a.output,a.size,λk g i=>a.block k g (λd=>i (λj=>d (.inr j)))⟩,h.2.2⟩ }
end Go.Sky

