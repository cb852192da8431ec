/- Rules, arithmetic and contracts: part 3. No conditions but those that each theorem names. -/
import Derived.Test.YteikicbnfbgpnaaGreatEh01
set_option linter.all false
namespace Go.Sky
set_option maxRecDepth 20000
variable{k D:Nat}{v:Value}{R ys:List Nat}{y x:Int}{b t s:Bool}{p xs:List Int}{f:FuncId}{args:Array Value}{pre:List Pc}
theorem Zgy{n:Nat}(h:n<U):tz [n]=dg U n:=by rw [<-Ky Xm [n] (by simpa using h)];simp [Yj]
theorem Zh6{N:Nat}{sc:Nat->Prop}{env:Qy}{H:Hp}{α:Type}{e:TypeId}{enc:α->Value}{xs ys:List α}(i:Nat)(h:xs=ys)(hi:lk H i=some (Pz k e enc v xs))(c:Nat.beq i 0=false) :
  ∀a w,Sat N sc env H a w->Sat N sc env ((i,Pz k e enc v ys)::H) a w:=by
 subst h;exact Zo0 i hi rfl (λw h=>h) (λb d=>d) c
theorem Zmn(R:List Nat)(j:Nat)(a:j<=R.length):Yj U R=Yj U (R.take j)+U^j*Yj U (R.drop j):=by have:=Nl U (R.take j) (R.drop j);rw [fU,aR,dM a]at this;exact this
theorem Zj1(g:∀d∈R,d<U)(j:Nat)(e:j<=R.length):Yj U (R.take j)=Yj U R%U^j/\Yj U (R.drop j)=Yj U R/U^j:=by
 have c:=Zmn R j e;have a:=Zgv Xr (R.take j) (λd h=>g d (fD h));rw [aR,dM e]at a;have i:0<U^j:=cH Xr;constructor
 .rw [c,jO,iQ,aU a]
 .rw [c,jO,iC i,dA a,eH]
theorem Ze6(e:∀d∈R,d<U){n:Nat}(g:n<=R.length)(h:Yj U R<U^n):Yj U (R.drop n)=0/\Yj U (R.take n)=Yj U R:=by obtain⟨a,c⟩:=Zj1 e n g;rw [c,a,aU h];exact⟨dA h,rfl⟩
theorem Ylq(c:∀d∈R,d<U){j n:Nat}(g:j+n<=R.length)(h:Yj U R<U^(j+n)):tz ((R.drop j).take n)=dg U (Yj U R/U^j):=by have a:∀d∈R.drop j,d<U:=λd a=>c d (lE a);rw [<-(Zj1 c j O1).2,<-Ky Xm _ (λd e=>a d (fD e))];congr 1;refine(Ze6 a (by rw [eC];omega) ?_).2;rw [(Zj1 c j O1).2,cF (cH Xr),<-bX,jO];exact h
theorem Zrs(c:∀d∈R,d<U)(e:∀d∈ys,d<U)(lo:Nat):∀d∈spl R lo ys,d<U:=λd a=>by
 simp only [spl,cQ]at a;rcases a with(a|a)|a
 .exact c d (fD a)
 .exact e d a
 .exact c d (lE a)
theorem Zr4(L:Nat)(ys:List Nat):Yj U (spl (List.replicate L 0) 0 ys)=Yj U ys:=by simp [spl,Nl,oE,Ge]
theorem Ylx(a:∀d∈R,d<U){j n:Nat}(g:j+n<=R.length)(h:Yj U R<U^(j+n))(i:ys.length<=n) :
  Yj U (spl (spl R j (List.replicate n 0)) j ys)=Yj U R%U^j+U^j*Yj U ys:=by
 have c:(spl R j (List.replicate n 0)).take j=R.take j:=by simp only [spl,cS];rw [fR (by rw [aR];omega),jB,Nat.min_self]
 have e:(spl R j (List.replicate n 0)).drop (j+ys.length)=List.replicate (n-ys.length) 0 ++ R.drop (j+n):=by simp only [spl,cS,aX];rw [<-List.drop_drop,List.drop_left' (by rw [aR];omega),gW (by rw [aX];exact i),oE]
 rw [spl,c,e,Nl,Nl,Nl,Ge,(Ze6 a g h).1,(Zj1 a j O1).1,aR,dM O1];simp
theorem Ynr{y b:Nat}(d:0<y)(l:k=(dg U y).length)(r:b=64-bl ((dg U y).getD (k-1) 0)):(dg U (y*2^b)).length=k/\2^b*U^k<=y*2^b*U*2^b/\1<=k/\y*2^b<U^k/\b<=63/\U^(k-1)*9223372036854775808<=y*2^b:=by
 obtain⟨m,n,g,o⟩:=Zyr d;rw [<-l]at m n g o;obtain⟨h,q⟩:=Zrl d;have i:=Dl y;have e:bl y+b=64*k:=O1;have c:y*2^b<U^k:=by rw [Zcz,<-e,bX];exact eW i (dY b)
 have a:U^(k-1)*9223372036854775808<=y*2^b:=by
  have:U^(k-1)*9223372036854775808=2^(bl y-1)*2^b:=by rw [Zcz,<-bX,show 9223372036854775808=2^63 from rfl,<-bX];congr 1;omega
  rw [this];exact aN _ h
 have j:U^k=U^(k-1)*U:=by rw [<-cC];congr 1;omega
 refine⟨?_,?_,g,c,O1,a⟩
 .refine kH ((Xo Xm _ _).2 c) ?_;have:k-1<(dg U (y*2^b)).length:=(Oz Xm _ _).2 (aB (eN _ O1) a);omega
 .rw [j,aQ (2^b)];refine aN _ ?_;refine aN _ (aB (eN _ O1) a)
theorem Yiu{W w1 w0 t:Nat}(a:t*U^k<=D)(e:0<t)(c:W/U^k=w1*U+w0):W/D<=(w1*U+w0)/t:=by have d:0<U^k:=cH Xr;rw [<-c,aY,aQ];exact oF a (gV e d)
theorem Yl2(c:∀d∈R,d<U){j:Nat}(m:1<=k)(h:Yj U R<U^(j+k+1))(n:j+k+1<=R.length):Yj U R/U^j/U^(k-1)=R.getD (j+k) 0*U+R.getD (j+k-1) 0:=by
 have e:∀i,R.getD i 0=Yj U R/U^i%U:=λi=>by
  rcases bC i R.length with hi|hi
  .have a:=(Zj1 c i O1).2;rw [Zco 0 R i hi]at a;simp only [Yj]at a;rw [<-a,kF,aU (Xl Xr c i)]
  .rw [show R.getD i 0=0 by simp [List.getD,bF hi],dA (dI (Zgv Xr R c) (dO Xr hi))];rfl
 rw [e,e,aY,<-bX,show j+(k-1)=j+k-1 by omega];have g:Yj U R/U^(j+k)<U:=by rw [cF (cH Xr),<-oL,jO (j+k)]at *;rw [jO 1]at *;exact h
 have l:Yj U R/U^(j+k)=Yj U R/U^(j+k-1)/U:=by rw [aY,<-cC];congr 2;omega
 rw [aU g,l,aQ,cJ]
theorem Yju{x b lx:Nat}(e:x<U^lx)(c:b<=63)(l:1<=k)(d:k<=lx+1)(a:U^(k-1)*9223372036854775808<=D):x*2^b<D*U^(lx+1-k):=by
 have g:x*2^b<U^lx*2^b:=eW e (dY b);have h:U^lx*2^b<=U^lx*9223372036854775808:=bL _ (by rw [show 9223372036854775808=2^63 from rfl];exact dO O1 c)
 have i:U^lx*9223372036854775808=U^(k-1)*9223372036854775808*U^(lx+1-k):=by rw [jN,<-bX];congr 2;omega
 have j:U^(k-1)*9223372036854775808*U^(lx+1-k)<=D*U^(lx+1-k):=aN _ a;omega
theorem Yjt{V j Q Vq N:Nat}(h:0<D)(a:Q=V/U^j/D)(i:Vq*U^(j+1)*D+V=N) :
  V%U^j+U^j*(V/U^j-D*Q)<D*U^j/\(Q+U*Vq)*U^j*D+(V%U^j+U^j*(V/U^j-D*Q))=N:=by
 have l:0<U^j:=cH Xr;have o:=bP V l;have q:=cJ V (U^j);have c:=cJ (V/U^j) D;have d:=bP (V/U^j) h;have e:V/U^j-D*Q=V/U^j%D:=by rw [a];omega
 rw [e];constructor
 .have g:U^j*(V/U^j%D+1)<=U^j*D:=bL _ d;rw [gU]at g;rw [aQ D];omega
 .rw [<-i];have m:(Q+U*Vq)*U^j*D=U^j*(D*Q)+Vq*U^(j+1)*D:=by
   rw [bK,bK,cC];congr 1
   .rw [aQ Q,cZ,aQ Q]
   .rw [aQ U Vq,cZ Vq,aQ U]
  have n:U^j*(D*Q)+U^j*(V/U^j%D)=U^j*(V/U^j):=by rw [<-gU,a,c]
  omega
def sg(s:Bool)(x:Int):Prop:=(s=true->x<=0)/\(s=false->0<=x)
theorem Yfw(h:sg s x):sg (!s) (-x):=by cases s<;>simp [sg]at*<;>omega
theorem Yfx(hs:sg s x)(a:sg t y):sg (s != t) (x*y):=by
 cases s<;>cases t<;>simp [sg]at *
 .exact eT hs a
 .exact iI hs a
 .exact iJ hs a
 .exact Int.mul_nonneg_of_nonpos_of_nonpos hs a
theorem Yco(h:(((dg U x.natAbs).length:Nat):Int)=0):Value.int .i64 x.sign= .int .i64 0:=by have a:=(Pv Xm x.natAbs).1 O1;have:x=0:=O1;subst this;rfl
theorem Yfq(hs:sg s x)(a:s=true)(h:¬(((dg U x.natAbs).length:Nat):Int)=0):Value.int .i64 x.sign= .int .i64 (-1):=by have c:¬x.natAbs=0:=λe=>h (by rw [(Pv Xm x.natAbs).2 e];rfl);have d:=hs.1 a;rw [fJ O1]
theorem Yfp(hs:sg s x)(a:s=false)(h:¬(((dg U x.natAbs).length:Nat):Int)=0):Value.int .i64 x.sign= .int .i64 1:=by have c:¬x.natAbs=0:=λe=>h (by rw [(Pv Xm x.natAbs).2 e];rfl);have d:=hs.2 a;rw [gK O1]
theorem Zyy(hs:sg s x)(a:sg s y):sg s (x+y):=by cases s<;>simp [sg]at*<;>omega
theorem Zgt(hs:sg s x)(a:sg s y):(x+y).natAbs=x.natAbs+y.natAbs:=by cases s<;>simp [sg]at*<;>omega
theorem Zi5(hs:sg s x)(c:sg t y)(h:s≠t)(a:y.natAbs<=x.natAbs):sg s (x+y):=by cases s<;>cases t<;>simp [sg]at*<;>omega
theorem Zax(hs:sg s x)(c:sg t y)(h:s≠t)(a:y.natAbs<=x.natAbs):(x+y).natAbs=x.natAbs-y.natAbs:=by cases s<;>cases t<;>simp [sg]at*<;>omega
abbrev wv (x:Int):Value:= .agg #[.bool (decide (x<0)),.string (Qe x.natAbs)]
def Zat(x:Int):Int:=if 65536<bl x.natAbs then 0 else x
def Ziu(x:Int):Int:=if 65536<bl x.natAbs then 7 else 0
theorem Ypk:bl (Zat x).natAbs<=65536:=by
 unfold Zat;split
 .decide
 .omega
theorem Ik(h:bl x.natAbs<=65536):Zat x=x:=by unfold Zat;rw [aH O1]
theorem Zqf(h:bl x.natAbs<=65536):Ziu x=0:=by unfold Ziu;rw [aH O1]
theorem Ypj(h:65536<bl x.natAbs):Zat x=0:=by unfold Zat;rw [aK h]
theorem Yom(h:65536<bl x.natAbs):Ziu x=7:=by unfold Ziu;rw [aK h]
abbrev Zb1 (x:Int):Value:= .tuple #[wv (Zat x),.int .i64 (Ziu x)]
theorem Yca(h:((65536:Int)<((bl x.natAbs:Nat):Int))):Zb1 x= .tuple #[.agg #[.bool false,.string ⟨#[]⟩],.int .i64 7]:=by unfold Zb1;rw [Ypj O1,Yom O1];rfl
theorem Zya(h:¬((65536:Int)<((bl x.natAbs:Nat):Int))):Zb1 x= .tuple #[wv x,.int .i64 0]:=by unfold Zb1;rw [Ik O1,Zqf O1]
theorem Zry(hs:sg false x)(h:¬((65536:Int)<((bl x.natAbs:Nat):Int))):Zb1 x= .tuple #[.agg #[.bool false,.string (Qe x.natAbs)],.int .i64 0]:=by rw [Zya h,wv,aE (by have:=hs.2 rfl;omega)]
theorem Zrx(hs:sg true x)(h:¬((65536:Int)<((bl x.natAbs:Nat):Int))):Zb1 x= .tuple #[.agg #[.bool (decide ((0:Int)<(((dg U x.natAbs).length:Nat):Int))),.string (Qe x.natAbs)],.int .i64 0]:=by have a:=hs.1 rfl;have c:=Pv Xm x.natAbs;rw [Zya h,wv,show decide (x<0)=decide ((0:Int)<(((dg U x.natAbs).length:Nat):Int))from bR.2 ⟨λh=>O1,λh=>O1⟩]
theorem Zdo{q r:Int}(d:y≠0)(h:x=y*q+r)(l:0<=r)(m:r<(y.natAbs:Int)):x/y=q/\x%y=r:=by
 have e:=Int.mul_ediv_add_emod x y;have i:=nN x d;have j:=Int.emod_lt x d;have c:x/y=q:=by
  have g:y*(x/y-q)=r-x%y:=by rw [Int.mul_sub];omega
  have a:(y*(x/y-q)).natAbs<y.natAbs:=by rw [g];omega
  rw [cL]at a;rcases aS (x/y-q).natAbs with h|h
  .omega
  .exact absurd (eN y.natAbs h) O1
 refine⟨c,?_⟩;rw [c]at e;omega
theorem Zv3(h:sg s x):x=if s then -(x.natAbs:Int)else(x.natAbs:Int):=by cases s<;>simp [sg]at*<;>omega
theorem Ya2(hs:sg s x)(d:sg t y)(e:y≠0){Q R:Nat}(g:R<y.natAbs)(h:x=(if s then -1 else 1)*((y.natAbs:Int)*Q)+R) :
  sg (s != t) (x/y)/\(x/y).natAbs=Q/\(x%y).natAbs=R:=by
 have c:=Zv3 d;have a:x/y=(if s != t then -(Q:Int)else Q)/\x%y=R:=by
  refine Zdo e ?_ O1 O1
  conv=>lhs;rw [h]
  conv=>rhs;rw [c]
  cases s<;>cases t<;>simp [pM,lF]
 rw [a.1,a.2];cases s<;>cases t<;>simp [sg]
theorem divB(hs:sg s x)(h:sg t y)(i:y≠0)(g:s=false\/x.natAbs%y.natAbs=0):sg (s != t) (x/y)/\(x/y).natAbs=x.natAbs/y.natAbs/\(x%y).natAbs=x.natAbs%y.natAbs:=by
 have c:=Zv3 hs;have e:=cJ x.natAbs y.natAbs;refine Ya2 hs h i (bP _ O1) ?_;have a:((y.natAbs:Int)*((x.natAbs/y.natAbs:Nat):Int))+((x.natAbs%y.natAbs:Nat):Int)=x.natAbs:=by rw [<-fL,<-kJ,e]
 rcases g with rfl|d
 .simp at c ⊢;simp at a;omega
 .rw [d]at a ⊢;cases s<;>simp at c a ⊢<;>omega
theorem divA(hs:sg true x)(a:sg t y)(c:y≠0)(g:0<x.natAbs%y.natAbs):sg (true != t) (x/y)/\(x/y).natAbs=x.natAbs/y.natAbs+1/\(x%y).natAbs=y.natAbs-x.natAbs%y.natAbs:=by
 have i:=Zv3 hs;have e:=cJ x.natAbs y.natAbs;have h:=bP x.natAbs (show 0<y.natAbs by omega);refine Ya2 hs a c O1 ?_;have d:((y.natAbs:Int)*((x.natAbs/y.natAbs:Nat):Int))+((x.natAbs%y.natAbs:Nat):Int)=x.natAbs:=by rw [<-fL,<-kJ,e]
 rw [Int.natCast_sub O1,kJ,mJ];generalize ((y.natAbs:Int)*((x.natAbs/y.natAbs:Nat):Int))=P at *;generalize ((x.natAbs%y.natAbs:Nat):Int)=R at *;simp only [lC]at *;omega
def okW(b:Bool)(s:ByteArray):Bool:=if s.size=0 then !b else decide ((s.data.toList.getD 0 0).toNat≠0) && decide (s.size<=8192)
theorem bl256 (n:Nat)(k:Nat) : (dg 256 n).length<=k↔bl n<=8*k:=by rw [Zli];omega
theorem Zcd(h:bl x.natAbs<=65536):okW (decide (x<0)) (Qe x.natAbs)=true:=by
 unfold okW;rw [Db];split
 .rename_i c;have:=(Pv (by omega:2<=256) x.natAbs).1 c;simp;omega
 .rename_i c;have g:0<x.natAbs:=by
   rcases aS x.natAbs with a|a
   .rw [a]at c;simp [Ga]at c
   .exact a
  have a:=Zu9 x.natAbs 0 O1;have d:=dg_top (by omega:2<=256) g;rw [Gb O1]at d;have e:=(bl256 x.natAbs 8192).2 O1;rw [aO];refine⟨aJ (by rw [a];simpa using d),aJ e⟩
theorem Zhv{a b:ByteArray}(h:a.data.toList=b.data.toList):a=b:=by cases a;cases b;simp at h;rw [h]
theorem Ypu{s:ByteArray}(e:s.size≠0)(h:(s.data.toList.getD 0 0).toNat≠0):s=Qe (Yj 256 (s.data.toList.reverse.map UInt8.toNat)):=by
 have g:s.data.toList.length=s.size:=rfl;have a:∀d∈s.data.toList.reverse.map UInt8.toNat,d<256:=λd c=>by obtain⟨u,_,rfl⟩:=dH.1 c;exact u.toNat_lt
 refine Zhv ?_;unfold Qe;rw [Ky O1 _ a,tz_eq]
 .simp [List.map_reverse,Function.comp_def]
 .refine .inr ?_;rw [aP,List.length_reverse,aC,dW,List.getElem?_reverse O1];rw [show s.data.toList.length-1-(s.data.toList.length-1)=0 by omega];rw [aC]at h;cases hx:s.data.toList[0]? with
  | none=>rw [hx]at h;simp at h
  | some u=>rw [hx]at h;simpa using h
theorem Zpo{s:ByteArray}(h:okW b s=true):∃x:Int,bl x.natAbs<=65536/\b=decide (x<0)/\s=Qe x.natAbs:=by
 unfold okW at h;split at h
 .rename_i c;refine⟨0,by simp [Km],?_,?_⟩
  .cases b<;>simp_all
  .refine Zhv ?_;have:s.data.toList.length=0:=c;rw [aF this];rfl
 .rename_i c;rw [aO]at h;have e:=bH h.1;have g:=bH h.2;have hs:=Ypu c e;generalize Yj 256 (s.data.toList.reverse.map UInt8.toNat)=n at hs;have d:(dg 256 n).length=s.size:=by rw [hs,Db]
  have i:0<n:=by
   rcases aS n with h|h
   .subst h;simp [Ga]at d;omega
   .exact h
  have a:bl n<=65536:=by have:=(bl256 n 8192).1 O1;omega
  cases b with
  | true=>exact⟨-(n:Int),by simpa using a,O9,by simpa using hs⟩
  | false=>exact⟨n,by simpa using a,O8,by simpa using hs⟩
def eqW(a:Bool)(s:ByteArray)(b:Bool)(t:ByteArray):Bool:=(a == b) && (s.toList == t.toList)
theorem Yeh(h:decide (x<0)=decide (y<0))(g:Qe x.natAbs=Qe y.natAbs):x=y:=by
 have j:x.natAbs=y.natAbs:=by
  have a:(dg 256 x.natAbs).reverse.map UInt8.ofNat=(dg 256 y.natAbs).reverse.map UInt8.ofNat:=by have:=aL (λb:ByteArray=>b.data.toList) g;simpa [Qe]using this
  have c:∀n:Nat,((dg 256 n).reverse.map UInt8.ofNat).map UInt8.toNat=(dg 256 n).reverse:=λn=>by
   rw [lQ]
   conv=>rhs;rw [<-pO (dg 256 n).reverse]
   refine lN λd i=>?_;have:=Nd (by omega:2<=256) n d (List.mem_reverse.1 i);simp [UInt8.toNat_ofNat',aU this]
  have e:=aL (List.map UInt8.toNat) a;rw [c,c]at e;exact(Zht (by omega:2<=256)).1 (List.reverse_inj.1 e)
 have a:=bR.1 h;omega
theorem Zqu{a:Bool}{s t:ByteArray} : eqW a s b t=true↔a=b/\s=t:=by unfold eqW;rw [aO,ByteArray.toList_eq,ByteArray.toList_eq,lY,lY];exact⟨λh=>⟨h.1,Zhv h.2⟩,λh=>⟨h.1,by rw [h.2]⟩⟩
theorem Yjh(x y:Int):eqW (decide (x<0)) (Qe x.natAbs) (decide (y<0)) (Qe y.natAbs)=decide (x=y):=by rw [lJ,Zqu,eV];exact⟨λh=>Yeh h.1 h.2,λh=>by rw [h];exact⟨rfl,rfl⟩⟩
theorem Qg(x:Int):sg (decide (x<0)) x:=by unfold sg;simp;omega
def Lx(x y:Int):bl (x+y).natAbs<=max (bl x.natAbs) (bl y.natAbs)+1:=
 aB (Pr (mK x y)) bl_add
theorem Ya(x y:Int):bl (x*y).natAbs<=bl x.natAbs+bl y.natAbs:=by rw [cL];exact Zmc _ _
theorem Cr(x y:Int):bl (x-y).natAbs<=max (bl x.natAbs) (bl y.natAbs)+1:=by have:=Lx x (-y);rwa [eI,<-fK]at this
theorem Zrn(x:Int):bl (-x).natAbs=bl x.natAbs:=by rw [eI]
theorem Zjv(x y:Int):bl (x/y).natAbs<=bl x.natAbs+1:=by have h:(x/y).natAbs<=x.natAbs:=gO x y;have:=Pr h;omega
theorem Ybt(x y:Int)(a:y≠0):bl (x%y).natAbs<=bl y.natAbs:=by have c:=nN x a;have d:=Int.emod_lt x a;exact Pr O1
theorem Zmd(x y:Nat):bl (Nat.gcd x y)<=max (bl x) (bl y):=by
 rcases aS x with h|h
 .subst h;rw [Nat.gcd_zero_left];omega
 .have:=Pr (mQ h (mW x y));omega
def Ymq(x:Int)(h:y≠0):sg false (x%y):=⟨λa=>Bool.noConfusion a,λ_=>nN x h⟩
def Xs(x y:Int):Int:=if y<0 then -(Int.gcd x y:Int)else(Int.gcd x y:Int)
theorem Zam(x y:Int):(Xs x y).natAbs=Nat.gcd x.natAbs y.natAbs:=by unfold Xs;split<;>simp [Int.gcd]
theorem Zz8(h:y≠0):Xs x y≠0:=λe=>by have a:=Zam x y;rw [e]at a;have:=(Nat.gcd_eq_zero_iff.1 a.symm).2;omega
theorem Ymo(a:sg t y)(c:y≠0):sg t (Xs x y):=by
 unfold Xs sg at *;refine⟨λh=>?_,λh=>?_⟩
 .rw [aK (by have:=a.1 h;omega)];omega
 .rw [aH (by have:=a.2 h;omega)];omega
theorem Zz7(x y:Int):Ek v (Nat.gcd x.natAbs y.natAbs)=Ek v (Xs x y).natAbs:=by rw [Zam]
def Kq(x y:Int):Prop:=65536<bl (x/Xs x y).natAbs\/65536<bl (y/Xs x y).natAbs
instance (x y:Int):Decidable (Kq x y):=by unfold Kq;infer_instance
def Fq(x y:Int):Int:=if Kq x y then 0 else x/Xs x y
def Gv(x y:Int):Int:=if Kq x y then 0 else y/Xs x y
def Ygn(x y:Int):Int:=if Kq x y then 7 else 0
abbrev Za8 (x y:Int):Value:= .tuple #[.agg #[.bool (decide (Fq x y<0)),.string (Qe (Fq x y).natAbs),.bool (decide (Gv x y<0)),.string (Qe (Gv x y).natAbs)],.int .i64 (Ygn x y)]
theorem Za7(h:Kq x y):Za8 x y= .tuple #[.agg #[.bool false,.string ⟨#[]⟩,.bool false,.string ⟨#[]⟩],.int .i64 7]:=by unfold Za8 Fq Gv Ygn;rw [aK h,aK h,aK h];rfl
theorem Al(h:Ziu x≠0):65536<bl x.natAbs:=by
 unfold Ziu at h;split at h
 .assumption
 .exact absurd rfl h
theorem Zjh(h:Ziu x=0):bl x.natAbs<=65536:=by
 unfold Ziu at h;split at h
 .omega
 .omega
theorem Zs3(c:Ziu (x/Xs x y)=0)(d:Ziu (y/Xs x y)=0):Za8 x y= .tuple #[.agg #[.bool (decide (Zat (x/Xs x y)<0)),.string (Qe (Zat (x/Xs x y)).natAbs),.bool (decide (Zat (y/Xs x y)<0)),.string (Qe (Zat (y/Xs x y)).natAbs)],.int .i64 0]:=by
 have a:¬Kq x y:=λh=>by have:=Zjh c;have:=Zjh d;unfold Kq at h;omega
 unfold Za8 Fq Gv Ygn;rw [aH a,aH a,aH a,Ik (Zjh c),Ik (Zjh d)]
def okR(b:Bool)(s:ByteArray)(c:Bool)(t:ByteArray):Bool:=okW b s && okW c t && (!c && decide (0<t.size))
theorem Zpf(z:Int):(!decide (z<0) && decide (0<(Qe z.natAbs).size))=decide (0<z):=by rw [lJ,aO,Db,eV,eV];have:=Pv (by omega:2<=256) z.natAbs;simp only [gJ,iA];omega
theorem sign_pos_iff(z:Int):decide (0<z.sign)=decide (0<z):=by
 rw [bR];rcases jY z 0 with h|h|h
 .rw [fJ h];omega
 .subst h;simp
 .rw [gK h];omega
theorem Ztj{s:ByteArray}{z:Int}(a:okW b s=true)(c:bl z.natAbs<=65536):okR b s (decide (z<0)) (Qe z.natAbs)=decide (0<z.sign):=by unfold okR;rw [a,Zcd c,Zpf,sign_pos_iff];rfl
theorem okR_wv(c:bl x.natAbs<=65536)(d:bl y.natAbs<=65536)(a:0<y):okR (decide (x<0)) (Qe x.natAbs) (decide (y<0)) (Qe y.natAbs)=true:=by unfold okR;rw [Zcd c,Zcd d,Zpf];simp [a]
theorem Yhn{c:Bool}{s t:ByteArray}(h:okR b s c t=true):∃x y:Int,bl x.natAbs<=65536/\bl y.natAbs<=65536/\0<y/\b=decide (x<0)/\s=Qe x.natAbs/\c=decide (y<0)/\t=Qe y.natAbs:=by unfold okR at h;rw [aO,aO]at h;obtain⟨⟨d,e⟩,a⟩:=h;obtain⟨x,g,rfl,rfl⟩:=Zpo d;obtain⟨y,i,rfl,rfl⟩:=Zpo e;rw [Zpf]at a;exact⟨x,y,g,i,bH a,rfl,rfl,rfl,rfl⟩
open Go.RowKit Below
def Sz(n:Nat)(p:List Int):Prop:=∀i,bl (cf p i).natAbs<=n
def Sz.getD{n:Nat}(h:Sz n p)(i:Nat):bl (p.getD i 0).natAbs<=n:=h i
def Sz.mono{n m:Nat}(h:Sz n p)(a:n<=m):Sz m p:=λi=>aB (h i) a
theorem Sz.tzl{n:Nat}(h:Sz n p):Sz n (tzl p):=λi=>by rw [Il];exact h i
theorem Sz.nil(n:Nat):Sz n []:=λi=>by simp [cf,Km]
theorem Sz.take{n:Nat}(h:Sz n p)(k:Nat):Sz n (p.take k):=λi=>by
 rw [Eb];split
 .exact h i
 .simp [Km]
theorem Sz.mem{n:Nat}(h:Sz n p)(a:x∈p):bl x.natAbs<=n:=by obtain⟨i,hi,rfl⟩:=cY.1 a;have:=h i;rwa [Zcu hi]at this
theorem Sz.of_mem{n:Nat}(h:∀x∈p,bl x.natAbs<=n):Sz n p:=λi=>by
 rcases bC i p.length with hi|hi
 .rw [Zcu hi];exact h _ (gQ hi)
 .rw [Yr hi];simp [Km]
structure Vp (p:List Int):Prop where
 sz:Sz 65536 p
 tr:Tr p
 len:p.length<=25
def wr(x:Int):Bool×ByteArray:=(decide (x<0),Qe x.natAbs)
def okP(r:List (Bool×ByteArray)):Bool:=r.all (λw=>okW w.1 w.2) && (decide (r.length<=25) && (decide (r.length=0) || decide ((r.getD (r.length-1) (false,⟨#[]⟩)).2.size≠0)))
theorem Zex : (Qe x.natAbs).size=0↔x=0:=by rw [Db];have:=Pv (by omega:2<=256) x.natAbs;omega
theorem Zck{i:Nat}(h:i<xs.length):(xs.map wr).getD i (false,⟨#[]⟩)=wr (cf xs i):=by rw [Zcu h];simp [List.getD,h]
theorem okP_wr(h:Vp xs):okP (xs.map wr)=true:=by
 unfold okP;rw [aO,aO,nO];refine⟨cI.2 λw e=>?_,by simpa using h.len,?_⟩
 .obtain⟨x,g,rfl⟩:=dH.1 e;exact Zcd (h.sz.mem g)
 .rcases h.tr with a|a
  .left;simp [a]
  .right;have i:0<xs.length:=by
    rcases aS xs.length with c|c
    .rw [Yr O1]at a;exact absurd rfl a
    .exact c
   rw [aP,Zck O1];refine aJ λd=>a (Zex.1 d)
theorem Zti{r:List (Bool×ByteArray)}(h:∀w∈r,okW w.1 w.2=true):∃xs:List Int,(∀x∈xs,bl x.natAbs<=65536)/\r=xs.map wr:=by
 induction r with
 | nil=>exact⟨[],O8,rfl⟩
 | cons w r l=>
  obtain⟨xs,c,d⟩:=l λu i=>h u (bG _ i);obtain⟨x,j,e,g⟩:=Zpo (h w (bW ..));refine⟨x::xs,λy a=>?_,?_⟩
  .rcases bB.1 a with rfl|a
   .exact j
   .exact c y a
  .rw [bT,<-d,wr,<-e,<-g]
theorem okP_ex{r:List (Bool×ByteArray)}(h:okP r=true):∃xs:List Int,Vp xs/\r=xs.map wr:=by
 unfold okP at h;rw [aO,aO,nO]at h;obtain⟨d,e,a⟩:=h;obtain⟨xs,g,rfl⟩:=Zti (cI.1 d);refine⟨xs,⟨Sz.of_mem g,?_,by simpa using e⟩,rfl⟩;rcases a with a|a
 .left;exact aF (by simpa using a)
 .rcases aS xs.length with c|c
  .left;exact aF c
  .right;rw [aP,Zck O1]at a;exact λi=>bH a (Zex.2 i)
theorem Zj8 (k:Nat){j:Nat}(h:j<k)(a:(xs.take k).getD j 0=0):cf xs j=0:=by rw [Zdl _ _ _ _ h]at a;exact a
theorem Zfb (k:Nat){j:Nat}(h:j<k)(a:¬((xs.take k).getD j 0).sign=0):cf xs j≠0:=λe=>a (by rw [Zdl _ _ _ _ h];rw [show xs.getD j 0=0 from e];rfl)
theorem Ynm{r:List (Bool×ByteArray)}{w:Bool×ByteArray}(a:w∈r)(h:okW w.1 w.2=false):okP r=false:=by unfold okP;rw [show r.all (λw=>okW w.1 w.2)=false from List.all_eq_false.2 ⟨w,a,by simp [h]⟩];rfl
theorem Zpp(h:∀x∈xs,bl x.natAbs<=65536):okP (xs.map wr)=(decide (xs.length<=25) && (decide (xs.length=0) || decide (¬(xs.getD (xs.length-1) 0).sign=0))):=by
 unfold okP;rw [show(xs.map wr).all (λw=>okW w.1 w.2)=true from cI.2 λw c=>by obtain⟨x,d,rfl⟩:=dH.1 c;exact Zcd (h x d)]
 rw [aP,mR];congr 1;by_cases a:xs.length=0
 .simp [a]
 .rw [aE a,Bool.false_or,Bool.false_or,Zck O1];rw [bR,fQ];exact not_congr Zex
def err(e x:Int):Int:=if e=0 then Ziu x else e
theorem Zw9(h:bl x.natAbs<=65536):err 0 x=0:=by unfold err;rw [aK rfl,Zqf h]
def Qx:List Int->Nat
 | []=>0
 | x::r=>max (bl x.natAbs) (Qx r)
theorem Ku(p:List Int):Sz (Qx p) p:=by
 refine Sz.of_mem λx a=>?_
 induction p with
 | nil=>cases a
 | cons y r c=>
  rcases bB.1 a with rfl|h
  .simp only [Qx];omega
  .have:=c h;simp only [Qx];omega
theorem Pu{n:Nat}(h:Sz n p):Qx p<=n:=by
 have c:∀x∈p,bl x.natAbs<=n:=λx a=>h.mem a;clear h
 induction p with
 | nil=>exact bJ _
 | cons y r d=>
  have:=c y (bW ..);have:=d λx a=>c x (bG _ a);simp only [Qx];omega
theorem Yh2(p:List Int)(x:Int):Qx (p ++ [x])=max (Qx p) (bl x.natAbs):=by
 induction p with
 | nil=>simp [Qx]
 | cons y r a=>simp only [jA,Qx,a];omega
variable {P:Program} {N:Nat} {sc:Nat->Prop} {env env':Qy} {H H':Hp} {Q Q':Exit->Act->World->Prop} {M:Nat->Prop}
theorem fpm{α β:Type}{f:α->β}{xs:List α}{p:Prop}(h:xs.map f≠[]/\p):xs≠[]/\p:=⟨λe=>h.1 (by rw [e];rfl),h.2⟩
def fpn{α β:Type}{f:α->β}{xs:List α}{p:Prop}(h:xs≠[]/\p):xs.map f≠[]/\p:=⟨λe=>h.1 (List.map_eq_nil_iff.1 e),h.2⟩
theorem Zv0(v:Value)(xs:List Int)(w:World)(h:(Yw 2 wv v xs).holds w):(Yw 2 (λw:Bool×ByteArray=>Value.agg #[.bool w.1,.string w.2]) v (xs.map wr)).holds w:=by
 obtain⟨⟨a,c,l,m,n,d⟩,q⟩:=h;refine⟨⟨a,c,by rw [aP];exact l,by rw [aP];exact m,n,?_⟩,λb h=>q b (fpm h)⟩;rcases d with d|⟨g,e,d,o⟩
 .left;rw [d];rfl
 .right;refine⟨g,e,d,λi x hi j u r=>?_⟩;rw [dW]at hi;cases hx:xs[i]? with
  | none=>rw [hx]at hi;cases hi
  | some y=>rw [hx]at hi;cases hi;exact o i y hx j u r
theorem Ymg(v:Value)(xs:List Int)(w:World)(h:(Yw 2 (λw:Bool×ByteArray=>Value.agg #[.bool w.1,.string w.2]) v (xs.map wr)).holds w):(Yw 2 wv v xs).holds w:=by
 obtain⟨⟨a,c,l,m,n,d⟩,q⟩:=h;rw [aP]at l m;refine⟨⟨a,c,l,m,n,?_⟩,λb h=>q b (fpn h)⟩;rcases d with d|⟨g,e,d,o⟩
 .left;simpa using d
 .right;refine⟨g,e,d,λi x hi j u r=>?_⟩;exact o i (wr x) (by rw [dW,hi];rfl) j u r
theorem Cal.imp{p q:Pc}{al:Bool}{G:Type}{φ:G->Prop}{Yj:G->Value}{i:G->List Pc}(h:Cal P f args (p::pre) al φ Yj i)(I:∀w,q.holds w->p.holds w)(B:∀b,p.fp b->q.fp b) :
  Cal P f args (q::pre) al φ Yj i:=λw m=>by
 refine(h w λr a=>?_).mono ?_
 .rcases bB.1 a with rfl|a
  .exact I w (m q (bW ..))
  .exact m r (bG _ a)
 .rintro e V ⟨g,z,F,j,c⟩;refine⟨g,z,F,j,λS l=>?_⟩;obtain⟨n,o,u⟩:=c S l;refine⟨n,o,λb j=>?_⟩;rcases u b j with h|⟨h,r,a,d⟩
  .exact .inl h
  .refine .inr ⟨h,?_⟩;rcases bB.1 a with rfl|a
   .exact⟨q,bW ..,B b d⟩
   .exact⟨r,bG _ a,d⟩
end Go.Sky
namespace Go.Sky
variable{k m:Nat}{f:Nat->Int}{xs:List Int}
def fill(n k:Nat)(f:Nat->Int):List Int:=mk n λi=>if i<k then f i else 0
def Pa(n k:Nat)(f:Nat->Int):(fill n k f).length=n:=Yp _ _
theorem Zcl{n:Nat}(h:k<n):(fill n k f).set k (f k)=fill n (k+1) f:=Kv (by simp [Pa]) λi hi=>by
 rw [aT,Pa]at hi;rw [Zl8 (by rw [Pa];exact h)];unfold fill;rw [Nk,Nk,aK hi,aK hi];by_cases b:i=k
 .subst b;rw [aK rfl,aK O1]
 .rw [aH b];by_cases a:i<k
  .rw [aK a,aK O1]
  .rw [aH a,aH O1]
theorem Cw(n:Nat)(f:Nat->Int):List.replicate n 0=fill n 0 f:=Kv (by simp [Pa]) λi hi=>by rw [aX]at hi;unfold fill;rw [Nk,aK hi,aH O1,Zcu (by simpa using hi)];simp
theorem Fz(n:Nat)(f:Nat->Int):fill n n f=mk n f:=Gh λi hi=>by rw [aK hi]
theorem Yh3(xs:List Int)(g:Int->Int):mk xs.length (λi=>g (cf xs i))=xs.map g:=Kv (by simp [Yp]) λi hi=>by rw [Yp]at hi;rw [Nk,aK hi,Zcu hi,Zcu (p:=xs.map g) (by simpa using hi)];simp
theorem Zcf{n:Nat}(h:∀i,i<n->bl (f i).natAbs<=m):Sz m (mk n f):=λi=>by
 rw [Nk];split
 .exact h i ‹_›
 .simp [Km]
theorem Mm{p:List Int}(h:Tr p):Tr (Xa p):=by
 unfold Xa;rcases bC 1 p.length with a|a
 .right;rw [Yp,Nk,aK O1];have c:=h.mem (by intro e;rw [e]at a;simp at a);rw [show p.length-1-1+1=p.length-1 by omega];intro d;rcases fN.1 d with b|b
  .exact c b
  .omega
 .left;exact aF (by rw [Yp];omega)
theorem Yc1(xs:List Int)(c:Int):tzl (fill xs.length xs.length λi=>cf xs i*c)=Zm xs c:=by rw [Fz,Yh3 xs (· * c)];rfl
theorem Yni(h:Tr xs):tzl (fill (xs.length-1) (xs.length-1) λi=>cf xs (i+1)*((i:Int)+1))=Xa xs:=by rw [Fz];exact Ap (Mm h)
theorem Yhi{p:List Int}(h:p.length=0):Xa p=[]:=aF (by unfold Xa;rw [Yp];omega)
theorem Zkz(p:List Int)(x:Int):Yz (p ++ [x])=(Int.gcd (Yz p) x:Int):=by unfold Yz;rw [List.foldl_append];rfl
theorem Ox(p:List Int):0<=Yz p:=by
 rcases Zi3 p with rfl|⟨a,y,rfl⟩
 .exact eY _
 .rw [Zkz];omega
theorem Iq{p:List Int}(h:k<p.length):Yz (p.take (k+1))=(Int.gcd (Yz (p.take k)) (p.getD k 0):Int):=by rw [Po 0 _ h,Zkz]
theorem Zte{n:Nat} : ∀(p:List Int),Sz n p->bl (Yz p).natAbs<=n:=λp=>by
 have a:∀k,k<=p.length->Sz n p->bl (Yz (p.take k)).natAbs<=n:=by
  intro k
  induction k with
  | zero=>intro _ _;rw [fB];exact bJ _
  | succ k d=>
   intro c hs;rw [Iq c];have e:=d O1 hs;have b:=hs k;have:=Zmd (Yz (p.take k)).natAbs (p.getD k 0).natAbs;have g:bl (p.getD k 0).natAbs<=n:=b;show bl (Nat.gcd _ _)<=n;omega
 intro hs;have:=a p.length (aI _) hs;rwa [bO]at this
theorem Lg(p:List Int):∀i,Yz p∣cf p i:=by
 have a:∀k,k<=p.length->∀i,i<k->Yz (p.take k)∣cf p i:=by
  intro k
  induction k with
  | zero=>intro _ i hi;omega
  | succ k c=>
   intro b i hi;rw [Iq b];rcases bC i k with h|h
   .exact fC (jD ..) (c O1 i h)
   .have:i=k:=O1;subst this;exact iB ..
 intro i;rcases bC i p.length with h|h
 .have:=a p.length (aI _) i h;rwa [bO]at this
 .rw [Yr h];exact iU _
theorem Zcc(p:List Int):Yz p=0↔∀i,cf p i=0:=by
 refine⟨λh i=>by have:=Lg p i;rw [h]at this;exact oZ.1 this,λh=>?_⟩;have a:∀k,k<=p.length->Yz (p.take k)=0:=by
  intro k
  induction k with
  | zero=>intro _;rfl
  | succ k c=>
   intro b;rw [Iq b,c O1];have:=h k;rw [show p.getD k 0=0 from this];rfl
 have:=a p.length (aI _);rwa [bO]at this
theorem Fg{p:List Int}{d:Int}(h:∀i,d∣cf p i):d∣Yz p:=by
 have a:∀k,k<=p.length->d∣Yz (p.take k):=by
  intro k
  induction k with
  | zero=>intro _;exact iU _
  | succ k c=>
   intro b;rw [Iq b];exact Int.dvd_coe_gcd (c O1) (h k)
 have:=a p.length (aI _);rwa [bO]at this
theorem Zav(p:List Int)(i:Nat):cf (Zx p) i=cf p i/Yz p:=by unfold Zx;rw [Zct O8]
theorem Zz(p:List Int):(Zx p).length=p.length:=by simp [Zx]
theorem Zbl{x y:Int}{n:Nat}(h:y∣x)(b:bl x.natAbs<=n):bl (x/y).natAbs<=n:=by have a:(x/y).natAbs<=x.natAbs:=gO x y;exact aB (Pr a) b
theorem Yy{p:List Int}(h:Tr p):Tr (Zx p):=by
 rcases h with rfl|h
 .left;rfl
 .right;rw [Zav,Zz];intro a;have b:=Lg p (p.length-1);have:=lG b;rw [a,eG]at this;exact h this.symm
theorem Fm{n:Nat}{p:List Int}(h:Sz n p):Sz n (Zx p):=λi=>by rw [Zav];exact Zbl (Lg p i) (h i)
theorem Im{p:List Int}(h:Vp p):Vp (Zx p):=⟨Fm h.sz,Yy h.tr,by rw [Zz];exact h.len⟩
def Vp.ne{p:List Int}(h:Vp p)(a:p≠[]):Yz p≠0:=λe=>h.tr.mem a ((Zcc p).1 e _)
def Kh(p:List Int)(n d:Int)(i:Nat):Int:=Yg (λm=>cf p (i+m)*(n^m*d^(p.length-1-(i+m)))) (p.length-i)
theorem Zt9(p:List Int)(n d:Int):Kh p n d 0=pev p n d:=by unfold Kh pev;simp only [cD,jJ]
theorem Yof{p:List Int}(n d:Int)(h:0<p.length):Kh p n d (p.length-1)=cf p (p.length-1):=by unfold Kh;rw [show p.length-(p.length-1)=0+1 by omega,Yn,He];simp
theorem Yiq{p:List Int}(n d:Int){i:Nat}(h:i<p.length):Kh p n d i=Kh p n d (i+1)*n+cf p i*d^(p.length-1-i):=by
 unfold Kh;rw [show p.length-i=p.length-(i+1)+1 by omega,Ld];rw [<-Zj9];have:Yg (λm=>cf p (i+(m+1))*(n^(m+1)*d^(p.length-1-(i+(m+1))))) (p.length-(i+1))=Yg (λm=>cf p (i+1+m)*(n^m*d^(p.length-1-(i+1+m)))*n) (p.length-(i+1)):=
  Yx λm a=>by rw [show i+(m+1)=i+1+m by omega,dU];grind
 rw [this];simp only [eH,cT,fS];omega
theorem Zxw{K:Nat}{f:Nat->Int} : ∀{n:Nat},(∀i,i<n->bl (f i).natAbs<=K)->(Yg f n).natAbs<=n*(2^K-1)
 | 0,_=>by simp [Yg]
 | n+1,h=>by have b:=Zxw (n:=n) λi hi=>h i O1;have a:=(Qi K _).1 (h n O1);rw [Yn,bK];have:=mK (Yg f n) (f n);omega
theorem Zju{K:Nat}{n:Nat}(h:∀i,i<n->bl (f i).natAbs<=K)(a:n<=31):bl (Yg f n).natAbs<=K+5:=by rw [Qi];have b:=Zxw h;have c:n*(2^K-1)<=31*(2^K-1):=aN _ a;have d:0<2^K:=dY K;rw [bX];omega
theorem Dm(x:Int){m:Nat}(h:bl x.natAbs<=m):∀k,0<k->bl (x^k).natAbs<=k*m
 | 0,a=>O1
 | 1,_=>by rw [dU,cT,fS,oC];exact h
 | k+2,_=>by have b:=Dm x h (k+1) O1;rw [dU,show k+2=(k+1)+1 from rfl,bK (k+1) 1 m];have:=Ya (x^(k+1)) x;omega
theorem Zjt (i:Nat)(j:Nat){a n d:Int}{A:Nat}(l:bl a.natAbs<=A)(h:bl n.natAbs<=m)(g:bl d.natAbs<=m):bl (a*(n^i*d^j)).natAbs<=A+(i+j)*m:=by
 rcases aS i with rfl|hi
 .rcases aS j with rfl|c
  .simp;exact l
  .have e:=Dm d g j c;have b:=Ya a (n^0*d^j);rw [cT,fS]at b ⊢;rw [cD];omega
 .rcases aS j with rfl|c
  .have e:=Dm n h i hi;have b:=Ya a (n^i*d^0);rw [cT,gD]at b ⊢;rw [eH];omega
  .have e:=Dm n h i hi;have b:=Dm d g j c;have o:=Ya (n^i) (d^j);have p:=Ya a (n^i*d^j);rw [bK];omega
theorem Ykx{p:List Int}{n d:Int}{A:Nat}(e:Sz A p)(c:bl n.natAbs<=m)(b:bl d.natAbs<=m)(h:p.length<=31)(i:Nat):bl (Kh p n d i).natAbs<=A+(p.length-1-i)*m+5:=by unfold Kh;refine Zju (λk g=>?_) O1;have a:=Zjt k (p.length-1-(i+k)) (e (i+k)) c b;rw [show k+(p.length-1-(i+k))=p.length-1-i by omega]at a;exact a
def Ke(p:List Int)(n d:Int):Prop:=p≠[]/\65536<Qx p+(p.length-1)*Qx [n,d]+8
instance (p:List Int) (n d:Int):Decidable (Ke p n d):=by unfold Ke;infer_instance
def evv(p:List Int)(n d:Int):Int:=if Ke p n d then 0 else pev p n d
def eve(p:List Int)(n d:Int):Int:=if Ke p n d then 7 else 0
abbrev wc (x:Int):Array Value:=#[.bool (decide (x<0)),.string (Qe x.natAbs)]
section
variable {p:List Int} {n d:Int} (hF:Qx p+(p.length-1)*Qx [n,d]+8<=65536) (hl:p.length<=25)
include hF
theorem Zif:bl n.natAbs<=Qx [n,d]/\bl d.natAbs<=Qx [n,d]:=by simp only [Qx];omega
theorem Zqp : bl (d^(p.length-1-k)).natAbs<=65536:=by
 rcases aS (p.length-1-k)with h|h
 .rw [h,cT];decide
 .have a:=Dm d (Zif hF).2 _ h;have b:(p.length-1-k)*Qx [n,d]<=(p.length-1)*Qx [n,d]:=aN _ O1;omega
theorem Zqo : bl (cf p k*d^(p.length-1-k)).natAbs<=65536:=by have a:=Zjt 0 (p.length-1-k) (Ku p k) (Zif hF).1 (Zif hF).2;have b:(0+(p.length-1-k))*Qx [n,d]<=(p.length-1)*Qx [n,d]:=aN _ O1;rw [cT,fS]at a;omega
include hl
theorem Zqq(k:Nat):bl (Kh p n d k).natAbs<=65536:=by have a:=Ykx (Ku p) (Zif hF).1 (Zif hF).2 O1 k;have b:(p.length-1-k)*Qx [n,d]<=(p.length-1)*Qx [n,d]:=aN _ O1;omega
theorem Zw8(a:1<=k)(b:k<=p.length-1):bl (Kh p n d k*n).natAbs<=65536:=by
 have c:=Ykx (Ku p) (Zif hF).1 (Zif hF).2 O1 k;have e:=Ya (Kh p n d k) n;have g:=(Zif hF).1;have h:(p.length-1-k)*Qx [n,d]+Qx [n,d]<=(p.length-1)*Qx [n,d]:=by rw [<-eJ];exact aN _ O1
 omega
end
theorem evv_bl{p:List Int}{n d:Int}(hl:p.length<=25):bl (evv p n d).natAbs<=65536:=by
 unfold evv;split
 .decide
 .rename_i h;rcases aS p.length with a|a
  .rw [aF a,show pev [] n d=0 from rfl];decide
  .rw [<-Zt9];have c:p≠[]:=λe=>by rw [e]at a;simp at a
   exact Zqq (Nat.le_of_not_lt λb=>h ⟨c,b⟩) hl 0
theorem Yg7(d:Int){L:Nat}(a:1<=k)(b:k<=L):d^(L-k)*d=d^(L-(k-1)):=by rw [show L-(k-1)=L-k+1 by omega,dU]
theorem Ydn{p:List Int}(n d:Int)(a:1<=k)(b:k<=p.length-1):Kh p n d k*n+cf p (k-1)*d^(p.length-1-(k-1))=Kh p n d (k-1):=by rw [Yiq n d (i:=k-1) O1,show k-1+1=k by omega]
end Go.Sky
namespace Go.Sky
variable{k i B t top:Nat}{f:Nat->Int}{q r c R:List Int}{a b:Int}
def acc(p q:List Int)(i t:Nat):Int:=Yg (λk=>if k<=t then cf p k*cf q (t-k)else 0) i
def Zaw(p q:List Int)(i j t:Nat):Int:=acc p q i t+if i<=t/\t<i+j then cf p i*cf q (t-i)else 0
theorem Yd9(p q:List Int)(i:Nat):Zaw p q i 0=acc p q i:=qA λt=>by unfold Zaw;rw [aH O1,fO]
theorem Yld(p q:List Int)(i:Nat):Zaw p q i q.length=acc p q (i+1):=qA λt=>by
 unfold Zaw acc;rw [Yn];by_cases h:i<=t
 .rw [aK h];by_cases d:t<i+q.length
  .rw [aK ⟨h,d⟩]
  .rw [aH (λh=>d h.2),Yr (p:=q) O1,eG]
 .rw [aH h,aH (λd=>h d.1)]
theorem Zk9{L:Nat}{g:Nat->Int}(j:k<L)(h:∀t,t<L->t≠k->f t=g t){x:Int}(l:x=g k):(mk L f).set k x=mk L g:=Kv (by simp [Yp]) λt e=>by
 rw [aT,Yp]at e;rw [Zl8 (by rw [Yp];exact j),Nk,Nk,aK e];by_cases d:t=k
 .rw [aK d,d,l,aK j]
 .rw [aH d,aK e,h t e d]
theorem Ylc{p:List Int}{L j:Nat}(h:i+j<L):(mk L (Zaw p q i j)).set (i+j) (Zaw p q i j (i+j)+cf p i*cf q j)=mk L (Zaw p q i (j+1)):=by
 refine Zk9 h (λt g e=>?_) ?_
 .unfold Zaw;by_cases d:i<=t/\t<i+j
  .rw [aK d,aK O1]
  .rw [aH d,aH O1]
 .unfold Zaw;rw [aH O1,aK O1,fO,show i+j-i=j by omega]
theorem Zvg(p q:List Int)(t:Nat):acc p q p.length t=(ps p*ps q).c t:=by
 rw [PS.mul_c];unfold acc;have d:Yg (λk=>if k<=t then cf p k*cf q (t-k)else 0) (max (t+1) p.length)=Yg (λk=>if k<=t then cf p k*cf q (t-k)else 0) p.length:=
  Zg3 O1 λk d _=>by rw [Yr d,dD];split<;>rfl
 have e:Yg (λk=>if k<=t then cf p k*cf q (t-k)else 0) (max (t+1) p.length)=Yg (λk=>if k<=t then cf p k*cf q (t-k)else 0) (t+1):=
  Zg3 O1 λk d _=>by rw [aH O1]
 rw [<-d,e];exact Yx λk g=>by rw [aK O1];rfl
theorem Zwb(L:Nat):List.replicate L 0=mk L λ_=>0:=by rw [Cw L λ_=>0];unfold fill;exact Gh λi _=>by split<;>rfl
theorem Yhc(p q:List Int):tzl (mk (p.length+q.length-1) (acc p q p.length))=Qn p q:=by unfold Qn;congr 1;exact Gh λi _=>Zvg p q i
theorem Yp3{p:List Int}{A j:Nat}(g:Sz A p)(l:Sz B q)(hi:i<31):bl (Zaw p q i j t).natAbs<=A+B+5:=by
 have h:Zaw p q i j t=Yg (λk=>if k<i then(if k<=t then cf p k*cf q (t-k)else 0)else if i<=t/\t<i+j then cf p i*cf q (t-i)else 0) (i+1):=by rw [Yn];rw [aH (Nat.lt_irrefl i)];unfold Zaw acc;congr 1;exact Yx λk d=>by rw [aK d]
 rw [h];have e:∀a b,bl (cf p a*cf q b).natAbs<=A+B:=λa b=>by have:=Ya (cf p a) (cf q b);have:=g a;have:=l b;omega
 refine Zju (λk d=>?_) O1;split
 .split
  .exact e _ _
  .simp [Km]
 .split
  .exact e _ _
  .simp [Km]
theorem bl_acc{p:List Int}{A:Nat}(d:Sz A p)(e:Sz B q)(hi:i<=31):bl (acc p q i t).natAbs<=A+B+5:=by
 refine Zju (λk g=>?_) hi;split
 .have:=Ya (cf p k) (cf q (t-k));have:=d k;have:=e (t-k);omega
 .simp [Km]
def Ah(p q:List Int):Prop:=p≠[]/\q≠[]/\(24<p.length+q.length-2\/65536<Qx p+Qx q+5)
instance (p q:List Int):Decidable (Ah p q):=by unfold Ah;infer_instance
theorem Zdm{L:Nat}(h:i<L):(mk L f).getD i 0=f i:=by have:=Nk L f i;rw [aK h]at this;exact this
def Yo1(p q:List Int):Bool:=decide (q≠[]) && decide (p.length<q.length)
def Co(p q:List Int):Int:=if q.length=0 then 3 else if p.length<q.length then 0 else if 65536<Qx p+(p.length-q.length+1)*(Qx q+1)then 7 else 0
def Zh7(q r:List Int)(top:Nat):List Int:=
 mk r.length λt=>cf r t*cf q (q.length-1)-if top-(q.length-1)<=t/\t<top-(q.length-1)+q.length then cf r top*cf q (t-(top-(q.length-1)))else 0
def Qw(p q:List Int):Nat->List Int
 | 0=>p
 | j+1=>Zh7 q (Qw p q j) (p.length-1-j)
def Zf8(q r:List Int)(top:Nat):(Zh7 q r top).length=r.length:=Yp _ _
theorem Le(p q:List Int):∀j,(Qw p q j).length=p.length
 | 0=>rfl
 | j+1=>by unfold Qw;rw [Zf8,Le p q j]
def Qk(p q:List Int):List Int:=if p.length<q.length then p else tzl (Qw p q (p.length-q.length+1))
theorem Zu6(d:t<r.length):cf (Zh7 q r top) t=cf r t*cf q (q.length-1)-if top-(q.length-1)<=t/\t<top-(q.length-1)+q.length then cf r top*cf q (t-(top-(q.length-1)))else 0:=by unfold Zh7;rw [Nk,aK d]
theorem Ybr{c d:Int}{A:Nat}(j:bl a.natAbs<=A)(l:bl b.natAbs<=B)(m:bl c.natAbs<=A)(n:bl d.natAbs<=B):bl (a*b-c*d).natAbs<=A+(B+1):=by have e:=Ya a b;have g:=Ya c d;have h:=Cr (a*b) (c*d);omega
theorem Ye2{A:Nat}(e:Sz A r)(d:Sz B q):Sz (A+(B+1)) (Zh7 q r top):=by
 unfold Zh7;refine Zcf λt g=>?_;split
 .exact Ybr (e t) (d _) (e _) (d _)
 .rw [iV];have:=Ya (cf r t) (cf q (q.length-1));have:=e t;have:=d (q.length-1);omega
theorem Zg0(p q:List Int):∀j,Sz (Qx p+j*(Qx q+1)) (Qw p q j)
 | 0=>by rw [iE];exact Ku p
 | j+1=>by unfold Qw;rw [eJ,<-gT];exact Ye2 (Zg0 p q j) (Ku q)
def dq(q r:List Int)(k:Nat):Int:=cf r (k+q.length-1)/cf q (q.length-1)
def Zlv(q r:List Int)(k:Nat):List Int:=mk r.length λt=>cf r t-if k<=t/\t<k+q.length then dq q r k*cf q (t-k)else 0
def Pd(p q:List Int):Nat->List Int
 | 0=>p
 | j+1=>Zlv q (Pd p q j) (p.length-q.length-j)
theorem Ay(p q:List Int):∀j,(Pd p q j).length=p.length
 | 0=>rfl
 | j+1=>by unfold Pd Zlv;rw [Yp,Ay p q j]
def Ya4(p q:List Int)(k:Nat):Int:=dq q (Pd p q (p.length-q.length-k)) k
def Iy(p q:List Int)(k:Nat):Prop:=cf (Pd p q (p.length-q.length-k)) (k+q.length-1)%cf q (q.length-1)=0
def Yg4(p q:List Int):List Int:=tzl (mk (p.length-q.length+1) (Ya4 p q))
def pdivs(p q:List Int):Prop:=p=[]\/(q.length<=p.length/\(∀k,k<=p.length-q.length->Iy p q k)/\∀i,cf (Pd p q (p.length-q.length+1)) i=0)
theorem Ye4{A:Nat}(d:Sz A r)(g:Sz B q)(e:cf r (k+q.length-1)%cf q (q.length-1)=0):Sz (A+(B+1)) (Zlv q r k):=by
 unfold Zlv;refine Zcf λt m=>?_;split
 .have h:bl (dq q r k).natAbs<=A:=Zbl (mX e) (d _);have j:=Ya (dq q r k) (cf q (t-k));have l:=Cr (cf r t) (dq q r k*cf q (t-k));have:=d t;have:=g (t-k);omega
 .rw [iV];have:=d t;omega
theorem Zg2(p q:List Int):∀j,j<=p.length-q.length+1->(∀k,p.length-q.length<k+j->k<=p.length-q.length->Iy p q k)->Sz (Qx p+j*(Qx q+1)) (Pd p q j)
 | 0,_,_=>by rw [iE];exact Ku p
 | j+1,g,h=>by unfold Pd;rw [eJ,<-gT];refine Ye4 (Zg2 p q j O1 λk e d=>h k O1 d) (Ku q) ?_;have:=h (p.length-q.length-j) O1 O1;unfold Iy at this;rw [show p.length-q.length-(p.length-q.length-j)=j by omega]at this;exact this
theorem Yjj{x y:Bool×ByteArray}(h:eqW x.1 x.2 y.1 y.2=true):x=y:=by obtain⟨d,e⟩:=Zqu.1 h;exact Prod.ext d e
def Yji(a:Bool)(s:ByteArray):eqW a s a s=true:=Zqu.2 ⟨rfl,rfl⟩
theorem Yea(p q:List Int)(i j:Nat):Zaw p q i (j+1) (i+j)=Zaw p q i j (i+j)+cf p i*cf q j:=by unfold Zaw;rw [aK O1,aH O1,fO,show i+j-i=j by omega]
theorem Zfv{p:List Int}(h:p.length=0\/q.length=0):Qn p q=[]:=by
 unfold Qn;refine(Ln _).2 λi=>?_;rw [Nk];split
 .rw [PS.mul_c];refine Fn λk _=>?_;rcases h with h|h
  .rw [Nj,Yr O1,dD]
  .rw [Nj,Nj,Yr (p:=q) O1,eG]
 .rfl
def Zip(R:List Int)(l:Int)(i:Nat):List Int:=mk R.length λt=>if t<i then cf R t*l else cf R t
def Zmq(q R:List Int)(l c:Int)(s i:Nat):List Int:=mk R.length λt=>cf R t*l-if s<=t/\t<s+i then c*cf q (t-s)else 0
def Ztx(R:List Int)(l:Int)(i:Nat):(Zip R l i).length=R.length:=Yp _ _
def Ztw(q R:List Int)(l c:Int)(s i:Nat):(Zmq q R l c s i).length=R.length:=Yp _ _
theorem Ydb(R:List Int)(l:Int):Zip R l 0=R:=by unfold Zip;refine Eq.trans (Gh λi hi=>?_) (Zbd R);rw [aH O1]
theorem Yh1{l:Int}(h:i<R.length):(Zip R l i).getD i 0=cf R i:=by unfold Zip;rw [Zdm h,aH O1]
theorem Yh0{l:Int}(h:i<R.length):(Zip R l i).set i (cf R i*l)=Zip R l (i+1):=by
 unfold Zip;refine Zk9 h (λt g e=>?_) (by rw [aK O1]);by_cases d:t<i
 .rw [aK d,aK O1]
 .rw [aH d,aH O1]
theorem Ycj(q R:List Int)(l c:Int)(s:Nat):Zip R l R.length=Zmq q R l c s 0:=by unfold Zip Zmq;exact Gh λi hi=>by rw [aK hi,aH O1,iV]
theorem Ye8{l c:Int}{s:Nat}(h:s+i<R.length):(Zmq q R l c s i).getD (s+i) 0=cf R (s+i)*l:=by unfold Zmq;rw [Zdm h,aH O1,iV]
theorem Ye7{l c:Int}{s:Nat}(h:s+i<R.length):(Zmq q R l c s i).set (s+i) (cf R (s+i)*l-c*cf q i)=Zmq q R l c s (i+1):=by
 unfold Zmq;refine Zk9 h (λt g e=>?_) (by rw [aK O1,show s+i-s=i by omega]);by_cases d:s<=t/\t<s+i
 .rw [aK d,aK O1]
 .rw [aH d,aH O1]
theorem rest_b{p:List Int}{j:Nat}(g:Qx p+(p.length-q.length+1)*(Qx q+1)<=65536)(h:j<p.length-q.length+1) :
  (∀t,bl (cf (Qw p q j) t).natAbs<=65536)/\(∀t i,bl (cf (Qw p q j) t*cf q i).natAbs<=65536)/\(∀t i t2 i2,bl (cf (Qw p q j) t*cf q i-cf (Qw p q j) t2*cf q i2).natAbs<=65536):=by
 have d:=Zg0 p q j;have e:j*(Qx q+1)+(Qx q+1)<=(p.length-q.length+1)*(Qx q+1):=by rw [<-eJ];exact aN _ O1
 refine⟨λt=>by have:=d t;omega,λt i=>?_,λt i t2 i2=>?_⟩
 .have:=d t;have:=Ku q i;have:=Ya (cf (Qw p q j) t) (cf q i);omega
 .have:=Ybr (d t) (Ku q i) (d t2) (Ku q i2);omega
def Zsd{p:List Int}(d:Qx p+(p.length-q.length+1)*(Qx q+1)<=65536):Sz 65536 (Qw p q (p.length-q.length+1)):=(Zg0 p q _).mono d
theorem Zdp{p:List Int}(h:Co p q=0):q.length≠0/\(q.length<=p.length->Qx p+(p.length-q.length+1)*(Qx q+1)<=65536):=by
 unfold Co at h;split at h
 .omega
 .refine⟨‹_›,λd=>?_⟩;rw [aH O1]at h;split at h
  .omega
  .omega
theorem Zgj{p:List Int}(h:q.length≠0):Yo1 p q=decide (p.length<q.length):=by unfold Yo1;have d:q≠[]:=λe=>h (by rw [e];rfl);simp [d]
def Zmx(q R:List Int)(c:Int)(k i:Nat):List Int:=mk R.length λt=>cf R t-if k<=t/\t<k+i then c*cf q (t-k)else 0
def Zty(q R:List Int)(c:Int)(k i:Nat):(Zmx q R c k i).length=R.length:=Yp _ _
theorem Ydu(q R:List Int)(c:Int)(k:Nat):R=Zmx q R c k 0:=by unfold Zmx;refine Eq.trans (Zbd R).symm (Gh λi hi=>?_);rw [aH O1,iV]
theorem Yjp{c:Int}(h:k+i<R.length):(Zmx q R c k i).getD (k+i) 0=cf R (k+i):=by unfold Zmx;rw [Zdm h,aH O1,iV]
theorem Yjo{c:Int}(h:k+i<R.length):(Zmx q R c k i).set (k+i) (cf R (k+i)-c*cf q i)=Zmx q R c k (i+1):=by
 unfold Zmx;refine Zk9 h (λt g e=>?_) (by rw [aK O1,show k+i-k=i by omega]);by_cases d:k<=t/\t<k+i
 .rw [aK d,aK O1]
 .rw [aH d,aH O1]
def Zhs(p q:List Int)(j:Nat):List Int:=mk (p.length-q.length+1) λt=>if p.length-q.length<t+j then Ya4 p q t else 0
def Zch(p q:List Int)(j:Nat):(Zhs p q j).length=p.length-q.length+1:=Yp _ _
theorem Ydx(p q:List Int):List.replicate (p.length-q.length+1) 0=Zhs p q 0:=by rw [Zwb];unfold Zhs;exact Gh λi hi=>by rw [aH O1]
theorem Yjs{p:List Int}{j:Nat}(g:j<p.length-q.length+1):(Zhs p q j).set (p.length-q.length-j) (dq q (Pd p q j) (p.length-q.length-j))=Zhs p q (j+1):=by
 unfold Zhs;refine Zk9 O1 (λt h e=>?_) ?_
 .by_cases d:p.length-q.length<t+j
  .rw [aK d,aK O1]
  .rw [aH d,aH O1]
 .rw [aK O1];unfold Ya4;rw [show p.length-q.length-(p.length-q.length-j)=j by omega]
theorem Zgi(p q:List Int):tzl (Zhs p q (p.length-q.length+1))=Yg4 p q:=by unfold Zhs Yg4;congr 1;exact Gh λi hi=>by rw [aK O1]
def pdv(p q:List Int):Prop:=p=[]\/(q.length<=p.length/\(∀k,k<=p.length-q.length->Iy p q k)/\tzl (Pd p q (p.length-q.length+1))=[])
instance (p q:List Int) (k:Nat):Decidable (Iy p q k):=by unfold Iy;infer_instance
instance (p q:List Int):Decidable (pdv p q):=by unfold pdv;infer_instance
theorem div_b{p:List Int}{j:Nat}(n:Qx p+(p.length-q.length+1)*(Qx q+1)<=65536)(o:j<p.length-q.length+1)(h:∀k,p.length-q.length<k+j->k<=p.length-q.length->Iy p q k) :
  (∀t,bl (cf (Pd p q j) t).natAbs<=65536)/\(Iy p q (p.length-q.length-j)->bl (dq q (Pd p q j) (p.length-q.length-j)).natAbs<=65536/\(∀i,bl (dq q (Pd p q j) (p.length-q.length-j)*cf q i).natAbs<=65536)/\
   ∀t i,bl (cf (Pd p q j) t-dq q (Pd p q j) (p.length-q.length-j)*cf q i).natAbs<=65536):=by
 have d:=Zg2 p q j O1 h;have l:j*(Qx q+1)+(Qx q+1)<=(p.length-q.length+1)*(Qx q+1):=by rw [<-eJ];exact aN _ O1
 refine⟨λt=>by have:=d t;omega,λe=>?_⟩;unfold Iy at e;rw [show p.length-q.length-(p.length-q.length-j)=j by omega]at e;have m:bl (dq q (Pd p q j) (p.length-q.length-j)).natAbs<=Qx p+j*(Qx q+1):=Zbl (mX e) (d _);have g:∀i,bl (dq q (Pd p q j) (p.length-q.length-j)*cf q i).natAbs<=Qx p+j*(Qx q+1)+Qx q:=λi=>by have:=Ya (dq q (Pd p q j) (p.length-q.length-j)) (cf q i);have:=Ku q i;omega
 refine⟨O1,λi=>by have:=g i;omega,λt i=>?_⟩;have:=Cr (cf (Pd p q j) t) (dq q (Pd p q j) (p.length-q.length-j)*cf q i);have:=g i;have:=d t;omega
theorem Zym{p:List Int}(g:Qx p+(p.length-q.length+1)*(Qx q+1)<=65536)(e:∀k,k<=p.length-q.length->Iy p q k){j:Nat}:Sz 65536 (Zhs p q j):=by
 unfold Zhs;refine Zcf λt l=>?_;split
 .have d:=(div_b g (j:=p.length-q.length-t) O1 (λk _ h=>e k h)).2;rw [show p.length-q.length-(p.length-q.length-t)=t by omega]at d;exact(d (e t O1)).1
 .simp [Km]
def Ye5{p:List Int}(d:Qx p+(p.length-q.length+1)*(Qx q+1)<=65536)(g:∀k,k<=p.length-q.length->Iy p q k):Sz 65536 (Pd p q (p.length-q.length+1)):=
 (Zg2 p q _ (aI _) λk _ e=>g k e).mono d
def Lc(p:List Int)(a b d:Int):Nat->List Int
 | 0=>[cf p (p.length-1)]
 | j+1=>mk ((Lc p a b d j).length+1) λt=>cf (Lc p a b d j) t*a+(if t=0 then cf p (p.length-2-j)*d^(j+1)else cf (Lc p a b d j) (t-1)*b)
def Da(p:List Int)(a b d:Int):Lc p a b d 0=[cf p (p.length-1)]:=rfl
def Yd3(p:List Int)(a b d:Int)(j:Nat):Lc p a b d (j+1)=mk ((Lc p a b d j).length+1) (λt=>cf (Lc p a b d j) t*a+(if t=0 then cf p (p.length-2-j)*d^(j+1)else cf (Lc p a b d j) (t-1)*b)):=rfl
theorem Zci(p:List Int)(a b d:Int):∀j,(Lc p a b d j).length=j+1
 | 0=>rfl
 | j+1=>by unfold Lc;rw [Yp,Zci p a b d j]
def Kt(p:List Int)(a b d:Int):List Int:=if p.length=0 then []else tzl (Lc p a b d (p.length-1))
def Zl0(p:List Int)(a b d:Int):Prop:=p≠[]/\65536<Qx p+(p.length-1)*(Qx [a,b,d]+1)+8
instance (p:List Int) (a b d:Int):Decidable (Zl0 p a b d):=by unfold Zl0;infer_instance
def Ks(p q:List Int):List Int:=if p=[]then []else Yg4 p q
def Zs7{p:List Int}(h:p≠[]):Ks p q=Yg4 p q:=aH h
theorem Zum{p:List Int}{j:Nat}(d:j<=p.length-q.length):Iy p q (p.length-q.length-j)↔cf (Pd p q j) (p.length-q.length-j+q.length-1)%cf q (q.length-1)=0:=by unfold Iy;rw [show p.length-q.length-(p.length-q.length-j)=j by omega]
def Zu4{x y:Int}(e:y≠0)(d:bl y.natAbs<=65536):Zat (x%y)=x%y:=Ik (aB (Ybt x y e) d)
def cnx(c:List Int)(a b:Int)(i:Nat):List Int:=mk (c.length+1) λt=>if t<i then cf c t*a+(if t=0 then 0 else cf c (t-1)*b)else if t=i/\0<i then cf c (t-1)*b else 0
def Hh(c:List Int)(a b:Int)(i:Nat):(cnx c a b i).length=c.length+1:=Yp _ _
theorem Yki(c:List Int)(a b:Int):List.replicate (c.length+1) 0=cnx c a b 0:=by rw [Zwb];unfold cnx;exact Gh λi hi=>by rw [aH O1,aH O1]
theorem Ybe(h:i<c.length):(cnx c a b i).getD i 0=if i=0 then 0 else cf c (i-1)*b:=by
 unfold cnx;rw [Zdm O1,aH O1];by_cases d:i=0
 .rw [aH O1,aK d]
 .rw [aK O1,aH d]
theorem Ypb(h:i<c.length):((cnx c a b i).set i ((cnx c a b i).getD i 0+cf c i*a)).set (i+1) (cf c i*b)=cnx c a b (i+1):=Kv (by simp [Hh]) λt g=>by
 rw [aT,aT,Hh]at g;rw [Zl8 (by rw [aT,Hh];omega),Zl8 (by rw [Hh];omega),Ybe h];unfold cnx;rw [Nk,Nk,aK g,aK g];by_cases d:t=i+1
 .subst d;rw [aK rfl,aH O1,aK O1,show i+1-1=i by omega]
 .rw [aH d];by_cases e:t=i
  .subst e;rw [aK rfl,aK (mY t)];split<;>omega
  .rw [aH e];by_cases j:t<i
   .simp [j,show t<i+1 by omega]
   .simp [j,e,d,show ¬t<i+1 by omega]
theorem Zu1(h:0<c.length):(cnx c a b c.length).getD 0 0=cf c 0*a:=by unfold cnx;rw [Zdm O1,aK h,aK rfl,fO]
theorem Ypc{w:Int}(h:0<c.length):(cnx c a b c.length).set 0 ((cnx c a b c.length).getD 0 0+w)=mk (c.length+1) λt=>cf c t*a+(if t=0 then w else cf c (t-1)*b):=Kv (by simp [Hh,Yp]) λt e=>by
 rw [aT,Hh]at e;rw [Zl8 (by rw [Hh];omega),Zu1 h,Nk,aK e];unfold cnx;rw [Nk,aK e];by_cases d:t=0
 .rw [aK d,aK d,d]
 .rw [aH d,aH d,aH d];by_cases g:t<c.length
  .rw [aK g]
  .rw [aH g,aK (show t=c.length/\0<c.length by omega),Yr (i:=t) O1];omega
theorem Zi2{p:List Int}{x y z:Int}{A m:Nat}(d:Sz A p)(l:bl x.natAbs<=m)(v:bl y.natAbs<=m)(n:bl z.natAbs<=m):∀j,Sz (A+j*(m+1)) (Lc p x y z j)
 | 0=>Sz.of_mem λw g=>by have g:w∈[cf p (p.length-1)]:=g;rw [bN.1 g];have:=d (p.length-1);omega
 | j+1=>by
  have o:=Zi2 d l v n j;unfold Lc;refine Zcf λt G=>?_;have D:=Ya (cf (Lc p x y z j) t) x;have F:=o t;have e:(j+1)*(m+1)=j*(m+1)+m+1:=by rw [eJ];omega
  split
  .have h:=Zjt 0 (j+1) (d (p.length-2-j)) l n;rw [cT,fS]at h;have s:(0+(j+1))*m<=j*(m+1)+m:=by rw [cD,eJ];have:j*m<=j*(m+1):=bL _ O1;omega
   have u:=Lx (cf (Lc p x y z j) t*x) (cf p (p.length-2-j)*z^(j+1));omega
  .have h:=Ya (cf (Lc p x y z j) (t-1)) y;have s:=o (t-1);have u:=Lx (cf (Lc p x y z j) t*x) (cf (Lc p x y z j) (t-1)*y);omega
section
variable {p:List Int} {x y z:Int} (hF:Qx p+(p.length-1)*(Qx [x,y,z]+1)+8<=65536) {j:Nat} (hj:j<p.length-1)
include hF hj
theorem cp_all:bl (z^j).natAbs<=65536/\bl (z^(j+1)).natAbs<=65536/\(∀t,bl (cf (Lc p x y z j) t).natAbs<=65536)/\(∀t,bl (cf (Lc p x y z j) t*x).natAbs<=65536)/\(∀t,bl (cf (Lc p x y z j) t*y).natAbs<=65536)/\
  (∀t,bl ((if t=0 then 0 else cf (Lc p x y z j) (t-1)*y)).natAbs<=65536)/\(∀t,bl ((if t=0 then 0 else cf (Lc p x y z j) (t-1)*y)+cf (Lc p x y z j) t*x).natAbs<=65536)/\
  bl (cf p (p.length-2-j)*z^(j+1)).natAbs<=65536/\bl (cf (Lc p x y z j) 0*x+cf p (p.length-2-j)*z^(j+1)).natAbs<=65536:=by
 have v:bl x.natAbs<=Qx [x,y,z]:=by simp only [Qx];omega
 have F:bl y.natAbs<=Qx [x,y,z]:=by simp only [Qx];omega
 have d:bl z.natAbs<=Qx [x,y,z]:=by simp only [Qx];omega
 have l:=Zi2 (Ku p) v F d j;generalize Qx [x,y,z]=m at *;have e:j*(m+1)+(m+1)<=(p.length-1)*(m+1):=by rw [<-eJ];exact aN _ O1
 have D:j*m<=j*(m+1):=bL _ O1;have w:=Zjt 0 (j+1) (Ku p (p.length-2-j)) v d;rw [cT,fS,cD,eJ]at w;have o:=Dm z d (j+1) O1;rw [eJ]at o;have n:bl (z^j).natAbs<=65536:=by
  rcases aS j with h|h
  .rw [h,cT];decide
  .have:=Dm z d j h;omega
 have g:∀t,bl (cf (Lc p x y z j) t*x).natAbs<=Qx p+j*(m+1)+m:=λt=>by have:=Ya (cf (Lc p x y z j) t) x;have:=l t;omega
 have s:∀t,bl (cf (Lc p x y z j) t*y).natAbs<=Qx p+j*(m+1)+m:=λt=>by have:=Ya (cf (Lc p x y z j) t) y;have:=l t;omega
 have u:∀t,bl ((if t=0 then 0 else cf (Lc p x y z j) (t-1)*y)).natAbs<=Qx p+j*(m+1)+m:=λt=>by
  split
  .simp [Km]
  .exact s _
 refine⟨n,O1,λt=>by have:=l t;omega,λt=>by have:=g t;omega,λt=>by have:=s t;omega,λt=>by have:=u t;omega,λt=>?_,O1,?_⟩
 .have:=Lx (if t=0 then 0 else cf (Lc p x y z j) (t-1)*y) (cf (Lc p x y z j) t*x);have:=g t;have:=u t;omega
 .have:=Lx (cf (Lc p x y z j) 0*x) (cf p (p.length-2-j)*z^(j+1));have:=g 0;omega
end
theorem Yo8{p:List Int}{x y z:Int}(hF:Qx p+(p.length-1)*(Qx [x,y,z]+1)+8<=65536):Sz 65536 (Lc p x y z (p.length-1)):=by
 have d:bl x.natAbs<=Qx [x,y,z]:=by simp only [Qx];omega
 have e:bl y.natAbs<=Qx [x,y,z]:=by simp only [Qx];omega
 have g:bl z.natAbs<=Qx [x,y,z]:=by simp only [Qx];omega
 exact(Zi2 (Ku p) d e g _).mono O1
theorem Ziq(p q:List Int):(Qk p q).length<=p.length:=by
 unfold Qk;split
 .exact aI _
 .have:=Ko (Qw p q (p.length-q.length+1));rw [Le]at this;exact this
theorem Zb2{p:List Int}(d:Vp p)(e:Co p q=0):Vp (Qk p q):=by
 have g:=Ziq p q;refine⟨?_,?_,by have:=d.len;omega⟩
 .unfold Qk;split
  .exact d.sz
  .exact(Zsd ((Zdp e).2 O1)).tzl
 .unfold Qk;split
  .exact d.tr
  .exact Qo _
def Zn5(p q:List Int):Prop:=p.length≠0/\q.length≠0/\65536<(max p.length q.length+2)*(max p.length q.length+2)*(max (Qx p) (Qx q)+8)
instance (p q:List Int):Decidable (Zn5 p q):=by unfold Zn5;infer_instance
def gA(p q:List Int):List Int:=if p.length<q.length then Zx q else Zx p
def gB(p q:List Int):List Int:=if p.length<q.length then Zx p else Zx q
def eok:Nat->List Int->List Int->Prop
 | 0,_,b=>b=[]
 | f+1,a,b=>b=[]\/(Co a b=0/\eok f b (Zx (Qk a b)))
def eu:Nat->List Int->List Int->List Int
 | 0,a,_=>a
 | f+1,a,b=>if b=[]then a else eu f b (Zx (Qk a b))
theorem Yjk{f:Nat}{a b:List Int}(h:eok f a b)(d:b≠[]):∃g,f=g+1/\Co a b=0/\eok g b (Zx (Qk a b))/\eu f a b=eu g b (Zx (Qk a b)):=by
 cases f with
 | zero=>exact absurd h d
 | succ g=>
  rcases h with h|h
  .exact absurd h d
  .exact⟨g,rfl,h.1,h.2,by show(if b=[]then a else _)=_;rw [aH d]⟩
theorem Zhp(f:Nat)(a:List Int):eu f a []=a:=by cases f<;>rfl
def Hi(g:List Int):List Int:=if g.length≠0/\cf g (g.length-1)<0 then Zm g (-1)else g
def Mg(f:Nat)(p q:List Int):List Int:=Hi (eu f (gA p q) (gB p q))
theorem vp_gA{p:List Int}(d:Vp p)(e:Vp q):Vp (gA p q):=by unfold gA;split<;>exact Im ‹_›
theorem vp_gB{p:List Int}(d:Vp p)(e:Vp q):Vp (gB p q):=by unfold gB;split<;>exact Im ‹_›
theorem Zbq{p:List Int}(h:Sz 65536 p)(i:Nat):bl (cf p i * -1).natAbs<=65536:=by rw [lF,gD,eI];exact h i
theorem sign_neg_iff(z:Int):z.sign<0↔z<0:=by
 rcases jY z 0 with h|h|h
 .rw [fJ h];omega
 .subst h;simp
 .rw [gK h];omega
end Go.Sky
namespace Go.Sky
variable{b k c:Nat}{xs ys:List Nat}{p:Nat->Prop}
theorem Zi1{l:List Int}(h:∀x∈l,Oc x):Sz 65536 l:=Sz.of_mem λx a=>by obtain⟨d,e⟩:=h x a;have:bl x.natAbs<=64:=(Qi 64 _).2 O1;omega
open Go.RowKit Below
set_option maxRecDepth 20000
def Pe:2<=1000000000:=O3
def Ic:0<1000000000:=O3
abbrev Oq (v:Value) (x:Nat):Pc:=Yw 1 Hb v (dg 1000000000 x)
theorem Ii(x:Nat):(dg 1000000000 x).length<=bl x:=by rw [Xo Pe];exact dI (Dl x) (gM O3 _)
theorem Zyg(a:2<=b){o:List Nat}(f:∀d∈o,d<b){x:Nat}(g:Yj b o=x)(h:o.length=0\/b^(o.length-1)<=x):o=dg b x:=by
 rw [<-g,Ky a o f];have j:(tz o).length<=o.length:=(Ct o).1;have i:o.length<=(tz o).length:=by
  rw [<-Ky a o f,g];rcases h with h|h
  .omega
  .have:=(Oz a (o.length-1) x).2 h;omega
 have e:=(Ct o).2;rw [cE i]at e;exact e
theorem Yc5{o:List Nat}(a:o.length=k)(h:Yj b o+c*b^k=Yj b (xs.take k)+Yj b (ys.take k)) :
  Yj b (o ++ [(c+xs.getD k 0+ys.getD k 0)%b])+(c+xs.getD k 0+ys.getD k 0)/b*b^(k+1)=Yj b (xs.take (k+1))+Yj b (ys.take (k+1)):=by
 rw [Nl,Qc,Qc,a];have e:=cJ (c+xs.getD k 0+ys.getD k 0) b;generalize (c+xs.getD k 0+ys.getD k 0)/b=q at *;generalize (c+xs.getD k 0+ys.getD k 0)%b=r at *;simp only [Yj,cC];generalize b^k=B at *;have:(b*q+r)*B=(c+xs.getD k 0+ys.getD k 0)*B:=by rw [e]
 grind
def d9s(a b c:Nat):Nat:=if a<b+c then a+1000000000-(b+c)else a-(b+c)
theorem Ya8{a:Nat}(d:a<1000000000)(e:b<1000000000)(f:c<=1):d9s a b c<1000000000/\d9s a b c+(b+c)=a+brw a b c*1000000000:=by unfold d9s brw;split<;>omega
theorem Zwr{o:List Nat}(a:c<=1)(f:xs.getD k 0<1000000000)(g:ys.getD k 0<1000000000)(d:o.length=k)(h:Yj 1000000000 o+Yj 1000000000 (ys.take k)=Yj 1000000000 (xs.take k)+c*1000000000^k) :
  Yj 1000000000 (o ++ [d9s (xs.getD k 0) (ys.getD k 0) c])+Yj 1000000000 (ys.take (k+1))=Yj 1000000000 (xs.take (k+1))+brw (xs.getD k 0) (ys.getD k 0) c*1000000000^(k+1):=by
 rw [Nl,Qc,Qc,d];have e:=(Ya8 f g a).2;generalize d9s (xs.getD k 0) (ys.getD k 0) c=r at *;generalize brw (xs.getD k 0) (ys.getD k 0) c=q at *;simp only [Yj,cC];generalize 1000000000^k=B at *;have:(r+(ys.getD k 0+c))*B=(xs.getD k 0+q*1000000000)*B:=by rw [e]
 grind
theorem Zml{o:List Nat}(h:∀d∈o,p d){x:Nat}(f:p x):∀d∈o ++ [x],p d:=λd e=>by
 rcases cQ.1 e with a|a
 .exact h d a
 .rw [bN.1 a];exact f
def Zak{x:Nat}(a:2<=b)(h:k<(dg b x).length):b^k<=x:=(Oz a k x).1 h
theorem Fb{x:Nat}(a:2<=b)(h:(dg b x).length<=k):Yj b ((dg b x).take k)=x:=by rw [Nu _ _ h,Mb a]
theorem Zsa{a o:Nat}(d:a<1000000000)(e:b<1000000000)(g:o<1000000000)(f:c<1000000000):(o+c+a*b)/1000000000<1000000000/\o+c+a*b<=9223372036854775807:=by have h:a*b<=999999999*999999999:=bA O1 O1;refine⟨?_,O1⟩;rw [cF Ic];omega
theorem Zvs{o:List Nat}{i V:Nat}(h:Yj 1000000000 o+c*1000000000^(i+k)=V+xs.getD i 0*1000000000^i*Yj 1000000000 (ys.take k))(d:i+k<o.length) :
  Yj 1000000000 (o.set (i+k) ((o.getD (i+k) 0+c+xs.getD i 0*ys.getD k 0)%1000000000))+(o.getD (i+k) 0+c+xs.getD i 0*ys.getD k 0)/1000000000*1000000000^(i+(k+1))=V+xs.getD i 0*1000000000^i*Yj 1000000000 (ys.take (k+1)):=by
 have a:=Ziz 1000000000 o o.length (i+k) ((o.getD (i+k) 0+c+xs.getD i 0*ys.getD k 0)%1000000000) d d;rw [cE (by rw [aT];exact aI _),cE (aI _)]at a;rw [Qc];have e:=cJ (o.getD (i+k) 0+c+xs.getD i 0*ys.getD k 0) 1000000000;generalize (o.getD (i+k) 0+c+xs.getD i 0*ys.getD k 0)/1000000000=q at *;generalize (o.getD (i+k) 0+c+xs.getD i 0*ys.getD k 0)%1000000000=r at *;generalize Yj 1000000000 (o.set (i+k) r)=W at *;rw [show i+(k+1)=(i+k)+1 by omega,cC];have f:1000000000^(i+k)=1000000000^i*1000000000^k:=bX _ _ _;rw [f]at h a ⊢;generalize 1000000000^i=A at *;generalize 1000000000^k=B at *;have g:(1000000000*q+r)*(A*B)=(o.getD (i+k) 0+c+xs.getD i 0*ys.getD k 0)*(A*B):=by rw [e]
 simp only [bK]at g;have t1:q*(A*B*1000000000)=1000000000*q*(A*B):=O5;have t2:xs.getD i 0*A*(Yj 1000000000 (ys.take k)+ys.getD k 0*B)=xs.getD i 0*A*Yj 1000000000 (ys.take k)+xs.getD i 0*ys.getD k 0*(A*B):=O5;rw [t1,t2];omega
def Ziw(x y:Nat):Int:=if x<y then -1 else if y<x then 1 else 0
section
variable {P:Program} {N:Nat} {sc:Nat->Prop} {env env':Qy} {H H':Hp} {Q Q':Exit->Act->World->Prop} {M:Nat->Prop}
variable {o:Oper} {t t':TypeId} {x y:Operand} {m n:Nat}
theorem Zf5(a:o.op= .binOp .add t x y t')(d:ev env x=some (.int .i64 (m:Int)))(e:ev env y=some (.int .i64 (n:Int)))(h:m+n<=9223372036854775807):Mt P N sc o env H (.int .i64 ((m+n:Nat):Int)):=by have:=Yj5 (P:=P) (N:=N) (sc:=sc) (H:=H) a d e ;rwa [<-kJ]at this
theorem n_mul(a:o.op= .binOp .mul t x y t')(d:ev env x=some (.int .i64 (m:Int)))(e:ev env y=some (.int .i64 (n:Int)))(h:m*n<=9223372036854775807):Mt P N sc o env H (.int .i64 ((m*n:Nat):Int)):=by have:=d_mul (P:=P) (N:=N) (sc:=sc) (H:=H) a d e (by rw [<-fL];exact⟨O1,O1⟩);rwa [<-fL]at this
theorem Zk5(a:o.op= .binOp .quo t x y t')(d:ev env x=some (.int .i64 (m:Int)))(e:ev env y=some (.int .i64 (n:Int)))(h:m<=9223372036854775807)(f:0<n):Mt P N sc o env H (.int .i64 ((m/n:Nat):Int)):=by have:=Zd2 (P:=P) (N:=N) (sc:=sc) (H:=H) a d e   ;rwa [<-Int.natCast_ediv]at this
theorem Zto(a:o.op= .binOp .rem t x y t')(d:ev env x=some (.int .i64 (m:Int)))(e:ev env y=some (.int .i64 (n:Int)))(f:0<n):Mt P N sc o env H (.int .i64 ((m%n:Nat):Int)):=by have:=Zly (P:=P) (N:=N) (sc:=sc) (H:=H) a d e  ;rwa [<-Int.natCast_emod]at this
end
end Go.Sky
namespace Go.Sky
variable{b a r k:Nat}{q:List Nat}
theorem Zcp{l:List Nat}{i:Nat}(h:l.length<=i):l.getD i 0=0:=by simp [List.getD,bF h]
theorem Zul{x y:Nat}(d:2<=b)(h:x<=y):(dg b x).length<=(dg b y).length:=by
 rcases bC (dg b y).length (dg b x).length with c|c
 .have:=Zar d c;omega
 .exact c
theorem Yjv{n:Nat}(c:2<=b)(h:n<b)(d:n≠0):dg b n=[n]:=by rw [Zbm c O1,aU h,dA h,Ga]
theorem Yl1(c:2<=b)(f:a<b):tz (a::dg b r)=dg b (r*b+a):=by
 have h:∀d∈a::dg b r,d<b:=λd e=>by
  rcases bB.1 e with rfl|e
  .exact f
  .exact Nd c r d e
 rw [<-Ky c _ h];congr 1;simp only [Yj,Mb c];rw [aQ];omega
theorem Zu3 : Ziw a b<0↔a<b:=by unfold Ziw;split<;>(try split)<;>omega
theorem Ybf : Ziw a b<=0↔a<=b:=by unfold Ziw;split<;>(try split)<;>omega
theorem Ybg : 0<=Ziw a b↔b<=a:=by unfold Ziw;split<;>(try split)<;>omega
theorem Zwk{x:Nat}(c:0<k):x/1000000000^k*1000000000+x/1000000000^(k-1)%1000000000=x/1000000000^(k-1):=by
 have h:x/1000000000^k=x/1000000000^(k-1)/1000000000:=by rw [aY,<-cC,show(k-1).succ=k by omega]
 rw [h,aQ];exact cJ _ _
theorem over_Q{y:Nat}(c:r<y)(d:a<1000000000):(r*1000000000+a)/y<1000000000:=by rw [cF O1];have:(r+1)*1000000000<=y*1000000000:=aN _ c;rw [aQ 1000000000];omega
theorem bl_m30{y m:Nat}(h:bl m<=30):bl (y*m)<=bl y+30:=by have:=Zmc y m;omega
theorem Yp1{y:Nat}(f:r<y)(g:a<1000000000):bl (r*1000000000+a)<=bl y+30:=by
 have c:r*1000000000+a<y*1000000000:=by have:(r+1)*1000000000<=y*1000000000:=aN _ f;omega
 have d:=Pr (eK c);have e:=bl_m30 (y:=y) (m:=1000000000) ((Qi 30 _).2 O1);exact aB d e
theorem Ykw{y n:Nat}(e:n<1000000000):bl (y*n)<=bl y+30:=by have c:=Zmc y n;have d:bl n<=30:=(Qi 30 _).2 O1;omega
theorem Zgf{d:Nat}(c:0<k)(h:k<=q.length):Yj 1000000000 ((q.set (k-1) d).drop (k-1))=d+1000000000*Yj 1000000000 (q.drop k):=by rw [drop_set O1,show k-1+1=k by omega];rfl
theorem Ydv(d:0<k)(h:k<=q.length)(c:q.getD (k-1) 0=0):Yj 1000000000 (q.drop (k-1))=1000000000*Yj 1000000000 (q.drop k):=by rw [Zco 0 q (k-1) O1,c,show k-1+1=k by omega];simp [Yj]
theorem Zr9{m:Nat}(h:m<9223372036854775809):tz [m%1000000000,m/1000000000%1000000000,m/1000000000/1000000000]=dg 1000000000 m:=by rw [<-Ky Pe [m%1000000000,m/1000000000%1000000000,m/1000000000/1000000000] (by intro d c;simp at c;omega)];congr 1;simp only [Yj];omega
theorem sign9{x:Int}(h:(((dg 1000000000 x.natAbs).length:Nat):Int)=0):Value.int .i64 x.sign= .int .i64 0:=by have c:=(Pv Pe x.natAbs).1 O1;have:x=0:=O1;subst this;rfl
theorem Zlh{x:Nat}(h:¬(((dg 1000000000 x).length:Nat):Int)=0):0<x:=by
 rcases aS x with c|c
 .subst c;simp [Ga]at h
 .exact c
theorem Yh9{s:Bool}{n:Nat}{z:Int}(c:n=z.natAbs)(hs:sg s z):(s && decide (0<n))=decide (z<0):=by
 subst c;cases s
 .have:=hs.2 rfl;rw [Bool.false_and,aE O1]
 .have:=hs.1 rfl;rw [mR,bR];omega
theorem Zt1(n:Nat):decide ((0:Int)<(((dg 1000000000 n).length:Nat):Int))=decide (0<n):=by rw [bR];have:=Pv Pe n;omega
theorem Yp4{a b:Bool}(h:(a == b)=true):a=b:=by simpa using h
theorem Yl7{x y:Int}(c:y≠0):(x-x.tdiv y*y=x.tmod y):=by have:=jT x y;have e:x.tdiv y*y=y*x.tdiv y:=dB _ _;omega
def Zj7(x y:Int):x.natAbs/y.natAbs=(x.tdiv y).natAbs:=(nP x y).symm
theorem Ymm(x y:Int):sg (decide (x<0) != decide (y<0)) (x.tdiv y):=by
 have e:∀a b:Int,0<=a->0<=b->0<=a.tdiv b:=λa b i j=>Int.tdiv_nonneg i j;rcases iG x 0 with h|h<;>rcases iG y 0 with d|d
 .have c:=e (-x) (-y) O1 O1;rw [pA,Int.tdiv_neg]at c;simp only [sg,h,d,decide_true,bne_self_eq_false];exact⟨λh=>Bool.noConfusion h,λ_=>O1⟩
 .have c:=e (-x) y O1 d;rw [pA]at c;have:¬y<0:=O1;simp [sg,h,this];omega
 .have c:=e x (-y) h O1;rw [Int.tdiv_neg]at c;have:¬x<0:=O1;simp [sg,d,this];omega
 .have c:=e x y h d;have f:¬x<0:=O1;have g:¬y<0:=O1;simp [sg,f,g];exact c
theorem Zj6(x:Int){y:Int}(c:y≠0):(x.tmod y).natAbs<y.natAbs:=by rw [Int.natAbs_tmod];exact bP _ O1
theorem Yna{x y:Int}(f:0<y)(h:x.tmod y<0):x/y=x.tdiv y-1/\x%y=x-(x.tdiv y-1)*y:=by
 have c:=Zj6 x (show y≠0 by omega);have d:=jT x y;have e:(x.tdiv y-1)*y=y*x.tdiv y-y:=by rw [Int.sub_mul,dB];omega
 have:=Zdo (x:=x) (y:=y) (q:=x.tdiv y-1) (r:=x-(x.tdiv y-1)*y) O1 (by rw [dB y];omega) O1 O1;exact this
theorem Ynb{x y:Int}(f:y<0)(h:x.tmod y<0):x/y=x.tdiv y+1/\x%y=x-(x.tdiv y+1)*y:=by
 have c:=Zj6 x (show y≠0 by omega);have d:=jT x y;have e:(x.tdiv y+1)*y=y*x.tdiv y+y:=by rw [mL,dB];omega
 have:=Zdo (x:=x) (y:=y) (q:=x.tdiv y+1) (r:=x-(x.tdiv y+1)*y) O1 (by rw [dB y];omega) O1 O1;exact this
theorem Ygw{x y:Int}(c:y≠0)(h:¬x.tmod y<0):x/y=x.tdiv y/\x%y=x.tmod y:=by have d:=Zj6 x c;have e:=jT x y;exact Zdo c O1 O1 O1
theorem Yp0(x y:Int):bl (x.tdiv y).natAbs<=bl x.natAbs:=by rw [nP];exact Pr (fM _ _)
theorem Zxv(x y:Int):bl (x.tdiv y*y).natAbs<=bl x.natAbs:=by rw [cL,nP];exact Pr (oG _ _)
section
variable {P:Program} {N:Nat} {sc:Nat->Prop} {env env':Qy} {H H':Hp} {Q Q':Exit->Act->World->Prop} {M:Nat->Prop}
variable {o:Oper} {t t':TypeId} {x y:Operand} {m n:Nat}
theorem Zwp(e:o.op= .binOp .quo t x y t')(g:ev env x=some (.int .i64 (-(m:Int))))(i:ev env y=some (.int .i64 (n:Int)))(h:m<=9223372036854775808)(d:1<n):Mt P N sc o env H (.int .i64 (-((m/n:Nat):Int))):=Fh e g i λw=>by
 have c:(-(m:Int)).tdiv (n:Int)=-((m/n:Nat):Int):=by rw [pA,Int.ofNat_tdiv]
 have j:m/n<=9223372036854775807:=by have:=oF (show 2<=n from d) (by omega:0<2) (a:=m);omega
 generalize m/n=q at *;have f:Oc (-(q:Int)):=⟨O1,O1⟩;simp [binOp,Op.intDiv,c,Zaz f];omega
theorem Yhq(d:o.op= .binOp .rem t x y t')(e:ev env x=some (.int .i64 (-(m:Int))))(f:ev env y=some (.int .i64 (n:Int)))(g:0<n):Mt P N sc o env H (.int .i64 (-((m%n:Nat):Int))):=Fh d e f λw=>by
 have c:(-(m:Int)).tmod (n:Int)=-((m%n:Nat):Int):=by rw [Int.neg_tmod,Int.ofNat_tmod]
 simp [binOp,Op.intDiv,c];omega
theorem Yhu(c:o.op= .unOp .neg t x)(e:ev env x=some (.int .i64 (-(m:Int))))(h:m<=9223372036854775807):Mt P N sc o env H (.int .i64 (m:Int)):=λa w hs=>by have d:Oc (m:Int):=⟨O1,O1⟩;simp [execOp,c,hs.ev e,Op.unary,Op.intArith,Zaz d]
end
end Go.Sky
namespace Go.Sky
variable{p:Pc}{k m i:Nat}{r:List Pc}{bs ts ks:List Nat}{x y:Operand}{v z u:Value}{ops:Array Oper}{listed:Array Bool}{zs:List (Int×SL)}{o:Oper}{t:TypeId}{w0:World}{M0:Nat->Prop}
theorem Yl4{p xs:List Nat}{r:Nat}(b:0<k)(c:k<=p.length)(d:k<=xs.length)(a:Yj 1000000000 (p.drop k)*256+r=Yj 1000000000 (xs.drop k)) :
  Yj 1000000000 ((p.set (k-1) ((r*1000000000+xs.getD (k-1) 0)/256)).drop (k-1))*256+(r*1000000000+xs.getD (k-1) 0)%256=Yj 1000000000 (xs.drop (k-1)):=by
 rw [Zgf b c,Zco 0 xs (k-1) O1,show k-1+1=k by omega];simp only [Yj];have e:=cJ (r*1000000000+xs.getD (k-1) 0) 256;generalize (r*1000000000+xs.getD (k-1) 0)/256=q at *;generalize (r*1000000000+xs.getD (k-1) 0)%256=s at *;generalize Yj 1000000000 (p.drop k)=A at *;generalize Yj 1000000000 (xs.drop k)=B at *;rw [<-a,bK,gU,cZ 1000000000 A 256];generalize 1000000000*(A*256)=Z;clear a;omega
theorem Yet{r a:Nat}(d:r<256)(c:a<1000000000):(r*1000000000+a)/256<1000000000:=by
 have h:r*1000000000+a<256*1000000000:=by have b:r*1000000000<=255*1000000000:=aN _ O1;omega
 exact iS h
theorem Yl5{n:Nat}(a:Yj 256 bs+256^bs.length*m=n):Yj 256 (bs ++ [m%256])+256^(bs ++ [m%256]).length*(m/256)=n:=by rw [Nl,aW];simp only [Yj,eA,lK,cC,cD,iT,eH,gR,jF];have e:=cJ m 256;generalize m/256=q at *;generalize m%256=s at *;rw [<-a,<-e];generalize 256^bs.length=P at *;grind
theorem to_ge{n:Nat}(b:Yj 256 bs+256^bs.length*m=n)(a:0<m):256^bs.length<=n:=by have:=eN (256^bs.length) a;omega
theorem to_len{n:Nat}(h:256^bs.length<=n):bs.length<=bl n:=by have a:=Zak (b:=256) (x:=n) (k:=bs.length) O1 ((Oz O1 _ _).2 h);have c:=(Oz (by omega:2<=256) bs.length n).2 h;have d:=Zli n;omega
theorem Yjr(a:0<k)(h:k<=bs.length):(bs.drop k).reverse ++ [bs.getD (k-1) 0]=(bs.drop (k-1)).reverse:=by rw [Zco 0 bs (k-1) O1,show k-1+1=k by omega];simp
theorem Ypv{n:Nat}(h:bs=dg 256 n):(⟨((bs.drop 0).reverse.map UInt8.ofNat).toArray⟩:ByteArray)=Qe n:=by rw [h,iK];rfl
def Zs4(a b:Int):Prop:=65536<bl a.natAbs\/65536<bl b.natAbs
instance (a b:Int):Decidable (Zs4 a b):=by unfold Zs4;infer_instance
def qn(a b:Int):Int:=if Zs4 a b then 0 else a
def qd(a b:Int):Int:=if Zs4 a b then 0 else b
def qe(a b:Int):Int:=if Zs4 a b then 7 else 0
def Yn4{x y:Int}(h:y<0):Xs x y=-(Int.gcd x y:Int):=aK h
def Zz9{x y:Int}(h:¬y<0):Xs x y=(Int.gcd x y:Int):=aH h
def Zgp(x y:Int):bl ((Int.gcd x y:Int)).natAbs<=max (bl x.natAbs) (bl y.natAbs):=Zmd _ _
open Go.RowKit Below
variable {P:Program} {N:Nat} {sc:Nat->Prop} {env env':Qy} {H H':Hp} {Q Q':Exit->Act->World->Prop} {M:Nat->Prop}
abbrev Zxc (w:Bool×ByteArray):Value:= .agg #[.bool w.1,.string w.2]
abbrev Zbk (z:Int×SL):Value:= .agg #[.bool (decide (z.1<0)),Xx z.2]
abbrev Ij {α:Type} (z:SL×α):Value:=Xx z.1
abbrev qI (z:Int×SL):Pc:=Oq (Xx z.2) z.1.natAbs
abbrev pp (v:Value) (zs:List (Int×SL)):Pc:=Xp 2 Zbk qI v zs
abbrev Xt (zs:List (Int×SL)):List Int:=zs.map Prod.fst
abbrev I0:Int×SL:=(0,none,0,0)
def Lf(zs:List (Int×SL)):(Xt zs).length=zs.length:=O8
theorem Gp(zs:List (Int×SL))(i:Nat):(zs.getD i I0).1=cf (Xt zs) i:=by simp only [cf,List.getD,Xt,dW];cases zs[i]?<;>rfl
theorem Zs6{β:Type}{enc:β->Value}{q:β->Pc}{zs:List β}{al:Bool}{z:β}(i:Nat)(hi:lk H i=some (Xp k enc q v zs))(a:Nat.beq i 0=false)(c:z∈zs)(h:PreOk H al r):PreOk H al (q z::r):=
 ⟨⟨i,_,λe=>by subst e;simp at a,hi,λw h=>h.2 z c,λb d=> .inr ⟨z,c,d⟩,λ_=>rfl⟩,h⟩
theorem Ycu{β:Type}{enc:β->Value}{q:β->Pc}{zs:List β}(i j n:Nat)(hi:lk H i=some (Xp k enc q v zs))(d:Nat.beq i 0=false)(f:n<=zs.length):∀a w,Sat N sc env H a w->Sat N sc env ((j,Xp k enc q (Kb v n) (zs.take n))::H) a w:=
 Zb9 i j hi d rfl (λw h=>⟨⟨Zc5 n f h.1.1,λb c=>h.1.2 b (Zln c)⟩,λz e=>h.2 z (fD e)⟩) (λb c=>by
  rcases c with c|⟨z,e,c⟩
  .exact .inl (Zln c)
  .right;exact⟨z,fD e,c⟩) rfl
theorem Ylg{n:Nat}{α:Type}{p:α->Prop}(b:∀a w,Sat N sc env H a w->∃x,p x)(h:∀x,p x->A P N sc M ops ts Q n listed env H):A P N sc M ops ts Q n listed env H:=λa w hs=>by obtain⟨x,c⟩:=b a w hs;exact h x c a w hs
theorem Zud{β:Type}{enc:β->Value}{q:β->Pc}{zs:List β}(i:Nat)(hi:lk H i=some (Xp k enc q v zs)):∀a w,Sat N sc env H a w->Kb v zs.length=v:=λa w hs=>by obtain⟨b,c,h,_⟩:=(hs.hold i _ hi).1.1;rw [h];rfl
theorem Zgz(zs:List (Int×SL))(k:Nat):Xt (zs.take k)=(Xt zs).take k:=by simp [Xt,mS]
def Hf{al:Bool}{z:Int×SL}(i:Nat)(hi:lk H i=some (pp v zs))(a:Nat.beq i 0=false)(b:z∈zs)(h:PreOk H al r):PreOk H al (Oq (Xx z.2) z.1.natAbs::r):=Zs6 (q:=qI) (z:=z) i hi a b h
theorem t_appM {α:Type}   {e:TypeId} {i2 j h d:Nat}  {enc:α->Value} {xs ys:List α}  {ti:TypeInfo}   
  (ho:o.op= .call { callee:= .builtin .append,args:=#[x,y],argTypes:=#[t,t] }) (hd:o.dst=some d) (hN:Nat.blt d N=true)
  (hx:ev env x=some v) (hy:ev env y=some u) (hH:lk H i=some (Pz k e enc v xs)) (a3:i≠0) (hj:lk H j=some p) (hr:Rd p k enc u ys) (b0:ys≠[])
  (ht:P.underlying t=some (.slice e)) (hi:P.info? e=some ti) (hz:ti.zero=some z) (s:Enc P e k enc) (a4:ti.size=k) (a1:ti.bytes=h) (b1:z.cells.size=k)
  (l:(xs.length+ys.length)*h<=140737488355328) (B:0<h)
  (h0:lk H 0=some (Yo w0 M0)) (hw:∀b,w0.heap.size<=b->sc b) (hM:∀b,(Pz k e enc v xs).fp b->M b) :
  T P N sc M o env H (G:=Value) (λ_=>True) (λv'=>(d,v')::env) (λv'=>(i,Pz k e enc v' (xs ++ ys))::H):=λa w hs K Q hK=>by
 have S:w.ownsRow 0 e k v xs.length (cellsOf enc xs):=hs.hold i _ hH;obtain⟨ad,c,rfl,h1,h2,Z⟩:=hr w (hs.hold j p hj);rcases Z with rfl|⟨g,W,rfl,Z⟩
 .exact absurd rfl b0
 have a9:∀q u,(cellsOf enc ys)[q]? = some u->w.cell? ((⟨g,W,none⟩:Addr).add q)=some u:=λq u hq=>by
  have a5:q<ys.length*k:=by rw [<-Yv s.cells ys];exact(dP.1 hq).1
  have I:=s.pos;have a2:q/k<ys.length:=iS (by rw [aQ];exact a5);have n:ys[q/k]? = some ys[q/k]:=aD a2;have a7:q%k<(enc ys[q/k]).cells.toList.length:=by rw [dG,s.cells];exact bP _ I
  have Y:=aD a7;have h4:=Hj s.cells ys _ _ n _ _ Y;have h5:=Z _ _ n _ _ Y;have R:q/k*k+q%k=q:=by rw [aQ];exact cJ q k
  rw [R]at h4;rw [gT,R]at h5;rw [hq]at h4;cases h4;rw [Pm];exact h5
 have F:∀u∈cellsOf enc ys,u.oneCell'=true:=λu Y=>by obtain⟨y,_,hy⟩:=lA.1 Y;exact s.one y u hy
 have b2:xs.length+ys.length<=140737488355328:=aB (eN _ B) l;obtain⟨v',w',V,a6,f,a0⟩:=Zdw (P:=P) t o.type e ti z k h ht hi hz a4 a1 b1 s.pos v xs.length (cellsOf enc xs) S ⟨g,W,none⟩ ys.length c (cellsOf enc ys)
  (Yv s.cells ys) a9 F (by simp only [maxLen];omega) l
 have a8:(execOp a.eval o).run P w= .ok (.value v') w':=by simp only [execOp,ho,resolve,invoke,builtin,Sem.run_bind,Sem.run_pure,Result.andThen_ok,iH,bT,jM,hs.ev hx,hs.ev hy,V]
 unfold Oper.wp;rw [a8];show K (a.put o.dst _) _;rw [hd];have D:Chg (λb=>v.ownBlock=some b) w w':=⟨f.os,f.tape,f.output,f.size,λb l hn=>f.block b l (λe=>hn e.symm)⟩;refine hK v' _ _ aA ((hs.upd hH rfl a3 (q:=Pz k e enc v' (xs ++ ys)) D ?_ (λb l=>a0 b l) h0 hw).put d _ hN) ⟨f.os,f.tape,f.output,f.size,λb l hn=>f.block b l (λe=>hn (hM b e.symm))⟩;show w'.ownsRow 0 e k v' (xs ++ ys).length (cellsOf enc (xs ++ ys));rw [Ia,aW];exact a6
theorem Zyl (i:Nat)(j:Nat)(s:Nat) {α:Type}   {e:TypeId} {d:Nat}  {enc:α->Value} {xs ys:List α}  {ti:TypeInfo}   
  (ho:o.op= .call { callee:= .builtin .append,args:=#[x,y],argTypes:=#[t,t] }) (hd:o.dst=some d) (hN:Nat.blt d N=true)
  (hx:ev env x=some v) (hy:ev env y=some u) (Z:lk H i=some (Pz k e enc v xs)) (I:i≠0) (hj:lk H j=some p) (hr:Rd p k enc u ys)
  (ht:P.underlying t=some (.slice e)) (hi:P.info? e=some ti) (hz:ti.zero=some z) (he:Enc P e k enc) (a2:ti.size=k) (a1:ti.bytes=s) (a4:z.cells.size=k)
  (hb:(xs.length+ys.length)*s<=140737488355328) (D:0<s)
  (h0:lk H 0=some (Yo w0 M0)) (hw:∀b,w0.heap.size<=b->sc b) (hM:∀b,(Pz k e enc v xs).fp b->M b) :
  T P N sc M o env H (G:=Value) (λ_=>True) (λv'=>(d,v')::env) (λv'=>(i,Pz k e enc v' (xs ++ ys))::H):=by
 by_cases V:ys=[]
 .subst V;intro a w hs K Q hK;have h:w.ownsRow 0 e k v xs.length (cellsOf enc xs):=hs.hold i _ Z;obtain⟨W,c,rfl,h1,h2,h3⟩:=hr w (hs.hold j p hj);have R:∃l n B,v= .slice l n B/\n=xs.length/\n<=B:=by
   rcases h.2 with⟨rfl,hn⟩|⟨g,Y,a5,rfl,_,_,f,_⟩
   .exact⟨none,0,0,rfl,hn.symm,aI _⟩
   .exact⟨_,_,Y,rfl,rfl,f⟩
  obtain⟨l,n,B,rfl,rfl,f⟩:=R;have S:(Builtin.append_ #[t,t] o.type #[.slice l xs.length B,.slice W ([]:List α).length c]).run P w= .ok (.slice l xs.length B) w:=by
   have F:(Builtin.firstCells ti.size 0 (.slice W 0 c)).run P w= .ok #[] w:=by
    cases W with
    | none=>rfl
    | some q=>simp [Builtin.firstCells,loadCells,loadCellsFrom]
   cases l with
   | none=>simp [Builtin.append_,run_underlying ht,sizeOf,typeInfo,hi,Builtin.lenOf,F,f]
   | some q=>simp [Builtin.append_,run_underlying ht,sizeOf,typeInfo,hi,Builtin.lenOf,F,f,storeCells]
  have a3:(execOp a.eval o).run P w= .ok (.value (.slice l xs.length B)) w:=by simp only [execOp,ho,resolve,invoke,builtin,Sem.run_bind,Sem.run_pure,Result.andThen_ok,iH,bT,jM,hs.ev hx,hs.ev hy,S]
  unfold Oper.wp;rw [a3];show K (a.put o.dst _) _;rw [hd];refine hK _ _ _ aA ((Sat.upd hs Z rfl I (q:=Pz k e enc (.slice l xs.length B) (xs ++ [])) (Chg.refl _ w) ?_ (λb hb=> .inl hb) h0 hw).put d _ hN) (Chg.refl _ w);rw [iP];exact h
 .exact t_appM (i2:=0) ho hd hN hx hy Z I hj hr V ht hi hz he a2 a1 a4 hb D h0 hw hM
theorem Yez  {G:Type} {φ:G->Prop} {c:G->Qy} {g:G->Hp} {d:Hp}   (i:Nat) (hi:lk H i=some p) (F:p.own=true) (D:ks.all (λk=>!Nat.beq k i)=true) (n:Agr d H ks)
  (h:(∀b,p.fp b->Off d ks b)->T P N sc (Off d ks) o env H φ c g):T P N sc (Off d ks) o env H φ c g:=λa w hs=>
 h (λb s k j q l B=>by
  rw [<-n.mem k j]at l;have f:i≠k:=λe=>by subst e;have:=cI.1 D i j;simp at this
  exact hs.sep i k p q f hi l F b s B) a w hs
def eaf(v:Value)(i k q:Nat):Addr:=(ead v i k).add q
theorem Nt (ii:Nat) {α:Type}    {f:Nat} {e:Array Field} {b:Field} {I q:Nat}   {enc:α->Value} {xs:List α} (B:o.op= .fieldAddr t x f)
  (j:ev env x=some (.pointer (some (ead v i k)))) (l:lk H ii=some p) (F:Rd p k enc v xs) (G:P.underlying t=some (.struct e)) (n:e[f]? = some b) (s:∀w,(sizeOf b.type).run P w= .ok (I+1) w) (D:b.offset=q) (d:i<xs.length:=by omega) :
  Mt P N sc o env H (.pointer (some (eaf v i k q))):=λa w hs=>by
 obtain⟨S,c,rfl,V,W,h⟩:=F w (hs.hold ii p l);rcases h with rfl|⟨g,R,rfl,h⟩
 .simp at d
 .subst D;simp only [ead,Pm]at j;simp [execOp,B,hs.ev j,Instr.fieldAt,run_underlying G,n,Instr.sureAddr,fieldPlace,s,Pm,eaf,ead]
theorem Ms (ii:Nat) {α:Type}    {q:Nat}   {enc:α->Value} {xs:List α} (e:α) (n:o.op= .load t x)
  (f:ev env x=some (.pointer (some (eaf v i k q)))) (j:lk H ii=some p) (s:Rd p k enc v xs) (l:∀w,(isAgg t).run P w= .ok false w) (B:(enc (xs.getD i e)).cells.toList[q]? = some u) (b:i<xs.length:=by omega):Mt P N sc o env H u:=λa w hs=>by
 obtain⟨F,c,rfl,G,I,d⟩:=s w (hs.hold ii p j);rcases d with rfl|⟨g,D,rfl,d⟩
 .simp at b
 .have hi:xs[i]? = some (xs.getD i e):=by simp [List.getD,aD b]
  have h:=d i _ hi q u B;simp only [eaf,ead,Pm]at f;simp [execOp,n,hs.ev f,Instr.loadAt,Instr.sureAddr,loadVar,l,load,Sem.run,h]
end Go.Sky
namespace Go.Sky
variable{o:Oper}{r pre:List Pc}{f:FuncId}{xs:List Operand}{a:Act}{w:World}{c x:Operand}{ats:Array TypeId}{vs:List Value}{M0:Nat->Prop}{b:Nat}{t:TypeId}{cs:Array Value}
abbrev rq (z:Int×Int):Value:= .agg #[.bool (decide (z.1<0)),.string (Qe z.1.natAbs),.bool (decide (z.2<0)),.string (Qe z.2.natAbs)]
abbrev encQ (z:(Bool×ByteArray)×(Bool×ByteArray)):Value:= .agg #[.bool z.1.1,.string z.1.2,.bool z.2.1,.string z.2.2]
def Ys (d:Value){P:Program}{N:Nat}{sc:Nat->Prop}{env:Qy}{H:Hp}{r:Value}(h:Mt P N sc o env H r)(e:r=d):Mt P N sc o env H d:=e▸h
open Go.RowKit Below
variable {P:Program} {N:Nat} {sc:Nat->Prop} {env env':Qy} {H H':Hp} {Q Q':Exit->Act->World->Prop} {M:Nat->Prop}
theorem Zur (vs:List Value)(d:List Value){ys:List Operand}(h:o.op= .makeFunc (.func f) xs.toArray ys.toArray)(j:EvL env xs vs)(i:EvL env ys d):Mt P N sc o env H (.func (.func f) vs.toArray d.toArray):=λa w hs=>by have e:=j.map hs;have g:=i.map hs;simp [execOp,h,Instr.makeFunc,e,g]
theorem Zdv   (hs:Sat N sc env H a w)      {e g:List Value} (j:o.op= .call { callee:= .value c,args:=xs.toArray,argTypes:=ats })
  (h:ev env c=some (.func (.func f) e.toArray g.toArray)) (d:EvL env xs vs):(execOp a.eval o).run P w=(callFunc f (e ++ vs ++ g).toArray).run P w:=by
 have i:=d.map hs;simp [execOp,j,resolve,invoke,hs.ev h,Deferred.ofValue,i]
theorem Zyk (n:Nat)(i:List Value)(vs:List Value)(p:List Value)      {d:Nat}   {al:Bool} {G:Type} {φ:G->Prop} {Yj:G->Value} {m:G->List Pc} {w0:World} 
  (D:Cal P f (i ++ vs ++ p).toArray pre al φ Yj m)
  (I:o.op= .call { callee:= .value c,args:=xs.toArray,argTypes:=ats }) (s:ev env c=some (.func (.func f) i.toArray p.toArray)) (F:o.dst=some d) (B:Nat.blt d N=true)
  (h:EvL env xs vs) (e:∀args w,(callFunc f args).run P w= .ok (.enter f args) w) (k:PreOk H al pre)
  (y:lk H 0=some (Yo w0 M0)) (S:∀b,w0.heap.size<=b->sc b) :
  T P N sc M o env H φ (λg=>(d,Yj g)::env) (λg=>adds n (m g) H):=λa w hs K Q z=>by
 have R:(execOp a.eval o).run P w= .ok (.enter f (i ++ vs ++ p).toArray) w:=by rw [Zdv hs I s h,e]
 let o2:Oper:={ o with op:= .call { callee:= .value (.func f),args:=((i ++ vs ++ p).map Operand.const).toArray,argTypes:=ats } };have j:∀l:List Value,EvL env (l.map Operand.const) l:=λl=>by
  induction l with
  | nil=>trivial
  | cons v r V=>exact⟨rfl,V⟩
 have u:(execOp a.eval o2).run P w= .ok (.enter f (i ++ vs ++ p).toArray) w:=by rw [Ht hs (o:=o2) rfl (j _),e]
 have q:o2.wp P a w K Q:=Pg n (M:=M) D (o:=o2) rfl F B (j _) e k y S a w hs K Q z;unfold Oper.wp at q ⊢;rw [u]at q;rw [R];exact q
theorem Zhe(i:Nat)(hi:lk H i=some (box b t cs))(d:Nat.beq i 0=false)(h:PreOk H false r):PreOk H false (Ka b t cs::r):=
 ⟨⟨i,_,λe=>by subst e;simp at d,hi,λw h=>h,λb g=>g,λh=>by cases h⟩,h⟩
theorem Sat.rboxc(hs:Sat N sc env H a w){i:Nat}(d:lk H i=some (Ka b t cs))(j:Nat):w.cell? ⟨b,j,none⟩=cs[j]?:=by have h:w.heap[b]? = some (.cells cs t (0,0)):=hs.hold i _ d;simp [World.cell?,h]
theorem d_lra   {v:TypeId} {i j k:Nat}   (l:o.op= .load t x)
  (s:ev env x=some (.pointer (some ⟨b,j,none⟩))) (e:lk H i=some (Ka b v cs)) (m:∀w,(isAgg t).run P w= .ok true w) (g:∀w,(sizeOf t).run P w= .ok k w)
  (h:vs.length=k) (q:∀n u,vs[n]? = some u->cs[j+n]? = some u):Mt P N sc o env H (.agg vs.toArray):=λa w hs=>by
 have d:=run_loadCells_list (P:=P) w ⟨b,j,none⟩ vs (λn u p=>by rw [Pm,hs.rboxc e];exact q n u p);rw [h]at d;simp [execOp,l,hs.ev s,Instr.loadAt,Instr.sureAddr,loadVar,m,g,d]
theorem Zqy{m:Int}(d:o.op= .unOp .neg t x)(e:ev env x=some (.int .i64 m))(h:Oc (-m):=by exact⟨O1,O1⟩):Mt P N sc o env H (.int .i64 (-m)):=λa w hs=>by simp [execOp,d,hs.ev e,Op.unary,Op.intArith,Zaz h]
theorem fill24{n p q s d e g h j k l m:Value}:Instr.fill (λi=>some (i*4,4)) ((List.range (2*4)).map ((Value.agg #[n,p,q,s]).cells[· % (Value.agg #[n,p,q,s]).cells.size]!)).toArray [(0,.agg #[d,e,g,h]),(1,.agg #[j,k,l,m])]=some #[d,e,g,h,j,k,l,m]:=by
 simp [Instr.fill,Value.cells,List.range,List.range.loop]
 try rfl
end Go.Sky
namespace Go.Sky
open Go.RowKit Below
variable{f:FuncId}{c:Operand}{xs:List Operand}{ats:Array TypeId}{p:Pc}{pre:List Pc}{w0:World}{M0:Nat->Prop}{fn:Func}{vs:List Value}
variable {P:Program} {N:Nat} {sc:Nat->Prop} {env env':Qy} {H H':Hp} {Q Q':Exit->Act->World->Prop} {M:Nat->Prop}
abbrev iq (z:(Int×Int)×(Int×Int)):Value:= .agg #[.bool (decide (z.1.1<0)),.string (Qe z.1.1.natAbs),.bool (decide (z.1.2<0)),.string (Qe z.1.2.natAbs),.bool (decide (z.2.1<0)),.string (Qe z.2.1.natAbs),.bool (decide (z.2.2<0)),.string (Qe z.2.2.natAbs)]
def Yqa(P:Program)(f:FuncId)(args:Array Value)(pre:List Pc)(p:Pc){G:Type}(φ:G->Prop)(Yj:G->Value)(q:G->Pc):Prop:=
 ∀w,(∀r∈pre,r.holds w/\∀k,p.fp k->¬r.fp k)->p.holds w->Calls P f args w λe a=>∃g,e= .returned (Yj g)/\φ g/\Chg p.fp w a/\(q g).holds a/\∀k,(q g).fp k->p.fp k\/w.heap.size<=k
theorem Zyj (i:Nat)(x:List Value)(vs:List Value)(I:List Value) {o:Oper}     {d:Nat}    {G:Type} {φ:G->Prop} {Yj:G->Value} {q:G->Pc}  
  (hc:Yqa P f (x ++ vs ++ I).toArray pre p φ Yj q)
  (ho:o.op= .call { callee:= .value c,args:=xs.toArray,argTypes:=ats }) (z:ev env c=some (.func (.func f) x.toArray I.toArray)) (hd:o.dst=some d) (Y:Nat.blt d N=true)
  (m:EvL env xs vs) (n:∀args w,(callFunc f args).run P w= .ok (.enter f args) w) (y:lk H i=some p) (l:p.own=true) (B:i≠0) (u:PreOk (drp i H) false pre)
  (S:lk H 0=some (Yo w0 M0)) (hw:∀b,w0.heap.size<=b->sc b) (W:∀b,p.fp b->M b) :
  T P N sc M o env H φ (λg=>(d,Yj g)::env) (λg=>(i,q g)::H):=λa w hs K Q V=>by
 have hr:(execOp a.eval o).run P w= .ok (.enter f (x ++ vs ++ I).toArray) w:=by rw [Zdv hs ho z m,n]
 unfold Oper.wp;rw [hr];refine(hc w (λr hp=>by obtain⟨j,R,_,v,t,s,_⟩:=u.mem r hp;obtain⟨F,v⟩:=Ev _ _ _ _ v;exact⟨t w (hs.hold j R v),λk D Z=>hs.sep i j _ R (iY F) y v l k D (s k Z)⟩) (hs.hold i _ y)).mono ?_
 rintro e w' ⟨g,rfl,hg,h,hq,s⟩;show K (a.put o.dst (Yj g)) w';rw [hd];exact V g _ _ hg (Sat.put (hs.upd y l B h hq s S hw) d _ Y) ⟨h.os,h.tape,h.output,h.size,λk D hn=>h.block k D (λe=>hn (W k e))⟩
def Yll(P:Program)(fn:Func)(w0:World)(p:Pc){G:Type}(φ:G->Prop)(Yj:G->Value)(q:G->Pc):Exit->Act->World->Prop:=
 bodyPost P fn λe a=>∃g,e= .returned (Yj g)/\φ g/\Chg p.fp w0 a/\(q g).holds a/\∀k,(q g).fp k->p.fp k\/w0.heap.size<=k
theorem Ybn   {c:Code}    {G:Type} {φ:G->Prop} {Yj:G->Value} {q:G->Pc} {N:Nat}
  (V:P.funcs[f]? = some fn) (S:fn.body=some c) (R:fn.ntmps=N) (n:Nat.ble vs.length N=true) (B:AllRo pre)
  (h:∀w0 (sc:Nat->Prop),(∀k,w0.heap.size<=k->sc k)->(∀k,sc k->w0.heap.size<=k\/p.fp k\/∃q∈pre,q.fp k)->
   E P N sc c (Yll P fn w0 p φ Yj q) (Qq 0 vs) ((0,Yo w0 p.fp)::(1,p)::Yt 2 pre)) :
  Yqa P f vs.toArray pre p φ Yj q:=λw D s=>by
 refine calls_of_wp V S (h w (λk=>w.heap.size<=k\/p.fp k\/∃q∈pre,q.fp k) (λk b=> .inl b) (λk b=>b) _ w ?_);have n:vs.length<=N:=by simpa using n
 have a:∀i r,lk ((0,Yo w p.fp)::(1,p)::Yt 2 pre) i=some r->(i=0/\r=Yo w p.fp)\/(i=1/\r=p)\/(i≠0/\i≠1/\r∈pre/\r.own=false):=λi r hi=>by
   by_cases l:0=i
   .subst l;rw [Yd]at hi;cases hi;exact .inl ⟨rfl,rfl⟩
   .rw [Zn l]at hi;by_cases g:1=i
    .subst g;rw [Yd]at hi;cases hi;exact .inr (.inl ⟨rfl,rfl⟩)
    .rw [Zn g]at hi;obtain⟨_,d⟩:=Nn pre 2 i r hi;exact .inr (.inr ⟨λe=>l e.symm,λe=>g e.symm,d,B.mem r d⟩)
 refine⟨by simp [R];omega,rfl,λt v Y=>?_,λi r hi=>?_,λi j r F y hi W z k b m=>?_,λi r u hi k b=>?_⟩
 .have g:vs.toArray[t]? = some v:=by simpa using(Fa vs 0 t v Y).2
  have x:=(aZ.1 g).1;rw [bQ,fI x,g];rfl
 .rcases a i r hi with⟨_,rfl⟩|⟨_,rfl⟩|⟨_,_,d,_⟩
  .exact Chg.refl _ w
  .exact s
  .exact(D r d).1
 .rcases a i r hi with⟨_,rfl⟩|⟨g,rfl⟩|⟨_,_,d,o⟩
  .cases z
  .rcases a j F W with⟨_,rfl⟩|⟨I,rfl⟩|⟨_,_,d,_⟩
   .exact m.2 b
   .exact y (g.trans I.symm)
   .exact(D F d).2 k b m
  .rw [o]at z;cases z
 .rcases a i r hi with⟨l,_⟩|⟨_,rfl⟩|⟨_,_,d,_⟩
  .exact absurd l u
  .exact .inr (.inl b)
  .exact .inr (.inr ⟨r,d,b⟩)
theorem Yef    {G:Type} {φ:G->Prop} {Yj:G->Value} {q:G->Pc}  {e:Exit} (B:e= .ret\/e= .normal) (u:∀k,sc k->w0.heap.size<=k\/p.fp k\/∃q∈pre,q.fp k)
  (g:G) {v:Value} (m:∀a w,Sat N sc env H a w->(results fn a.tmps).run P w= .ok v w) (I:Yj g=v) (D:φ g) (i:Nat) (hi:lk H i=some (q g)) (z:lk H 0=some (Yo w0 p.fp)) (b:Nat.beq i 0=false) (d:(q g).own=true) (l:PreOk (drp i H) false pre) :
  X N sc e (Yll P fn w0 p φ Yj q) env H:=λa w hs=>by
 have b:i≠0:=λe=>by subst e;simp at b
 have x:a.defers=[]/\∃v,(results fn a.tmps).run P w= .ok v w/\(∃g,Ending.returned v= .returned (Yj g)/\φ g/\Chg p.fp w0 w/\(q g).holds w/\∀k,(q g).fp k->p.fp k\/w0.heap.size<=k):=by
  refine⟨hs.defers,v,m a w hs,g,by rw [I],D,hs.hold 0 _ z,hs.hold i _ hi,λk y=>?_⟩;rcases u k (hs.scope i _ b hi k y)with h|h|⟨r,F,t⟩
  .exact .inr h
  .exact .inl h
  .obtain⟨j,R,_,o,_,n,_⟩:=l.mem r F;obtain⟨s,o⟩:=Ev _ _ _ _ o;exact(hs.sep i j _ R (iY s) hi o d k y (n k t)).elim
 rcases B with rfl|rfl<;>exact x
def gb{α:Type}(b:Nat)(t:TypeId)(k:Nat)(e:TypeId)(enc:α->Value)(v:Value)(xs:List α):Pc:=
 {own:=true,fp:=λc=>c=b\/v.ownBlock=some c,holds:=λw=>(box b t #[v]).holds w/\(Pz k e enc v xs).holds w/\v.ownBlock≠some b
  lt:=λw c h a=>by
   rcases a with rfl|a
   .exact(box c t #[v]).lt w c h.1 rfl
   .exact(Pz k e enc v xs).lt w c h.2.1 a
  stable:=λw l h a=>⟨(box b t #[v]).stable w l h.1 ⟨a.os,a.tape,a.output,a.size,λk g i=>a.block k g (λd=>i (λj=>d (.inl j)))⟩,
   (Pz k e enc v xs).stable w l h.2.1 ⟨a.os,a.tape,a.output,a.size,λk g i=>a.block k g (λd=>i (λj=>d (.inr j)))⟩,h.2.2⟩ }
end Go.Sky

