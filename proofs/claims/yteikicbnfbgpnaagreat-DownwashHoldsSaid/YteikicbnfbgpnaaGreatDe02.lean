/- Rules, arithmetic and contracts: part 3. No conditions but those that each theorem names. -/
import Derived.Test.YteikicbnfbgpnaaGreatDe01
set_option linter.all false
namespace Go.Sky
set_option maxRecDepth 20000
variable{k D:Nat}{R ys:List Nat}{y x:Int}{b t s:Bool}{p xs:List Int}{f:FuncId}{args:Array Value}{pre:List Pc}
theorem Zgj{n:Nat}(h:n<U):tz [n]=dg U n:=by rw [<-Kj Xi [n] (by simpa using h)];simp [Ye]
theorem Zhl{N:Nat}{sc:Nat->Prop}{env:Qt}{H:Hp}{α:Type}{e:TypeId}{enc:α->Value}{v:Value}{xs ys:List α}(i:Nat)(h:xs=ys)(hi:lk H i=some (Ox k e enc v xs))(c:Nat.beq i 0=false) :
  ∀a w,Sat N sc env H a w->Sat N sc env ((i,Ox k e enc v ys)::H) a w:=by
 subst h;exact Zn0 i hi rfl (λw h=>h) (λb d=>d) c
theorem Zlx(R:List Nat)(j:Nat)(a:j<=R.length):Ye U R=Ye U (R.take j)+U^j*Ye U (R.drop j):=by have:=Ni U (R.take j) (R.drop j);rw [fG,aR,dD a]at this;exact this
theorem Zi6(g:∀d∈R,d<U)(j:Nat)(e:j<=R.length):Ye U (R.take j)=Ye U R%U^j/\Ye U (R.drop j)=Ye U R/U^j:=by
 have c:=Zlx R j e;have a:=Zgg Xm (R.take j) (λd h=>g d (eJ h));rw [aR,dD e]at a;have i:0<U^j:=cD Xm;constructor
 .rw [c,jK,iA,aS a]
 .rw [c,jK,gL i,cS a,eE]
theorem Zeu(e:∀d∈R,d<U){n:Nat}(g:n<=R.length)(h:Ye U R<U^n):Ye U (R.drop n)=0/\Ye U (R.take n)=Ye U R:=by obtain⟨a,c⟩:=Zi6 e n g;rw [c,a,aS h];exact⟨cS h,rfl⟩
theorem Yip(c:∀d∈R,d<U){j n:Nat}(g:j+n<=R.length)(h:Ye U R<U^(j+n)):tz ((R.drop j).take n)=dg U (Ye U R/U^j):=by have a:∀d∈R.drop j,d<U:=λd a=>c d (kS a);rw [<-(Zi6 c j O1).2,<-Kj Xi _ (λd e=>a d (eJ e))];congr 1;refine(Zeu a (by rw [dX];omega) ?_).2;rw [(Zi6 c j O1).2,cC (cD Xm),<-bR,jK];exact h
theorem Zqh(c:∀d∈R,d<U)(e:∀d∈ys,d<U)(lo:Nat):∀d∈spl R lo ys,d<U:=λd a=>by
 simp only [spl,cQ]at a;rcases a with(a|a)|a
 .exact c d (eJ a)
 .exact e d a
 .exact c d (kS a)
theorem Zqt(L:Nat)(ys:List Nat):Ye U (spl (List.replicate L 0) 0 ys)=Ye U ys:=by simp [spl,Ni,nN,Gb]
theorem Yiv(a:∀d∈R,d<U){j n:Nat}(g:j+n<=R.length)(h:Ye U R<U^(j+n))(i:ys.length<=n) :
  Ye U (spl (spl R j (List.replicate n 0)) j ys)=Ye U R%U^j+U^j*Ye U ys:=by
 have c:(spl R j (List.replicate n 0)).take j=R.take j:=by simp only [spl,dZ];rw [fE (by rw [aR];omega),iM,Nat.min_self]
 have e:(spl R j (List.replicate n 0)).drop (j+ys.length)=List.replicate (n-ys.length) 0 ++ R.drop (j+n):=by simp only [spl,dZ,aV];rw [<-List.drop_drop,List.drop_left' (by rw [aR];omega),gF (by rw [aV];exact i),nN]
 rw [spl,c,e,Ni,Ni,Ni,Gb,(Zeu a g h).1,(Zi6 a j O1).1,aR,dD O1];simp
theorem Ykk{y b:Nat}(d:0<y)(l:k=(dg U y).length)(r:b=64-bl ((dg U y).getD (k-1) 0)):(dg U (y*2^b)).length=k/\2^b*U^k<=y*2^b*U*2^b/\1<=k/\y*2^b<U^k/\b<=63/\U^(k-1)*9223372036854775808<=y*2^b:=by
 obtain⟨m,n,g,o⟩:=Zwk d;rw [<-l]at m n g o;obtain⟨h,q⟩:=Zp9 d;have i:=Dc y;have e:bl y+b=64*k:=O1;have c:y*2^b<U^k:=by rw [Zck,<-e,bR];exact eD i (dO b)
 have a:U^(k-1)*9223372036854775808<=y*2^b:=by
  have:U^(k-1)*9223372036854775808=2^(bl y-1)*2^b:=by rw [Zck,<-bR,show 9223372036854775808=2^63 from rfl,<-bR];congr 1;omega
  rw [this];exact aN _ h
 have j:U^k=U^(k-1)*U:=by rw [<-bX];congr 1;omega
 refine⟨?_,?_,g,c,O1,a⟩
 .refine jT ((Xk Xi _ _).2 c) ?_;have:k-1<(dg U (y*2^b)).length:=(Ov Xi _ _).2 (aB (dU _ O1) a);omega
 .rw [j,aP (2^b)];refine aN _ ?_;refine aN _ (aB (dU _ O1) a)
theorem Yfk{W w1 w0 t:Nat}(a:t*U^k<=D)(e:0<t)(c:W/U^k=w1*U+w0):W/D<=(w1*U+w0)/t:=by have d:0<U^k:=cD Xm;rw [<-c,aX,aP];exact nO a (gD e d)
theorem Yi1(c:∀d∈R,d<U){j:Nat}(m:1<=k)(h:Ye U R<U^(j+k+1))(n:j+k+1<=R.length):Ye U R/U^j/U^(k-1)=R.getD (j+k) 0*U+R.getD (j+k-1) 0:=by
 have e:∀i,R.getD i 0=Ye U R/U^i%U:=λi=>by
  rcases bC i R.length with hi|hi
  .have a:=(Zi6 c i O1).2;rw [Zb7 0 R i hi]at a;simp only [Ye]at a;rw [<-a,jO,aS (Xh Xm c i)]
  .rw [show R.getD i 0=0 by simp [List.getD,bD hi],cS (cZ (Zgg Xm R c) (dE Xm hi))];rfl
 rw [e,e,aX,<-bR,show j+(k-1)=j+k-1 by omega];have g:Ye U R/U^(j+k)<U:=by rw [cC (cD Xm),<-nT,jK (j+k)]at *;rw [jK 1]at *;exact h
 have l:Ye U R/U^(j+k)=Ye U R/U^(j+k-1)/U:=by rw [aX,<-bX];congr 2;omega
 rw [aS g,l,aP,cE]
theorem Ygq{x b a:Nat}(g:x<U^a)(d:b<=63)(m:1<=k)(e:k<=a+1)(c:U^(k-1)*9223372036854775808<=D):x*2^b<D*U^(a+1-k):=by
 have h:x*2^b<U^a*2^b:=eD g (dO b);have i:U^a*2^b<=U^a*9223372036854775808:=bI _ (by rw [show 9223372036854775808=2^63 from rfl];exact dE O1 d)
 have j:U^a*9223372036854775808=U^(k-1)*9223372036854775808*U^(a+1-k):=by rw [iU,<-bR];congr 2;omega
 have l:U^(k-1)*9223372036854775808*U^(a+1-k)<=D*U^(a+1-k):=aN _ c;omega
theorem Ygp{V j Q Vq N:Nat}(h:0<D)(a:Q=V/U^j/D)(i:Vq*U^(j+1)*D+V=N) :
  V%U^j+U^j*(V/U^j-D*Q)<D*U^j/\(Q+U*Vq)*U^j*D+(V%U^j+U^j*(V/U^j-D*Q))=N:=by
 have l:0<U^j:=cD Xm;have o:=bN V l;have q:=cE V (U^j);have c:=cE (V/U^j) D;have d:=bN (V/U^j) h;have e:V/U^j-D*Q=V/U^j%D:=by rw [a];omega
 rw [e];constructor
 .have g:U^j*(V/U^j%D+1)<=U^j*D:=bI _ d;rw [gC]at g;rw [aP D];omega
 .rw [<-i];have m:(Q+U*Vq)*U^j*D=U^j*(D*Q)+Vq*U^(j+1)*D:=by
   rw [bK,bK,bX];congr 1
   .rw [aP Q,cN,aP Q]
   .rw [aP U Vq,cN Vq,aP U]
  have n:U^j*(D*Q)+U^j*(V/U^j%D)=U^j*(V/U^j):=by rw [<-gC,a,c]
  omega
def sg(s:Bool)(x:Int):Prop:=(s=true->x<=0)/\(s=false->0<=x)
theorem Yc3(h:sg s x):sg (!s) (-x):=by cases s<;>simp [sg]at*<;>omega
theorem Yc4(hs:sg s x)(a:sg t y):sg (s != t) (x*y):=by
 cases s<;>cases t<;>simp [sg]at *
 .exact eA hs a
 .exact gR hs a
 .exact gT hs a
 .exact Int.mul_nonneg_of_nonpos_of_nonpos hs a
theorem Zz5(h:(((dg U x.natAbs).length:Nat):Int)=0):Value.int .i64 x.sign= .int .i64 0:=by have a:=(Pn Xi x.natAbs).1 O1;have:x=0:=O1;subst this;rfl
theorem Ycy(hs:sg s x)(a:s=true)(h:¬(((dg U x.natAbs).length:Nat):Int)=0):Value.int .i64 x.sign= .int .i64 (-1):=by have c:¬x.natAbs=0:=λe=>h (by rw [(Pn Xi x.natAbs).2 e];rfl);have d:=hs.1 a;rw [eQ O1]
theorem Ycx(hs:sg s x)(a:s=false)(h:¬(((dg U x.natAbs).length:Nat):Int)=0):Value.int .i64 x.sign= .int .i64 1:=by have c:¬x.natAbs=0:=λe=>h (by rw [(Pn Xi x.natAbs).2 e];rfl);have d:=hs.2 a;rw [fQ O1]
theorem Zwq(hs:sg s x)(a:sg s y):sg s (x+y):=by cases s<;>simp [sg]at*<;>omega
theorem Zge(hs:sg s x)(a:sg s y):(x+y).natAbs=x.natAbs+y.natAbs:=by cases s<;>simp [sg]at*<;>omega
theorem Zie(hs:sg s x)(c:sg t y)(h:s≠t)(a:y.natAbs<=x.natAbs):sg s (x+y):=by cases s<;>cases t<;>simp [sg]at*<;>omega
theorem Zak(hs:sg s x)(c:sg t y)(h:s≠t)(a:y.natAbs<=x.natAbs):(x+y).natAbs=x.natAbs-y.natAbs:=by cases s<;>cases t<;>simp [sg]at*<;>omega
abbrev wv (x:Int):Value:= .agg #[.bool (decide (x<0)),.string (Xu x.natAbs)]
def Zag(x:Int):Int:=if 65536<bl x.natAbs then 0 else x
def Zh3(x:Int):Int:=if 65536<bl x.natAbs then 7 else 0
theorem Yl7(x:Int):bl (Zag x).natAbs<=65536:=by
 unfold Zag;split
 .decide
 .omega
theorem Kx(h:bl x.natAbs<=65536):Zag x=x:=by unfold Zag;rw [aE O1]
theorem Zo8(h:bl x.natAbs<=65536):Zh3 x=0:=by unfold Zh3;rw [aE O1]
theorem Yl6(h:65536<bl x.natAbs):Zag x=0:=by unfold Zag;rw [aH h]
theorem Yla(h:65536<bl x.natAbs):Zh3 x=7:=by unfold Zh3;rw [aH h]
abbrev Zbf (x:Int):Value:= .tuple #[wv (Zag x),.int .i64 (Zh3 x)]
theorem Zzs(h:((65536:Int)<((bl x.natAbs:Nat):Int))):Zbf x= .tuple #[.agg #[.bool false,.string ⟨#[]⟩],.int .i64 7]:=by unfold Zbf;rw [Yl6 O1,Yla O1];rfl
theorem Zv7(h:¬((65536:Int)<((bl x.natAbs:Nat):Int))):Zbf x= .tuple #[wv x,.int .i64 0]:=by unfold Zbf;rw [Kx O1,Zo8 O1]
theorem Zqo(hs:sg false x)(h:¬((65536:Int)<((bl x.natAbs:Nat):Int))):Zbf x= .tuple #[.agg #[.bool false,.string (Xu x.natAbs)],.int .i64 0]:=by rw [Zv7 h,wv,aJ (by have:=hs.2 rfl;omega)]
theorem Zqn(hs:sg true x)(h:¬((65536:Int)<((bl x.natAbs:Nat):Int))):Zbf x= .tuple #[.agg #[.bool (decide ((0:Int)<(((dg U x.natAbs).length:Nat):Int))),.string (Xu x.natAbs)],.int .i64 0]:=by have a:=hs.1 rfl;have c:=Pn Xi x.natAbs;rw [Zv7 h,wv,show decide (x<0)=decide ((0:Int)<(((dg U x.natAbs).length:Nat):Int))from bQ.2 ⟨λh=>O1,λh=>O1⟩]
theorem Zda{q r:Int}(d:y≠0)(h:x=y*q+r)(l:0<=r)(m:r<(y.natAbs:Int)):x/y=q/\x%y=r:=by
 have e:=Int.mul_ediv_add_emod x y;have i:=mV x d;have j:=Int.emod_lt x d;have c:x/y=q:=by
  have g:y*(x/y-q)=r-x%y:=by rw [Int.mul_sub];omega
  have a:(y*(x/y-q)).natAbs<y.natAbs:=by rw [g];omega
  rw [cF]at a;rcases aU (x/y-q).natAbs with h|h
  .omega
  .exact absurd (dU y.natAbs h) O1
 refine⟨c,?_⟩;rw [c]at e;omega
theorem Zt8(h:sg s x):x=if s then -(x.natAbs:Int)else(x.natAbs:Int):=by cases s<;>simp [sg]at*<;>omega
theorem Zyh(hs:sg s x)(d:sg t y)(e:y≠0)(Q R:Nat)(g:R<y.natAbs)(h:x=(if s then -1 else 1)*((y.natAbs:Int)*Q)+R) :
  sg (s != t) (x/y)/\(x/y).natAbs=Q/\(x%y).natAbs=R:=by
 have c:=Zt8 d;have a:x/y=(if s != t then -(Q:Int)else Q)/\x%y=R:=by
  refine Zda e ?_ O1 O1
  conv=>lhs;rw [h]
  conv=>rhs;rw [c]
  cases s<;>cases t<;>simp [nL,kT]
 rw [a.1,a.2];cases s<;>cases t<;>simp [sg]
theorem divB(hs:sg s x)(h:sg t y)(i:y≠0)(g:s=false\/x.natAbs%y.natAbs=0):sg (s != t) (x/y)/\(x/y).natAbs=x.natAbs/y.natAbs/\(x%y).natAbs=x.natAbs%y.natAbs:=by
 have c:=Zt8 hs;have e:=cE x.natAbs y.natAbs;refine Zyh hs h i _ _ (bN _ O1) ?_;have a:((y.natAbs:Int)*((x.natAbs/y.natAbs:Nat):Int))+((x.natAbs%y.natAbs:Nat):Int)=x.natAbs:=by rw [<-eV,<-jW,e]
 rcases g with rfl|d
 .simp at c ⊢;simp at a;omega
 .rw [d]at a ⊢;cases s<;>simp at c a ⊢<;>omega
theorem divA(hs:sg true x)(a:sg t y)(c:y≠0)(g:0<x.natAbs%y.natAbs):sg (true != t) (x/y)/\(x/y).natAbs=x.natAbs/y.natAbs+1/\(x%y).natAbs=y.natAbs-x.natAbs%y.natAbs:=by
 have i:=Zt8 hs;have e:=cE x.natAbs y.natAbs;have h:=bN x.natAbs (show 0<y.natAbs by omega);refine Zyh hs a c _ _ O1 ?_;have d:((y.natAbs:Int)*((x.natAbs/y.natAbs:Nat):Int))+((x.natAbs%y.natAbs:Nat):Int)=x.natAbs:=by rw [<-eV,<-jW,e]
 rw [Int.natCast_sub O1,jW,lW];generalize ((y.natAbs:Int)*((x.natAbs/y.natAbs:Nat):Int))=P at *;generalize ((x.natAbs%y.natAbs:Nat):Int)=R at *;simp only [lC]at *;omega
def okW(b:Bool)(s:ByteArray):Bool:=if s.size=0 then !b else decide ((s.data.toList.getD 0 0).toNat≠0) && decide (s.size<=8192)
theorem bl256{n:Nat} : (dg 256 n).length<=k↔bl n<=8*k:=by rw [Zkt];omega
theorem Zbt(h:bl x.natAbs<=65536):okW (decide (x<0)) (Xu x.natAbs)=true:=by
 unfold okW;rw [Et];split
 .rename_i c;have:=(Pn (by omega:2<=256) x.natAbs).1 c;simp;omega
 .rename_i c;have g:0<x.natAbs:=by
   rcases aU x.natAbs with a|a
   .rw [a]at c;simp [Hs]at c
   .exact a
  have a:=Ztm x.natAbs 0 O1;have d:=dg_top (by omega:2<=256) g;rw [Ht O1]at d;have e:=(bl256 (n:=x.natAbs) (k:=8192)).2 O1;rw [aO];refine⟨aM (by rw [a];simpa using d),aM e⟩
theorem Zha{a b:ByteArray}(h:a.data.toList=b.data.toList):a=b:=by cases a;cases b;simp at h;rw [h]
theorem Ymh{s:ByteArray}(e:s.size≠0)(h:(s.data.toList.getD 0 0).toNat≠0):s=Xu (Ye 256 (s.data.toList.reverse.map UInt8.toNat)):=by
 have g:s.data.toList.length=s.size:=rfl;have a:∀d∈s.data.toList.reverse.map UInt8.toNat,d<256:=λd c=>by obtain⟨u,_,rfl⟩:=eN.1 c;exact u.toNat_lt
 refine Zha ?_;unfold Xu;rw [Kj O1 _ a,tz_eq]
 .simp [List.map_reverse,Function.comp_def]
 .refine .inr ?_;rw [aW,List.length_reverse,aF,fD,List.getElem?_reverse O1];rw [show s.data.toList.length-1-(s.data.toList.length-1)=0 by omega];rw [aF]at h;cases hx:s.data.toList[0]? with
  | none=>rw [hx]at h;simp at h
  | some u=>rw [hx]at h;simpa using h
theorem Zon{s:ByteArray}(h:okW b s=true):∃x:Int,bl x.natAbs<=65536/\b=decide (x<0)/\s=Xu x.natAbs:=by
 unfold okW at h;split at h
 .rename_i c;refine⟨0,by simp [Ka],?_,?_⟩
  .cases b<;>simp_all
  .refine Zha ?_;have:s.data.toList.length=0:=c;rw [aD this];rfl
 .rename_i c;rw [aO]at h;have e:=bL h.1;have g:=bL h.2;have hs:=Ymh c e;generalize Ye 256 (s.data.toList.reverse.map UInt8.toNat)=n at hs;have d:(dg 256 n).length=s.size:=by rw [hs,Et]
  have i:0<n:=by
   rcases aU n with h|h
   .subst h;simp [Hs]at d;omega
   .exact h
  have a:bl n<=65536:=by have:=(bl256 (n:=n) (k:=8192)).1 O1;omega
  cases b with
  | true=>exact⟨-(n:Int),by simpa using a,O9,by simpa using hs⟩
  | false=>exact⟨n,by simpa using a,O7,by simpa using hs⟩
def eqW(a:Bool)(s:ByteArray)(b:Bool)(t:ByteArray):Bool:=(a == b) && (s.toList == t.toList)
theorem Ybs(h:decide (x<0)=decide (y<0))(g:Xu x.natAbs=Xu y.natAbs):x=y:=by
 have j:x.natAbs=y.natAbs:=by
  have a:(dg 256 x.natAbs).reverse.map UInt8.ofNat=(dg 256 y.natAbs).reverse.map UInt8.ofNat:=by have:=aK (λb:ByteArray=>b.data.toList) g;simpa [Xu]using this
  have c:∀n:Nat,((dg 256 n).reverse.map UInt8.ofNat).map UInt8.toNat=(dg 256 n).reverse:=λn=>by
   rw [lG]
   conv=>rhs;rw [<-oM (dg 256 n).reverse]
   refine lB λd i=>?_;have:=Na (by omega:2<=256) n d (List.mem_reverse.1 i);simp [UInt8.toNat_ofNat',aS this]
  have e:=aK (List.map UInt8.toNat) a;rw [c,c]at e;exact(Zg8 (by omega:2<=256)).1 (List.reverse_inj.1 e)
 have a:=bQ.1 h;omega
theorem Zpn{a:Bool}{s t:ByteArray} : eqW a s b t=true↔a=b/\s=t:=by unfold eqW;rw [aO,ByteArray.toList_eq,ByteArray.toList_eq,lK,lK];exact⟨λh=>⟨h.1,Zha h.2⟩,λh=>⟨h.1,by rw [h.2]⟩⟩
theorem Ygb(x y:Int):eqW (decide (x<0)) (Xu x.natAbs) (decide (y<0)) (Xu y.natAbs)=decide (x=y):=by rw [kY,Zpn,fK];exact⟨λh=>Ybs h.1 h.2,λh=>by rw [h];exact⟨rfl,rfl⟩⟩
theorem Xa(x:Int):sg (decide (x<0)) x:=by unfold sg;simp;omega
def Gj(x y:Int):bl (x+y).natAbs<=max (bl x.natAbs) (bl y.natAbs)+1:=
 aB (Pu (lX x y)) (bl_add _ _)
theorem Xe(x y:Int):bl (x*y).natAbs<=bl x.natAbs+bl y.natAbs:=by rw [cF];exact Zlm _ _
theorem Bx(x y:Int):bl (x-y).natAbs<=max (bl x.natAbs) (bl y.natAbs)+1:=by have:=Gj x (-y);rwa [eC,<-fL]at this
theorem Zqb(x:Int):bl (-x).natAbs=bl x.natAbs:=by rw [eC]
theorem Ziy(x y:Int):bl (x/y).natAbs<=bl x.natAbs+1:=by have h:(x/y).natAbs<=x.natAbs:=jP x y;have:=Pu h;omega
theorem Zzf(x y:Int)(a:y≠0):bl (x%y).natAbs<=bl y.natAbs:=by have c:=mV x a;have d:=Int.emod_lt x a;exact Pu O1
theorem Zqc(x y:Nat):bl (Nat.gcd x y)<=max (bl x) (bl y):=by
 rcases aU x with h|h
 .subst h;rw [Nat.gcd_zero_left];omega
 .have:=Pu (mC h (mJ x y));omega
def Yjn(x:Int)(h:y≠0):sg false (x%y):=⟨λa=>Bool.noConfusion a,λ_=>mV x h⟩
def Lb(x y:Int):Int:=if y<0 then -(Int.gcd x y:Int)else(Int.gcd x y:Int)
theorem Zbx(x y:Int):(Lb x y).natAbs=Nat.gcd x.natAbs y.natAbs:=by unfold Lb;split<;>simp [Int.gcd]
theorem Ykt(h:y≠0):Lb x y≠0:=λe=>by have a:=Zbx x y;rw [e]at a;have:=(Nat.gcd_eq_zero_iff.1 a.symm).2;omega
theorem Yjl(a:sg t y)(c:y≠0):sg t (Lb x y):=by
 unfold Lb sg at *;refine⟨λh=>?_,λh=>?_⟩
 .rw [aH (by have:=a.1 h;omega)];omega
 .rw [aE (by have:=a.2 h;omega)];omega
theorem Zxm(v:Value)(x y:Int):Ea v (Nat.gcd x.natAbs y.natAbs)=Ea v (Lb x y).natAbs:=by rw [Zbx]
def Kc(x y:Int):Prop:=65536<bl (x/Lb x y).natAbs\/65536<bl (y/Lb x y).natAbs
instance (x y:Int):Decidable (Kc x y):=by unfold Kc;infer_instance
def Eh(x y:Int):Int:=if Kc x y then 0 else x/Lb x y
def Fj(x y:Int):Int:=if Kc x y then 0 else y/Lb x y
def Ydp(x y:Int):Int:=if Kc x y then 7 else 0
abbrev Zas (x y:Int):Value:= .tuple #[.agg #[.bool (decide (Eh x y<0)),.string (Xu (Eh x y).natAbs),.bool (decide (Fj x y<0)),.string (Xu (Fj x y).natAbs)],.int .i64 (Ydp x y)]
theorem Zar(h:Kc x y):Zas x y= .tuple #[.agg #[.bool false,.string ⟨#[]⟩,.bool false,.string ⟨#[]⟩],.int .i64 7]:=by unfold Zas Eh Fj Ydp;rw [aH h,aH h,aH h];rfl
theorem Bs(h:Zh3 x≠0):65536<bl x.natAbs:=by
 unfold Zh3 at h;split at h
 .assumption
 .exact absurd rfl h
theorem Zio(h:Zh3 x=0):bl x.natAbs<=65536:=by
 unfold Zh3 at h;split at h
 .omega
 .omega
theorem Zrm(c:Zh3 (x/Lb x y)=0)(d:Zh3 (y/Lb x y)=0):Zas x y= .tuple #[.agg #[.bool (decide (Zag (x/Lb x y)<0)),.string (Xu (Zag (x/Lb x y)).natAbs),.bool (decide (Zag (y/Lb x y)<0)),.string (Xu (Zag (y/Lb x y)).natAbs)],.int .i64 0]:=by
 have a:¬Kc x y:=λh=>by have:=Zio c;have:=Zio d;unfold Kc at h;omega
 unfold Zas Eh Fj Ydp;rw [aE a,aE a,aE a,Kx (Zio c),Kx (Zio d)]
def okR(b:Bool)(s:ByteArray)(c:Bool)(t:ByteArray):Bool:=okW b s && okW c t && (!c && decide (0<t.size))
theorem Zof(z:Int):(!decide (z<0) && decide (0<(Xu z.natAbs).size))=decide (0<z):=by rw [kY,aO,Et,fK,fK];have:=Pn (by omega:2<=256) z.natAbs;simp only [fP,gI];omega
theorem Fg(z:Int):decide (0<z.sign)=decide (0<z):=by
 rw [bQ];rcases kH z 0 with h|h|h
 .rw [eQ h];omega
 .subst h;simp
 .rw [fQ h];omega
theorem Zr1{s:ByteArray}{z:Int}(a:okW b s=true)(c:bl z.natAbs<=65536):okR b s (decide (z<0)) (Xu z.natAbs)=decide (0<z.sign):=by unfold okR;rw [a,Zbt c,Zof,Fg];rfl
theorem okR_wv(c:bl x.natAbs<=65536)(d:bl y.natAbs<=65536)(a:0<y):okR (decide (x<0)) (Xu x.natAbs) (decide (y<0)) (Xu y.natAbs)=true:=by unfold okR;rw [Zbt c,Zbt d,Zof];simp [a]
theorem Yeh{c:Bool}{s t:ByteArray}(h:okR b s c t=true):∃x y:Int,bl x.natAbs<=65536/\bl y.natAbs<=65536/\0<y/\b=decide (x<0)/\s=Xu x.natAbs/\c=decide (y<0)/\t=Xu y.natAbs:=by unfold okR at h;rw [aO,aO]at h;obtain⟨⟨d,e⟩,a⟩:=h;obtain⟨x,g,rfl,rfl⟩:=Zon d;obtain⟨y,i,rfl,rfl⟩:=Zon e;rw [Zof]at a;exact⟨x,y,g,i,bL a,rfl,rfl,rfl,rfl⟩
open Go.RowKit (Below)
def Sz(n:Nat)(p:List Int):Prop:=∀i,bl (cf p i).natAbs<=n
def Sz.getD{n:Nat}(h:Sz n p)(i:Nat):bl (p.getD i 0).natAbs<=n:=h i
def Sz.mono{n m:Nat}(h:Sz n p)(a:n<=m):Sz m p:=λi=>aB (h i) a
theorem Sz.tzl{n:Nat}(h:Sz n p):Sz n (tzl p):=λi=>by rw [Ky];exact h i
theorem Sz.nil(n:Nat):Sz n []:=λi=>by simp [cf,Ka]
theorem Sz.take{n:Nat}(h:Sz n p)(k:Nat):Sz n (p.take k):=λi=>by
 rw [Fr];split
 .exact h i
 .simp [Ka]
theorem Sz.mem{n:Nat}(h:Sz n p)(a:x∈p):bl x.natAbs<=n:=by obtain⟨i,hi,rfl⟩:=eT.1 a;have:=h i;rwa [Zce hi]at this
theorem Sz.of_mem{n:Nat}(h:∀x∈p,bl x.natAbs<=n):Sz n p:=λi=>by
 rcases bC i p.length with hi|hi
 .rw [Zce hi];exact h _ (eY hi)
 .rw [Yk hi];simp [Ka]
structure Vp (p:List Int):Prop where
 sz:Sz 65536 p
 tr:Tr p
 len:p.length<=25
def wr(x:Int):Bool×ByteArray:=(decide (x<0),Xu x.natAbs)
def okP(r:List (Bool×ByteArray)):Bool:=r.all (λw=>okW w.1 w.2) && (decide (r.length<=25) && (decide (r.length=0) || decide ((r.getD (r.length-1) (false,⟨#[]⟩)).2.size≠0)))
theorem Zem : (Xu x.natAbs).size=0↔x=0:=by rw [Et];have:=Pn (by omega:2<=256) x.natAbs;omega
theorem Zb4(xs:List Int)(i:Nat)(h:i<xs.length):(xs.map wr).getD i (false,⟨#[]⟩)=wr (cf xs i):=by rw [Zce h];simp [List.getD,h]
theorem okP_wr(h:Vp xs):okP (xs.map wr)=true:=by
 unfold okP;rw [aO,aO,mW];refine⟨cL.2 λw e=>?_,by simpa using h.len,?_⟩
 .obtain⟨x,g,rfl⟩:=eN.1 e;exact Zbt (h.sz.mem g)
 .rcases h.tr with a|a
  .left;simp [a]
  .right;have i:0<xs.length:=by
    rcases aU xs.length with c|c
    .rw [Yk O1]at a;exact absurd rfl a
    .exact c
   rw [aW,Zb4 _ _ O1];refine aM λd=>a (Zem.1 d)
theorem Zr0{r:List (Bool×ByteArray)}(h:∀w∈r,okW w.1 w.2=true):∃xs:List Int,(∀x∈xs,bl x.natAbs<=65536)/\r=xs.map wr:=by
 induction r with
 | nil=>exact⟨[],O7,rfl⟩
 | cons w r l=>
  obtain⟨xs,c,d⟩:=l λu i=>h u (bF _ i);obtain⟨x,j,e,g⟩:=Zon (h w (bT ..));refine⟨x::xs,λy a=>?_,?_⟩
  .rcases bJ.1 a with rfl|a
   .exact j
   .exact c y a
  .rw [cP,<-d,wr,<-e,<-g]
theorem okP_ex{r:List (Bool×ByteArray)}(h:okP r=true):∃xs:List Int,Vp xs/\r=xs.map wr:=by
 unfold okP at h;rw [aO,aO,mW]at h;obtain⟨d,e,a⟩:=h;obtain⟨xs,g,rfl⟩:=Zr0 (cL.1 d);refine⟨xs,⟨Sz.of_mem g,?_,by simpa using e⟩,rfl⟩;rcases a with a|a
 .left;exact aD (by simpa using a)
 .rcases aU xs.length with c|c
  .left;exact aD c
  .right;rw [aW,Zb4 _ _ O1]at a;exact λi=>bL a (Zem.2 i)
theorem Zjd{j:Nat}(h:j<k)(a:(xs.take k).getD j 0=0):cf xs j=0:=by rw [Zc8 _ _ _ _ h]at a;exact a
theorem Ze0{j:Nat}(h:j<k)(a:¬((xs.take k).getD j 0).sign=0):cf xs j≠0:=λe=>a (by rw [Zc8 _ _ _ _ h];rw [show xs.getD j 0=0 from e];rfl)
theorem Ykh{r:List (Bool×ByteArray)}{w:Bool×ByteArray}(a:w∈r)(h:okW w.1 w.2=false):okP r=false:=by unfold okP;rw [show r.all (λw=>okW w.1 w.2)=false from List.all_eq_false.2 ⟨w,a,by simp [h]⟩];rfl
theorem Zoo(h:∀x∈xs,bl x.natAbs<=65536):okP (xs.map wr)=(decide (xs.length<=25) && (decide (xs.length=0) || decide (¬(xs.getD (xs.length-1) 0).sign=0))):=by
 unfold okP;rw [show(xs.map wr).all (λw=>okW w.1 w.2)=true from cL.2 λw c=>by obtain⟨x,d,rfl⟩:=eN.1 c;exact Zbt (h x d)]
 rw [aW,nU];congr 1;by_cases a:xs.length=0
 .simp [a]
 .rw [aJ a,Bool.false_or,Bool.false_or,Zb4 _ _ O1];rw [bQ,fC];exact not_congr Zem
def err(e x:Int):Int:=if e=0 then Zh3 x else e
theorem Zu7(h:bl x.natAbs<=65536):err 0 x=0:=by unfold err;rw [aH rfl,Zo8 h]
def Qm:List Int->Nat
 | []=>0
 | x::r=>max (bl x.natAbs) (Qm r)
theorem Kf(p:List Int):Sz (Qm p) p:=by
 refine Sz.of_mem λx a=>?_
 induction p with
 | nil=>cases a
 | cons y r c=>
  rcases bJ.1 a with rfl|h
  .simp only [Qm];omega
  .have:=c h;simp only [Qm];omega
theorem Pm{n:Nat}(h:Sz n p):Qm p<=n:=by
 have c:∀x∈p,bl x.natAbs<=n:=λx a=>h.mem a;clear h
 induction p with
 | nil=>exact bG _
 | cons y r d=>
  have:=c y (bT ..);have:=d λx a=>c x (bF _ a);simp only [Qm];omega
theorem Yet(p:List Int)(x:Int):Qm (p ++ [x])=max (Qm p) (bl x.natAbs):=by
 induction p with
 | nil=>simp [Qm]
 | cons y r a=>simp only [iL,Qm,a];omega
variable {P:Program} {N:Nat} {sc:Nat->Prop} {env env':Qt} {H H':Hp} {Q Q':Exit->Act->World->Prop} {M:Nat->Prop}
theorem fpm{α β:Type}{f:α->β}{xs:List α}{p:Prop}(h:xs.map f≠[]/\p):xs≠[]/\p:=⟨λe=>h.1 (by rw [e];rfl),h.2⟩
def fpn{α β:Type}{f:α->β}{xs:List α}{p:Prop}(h:xs≠[]/\p):xs.map f≠[]/\p:=⟨λe=>h.1 (List.map_eq_nil_iff.1 e),h.2⟩
theorem Zt5(v:Value)(xs:List Int)(w:World)(h:(Ym 2 wv v xs).holds w):(Ym 2 (λw:Bool×ByteArray=>Value.agg #[.bool w.1,.string w.2]) v (xs.map wr)).holds w:=by
 obtain⟨⟨a,c,l,m,n,d⟩,q⟩:=h;refine⟨⟨a,c,by rw [aW];exact l,by rw [aW];exact m,n,?_⟩,λb h=>q b (fpm h)⟩;rcases d with d|⟨g,e,d,o⟩
 .left;rw [d];rfl
 .right;refine⟨g,e,d,λi x hi j u r=>?_⟩;rw [fD]at hi;cases hx:xs[i]? with
  | none=>rw [hx]at hi;cases hi
  | some y=>rw [hx]at hi;cases hi;exact o i y hx j u r
theorem Yjh(v:Value)(xs:List Int)(w:World)(h:(Ym 2 (λw:Bool×ByteArray=>Value.agg #[.bool w.1,.string w.2]) v (xs.map wr)).holds w):(Ym 2 wv v xs).holds w:=by
 obtain⟨⟨a,c,l,m,n,d⟩,q⟩:=h;rw [aW]at l m;refine⟨⟨a,c,l,m,n,?_⟩,λb h=>q b (fpn h)⟩;rcases d with d|⟨g,e,d,o⟩
 .left;simpa using d
 .right;refine⟨g,e,d,λi x hi j u r=>?_⟩;exact o i (wr x) (by rw [fD,hi];rfl) j u r
theorem Cal.imp{p q:Pc}{al:Bool}{G:Type}{φ:G->Prop}{Ye:G->Value}{i:G->List Pc}(h:Cal P f args (p::pre) al φ Ye i)(F:∀w,q.holds w->p.holds w)(z:∀b,p.fp b->q.fp b) :
  Cal P f args (q::pre) al φ Ye i:=λw m=>by
 refine(h w λr a=>?_).mono ?_
 .rcases bJ.1 a with rfl|a
  .exact F w (m q (bT ..))
  .exact m r (bF _ a)
 .rintro e S ⟨g,v,B,j,c⟩;refine⟨g,v,B,j,λI l=>?_⟩;obtain⟨n,o,u⟩:=c I l;refine⟨n,o,λb j=>?_⟩;rcases u b j with h|⟨h,r,a,d⟩
  .exact .inl h
  .refine .inr ⟨h,?_⟩;rcases bJ.1 a with rfl|a
   .exact⟨q,bT ..,z b d⟩
   .exact⟨r,bF _ a,d⟩
end Go.Sky
namespace Go.Sky
variable{k m i:Nat}{f:Nat->Int}{xs:List Int}
def fill(n k:Nat)(f:Nat->Int):List Int:=mk n λi=>if i<k then f i else 0
def Qn(n k:Nat)(f:Nat->Int):(fill n k f).length=n:=Yj _ _
theorem Zb5{n:Nat}(h:k<n):(fill n k f).set k (f k)=fill n (k+1) f:=Kg (by simp [Qn]) λi hi=>by
 rw [cH,Qn]at hi;rw [Zli _ _ _ _ (by rw [Qn];exact h)];unfold fill;rw [Ng,Ng,aH hi,aH hi];by_cases b:i=k
 .subst b;rw [aH rfl,aH O1]
 .rw [aE b];by_cases a:i<k
  .rw [aH a,aH O1]
  .rw [aE a,aE O1]
theorem Cn(n:Nat)(f:Nat->Int):List.replicate n 0=fill n 0 f:=Kg (by simp [Qn]) λi hi=>by rw [aV]at hi;unfold fill;rw [Ng,aH hi,aE O1,Zce (by simpa using hi)];simp
theorem Fo(n:Nat)(f:Nat->Int):fill n n f=mk n f:=Ge λi hi=>by rw [aH hi]
theorem Yeu(xs:List Int)(g:Int->Int):mk xs.length (λi=>g (cf xs i))=xs.map g:=Kg (by simp [Yj]) λi hi=>by rw [Yj]at hi;rw [Ng,aH hi,Zce hi,Zce (p:=xs.map g) (by simpa using hi)];simp
theorem Zdo{n:Nat}(h:∀i,i<n->bl (f i).natAbs<=m):Sz m (mk n f):=λi=>by
 rw [Ng];split
 .exact h i ‹_›
 .simp [Ka]
theorem Md{p:List Int}(h:Tr p):Tr (Yu p):=by
 unfold Yu;rcases bC 1 p.length with a|a
 .right;rw [Yj,Ng,aH O1];have c:=h.mem (by intro e;rw [e]at a;simp at a);rw [show p.length-1-1+1=p.length-1 by omega];intro d;rcases eX.1 d with b|b
  .exact c b
  .omega
 .left;exact aD (by rw [Yj];omega)
theorem Yai(xs:List Int)(c:Int):tzl (fill xs.length xs.length λi=>cf xs i*c)=Zl xs c:=by rw [Fo,Yeu xs (· * c)];rfl
theorem Ykc(h:Tr xs):tzl (fill (xs.length-1) (xs.length-1) λi=>cf xs (i+1)*((i:Int)+1))=Yu xs:=by rw [Fo];exact Ac (Md h)
theorem Yec{p:List Int}(h:p.length=0):Yu p=[]:=aD (by unfold Yu;rw [Yj];omega)
theorem Zj9(p:List Int)(x:Int):Ys (p ++ [x])=(Int.gcd (Ys p) x:Int):=by unfold Ys;rw [List.foldl_append];rfl
theorem Oq(p:List Int):0<=Ys p:=by
 rcases Zid p with rfl|⟨a,y,rfl⟩
 .exact eO _
 .rw [Zj9];omega
theorem Ih{p:List Int}(h:k<p.length):Ys (p.take (k+1))=(Int.gcd (Ys (p.take k)) (p.getD k 0):Int):=by rw [Ph 0 _ _ h,Zj9]
theorem Zrx{n:Nat} : ∀(p:List Int),Sz n p->bl (Ys p).natAbs<=n:=λp=>by
 have a:∀k,k<=p.length->Sz n p->bl (Ys (p.take k)).natAbs<=n:=by
  intro k
  induction k with
  | zero=>intro _ _;rw [eH];exact bG _
  | succ k d=>
   intro c hs;rw [Ih c];have e:=d O1 hs;have b:=hs k;have:=Zqc (Ys (p.take k)).natAbs (p.getD k 0).natAbs;have g:bl (p.getD k 0).natAbs<=n:=b;show bl (Nat.gcd _ _)<=n;omega
 intro hs;have:=a p.length (aI _) hs;rwa [bP]at this
theorem Mv(p:List Int):∀i,Ys p∣cf p i:=by
 have a:∀k,k<=p.length->∀i,i<k->Ys (p.take k)∣cf p i:=by
  intro k
  induction k with
  | zero=>intro _ i hi;omega
  | succ k c=>
   intro b i hi;rw [Ih b];rcases bC i k with h|h
   .exact fO (jL ..) (c O1 i h)
   .have:i=k:=O1;subst this;exact iE ..
 intro i;rcases bC i p.length with h|h
 .have:=a p.length (aI _) i h;rwa [bP]at this
 .rw [Yk h];exact jM _
theorem Zbr(p:List Int):Ys p=0↔∀i,cf p i=0:=by
 refine⟨λh i=>by have:=Mv p i;rw [h]at this;exact oF.1 this,λh=>?_⟩;have a:∀k,k<=p.length->Ys (p.take k)=0:=by
  intro k
  induction k with
  | zero=>intro _;rfl
  | succ k c=>
   intro b;rw [Ih b,c O1];have:=h k;rw [show p.getD k 0=0 from this];rfl
 have:=a p.length (aI _);rwa [bP]at this
theorem Gy{p:List Int}{d:Int}(h:∀i,d∣cf p i):d∣Ys p:=by
 have a:∀k,k<=p.length->d∣Ys (p.take k):=by
  intro k
  induction k with
  | zero=>intro _;exact jM _
  | succ k c=>
   intro b;rw [Ih b];exact Int.dvd_coe_gcd (c O1) (h k)
 have:=a p.length (aI _);rwa [bP]at this
theorem Zai(p:List Int)(i:Nat):cf (Zu p) i=cf p i/Ys p:=by unfold Zu;rw [Zcd _ _ O7]
theorem Zv(p:List Int):(Zu p).length=p.length:=by simp [Zu]
theorem Za0{x y:Int}{n:Nat}(h:y∣x)(b:bl x.natAbs<=n):bl (x/y).natAbs<=n:=by have a:(x/y).natAbs<=x.natAbs:=jP x y;exact aB (Pu a) b
theorem Yr{p:List Int}(h:Tr p):Tr (Zu p):=by
 rcases h with rfl|h
 .left;rfl
 .right;rw [Zai,Zv];intro a;have b:=Mv p (p.length-1);have:=kU b;rw [a,dP]at this;exact h this.symm
theorem Fd{n:Nat}{p:List Int}(h:Sz n p):Sz n (Zu p):=λi=>by rw [Zai];exact Za0 (Mv p i) (h i)
theorem Kz{p:List Int}(h:Vp p):Vp (Zu p):=⟨Fd h.sz,Yr h.tr,by rw [Zv];exact h.len⟩
def Vp.ne{p:List Int}(h:Vp p)(a:p≠[]):Ys p≠0:=λe=>h.tr.mem a ((Zbr p).1 e _)
def Kn(p:List Int)(n d:Int)(i:Nat):Int:=Yd (λm=>cf p (i+m)*(n^m*d^(p.length-1-(i+m)))) (p.length-i)
theorem Zsn(p:List Int)(n d:Int):Kn p n d 0=pev p n d:=by unfold Kn pev;simp only [bW,iR]
theorem Yk4{p:List Int}(n d:Int)(h:0<p.length):Kn p n d (p.length-1)=cf p (p.length-1):=by unfold Kn;rw [show p.length-(p.length-1)=0+1 by omega,Yf,Mz];simp
theorem Yff{p:List Int}(n d:Int)(h:i<p.length):Kn p n d i=Kn p n d (i+1)*n+cf p i*d^(p.length-1-i):=by
 unfold Kn;rw [show p.length-i=p.length-(i+1)+1 by omega,Mt];rw [<-Zjf];have:Yd (λm=>cf p (i+(m+1))*(n^(m+1)*d^(p.length-1-(i+(m+1))))) (p.length-(i+1))=Yd (λm=>cf p (i+1+m)*(n^m*d^(p.length-1-(i+1+m)))*n) (p.length-(i+1)):=
  Yp λm a=>by rw [show i+(m+1)=i+1+m by omega,dK];grind
 rw [this];simp only [eE,cT,fF];omega
theorem Yhu{K:Nat}{f:Nat->Int} : ∀{n:Nat},(∀i,i<n->bl (f i).natAbs<=K)->(Yd f n).natAbs<=n*(2^K-1)
 | 0,_=>by simp [Yd]
 | n+1,h=>by have b:=Yhu (n:=n) λi hi=>h i O1;have a:=(Xz K _).1 (h n O1);rw [Yf,bK];have:=lX (Yd f n) (f n);omega
theorem Ziw{K:Nat}{n:Nat}(h:∀i,i<n->bl (f i).natAbs<=K)(a:n<=31):bl (Yd f n).natAbs<=K+5:=by rw [Xz];have b:=Yhu h;have c:n*(2^K-1)<=31*(2^K-1):=aN _ a;have d:0<2^K:=dO K;rw [bR];omega
theorem Dd(x:Int){m:Nat}(h:bl x.natAbs<=m):∀k,0<k->bl (x^k).natAbs<=k*m
 | 0,a=>O1
 | 1,_=>by rw [dK,cT,fF,nK];exact h
 | k+2,_=>by have b:=Dd x h (k+1) O1;rw [dK,show k+2=(k+1)+1 from rfl,bK (k+1) 1 m];have:=Xe (x^(k+1)) x;omega
theorem Ziv{a n d:Int}{A j:Nat}(l:bl a.natAbs<=A)(h:bl n.natAbs<=m)(g:bl d.natAbs<=m):bl (a*(n^i*d^j)).natAbs<=A+(i+j)*m:=by
 rcases aU i with rfl|hi
 .rcases aU j with rfl|c
  .simp;exact l
  .have e:=Dd d g j c;have b:=Xe a (n^0*d^j);rw [cT,fF]at b ⊢;rw [bW];omega
 .rcases aU j with rfl|c
  .have e:=Dd n h i hi;have b:=Xe a (n^i*d^0);rw [cT,iF]at b ⊢;rw [eE];omega
  .have e:=Dd n h i hi;have b:=Dd d g j c;have o:=Xe (n^i) (d^j);have p:=Xe a (n^i*d^j);rw [bK];omega
theorem Yhw{p:List Int}{n d:Int}{A:Nat}(e:Sz A p)(c:bl n.natAbs<=m)(b:bl d.natAbs<=m)(h:p.length<=31)(i:Nat):bl (Kn p n d i).natAbs<=A+(p.length-1-i)*m+5:=by unfold Kn;refine Ziw (λk g=>?_) O1;have a:=Ziv (i:=k) (j:=p.length-1-(i+k)) (e (i+k)) c b;rw [show k+(p.length-1-(i+k))=p.length-1-i by omega]at a;exact a
def Lv(p:List Int)(n d:Int):Prop:=p≠[]/\65536<Qm p+(p.length-1)*Qm [n,d]+8
instance (p:List Int) (n d:Int):Decidable (Lv p n d):=by unfold Lv;infer_instance
def evv(p:List Int)(n d:Int):Int:=if Lv p n d then 0 else pev p n d
def eve(p:List Int)(n d:Int):Int:=if Lv p n d then 7 else 0
abbrev wc (x:Int):Array Value:=#[.bool (decide (x<0)),.string (Xu x.natAbs)]
section
variable {p:List Int} {n d:Int} (hF:Qm p+(p.length-1)*Qm [n,d]+8<=65536) (hl:p.length<=25)
include hF
theorem Zhv:bl n.natAbs<=Qm [n,d]/\bl d.natAbs<=Qm [n,d]:=by simp only [Qm];omega
theorem Zpk : bl (d^(p.length-1-k)).natAbs<=65536:=by
 rcases aU (p.length-1-k)with h|h
 .rw [h,cT];decide
 .have a:=Dd d (Zhv hF).2 _ h;have b:(p.length-1-k)*Qm [n,d]<=(p.length-1)*Qm [n,d]:=aN _ O1;omega
theorem Zpj : bl (cf p k*d^(p.length-1-k)).natAbs<=65536:=by have a:=Ziv (i:=0) (j:=p.length-1-k) (Kf p k) (Zhv hF).1 (Zhv hF).2;have b:(0+(p.length-1-k))*Qm [n,d]<=(p.length-1)*Qm [n,d]:=aN _ O1;rw [cT,fF]at a;omega
include hl
theorem Zpl(k:Nat):bl (Kn p n d k).natAbs<=65536:=by have a:=Yhw (Kf p) (Zhv hF).1 (Zhv hF).2 O1 k;have b:(p.length-1-k)*Qm [n,d]<=(p.length-1)*Qm [n,d]:=aN _ O1;omega
theorem Zu6(a:1<=k)(b:k<=p.length-1):bl (Kn p n d k*n).natAbs<=65536:=by
 have c:=Yhw (Kf p) (Zhv hF).1 (Zhv hF).2 O1 k;have e:=Xe (Kn p n d k) n;have g:=(Zhv hF).1;have h:(p.length-1-k)*Qm [n,d]+Qm [n,d]<=(p.length-1)*Qm [n,d]:=by rw [<-eF];exact aN _ O1
 omega
end
theorem evv_bl{p:List Int}{n d:Int}(hl:p.length<=25):bl (evv p n d).natAbs<=65536:=by
 unfold evv;split
 .decide
 .rename_i h;rcases aU p.length with a|a
  .rw [aD a,show pev [] n d=0 from rfl];decide
  .rw [<-Zsn];have c:p≠[]:=λe=>by rw [e]at a;simp at a
   exact Zpl (Nat.le_of_not_lt λb=>h ⟨c,b⟩) hl 0
theorem Yd3(d:Int){L:Nat}(a:1<=k)(b:k<=L):d^(L-k)*d=d^(L-(k-1)):=by rw [show L-(k-1)=L-k+1 by omega,dK]
theorem Ya3{p:List Int}(n d:Int)(a:1<=k)(b:k<=p.length-1):Kn p n d k*n+cf p (k-1)*d^(p.length-1-(k-1))=Kn p n d (k-1):=by rw [Yff n d (i:=k-1) O1,show k-1+1=k by omega]
end Go.Sky
namespace Go.Sky
variable{k i B t:Nat}{f:Nat->Int}{q r c R:List Int}{a b:Int}
def acc(p q:List Int)(i t:Nat):Int:=Yd (λk=>if k<=t then cf p k*cf q (t-k)else 0) i
def Zaj(p q:List Int)(i j t:Nat):Int:=acc p q i t+if i<=t/\t<i+j then cf p i*cf q (t-i)else 0
theorem Ybl(p q:List Int)(i:Nat):Zaj p q i 0=acc p q i:=oP λt=>by unfold Zaj;rw [aE O1,fR]
theorem Yie(p q:List Int)(i:Nat):Zaj p q i q.length=acc p q (i+1):=oP λt=>by
 unfold Zaj acc;rw [Yf];by_cases h:i<=t
 .rw [aH h];by_cases d:t<i+q.length
  .rw [aH ⟨h,d⟩]
  .rw [aE (λh=>d h.2),Yk (p:=q) O1,dP]
 .rw [aE h,aE (λd=>h d.1)]
theorem Zkk{L:Nat}{g:Nat->Int}(j:k<L)(h:∀t,t<L->t≠k->f t=g t)(x:Int)(l:x=g k):(mk L f).set k x=mk L g:=Kg (by simp [Yj]) λt e=>by
 rw [cH,Yj]at e;rw [Zli _ _ _ _ (by rw [Yj];exact j),Ng,Ng,aH e];by_cases d:t=k
 .rw [aH d,d,l,aH j]
 .rw [aE d,aH e,h t e d]
theorem Yid{p:List Int}{L j:Nat}(h:i+j<L):(mk L (Zaj p q i j)).set (i+j) (Zaj p q i j (i+j)+cf p i*cf q j)=mk L (Zaj p q i (j+1)):=by
 refine Zkk h (λt g e=>?_) _ ?_
 .unfold Zaj;by_cases d:i<=t/\t<i+j
  .rw [aH d,aH O1]
  .rw [aE d,aE O1]
 .unfold Zaj;rw [aE O1,aH O1,fR,show i+j-i=j by omega]
theorem Ztu(p q:List Int)(t:Nat):acc p q p.length t=(ps p*ps q).c t:=by
 rw [PS.mul_c];unfold acc;have d:Yd (λk=>if k<=t then cf p k*cf q (t-k)else 0) (max (t+1) p.length)=Yd (λk=>if k<=t then cf p k*cf q (t-k)else 0) p.length:=
  Zco O1 λk d _=>by rw [Yk d,dB];split<;>rfl
 have e:Yd (λk=>if k<=t then cf p k*cf q (t-k)else 0) (max (t+1) p.length)=Yd (λk=>if k<=t then cf p k*cf q (t-k)else 0) (t+1):=
  Zco O1 λk d _=>by rw [aE O1]
 rw [<-d,e];exact Yp λk g=>by rw [aH O1];rfl
theorem Zuf(L:Nat):List.replicate L 0=mk L λ_=>0:=by rw [Cn L λ_=>0];unfold fill;exact Ge λi _=>by split<;>rfl
theorem Yd6(p q:List Int):tzl (mk (p.length+q.length-1) (acc p q p.length))=Qg p q:=by unfold Qg;congr 1;exact Ge λi _=>Ztu p q i
theorem Ymp{p:List Int}{A j:Nat}(g:Sz A p)(l:Sz B q)(hi:i<31):bl (Zaj p q i j t).natAbs<=A+B+5:=by
 have h:Zaj p q i j t=Yd (λk=>if k<i then(if k<=t then cf p k*cf q (t-k)else 0)else if i<=t/\t<i+j then cf p i*cf q (t-i)else 0) (i+1):=by rw [Yf];rw [aE (Nat.lt_irrefl i)];unfold Zaj acc;congr 1;exact Yp λk d=>by rw [aH d]
 rw [h];have e:∀a b,bl (cf p a*cf q b).natAbs<=A+B:=λa b=>by have:=Xe (cf p a) (cf q b);have:=g a;have:=l b;omega
 refine Ziw (λk d=>?_) O1;split
 .split
  .exact e _ _
  .simp [Ka]
 .split
  .exact e _ _
  .simp [Ka]
theorem bl_acc{p:List Int}{A:Nat}(d:Sz A p)(e:Sz B q)(hi:i<=31):bl (acc p q i t).natAbs<=A+B+5:=by
 refine Ziw (λk g=>?_) hi;split
 .have:=Xe (cf p k) (cf q (t-k));have:=d k;have:=e (t-k);omega
 .simp [Ka]
def Bo(p q:List Int):Prop:=p≠[]/\q≠[]/\(24<p.length+q.length-2\/65536<Qm p+Qm q+5)
instance (p q:List Int):Decidable (Bo p q):=by unfold Bo;infer_instance
theorem Zc9{L:Nat}(h:i<L):(mk L f).getD i 0=f i:=by have:=Ng L f i;rw [aH h]at this;exact this
def Ylp(p q:List Int):Bool:=decide (q≠[]) && decide (p.length<q.length)
def Cg(p q:List Int):Int:=if q.length=0 then 3 else if p.length<q.length then 0 else if 65536<Qm p+(p.length-q.length+1)*(Qm q+1)then 7 else 0
def Zhm(q r:List Int)(d:Nat):List Int:=
 mk r.length λt=>cf r t*cf q (q.length-1)-if d-(q.length-1)<=t/\t<d-(q.length-1)+q.length then cf r d*cf q (t-(d-(q.length-1)))else 0
def Ql(p q:List Int):Nat->List Int
 | 0=>p
 | j+1=>Zhm q (Ql p q j) (p.length-1-j)
def Zft(q r:List Int)(d:Nat):(Zhm q r d).length=r.length:=Yj _ _
theorem Mu(p q:List Int):∀j,(Ql p q j).length=p.length
 | 0=>rfl
 | j+1=>by unfold Ql;rw [Zft,Mu p q j]
def Qb(p q:List Int):List Int:=if p.length<q.length then p else tzl (Ql p q (p.length-q.length+1))
theorem Ztj{d:Nat}(e:t<r.length):cf (Zhm q r d) t=cf r t*cf q (q.length-1)-if d-(q.length-1)<=t/\t<d-(q.length-1)+q.length then cf r d*cf q (t-(d-(q.length-1)))else 0:=by unfold Zhm;rw [Ng,aH e]
theorem Zzd{c d:Int}{A:Nat}(j:bl a.natAbs<=A)(l:bl b.natAbs<=B)(m:bl c.natAbs<=A)(n:bl d.natAbs<=B):bl (a*b-c*d).natAbs<=A+(B+1):=by have e:=Xe a b;have g:=Xe c d;have h:=Bx (a*b) (c*d);omega
theorem Yca{A:Nat}(e:Sz A r)(d:Sz B q)(g:Nat):Sz (A+(B+1)) (Zhm q r g):=by
 unfold Zhm;refine Zdo λt h=>?_;split
 .exact Zzd (e t) (d _) (e _) (d _)
 .rw [iG];have:=Xe (cf r t) (cf q (q.length-1));have:=e t;have:=d (q.length-1);omega
theorem Zgl(p q:List Int):∀j,Sz (Qm p+j*(Qm q+1)) (Ql p q j)
 | 0=>by rw [gM];exact Kf p
 | j+1=>by unfold Ql;rw [eF,<-fX];exact Yca (Zgl p q j) (Kf q) _
def dq(q r:List Int)(k:Nat):Int:=cf r (k+q.length-1)/cf q (q.length-1)
def Zk8(q r:List Int)(k:Nat):List Int:=mk r.length λt=>cf r t-if k<=t/\t<k+q.length then dq q r k*cf q (t-k)else 0
def Qo(p q:List Int):Nat->List Int
 | 0=>p
 | j+1=>Zk8 q (Qo p q j) (p.length-q.length-j)
theorem Aj(p q:List Int):∀j,(Qo p q j).length=p.length
 | 0=>rfl
 | j+1=>by unfold Qo Zk8;rw [Yj,Aj p q j]
def Zyj(p q:List Int)(k:Nat):Int:=dq q (Qo p q (p.length-q.length-k)) k
def Im(p q:List Int)(k:Nat):Prop:=cf (Qo p q (p.length-q.length-k)) (k+q.length-1)%cf q (q.length-1)=0
def Yd0(p q:List Int):List Int:=tzl (mk (p.length-q.length+1) (Zyj p q))
def pdivs(p q:List Int):Prop:=p=[]\/(q.length<=p.length/\(∀k,k<=p.length-q.length->Im p q k)/\∀i,cf (Qo p q (p.length-q.length+1)) i=0)
theorem Ycc{A:Nat}(d:Sz A r)(g:Sz B q)(k:Nat)(e:cf r (k+q.length-1)%cf q (q.length-1)=0):Sz (A+(B+1)) (Zk8 q r k):=by
 unfold Zk8;refine Zdo λt m=>?_;split
 .have h:bl (dq q r k).natAbs<=A:=Za0 (mK e) (d _);have j:=Xe (dq q r k) (cf q (t-k));have l:=Bx (cf r t) (dq q r k*cf q (t-k));have:=d t;have:=g (t-k);omega
 .rw [iG];have:=d t;omega
theorem Zgn(p q:List Int):∀j,j<=p.length-q.length+1->(∀k,p.length-q.length<k+j->k<=p.length-q.length->Im p q k)->Sz (Qm p+j*(Qm q+1)) (Qo p q j)
 | 0,_,_=>by rw [gM];exact Kf p
 | j+1,g,h=>by unfold Qo;rw [eF,<-fX];refine Ycc (Zgn p q j O1 λk e d=>h k O1 d) (Kf q) _ ?_;have:=h (p.length-q.length-j) O1 O1;unfold Im at this;rw [show p.length-q.length-(p.length-q.length-j)=j by omega]at this;exact this
theorem Ygd{x y:Bool×ByteArray}(h:eqW x.1 x.2 y.1 y.2=true):x=y:=by obtain⟨d,e⟩:=Zpn.1 h;exact Prod.ext d e
def Ygc(a:Bool)(s:ByteArray):eqW a s a s=true:=Zpn.2 ⟨rfl,rfl⟩
theorem Ybm(p q:List Int)(i j:Nat):Zaj p q i (j+1) (i+j)=Zaj p q i j (i+j)+cf p i*cf q j:=by unfold Zaj;rw [aH O1,aE O1,fR,show i+j-i=j by omega]
theorem Zfh{p:List Int}(h:p.length=0\/q.length=0):Qg p q=[]:=by
 unfold Qg;refine(Lh _).2 λi=>?_;rw [Ng];split
 .rw [PS.mul_c];refine Fe λk _=>?_;rcases h with h|h
  .rw [Nc,Yk O1,dB]
  .rw [Nc,Nc,Yk (p:=q) O1,dP]
 .rfl
def Zh1(R:List Int)(l:Int)(i:Nat):List Int:=mk R.length λt=>if t<i then cf R t*l else cf R t
def Zl0(q R:List Int)(l c:Int)(s i:Nat):List Int:=mk R.length λt=>cf R t*l-if s<=t/\t<s+i then c*cf q (t-s)else 0
def Zsd(R:List Int)(l:Int)(i:Nat):(Zh1 R l i).length=R.length:=Yj _ _
def Zsc(q R:List Int)(l c:Int)(s i:Nat):(Zl0 q R l c s i).length=R.length:=Yj _ _
theorem Yar(R:List Int)(l:Int):Zh1 R l 0=R:=by unfold Zh1;refine Eq.trans (Ge λi hi=>?_) (Zc3 R);rw [aE O1]
theorem Yes{l:Int}(h:i<R.length):(Zh1 R l i).getD i 0=cf R i:=by unfold Zh1;rw [Zc9 h,aE O1]
theorem Yer{l:Int}(h:i<R.length):(Zh1 R l i).set i (cf R i*l)=Zh1 R l (i+1):=by
 unfold Zh1;refine Zkk h (λt g e=>?_) _ (by rw [aH O1]);by_cases d:t<i
 .rw [aH d,aH O1]
 .rw [aE d,aE O1]
theorem Zz0(q R:List Int)(l c:Int)(s:Nat):Zh1 R l R.length=Zl0 q R l c s 0:=by unfold Zh1 Zl0;exact Ge λi hi=>by rw [aH hi,aE O1,iG]
theorem Ycg{l c:Int}{s:Nat}(h:s+i<R.length):(Zl0 q R l c s i).getD (s+i) 0=cf R (s+i)*l:=by unfold Zl0;rw [Zc9 h,aE O1,iG]
theorem Ycf{l c:Int}{s:Nat}(h:s+i<R.length):(Zl0 q R l c s i).set (s+i) (cf R (s+i)*l-c*cf q i)=Zl0 q R l c s (i+1):=by
 unfold Zl0;refine Zkk h (λt g e=>?_) _ (by rw [aH O1,show s+i-s=i by omega]);by_cases d:s<=t/\t<s+i
 .rw [aH d,aH O1]
 .rw [aE d,aE O1]
theorem rest_b{p:List Int}{j:Nat}(g:Qm p+(p.length-q.length+1)*(Qm q+1)<=65536)(h:j<p.length-q.length+1) :
  (∀t,bl (cf (Ql p q j) t).natAbs<=65536)/\(∀t i,bl (cf (Ql p q j) t*cf q i).natAbs<=65536)/\(∀t i t2 i2,bl (cf (Ql p q j) t*cf q i-cf (Ql p q j) t2*cf q i2).natAbs<=65536):=by
 have d:=Zgl p q j;have e:j*(Qm q+1)+(Qm q+1)<=(p.length-q.length+1)*(Qm q+1):=by rw [<-eF];exact aN _ O1
 refine⟨λt=>by have:=d t;omega,λt i=>?_,λt i t2 i2=>?_⟩
 .have:=d t;have:=Kf q i;have:=Xe (cf (Ql p q j) t) (cf q i);omega
 .have:=Zzd (d t) (Kf q i) (d t2) (Kf q i2);omega
def Zq0{p:List Int}(d:Qm p+(p.length-q.length+1)*(Qm q+1)<=65536):Sz 65536 (Ql p q (p.length-q.length+1)):=(Zgl p q _).mono d
theorem Zdb{p:List Int}(h:Cg p q=0):q.length≠0/\(q.length<=p.length->Qm p+(p.length-q.length+1)*(Qm q+1)<=65536):=by
 unfold Cg at h;split at h
 .omega
 .refine⟨‹_›,λd=>?_⟩;rw [aE O1]at h;split at h
  .omega
  .omega
theorem Zf6{p:List Int}(h:q.length≠0):Ylp p q=decide (p.length<q.length):=by unfold Ylp;have d:q≠[]:=λe=>h (by rw [e];rfl);simp [d]
def Zl7(q R:List Int)(c:Int)(k i:Nat):List Int:=mk R.length λt=>cf R t-if k<=t/\t<k+i then c*cf q (t-k)else 0
def Zse(q R:List Int)(c:Int)(k i:Nat):(Zl7 q R c k i).length=R.length:=Yj _ _
theorem Ya7(q R:List Int)(c:Int)(k:Nat):R=Zl7 q R c k 0:=by unfold Zl7;refine Eq.trans (Zc3 R).symm (Ge λi hi=>?_);rw [aE O1,iG]
theorem Ygl{c:Int}(h:k+i<R.length):(Zl7 q R c k i).getD (k+i) 0=cf R (k+i):=by unfold Zl7;rw [Zc9 h,aE O1,iG]
theorem Ygk{c:Int}(h:k+i<R.length):(Zl7 q R c k i).set (k+i) (cf R (k+i)-c*cf q i)=Zl7 q R c k (i+1):=by
 unfold Zl7;refine Zkk h (λt g e=>?_) _ (by rw [aH O1,show k+i-k=i by omega]);by_cases d:k<=t/\t<k+i
 .rw [aH d,aH O1]
 .rw [aE d,aE O1]
def Zg7(p q:List Int)(j:Nat):List Int:=mk (p.length-q.length+1) λt=>if p.length-q.length<t+j then Zyj p q t else 0
def Zby(p q:List Int)(j:Nat):(Zg7 p q j).length=p.length-q.length+1:=Yj _ _
theorem Yba(p q:List Int):List.replicate (p.length-q.length+1) 0=Zg7 p q 0:=by rw [Zuf];unfold Zg7;exact Ge λi hi=>by rw [aE O1]
theorem Ygo{p:List Int}{j:Nat}(g:j<p.length-q.length+1):(Zg7 p q j).set (p.length-q.length-j) (dq q (Qo p q j) (p.length-q.length-j))=Zg7 p q (j+1):=by
 unfold Zg7;refine Zkk O1 (λt h e=>?_) _ ?_
 .by_cases d:p.length-q.length<t+j
  .rw [aH d,aH O1]
  .rw [aE d,aE O1]
 .rw [aH O1];unfold Zyj;rw [show p.length-q.length-(p.length-q.length-j)=j by omega]
theorem Zf5(p q:List Int):tzl (Zg7 p q (p.length-q.length+1))=Yd0 p q:=by unfold Zg7 Yd0;congr 1;exact Ge λi hi=>by rw [aH O1]
def pdv(p q:List Int):Prop:=p=[]\/(q.length<=p.length/\(∀k,k<=p.length-q.length->Im p q k)/\tzl (Qo p q (p.length-q.length+1))=[])
instance (p q:List Int) (k:Nat):Decidable (Im p q k):=by unfold Im;infer_instance
instance (p q:List Int):Decidable (pdv p q):=by unfold pdv;infer_instance
theorem div_b{p:List Int}{j:Nat}(n:Qm p+(p.length-q.length+1)*(Qm q+1)<=65536)(o:j<p.length-q.length+1)(h:∀k,p.length-q.length<k+j->k<=p.length-q.length->Im p q k) :
  (∀t,bl (cf (Qo p q j) t).natAbs<=65536)/\(Im p q (p.length-q.length-j)->bl (dq q (Qo p q j) (p.length-q.length-j)).natAbs<=65536/\(∀i,bl (dq q (Qo p q j) (p.length-q.length-j)*cf q i).natAbs<=65536)/\
   ∀t i,bl (cf (Qo p q j) t-dq q (Qo p q j) (p.length-q.length-j)*cf q i).natAbs<=65536):=by
 have d:=Zgn p q j O1 h;have l:j*(Qm q+1)+(Qm q+1)<=(p.length-q.length+1)*(Qm q+1):=by rw [<-eF];exact aN _ O1
 refine⟨λt=>by have:=d t;omega,λe=>?_⟩;unfold Im at e;rw [show p.length-q.length-(p.length-q.length-j)=j by omega]at e;have m:bl (dq q (Qo p q j) (p.length-q.length-j)).natAbs<=Qm p+j*(Qm q+1):=Za0 (mK e) (d _);have g:∀i,bl (dq q (Qo p q j) (p.length-q.length-j)*cf q i).natAbs<=Qm p+j*(Qm q+1)+Qm q:=λi=>by have:=Xe (dq q (Qo p q j) (p.length-q.length-j)) (cf q i);have:=Kf q i;omega
 refine⟨O1,λi=>by have:=g i;omega,λt i=>?_⟩;have:=Bx (cf (Qo p q j) t) (dq q (Qo p q j) (p.length-q.length-j)*cf q i);have:=g i;have:=d t;omega
theorem Zwf{p:List Int}(g:Qm p+(p.length-q.length+1)*(Qm q+1)<=65536)(e:∀k,k<=p.length-q.length->Im p q k)(j:Nat):Sz 65536 (Zg7 p q j):=by
 unfold Zg7;refine Zdo λt l=>?_;split
 .have d:=(div_b g (j:=p.length-q.length-t) O1 (λk _ h=>e k h)).2;rw [show p.length-q.length-(p.length-q.length-t)=t by omega]at d;exact(d (e t O1)).1
 .simp [Ka]
def Ycd{p:List Int}(d:Qm p+(p.length-q.length+1)*(Qm q+1)<=65536)(g:∀k,k<=p.length-q.length->Im p q k):Sz 65536 (Qo p q (p.length-q.length+1)):=
 (Zgn p q _ (aI _) λk _ e=>g k e).mono d
def Ms(p:List Int)(a b d:Int):Nat->List Int
 | 0=>[cf p (p.length-1)]
 | j+1=>mk ((Ms p a b d j).length+1) λt=>cf (Ms p a b d j) t*a+(if t=0 then cf p (p.length-2-j)*d^(j+1)else cf (Ms p a b d j) (t-1)*b)
def Er(p:List Int)(a b d:Int):Ms p a b d 0=[cf p (p.length-1)]:=rfl
def Ybf(p:List Int)(a b d:Int)(j:Nat):Ms p a b d (j+1)=mk ((Ms p a b d j).length+1) (λt=>cf (Ms p a b d j) t*a+(if t=0 then cf p (p.length-2-j)*d^(j+1)else cf (Ms p a b d j) (t-1)*b)):=rfl
theorem Zbz(p:List Int)(a b d:Int):∀j,(Ms p a b d j).length=j+1
 | 0=>rfl
 | j+1=>by unfold Ms;rw [Yj,Zbz p a b d j]
def Ke(p:List Int)(a b d:Int):List Int:=if p.length=0 then []else tzl (Ms p a b d (p.length-1))
def Zlc(p:List Int)(a b d:Int):Prop:=p≠[]/\65536<Qm p+(p.length-1)*(Qm [a,b,d]+1)+8
instance (p:List Int) (a b d:Int):Decidable (Zlc p a b d):=by unfold Zlc;infer_instance
def Kd(p q:List Int):List Int:=if p=[]then []else Yd0 p q
def Zrp{p:List Int}(h:p≠[]):Kd p q=Yd0 p q:=aE h
theorem Zs0{p:List Int}{j:Nat}(d:j<=p.length-q.length):Im p q (p.length-q.length-j)↔cf (Qo p q j) (p.length-q.length-j+q.length-1)%cf q (q.length-1)=0:=by unfold Im;rw [show p.length-q.length-(p.length-q.length-j)=j by omega]
def Zti{x y:Int}(e:y≠0)(d:bl y.natAbs<=65536):Zag (x%y)=x%y:=Kx (aB (Zzf x y e) d)
def cnx(c:List Int)(a b:Int)(i:Nat):List Int:=mk (c.length+1) λt=>if t<i then cf c t*a+(if t=0 then 0 else cf c (t-1)*b)else if t=i/\0<i then cf c (t-1)*b else 0
def Ha(c:List Int)(a b:Int)(i:Nat):(cnx c a b i).length=c.length+1:=Yj _ _
theorem Yhg(c:List Int)(a b:Int):List.replicate (c.length+1) 0=cnx c a b 0:=by rw [Zuf];unfold cnx;exact Ge λi hi=>by rw [aE O1,aE O1]
theorem Zyw(h:i<c.length):(cnx c a b i).getD i 0=if i=0 then 0 else cf c (i-1)*b:=by
 unfold cnx;rw [Zc9 O1,aE O1];by_cases d:i=0
 .rw [aE O1,aH d]
 .rw [aH O1,aE d]
theorem Yly(h:i<c.length):((cnx c a b i).set i ((cnx c a b i).getD i 0+cf c i*a)).set (i+1) (cf c i*b)=cnx c a b (i+1):=Kg (by simp [Ha]) λt g=>by
 rw [cH,cH,Ha]at g;rw [Zli _ _ _ _ (by rw [cH,Ha];omega),Zli _ _ _ _ (by rw [Ha];omega),Zyw h];unfold cnx;rw [Ng,Ng,aH g,aH g];by_cases d:t=i+1
 .subst d;rw [aH rfl,aE O1,aH O1,show i+1-1=i by omega]
 .rw [aE d];by_cases e:t=i
  .subst e;rw [aH rfl,aH (kP t)];split<;>omega
  .rw [aE e];by_cases j:t<i
   .simp [j,show t<i+1 by omega]
   .simp [j,e,d,show ¬t<i+1 by omega]
theorem Ztf(h:0<c.length):(cnx c a b c.length).getD 0 0=cf c 0*a:=by unfold cnx;rw [Zc9 O1,aH h,aH rfl,fR]
theorem Ylz{w:Int}(h:0<c.length):(cnx c a b c.length).set 0 ((cnx c a b c.length).getD 0 0+w)=mk (c.length+1) λt=>cf c t*a+(if t=0 then w else cf c (t-1)*b):=Kg (by simp [Ha,Yj]) λt e=>by
 rw [cH,Ha]at e;rw [Zli _ _ _ _ (by rw [Ha];omega),Ztf h,Ng,aH e];unfold cnx;rw [Ng,aH e];by_cases d:t=0
 .rw [aH d,aH d,d]
 .rw [aE d,aE d,aE d];by_cases g:t<c.length
  .rw [aH g]
  .rw [aE g,aH (show t=c.length/\0<c.length by omega),Yk (i:=t) O1];omega
theorem Zic{p:List Int}{x y z:Int}{A m:Nat}(d:Sz A p)(l:bl x.natAbs<=m)(v:bl y.natAbs<=m)(n:bl z.natAbs<=m):∀j,Sz (A+j*(m+1)) (Ms p x y z j)
 | 0=>Sz.of_mem λw g=>by have g:w∈[cf p (p.length-1)]:=g;rw [aY.1 g];have:=d (p.length-1);omega
 | j+1=>by
  have o:=Zic d l v n j;unfold Ms;refine Zdo λt G=>?_;have D:=Xe (cf (Ms p x y z j) t) x;have F:=o t;have e:(j+1)*(m+1)=j*(m+1)+m+1:=by rw [eF];omega
  split
  .have h:=Ziv (i:=0) (j:=j+1) (d (p.length-2-j)) l n;rw [cT,fF]at h;have s:(0+(j+1))*m<=j*(m+1)+m:=by rw [bW,eF];have:j*m<=j*(m+1):=bI _ O1;omega
   have u:=Gj (cf (Ms p x y z j) t*x) (cf p (p.length-2-j)*z^(j+1));omega
  .have h:=Xe (cf (Ms p x y z j) (t-1)) y;have s:=o (t-1);have u:=Gj (cf (Ms p x y z j) t*x) (cf (Ms p x y z j) (t-1)*y);omega
section
variable {p:List Int} {x y z:Int} (hF:Qm p+(p.length-1)*(Qm [x,y,z]+1)+8<=65536) {j:Nat} (hj:j<p.length-1)
include hF hj
theorem cp_all:bl (z^j).natAbs<=65536/\bl (z^(j+1)).natAbs<=65536/\(∀t,bl (cf (Ms p x y z j) t).natAbs<=65536)/\(∀t,bl (cf (Ms p x y z j) t*x).natAbs<=65536)/\(∀t,bl (cf (Ms p x y z j) t*y).natAbs<=65536)/\
  (∀t,bl ((if t=0 then 0 else cf (Ms p x y z j) (t-1)*y)).natAbs<=65536)/\(∀t,bl ((if t=0 then 0 else cf (Ms p x y z j) (t-1)*y)+cf (Ms p x y z j) t*x).natAbs<=65536)/\
  bl (cf p (p.length-2-j)*z^(j+1)).natAbs<=65536/\bl (cf (Ms p x y z j) 0*x+cf p (p.length-2-j)*z^(j+1)).natAbs<=65536:=by
 have v:bl x.natAbs<=Qm [x,y,z]:=by simp only [Qm];omega
 have F:bl y.natAbs<=Qm [x,y,z]:=by simp only [Qm];omega
 have d:bl z.natAbs<=Qm [x,y,z]:=by simp only [Qm];omega
 have l:=Zic (Kf p) v F d j;generalize Qm [x,y,z]=m at *;have e:j*(m+1)+(m+1)<=(p.length-1)*(m+1):=by rw [<-eF];exact aN _ O1
 have D:j*m<=j*(m+1):=bI _ O1;have w:=Ziv (i:=0) (j:=j+1) (Kf p (p.length-2-j)) v d;rw [cT,fF,bW,eF]at w;have o:=Dd z d (j+1) O1;rw [eF]at o;have n:bl (z^j).natAbs<=65536:=by
  rcases aU j with h|h
  .rw [h,cT];decide
  .have:=Dd z d j h;omega
 have g:∀t,bl (cf (Ms p x y z j) t*x).natAbs<=Qm p+j*(m+1)+m:=λt=>by have:=Xe (cf (Ms p x y z j) t) x;have:=l t;omega
 have s:∀t,bl (cf (Ms p x y z j) t*y).natAbs<=Qm p+j*(m+1)+m:=λt=>by have:=Xe (cf (Ms p x y z j) t) y;have:=l t;omega
 have u:∀t,bl ((if t=0 then 0 else cf (Ms p x y z j) (t-1)*y)).natAbs<=Qm p+j*(m+1)+m:=λt=>by
  split
  .simp [Ka]
  .exact s _
 refine⟨n,O1,λt=>by have:=l t;omega,λt=>by have:=g t;omega,λt=>by have:=s t;omega,λt=>by have:=u t;omega,λt=>?_,O1,?_⟩
 .have:=Gj (if t=0 then 0 else cf (Ms p x y z j) (t-1)*y) (cf (Ms p x y z j) t*x);have:=g t;have:=u t;omega
 .have:=Gj (cf (Ms p x y z j) 0*x) (cf p (p.length-2-j)*z^(j+1));have:=g 0;omega
end
theorem Ylw{p:List Int}{x y z:Int}(hF:Qm p+(p.length-1)*(Qm [x,y,z]+1)+8<=65536):Sz 65536 (Ms p x y z (p.length-1)):=by
 have d:bl x.natAbs<=Qm [x,y,z]:=by simp only [Qm];omega
 have e:bl y.natAbs<=Qm [x,y,z]:=by simp only [Qm];omega
 have g:bl z.natAbs<=Qm [x,y,z]:=by simp only [Qm];omega
 exact(Zic (Kf p) d e g _).mono O1
theorem Zh2(p q:List Int):(Qb p q).length<=p.length:=by
 unfold Qb;split
 .exact aI _
 .have:=Iu (Ql p q (p.length-q.length+1));rw [Mu]at this;exact this
theorem Zbg{p:List Int}(d:Vp p)(e:Cg p q=0):Vp (Qb p q):=by
 have g:=Zh2 p q;refine⟨?_,?_,by have:=d.len;omega⟩
 .unfold Qb;split
  .exact d.sz
  .exact(Zq0 ((Zdb e).2 O1)).tzl
 .unfold Qb;split
  .exact d.tr
  .exact Qh _
def Zm8(p q:List Int):Prop:=p.length≠0/\q.length≠0/\65536<(max p.length q.length+2)*(max p.length q.length+2)*(max (Qm p) (Qm q)+8)
instance (p q:List Int):Decidable (Zm8 p q):=by unfold Zm8;infer_instance
def gA(p q:List Int):List Int:=if p.length<q.length then Zu q else Zu p
def gB(p q:List Int):List Int:=if p.length<q.length then Zu p else Zu q
def eok:Nat->List Int->List Int->Prop
 | 0,_,b=>b=[]
 | f+1,a,b=>b=[]\/(Cg a b=0/\eok f b (Zu (Qb a b)))
def eu:Nat->List Int->List Int->List Int
 | 0,a,_=>a
 | f+1,a,b=>if b=[]then a else eu f b (Zu (Qb a b))
theorem Yge{f:Nat}{a b:List Int}(h:eok f a b)(d:b≠[]):∃g,f=g+1/\Cg a b=0/\eok g b (Zu (Qb a b))/\eu f a b=eu g b (Zu (Qb a b)):=by
 cases f with
 | zero=>exact absurd h d
 | succ g=>
  rcases h with h|h
  .exact absurd h d
  .exact⟨g,rfl,h.1,h.2,by show(if b=[]then a else _)=_;rw [aE d]⟩
theorem Zg6(f:Nat)(a:List Int):eu f a []=a:=by cases f<;>rfl
def Hb(g:List Int):List Int:=if g.length≠0/\cf g (g.length-1)<0 then Zl g (-1)else g
def Ny(f:Nat)(p q:List Int):List Int:=Hb (eu f (gA p q) (gB p q))
theorem vp_gA{p:List Int}(d:Vp p)(e:Vp q):Vp (gA p q):=by unfold gA;split<;>exact Kz ‹_›
theorem vp_gB{p:List Int}(d:Vp p)(e:Vp q):Vp (gB p q):=by unfold gB;split<;>exact Kz ‹_›
theorem Za4{p:List Int}(h:Sz 65536 p)(i:Nat):bl (cf p i * -1).natAbs<=65536:=by rw [kT,iF,eC];exact h i
theorem Pq(z:Int):z.sign<0↔z<0:=by
 rcases kH z 0 with h|h|h
 .rw [eQ h];omega
 .subst h;simp
 .rw [fQ h];omega
end Go.Sky
namespace Go.Sky
variable{b k c:Nat}{xs ys:List Nat}{p:Nat->Prop}
theorem Znv{l:List Int}(h:∀x∈l,Oz x):Sz 65536 l:=Sz.of_mem λx a=>by obtain⟨d,e⟩:=h x a;have:bl x.natAbs<=64:=(Xz 64 _).2 O1;omega
open Go.RowKit (Below)
set_option maxRecDepth 20000
def Qq:2<=1000000000:=O4
def Kp:0<1000000000:=O4
abbrev Ga (v:Value) (x:Nat):Pc:=Ym 1 Ho v (dg 1000000000 x)
theorem Ku(x:Nat):(dg 1000000000 x).length<=bl x:=by rw [Xk Qq];exact cZ (Dc x) (fT O4 _)
theorem Zwb(a:2<=b){o:List Nat}(f:∀d∈o,d<b){x:Nat}(g:Ye b o=x)(h:o.length=0\/b^(o.length-1)<=x):o=dg b x:=by
 rw [<-g,Kj a o f];have j:(tz o).length<=o.length:=(Cj o).1;have i:o.length<=(tz o).length:=by
  rw [<-Kj a o f,g];rcases h with h|h
  .omega
  .have:=(Ov a (o.length-1) x).2 h;omega
 have e:=(Cj o).2;rw [bZ i]at e;exact e
theorem Yam{o:List Nat}(a:o.length=k)(h:Ye b o+c*b^k=Ye b (xs.take k)+Ye b (ys.take k)) :
  Ye b (o ++ [(c+xs.getD k 0+ys.getD k 0)%b])+(c+xs.getD k 0+ys.getD k 0)/b*b^(k+1)=Ye b (xs.take (k+1))+Ye b (ys.take (k+1)):=by
 rw [Ni,Xv,Xv,a];have e:=cE (c+xs.getD k 0+ys.getD k 0) b;generalize (c+xs.getD k 0+ys.getD k 0)/b=q at *;generalize (c+xs.getD k 0+ys.getD k 0)%b=r at *;simp only [Ye,bX];generalize b^k=B at *;have:(b*q+r)*B=(c+xs.getD k 0+ys.getD k 0)*B:=by rw [e]
 grind
def d9s(a b c:Nat):Nat:=if a<b+c then a+1000000000-(b+c)else a-(b+c)
theorem Zyq{a:Nat}(d:a<1000000000)(e:b<1000000000)(f:c<=1):d9s a b c<1000000000/\d9s a b c+(b+c)=a+brw a b c*1000000000:=by unfold d9s brw;split<;>omega
theorem Zuq{o:List Nat}(a:c<=1)(f:xs.getD k 0<1000000000)(g:ys.getD k 0<1000000000)(d:o.length=k)(h:Ye 1000000000 o+Ye 1000000000 (ys.take k)=Ye 1000000000 (xs.take k)+c*1000000000^k) :
  Ye 1000000000 (o ++ [d9s (xs.getD k 0) (ys.getD k 0) c])+Ye 1000000000 (ys.take (k+1))=Ye 1000000000 (xs.take (k+1))+brw (xs.getD k 0) (ys.getD k 0) c*1000000000^(k+1):=by
 rw [Ni,Xv,Xv,d];have e:=(Zyq f g a).2;generalize d9s (xs.getD k 0) (ys.getD k 0) c=r at *;generalize brw (xs.getD k 0) (ys.getD k 0) c=q at *;simp only [Ye,bX];generalize 1000000000^k=B at *;have:(r+(ys.getD k 0+c))*B=(xs.getD k 0+q*1000000000)*B:=by rw [e]
 grind
theorem Zls{o:List Nat}(h:∀d∈o,p d){x:Nat}(f:p x):∀d∈o ++ [x],p d:=λd e=>by
 rcases cQ.1 e with a|a
 .exact h d a
 .rw [aY.1 a];exact f
def Ax{x:Nat}(a:2<=b)(h:k<(dg b x).length):b^k<=x:=(Ov a k x).1 h
theorem Gr{x:Nat}(a:2<=b)(h:(dg b x).length<=k):Ye b ((dg b x).take k)=x:=by rw [Nn _ _ _ h,Nh a]
theorem Zqx{a o:Nat}(d:a<1000000000)(e:b<1000000000)(g:o<1000000000)(f:c<1000000000):(o+c+a*b)/1000000000<1000000000/\o+c+a*b<=9223372036854775807:=by have h:a*b<=999999999*999999999:=aQ O1 O1;refine⟨?_,O1⟩;rw [cC Kp];omega
theorem Zt1{o:List Nat}{i V:Nat}(h:Ye 1000000000 o+c*1000000000^(i+k)=V+xs.getD i 0*1000000000^i*Ye 1000000000 (ys.take k))(d:i+k<o.length) :
  Ye 1000000000 (o.set (i+k) ((o.getD (i+k) 0+c+xs.getD i 0*ys.getD k 0)%1000000000))+(o.getD (i+k) 0+c+xs.getD i 0*ys.getD k 0)/1000000000*1000000000^(i+(k+1))=V+xs.getD i 0*1000000000^i*Ye 1000000000 (ys.take (k+1)):=by
 have a:=Zia 1000000000 o o.length (i+k) ((o.getD (i+k) 0+c+xs.getD i 0*ys.getD k 0)%1000000000) d d;rw [bZ (by rw [cH];exact aI _),bZ (aI _)]at a;rw [Xv];have e:=cE (o.getD (i+k) 0+c+xs.getD i 0*ys.getD k 0) 1000000000;generalize (o.getD (i+k) 0+c+xs.getD i 0*ys.getD k 0)/1000000000=q at *;generalize (o.getD (i+k) 0+c+xs.getD i 0*ys.getD k 0)%1000000000=r at *;generalize Ye 1000000000 (o.set (i+k) r)=W at *;rw [show i+(k+1)=(i+k)+1 by omega,bX];have f:1000000000^(i+k)=1000000000^i*1000000000^k:=bR _ _ _;rw [f]at h a ⊢;generalize 1000000000^i=A at *;generalize 1000000000^k=B at *;have g:(1000000000*q+r)*(A*B)=(o.getD (i+k) 0+c+xs.getD i 0*ys.getD k 0)*(A*B):=by rw [e]
 simp only [bK]at g;have t1:q*(A*B*1000000000)=1000000000*q*(A*B):=O5;have t2:xs.getD i 0*A*(Ye 1000000000 (ys.take k)+ys.getD k 0*B)=xs.getD i 0*A*Ye 1000000000 (ys.take k)+xs.getD i 0*ys.getD k 0*(A*B):=O5;rw [t1,t2];omega
def Zh7(x y:Nat):Int:=if x<y then -1 else if y<x then 1 else 0
section
variable {P:Program} {N:Nat} {sc:Nat->Prop} {env env':Qt} {H H':Hp} {Q Q':Exit->Act->World->Prop} {M:Nat->Prop}
variable {o:Oper} {t t':TypeId} {x y:Operand} {m n:Nat}
theorem Zfp(a:o.op= .binOp .add t x y t')(d:ev env x=some (.int .i64 (m:Int)))(e:ev env y=some (.int .i64 (n:Int)))(h:m+n<=9223372036854775807):Nv P N sc o env H (.int .i64 ((m+n:Nat):Int)):=by have:=Yg3 (P:=P) (N:=N) (sc:=sc) (H:=H) a d e ;rwa [<-jW]at this
theorem n_mul(a:o.op= .binOp .mul t x y t')(d:ev env x=some (.int .i64 (m:Int)))(e:ev env y=some (.int .i64 (n:Int)))(h:m*n<=9223372036854775807):Nv P N sc o env H (.int .i64 ((m*n:Nat):Int)):=by have:=d_mul (P:=P) (N:=N) (sc:=sc) (H:=H) a d e (by rw [<-eV];exact⟨O1,O1⟩);rwa [<-eV]at this
theorem Zkg(a:o.op= .binOp .quo t x y t')(d:ev env x=some (.int .i64 (m:Int)))(e:ev env y=some (.int .i64 (n:Int)))(h:m<=9223372036854775807)(f:0<n):Nv P N sc o env H (.int .i64 ((m/n:Nat):Int)):=by have:=Zdt (P:=P) (N:=N) (sc:=sc) (H:=H) a d e   ;rwa [<-Int.natCast_ediv]at this
theorem Zr5(a:o.op= .binOp .rem t x y t')(d:ev env x=some (.int .i64 (m:Int)))(e:ev env y=some (.int .i64 (n:Int)))(f:0<n):Nv P N sc o env H (.int .i64 ((m%n:Nat):Int)):=by have:=Zlb (P:=P) (N:=N) (sc:=sc) (H:=H) a d e  ;rwa [<-Int.natCast_emod]at this
end
end Go.Sky
namespace Go.Sky
variable{b a r k:Nat}{q:List Nat}
theorem Zb8{l:List Nat}{i:Nat}(h:l.length<=i):l.getD i 0=0:=by simp [List.getD,bD h]
theorem Zsz{x y:Nat}(d:2<=b)(h:x<=y):(dg b x).length<=(dg b y).length:=by
 rcases bC (dg b y).length (dg b x).length with c|c
 .have:=Zad d c;omega
 .exact c
theorem Ygs{n:Nat}(c:2<=b)(h:n<b)(d:n≠0):dg b n=[n]:=by rw [Za1 c O1,aS h,cS h,Hs]
theorem Yi0(c:2<=b)(f:a<b):tz (a::dg b r)=dg b (r*b+a):=by
 have h:∀d∈a::dg b r,d<b:=λd e=>by
  rcases bJ.1 e with rfl|e
  .exact f
  .exact Na c r d e
 rw [<-Kj c _ h];congr 1;simp only [Ye,Nh c];rw [aP];omega
theorem Zth : Zh7 a b<0↔a<b:=by unfold Zh7;split<;>(try split)<;>omega
theorem Zyx : Zh7 a b<=0↔a<=b:=by unfold Zh7;split<;>(try split)<;>omega
theorem Zyy : 0<=Zh7 a b↔b<=a:=by unfold Zh7;split<;>(try split)<;>omega
theorem Zuk{x:Nat}(c:0<k):x/1000000000^k*1000000000+x/1000000000^(k-1)%1000000000=x/1000000000^(k-1):=by
 have h:x/1000000000^k=x/1000000000^(k-1)/1000000000:=by rw [aX,<-bX,show(k-1).succ=k by omega]
 rw [h,aP];exact cE _ _
theorem over_Q{y:Nat}(c:r<y)(d:a<1000000000):(r*1000000000+a)/y<1000000000:=by rw [cC O1];have:(r+1)*1000000000<=y*1000000000:=aN _ c;rw [aP 1000000000];omega
theorem bl_m30{y m:Nat}(h:bl m<=30):bl (y*m)<=bl y+30:=by have:=Zlm y m;omega
theorem Ymn{y:Nat}(f:r<y)(g:a<1000000000):bl (r*1000000000+a)<=bl y+30:=by
 have c:r*1000000000+a<y*1000000000:=by have:(r+1)*1000000000<=y*1000000000:=aN _ f;omega
 have d:=Pu (dS c);have e:=bl_m30 (y:=y) (m:=1000000000) ((Xz 30 _).2 O1);exact aB d e
theorem Yhv{y n:Nat}(e:n<1000000000):bl (y*n)<=bl y+30:=by have c:=Zlm y n;have d:bl n<=30:=(Xz 30 _).2 O1;omega
theorem Zf2{d:Nat}(c:0<k)(h:k<=q.length):Ye 1000000000 ((q.set (k-1) d).drop (k-1))=d+1000000000*Ye 1000000000 (q.drop k):=by rw [drop_set _ _ _ O1,show k-1+1=k by omega];rfl
theorem Ya8(d:0<k)(h:k<=q.length)(c:q.getD (k-1) 0=0):Ye 1000000000 (q.drop (k-1))=1000000000*Ye 1000000000 (q.drop k):=by rw [Zb7 0 q (k-1) O1,c,show k-1+1=k by omega];simp [Ye]
theorem Zqw{m:Nat}(h:m<9223372036854775809):tz [m%1000000000,m/1000000000%1000000000,m/1000000000/1000000000]=dg 1000000000 m:=by rw [<-Kj Qq [m%1000000000,m/1000000000%1000000000,m/1000000000/1000000000] (by intro d c;simp at c;omega)];congr 1;simp only [Ye];omega
theorem sign9{x:Int}(h:(((dg 1000000000 x.natAbs).length:Nat):Int)=0):Value.int .i64 x.sign= .int .i64 0:=by have c:=(Pn Qq x.natAbs).1 O1;have:x=0:=O1;subst this;rfl
theorem Zks{x:Nat}(h:¬(((dg 1000000000 x).length:Nat):Int)=0):0<x:=by
 rcases aU x with c|c
 .subst c;simp [Hs]at h
 .exact c
theorem Yez{s:Bool}{n:Nat}{z:Int}(c:n=z.natAbs)(hs:sg s z):(s && decide (0<n))=decide (z<0):=by
 subst c;cases s
 .have:=hs.2 rfl;rw [Bool.false_and,aJ O1]
 .have:=hs.1 rfl;rw [nU,bQ];omega
theorem Zsh(n:Nat):decide ((0:Int)<(((dg 1000000000 n).length:Nat):Int))=decide (0<n):=by rw [bQ];have:=Pn Qq n;omega
theorem Ymq{a b:Bool}(h:(a == b)=true):a=b:=by simpa using h
theorem Yi8{x y:Int}(c:y≠0):(x-x.tdiv y*y=x.tmod y):=by have:=jA x y;have e:x.tdiv y*y=y*x.tdiv y:=cY _ _;omega
def Zjc(x y:Int):x.natAbs/y.natAbs=(x.tdiv y).natAbs:=(mX x y).symm
theorem Yjj(x y:Int):sg (decide (x<0) != decide (y<0)) (x.tdiv y):=by
 have e:∀a b:Int,0<=a->0<=b->0<=a.tdiv b:=λa b i j=>Int.tdiv_nonneg i j;rcases fY x 0 with h|h<;>rcases fY y 0 with d|d
 .have c:=e (-x) (-y) O1 O1;rw [oG,Int.tdiv_neg]at c;simp only [sg,h,d,decide_true,bne_self_eq_false];exact⟨λh=>Bool.noConfusion h,λ_=>O1⟩
 .have c:=e (-x) y O1 d;rw [oG]at c;have:¬y<0:=O1;simp [sg,h,this];omega
 .have c:=e x (-y) h O1;rw [Int.tdiv_neg]at c;have:¬x<0:=O1;simp [sg,d,this];omega
 .have c:=e x y h d;have f:¬x<0:=O1;have g:¬y<0:=O1;simp [sg,f,g];exact c
theorem Zjb(x:Int){y:Int}(c:y≠0):(x.tmod y).natAbs<y.natAbs:=by rw [Int.natAbs_tmod];exact bN _ O1
theorem Yj7{x y:Int}(f:0<y)(h:x.tmod y<0):x/y=x.tdiv y-1/\x%y=x-(x.tdiv y-1)*y:=by
 have c:=Zjb x (show y≠0 by omega);have d:=jA x y;have e:(x.tdiv y-1)*y=y*x.tdiv y-y:=by rw [Int.sub_mul,cY];omega
 have:=Zda (x:=x) (y:=y) (q:=x.tdiv y-1) (r:=x-(x.tdiv y-1)*y) O1 (by rw [cY y];omega) O1 O1;exact this
theorem Yj8{x y:Int}(f:y<0)(h:x.tmod y<0):x/y=x.tdiv y+1/\x%y=x-(x.tdiv y+1)*y:=by
 have c:=Zjb x (show y≠0 by omega);have d:=jA x y;have e:(x.tdiv y+1)*y=y*x.tdiv y+y:=by rw [lY,cY];omega
 have:=Zda (x:=x) (y:=y) (q:=x.tdiv y+1) (r:=x-(x.tdiv y+1)*y) O1 (by rw [cY y];omega) O1 O1;exact this
theorem Ydw{x y:Int}(c:y≠0)(h:¬x.tmod y<0):x/y=x.tdiv y/\x%y=x.tmod y:=by have d:=Zjb x c;have e:=jA x y;exact Zda c O1 O1 O1
theorem Ymm(x y:Int):bl (x.tdiv y).natAbs<=bl x.natAbs:=by rw [mX];exact Pu (eW _ _)
theorem Zvu(x y:Int):bl (x.tdiv y*y).natAbs<=bl x.natAbs:=by rw [cF,mX];exact Pu (nP _ _)
section
variable {P:Program} {N:Nat} {sc:Nat->Prop} {env env':Qt} {H H':Hp} {Q Q':Exit->Act->World->Prop} {M:Nat->Prop}
variable {o:Oper} {t t':TypeId} {x y:Operand} {m n:Nat}
theorem Zup(e:o.op= .binOp .quo t x y t')(g:ev env x=some (.int .i64 (-(m:Int))))(i:ev env y=some (.int .i64 (n:Int)))(h:m<=9223372036854775808)(d:1<n):Nv P N sc o env H (.int .i64 (-((m/n:Nat):Int))):=Gz e g i λw=>by
 have c:(-(m:Int)).tdiv (n:Int)=-((m/n:Nat):Int):=by rw [oG,Int.ofNat_tdiv]
 have j:m/n<=9223372036854775807:=by have:=nO (show 2<=n from d) (by omega:0<2) (a:=m);omega
 generalize m/n=q at *;have f:Oz (-(q:Int)):=⟨O1,O1⟩;simp [binOp,Op.intDiv,c,Zal f];omega
theorem Yel(d:o.op= .binOp .rem t x y t')(e:ev env x=some (.int .i64 (-(m:Int))))(f:ev env y=some (.int .i64 (n:Int)))(g:0<n):Nv P N sc o env H (.int .i64 (-((m%n:Nat):Int))):=Gz d e f λw=>by
 have c:(-(m:Int)).tmod (n:Int)=-((m%n:Nat):Int):=by rw [Int.neg_tmod,Int.ofNat_tmod]
 simp [binOp,Op.intDiv,c];omega
theorem Yeo(c:o.op= .unOp .neg t x)(e:ev env x=some (.int .i64 (-(m:Int))))(h:m<=9223372036854775807):Nv P N sc o env H (.int .i64 (m:Int)):=λa w hs=>by have d:Oz (m:Int):=⟨O1,O1⟩;simp [execOp,c,hs.ev e,Op.unary,Op.intArith,Zal d]
end
end Go.Sky
namespace Go.Sky
variable{p:Pc}{k m i:Nat}{r:List Pc}{bs ks:List Nat}{x y:Operand}{v z u:Value}{zs:List (Int×SL)}{o:Oper}{t:TypeId}{w0:World}{M0:Nat->Prop}
theorem Yi3{p xs:List Nat}{r:Nat}(b:0<k)(c:k<=p.length)(d:k<=xs.length)(a:Ye 1000000000 (p.drop k)*256+r=Ye 1000000000 (xs.drop k)) :
  Ye 1000000000 ((p.set (k-1) ((r*1000000000+xs.getD (k-1) 0)/256)).drop (k-1))*256+(r*1000000000+xs.getD (k-1) 0)%256=Ye 1000000000 (xs.drop (k-1)):=by
 rw [Zf2 b c,Zb7 0 xs (k-1) O1,show k-1+1=k by omega];simp only [Ye];have e:=cE (r*1000000000+xs.getD (k-1) 0) 256;generalize (r*1000000000+xs.getD (k-1) 0)/256=q at *;generalize (r*1000000000+xs.getD (k-1) 0)%256=s at *;generalize Ye 1000000000 (p.drop k)=A at *;generalize Ye 1000000000 (xs.drop k)=B at *;rw [<-a,bK,gC,cN 1000000000 A 256];generalize 1000000000*(A*256)=Z;clear a;omega
theorem Yb3{r a:Nat}(d:r<256)(c:a<1000000000):(r*1000000000+a)/256<1000000000:=by
 have h:r*1000000000+a<256*1000000000:=by have b:r*1000000000<=255*1000000000:=aN _ O1;omega
 exact iC h
theorem Yi4{n:Nat}(a:Ye 256 bs+256^bs.length*m=n):Ye 256 (bs ++ [m%256])+256^(bs ++ [m%256]).length*(m/256)=n:=by rw [Ni,bA];simp only [Ye,dG,kZ,bX,bW,iD,eE,fW,iP];have e:=cE m 256;generalize m/256=q at *;generalize m%256=s at *;rw [<-a,<-e];generalize 256^bs.length=P at *;grind
theorem to_ge{n:Nat}(b:Ye 256 bs+256^bs.length*m=n)(a:0<m):256^bs.length<=n:=by have:=dU (256^bs.length) a;omega
theorem to_len{n:Nat}(h:256^bs.length<=n):bs.length<=bl n:=by have a:=Ax (b:=256) (x:=n) (k:=bs.length) O1 ((Ov O1 _ _).2 h);have c:=(Ov (by omega:2<=256) bs.length n).2 h;have d:=Zkt n;omega
theorem Ygn(a:0<k)(h:k<=bs.length):(bs.drop k).reverse ++ [bs.getD (k-1) 0]=(bs.drop (k-1)).reverse:=by rw [Zb7 0 bs (k-1) O1,show k-1+1=k by omega];simp
theorem Ymi{n:Nat}(h:bs=dg 256 n):(⟨((bs.drop 0).reverse.map UInt8.ofNat).toArray⟩:ByteArray)=Xu n:=by rw [h,gU];rfl
def Zrn(a b:Int):Prop:=65536<bl a.natAbs\/65536<bl b.natAbs
instance (a b:Int):Decidable (Zrn a b):=by unfold Zrn;infer_instance
def qn(a b:Int):Int:=if Zrn a b then 0 else a
def qd(a b:Int):Int:=if Zrn a b then 0 else b
def qe(a b:Int):Int:=if Zrn a b then 7 else 0
def Yku{x y:Int}(h:¬y<0):Lb x y=(Int.gcd x y:Int):=aE h
def Zix(x y:Int):bl ((Int.gcd x y:Int)).natAbs<=max (bl x.natAbs) (bl y.natAbs):=Zqc _ _
open Go.RowKit (Below)
variable {P:Program} {N:Nat} {sc:Nat->Prop} {env env':Qt} {H H':Hp} {Q Q':Exit->Act->World->Prop} {M:Nat->Prop}
abbrev Zu8 (w:Bool×ByteArray):Value:= .agg #[.bool w.1,.string w.2]
abbrev Zdg (z:Int×SL):Value:= .agg #[.bool (decide (z.1<0)),Qi z.2]
abbrev Kw {α:Type} (z:SL×α):Value:=Qi z.1
abbrev qI (z:Int×SL):Pc:=Ga (Qi z.2) z.1.natAbs
abbrev pp (v:Value) (zs:List (Int×SL)):Pc:=Qc 2 Zdg qI v zs
abbrev Pw (zs:List (Int×SL)):List Int:=zs.map Prod.fst
abbrev I0:Int×SL:=(0,none,0,0)
def Iz(zs:List (Int×SL)):(Pw zs).length=zs.length:=O7
theorem Ft(zs:List (Int×SL))(i:Nat):(zs.getD i I0).1=cf (Pw zs) i:=by simp only [cf,List.getD,Pw,fD];cases zs[i]?<;>rfl
theorem Zro{β:Type}{enc:β->Value}{q:β->Pc}{zs:List β}{al:Bool}{z:β}(i:Nat)(hi:lk H i=some (Qc k enc q v zs))(a:Nat.beq i 0=false)(c:z∈zs)(h:PreOk H al r):PreOk H al (q z::r):=
 ⟨⟨i,_,λe=>by subst e;simp at a,hi,λw h=>h.2 z c,λb d=> .inr ⟨z,c,d⟩,λ_=>rfl⟩,h⟩
theorem Zz9{β:Type}{enc:β->Value}{q:β->Pc}{zs:List β}(i j n:Nat)(hi:lk H i=some (Qc k enc q v zs))(d:Nat.beq i 0=false)(f:n<=zs.length):∀a w,Sat N sc env H a w->Sat N sc env ((j,Qc k enc q (Lq v n) (zs.take n))::H) a w:=
 Zdj i j hi d rfl (λw h=>⟨⟨Zcr n f h.1.1,λb c=>h.1.2 b (Zk0 c)⟩,λz e=>h.2 z (eJ e)⟩) (λb c=>by
  rcases c with c|⟨z,e,c⟩
  .exact .inl (Zk0 c)
  .right;exact⟨z,eJ e,c⟩) rfl
theorem Zsr{β:Type}{enc:β->Value}{q:β->Pc}{zs:List β}(i:Nat)(hi:lk H i=some (Qc k enc q v zs)):∀a w,Sat N sc env H a w->Lq v zs.length=v:=λa w hs=>by obtain⟨b,c,h,_⟩:=(hs.hold i _ hi).1.1;rw [h];rfl
theorem Zgk(zs:List (Int×SL))(k:Nat):Pw (zs.take k)=(Pw zs).take k:=by simp [Pw,mD]
def Hz{al:Bool}{z:Int×SL}(i:Nat)(hi:lk H i=some (pp v zs))(a:Nat.beq i 0=false)(b:z∈zs)(h:PreOk H al r):PreOk H al (Ga (Qi z.2) z.1.natAbs::r):=Zro (q:=qI) (z:=z) i hi a b h
theorem t_appM {α:Type}   {e:TypeId} {i2 j by_ d:Nat}  {enc:α->Value} {xs ys:List α}  {ti:TypeInfo}   
  (ho:o.op= .call { callee:= .builtin .append,args:=#[x,y],argTypes:=#[t,t] }) (hd:o.dst=some d) (hN:Nat.blt d N=true)
  (hx:ev env x=some v) (hy:ev env y=some u) (hH:lk H i=some (Ox k e enc v xs)) (a3:i≠0) (hj:lk H j=some p) (hr:Rd p k enc u ys) (b0:ys≠[])
  (ht:P.underlying t=some (.slice e)) (hi:P.info? e=some ti) (hz:ti.zero=some z) (n:Enc P e k enc) (a4:ti.size=k) (a1:ti.bytes=by_) (b1:z.cells.size=k)
  (h:(xs.length+ys.length)*by_<=140737488355328) (s:0<by_)
  (h0:lk H 0=some (Xd w0 M0)) (hw:∀b,w0.heap.size<=b->sc b) (hM:∀b,(Ox k e enc v xs).fp b->M b) :
  T P N sc M o env H (G:=Value) (λ_=>True) (λv'=>(d,v')::env) (λv'=>(i,Ox k e enc v' (xs ++ ys))::H):=λa w hs K Q hK=>by
 have R:w.ownsRow 0 e k v xs.length (cellsOf enc xs):=hs.hold i _ hH;obtain⟨ad,c,rfl,h1,h2,Y⟩:=hr w (hs.hold j p hj);rcases Y with rfl|⟨g,V,rfl,Y⟩
 .exact absurd rfl b0
 have a9:∀q u,(cellsOf enc ys)[q]? = some u->w.cell? ((⟨g,V,none⟩:Addr).add q)=some u:=λq u hq=>by
  have a5:q<ys.length*k:=by rw [<-Xc n.cells ys];exact(fB.1 hq).1
  have F:=n.pos;have a2:q/k<ys.length:=iC (by rw [aP];exact a5);have l:ys[q/k]? = some ys[q/k]:=aL a2;have a7:q%k<(enc ys[q/k]).cells.toList.length:=by rw [dV,n.cells];exact bN _ F
  have W:=aL a7;have Z:=Hc n.cells ys _ _ l _ _ W;have h5:=Y _ _ l _ _ W;have I:q/k*k+q%k=q:=by rw [aP];exact cE q k
  rw [I]at Z;rw [fX,I]at h5;rw [hq]at Z;cases Z;rw [Ps];exact h5
 have D:∀u∈cellsOf enc ys,u.oneCell'=true:=λu W=>by obtain⟨y,_,hy⟩:=kN.1 W;exact n.one y u hy
 have b2:xs.length+ys.length<=140737488355328:=aB (dU _ s) h;obtain⟨v',w',S,a6,f,a0⟩:=Zdl (P:=P) t o.type e ti z k by_ ht hi hz a4 a1 b1 n.pos v xs.length (cellsOf enc xs) R ⟨g,V,none⟩ ys.length c (cellsOf enc ys)
  (Xc n.cells ys) a9 D (by simp only [maxLen];omega) h
 have a8:(execOp a.eval o).run P w= .ok (.value v') w':=by simp only [execOp,ho,resolve,invoke,builtin,Sem.run_bind,Sem.run_pure,Result.andThen_ok,gP,cP,iT,hs.ev hx,hs.ev hy,S]
 unfold Oper.wp;rw [a8];show K (a.put o.dst _) _;rw [hd];have B:Chg (λb=>v.ownBlock=some b) w w':=⟨f.os,f.tape,f.output,f.size,λb h hn=>f.block b h (λe=>hn e.symm)⟩;refine hK v' _ _ aA ((hs.upd hH rfl a3 (q:=Ox k e enc v' (xs ++ ys)) B ?_ (λb h=>a0 b h) h0 hw).put d _ hN) ⟨f.os,f.tape,f.output,f.size,λb h hn=>f.block b h (λe=>hn (hM b e.symm))⟩;show w'.ownsRow 0 e k v' (xs ++ ys).length (cellsOf enc (xs ++ ys));rw [Kk,bA];exact a6
theorem Zwe {α:Type}   {e:TypeId} {j by_ d:Nat}  {enc:α->Value} {xs ys:List α}  {ti:TypeInfo}   
  (ho:o.op= .call { callee:= .builtin .append,args:=#[x,y],argTypes:=#[t,t] }) (hd:o.dst=some d) (hN:Nat.blt d N=true)
  (hx:ev env x=some v) (hy:ev env y=some u) (Y:lk H i=some (Ox k e enc v xs)) (F:i≠0) (hj:lk H j=some p) (hr:Rd p k enc u ys)
  (ht:P.underlying t=some (.slice e)) (hi:P.info? e=some ti) (hz:ti.zero=some z) (he:Enc P e k enc) (a2:ti.size=k) (a1:ti.bytes=by_) (a4:z.cells.size=k)
  (Z:(xs.length+ys.length)*by_<=140737488355328) (B:0<by_)
  (h0:lk H 0=some (Xd w0 M0)) (hw:∀b,w0.heap.size<=b->sc b) (hM:∀b,(Ox k e enc v xs).fp b->M b) :
  T P N sc M o env H (G:=Value) (λ_=>True) (λv'=>(d,v')::env) (λv'=>(i,Ox k e enc v' (xs ++ ys))::H):=by
 by_cases S:ys=[]
 .subst S;intro a w hs K Q hK;have h:w.ownsRow 0 e k v xs.length (cellsOf enc xs):=hs.hold i _ Y;obtain⟨V,c,rfl,h1,h2,h3⟩:=hr w (hs.hold j p hj);have I:∃l n s,v= .slice l n s/\n=xs.length/\n<=s:=by
   rcases h.2 with⟨rfl,hn⟩|⟨g,W,a5,rfl,_,_,f,_⟩
   .exact⟨none,0,0,rfl,hn.symm,aI _⟩
   .exact⟨_,_,W,rfl,rfl,f⟩
  obtain⟨l,n,s,rfl,rfl,f⟩:=I;have R:(Builtin.append_ #[t,t] o.type #[.slice l xs.length s,.slice V ([]:List α).length c]).run P w= .ok (.slice l xs.length s) w:=by
   have D:(Builtin.firstCells ti.size 0 (.slice V 0 c)).run P w= .ok #[] w:=by
    cases V with
    | none=>rfl
    | some q=>simp [Builtin.firstCells,loadCells,loadCellsFrom]
   cases l with
   | none=>simp [Builtin.append_,run_underlying ht,sizeOf,typeInfo,hi,Builtin.lenOf,D,f]
   | some q=>simp [Builtin.append_,run_underlying ht,sizeOf,typeInfo,hi,Builtin.lenOf,D,f,storeCells]
  have a3:(execOp a.eval o).run P w= .ok (.value (.slice l xs.length s)) w:=by simp only [execOp,ho,resolve,invoke,builtin,Sem.run_bind,Sem.run_pure,Result.andThen_ok,gP,cP,iT,hs.ev hx,hs.ev hy,R]
  unfold Oper.wp;rw [a3];show K (a.put o.dst _) _;rw [hd];refine hK _ _ _ aA ((Sat.upd hs Y rfl F (q:=Ox k e enc (.slice l xs.length s) (xs ++ [])) (Chg.refl _ w) ?_ (λb Z=> .inl Z) h0 hw).put d _ hN) (Chg.refl _ w);rw [iX];exact h
 .exact t_appM (i2:=0) ho hd hN hx hy Y F hj hr S ht hi hz he a2 a1 a4 Z B h0 hw hM
theorem Yb8  {G:Type} {φ:G->Prop} {c:G->Qt} {g:G->Hp} {d:Hp}   (i:Nat) (hi:lk H i=some p) (F:p.own=true) (D:ks.all (λk=>!Nat.beq k i)=true) (n:Agr d H ks)
  (h:(∀b,p.fp b->Off d ks b)->T P N sc (Off d ks) o env H φ c g):T P N sc (Off d ks) o env H φ c g:=λa w hs=>
 h (λb s k j q l B=>by
  rw [<-n.mem k j]at l;have f:i≠k:=λe=>by subst e;have:=cL.1 D i j;simp at this
  exact hs.sep i k p q f hi l F b s B) a w hs
def eaf(v:Value)(i k q:Nat):Addr:=(ead v i k).add q
theorem Hx {α:Type}    {f:Nat} {fs:Array Field} {b:Field} {G ii q:Nat}   {enc:α->Value} {xs:List α} (s:o.op= .fieldAddr t x f)
  (h:ev env x=some (.pointer (some (ead v i k)))) (j:lk H ii=some p) (D:Rd p k enc v xs) (F:P.underlying t=some (.struct fs)) (l:fs[f]? = some b) (n:∀w,(sizeOf b.type).run P w= .ok (G+1) w) (B:b.offset=q) (d:i<xs.length:=by omega) :
  Nv P N sc o env H (.pointer (some (eaf v i k q))):=λa w hs=>by
 obtain⟨R,c,rfl,S,V,e⟩:=D w (hs.hold ii p j);rcases e with rfl|⟨g,I,rfl,e⟩
 .simp at d
 .subst B;simp only [ead,Ps]at h;simp [execOp,s,hs.ev h,Instr.fieldAt,run_underlying F,l,Instr.sureAddr,fieldPlace,n,Ps,eaf,ead]
theorem Hu {α:Type}    {ii q:Nat}   {enc:α->Value} {xs:List α} (e:α) (n:o.op= .load t x)
  (f:ev env x=some (.pointer (some (eaf v i k q)))) (j:lk H ii=some p) (s:Rd p k enc v xs) (l:∀w,(isAgg t).run P w= .ok false w) (B:(enc (xs.getD i e)).cells.toList[q]? = some u) (b:i<xs.length:=by omega):Nv P N sc o env H u:=λa w hs=>by
 obtain⟨F,c,rfl,G,I,d⟩:=s w (hs.hold ii p j);rcases d with rfl|⟨g,D,rfl,d⟩
 .simp at b
 .have hi:xs[i]? = some (xs.getD i e):=by simp [List.getD,aL b]
  have h:=d i _ hi q u B;simp only [eaf,ead,Ps]at f;simp [execOp,n,hs.ev f,Instr.loadAt,Instr.sureAddr,loadVar,l,load,Sem.run,h]
end Go.Sky
namespace Go.Sky
variable{o:Oper}{r pre:List Pc}{f:FuncId}{xs:List Operand}{vs us fs:List Value}{a:Act}{w:World}{c x:Operand}{ats:Array TypeId}{M0:Nat->Prop}{b:Nat}{t:TypeId}{cs:Array Value}
abbrev rq (z:Int×Int):Value:= .agg #[.bool (decide (z.1<0)),.string (Xu z.1.natAbs),.bool (decide (z.2<0)),.string (Xu z.2.natAbs)]
abbrev encQ (z:(Bool×ByteArray)×(Bool×ByteArray)):Value:= .agg #[.bool z.1.1,.string z.1.2,.bool z.2.1,.string z.2.2]
def Xq{P:Program}{N:Nat}{sc:Nat->Prop}{env:Qt}{H:Hp}{r r':Value}(h:Nv P N sc o env H r)(e:r=r'):Nv P N sc o env H r':=e▸h
open Go.RowKit (Below)
variable {P:Program} {N:Nat} {sc:Nat->Prop} {env env':Qt} {H H':Hp} {Q Q':Exit->Act->World->Prop} {M:Nat->Prop}
theorem Zyl{ys:List Operand}(g:o.op= .makeFunc (.func f) xs.toArray ys.toArray)(i:EvL env xs vs)(h:EvL env ys us):Nv P N sc o env H (.func (.func f) vs.toArray us.toArray):=λa w hs=>by have d:=i.map hs;have e:=h.map hs;simp [execOp,g,Instr.makeFunc,d,e]
theorem Zdk   (hs:Sat N sc env H a w)       (h:o.op= .call { callee:= .value c,args:=xs.toArray,argTypes:=ats })
  (e:ev env c=some (.func (.func f) fs.toArray us.toArray)) (d:EvL env xs vs):(execOp a.eval o).run P w=(callFunc f (fs ++ vs ++ us).toArray).run P w:=by
 have g:=d.map hs;simp [execOp,h,resolve,invoke,hs.ev e,Deferred.ofValue,g]
theorem Yi5      {d n:Nat}   {al:Bool} {G:Type} {φ:G->Prop} {Ye:G->Value} {k:G->List Pc} {w0:World} 
  (z:Cal P f (fs ++ vs ++ us).toArray pre al φ Ye k)
  (D:o.op= .call { callee:= .value c,args:=xs.toArray,argTypes:=ats }) (p:ev env c=some (.func (.func f) fs.toArray us.toArray)) (B:o.dst=some d) (y:Nat.blt d N=true)
  (h:EvL env xs vs) (e:∀args w,(callFunc f args).run P w= .ok (.enter f args) w) (j:PreOk H al pre)
  (s:lk H 0=some (Xd w0 M0)) (I:∀b,w0.heap.size<=b->sc b) :
  T P N sc M o env H φ (λg=>(d,Ye g)::env) (λg=>adds n (k g) H):=λa w hs K Q u=>by
 have F:(execOp a.eval o).run P w= .ok (.enter f (fs ++ vs ++ us).toArray) w:=by rw [Zdk hs D p h,e]
 let o2:Oper:={ o with op:= .call { callee:= .value (.func f),args:=((fs ++ vs ++ us).map Operand.const).toArray,argTypes:=ats } };have i:∀l:List Value,EvL env (l.map Operand.const) l:=λl=>by
  induction l with
  | nil=>trivial
  | cons v r R=>exact⟨rfl,R⟩
 have q:(execOp a.eval o2).run P w= .ok (.enter f (fs ++ vs ++ us).toArray) w:=by rw [Hi hs (o:=o2) rfl (i _),e]
 have m:o2.wp P a w K Q:=Pt (n:=n) (M:=M) z (o:=o2) rfl B y (i _) e j s I a w hs K Q u;unfold Oper.wp at m ⊢;rw [q]at m;rw [F];exact m
theorem Zgw(i:Nat)(hi:lk H i=some (box b t cs))(d:Nat.beq i 0=false)(h:PreOk H false r):PreOk H false (Ie b t cs::r):=
 ⟨⟨i,_,λe=>by subst e;simp at d,hi,λw h=>h,λb g=>g,λh=>by cases h⟩,h⟩
theorem Sat.rboxc(hs:Sat N sc env H a w){i:Nat}(d:lk H i=some (Ie b t cs))(j:Nat):w.cell? ⟨b,j,none⟩=cs[j]?:=by have h:w.heap[b]? = some (.cells cs t (0,0)):=hs.hold i _ d;simp [World.cell?,h]
theorem d_lra   {v:TypeId} {i j k:Nat}   (l:o.op= .load t x)
  (s:ev env x=some (.pointer (some ⟨b,j,none⟩))) (e:lk H i=some (Ie b v cs)) (m:∀w,(isAgg t).run P w= .ok true w) (g:∀w,(sizeOf t).run P w= .ok k w)
  (h:vs.length=k) (q:∀n u,vs[n]? = some u->cs[j+n]? = some u):Nv P N sc o env H (.agg vs.toArray):=λa w hs=>by
 have d:=run_loadCells_list (P:=P) w ⟨b,j,none⟩ vs (λn u p=>by rw [Ps,hs.rboxc e];exact q n u p);rw [h]at d;simp [execOp,l,hs.ev s,Instr.loadAt,Instr.sureAddr,loadVar,m,g,d]
theorem d_negi{m:Int}(d:o.op= .unOp .neg t x)(e:ev env x=some (.int .i64 m))(h:Oz (-m):=by exact⟨O1,O1⟩):Nv P N sc o env H (.int .i64 (-m)):=λa w hs=>by simp [execOp,d,hs.ev e,Op.unary,Op.intArith,Zal h]
theorem fill24(n p q s d e g h j k l m:Value):Instr.fill (λi=>some (i*4,4)) ((List.range (2*4)).map ((Value.agg #[n,p,q,s]).cells[· % (Value.agg #[n,p,q,s]).cells.size]!)).toArray [(0,.agg #[d,e,g,h]),(1,.agg #[j,k,l,m])]=some #[d,e,g,h,j,k,l,m]:=by
 simp [Instr.fill,Value.cells,List.range,List.range.loop]
 try rfl
end Go.Sky
namespace Go.Sky
open Go.RowKit (Below)
variable{f:FuncId}{c:Operand}{xs:List Operand}{ats:Array TypeId}{p:Pc}{vs:List Value}{pre:List Pc}{w0:World}{M0:Nat->Prop}{fn:Func}
variable {P:Program} {N:Nat} {sc:Nat->Prop} {env env':Qt} {H H':Hp} {Q Q':Exit->Act->World->Prop} {M:Nat->Prop}
abbrev iq (z:(Int×Int)×(Int×Int)):Value:= .agg #[.bool (decide (z.1.1<0)),.string (Xu z.1.1.natAbs),.bool (decide (z.1.2<0)),.string (Xu z.1.2.natAbs),.bool (decide (z.2.1<0)),.string (Xu z.2.1.natAbs),.bool (decide (z.2.2<0)),.string (Xu z.2.2.natAbs)]
def Ymw(P:Program)(f:FuncId)(args:Array Value)(pre:List Pc)(p:Pc){G:Type}(φ:G->Prop)(Ye:G->Value)(q:G->Pc):Prop:=
 ∀w,(∀r∈pre,r.holds w/\∀k,p.fp k->¬r.fp k)->p.holds w->Calls P f args w λe a=>∃g,e= .returned (Ye g)/\φ g/\Chg p.fp w a/\(q g).holds a/\∀k,(q g).fp k->p.fp k\/w.heap.size<=k
theorem Zwd {o:Oper}     {d i:Nat}  {fs us:List Value}  {G:Type} {φ:G->Prop} {Ye:G->Value} {q:G->Pc}  
  (Y:Ymw P f (fs ++ vs ++ us).toArray pre p φ Ye q)
  (ho:o.op= .call { callee:= .value c,args:=xs.toArray,argTypes:=ats }) (y:ev env c=some (.func (.func f) fs.toArray us.toArray)) (Z:o.dst=some d) (V:Nat.blt d N=true)
  (m:EvL env xs vs) (n:∀args w,(callFunc f args).run P w= .ok (.enter f args) w) (x:lk H i=some p) (l:p.own=true) (z:i≠0) (u:PreOk (drp i H) false pre)
  (I:lk H 0=some (Xd w0 M0)) (hw:∀b,w0.heap.size<=b->sc b) (S:∀b,p.fp b->M b) :
  T P N sc M o env H φ (λg=>(d,Ye g)::env) (λg=>(i,q g)::H):=λa w hs K Q R=>by
 have hr:(execOp a.eval o).run P w= .ok (.enter f (fs ++ vs ++ us).toArray) w:=by rw [Zdk hs ho y m,n]
 unfold Oper.wp;rw [hr];refine(Y w (λr hp=>by obtain⟨j,F,_,v,t,s,_⟩:=u.mem r hp;obtain⟨D,v⟩:=El _ _ _ _ v;exact⟨t w (hs.hold j F v),λk B W=>hs.sep i j _ F (iJ D) x v l k B (s k W)⟩) (hs.hold i _ x)).mono ?_
 rintro e w' ⟨g,rfl,hg,h,hq,s⟩;show K (a.put o.dst (Ye g)) w';rw [Z];exact R g _ _ hg (Sat.put (hs.upd x l z h hq s I hw) d _ V) ⟨h.os,h.tape,h.output,h.size,λk B hn=>h.block k B (λe=>hn (S k e))⟩
def Yij(P:Program)(fn:Func)(w0:World)(p:Pc){G:Type}(φ:G->Prop)(Ye:G->Value)(q:G->Pc):Exit->Act->World->Prop:=
 bodyPost P fn λe a=>∃g,e= .returned (Ye g)/\φ g/\Chg p.fp w0 a/\(q g).holds a/\∀k,(q g).fp k->p.fp k\/w0.heap.size<=k
theorem Zy5   {c:Code}    {G:Type} {φ:G->Prop} {Ye:G->Value} {q:G->Pc} {N:Nat}
  (V:P.funcs[f]? = some fn) (S:fn.body=some c) (R:fn.ntmps=N) (n:Nat.ble vs.length N=true) (B:AllRo pre)
  (h:∀w0 (sc:Nat->Prop),(∀k,w0.heap.size<=k->sc k)->(∀k,sc k->w0.heap.size<=k\/p.fp k\/∃q∈pre,q.fp k)->
   E P N sc c (Yij P fn w0 p φ Ye q) (Qv 0 vs) ((0,Xd w0 p.fp)::(1,p)::Yy 2 pre)) :
  Ymw P f vs.toArray pre p φ Ye q:=λw D s=>by
 refine calls_of_wp V S (h w (λk=>w.heap.size<=k\/p.fp k\/∃q∈pre,q.fp k) (λk b=> .inl b) (λk b=>b) _ w ?_);have n:vs.length<=N:=by simpa using n
 have a:∀i r,lk ((0,Xd w p.fp)::(1,p)::Yy 2 pre) i=some r->(i=0/\r=Xd w p.fp)\/(i=1/\r=p)\/(i≠0/\i≠1/\r∈pre/\r.own=false):=λi r hi=>by
   by_cases l:0=i
   .subst l;rw [Yc]at hi;cases hi;exact .inl ⟨rfl,rfl⟩
   .rw [Zp _ _ l]at hi;by_cases g:1=i
    .subst g;rw [Yc]at hi;cases hi;exact .inr (.inl ⟨rfl,rfl⟩)
    .rw [Zp _ _ g]at hi;obtain⟨_,d⟩:=Nk pre 2 i r hi;exact .inr (.inr ⟨λe=>l e.symm,λe=>g e.symm,d,B.mem r d⟩)
 refine⟨by simp [R];omega,rfl,λt v Y=>?_,λi r hi=>?_,λi j r F y hi W z k b m=>?_,λi r u hi k b=>?_⟩
 .have g:vs.toArray[t]? = some v:=by simpa using(Gq vs 0 t v Y).2
  have x:=(bB.1 g).1;rw [bO,eP x,g];rfl
 .rcases a i r hi with⟨_,rfl⟩|⟨_,rfl⟩|⟨_,_,d,_⟩
  .exact Chg.refl _ w
  .exact s
  .exact(D r d).1
 .rcases a i r hi with⟨_,rfl⟩|⟨g,rfl⟩|⟨_,_,d,o⟩
  .cases z
  .rcases a j F W with⟨_,rfl⟩|⟨I,rfl⟩|⟨_,_,d,_⟩
   .exact m.2 b
   .exact y (g.trans I.symm)
   .exact(D F d).2 k b m
  .rw [o]at z;cases z
 .rcases a i r hi with⟨l,_⟩|⟨_,rfl⟩|⟨_,_,d,_⟩
  .exact absurd l u
  .exact .inr (.inl b)
  .exact .inr (.inr ⟨r,d,b⟩)
theorem Ybq    {G:Type} {φ:G->Prop} {Ye:G->Value} {q:G->Pc}  {e:Exit} (B:e= .ret\/e= .normal) (u:∀k,sc k->w0.heap.size<=k\/p.fp k\/∃q∈pre,q.fp k)
  (g:G) (v:Value) (m:∀a w,Sat N sc env H a w->(results fn a.tmps).run P w= .ok v w) (I:Ye g=v) (D:φ g) (i:Nat) (hi:lk H i=some (q g)) (z:lk H 0=some (Xd w0 p.fp)) (b:Nat.beq i 0=false) (d:(q g).own=true) (l:PreOk (drp i H) false pre) :
  X N sc e (Yij P fn w0 p φ Ye q) env H:=λa w hs=>by
 have b:i≠0:=λe=>by subst e;simp at b
 have x:a.defers=[]/\∃v,(results fn a.tmps).run P w= .ok v w/\(∃g,Ending.returned v= .returned (Ye g)/\φ g/\Chg p.fp w0 w/\(q g).holds w/\∀k,(q g).fp k->p.fp k\/w0.heap.size<=k):=by
  refine⟨hs.defers,v,m a w hs,g,by rw [I],D,hs.hold 0 _ z,hs.hold i _ hi,λk y=>?_⟩;rcases u k (hs.scope i _ b hi k y)with h|h|⟨r,F,t⟩
  .exact .inr h
  .exact .inl h
  .obtain⟨j,R,_,o,_,n,_⟩:=l.mem r F;obtain⟨s,o⟩:=El _ _ _ _ o;exact(hs.sep i j _ R (iJ s) hi o d k y (n k t)).elim
 rcases B with rfl|rfl<;>exact x
def gb{α:Type}(b:Nat)(t:TypeId)(k:Nat)(e:TypeId)(enc:α->Value)(v:Value)(xs:List α):Pc:=
 {own:=true,fp:=λc=>c=b\/v.ownBlock=some c,holds:=λw=>(box b t #[v]).holds w/\(Ox k e enc v xs).holds w/\v.ownBlock≠some b
  lt:=λw c h a=>by
   rcases a with rfl|a
   .exact(box c t #[v]).lt w c h.1 rfl
   .exact(Ox k e enc v xs).lt w c h.2.1 a
  stable:=λw l h a=>⟨(box b t #[v]).stable w l h.1 ⟨a.os,a.tape,a.output,a.size,λk g i=>a.block k g (λd=>i (λj=>d (.inl j)))⟩,
   (Ox k e enc v xs).stable w l h.2.1 ⟨a.os,a.tape,a.output,a.size,λk g i=>a.block k g (λd=>i (λj=>d (.inr j)))⟩,h.2.2⟩ }
end Go.Sky

