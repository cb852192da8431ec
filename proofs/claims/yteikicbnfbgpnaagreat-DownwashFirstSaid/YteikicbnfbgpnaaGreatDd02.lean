/- Rules, arithmetic and contracts: part 3. No conditions but those that each theorem names. -/
import Derived.Test.YteikicbnfbgpnaaGreatDd01
set_option linter.all false
namespace Go.Sky
set_option maxRecDepth 20000
variable{k D:Nat}{R ys:List Nat}{y x:Int}{b t s:Bool}{p xs:List Int}{f:FuncId}{args:Array Value}{pre:List Pc}
theorem Zhh{n:Nat}(h:n<U):tz [n]=dg U n:=by rw [<-Kr Xs [n] (by simpa using h)];simp [Yr]
theorem Zen{N:Nat}{sc:Nat->Prop}{env:Pz}{H:Hp}{α:Type}{e:TypeId}{enc:α->Value}{v:Value}{xs ys:List α}(i:Nat)(h:xs=ys)(hi:lk H i=some (On k e enc v xs))(c:Nat.beq i 0=false) :
  ∀a w,Sat N sc env H a w->Sat N sc env ((i,On k e enc v ys)::H) a w:=by
 subst h;exact Zpe i hi rfl (λw h=>h) (λb d=>d) c
theorem Zm8(R:List Nat)(j:Nat)(a:j<=R.length):Yr U R=Yr U (R.take j)+U^j*Yr U (R.drop j):=by have:=Mb U (R.take j) (R.drop j);rw [fM,aS,dG a]at this;exact this
theorem Zke(g:∀d∈R,d<U)(j:Nat)(e:j<=R.length):Yr U (R.take j)=Yr U R%U^j/\Yr U (R.drop j)=Yr U R/U^j:=by
 have c:=Zm8 R j e;have a:=Zhe Qa (R.take j) (λd h=>g d (eN h));rw [aS,dG e]at a;have i:0<U^j:=cE Qa;constructor
 .rw [c,jM,gR,aW a]
 .rw [c,jM,gG i,cP a,eG]
theorem Zfo(e:∀d∈R,d<U){n:Nat}(g:n<=R.length)(h:Yr U R<U^n):Yr U (R.drop n)=0/\Yr U (R.take n)=Yr U R:=by obtain⟨a,c⟩:=Zke e n g;rw [c,a,aW h];exact⟨cP h,rfl⟩
theorem Ylr(c:∀d∈R,d<U){j n:Nat}(g:j+n<=R.length)(h:Yr U R<U^(j+n)):tz ((R.drop j).take n)=dg U (Yr U R/U^j):=by have a:∀d∈R.drop j,d<U:=λd a=>c d (jG a);rw [<-(Zke c j O).2,<-Kr Xs _ (λd e=>a d (eN e))];congr 1;refine(Zfo a (by rw [dJ];omega) ?_).2;rw [(Zke c j O).2,cD (cE Qa),<-bW,jM];exact h
theorem Zr1(c:∀d∈R,d<U)(e:∀d∈ys,d<U)(lo:Nat):∀d∈spl R lo ys,d<U:=λd a=>by
 simp only [spl,cY]at a;rcases a with(a|a)|a
 .exact c d (eN a)
 .exact e d a
 .exact c d (jG a)
theorem Zsd(L:Nat)(ys:List Nat):Yr U (spl (List.replicate L 0) 0 ys)=Yr U ys:=by simp [spl,Mb,nH,Gn]
theorem Ylx(a:∀d∈R,d<U){j n:Nat}(g:j+n<=R.length)(h:Yr U R<U^(j+n))(i:ys.length<=n) :
  Yr U (spl (spl R j (List.replicate n 0)) j ys)=Yr U R%U^j+U^j*Yr U ys:=by
 have c:(spl R j (List.replicate n 0)).take j=R.take j:=by simp only [spl,eD];rw [fB (by rw [aS];omega),iG,Nat.min_self]
 have e:(spl R j (List.replicate n 0)).drop (j+ys.length)=List.replicate (n-ys.length) 0 ++ R.drop (j+n):=by simp only [spl,eD,aT];rw [<-List.drop_drop,List.drop_left' (by rw [aS];omega),fY (by rw [aT];exact i),nH]
 rw [spl,c,e,Mb,Mb,Mb,Gn,(Zfo a g h).1,(Zke a j O).1,aS,dG O];simp
theorem Ynl{y b:Nat}(d:0<y)(l:k=(dg U y).length)(r:b=64-bl ((dg U y).getD (k-1) 0)):(dg U (y*2^b)).length=k/\2^b*U^k<=y*2^b*U*2^b/\1<=k/\y*2^b<U^k/\b<=63/\U^(k-1)*9223372036854775808<=y*2^b:=by
 obtain⟨m,n,g,o⟩:=Zyr d;rw [<-l]at m n g o;obtain⟨h,q⟩:=Zrs d;have i:=Dz y;have e:bl y+b=64*k:=O;have c:y*2^b<U^k:=by rw [Zdl,<-e,bW];exact eF i (dL b)
 have a:U^(k-1)*9223372036854775808<=y*2^b:=by
  have:U^(k-1)*9223372036854775808=2^(bl y-1)*2^b:=by rw [Zdl,<-bW,show 9223372036854775808=2^63 from rfl,<-bW];congr 1;omega
  rw [this];exact aK _ h
 have j:U^k=U^(k-1)*U:=by rw [<-bX];congr 1;omega
 refine⟨?_,?_,g,c,O,a⟩
 .refine jU ((Xk Xs _ _).2 c) ?_;have:k-1<(dg U (y*2^b)).length:=(Np Xs _ _).2 (aB (dP _ O) a);omega
 .rw [j,aO (2^b)];refine aK _ ?_;refine aK _ (aB (dP _ O) a)
theorem Yiw{W w1 w0 t:Nat}(a:t*U^k<=D)(e:0<t)(c:W/U^k=w1*U+w0):W/D<=(w1*U+w0)/t:=by have d:0<U^k:=cE Qa;rw [<-c,aU,aO];exact nI a (fW e d)
theorem Yl4(c:∀d∈R,d<U){j:Nat}(m:1<=k)(h:Yr U R<U^(j+k+1))(n:j+k+1<=R.length):Yr U R/U^j/U^(k-1)=R.getD (j+k) 0*U+R.getD (j+k-1) 0:=by
 have e:∀i,R.getD i 0=Yr U R/U^i%U:=λi=>by
  rcases bA i R.length with hi|hi
  .have a:=(Zke c i O).2;rw [Zc6 0 R i hi]at a;simp only [Yr]at a;rw [<-a,jQ,aW (Xr Qa c i)]
  .rw [show R.getD i 0=0 by simp [List.getD,bF hi],cP (dC (Zhe Qa R c) (dH Qa hi))];rfl
 rw [e,e,aU,<-bW,show j+(k-1)=j+k-1 by omega];have g:Yr U R/U^(j+k)<U:=by rw [cD (cE Qa),<-nN,jM (j+k)]at *;rw [jM 1]at *;exact h
 have l:Yr U R/U^(j+k)=Yr U R/U^(j+k-1)/U:=by rw [aU,<-bX];congr 2;omega
 rw [aW g,l,aO,cC]
theorem Yjt{x b a:Nat}(g:x<U^a)(d:b<=63)(m:1<=k)(e:k<=a+1)(c:U^(k-1)*9223372036854775808<=D):x*2^b<D*U^(a+1-k):=by
 have h:x*2^b<U^a*2^b:=eF g (dL b);have i:U^a*2^b<=U^a*9223372036854775808:=aX _ (by rw [show 9223372036854775808=2^63 from rfl];exact dH O d)
 have j:U^a*9223372036854775808=U^(k-1)*9223372036854775808*U^(a+1-k):=by rw [iN,<-bW];congr 2;omega
 have l:U^(k-1)*9223372036854775808*U^(a+1-k)<=D*U^(a+1-k):=aK _ c;omega
theorem Yjr{V j Q Vq N:Nat}(h:0<D)(a:Q=V/U^j/D)(i:Vq*U^(j+1)*D+V=N) :
  V%U^j+U^j*(V/U^j-D*Q)<D*U^j/\(Q+U*Vq)*U^j*D+(V%U^j+U^j*(V/U^j-D*Q))=N:=by
 have l:0<U^j:=cE Qa;have o:=bO V l;have q:=cC V (U^j);have c:=cC (V/U^j) D;have d:=bO (V/U^j) h;have e:V/U^j-D*Q=V/U^j%D:=by rw [a];omega
 rw [e];constructor
 .have g:U^j*(V/U^j%D+1)<=U^j*D:=aX _ d;rw [fV]at g;rw [aO D];omega
 .rw [<-i];have m:(Q+U*Vq)*U^j*D=U^j*(D*Q)+Vq*U^(j+1)*D:=by
   rw [bH,bH,bX];congr 1
   .rw [aO Q,cT,aO Q]
   .rw [aO U Vq,cT Vq,aO U]
  have n:U^j*(D*Q)+U^j*(V/U^j%D)=U^j*(V/U^j):=by rw [<-fV,a,c]
  omega
def sg(s:Bool)(x:Int):Prop:=(s=true->x<=0)/\(s=false->0<=x)
theorem Yfz(h:sg s x):sg (!s) (-x):=by cases s<;>simp [sg]at*<;>omega
theorem Yf0(hs:sg s x)(a:sg t y):sg (s != t) (x*y):=by
 cases s<;>cases t<;>simp [sg]at *
 .exact eK hs a
 .exact gM hs a
 .exact gN hs a
 .exact Int.mul_nonneg_of_nonpos_of_nonpos hs a
theorem Ycu(h:(((dg U x.natAbs).length:Nat):Int)=0):Value.int .i64 x.sign= .int .i64 0:=by have a:=(Oi Xs x.natAbs).1 O;have:x=0:=O;subst this;rfl
theorem Yfu(hs:sg s x)(a:s=true)(h:¬(((dg U x.natAbs).length:Nat):Int)=0):Value.int .i64 x.sign= .int .i64 (-1):=by have c:¬x.natAbs=0:=λe=>h (by rw [(Oi Xs x.natAbs).2 e];rfl);have d:=hs.1 a;rw [eV O]
theorem Yft(hs:sg s x)(a:s=false)(h:¬(((dg U x.natAbs).length:Nat):Int)=0):Value.int .i64 x.sign= .int .i64 1:=by have c:¬x.natAbs=0:=λe=>h (by rw [(Oi Xs x.natAbs).2 e];rfl);have d:=hs.2 a;rw [fJ O]
theorem Zyx(hs:sg s x)(a:sg s y):sg s (x+y):=by cases s<;>simp [sg]at*<;>omega
theorem Zhb(hs:sg s x)(a:sg s y):(x+y).natAbs=x.natAbs+y.natAbs:=by cases s<;>simp [sg]at*<;>omega
theorem Zjg(hs:sg s x)(c:sg t y)(h:s≠t)(a:y.natAbs<=x.natAbs):sg s (x+y):=by cases s<;>cases t<;>simp [sg]at*<;>omega
theorem Zbh(hs:sg s x)(c:sg t y)(h:s≠t)(a:y.natAbs<=x.natAbs):(x+y).natAbs=x.natAbs-y.natAbs:=by cases s<;>cases t<;>simp [sg]at*<;>omega
abbrev wv (x:Int):Value:= .agg #[.bool (decide (x<0)),.string (Qv x.natAbs)]
def Zbc(x:Int):Int:=if 65536<bl x.natAbs then 0 else x
def Zi5(x:Int):Int:=if 65536<bl x.natAbs then 7 else 0
theorem Yo8(x:Int):bl (Zbc x).natAbs<=65536:=by
 unfold Zbc;split
 .decide
 .omega
theorem Iw(h:bl x.natAbs<=65536):Zbc x=x:=by unfold Zbc;rw [aD O]
theorem Zqs(h:bl x.natAbs<=65536):Zi5 x=0:=by unfold Zi5;rw [aD O]
theorem Yo7(h:65536<bl x.natAbs):Zbc x=0:=by unfold Zbc;rw [aF h]
theorem Yn9(h:65536<bl x.natAbs):Zi5 x=7:=by unfold Zi5;rw [aF h]
abbrev Zci (x:Int):Value:= .tuple #[wv (Zbc x),.int .i64 (Zi5 x)]
theorem Ycg(h:((65536:Int)<((bl x.natAbs:Nat):Int))):Zci x= .tuple #[.agg #[.bool false,.string ⟨#[]⟩],.int .i64 7]:=by unfold Zci;rw [Yo7 O,Yn9 O];rfl
theorem Zyg(h:¬((65536:Int)<((bl x.natAbs:Nat):Int))):Zci x= .tuple #[wv x,.int .i64 0]:=by unfold Zci;rw [Iw O,Zqs O]
theorem Zr7(hs:sg false x)(h:¬((65536:Int)<((bl x.natAbs:Nat):Int))):Zci x= .tuple #[.agg #[.bool false,.string (Qv x.natAbs)],.int .i64 0]:=by rw [Zyg h,wv,aM (by have:=hs.2 rfl;omega)]
theorem Zr6(hs:sg true x)(h:¬((65536:Int)<((bl x.natAbs:Nat):Int))):Zci x= .tuple #[.agg #[.bool (decide ((0:Int)<(((dg U x.natAbs).length:Nat):Int))),.string (Qv x.natAbs)],.int .i64 0]:=by have a:=hs.1 rfl;have c:=Oi Xs x.natAbs;rw [Zyg h,wv,show decide (x<0)=decide ((0:Int)<(((dg U x.natAbs).length:Nat):Int))from bJ.2 ⟨λh=>O,λh=>O⟩]
theorem Zec{q r:Int}(d:y≠0)(h:x=y*q+r)(l:0<=r)(m:r<(y.natAbs:Int)):x/y=q/\x%y=r:=by
 have e:=Int.mul_ediv_add_emod x y;have i:=mO x d;have j:=Int.emod_lt x d;have c:x/y=q:=by
  have g:y*(x/y-q)=r-x%y:=by rw [Int.mul_sub];omega
  have a:(y*(x/y-q)).natAbs<y.natAbs:=by rw [g];omega
  rw [cH]at a;rcases aV (x/y-q).natAbs with h|h
  .omega
  .exact absurd (dP y.natAbs h) O
 refine⟨c,?_⟩;rw [c]at e;omega
theorem Zv6(h:sg s x):x=if s then -(x.natAbs:Int)else(x.natAbs:Int):=by cases s<;>simp [sg]at*<;>omega
theorem Ya6(hs:sg s x)(d:sg t y)(e:y≠0)(Q R:Nat)(g:R<y.natAbs)(h:x=(if s then -1 else 1)*((y.natAbs:Int)*Q)+R) :
  sg (s != t) (x/y)/\(x/y).natAbs=Q/\(x%y).natAbs=R:=by
 have c:=Zv6 d;have a:x/y=(if s != t then -(Q:Int)else Q)/\x%y=R:=by
  refine Zec e ?_ O O
  conv=>lhs;rw [h]
  conv=>rhs;rw [c]
  cases s<;>cases t<;>simp [oI,jZ]
 rw [a.1,a.2];cases s<;>cases t<;>simp [sg]
theorem divB(hs:sg s x)(h:sg t y)(i:y≠0)(g:s=false\/x.natAbs%y.natAbs=0):sg (s != t) (x/y)/\(x/y).natAbs=x.natAbs/y.natAbs/\(x%y).natAbs=x.natAbs%y.natAbs:=by
 have c:=Zv6 hs;have e:=cC x.natAbs y.natAbs;refine Ya6 hs h i _ _ (bO _ O) ?_;have a:((y.natAbs:Int)*((x.natAbs/y.natAbs:Nat):Int))+((x.natAbs%y.natAbs:Nat):Int)=x.natAbs:=by rw [<-eW,<-kT,e]
 rcases g with rfl|d
 .simp at c ⊢;simp at a;omega
 .rw [d]at a ⊢;cases s<;>simp at c a ⊢<;>omega
theorem divA(hs:sg true x)(a:sg t y)(c:y≠0)(g:0<x.natAbs%y.natAbs):sg (true != t) (x/y)/\(x/y).natAbs=x.natAbs/y.natAbs+1/\(x%y).natAbs=y.natAbs-x.natAbs%y.natAbs:=by
 have i:=Zv6 hs;have e:=cC x.natAbs y.natAbs;have h:=bO x.natAbs (show 0<y.natAbs by omega);refine Ya6 hs a c _ _ O ?_;have d:((y.natAbs:Int)*((x.natAbs/y.natAbs:Nat):Int))+((x.natAbs%y.natAbs:Nat):Int)=x.natAbs:=by rw [<-eW,<-kT,e]
 rw [Int.natCast_sub O,kT,kP];generalize ((y.natAbs:Int)*((x.natAbs/y.natAbs:Nat):Int))=P at *;generalize ((x.natAbs%y.natAbs:Nat):Int)=R at *;simp only [lW]at *;omega
def okW(b:Bool)(s:ByteArray):Bool:=if s.size=0 then !b else decide ((s.data.toList.getD 0 0).toNat≠0) && decide (s.size<=8192)
theorem bl256{n:Nat} : (dg 256 n).length<=k↔bl n<=8*k:=by rw [Zh2];omega
theorem Zcx(h:bl x.natAbs<=65536):okW (decide (x<0)) (Qv x.natAbs)=true:=by
 unfold okW;rw [Fu];split
 .rename_i c;have:=(Oi (by omega:2<=256) x.natAbs).1 c;simp;omega
 .rename_i c;have g:0<x.natAbs:=by
   rcases aV x.natAbs with a|a
   .rw [a]at c;simp [Gk]at c
   .exact a
  have a:=Zmr x.natAbs 0 O;have d:=dg_top (by omega:2<=256) g;rw [Hg O]at d;have e:=(bl256 (n:=x.natAbs) (k:=8192)).2 O;rw [aQ];refine⟨aN (by rw [a];simpa using d),aN e⟩
theorem Zib{a b:ByteArray}(h:a.data.toList=b.data.toList):a=b:=by cases a;cases b;simp at h;rw [h]
theorem Ypl{s:ByteArray}(e:s.size≠0)(h:(s.data.toList.getD 0 0).toNat≠0):s=Qv (Yr 256 (s.data.toList.reverse.map UInt8.toNat)):=by
 have g:s.data.toList.length=s.size:=rfl;have a:∀d∈s.data.toList.reverse.map UInt8.toNat,d<256:=λd c=>by obtain⟨u,_,rfl⟩:=fT.1 c;exact u.toNat_lt
 refine Zib ?_;unfold Qv;rw [Kr O _ a,tz_eq]
 .simp [List.map_reverse,Function.comp_def]
 .refine .inr ?_;rw [aP,List.length_reverse,aG,eR,List.getElem?_reverse O];rw [show s.data.toList.length-1-(s.data.toList.length-1)=0 by omega];rw [aG]at h;cases hx:s.data.toList[0]? with
  | none=>rw [hx]at h;simp at h
  | some u=>rw [hx]at h;simpa using h
theorem Zp7{s:ByteArray}(h:okW b s=true):∃x:Int,bl x.natAbs<=65536/\b=decide (x<0)/\s=Qv x.natAbs:=by
 unfold okW at h;split at h
 .rename_i c;refine⟨0,by simp [Ll],?_,?_⟩
  .cases b<;>simp_all
  .refine Zib ?_;have:s.data.toList.length=0:=c;rw [aC this];rfl
 .rename_i c;rw [aQ]at h;have e:=cF h.1;have g:=cF h.2;have hs:=Ypl c e;generalize Yr 256 (s.data.toList.reverse.map UInt8.toNat)=n at hs;have d:(dg 256 n).length=s.size:=by rw [hs,Fu]
  have i:0<n:=by
   rcases aV n with h|h
   .subst h;simp [Gk]at d;omega
   .exact h
  have a:bl n<=65536:=by have:=(bl256 (n:=n) (k:=8192)).1 O;omega
  cases b with
  | true=>exact⟨-(n:Int),by simpa using a,O8,by simpa using hs⟩
  | false=>exact⟨n,by simpa using a,O5,by simpa using hs⟩
def eqW(a:Bool)(s:ByteArray)(b:Bool)(t:ByteArray):Bool:=(a == b) && (s.toList == t.toList)
theorem Yeo(h:decide (x<0)=decide (y<0))(g:Qv x.natAbs=Qv y.natAbs):x=y:=by
 have j:x.natAbs=y.natAbs:=by
  have a:(dg 256 x.natAbs).reverse.map UInt8.ofNat=(dg 256 y.natAbs).reverse.map UInt8.ofNat:=by have:=aI (λb:ByteArray=>b.data.toList) g;simpa [Qv]using this
  have c:∀n:Nat,((dg 256 n).reverse.map UInt8.ofNat).map UInt8.toNat=(dg 256 n).reverse:=λn=>by
   rw [lD]
   conv=>rhs;rw [<-List.map_id (dg 256 n).reverse]
   refine kX λd i=>?_;have:=Nt (by omega:2<=256) n d (List.mem_reverse.1 i);simp [UInt8.toNat_ofNat',aW this]
  have e:=aI (List.map UInt8.toNat) a;rw [c,c]at e;exact(Zh8 (by omega:2<=256)).1 (List.reverse_inj.1 e)
 have a:=bJ.1 h;omega
theorem Zq5{a:Bool}{s t:ByteArray} : eqW a s b t=true↔a=b/\s=t:=by unfold eqW;rw [aQ,ByteArray.toList_eq,ByteArray.toList_eq,lG,lG];exact⟨λh=>⟨h.1,Zib h.2⟩,λh=>⟨h.1,by rw [h.2]⟩⟩
theorem Yjh(x y:Int):eqW (decide (x<0)) (Qv x.natAbs) (decide (y<0)) (Qv y.natAbs)=decide (x=y):=by rw [Bool.eq_iff_iff,Zq5,fG];exact⟨λh=>Yeo h.1 h.2,λh=>by rw [h];exact⟨rfl,rfl⟩⟩
theorem Xh(x:Int):sg (decide (x<0)) x:=by unfold sg;simp;omega
def Kx(x y:Int):bl (x+y).natAbs<=max (bl x.natAbs) (bl y.natAbs)+1:=
 aB (Og (lY x y)) (bl_add _ _)
theorem Yq(x y:Int):bl (x*y).natAbs<=bl x.natAbs+bl y.natAbs:=by rw [cH];exact Zmx _ _
theorem Bm(x y:Int):bl (x-y).natAbs<=max (bl x.natAbs) (bl y.natAbs)+1:=by have:=Kx x (-y);rwa [dW,<-fH]at this
theorem Zmw(x:Int):bl (-x).natAbs=bl x.natAbs:=by rw [dW]
theorem Zj7(x y:Int):bl (x/y).natAbs<=bl x.natAbs+1:=by have h:(x/y).natAbs<=x.natAbs:=jR x y;have:=Og h;omega
theorem Zru(x y:Int)(a:y≠0):bl (x%y).natAbs<=bl y.natAbs:=by have c:=mO x a;have d:=Int.emod_lt x a;exact Og O
theorem Zrv(x y:Nat):bl (Nat.gcd x y)<=max (bl x) (bl y):=by
 rcases aV x with h|h
 .subst h;rw [Nat.gcd_zero_left];omega
 .have:=Og (mD h (mJ x y));omega
def Ymm(x:Int)(h:y≠0):sg false (x%y):=⟨λa=>Bool.noConfusion a,λ_=>mO x h⟩
def Lv(x y:Int):Int:=if y<0 then -(Int.gcd x y:Int)else(Int.gcd x y:Int)
theorem Zcz(x y:Int):(Lv x y).natAbs=Nat.gcd x.natAbs y.natAbs:=by unfold Lv;split<;>simp [Int.gcd]
theorem Ynt(h:y≠0):Lv x y≠0:=λe=>by have a:=Zcz x y;rw [e]at a;have:=(Nat.gcd_eq_zero_iff.1 a.symm).2;omega
theorem Ymk(a:sg t y)(c:y≠0):sg t (Lv x y):=by
 unfold Lv sg at *;refine⟨λh=>?_,λh=>?_⟩
 .rw [aF (by have:=a.1 h;omega)];omega
 .rw [aD (by have:=a.2 h;omega)];omega
theorem Yab(v:Value)(x y:Int):Es v (Nat.gcd x.natAbs y.natAbs)=Es v (Lv x y).natAbs:=by rw [Zcz]
def Ia(x y:Int):Prop:=65536<bl (x/Lv x y).natAbs\/65536<bl (y/Lv x y).natAbs
instance (x y:Int):Decidable (Ia x y):=by unfold Ia;infer_instance
def Co(x y:Int):Int:=if Ia x y then 0 else x/Lv x y
def Ey(x y:Int):Int:=if Ia x y then 0 else y/Lv x y
def Ygi(x y:Int):Int:=if Ia x y then 7 else 0
abbrev Zbu (x y:Int):Value:= .tuple #[.agg #[.bool (decide (Co x y<0)),.string (Qv (Co x y).natAbs),.bool (decide (Ey x y<0)),.string (Qv (Ey x y).natAbs)],.int .i64 (Ygi x y)]
theorem Zbt(h:Ia x y):Zbu x y= .tuple #[.agg #[.bool false,.string ⟨#[]⟩,.bool false,.string ⟨#[]⟩],.int .i64 7]:=by unfold Zbu Co Ey Ygi;rw [aF h,aF h,aF h];rfl
theorem Zaf(h:Zi5 x≠0):65536<bl x.natAbs:=by
 unfold Zi5 at h;split at h
 .assumption
 .exact absurd rfl h
theorem Zjw(h:Zi5 x=0):bl x.natAbs<=65536:=by
 unfold Zi5 at h;split at h
 .omega
 .omega
theorem Ztd(c:Zi5 (x/Lv x y)=0)(d:Zi5 (y/Lv x y)=0):Zbu x y= .tuple #[.agg #[.bool (decide (Zbc (x/Lv x y)<0)),.string (Qv (Zbc (x/Lv x y)).natAbs),.bool (decide (Zbc (y/Lv x y)<0)),.string (Qv (Zbc (y/Lv x y)).natAbs)],.int .i64 0]:=by
 have a:¬Ia x y:=λh=>by have:=Zjw c;have:=Zjw d;unfold Ia at h;omega
 unfold Zbu Co Ey Ygi;rw [aD a,aD a,aD a,Iw (Zjw c),Iw (Zjw d)]
def okR(b:Bool)(s:ByteArray)(c:Bool)(t:ByteArray):Bool:=okW b s && okW c t && (!c && decide (0<t.size))
theorem Zpz(z:Int):(!decide (z<0) && decide (0<(Qv z.natAbs).size))=decide (0<z):=by rw [Bool.eq_iff_iff,aQ,Fu,fG,fG];have:=Oi (by omega:2<=256) z.natAbs;simp only [gC,gD];omega
theorem Fx(z:Int):decide (0<z.sign)=decide (0<z):=by
 rw [bJ];rcases kE z 0 with h|h|h
 .rw [eV h];omega
 .subst h;simp
 .rw [fJ h];omega
theorem Ztv{s:ByteArray}{z:Int}(a:okW b s=true)(c:bl z.natAbs<=65536):okR b s (decide (z<0)) (Qv z.natAbs)=decide (0<z.sign):=by unfold okR;rw [a,Zcx c,Zpz,Fx];rfl
theorem okR_wv(c:bl x.natAbs<=65536)(d:bl y.natAbs<=65536)(a:0<y):okR (decide (x<0)) (Qv x.natAbs) (decide (y<0)) (Qv y.natAbs)=true:=by unfold okR;rw [Zcx c,Zcx d,Zpz];simp [a]
theorem Yho{c:Bool}{s t:ByteArray}(h:okR b s c t=true):∃x y:Int,bl x.natAbs<=65536/\bl y.natAbs<=65536/\0<y/\b=decide (x<0)/\s=Qv x.natAbs/\c=decide (y<0)/\t=Qv y.natAbs:=by unfold okR at h;rw [aQ,aQ]at h;obtain⟨⟨d,e⟩,a⟩:=h;obtain⟨x,g,rfl,rfl⟩:=Zp7 d;obtain⟨y,i,rfl,rfl⟩:=Zp7 e;rw [Zpz]at a;exact⟨x,y,g,i,cF a,rfl,rfl,rfl,rfl⟩
open Go.RowKit (Below)
def Sz(n:Nat)(p:List Int):Prop:=∀i,bl (cf p i).natAbs<=n
def Sz.getD{n:Nat}(h:Sz n p)(i:Nat):bl (p.getD i 0).natAbs<=n:=h i
def Sz.mono{n m:Nat}(h:Sz n p)(a:n<=m):Sz m p:=λi=>aB (h i) a
theorem Sz.tzl{n:Nat}(h:Sz n p):Sz n (tzl p):=λi=>by rw [Mv];exact h i
theorem Sz.nil(n:Nat):Sz n []:=λi=>by simp [cf,Ll]
theorem Sz.take{n:Nat}(h:Sz n p)(k:Nat):Sz n (p.take k):=λi=>by
 rw [Ej];split
 .exact h i
 .simp [Ll]
theorem Sz.mem{n:Nat}(h:Sz n p)(a:x∈p):bl x.natAbs<=n:=by obtain⟨i,hi,rfl⟩:=dX.1 a;have:=h i;rwa [Zdf hi]at this
theorem Sz.of_mem{n:Nat}(h:∀x∈p,bl x.natAbs<=n):Sz n p:=λi=>by
 rcases bA i p.length with hi|hi
 .rw [Zdf hi];exact h _ (fO hi)
 .rw [Yg hi];simp [Ll]
structure Vp (p:List Int):Prop where
 sz:Sz 65536 p
 tr:Tr p
 len:p.length<=25
def wr(x:Int):Bool×ByteArray:=(decide (x<0),Qv x.natAbs)
def okP(r:List (Bool×ByteArray)):Bool:=r.all (λw=>okW w.1 w.2) && (decide (r.length<=25) && (decide (r.length=0) || decide ((r.getD (r.length-1) (false,⟨#[]⟩)).2.size≠0)))
theorem Zfj : (Qv x.natAbs).size=0↔x=0:=by rw [Fu];have:=Oi (by omega:2<=256) x.natAbs;omega
theorem Zc3(xs:List Int)(i:Nat)(h:i<xs.length):(xs.map wr).getD i (false,⟨#[]⟩)=wr (cf xs i):=by rw [Zdf h];simp [List.getD,h]
theorem okP_wr(h:Vp xs):okP (xs.map wr)=true:=by
 unfold okP;rw [aQ,aQ,mP];refine⟨cJ.2 λw e=>?_,by simpa using h.len,?_⟩
 .obtain⟨x,g,rfl⟩:=fT.1 e;exact Zcx (h.sz.mem g)
 .rcases h.tr with a|a
  .left;simp [a]
  .right;have i:0<xs.length:=by
    rcases aV xs.length with c|c
    .rw [Yg O]at a;exact absurd rfl a
    .exact c
   rw [aP,Zc3 _ _ O];refine aN λd=>a (Zfj.1 d)
theorem Ztu{r:List (Bool×ByteArray)}(h:∀w∈r,okW w.1 w.2=true):∃xs:List Int,(∀x∈xs,bl x.natAbs<=65536)/\r=xs.map wr:=by
 induction r with
 | nil=>exact⟨[],O5,rfl⟩
 | cons w r l=>
  obtain⟨xs,c,d⟩:=l λu i=>h u (bI _ i);obtain⟨x,j,e,g⟩:=Zp7 (h w (bR ..));refine⟨x::xs,λy a=>?_,?_⟩
  .rcases bQ.1 a with rfl|a
   .exact j
   .exact c y a
  .rw [cK,<-d,wr,<-e,<-g]
theorem okP_ex{r:List (Bool×ByteArray)}(h:okP r=true):∃xs:List Int,Vp xs/\r=xs.map wr:=by
 unfold okP at h;rw [aQ,aQ,mP]at h;obtain⟨d,e,a⟩:=h;obtain⟨xs,g,rfl⟩:=Ztu (cJ.1 d);refine⟨xs,⟨Sz.of_mem g,?_,by simpa using e⟩,rfl⟩;rcases a with a|a
 .left;exact aC (by simpa using a)
 .rcases aV xs.length with c|c
  .left;exact aC c
  .right;rw [aP,Zc3 _ _ O]at a;exact λi=>cF a (Zfj.2 i)
theorem Zkj{j:Nat}(h:j<k)(a:(xs.take k).getD j 0=0):cf xs j=0:=by rw [Zd9 _ _ _ _ h]at a;exact a
theorem Zfs{j:Nat}(h:j<k)(a:¬((xs.take k).getD j 0).sign=0):cf xs j≠0:=λe=>a (by rw [Zd9 _ _ _ _ h];rw [show xs.getD j 0=0 from e];rfl)
theorem Ynj{r:List (Bool×ByteArray)}{w:Bool×ByteArray}(a:w∈r)(h:okW w.1 w.2=false):okP r=false:=by unfold okP;rw [show r.all (λw=>okW w.1 w.2)=false from List.all_eq_false.2 ⟨w,a,by simp [h]⟩];rfl
theorem Zp8(h:∀x∈xs,bl x.natAbs<=65536):okP (xs.map wr)=(decide (xs.length<=25) && (decide (xs.length=0) || decide (¬(xs.getD (xs.length-1) 0).sign=0))):=by
 unfold okP;rw [show(xs.map wr).all (λw=>okW w.1 w.2)=true from cJ.2 λw c=>by obtain⟨x,d,rfl⟩:=fT.1 c;exact Zcx (h x d)]
 rw [aP,mE];congr 1;by_cases a:xs.length=0
 .simp [a]
 .rw [aM a,Bool.false_or,Bool.false_or,Zc3 _ _ O];rw [bJ,eP];exact not_congr Zfj
def err(e x:Int):Int:=if e=0 then Zi5 x else e
theorem Zxg(h:bl x.natAbs<=65536):err 0 x=0:=by unfold err;rw [aF rfl,Zqs h]
def Xm:List Int->Nat
 | []=>0
 | x::r=>max (bl x.natAbs) (Xm r)
theorem Qz(p:List Int):Sz (Xm p) p:=by
 refine Sz.of_mem λx a=>?_
 induction p with
 | nil=>cases a
 | cons y r c=>
  rcases bQ.1 a with rfl|h
  .simp only [Xm];omega
  .have:=c h;simp only [Xm];omega
theorem Qq{n:Nat}(h:Sz n p):Xm p<=n:=by
 have c:∀x∈p,bl x.natAbs<=n:=λx a=>h.mem a;clear h
 induction p with
 | nil=>exact bG _
 | cons y r d=>
  have:=c y (bR ..);have:=d λx a=>c x (bI _ a);simp only [Xm];omega
theorem Yh5(p:List Int)(x:Int):Xm (p ++ [x])=max (Xm p) (bl x.natAbs):=by
 induction p with
 | nil=>simp [Xm]
 | cons y r a=>simp only [iF,Xm,a];omega
variable {P:Program} {N:Nat} {sc:Nat->Prop} {env env':Pz} {H H':Hp} {Q Q':Exit->Act->World->Prop} {M:Nat->Prop}
theorem fpm{α β:Type}{f:α->β}{xs:List α}{p:Prop}(h:xs.map f≠[]/\p):xs≠[]/\p:=⟨λe=>h.1 (by rw [e];rfl),h.2⟩
def fpn{α β:Type}{f:α->β}{xs:List α}{p:Prop}(h:xs≠[]/\p):xs.map f≠[]/\p:=⟨λe=>h.1 (List.map_eq_nil_iff.1 e),h.2⟩
theorem Zv3(v:Value)(xs:List Int)(w:World)(h:(Yw 2 wv v xs).holds w):(Yw 2 (λw:Bool×ByteArray=>Value.agg #[.bool w.1,.string w.2]) v (xs.map wr)).holds w:=by
 obtain⟨⟨a,c,l,m,n,d⟩,q⟩:=h;refine⟨⟨a,c,by rw [aP];exact l,by rw [aP];exact m,n,?_⟩,λb h=>q b (fpm h)⟩;rcases d with d|⟨g,e,d,o⟩
 .left;rw [d];rfl
 .right;refine⟨g,e,d,λi x hi j u r=>?_⟩;rw [eR]at hi;cases hx:xs[i]? with
  | none=>rw [hx]at hi;cases hi
  | some y=>rw [hx]at hi;cases hi;exact o i y hx j u r
theorem Ymg(v:Value)(xs:List Int)(w:World)(h:(Yw 2 (λw:Bool×ByteArray=>Value.agg #[.bool w.1,.string w.2]) v (xs.map wr)).holds w):(Yw 2 wv v xs).holds w:=by
 obtain⟨⟨a,c,l,m,n,d⟩,q⟩:=h;rw [aP]at l m;refine⟨⟨a,c,l,m,n,?_⟩,λb h=>q b (fpn h)⟩;rcases d with d|⟨g,e,d,o⟩
 .left;simpa using d
 .right;refine⟨g,e,d,λi x hi j u r=>?_⟩;exact o i (wr x) (by rw [eR,hi];rfl) j u r
theorem Cal.imp{p q:Pc}{al:Bool}{G:Type}{φ:G->Prop}{Yr:G->Value}{i:G->List Pc}(h:Cal P f args (p::pre) al φ Yr i)(F:∀w,q.holds w->p.holds w)(z:∀b,p.fp b->q.fp b) :
  Cal P f args (q::pre) al φ Yr i:=λw m=>by
 refine(h w λr a=>?_).mono ?_
 .rcases bQ.1 a with rfl|a
  .exact F w (m q (bR ..))
  .exact m r (bI _ a)
 .rintro e S ⟨g,v,B,j,c⟩;refine⟨g,v,B,j,λI l=>?_⟩;obtain⟨n,o,u⟩:=c I l;refine⟨n,o,λb j=>?_⟩;rcases u b j with h|⟨h,r,a,d⟩
  .exact .inl h
  .refine .inr ⟨h,?_⟩;rcases bQ.1 a with rfl|a
   .exact⟨q,bR ..,z b d⟩
   .exact⟨r,bI _ a,d⟩
end Go.Sky
namespace Go.Sky
variable{k m i:Nat}{f:Nat->Int}{xs:List Int}
def fill(n k:Nat)(f:Nat->Int):List Int:=mk n λi=>if i<k then f i else 0
def Pr(n k:Nat)(f:Nat->Int):(fill n k f).length=n:=Yu _ _
theorem Zc4{n:Nat}(h:k<n):(fill n k f).set k (f k)=fill n (k+1) f:=Ib (by simp [Pr]) λi hi=>by
 rw [cM,Pr]at hi;rw [Zmp _ _ _ _ (by rw [Pr];exact h)];unfold fill;rw [Nq,Nq,aF hi,aF hi];by_cases b:i=k
 .subst b;rw [aF rfl,aF O]
 .rw [aD b];by_cases a:i<k
  .rw [aF a,aF O]
  .rw [aD a,aD O]
theorem Br(n:Nat)(f:Nat->Int):List.replicate n 0=fill n 0 f:=Ib (by simp [Pr]) λi hi=>by rw [aT]at hi;unfold fill;rw [Nq,aF hi,aD O,Zdf (by simpa using hi)];simp
theorem Eh(n:Nat)(f:Nat->Int):fill n n f=mk n f:=Hy λi hi=>by rw [aF hi]
theorem Zqf(xs:List Int)(g:Int->Int):mk xs.length (λi=>g (cf xs i))=xs.map g:=Ib (by simp [Yu]) λi hi=>by rw [Yu]at hi;rw [Nq,aF hi,Zdf hi,Zdf (p:=xs.map g) (by simpa using hi)];simp
theorem Cv{n:Nat}(h:∀i,i<n->bl (f i).natAbs<=m):Sz m (mk n f):=λi=>by
 rw [Nq];split
 .exact h i ‹_›
 .simp [Ll]
theorem Ni{p:List Int}(h:Tr p):Tr (Yx p):=by
 unfold Yx;rcases bA 1 p.length with a|a
 .right;rw [Yu,Nq,aF O];have c:=h.mem (by intro e;rw [e]at a;simp at a);rw [show p.length-1-1+1=p.length-1 by omega];intro d;rcases eJ.1 d with b|b
  .exact c b
  .omega
 .left;exact aC (by rw [Yu];omega)
theorem Yda(xs:List Int)(c:Int):tzl (fill xs.length xs.length λi=>cf xs i*c)=Zs xs c:=by rw [Eh,Zqf xs (· * c)];rfl
theorem Ynd(h:Tr xs):tzl (fill (xs.length-1) (xs.length-1) λi=>cf xs (i+1)*((i:Int)+1))=Yx xs:=by rw [Eh];exact Zak (Ni h)
theorem Yhh{p:List Int}(h:p.length=0):Yx p=[]:=aC (by unfold Yx;rw [Yu];omega)
theorem Zlg(p:List Int)(x:Int):Ys (p ++ [x])=(Int.gcd (Ys p) x:Int):=by unfold Ys;rw [List.foldl_append];rfl
theorem Nk(p:List Int):0<=Ys p:=by
 rcases Zjf p with rfl|⟨a,y,rfl⟩
 .exact fA _
 .rw [Zlg];omega
theorem Ld{p:List Int}(h:k<p.length):Ys (p.take (k+1))=(Int.gcd (Ys (p.take k)) (p.getD k 0):Int):=by rw [Pw 0 _ _ h,Zlg]
theorem Za3{n:Nat} : ∀(p:List Int),Sz n p->bl (Ys p).natAbs<=n:=λp=>by
 have a:∀k,k<=p.length->Sz n p->bl (Ys (p.take k)).natAbs<=n:=by
  intro k
  induction k with
  | zero=>intro _ _;rw [dV];exact bG _
  | succ k d=>
   intro c hs;rw [Ld c];have e:=d O hs;have b:=hs k;have:=Zrv (Ys (p.take k)).natAbs (p.getD k 0).natAbs;have g:bl (p.getD k 0).natAbs<=n:=b;show bl (Nat.gcd _ _)<=n;omega
 intro hs;have:=a p.length (aH _) hs;rwa [bM]at this
theorem Ln(p:List Int):∀i,Ys p∣cf p i:=by
 have a:∀k,k<=p.length->∀i,i<k->Ys (p.take k)∣cf p i:=by
  intro k
  induction k with
  | zero=>intro _ i hi;omega
  | succ k c=>
   intro b i hi;rw [Ld b];rcases bA i k with h|h
   .exact iB (kN ..) (c O i h)
   .have:i=k:=O;subst this;exact jB ..
 intro i;rcases bA i p.length with h|h
 .have:=a p.length (aH _) i h;rwa [bM]at this
 .rw [Yg h];exact jN _
theorem Zcv(p:List Int):Ys p=0↔∀i,cf p i=0:=by
 refine⟨λh i=>by have:=Ln p i;rw [h]at this;exact oB.1 this,λh=>?_⟩;have a:∀k,k<=p.length->Ys (p.take k)=0:=by
  intro k
  induction k with
  | zero=>intro _;rfl
  | succ k c=>
   intro b;rw [Ld b,c O];have:=h k;rw [show p.getD k 0=0 from this];rfl
 have:=a p.length (aH _);rwa [bM]at this
theorem Fr{p:List Int}{d:Int}(h:∀i,d∣cf p i):d∣Ys p:=by
 have a:∀k,k<=p.length->d∣Ys (p.take k):=by
  intro k
  induction k with
  | zero=>intro _;exact jN _
  | succ k c=>
   intro b;rw [Ld b];exact Int.dvd_coe_gcd (c O) (h k)
 have:=a p.length (aH _);rwa [bM]at this
theorem Zbf(p:List Int)(i:Nat):cf (Zx p) i=cf p i/Ys p:=by unfold Zx;rw [Zde _ _ O5]
theorem Zw(p:List Int):(Zx p).length=p.length:=by simp [Zx]
theorem Iv{x y:Int}{n:Nat}(h:y∣x)(b:bl x.natAbs<=n):bl (x/y).natAbs<=n:=by have a:(x/y).natAbs<=x.natAbs:=jR x y;exact aB (Og a) b
theorem Yv{p:List Int}(h:Tr p):Tr (Zx p):=by
 rcases h with rfl|h
 .left;rfl
 .right;rw [Zbf,Zw];intro a;have b:=Ln p (p.length-1);have:=kQ b;rw [a,dO]at this;exact h this.symm
theorem Ho{n:Nat}{p:List Int}(h:Sz n p):Sz n (Zx p):=λi=>by rw [Zbf];exact Iv (Ln p i) (h i)
theorem Lp{p:List Int}(h:Vp p):Vp (Zx p):=⟨Ho h.sz,Yv h.tr,by rw [Zw];exact h.len⟩
def Vp.ne{p:List Int}(h:Vp p)(a:p≠[]):Ys p≠0:=λe=>h.tr.mem a ((Zcv p).1 e _)
def Ic(p:List Int)(n d:Int)(i:Nat):Int:=Yf (λm=>cf p (i+m)*(n^m*d^(p.length-1-(i+m)))) (p.length-i)
theorem Zuh(p:List Int)(n d:Int):Ic p n d 0=pev p n d:=by unfold Ic pev;simp only [bZ,jK]
theorem Yn2{p:List Int}(n d:Int)(h:0<p.length):Ic p n d (p.length-1)=cf p (p.length-1):=by unfold Ic;rw [show p.length-(p.length-1)=0+1 by omega,Yi,Hr];simp
theorem Yis{p:List Int}(n d:Int)(h:i<p.length):Ic p n d i=Ic p n d (i+1)*n+cf p i*d^(p.length-1-i):=by
 unfold Ic;rw [show p.length-i=p.length-(i+1)+1 by omega,Mr];rw [<-Zkl];have:Yf (λm=>cf p (i+(m+1))*(n^(m+1)*d^(p.length-1-(i+(m+1))))) (p.length-(i+1))=Yf (λm=>cf p (i+1+m)*(n^m*d^(p.length-1-(i+1+m)))*n) (p.length-(i+1)):=
  Xa λm a=>by rw [show i+(m+1)=i+1+m by omega,dA];grind
 rw [this];simp only [eG,cL,eQ];omega
theorem Zx6{K:Nat}{f:Nat->Int} : ∀{n:Nat},(∀i,i<n->bl (f i).natAbs<=K)->(Yf f n).natAbs<=n*(2^K-1)
 | 0,_=>by simp [Yf]
 | n+1,h=>by have b:=Zx6 (n:=n) λi hi=>h i O;have a:=(Qm K _).1 (h n O);rw [Yi,bH];have:=lY (Yf f n) (f n);omega
theorem Zj4{K:Nat}{n:Nat}(h:∀i,i<n->bl (f i).natAbs<=K)(a:n<=31):bl (Yf f n).natAbs<=K+5:=by rw [Qm];have b:=Zx6 h;have c:n*(2^K-1)<=31*(2^K-1):=aK _ a;have d:0<2^K:=dL K;rw [bW];omega
theorem Fa(x:Int){m:Nat}(h:bl x.natAbs<=m):∀k,0<k->bl (x^k).natAbs<=k*m
 | 0,a=>O
 | 1,_=>by rw [dA,cL,eQ,lX];exact h
 | k+2,_=>by have b:=Fa x h (k+1) O;rw [dA,show k+2=(k+1)+1 from rfl,bH (k+1) 1 m];have:=Yq (x^(k+1)) x;omega
def Yk0:bl 1=1:=O3
theorem Zg7{a n d:Int}{A j:Nat}(l:bl a.natAbs<=A)(h:bl n.natAbs<=m)(g:bl d.natAbs<=m):bl (a*(n^i*d^j)).natAbs<=A+(i+j)*m:=by
 rcases aV i with rfl|hi
 .rcases aV j with rfl|c
  .simp;exact l
  .have e:=Fa d g j c;have b:=Yq a (n^0*d^j);rw [cL,eQ]at b ⊢;rw [bZ];omega
 .rcases aV j with rfl|c
  .have e:=Fa n h i hi;have b:=Yq a (n^i*d^0);rw [cL,fL]at b ⊢;rw [eG];omega
  .have e:=Fa n h i hi;have b:=Fa d g j c;have o:=Yq (n^i) (d^j);have p:=Yq a (n^i*d^j);rw [bH];omega
theorem Yk1{p:List Int}{n d:Int}{A:Nat}(e:Sz A p)(c:bl n.natAbs<=m)(b:bl d.natAbs<=m)(h:p.length<=31)(i:Nat):bl (Ic p n d i).natAbs<=A+(p.length-1-i)*m+5:=by unfold Ic;refine Zj4 (λk g=>?_) O;have a:=Zg7 (i:=k) (j:=p.length-1-(i+k)) (e (i+k)) c b;rw [show k+(p.length-1-(i+k))=p.length-1-i by omega]at a;exact a
def Kq(p:List Int)(n d:Int):Prop:=p≠[]/\65536<Xm p+(p.length-1)*Xm [n,d]+8
instance (p:List Int) (n d:Int):Decidable (Kq p n d):=by unfold Kq;infer_instance
def evv(p:List Int)(n d:Int):Int:=if Kq p n d then 0 else pev p n d
def eve(p:List Int)(n d:Int):Int:=if Kq p n d then 7 else 0
abbrev wc (x:Int):Array Value:=#[.bool (decide (x<0)),.string (Qv x.natAbs)]
section
variable {p:List Int} {n d:Int} (hF:Xm p+(p.length-1)*Xm [n,d]+8<=65536) (hl:p.length<=25)
include hF
theorem Ziy:bl n.natAbs<=Xm [n,d]/\bl d.natAbs<=Xm [n,d]:=by simp only [Xm];omega
theorem Zq3 : bl (d^(p.length-1-k)).natAbs<=65536:=by
 rcases aV (p.length-1-k)with h|h
 .rw [h,cL];decide
 .have a:=Fa d (Ziy hF).2 _ h;have b:(p.length-1-k)*Xm [n,d]<=(p.length-1)*Xm [n,d]:=aK _ O;omega
theorem Zq2 : bl (cf p k*d^(p.length-1-k)).natAbs<=65536:=by have a:=Zg7 (i:=0) (j:=p.length-1-k) (Qz p k) (Ziy hF).1 (Ziy hF).2;have b:(0+(p.length-1-k))*Xm [n,d]<=(p.length-1)*Xm [n,d]:=aK _ O;rw [cL,eQ]at a;omega
include hl
theorem Zq4(k:Nat):bl (Ic p n d k).natAbs<=65536:=by have a:=Yk1 (Qz p) (Ziy hF).1 (Ziy hF).2 O k;have b:(p.length-1-k)*Xm [n,d]<=(p.length-1)*Xm [n,d]:=aK _ O;omega
theorem Zxe(a:1<=k)(b:k<=p.length-1):bl (Ic p n d k*n).natAbs<=65536:=by
 have c:=Yk1 (Qz p) (Ziy hF).1 (Ziy hF).2 O k;have e:=Yq (Ic p n d k) n;have g:=(Ziy hF).1;have h:(p.length-1-k)*Xm [n,d]+Xm [n,d]<=(p.length-1)*Xm [n,d]:=by rw [<-dB];exact aK _ O
 omega
end
theorem evv_bl{p:List Int}{n d:Int}(hl:p.length<=25):bl (evv p n d).natAbs<=65536:=by
 unfold evv;split
 .decide
 .rename_i h;rcases aV p.length with a|a
  .rw [aC a,show pev [] n d=0 from rfl];decide
  .rw [<-Zuh];have c:p≠[]:=λe=>by rw [e]at a;simp at a
   exact Zq4 (Nat.le_of_not_lt λb=>h ⟨c,b⟩) hl 0
theorem Yg7(d:Int){L:Nat}(a:1<=k)(b:k<=L):d^(L-k)*d=d^(L-(k-1)):=by rw [show L-(k-1)=L-k+1 by omega,dA]
theorem Yd1{p:List Int}(n d:Int)(a:1<=k)(b:k<=p.length-1):Ic p n d k*n+cf p (k-1)*d^(p.length-1-(k-1))=Ic p n d (k-1):=by rw [Yis n d (i:=k-1) O,show k-1+1=k by omega]
end Go.Sky
namespace Go.Sky
variable{k i B t:Nat}{f:Nat->Int}{q r c R:List Int}{a b:Int}
def acc(p q:List Int)(i t:Nat):Int:=Yf (λk=>if k<=t then cf p k*cf q (t-k)else 0) i
def Zbg(p q:List Int)(i j t:Nat):Int:=acc p q i t+if i<=t/\t<i+j then cf p i*cf q (t-i)else 0
theorem Yeh(p q:List Int)(i:Nat):Zbg p q i 0=acc p q i:=funext λt=>by unfold Zbg;rw [aD O,fC]
theorem Ylg(p q:List Int)(i:Nat):Zbg p q i q.length=acc p q (i+1):=funext λt=>by
 unfold Zbg acc;rw [Yi];by_cases h:i<=t
 .rw [aF h];by_cases d:t<i+q.length
  .rw [aF ⟨h,d⟩]
  .rw [aD (λh=>d h.2),Yg (p:=q) O,dO]
 .rw [aD h,aD (λd=>h d.1)]
theorem Zlo{L:Nat}{g:Nat->Int}(j:k<L)(h:∀t,t<L->t≠k->f t=g t)(x:Int)(l:x=g k):(mk L f).set k x=mk L g:=Ib (by simp [Yu]) λt e=>by
 rw [cM,Yu]at e;rw [Zmp _ _ _ _ (by rw [Yu];exact j),Nq,Nq,aF e];by_cases d:t=k
 .rw [aF d,d,l,aF j]
 .rw [aD d,aF e,h t e d]
theorem Ylf{p:List Int}{L j:Nat}(h:i+j<L):(mk L (Zbg p q i j)).set (i+j) (Zbg p q i j (i+j)+cf p i*cf q j)=mk L (Zbg p q i (j+1)):=by
 refine Zlo h (λt g e=>?_) _ ?_
 .unfold Zbg;by_cases d:i<=t/\t<i+j
  .rw [aF d,aF O]
  .rw [aD d,aD O]
 .unfold Zbg;rw [aD O,aF O,fC,show i+j-i=j by omega]
theorem Zvp(p q:List Int)(t:Nat):acc p q p.length t=(ps p*ps q).c t:=by
 rw [PS.mul_c];unfold acc;have d:Yf (λk=>if k<=t then cf p k*cf q (t-k)else 0) (max (t+1) p.length)=Yf (λk=>if k<=t then cf p k*cf q (t-k)else 0) p.length:=
  Zhl O λk d _=>by rw [Yg d,cN];split<;>rfl
 have e:Yf (λk=>if k<=t then cf p k*cf q (t-k)else 0) (max (t+1) p.length)=Yf (λk=>if k<=t then cf p k*cf q (t-k)else 0) (t+1):=
  Zhl O λk d _=>by rw [aD O]
 rw [<-d,e];exact Xa λk g=>by rw [aF O];rfl
theorem Zpq(L:Nat):List.replicate L 0=mk L λ_=>0:=by rw [Br L λ_=>0];unfold fill;exact Hy λi _=>by split<;>rfl
theorem Yhc(p q:List Int):tzl (mk (p.length+q.length-1) (acc p q p.length))=Qn p q:=by unfold Qn;congr 1;exact Hy λi _=>Zvp p q i
theorem Ypu{p:List Int}{A j:Nat}(g:Sz A p)(l:Sz B q)(hi:i<31):bl (Zbg p q i j t).natAbs<=A+B+5:=by
 have h:Zbg p q i j t=Yf (λk=>if k<i then(if k<=t then cf p k*cf q (t-k)else 0)else if i<=t/\t<i+j then cf p i*cf q (t-i)else 0) (i+1):=by rw [Yi];rw [aD (Nat.lt_irrefl i)];unfold Zbg acc;congr 1;exact Xa λk d=>by rw [aF d]
 rw [h];have e:∀a b,bl (cf p a*cf q b).natAbs<=A+B:=λa b=>by have:=Yq (cf p a) (cf q b);have:=g a;have:=l b;omega
 refine Zj4 (λk d=>?_) O;split
 .split
  .exact e _ _
  .simp [Ll]
 .split
  .exact e _ _
  .simp [Ll]
theorem bl_acc{p:List Int}{A:Nat}(d:Sz A p)(e:Sz B q)(hi:i<=31):bl (acc p q i t).natAbs<=A+B+5:=by
 refine Zj4 (λk g=>?_) hi;split
 .have:=Yq (cf p k) (cf q (t-k));have:=d k;have:=e (t-k);omega
 .simp [Ll]
def Az(p q:List Int):Prop:=p≠[]/\q≠[]/\(24<p.length+q.length-2\/65536<Xm p+Xm q+5)
instance (p q:List Int):Decidable (Az p q):=by unfold Az;infer_instance
theorem Zea{L:Nat}(h:i<L):(mk L f).getD i 0=f i:=by have:=Nq L f i;rw [aF h]at this;exact this
def Yom(p q:List Int):Bool:=decide (q≠[]) && decide (p.length<q.length)
def Bl(p q:List Int):Int:=if q.length=0 then 3 else if p.length<q.length then 0 else if 65536<Xm p+(p.length-q.length+1)*(Xm q+1)then 7 else 0
def Zep(q r:List Int)(d:Nat):List Int:=
 mk r.length λt=>cf r t*cf q (q.length-1)-if d-(q.length-1)<=t/\t<d-(q.length-1)+q.length then cf r d*cf q (t-(d-(q.length-1)))else 0
def Qk(p q:List Int):Nat->List Int
 | 0=>p
 | j+1=>Zep q (Qk p q j) (p.length-1-j)
def Zgl(q r:List Int)(d:Nat):(Zep q r d).length=r.length:=Yu _ _
theorem Pi(p q:List Int):∀j,(Qk p q j).length=p.length
 | 0=>rfl
 | j+1=>by unfold Qk;rw [Zgl,Pi p q j]
def Xv(p q:List Int):List Int:=if p.length<q.length then p else tzl (Qk p q (p.length-q.length+1))
theorem Zg4{d:Nat}(e:t<r.length):cf (Zep q r d) t=cf r t*cf q (q.length-1)-if d-(q.length-1)<=t/\t<d-(q.length-1)+q.length then cf r d*cf q (t-(d-(q.length-1)))else 0:=by unfold Zep;rw [Nq,aF e]
theorem Yb1{c d:Int}{A:Nat}(j:bl a.natAbs<=A)(l:bl b.natAbs<=B)(m:bl c.natAbs<=A)(n:bl d.natAbs<=B):bl (a*b-c*d).natAbs<=A+(B+1):=by have e:=Yq a b;have g:=Yq c d;have h:=Bm (a*b) (c*d);omega
theorem Ye5{A:Nat}(e:Sz A r)(d:Sz B q)(g:Nat):Sz (A+(B+1)) (Zep q r g):=by
 unfold Zep;refine Cv λt h=>?_;split
 .exact Yb1 (e t) (d _) (e _) (d _)
 .rw [fU];have:=Yq (cf r t) (cf q (q.length-1));have:=e t;have:=d (q.length-1);omega
theorem Bo(p q:List Int):∀j,Sz (Xm p+j*(Xm q+1)) (Qk p q j)
 | 0=>by rw [gI];exact Qz p
 | j+1=>by unfold Qk;rw [dB,<-fR];exact Ye5 (Bo p q j) (Qz q) _
def dq(q r:List Int)(k:Nat):Int:=cf r (k+q.length-1)/cf q (q.length-1)
def Zev(q r:List Int)(k:Nat):List Int:=mk r.length λt=>cf r t-if k<=t/\t<k+q.length then dq q r k*cf q (t-k)else 0
def Xf(p q:List Int):Nat->List Int
 | 0=>p
 | j+1=>Zev q (Xf p q j) (p.length-q.length-j)
theorem Gt(p q:List Int):∀j,(Xf p q j).length=p.length
 | 0=>rfl
 | j+1=>by unfold Xf Zev;rw [Yu,Gt p q j]
def Zu2(p q:List Int)(k:Nat):Int:=dq q (Xf p q (p.length-q.length-k)) k
def Mj(p q:List Int)(k:Nat):Prop:=cf (Xf p q (p.length-q.length-k)) (k+q.length-1)%cf q (q.length-1)=0
def Yg4(p q:List Int):List Int:=tzl (mk (p.length-q.length+1) (Zu2 p q))
def pdivs(p q:List Int):Prop:=p=[]\/(q.length<=p.length/\(∀k,k<=p.length-q.length->Mj p q k)/\∀i,cf (Xf p q (p.length-q.length+1)) i=0)
theorem Ye8{A:Nat}(d:Sz A r)(g:Sz B q)(k:Nat)(e:cf r (k+q.length-1)%cf q (q.length-1)=0):Sz (A+(B+1)) (Zev q r k):=by
 unfold Zev;refine Cv λt m=>?_;split
 .have h:bl (dq q r k).natAbs<=A:=Iv (gE e) (d _);have j:=Yq (dq q r k) (cf q (t-k));have l:=Bm (cf r t) (dq q r k*cf q (t-k));have:=d t;have:=g (t-k);omega
 .rw [fU];have:=d t;omega
theorem Zau(p q:List Int):∀j,j<=p.length-q.length+1->(∀k,p.length-q.length<k+j->k<=p.length-q.length->Mj p q k)->Sz (Xm p+j*(Xm q+1)) (Xf p q j)
 | 0,_,_=>by rw [gI];exact Qz p
 | j+1,g,h=>by unfold Xf;rw [dB,<-fR];refine Ye8 (Zau p q j O λk e d=>h k O d) (Qz q) _ ?_;have:=h (p.length-q.length-j) O O;unfold Mj at this;rw [show p.length-q.length-(p.length-q.length-j)=j by omega]at this;exact this
theorem Yjj{x y:Bool×ByteArray}(h:eqW x.1 x.2 y.1 y.2=true):x=y:=by obtain⟨d,e⟩:=Zq5.1 h;exact Prod.ext d e
def Yji(a:Bool)(s:ByteArray):eqW a s a s=true:=Zq5.2 ⟨rfl,rfl⟩
theorem Yei(p q:List Int)(i j:Nat):Zbg p q i (j+1) (i+j)=Zbg p q i j (i+j)+cf p i*cf q j:=by unfold Zbg;rw [aF O,aD O,fC,show i+j-i=j by omega]
theorem Za1{p:List Int}(h:p.length=0\/q.length=0):Qn p q=[]:=by
 unfold Qn;refine(Kg _).2 λi=>?_;rw [Nq];split
 .rw [PS.mul_c];refine Gf λk _=>?_;rcases h with h|h
  .rw [Ol,Yg O,cN]
  .rw [Ol,Ol,Yg (p:=q) O,dO]
 .rfl
def Zi3(R:List Int)(l:Int)(i:Nat):List Int:=mk R.length λt=>if t<i then cf R t*l else cf R t
def Znb(q R:List Int)(l c:Int)(s i:Nat):List Int:=mk R.length λt=>cf R t*l-if s<=t/\t<s+i then c*cf q (t-s)else 0
def Zt6(R:List Int)(l:Int)(i:Nat):(Zi3 R l i).length=R.length:=Yu _ _
def Zt5(q R:List Int)(l c:Int)(s i:Nat):(Znb q R l c s i).length=R.length:=Yu _ _
theorem Ydm(R:List Int)(l:Int):Zi3 R l 0=R:=by unfold Zi3;refine Eq.trans (Hy λi hi=>?_) (Zd6 R);rw [aD O]
theorem Yh4{l:Int}(h:i<R.length):(Zi3 R l i).getD i 0=cf R i:=by unfold Zi3;rw [Zea h,aD O]
theorem Yh3{l:Int}(h:i<R.length):(Zi3 R l i).set i (cf R i*l)=Zi3 R l (i+1):=by
 unfold Zi3;refine Zlo h (λt g e=>?_) _ (by rw [aF O]);by_cases d:t<i
 .rw [aF d,aF O]
 .rw [aD d,aD O]
theorem Ycp(q R:List Int)(l c:Int)(s:Nat):Zi3 R l R.length=Znb q R l c s 0:=by unfold Zi3 Znb;exact Hy λi hi=>by rw [aF hi,aD O,fU]
theorem Yfc{l c:Int}{s:Nat}(h:s+i<R.length):(Znb q R l c s i).getD (s+i) 0=cf R (s+i)*l:=by unfold Znb;rw [Zea h,aD O,fU]
theorem Yfb{l c:Int}{s:Nat}(h:s+i<R.length):(Znb q R l c s i).set (s+i) (cf R (s+i)*l-c*cf q i)=Znb q R l c s (i+1):=by
 unfold Znb;refine Zlo h (λt g e=>?_) _ (by rw [aF O,show s+i-s=i by omega]);by_cases d:s<=t/\t<s+i
 .rw [aF d,aF O]
 .rw [aD d,aD O]
theorem rest_b{p:List Int}{j:Nat}(g:Xm p+(p.length-q.length+1)*(Xm q+1)<=65536)(h:j<p.length-q.length+1) :
  (∀t,bl (cf (Qk p q j) t).natAbs<=65536)/\(∀t i,bl (cf (Qk p q j) t*cf q i).natAbs<=65536)/\(∀t i t2 i2,bl (cf (Qk p q j) t*cf q i-cf (Qk p q j) t2*cf q i2).natAbs<=65536):=by
 have d:=Bo p q j;have e:j*(Xm q+1)+(Xm q+1)<=(p.length-q.length+1)*(Xm q+1):=by rw [<-dB];exact aK _ O
 refine⟨λt=>by have:=d t;omega,λt i=>?_,λt i t2 i2=>?_⟩
 .have:=d t;have:=Qz q i;have:=Yq (cf (Qk p q j) t) (cf q i);omega
 .have:=Yb1 (d t) (Qz q i) (d t2) (Qz q i2);omega
def Zsk{p:List Int}(d:Xm p+(p.length-q.length+1)*(Xm q+1)<=65536):Sz 65536 (Qk p q (p.length-q.length+1)):=(Bo p q _).mono d
theorem Zb4{p:List Int}(h:Bl p q=0):q.length≠0/\(q.length<=p.length->Xm p+(p.length-q.length+1)*(Xm q+1)<=65536):=by
 unfold Bl at h;split at h
 .omega
 .refine⟨‹_›,λd=>?_⟩;rw [aD O]at h;split at h
  .omega
  .omega
theorem Zgx{p:List Int}(h:q.length≠0):Yom p q=decide (p.length<q.length):=by unfold Yom;have d:q≠[]:=λe=>h (by rw [e];rfl);simp [d]
def Znj(q R:List Int)(c:Int)(k i:Nat):List Int:=mk R.length λt=>cf R t-if k<=t/\t<k+i then c*cf q (t-k)else 0
def Zt7(q R:List Int)(c:Int)(k i:Nat):(Znj q R c k i).length=R.length:=Yu _ _
theorem Yd7(q R:List Int)(c:Int)(k:Nat):R=Znj q R c k 0:=by unfold Znj;refine Eq.trans (Zd6 R).symm (Hy λi hi=>?_);rw [aD O,fU]
theorem Yjo{c:Int}(h:k+i<R.length):(Znj q R c k i).getD (k+i) 0=cf R (k+i):=by unfold Znj;rw [Zea h,aD O,fU]
theorem Yjn{c:Int}(h:k+i<R.length):(Znj q R c k i).set (k+i) (cf R (k+i)-c*cf q i)=Znj q R c k (i+1):=by
 unfold Znj;refine Zlo h (λt g e=>?_) _ (by rw [aF O,show k+i-k=i by omega]);by_cases d:k<=t/\t<k+i
 .rw [aF d,aF O]
 .rw [aD d,aD O]
def Zc8(p q:List Int)(j:Nat):List Int:=mk (p.length-q.length+1) λt=>if p.length-q.length<t+j then Zu2 p q t else 0
def Zab(p q:List Int)(j:Nat):(Zc8 p q j).length=p.length-q.length+1:=Yu _ _
theorem Zop(p q:List Int):List.replicate (p.length-q.length+1) 0=Zc8 p q 0:=by rw [Zpq];unfold Zc8;exact Hy λi hi=>by rw [aD O]
theorem Zut{p:List Int}{j:Nat}(g:j<p.length-q.length+1):(Zc8 p q j).set (p.length-q.length-j) (dq q (Xf p q j) (p.length-q.length-j))=Zc8 p q (j+1):=by
 unfold Zc8;refine Zlo O (λt h e=>?_) _ ?_
 .by_cases d:p.length-q.length<t+j
  .rw [aF d,aF O]
  .rw [aD d,aD O]
 .rw [aF O];unfold Zu2;rw [show p.length-q.length-(p.length-q.length-j)=j by omega]
theorem Zc7(p q:List Int):tzl (Zc8 p q (p.length-q.length+1))=Yg4 p q:=by unfold Zc8 Yg4;congr 1;exact Hy λi hi=>by rw [aF O]
def pdv(p q:List Int):Prop:=p=[]\/(q.length<=p.length/\(∀k,k<=p.length-q.length->Mj p q k)/\tzl (Xf p q (p.length-q.length+1))=[])
instance (p q:List Int) (k:Nat):Decidable (Mj p q k):=by unfold Mj;infer_instance
instance (p q:List Int):Decidable (pdv p q):=by unfold pdv;infer_instance
theorem div_b{p:List Int}{j:Nat}(n:Xm p+(p.length-q.length+1)*(Xm q+1)<=65536)(o:j<p.length-q.length+1)(h:∀k,p.length-q.length<k+j->k<=p.length-q.length->Mj p q k) :
  (∀t,bl (cf (Xf p q j) t).natAbs<=65536)/\(Mj p q (p.length-q.length-j)->bl (dq q (Xf p q j) (p.length-q.length-j)).natAbs<=65536/\(∀i,bl (dq q (Xf p q j) (p.length-q.length-j)*cf q i).natAbs<=65536)/\
   ∀t i,bl (cf (Xf p q j) t-dq q (Xf p q j) (p.length-q.length-j)*cf q i).natAbs<=65536):=by
 have d:=Zau p q j O h;have l:j*(Xm q+1)+(Xm q+1)<=(p.length-q.length+1)*(Xm q+1):=by rw [<-dB];exact aK _ O
 refine⟨λt=>by have:=d t;omega,λe=>?_⟩;unfold Mj at e;rw [show p.length-q.length-(p.length-q.length-j)=j by omega]at e;have m:bl (dq q (Xf p q j) (p.length-q.length-j)).natAbs<=Xm p+j*(Xm q+1):=Iv (gE e) (d _);have g:∀i,bl (dq q (Xf p q j) (p.length-q.length-j)*cf q i).natAbs<=Xm p+j*(Xm q+1)+Xm q:=λi=>by have:=Yq (dq q (Xf p q j) (p.length-q.length-j)) (cf q i);have:=Qz q i;omega
 refine⟨O,λi=>by have:=g i;omega,λt i=>?_⟩;have:=Bm (cf (Xf p q j) t) (dq q (Xf p q j) (p.length-q.length-j)*cf q i);have:=g i;have:=d t;omega
theorem Zyn{p:List Int}(g:Xm p+(p.length-q.length+1)*(Xm q+1)<=65536)(e:∀k,k<=p.length-q.length->Mj p q k)(j:Nat):Sz 65536 (Zc8 p q j):=by
 unfold Zc8;refine Cv λt l=>?_;split
 .have d:=(div_b g (j:=p.length-q.length-t) O (λk _ h=>e k h)).2;rw [show p.length-q.length-(p.length-q.length-t)=t by omega]at d;exact(d (e t O)).1
 .simp [Ll]
def Ye9{p:List Int}(d:Xm p+(p.length-q.length+1)*(Xm q+1)<=65536)(g:∀k,k<=p.length-q.length->Mj p q k):Sz 65536 (Xf p q (p.length-q.length+1)):=
 (Zau p q _ (aH _) λk _ e=>g k e).mono d
def Mu(p:List Int)(a b d:Int):Nat->List Int
 | 0=>[cf p (p.length-1)]
 | j+1=>mk ((Mu p a b d j).length+1) λt=>cf (Mu p a b d j) t*a+(if t=0 then cf p (p.length-2-j)*d^(j+1)else cf (Mu p a b d j) (t-1)*b)
def Ft(p:List Int)(a b d:Int):Mu p a b d 0=[cf p (p.length-1)]:=rfl
def Zov(p:List Int)(a b d:Int)(j:Nat):Mu p a b d (j+1)=mk ((Mu p a b d j).length+1) (λt=>cf (Mu p a b d j) t*a+(if t=0 then cf p (p.length-2-j)*d^(j+1)else cf (Mu p a b d j) (t-1)*b)):=rfl
theorem Zc0(p:List Int)(a b d:Int):∀j,(Mu p a b d j).length=j+1
 | 0=>rfl
 | j+1=>by unfold Mu;rw [Yu,Zc0 p a b d j]
def Le(p:List Int)(a b d:Int):List Int:=if p.length=0 then []else tzl (Mu p a b d (p.length-1))
def Zmj(p:List Int)(a b d:Int):Prop:=p≠[]/\65536<Xm p+(p.length-1)*(Xm [a,b,d]+1)+8
instance (p:List Int) (a b d:Int):Decidable (Zmj p a b d):=by unfold Zmj;infer_instance
def Lq(p q:List Int):List Int:=if p=[]then []else Yg4 p q
def Zlc{p:List Int}(h:p≠[]):Lq p q=Yg4 p q:=aD h
theorem Zgy{p:List Int}{j:Nat}(d:j<=p.length-q.length):Mj p q (p.length-q.length-j)↔cf (Xf p q j) (p.length-q.length-j+q.length-1)%cf q (q.length-1)=0:=by unfold Mj;rw [show p.length-q.length-(p.length-q.length-j)=j by omega]
def Zvf{x y:Int}(e:y≠0)(d:bl y.natAbs<=65536):Zbc (x%y)=x%y:=Iw (aB (Zru x y e) d)
def cnx(c:List Int)(a b:Int)(i:Nat):List Int:=mk (c.length+1) λt=>if t<i then cf c t*a+(if t=0 then 0 else cf c (t-1)*b)else if t=i/\0<i then cf c (t-1)*b else 0
def Hz(c:List Int)(a b:Int)(i:Nat):(cnx c a b i).length=c.length+1:=Yu _ _
theorem Yki(c:List Int)(a b:Int):List.replicate (c.length+1) 0=cnx c a b 0:=by rw [Zpq];unfold cnx;exact Hy λi hi=>by rw [aD O,aD O]
theorem Ybk(h:i<c.length):(cnx c a b i).getD i 0=if i=0 then 0 else cf c (i-1)*b:=by
 unfold cnx;rw [Zea O,aD O];by_cases d:i=0
 .rw [aD O,aF d]
 .rw [aF O,aD d]
theorem Yo0(h:i<c.length):((cnx c a b i).set i ((cnx c a b i).getD i 0+cf c i*a)).set (i+1) (cf c i*b)=cnx c a b (i+1):=Ib (by simp [Hz]) λt g=>by
 rw [cM,cM,Hz]at g;rw [Zmp _ _ _ _ (by rw [cM,Hz];omega),Zmp _ _ _ _ (by rw [Hz];omega),Ybk h];unfold cnx;rw [Nq,Nq,aF g,aF g];by_cases d:t=i+1
 .subst d;rw [aF rfl,aD O,aF O,show i+1-1=i by omega]
 .rw [aD d];by_cases e:t=i
  .subst e;rw [aF rfl,aF (iI t)];split<;>omega
  .rw [aD e];by_cases j:t<i
   .simp [j,show t<i+1 by omega]
   .simp [j,e,d,show ¬t<i+1 by omega]
theorem Zvc(h:0<c.length):(cnx c a b c.length).getD 0 0=cf c 0*a:=by unfold cnx;rw [Zea O,aF h,aF rfl,fC]
theorem Yo1{w:Int}(h:0<c.length):(cnx c a b c.length).set 0 ((cnx c a b c.length).getD 0 0+w)=mk (c.length+1) λt=>cf c t*a+(if t=0 then w else cf c (t-1)*b):=Ib (by simp [Hz,Yu]) λt e=>by
 rw [cM,Hz]at e;rw [Zmp _ _ _ _ (by rw [Hz];omega),Zvc h,Nq,aF e];unfold cnx;rw [Nq,aF e];by_cases d:t=0
 .rw [aF d,aF d,d]
 .rw [aD d,aD d,aD d];by_cases g:t<c.length
  .rw [aF g]
  .rw [aD g,aF (show t=c.length/\0<c.length by omega),Yg (i:=t) O];omega
theorem Zje{p:List Int}{x y z:Int}{A m:Nat}(d:Sz A p)(l:bl x.natAbs<=m)(v:bl y.natAbs<=m)(n:bl z.natAbs<=m):∀j,Sz (A+j*(m+1)) (Mu p x y z j)
 | 0=>Sz.of_mem λw g=>by have g:w∈[cf p (p.length-1)]:=g;rw [bE.1 g];have:=d (p.length-1);omega
 | j+1=>by
  have o:=Zje d l v n j;unfold Mu;refine Cv λt G=>?_;have D:=Yq (cf (Mu p x y z j) t) x;have F:=o t;have e:(j+1)*(m+1)=j*(m+1)+m+1:=by rw [dB];omega
  split
  .have h:=Zg7 (i:=0) (j:=j+1) (d (p.length-2-j)) l n;rw [cL,eQ]at h;have s:(0+(j+1))*m<=j*(m+1)+m:=by rw [bZ,dB];have:j*m<=j*(m+1):=aX _ O;omega
   have u:=Kx (cf (Mu p x y z j) t*x) (cf p (p.length-2-j)*z^(j+1));omega
  .have h:=Yq (cf (Mu p x y z j) (t-1)) y;have s:=o (t-1);have u:=Kx (cf (Mu p x y z j) t*x) (cf (Mu p x y z j) (t-1)*y);omega
section
variable {p:List Int} {x y z:Int} (hF:Xm p+(p.length-1)*(Xm [x,y,z]+1)+8<=65536) {j:Nat} (hj:j<p.length-1)
include hF hj
theorem cp_all:bl (z^j).natAbs<=65536/\bl (z^(j+1)).natAbs<=65536/\(∀t,bl (cf (Mu p x y z j) t).natAbs<=65536)/\(∀t,bl (cf (Mu p x y z j) t*x).natAbs<=65536)/\(∀t,bl (cf (Mu p x y z j) t*y).natAbs<=65536)/\
  (∀t,bl ((if t=0 then 0 else cf (Mu p x y z j) (t-1)*y)).natAbs<=65536)/\(∀t,bl ((if t=0 then 0 else cf (Mu p x y z j) (t-1)*y)+cf (Mu p x y z j) t*x).natAbs<=65536)/\
  bl (cf p (p.length-2-j)*z^(j+1)).natAbs<=65536/\bl (cf (Mu p x y z j) 0*x+cf p (p.length-2-j)*z^(j+1)).natAbs<=65536:=by
 have v:bl x.natAbs<=Xm [x,y,z]:=by simp only [Xm];omega
 have F:bl y.natAbs<=Xm [x,y,z]:=by simp only [Xm];omega
 have d:bl z.natAbs<=Xm [x,y,z]:=by simp only [Xm];omega
 have l:=Zje (Qz p) v F d j;generalize Xm [x,y,z]=m at *;have e:j*(m+1)+(m+1)<=(p.length-1)*(m+1):=by rw [<-dB];exact aK _ O
 have D:j*m<=j*(m+1):=aX _ O;have w:=Zg7 (i:=0) (j:=j+1) (Qz p (p.length-2-j)) v d;rw [cL,eQ,bZ,dB]at w;have o:=Fa z d (j+1) O;rw [dB]at o;have n:bl (z^j).natAbs<=65536:=by
  rcases aV j with h|h
  .rw [h,cL];decide
  .have:=Fa z d j h;omega
 have g:∀t,bl (cf (Mu p x y z j) t*x).natAbs<=Xm p+j*(m+1)+m:=λt=>by have:=Yq (cf (Mu p x y z j) t) x;have:=l t;omega
 have s:∀t,bl (cf (Mu p x y z j) t*y).natAbs<=Xm p+j*(m+1)+m:=λt=>by have:=Yq (cf (Mu p x y z j) t) y;have:=l t;omega
 have u:∀t,bl ((if t=0 then 0 else cf (Mu p x y z j) (t-1)*y)).natAbs<=Xm p+j*(m+1)+m:=λt=>by
  split
  .simp [Ll]
  .exact s _
 refine⟨n,O,λt=>by have:=l t;omega,λt=>by have:=g t;omega,λt=>by have:=s t;omega,λt=>by have:=u t;omega,λt=>?_,O,?_⟩
 .have:=Kx (if t=0 then 0 else cf (Mu p x y z j) (t-1)*y) (cf (Mu p x y z j) t*x);have:=g t;have:=u t;omega
 .have:=Kx (cf (Mu p x y z j) 0*x) (cf p (p.length-2-j)*z^(j+1));have:=g 0;omega
end
theorem Yoy{p:List Int}{x y z:Int}(hF:Xm p+(p.length-1)*(Xm [x,y,z]+1)+8<=65536):Sz 65536 (Mu p x y z (p.length-1)):=by
 have d:bl x.natAbs<=Xm [x,y,z]:=by simp only [Xm];omega
 have e:bl y.natAbs<=Xm [x,y,z]:=by simp only [Xm];omega
 have g:bl z.natAbs<=Xm [x,y,z]:=by simp only [Xm];omega
 exact(Zje (Qz p) d e g _).mono O
theorem Zi4(p q:List Int):(Xv p q).length<=p.length:=by
 unfold Xv;split
 .exact aH _
 .have:=Mp (Qk p q (p.length-q.length+1));rw [Pi]at this;exact this
theorem Zar{p:List Int}(d:Vp p)(e:Bl p q=0):Vp (Xv p q):=by
 have g:=Zi4 p q;refine⟨?_,?_,by have:=d.len;omega⟩
 .unfold Xv;split
  .exact d.sz
  .exact(Zsk ((Zb4 e).2 O)).tzl
 .unfold Xv;split
  .exact d.tr
  .exact Qg _
def Zol(p q:List Int):Prop:=p.length≠0/\q.length≠0/\65536<(max p.length q.length+2)*(max p.length q.length+2)*(max (Xm p) (Xm q)+8)
instance (p q:List Int):Decidable (Zol p q):=by unfold Zol;infer_instance
def gA(p q:List Int):List Int:=if p.length<q.length then Zx q else Zx p
def gB(p q:List Int):List Int:=if p.length<q.length then Zx p else Zx q
def eok:Nat->List Int->List Int->Prop
 | 0,_,b=>b=[]
 | f+1,a,b=>b=[]\/(Bl a b=0/\eok f b (Zx (Xv a b)))
def eu:Nat->List Int->List Int->List Int
 | 0,a,_=>a
 | f+1,a,b=>if b=[]then a else eu f b (Zx (Xv a b))
theorem Zuo{f:Nat}{a b:List Int}(h:eok f a b)(d:b≠[]):∃g,f=g+1/\Bl a b=0/\eok g b (Zx (Xv a b))/\eu f a b=eu g b (Zx (Xv a b)):=by
 cases f with
 | zero=>exact absurd h d
 | succ g=>
  rcases h with h|h
  .exact absurd h d
  .exact⟨g,rfl,h.1,h.2,by show(if b=[]then a else _)=_;rw [aD d]⟩
theorem Di(f:Nat)(a:List Int):eu f a []=a:=by cases f<;>rfl
def Lm(g:List Int):List Int:=if g.length≠0/\cf g (g.length-1)<0 then Zs g (-1)else g
def Na(f:Nat)(p q:List Int):List Int:=Lm (eu f (gA p q) (gB p q))
theorem vp_gA{p:List Int}(d:Vp p)(e:Vp q):Vp (gA p q):=by unfold gA;split<;>exact Lp ‹_›
theorem vp_gB{p:List Int}(d:Vp p)(e:Vp q):Vp (gB p q):=by unfold gB;split<;>exact Lp ‹_›
theorem Zb7{p:List Int}(h:Sz 65536 p)(i:Nat):bl (cf p i * -1).natAbs<=65536:=by rw [jZ,fL,dW];exact h i
theorem Pe(z:Int):z.sign<0↔z<0:=by
 rcases kE z 0 with h|h|h
 .rw [eV h];omega
 .subst h;simp
 .rw [fJ h];omega
end Go.Sky
namespace Go.Sky
variable{b k c:Nat}{xs ys:List Nat}{p:Nat->Prop}
theorem Zjd{l:List Int}(h:∀x∈l,Nz x):Sz 65536 l:=Sz.of_mem λx a=>by obtain⟨d,e⟩:=h x a;have:bl x.natAbs<=64:=(Qm 64 _).2 O;omega
open Go.RowKit (Below)
set_option maxRecDepth 20000
def Po:2<=1000000000:=O3
def Il:0<1000000000:=O3
abbrev Ow (v:Value) (x:Nat):Pc:=Yw 1 Kt v (dg 1000000000 x)
theorem Iu(x:Nat):(dg 1000000000 x).length<=bl x:=by rw [Xk Po];exact dC (Dz x) (fK O3 _)
theorem Zyk(a:2<=b){o:List Nat}(f:∀d∈o,d<b){x:Nat}(g:Yr b o=x)(h:o.length=0\/b^(o.length-1)<=x):o=dg b x:=by
 rw [<-g,Kr a o f];have j:(tz o).length<=o.length:=(Bn o).1;have i:o.length<=(tz o).length:=by
  rw [<-Kr a o f,g];rcases h with h|h
  .omega
  .have:=(Np a (o.length-1) x).2 h;omega
 have e:=(Bn o).2;rw [bL i]at e;exact e
theorem Ydf{o:List Nat}(a:o.length=k)(h:Yr b o+c*b^k=Yr b (xs.take k)+Yr b (ys.take k)) :
  Yr b (o ++ [(c+xs.getD k 0+ys.getD k 0)%b])+(c+xs.getD k 0+ys.getD k 0)/b*b^(k+1)=Yr b (xs.take (k+1))+Yr b (ys.take (k+1)):=by
 rw [Mb,Qp,Qp,a];have e:=cC (c+xs.getD k 0+ys.getD k 0) b;generalize (c+xs.getD k 0+ys.getD k 0)/b=q at *;generalize (c+xs.getD k 0+ys.getD k 0)%b=r at *;simp only [Yr,bX];generalize b^k=B at *;have:(b*q+r)*B=(c+xs.getD k 0+ys.getD k 0)*B:=by rw [e]
 grind
def d9s(a b c:Nat):Nat:=if a<b+c then a+1000000000-(b+c)else a-(b+c)
theorem Ybc{a:Nat}(d:a<1000000000)(e:b<1000000000)(f:c<=1):d9s a b c<1000000000/\d9s a b c+(b+c)=a+brw a b c*1000000000:=by unfold d9s brw;split<;>omega
theorem Zwz{o:List Nat}(a:c<=1)(f:xs.getD k 0<1000000000)(g:ys.getD k 0<1000000000)(d:o.length=k)(h:Yr 1000000000 o+Yr 1000000000 (ys.take k)=Yr 1000000000 (xs.take k)+c*1000000000^k) :
  Yr 1000000000 (o ++ [d9s (xs.getD k 0) (ys.getD k 0) c])+Yr 1000000000 (ys.take (k+1))=Yr 1000000000 (xs.take (k+1))+brw (xs.getD k 0) (ys.getD k 0) c*1000000000^(k+1):=by
 rw [Mb,Qp,Qp,d];have e:=(Ybc f g a).2;generalize d9s (xs.getD k 0) (ys.getD k 0) c=r at *;generalize brw (xs.getD k 0) (ys.getD k 0) c=q at *;simp only [Yr,bX];generalize 1000000000^k=B at *;have:(r+(ys.getD k 0+c))*B=(xs.getD k 0+q*1000000000)*B:=by rw [e]
 grind
theorem Zm5{o:List Nat}(h:∀d∈o,p d){x:Nat}(f:p x):∀d∈o ++ [x],p d:=λd e=>by
 rcases cY.1 e with a|a
 .exact h d a
 .rw [bE.1 a];exact f
def Za0{x:Nat}(a:2<=b)(h:k<(dg b x).length):b^k<=x:=(Np a k x).1 h
theorem Fj{x:Nat}(a:2<=b)(h:(dg b x).length<=k):Yr b ((dg b x).take k)=x:=by rw [Ml _ _ _ h,Mn a]
theorem Zsh{a o:Nat}(d:a<1000000000)(e:b<1000000000)(g:o<1000000000)(f:c<1000000000):(o+c+a*b)/1000000000<1000000000/\o+c+a*b<=9223372036854775807:=by have h:a*b<=999999999*999999999:=aR O O;refine⟨?_,O⟩;rw [cD Il];omega
theorem Zvz{o:List Nat}{i V:Nat}(h:Yr 1000000000 o+c*1000000000^(i+k)=V+xs.getD i 0*1000000000^i*Yr 1000000000 (ys.take k))(d:i+k<o.length) :
  Yr 1000000000 (o.set (i+k) ((o.getD (i+k) 0+c+xs.getD i 0*ys.getD k 0)%1000000000))+(o.getD (i+k) 0+c+xs.getD i 0*ys.getD k 0)/1000000000*1000000000^(i+(k+1))=V+xs.getD i 0*1000000000^i*Yr 1000000000 (ys.take (k+1)):=by
 have a:=Zjb 1000000000 o o.length (i+k) ((o.getD (i+k) 0+c+xs.getD i 0*ys.getD k 0)%1000000000) d d;rw [bL (by rw [cM];exact aH _),bL (aH _)]at a;rw [Qp];have e:=cC (o.getD (i+k) 0+c+xs.getD i 0*ys.getD k 0) 1000000000;generalize (o.getD (i+k) 0+c+xs.getD i 0*ys.getD k 0)/1000000000=q at *;generalize (o.getD (i+k) 0+c+xs.getD i 0*ys.getD k 0)%1000000000=r at *;generalize Yr 1000000000 (o.set (i+k) r)=W at *;rw [show i+(k+1)=(i+k)+1 by omega,bX];have f:1000000000^(i+k)=1000000000^i*1000000000^k:=bW _ _ _;rw [f]at h a ⊢;generalize 1000000000^i=A at *;generalize 1000000000^k=B at *;have g:(1000000000*q+r)*(A*B)=(o.getD (i+k) 0+c+xs.getD i 0*ys.getD k 0)*(A*B):=by rw [e]
 simp only [bH]at g;have t1:q*(A*B*1000000000)=1000000000*q*(A*B):=O4;have t2:xs.getD i 0*A*(Yr 1000000000 (ys.take k)+ys.getD k 0*B)=xs.getD i 0*A*Yr 1000000000 (ys.take k)+xs.getD i 0*ys.getD k 0*(A*B):=O4;rw [t1,t2];omega
def Zi8(x y:Nat):Int:=if x<y then -1 else if y<x then 1 else 0
section
variable {P:Program} {N:Nat} {sc:Nat->Prop} {env env':Pz} {H H':Hp} {Q Q':Exit->Act->World->Prop} {M:Nat->Prop}
variable {o:Oper} {t t':TypeId} {x y:Operand} {m n:Nat}
theorem Zgf(a:o.op= .binOp .add t x y t')(d:ev env x=some (.int .i64 (m:Int)))(e:ev env y=some (.int .i64 (n:Int)))(h:m+n<=9223372036854775807):Mx P N sc o env H (.int .i64 ((m+n:Nat):Int)):=by have:=d_add (P:=P) (N:=N) (sc:=sc) (H:=H) a d e ⟨O,O⟩;rwa [<-kT]at this
theorem n_mul(a:o.op= .binOp .mul t x y t')(d:ev env x=some (.int .i64 (m:Int)))(e:ev env y=some (.int .i64 (n:Int)))(h:m*n<=9223372036854775807):Mx P N sc o env H (.int .i64 ((m*n:Nat):Int)):=by have:=d_mul (P:=P) (N:=N) (sc:=sc) (H:=H) a d e (by rw [<-eW];exact⟨O,O⟩);rwa [<-eW]at this
theorem Zll(a:o.op= .binOp .quo t x y t')(d:ev env x=some (.int .i64 (m:Int)))(e:ev env y=some (.int .i64 (n:Int)))(h:m<=9223372036854775807)(f:0<n):Mx P N sc o env H (.int .i64 ((m/n:Nat):Int)):=by have:=Zew (P:=P) (N:=N) (sc:=sc) (H:=H) a d e   ;rwa [<-Int.natCast_ediv]at this
theorem Ztx(a:o.op= .binOp .rem t x y t')(d:ev env x=some (.int .i64 (m:Int)))(e:ev env y=some (.int .i64 (n:Int)))(f:0<n):Mx P N sc o env H (.int .i64 ((m%n:Nat):Int)):=by have:=Zmh (P:=P) (N:=N) (sc:=sc) (H:=H) a d e  ;rwa [<-Int.natCast_emod]at this
end
end Go.Sky
namespace Go.Sky
variable{b a r k:Nat}{q:List Nat}
theorem Zc9{l:List Nat}{i:Nat}(h:l.length<=i):l.getD i 0=0:=by simp [List.getD,bF h]
theorem Zux{x y:Nat}(d:2<=b)(h:x<=y):(dg b x).length<=(dg b y).length:=by
 rcases bA (dg b y).length (dg b x).length with c|c
 .have:=Za9 d c;omega
 .exact c
theorem Yju{n:Nat}(c:2<=b)(h:n<b)(d:n≠0):dg b n=[n]:=by rw [Zb3 c O,aW h,cP h,Gk]
theorem Yl1(c:2<=b)(f:a<b):tz (a::dg b r)=dg b (r*b+a):=by
 have h:∀d∈a::dg b r,d<b:=λd e=>by
  rcases bQ.1 e with rfl|e
  .exact f
  .exact Nt c r d e
 rw [<-Kr c _ h];congr 1;simp only [Yr,Mn c];rw [aO];omega
theorem Zve : Zi8 a b<0↔a<b:=by unfold Zi8;split<;>(try split)<;>omega
theorem Ybm : Zi8 a b<=0↔a<=b:=by unfold Zi8;split<;>(try split)<;>omega
theorem Ybn : 0<=Zi8 a b↔b<=a:=by unfold Zi8;split<;>(try split)<;>omega
theorem Zwr{x:Nat}(c:0<k):x/1000000000^k*1000000000+x/1000000000^(k-1)%1000000000=x/1000000000^(k-1):=by
 have h:x/1000000000^k=x/1000000000^(k-1)/1000000000:=by rw [aU,<-bX,show(k-1).succ=k by omega]
 rw [h,aO];exact cC _ _
theorem over_Q{y:Nat}(c:r<y)(d:a<1000000000):(r*1000000000+a)/y<1000000000:=by rw [cD O];have:(r+1)*1000000000<=y*1000000000:=aK _ c;rw [aO 1000000000];omega
theorem bl_m30{y m:Nat}(h:bl m<=30):bl (y*m)<=bl y+30:=by have:=Zmx y m;omega
theorem Yps{y:Nat}(f:r<y)(g:a<1000000000):bl (r*1000000000+a)<=bl y+30:=by
 have c:r*1000000000+a<y*1000000000:=by have:(r+1)*1000000000<=y*1000000000:=aK _ f;omega
 have d:=Og (dZ c);have e:=bl_m30 (y:=y) (m:=1000000000) ((Qm 30 _).2 O);exact aB d e
theorem Zmv{y n:Nat}(e:n<1000000000):bl (y*n)<=bl y+30:=by have c:=Zmx y n;have d:bl n<=30:=(Qm 30 _).2 O;omega
theorem Zgt{d:Nat}(c:0<k)(h:k<=q.length):Yr 1000000000 ((q.set (k-1) d).drop (k-1))=d+1000000000*Yr 1000000000 (q.drop k):=by rw [drop_set _ _ _ O,show k-1+1=k by omega];rfl
theorem Yd8(d:0<k)(h:k<=q.length)(c:q.getD (k-1) 0=0):Yr 1000000000 (q.drop (k-1))=1000000000*Yr 1000000000 (q.drop k):=by rw [Zc6 0 q (k-1) O,c,show k-1+1=k by omega];simp [Yr]
theorem Yey{n:Nat}(c:2<=b)(h:n<b):tz [n]=dg b n:=by have:=Kr c [n] (by simpa using h);simpa [Yr]using this.symm
theorem Zsg{m:Nat}(h:m<9223372036854775809):tz [m%1000000000,m/1000000000%1000000000,m/1000000000/1000000000]=dg 1000000000 m:=by rw [<-Kr Po [m%1000000000,m/1000000000%1000000000,m/1000000000/1000000000] (by intro d c;simp at c;omega)];congr 1;simp only [Yr];omega
theorem sign9{x:Int}(h:(((dg 1000000000 x.natAbs).length:Nat):Int)=0):Value.int .i64 x.sign= .int .i64 0:=by have c:=(Oi Po x.natAbs).1 O;have:x=0:=O;subst this;rfl
theorem Zlz{x:Nat}(h:¬(((dg 1000000000 x).length:Nat):Int)=0):0<x:=by
 rcases aV x with c|c
 .subst c;simp [Gk]at h
 .exact c
theorem Yh9{s:Bool}{n:Nat}{z:Int}(c:n=z.natAbs)(hs:sg s z):(s && decide (0<n))=decide (z<0):=by
 subst c;cases s
 .have:=hs.2 rfl;rw [Bool.false_and,aM O]
 .have:=hs.1 rfl;rw [mE,bJ];omega
theorem Zua(n:Nat):decide ((0:Int)<(((dg 1000000000 n).length:Nat):Int))=decide (0<n):=by rw [bJ];have:=Oi Po n;omega
theorem Ypv{a b:Bool}(h:(a == b)=true):a=b:=by simpa using h
theorem Yl9{x y:Int}(c:y≠0):(x-x.tdiv y*y=x.tmod y):=by have:=iV x y;have e:x.tdiv y*y=y*x.tdiv y:=cQ _ _;omega
def Zki(x y:Int):x.natAbs/y.natAbs=(x.tdiv y).natAbs:=(mQ x y).symm
theorem Ymi(x y:Int):sg (decide (x<0) != decide (y<0)) (x.tdiv y):=by
 have e:∀a b:Int,0<=a->0<=b->0<=a.tdiv b:=λa b i j=>Int.tdiv_nonneg i j;rcases gY x 0 with h|h<;>rcases gY y 0 with d|d
 .have c:=e (-x) (-y) O O;rw [oC,Int.tdiv_neg]at c;simp only [sg,h,d,decide_true,bne_self_eq_false];exact⟨λh=>Bool.noConfusion h,λ_=>O⟩
 .have c:=e (-x) y O d;rw [oC]at c;have:¬y<0:=O;simp [sg,h,this];omega
 .have c:=e x (-y) h O;rw [Int.tdiv_neg]at c;have:¬x<0:=O;simp [sg,d,this];omega
 .have c:=e x y h d;have f:¬x<0:=O;have g:¬y<0:=O;simp [sg,f,g];exact c
theorem Zkh(x:Int){y:Int}(c:y≠0):(x.tmod y).natAbs<y.natAbs:=by rw [Int.natAbs_tmod];exact bO _ O
theorem Ym5{x y:Int}(f:0<y)(h:x.tmod y<0):x/y=x.tdiv y-1/\x%y=x-(x.tdiv y-1)*y:=by
 have c:=Zkh x (show y≠0 by omega);have d:=iV x y;have e:(x.tdiv y-1)*y=y*x.tdiv y-y:=by rw [Int.sub_mul,cQ];omega
 have:=Zec (x:=x) (y:=y) (q:=x.tdiv y-1) (r:=x-(x.tdiv y-1)*y) O (by rw [cQ y];omega) O O;exact this
theorem Ym6{x y:Int}(f:y<0)(h:x.tmod y<0):x/y=x.tdiv y+1/\x%y=x-(x.tdiv y+1)*y:=by
 have c:=Zkh x (show y≠0 by omega);have d:=iV x y;have e:(x.tdiv y+1)*y=y*x.tdiv y+y:=by rw [lZ,cQ];omega
 have:=Zec (x:=x) (y:=y) (q:=x.tdiv y+1) (r:=x-(x.tdiv y+1)*y) O (by rw [cQ y];omega) O O;exact this
theorem Yg0{x y:Int}(c:y≠0)(h:¬x.tmod y<0):x/y=x.tdiv y/\x%y=x.tmod y:=by have d:=Zkh x c;have e:=iV x y;exact Zec c O O O
theorem Ypr(x y:Int):bl (x.tdiv y).natAbs<=bl x.natAbs:=by rw [mQ];exact Og (eI _ _)
theorem Zx5(x y:Int):bl (x.tdiv y*y).natAbs<=bl x.natAbs:=by rw [cH,mQ];exact Og (nJ _ _)
section
variable {P:Program} {N:Nat} {sc:Nat->Prop} {env env':Pz} {H H':Hp} {Q Q':Exit->Act->World->Prop} {M:Nat->Prop}
variable {o:Oper} {t t':TypeId} {x y:Operand} {m n:Nat}
theorem Zwx(e:o.op= .binOp .quo t x y t')(g:ev env x=some (.int .i64 (-(m:Int))))(i:ev env y=some (.int .i64 (n:Int)))(h:m<=9223372036854775808)(d:1<n):Mx P N sc o env H (.int .i64 (-((m/n:Nat):Int))):=Fs e g i λw=>by
 have c:(-(m:Int)).tdiv (n:Int)=-((m/n:Nat):Int):=by rw [oC,Int.ofNat_tdiv]
 have j:m/n<=9223372036854775807:=by have:=nI (show 2<=n from d) (by omega:0<2) (a:=m);omega
 generalize m/n=q at *;have f:Nz (-(q:Int)):=⟨O,O⟩;simp [binOp,Op.intDiv,c,Zbi f];omega
theorem Yhx(d:o.op= .binOp .rem t x y t')(e:ev env x=some (.int .i64 (-(m:Int))))(f:ev env y=some (.int .i64 (n:Int)))(g:0<n):Mx P N sc o env H (.int .i64 (-((m%n:Nat):Int))):=Fs d e f λw=>by
 have c:(-(m:Int)).tmod (n:Int)=-((m%n:Nat):Int):=by rw [Int.neg_tmod,Int.ofNat_tmod]
 simp [binOp,Op.intDiv,c];omega
theorem Yh0(c:o.op= .unOp .neg t x)(e:ev env x=some (.int .i64 (-(m:Int))))(h:m<=9223372036854775807):Mx P N sc o env H (.int .i64 (m:Int)):=λa w hs=>by have d:Nz (m:Int):=⟨O,O⟩;simp [execOp,c,hs.ev e,Op.unary,Op.intArith,Zbi d]
end
end Go.Sky
namespace Go.Sky
variable{i k m:Nat}{p:Pc}{r:List Pc}{bs ts ks:List Nat}{x y:Operand}{v u:Value}{ops:Array Oper}{listed:Array Bool}{zs:List (Int×SL)}{z:Int×SL}{o:Oper}{t:TypeId}{w0:World}{M0:Nat->Prop}
def Yd4(n:Nat):n/256^((dg 256 n).length-0)=0:=cP ((Xk O _ n).1 O)
theorem Zoo{n:Nat}(h:i<(dg 256 n).length):n/256^((dg 256 n).length-i)*256+n/256^((dg 256 n).length-1-i)%256=n/256^((dg 256 n).length-(i+1)):=by
 rw [show(dg 256 n).length-1-i=(dg 256 n).length-(i+1) by omega];have a:n/256^((dg 256 n).length-i)=n/256^((dg 256 n).length-(i+1))/256:=by rw [aU,<-bX,show((dg 256 n).length-(i+1)).succ=(dg 256 n).length-i by omega]
 rw [a,aO];exact cC _ _
theorem Yl6{p xs:List Nat}{r:Nat}(b:0<k)(c:k<=p.length)(d:k<=xs.length)(a:Yr 1000000000 (p.drop k)*256+r=Yr 1000000000 (xs.drop k)) :
  Yr 1000000000 ((p.set (k-1) ((r*1000000000+xs.getD (k-1) 0)/256)).drop (k-1))*256+(r*1000000000+xs.getD (k-1) 0)%256=Yr 1000000000 (xs.drop (k-1)):=by
 rw [Zgt b c,Zc6 0 xs (k-1) O,show k-1+1=k by omega];simp only [Yr];have e:=cC (r*1000000000+xs.getD (k-1) 0) 256;generalize (r*1000000000+xs.getD (k-1) 0)/256=q at *;generalize (r*1000000000+xs.getD (k-1) 0)%256=s at *;generalize Yr 1000000000 (p.drop k)=A at *;generalize Yr 1000000000 (xs.drop k)=B at *;rw [<-a,bH,fV,cT 1000000000 A 256];generalize 1000000000*(A*256)=Z;clear a;omega
theorem Ye0{r a:Nat}(d:r<256)(c:a<1000000000):(r*1000000000+a)/256<1000000000:=by
 have h:r*1000000000+a<256*1000000000:=by have b:r*1000000000<=255*1000000000:=aK _ O;omega
 exact gV h
theorem Yl7{n:Nat}(a:Yr 256 bs+256^bs.length*m=n):Yr 256 (bs ++ [m%256])+256^(bs ++ [m%256]).length*(m/256)=n:=by rw [Mb,aY];simp only [Yr,dI,eX,bX,bZ,gW,eG,fD,jH];have e:=cC m 256;generalize m/256=q at *;generalize m%256=s at *;rw [<-a,<-e];generalize 256^bs.length=P at *;grind
theorem to_ge{n:Nat}(b:Yr 256 bs+256^bs.length*m=n)(a:0<m):256^bs.length<=n:=by have:=dP (256^bs.length) a;omega
theorem to_len{n:Nat}(h:256^bs.length<=n):bs.length<=bl n:=by have a:=Za0 (b:=256) (x:=n) (k:=bs.length) O ((Np O _ _).2 h);have c:=(Np (by omega:2<=256) bs.length n).2 h;have d:=Zh2 n;omega
theorem Yjq(a:0<k)(h:k<=bs.length):(bs.drop k).reverse ++ [bs.getD (k-1) 0]=(bs.drop (k-1)).reverse:=by rw [Zc6 0 bs (k-1) O,show k-1+1=k by omega];simp
theorem Ypm{n:Nat}(h:bs=dg 256 n):(⟨((bs.drop 0).reverse.map UInt8.ofNat).toArray⟩:ByteArray)=Qv n:=by rw [h,gO];rfl
def Ztk(a b:Int):Prop:=65536<bl a.natAbs\/65536<bl b.natAbs
instance (a b:Int):Decidable (Ztk a b):=by unfold Ztk;infer_instance
def qn(a b:Int):Int:=if Ztk a b then 0 else a
def qd(a b:Int):Int:=if Ztk a b then 0 else b
def qe(a b:Int):Int:=if Ztk a b then 7 else 0
def Ynu{x y:Int}(h:¬y<0):Lv x y=(Int.gcd x y:Int):=aD h
def Zj6(x y:Int):bl ((Int.gcd x y:Int)).natAbs<=max (bl x.natAbs) (bl y.natAbs):=Zrv _ _
open Go.RowKit (Below)
variable {P:Program} {N:Nat} {sc:Nat->Prop} {env env':Pz} {H H':Hp} {Q Q':Exit->Act->World->Prop} {M:Nat->Prop}
abbrev Zxi (w:Bool×ByteArray):Value:= .agg #[.bool w.1,.string w.2]
abbrev Mi (z:Int×SL):Value:= .agg #[.bool (decide (z.1<0)),Xn z.2]
abbrev Nf {α:Type} (z:SL×α):Value:=Xn z.1
abbrev qI (z:Int×SL):Pc:=Ow (Xn z.2) z.1.natAbs
abbrev pp (v:Value) (zs:List (Int×SL)):Pc:=Ph 2 Mi qI v zs
abbrev Zb (zs:List (Int×SL)):List Int:=zs.map Prod.fst
abbrev I0:Int×SL:=(0,none,0,0)
def Zh(zs:List (Int×SL)):(Zb zs).length=zs.length:=O5
theorem Qw(zs:List (Int×SL))(i:Nat):(zs.getD i I0).1=cf (Zb zs) i:=by simp only [cf,List.getD,Zb,eR];cases zs[i]?<;>rfl
theorem Ztl{β:Type}{enc:β->Value}{q:β->Pc}{zs:List β}{al:Bool}{z:β}(i:Nat)(hi:lk H i=some (Ph k enc q v zs))(a:Nat.beq i 0=false)(c:z∈zs)(h:PreOk H al r):PreOk H al (q z::r):=
 ⟨⟨i,_,λe=>by subst e;simp at a,hi,λw h=>h.2 z c,λb d=> .inr ⟨z,c,d⟩,λ_=>rfl⟩,h⟩
theorem Yd3{β:Type}{enc:β->Value}{q:β->Pc}{zs:List β}{z:β}(i:Nat)(hi:lk H i=some (Ph k enc q v zs))(a:Nat.beq i 0=false)(c:z∈zs)(f:(q z).own=false)(h:Give H true r):Give H true (q z::r):=
 ⟨⟨f,.inl ⟨i,_,λe=>by subst e;simp at a,hi,λw h=>h.2 z c,λb d=> .inr ⟨z,c,d⟩,λh=>by cases h⟩⟩,h⟩
theorem Ycz{β:Type}{enc:β->Value}{q:β->Pc}{zs:List β}(i j n:Nat)(hi:lk H i=some (Ph k enc q v zs))(d:Nat.beq i 0=false)(f:n<=zs.length):∀a w,Sat N sc env H a w->Sat N sc env ((j,Ph k enc q (Kp v n) (zs.take n))::H) a w:=
 Zb9 i j hi d rfl (λw h=>⟨⟨Zdw n f h.1.1,λb c=>h.1.2 b (Zl7 c)⟩,λz e=>h.2 z (eN e)⟩) (λb c=>by
  rcases c with c|⟨z,e,c⟩
  .exact .inl (Zl7 c)
  .right;exact⟨z,eN e,c⟩) rfl
theorem Zvq{n:Nat}{α:Type}{p:α->Prop}(b:∀a w,Sat N sc env H a w->∃x,p x)(h:∀x,p x->A P N sc M ops ts Q n listed env H):A P N sc M ops ts Q n listed env H:=λa w hs=>by obtain⟨x,c⟩:=b a w hs;exact h x c a w hs
theorem Fb(i:Nat):∀a w,Sat N sc env H a w->Sat N sc env ((i,pp (.slice none 0 0) [])::H) a w:=λa w hs=>
 hs.add i _ ⟨Dg 2 Mi w,λz d=>by cases d⟩ (λf g _ _ Ic b c e=>by
  rcases c with c|⟨z,d,_⟩
  .exact absurd rfl c.1
  .cases d) (λb c=>by
  rcases c with c|⟨z,d,_⟩
  .exact absurd rfl c.1
  .cases d)
theorem Zum{β:Type}{enc:β->Value}{q:β->Pc}{zs:List β}(i:Nat)(hi:lk H i=some (Ph k enc q v zs)):∀a w,Sat N sc env H a w->Kp v zs.length=v:=λa w hs=>by obtain⟨b,c,h,_⟩:=(hs.hold i _ hi).1.1;rw [h];rfl
theorem Zhj(zs:List (Int×SL))(k:Nat):Zb (zs.take k)=(Zb zs).take k:=by simp [Zb,mF]
def Xq{al:Bool}(i:Nat)(hi:lk H i=some (pp v zs))(a:Nat.beq i 0=false)(b:z∈zs)(h:PreOk H al r):PreOk H al (Ow (Xn z.2) z.1.natAbs::r):=Ztl (q:=qI) (z:=z) i hi a b h
theorem Yn4(i:Nat)(hi:lk H i=some (pp v zs))(a:Nat.beq i 0=false)(c:z∈zs)(b:Ow (Xn z.2) z.1.natAbs=p)(h:Give H true r):Give H true (p::r):=by subst b;exact Yd3 (q:=qI) (z:=z) i hi a c rfl h
theorem t_appM {α:Type}   {e:TypeId} {i2 j by_ d:Nat}  {enc:α->Value} {xs ys:List α}  {ti:TypeInfo} {z:Value}  
  (ho:o.op= .call { callee:= .builtin .append,args:=#[x,y],argTypes:=#[t,t] }) (hd:o.dst=some d) (hN:Nat.blt d N=true)
  (hx:ev env x=some v) (hy:ev env y=some u) (hH:lk H i=some (On k e enc v xs)) (a3:i≠0) (hj:lk H j=some p) (hr:Rd p k enc u ys) (b0:ys≠[])
  (ht:P.underlying t=some (.slice e)) (hi:P.info? e=some ti) (hz:ti.zero=some z) (n:Enc P e k enc) (a4:ti.size=k) (a1:ti.bytes=by_) (b1:z.cells.size=k)
  (h:(xs.length+ys.length)*by_<=140737488355328) (s:0<by_)
  (h0:lk H 0=some (Xx w0 M0)) (hw:∀b,w0.heap.size<=b->sc b) (hM:∀b,(On k e enc v xs).fp b->M b) :
  T P N sc M o env H (G:=Value) (λ_=>True) (λv'=>(d,v')::env) (λv'=>(i,On k e enc v' (xs ++ ys))::H):=λa w hs K Q hK=>by
 have R:w.ownsRow 0 e k v xs.length (cellsOf enc xs):=hs.hold i _ hH;obtain⟨ad,c,rfl,h1,h2,Y⟩:=hr w (hs.hold j p hj);rcases Y with rfl|⟨g,V,rfl,Y⟩
 .exact absurd rfl b0
 have a9:∀q u,(cellsOf enc ys)[q]? = some u->w.cell? ((⟨g,V,none⟩:Addr).add q)=some u:=λq u hq=>by
  have a5:q<ys.length*k:=by rw [<-Xj n.cells ys];exact(eZ.1 hq).1
  have F:=n.pos;have a2:q/k<ys.length:=gV (by rw [aO];exact a5);have l:ys[q/k]? = some ys[q/k]:=aL a2;have a7:q%k<(enc ys[q/k]).cells.toList.length:=by rw [eA,n.cells];exact bO _ F
  have W:=aL a7;have Z:=Ga n.cells ys _ _ l _ _ W;have h5:=Y _ _ l _ _ W;have I:q/k*k+q%k=q:=by rw [aO];exact cC q k
  rw [I]at Z;rw [fR,I]at h5;rw [hq]at Z;cases Z;rw [Ok];exact h5
 have D:∀u∈cellsOf enc ys,u.oneCell'=true:=λu W=>by obtain⟨y,_,hy⟩:=kL.1 W;exact n.one y u hy
 have b2:xs.length+ys.length<=140737488355328:=aB (dP _ s) h;obtain⟨v',w',S,a6,f,a0⟩:=Zeo (P:=P) t o.type e ti z k by_ ht hi hz a4 a1 b1 n.pos v xs.length (cellsOf enc xs) R ⟨g,V,none⟩ ys.length c (cellsOf enc ys)
  (Xj n.cells ys) a9 D (by simp only [maxLen];omega) h
 have a8:(execOp a.eval o).run P w= .ok (.value v') w':=by simp only [execOp,ho,resolve,invoke,builtin,Sem.run_bind,Sem.run_pure,Result.andThen_ok,gK,cK,fS,hs.ev hx,hs.ev hy,S]
 unfold Oper.wp;rw [a8];show K (a.put o.dst _) _;rw [hd];have B:Chg (λb=>v.ownBlock=some b) w w':=⟨f.os,f.tape,f.output,f.size,λb h hn=>f.block b h (λe=>hn e.symm)⟩;refine hK v' _ _ aA ((hs.upd hH rfl a3 (q:=On k e enc v' (xs ++ ys)) B ?_ (λb h=>a0 b h) h0 hw).put d _ hN) ⟨f.os,f.tape,f.output,f.size,λb h hn=>f.block b h (λe=>hn (hM b e.symm))⟩;show w'.ownsRow 0 e k v' (xs ++ ys).length (cellsOf enc (xs ++ ys));rw [Ig,aY];exact a6
theorem Ba {α:Type}   {e:TypeId} {j by_ d:Nat}  {enc:α->Value} {xs ys:List α}  {ti:TypeInfo} {z:Value}  
  (ho:o.op= .call { callee:= .builtin .append,args:=#[x,y],argTypes:=#[t,t] }) (hd:o.dst=some d) (hN:Nat.blt d N=true)
  (hx:ev env x=some v) (hy:ev env y=some u) (Y:lk H i=some (On k e enc v xs)) (F:i≠0) (hj:lk H j=some p) (hr:Rd p k enc u ys)
  (ht:P.underlying t=some (.slice e)) (hi:P.info? e=some ti) (hz:ti.zero=some z) (he:Enc P e k enc) (a2:ti.size=k) (a1:ti.bytes=by_) (a4:z.cells.size=k)
  (Z:(xs.length+ys.length)*by_<=140737488355328) (B:0<by_)
  (h0:lk H 0=some (Xx w0 M0)) (hw:∀b,w0.heap.size<=b->sc b) (hM:∀b,(On k e enc v xs).fp b->M b) :
  T P N sc M o env H (G:=Value) (λ_=>True) (λv'=>(d,v')::env) (λv'=>(i,On k e enc v' (xs ++ ys))::H):=by
 by_cases S:ys=[]
 .subst S;intro a w hs K Q hK;have h:w.ownsRow 0 e k v xs.length (cellsOf enc xs):=hs.hold i _ Y;obtain⟨V,c,rfl,h1,h2,h3⟩:=hr w (hs.hold j p hj);have I:∃l n s,v= .slice l n s/\n=xs.length/\n<=s:=by
   rcases h.2 with⟨rfl,hn⟩|⟨g,W,a5,rfl,_,_,f,_⟩
   .exact⟨none,0,0,rfl,hn.symm,aH _⟩
   .exact⟨_,_,W,rfl,rfl,f⟩
  obtain⟨l,n,s,rfl,rfl,f⟩:=I;have R:(Builtin.append_ #[t,t] o.type #[.slice l xs.length s,.slice V ([]:List α).length c]).run P w= .ok (.slice l xs.length s) w:=by
   have D:(Builtin.firstCells ti.size 0 (.slice V 0 c)).run P w= .ok #[] w:=by
    cases V with
    | none=>rfl
    | some q=>simp [Builtin.firstCells,loadCells,loadCellsFrom]
   cases l with
   | none=>simp [Builtin.append_,run_underlying ht,sizeOf,typeInfo,hi,Builtin.lenOf,D,f]
   | some q=>simp [Builtin.append_,run_underlying ht,sizeOf,typeInfo,hi,Builtin.lenOf,D,f,storeCells]
  have a3:(execOp a.eval o).run P w= .ok (.value (.slice l xs.length s)) w:=by simp only [execOp,ho,resolve,invoke,builtin,Sem.run_bind,Sem.run_pure,Result.andThen_ok,gK,cK,fS,hs.ev hx,hs.ev hy,R]
  unfold Oper.wp;rw [a3];show K (a.put o.dst _) _;rw [hd];refine hK _ _ _ aA ((Sat.upd hs Y rfl F (q:=On k e enc (.slice l xs.length s) (xs ++ [])) (Chg.refl _ w) ?_ (λb Z=> .inl Z) h0 hw).put d _ hN) (Chg.refl _ w);rw [iS];exact h
 .exact t_appM (i2:=0) ho hd hN hx hy Y F hj hr S ht hi hz he a2 a1 a4 Z B h0 hw hM
theorem Zbn  {G:Type} {φ:G->Prop} {c:G->Pz} {g:G->Hp} {d:Hp}   (i:Nat) (hi:lk H i=some p) (F:p.own=true) (D:ks.all (λk=>!Nat.beq k i)=true) (n:Agr d H ks)
  (h:(∀b,p.fp b->Off d ks b)->T P N sc (Off d ks) o env H φ c g):T P N sc (Off d ks) o env H φ c g:=λa w hs=>
 h (λb s k j q l B=>by
  rw [<-n.mem k j]at l;have f:i≠k:=λe=>by subst e;have:=cJ.1 D i j;simp at this
  exact hs.sep i k p q f hi l F b s B) a w hs
def eaf(v:Value)(i k q:Nat):Addr:=(ead v i k).add q
theorem Ik {α:Type}    {f:Nat} {fs:Array Field} {b:Field} {G ii q:Nat}   {enc:α->Value} {xs:List α} (s:o.op= .fieldAddr t x f)
  (h:ev env x=some (.pointer (some (ead v i k)))) (j:lk H ii=some p) (D:Rd p k enc v xs) (F:P.underlying t=some (.struct fs)) (l:fs[f]? = some b) (n:∀w,(sizeOf b.type).run P w= .ok (G+1) w) (B:b.offset=q) (d:i<xs.length:=by omega) :
  Mx P N sc o env H (.pointer (some (eaf v i k q))):=λa w hs=>by
 obtain⟨R,c,rfl,S,V,e⟩:=D w (hs.hold ii p j);rcases e with rfl|⟨g,I,rfl,e⟩
 .simp at d
 .subst B;simp only [ead,Ok]at h;simp [execOp,s,hs.ev h,Instr.fieldAt,run_underlying F,l,Instr.sureAddr,fieldPlace,n,Ok,eaf,ead]
theorem Ij {α:Type}    {ii q:Nat}   {enc:α->Value} {xs:List α} (e:α) (n:o.op= .load t x)
  (f:ev env x=some (.pointer (some (eaf v i k q)))) (j:lk H ii=some p) (s:Rd p k enc v xs) (l:∀w,(isAgg t).run P w= .ok false w) (B:(enc (xs.getD i e)).cells.toList[q]? = some u) (b:i<xs.length:=by omega):Mx P N sc o env H u:=λa w hs=>by
 obtain⟨F,c,rfl,G,I,d⟩:=s w (hs.hold ii p j);rcases d with rfl|⟨g,D,rfl,d⟩
 .simp at b
 .have hi:xs[i]? = some (xs.getD i e):=by simp [List.getD,aL b]
  have h:=d i _ hi q u B;simp only [eaf,ead,Ok]at f;simp [execOp,n,hs.ev f,Instr.loadAt,Instr.sureAddr,loadVar,l,load,Sem.run,h]
end Go.Sky
namespace Go.Sky
variable{o:Oper}{r:List Pc}{f:FuncId}{xs:List Operand}{vs us:List Value}{a:Act}{w:World}{c x:Operand}{ats:Array TypeId}{b:Nat}{t:TypeId}{cs:Array Value}
abbrev rq (z:Int×Int):Value:= .agg #[.bool (decide (z.1<0)),.string (Qv z.1.natAbs),.bool (decide (z.2<0)),.string (Qv z.2.natAbs)]
abbrev encQ (z:(Bool×ByteArray)×(Bool×ByteArray)):Value:= .agg #[.bool z.1.1,.string z.1.2,.bool z.2.1,.string z.2.2]
def Qh{P:Program}{N:Nat}{sc:Nat->Prop}{env:Pz}{H:Hp}{r r':Value}(h:Mx P N sc o env H r)(e:r=r'):Mx P N sc o env H r':=e▸h
open Go.RowKit (Below)
variable {P:Program} {N:Nat} {sc:Nat->Prop} {env env':Pz} {H H':Hp} {Q Q':Exit->Act->World->Prop} {M:Nat->Prop}
theorem d_mkc{ys:List Operand}(g:o.op= .makeFunc (.func f) xs.toArray ys.toArray)(i:EvL env xs vs)(h:EvL env ys us):Mx P N sc o env H (.func (.func f) vs.toArray us.toArray):=λa w hs=>by have d:=i.map hs;have e:=h.map hs;simp [execOp,g,Instr.makeFunc,d,e]
theorem Znf   (hs:Sat N sc env H a w)      {fs:List Value} (h:o.op= .call { callee:= .value c,args:=xs.toArray,argTypes:=ats })
  (e:ev env c=some (.func (.func f) fs.toArray us.toArray)) (d:EvL env xs vs):(execOp a.eval o).run P w=(callFunc f (fs ++ vs ++ us).toArray).run P w:=by
 have g:=d.map hs;simp [execOp,h,resolve,invoke,hs.ev e,Deferred.ofValue,g]
theorem Zhu(i:Nat)(hi:lk H i=some (box b t cs))(d:Nat.beq i 0=false)(h:PreOk H false r):PreOk H false (Fc b t cs::r):=
 ⟨⟨i,_,λe=>by subst e;simp at d,hi,λw h=>h,λb g=>g,λh=>by cases h⟩,h⟩
theorem Sat.rboxc(hs:Sat N sc env H a w){i:Nat}(d:lk H i=some (Fc b t cs))(j:Nat):w.cell? ⟨b,j,none⟩=cs[j]?:=by have h:w.heap[b]? = some (.cells cs t (0,0)):=hs.hold i _ d;simp [World.cell?,h]
theorem d_lra   {v:TypeId} {i j k:Nat}   (l:o.op= .load t x)
  (s:ev env x=some (.pointer (some ⟨b,j,none⟩))) (e:lk H i=some (Fc b v cs)) (m:∀w,(isAgg t).run P w= .ok true w) (g:∀w,(sizeOf t).run P w= .ok k w)
  (h:vs.length=k) (q:∀n u,vs[n]? = some u->cs[j+n]? = some u):Mx P N sc o env H (.agg vs.toArray):=λa w hs=>by
 have d:=run_loadCells_list (P:=P) w ⟨b,j,none⟩ vs (λn u p=>by rw [Ok,hs.rboxc e];exact q n u p);rw [h]at d;simp [execOp,l,hs.ev s,Instr.loadAt,Instr.sureAddr,loadVar,m,g,d]
theorem Yj1{m:Int}(d:o.op= .unOp .neg t x)(e:ev env x=some (.int .i64 m))(h:Nz (-m):=by exact⟨O,O⟩):Mx P N sc o env H (.int .i64 (-m)):=λa w hs=>by simp [execOp,d,hs.ev e,Op.unary,Op.intArith,Zbi h]
theorem fill24(n p q s d e g h j k l m:Value):Instr.fill (λi=>some (i*4,4)) ((List.range (2*4)).map ((Value.agg #[n,p,q,s]).cells[· % (Value.agg #[n,p,q,s]).cells.size]!)).toArray [(0,.agg #[d,e,g,h]),(1,.agg #[j,k,l,m])]=some #[d,e,g,h,j,k,l,m]:=by
 simp [Instr.fill,Value.cells,List.range,List.range.loop]
 try rfl
end Go.Sky
namespace Go.Sky
open Go.RowKit (Below)
variable{f:FuncId}{c:Operand}{xs:List Operand}{ats:Array TypeId}{p:Pc}{vs:List Value}{pre:List Pc}{w0:World}{M0:Nat->Prop}{fn:Func}
variable {P:Program} {N:Nat} {sc:Nat->Prop} {env env':Pz} {H H':Hp} {Q Q':Exit->Act->World->Prop} {M:Nat->Prop}
abbrev iq (z:(Int×Int)×(Int×Int)):Value:= .agg #[.bool (decide (z.1.1<0)),.string (Qv z.1.1.natAbs),.bool (decide (z.1.2<0)),.string (Qv z.1.2.natAbs),.bool (decide (z.2.1<0)),.string (Qv z.2.1.natAbs),.bool (decide (z.2.2<0)),.string (Qv z.2.2.natAbs)]
def Ypz(P:Program)(f:FuncId)(args:Array Value)(pre:List Pc)(p:Pc){G:Type}(φ:G->Prop)(Yr:G->Value)(q:G->Pc):Prop:=
 ∀w,(∀r∈pre,r.holds w/\∀k,p.fp k->¬r.fp k)->p.holds w->Calls P f args w λe a=>∃g,e= .returned (Yr g)/\φ g/\Chg p.fp w a/\(q g).holds a/\∀k,(q g).fp k->p.fp k\/w.heap.size<=k
theorem Zym {o:Oper}     {d i:Nat}  {fs us:List Value}  {G:Type} {φ:G->Prop} {Yr:G->Value} {q:G->Pc}  
  (Y:Ypz P f (fs ++ vs ++ us).toArray pre p φ Yr q)
  (ho:o.op= .call { callee:= .value c,args:=xs.toArray,argTypes:=ats }) (y:ev env c=some (.func (.func f) fs.toArray us.toArray)) (Z:o.dst=some d) (V:Nat.blt d N=true)
  (m:EvL env xs vs) (n:∀args w,(callFunc f args).run P w= .ok (.enter f args) w) (x:lk H i=some p) (l:p.own=true) (z:i≠0) (u:PreOk (drp i H) false pre)
  (I:lk H 0=some (Xx w0 M0)) (hw:∀b,w0.heap.size<=b->sc b) (S:∀b,p.fp b->M b) :
  T P N sc M o env H φ (λg=>(d,Yr g)::env) (λg=>(i,q g)::H):=λa w hs K Q R=>by
 have hr:(execOp a.eval o).run P w= .ok (.enter f (fs ++ vs ++ us).toArray) w:=by rw [Znf hs ho y m,n]
 unfold Oper.wp;rw [hr];refine(Y w (λr hp=>by obtain⟨j,F,_,v,t,s,_⟩:=u.mem r hp;obtain⟨D,v⟩:=Dh _ _ _ _ v;exact⟨t w (hs.hold j F v),λk B W=>hs.sep i j _ F (iC D) x v l k B (s k W)⟩) (hs.hold i _ x)).mono ?_
 rintro e w' ⟨g,rfl,hg,h,hq,s⟩;show K (a.put o.dst (Yr g)) w';rw [Z];exact R g _ _ hg (Sat.put (hs.upd x l z h hq s I hw) d _ V) ⟨h.os,h.tape,h.output,h.size,λk B hn=>h.block k B (λe=>hn (S k e))⟩
def Ylm(P:Program)(fn:Func)(w0:World)(p:Pc){G:Type}(φ:G->Prop)(Yr:G->Value)(q:G->Pc):Exit->Act->World->Prop:=
 bodyPost P fn λe a=>∃g,e= .returned (Yr g)/\φ g/\Chg p.fp w0 a/\(q g).holds a/\∀k,(q g).fp k->p.fp k\/w0.heap.size<=k
theorem Ybw   {c:Code}    {G:Type} {φ:G->Prop} {Yr:G->Value} {q:G->Pc} {N:Nat}
  (V:P.funcs[f]? = some fn) (S:fn.body=some c) (R:fn.ntmps=N) (n:Nat.ble vs.length N=true) (B:AllRo pre)
  (h:∀w0 (sc:Nat->Prop),(∀k,w0.heap.size<=k->sc k)->(∀k,sc k->w0.heap.size<=k\/p.fp k\/∃q∈pre,q.fp k)->
   E P N sc c (Ylm P fn w0 p φ Yr q) (Of 0 vs) ((0,Xx w0 p.fp)::(1,p)::Qt 2 pre)) :
  Ypz P f vs.toArray pre p φ Yr q:=λw D s=>by
 refine calls_of_wp V S (h w (λk=>w.heap.size<=k\/p.fp k\/∃q∈pre,q.fp k) (λk b=> .inl b) (λk b=>b) _ w ?_);have n:vs.length<=N:=by simpa using n
 have a:∀i r,lk ((0,Xx w p.fp)::(1,p)::Qt 2 pre) i=some r->(i=0/\r=Xx w p.fp)\/(i=1/\r=p)\/(i≠0/\i≠1/\r∈pre/\r.own=false):=λi r hi=>by
   by_cases l:0=i
   .subst l;rw [Yn]at hi;cases hi;exact .inl ⟨rfl,rfl⟩
   .rw [Zy _ _ l]at hi;by_cases g:1=i
    .subst g;rw [Yn]at hi;cases hi;exact .inr (.inl ⟨rfl,rfl⟩)
    .rw [Zy _ _ g]at hi;obtain⟨_,d⟩:=Mg pre 2 i r hi;exact .inr (.inr ⟨λe=>l e.symm,λe=>g e.symm,d,B.mem r d⟩)
 refine⟨by simp [R];omega,rfl,λt v Y=>?_,λi r hi=>?_,λi j r F y hi W z k b m=>?_,λi r u hi k b=>?_⟩
 .have g:vs.toArray[t]? = some v:=by simpa using(Fh vs 0 t v Y).2
  have x:=(bB.1 g).1;rw [bP,eU x,g];rfl
 .rcases a i r hi with⟨_,rfl⟩|⟨_,rfl⟩|⟨_,_,d,_⟩
  .exact Chg.refl _ w
  .exact s
  .exact(D r d).1
 .rcases a i r hi with⟨_,rfl⟩|⟨g,rfl⟩|⟨_,_,d,o⟩
  .cases z
  .rcases a j F W with⟨_,rfl⟩|⟨I,rfl⟩|⟨_,_,d,_⟩
   .exact m.2 b
   .exact y (g.trans I.symm)
   .exact(D F d).2 k b m
  .rw [o]at z;cases z
 .rcases a i r hi with⟨l,_⟩|⟨_,rfl⟩|⟨_,_,d,_⟩
  .exact absurd l u
  .exact .inr (.inl b)
  .exact .inr (.inr ⟨r,d,b⟩)
theorem Yel    {G:Type} {φ:G->Prop} {Yr:G->Value} {q:G->Pc}  {e:Exit} (B:e= .ret\/e= .normal) (u:∀k,sc k->w0.heap.size<=k\/p.fp k\/∃q∈pre,q.fp k)
  (g:G) (v:Value) (m:∀a w,Sat N sc env H a w->(results fn a.tmps).run P w= .ok v w) (I:Yr g=v) (D:φ g) (i:Nat) (hi:lk H i=some (q g)) (z:lk H 0=some (Xx w0 p.fp)) (b:Nat.beq i 0=false) (d:(q g).own=true) (l:PreOk (drp i H) false pre) :
  X N sc e (Ylm P fn w0 p φ Yr q) env H:=λa w hs=>by
 have b:i≠0:=λe=>by subst e;simp at b
 have x:a.defers=[]/\∃v,(results fn a.tmps).run P w= .ok v w/\(∃g,Ending.returned v= .returned (Yr g)/\φ g/\Chg p.fp w0 w/\(q g).holds w/\∀k,(q g).fp k->p.fp k\/w0.heap.size<=k):=by
  refine⟨hs.defers,v,m a w hs,g,by rw [I],D,hs.hold 0 _ z,hs.hold i _ hi,λk y=>?_⟩;rcases u k (hs.scope i _ b hi k y)with h|h|⟨r,F,t⟩
  .exact .inr h
  .exact .inl h
  .obtain⟨j,R,_,o,_,n,_⟩:=l.mem r F;obtain⟨s,o⟩:=Dh _ _ _ _ o;exact(hs.sep i j _ R (iC s) hi o d k y (n k t)).elim
 rcases B with rfl|rfl<;>exact x
def gb{α:Type}(b:Nat)(t:TypeId)(k:Nat)(e:TypeId)(enc:α->Value)(v:Value)(xs:List α):Pc:=
 {own:=true,fp:=λc=>c=b\/v.ownBlock=some c,holds:=λw=>(box b t #[v]).holds w/\(On k e enc v xs).holds w/\v.ownBlock≠some b
  lt:=λw c h a=>by
   rcases a with rfl|a
   .exact(box c t #[v]).lt w c h.1 rfl
   .exact(On k e enc v xs).lt w c h.2.1 a
  stable:=λw l h a=>⟨(box b t #[v]).stable w l h.1 ⟨a.os,a.tape,a.output,a.size,λk g i=>a.block k g (λd=>i (λj=>d (.inl j)))⟩,
   (On k e enc v xs).stable w l h.2.1 ⟨a.os,a.tape,a.output,a.size,λk g i=>a.block k g (λd=>i (λj=>d (.inr j)))⟩,h.2.2⟩ }
end Go.Sky

