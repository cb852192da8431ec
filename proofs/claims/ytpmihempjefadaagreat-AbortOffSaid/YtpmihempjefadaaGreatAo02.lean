/- Rules, arithmetic and contracts: part 3. No conditions but those that each theorem names. -/
import Derived.Test.YtpmihempjefadaaGreatAo01
set_option linter.all false
namespace Go.Sky
set_option maxRecDepth 20000
variable{k D:Nat}{v:Value}{R ys:List Nat}{y x:Int}{b t s:Bool}{p xs:List Int}{f:FuncId}{args:Array Value}{pre:List Pc}
theorem Zgv{n:Nat}(h:n<U):tz [n]=dg U n:=by rw [<-Cm Xm [n] (by simpa using h)];simp [val]
theorem Yd9{N:Nat}{sc:Nat->Prop}{env:Qi}{H:Hp}{α:Type}{e:TypeId}{enc:α->Value}{xs ys:List α}(i:Nat)(h:xs=ys)(hi:lk H i=some (On k e enc v xs))(c:Nat.beq i 0=false) :
  ∀a w,Sat N sc env H a w->Sat N sc env ((i,On k e enc v ys)::H) a w:=by
 subst h;exact Zof i hi rfl (λw h=>h) (λb d=>d) c
theorem Zl3(R:List Nat)(j:Nat)(a:j<=R.length):val U R=val U (R.take j)+U^j*val U (R.drop j):=by have:=Ka U (R.take j) (R.drop j);rw [fH,aS,dY a]at this;exact this
theorem Zjl(g:∀d∈R,d<U)(j:Nat)(e:j<=R.length):val U (R.take j)=val U R%U^j/\val U (R.drop j)=val U R/U^j:=by
 have c:=Zl3 R j e;have a:=Zjk Xs (R.take j) (λd h=>g d (fP h));rw [aS,dY e]at a;have i:0<U^j:=bW Xs;constructor
 .rw [c,iB,iU,aU a]
 .rw [c,iB,gW i,dI a,fR]
theorem Zfb(e:∀d∈R,d<U){n:Nat}(g:n<=R.length)(h:val U R<U^n):val U (R.drop n)=0/\val U (R.take n)=val U R:=by obtain⟨a,c⟩:=Zjl e n g;rw [c,a,aU h];exact⟨dI h,rfl⟩
theorem Yju(c:∀d∈R,d<U){j n:Nat}(g:j+n<=R.length)(h:val U R<U^(j+n)):tz ((R.drop j).take n)=dg U (val U R/U^j):=by have a:∀d∈R.drop j,d<U:=λd a=>c d (kK a);rw [<-(Zjl c j O).2,<-Cm Xm _ (λd e=>a d (fP e))];congr 1;refine(Zfb a (by rw [eH];omega) ?_).2;rw [(Zjl c j O).2,cL (bW Xs),<-bN,iB];exact h
theorem Zqs(c:∀d∈R,d<U)(e:∀d∈ys,d<U)(lo:Nat):∀d∈spl R lo ys,d<U:=λd a=>by
 simp only [spl,cY]at a;rcases a with(a|a)|a
 .exact c d (fP a)
 .exact e d a
 .exact c d (kK a)
theorem Zq4(L:Nat)(ys:List Nat):val U (spl (List.replicate L 0) 0 ys)=val U ys:=by simp [spl,Ka,nC,Dr]
theorem Yj2(a:∀d∈R,d<U){j n:Nat}(g:j+n<=R.length)(h:val U R<U^(j+n))(i:ys.length<=n) :
  val U (spl (spl R j (List.replicate n 0)) j ys)=val U R%U^j+U^j*val U ys:=by
 have c:(spl R j (List.replicate n 0)).take j=R.take j:=by simp only [spl,dW];rw [fF (by rw [aS];omega),kA,Nat.min_self]
 have e:(spl R j (List.replicate n 0)).drop (j+ys.length)=List.replicate (n-ys.length) 0 ++ R.drop (j+n):=by simp only [spl,dW,aT];rw [<-List.drop_drop,List.drop_left' (by rw [aS];omega),gC (by rw [aT];exact i),nC]
 rw [spl,c,e,Ka,Ka,Ka,Dr,(Zfb a g h).1,(Zjl a j O).1,aS,dY O];simp
theorem Yln{y b:Nat}(d:0<y)(l:k=(dg U y).length)(r:b=64-bl ((dg U y).getD (k-1) 0)):(dg U (y*2^b)).length=k/\2^b*U^k<=y*2^b*U*2^b/\1<=k/\y*2^b<U^k/\b<=63/\U^(k-1)*9223372036854775808<=y*2^b:=by
 obtain⟨m,n,g,o⟩:=Zxj d;rw [<-l]at m n g o;obtain⟨h,q⟩:=Zqk d;have i:=Bd y;have e:bl y+b=64*k:=O;have c:y*2^b<U^k:=by rw [Zdb,<-e,bN];exact eJ i (dZ b)
 have a:U^(k-1)*9223372036854775808<=y*2^b:=by
  have:U^(k-1)*9223372036854775808=2^(bl y-1)*2^b:=by rw [Zdb,<-bN,show 9223372036854775808=2^63 from rfl,<-bN];congr 1;omega
  rw [this];exact aP _ h
 have j:U^k=U^(k-1)*U:=by rw [<-cJ];congr 1;omega
 refine⟨?_,?_,g,c,O,a⟩
 .refine jP ((Xy Xm _ _).2 c) ?_;have:k-1<(dg U (y*2^b)).length:=(Ij Xm _ _).2 (aB (eP _ O) a);omega
 .rw [j,aR (2^b)];refine aP _ ?_;refine aP _ (aB (eP _ O) a)
theorem Yge{W w1 w0 t:Nat}(a:t*U^k<=D)(e:0<t)(c:W/U^k=w1*U+w0):W/D<=(w1*U+w0)/t:=by have d:0<U^k:=bW Xs;rw [<-c,bA,aR];exact Nat.div_le_div_left a (fZ e d)
theorem Yj6(c:∀d∈R,d<U){j:Nat}(m:1<=k)(h:val U R<U^(j+k+1))(n:j+k+1<=R.length):val U R/U^j/U^(k-1)=R.getD (j+k) 0*U+R.getD (j+k-1) 0:=by
 have e:∀i,R.getD i 0=val U R/U^i%U:=λi=>by
  rcases aX i R.length with hi|hi
  .have a:=(Zjl c i O).2;rw [Zth 0 R i hi]at a;simp only [val]at a;rw [<-a,jN,aU (Pn Xs c i)]
  .rw [show R.getD i 0=0 by simp [List.getD,bQ hi],dI (cZ (Zjk Xs R c) (dK Xs hi))];rfl
 rw [e,e,bA,<-bN,show j+(k-1)=j+k-1 by omega];have g:val U R/U^(j+k)<U:=by rw [cL (bW Xs),<-nH,iB (j+k)]at *;rw [iB 1]at *;exact h
 have l:val U R/U^(j+k)=val U R/U^(j+k-1)/U:=by rw [bA,<-cJ];congr 2;omega
 rw [aU g,l,aR,cP]
theorem Yhr{x b lx:Nat}(e:x<U^lx)(c:b<=63)(l:1<=k)(d:k<=lx+1)(a:U^(k-1)*9223372036854775808<=D):x*2^b<D*U^(lx+1-k):=by
 have g:x*2^b<U^lx*2^b:=eJ e (dZ b);have h:U^lx*2^b<=U^lx*9223372036854775808:=bH _ (by rw [show 9223372036854775808=2^63 from rfl];exact dK O c)
 have i:U^lx*9223372036854775808=U^(k-1)*9223372036854775808*U^(lx+1-k):=by rw [iR,<-bN];congr 2;omega
 have j:U^(k-1)*9223372036854775808*U^(lx+1-k)<=D*U^(lx+1-k):=aP _ a;omega
theorem Yhq{V j Q Vq N:Nat}(h:0<D)(a:Q=V/U^j/D)(i:Vq*U^(j+1)*D+V=N) :
  V%U^j+U^j*(V/U^j-D*Q)<D*U^j/\(Q+U*Vq)*U^j*D+(V%U^j+U^j*(V/U^j-D*Q))=N:=by
 have l:0<U^j:=bW Xs;have o:=bO V l;have q:=cP V (U^j);have c:=cP (V/U^j) D;have d:=bO (V/U^j) h;have e:V/U^j-D*Q=V/U^j%D:=by rw [a];omega
 rw [e];constructor
 .have g:U^j*(V/U^j%D+1)<=U^j*D:=bH _ d;rw [gK]at g;rw [aR D];omega
 .rw [<-i];have m:(Q+U*Vq)*U^j*D=U^j*(D*Q)+Vq*U^(j+1)*D:=by
   rw [bL,bL,cJ];congr 1
   .rw [aR Q,dB,aR Q]
   .rw [aR U Vq,dB Vq,aR U]
  have n:U^j*(D*Q)+U^j*(V/U^j%D)=U^j*(V/U^j):=by rw [<-gK,a,c]
  omega
def sg(s:Bool)(x:Int):Prop:=(s=true->x<=0)/\(s=false->0<=x)
theorem sg_neg(h:sg s x):sg (!s) (-x):=by cases s<;>simp [sg]at*<;>omega
theorem sg_mul(hs:sg s x)(a:sg t y):sg (s != t) (x*y):=by
 cases s<;>cases t<;>simp [sg]at *
 .exact dS hs a
 .exact gP hs a
 .exact gQ hs a
 .exact Int.mul_nonneg_of_nonpos_of_nonpos hs a
theorem Yaz(h:(((dg U x.natAbs).length:Nat):Int)=0):Value.int .i64 x.sign= .int .i64 0:=by have a:=(Nu Xm x.natAbs).1 O;have:x=0:=O;subst this;rfl
theorem Ydy(hs:sg s x)(a:s=true)(h:¬(((dg U x.natAbs).length:Nat):Int)=0):Value.int .i64 x.sign= .int .i64 (-1):=by have c:¬x.natAbs=0:=λe=>h (by rw [(Nu Xm x.natAbs).2 e];rfl);have d:=hs.1 a;rw [fS O]
theorem Ydx(hs:sg s x)(a:s=false)(h:¬(((dg U x.natAbs).length:Nat):Int)=0):Value.int .i64 x.sign= .int .i64 1:=by have c:¬x.natAbs=0:=λe=>h (by rw [(Nu Xm x.natAbs).2 e];rfl);have d:=hs.2 a;rw [gJ O]
theorem Ykp(hs:sg s x)(a:sg s y):sg s (x+y):=by cases s<;>simp [sg]at*<;>omega
theorem Yi9(hs:sg s x)(a:sg s y):(x+y).natAbs=x.natAbs+y.natAbs:=by cases s<;>simp [sg]at*<;>omega
theorem Zxp(hs:sg s x)(c:sg t y)(h:s≠t)(a:y.natAbs<=x.natAbs):sg s (x+y):=by cases s<;>cases t<;>simp [sg]at*<;>omega
theorem Zum(hs:sg s x)(c:sg t y)(h:s≠t)(a:y.natAbs<=x.natAbs):(x+y).natAbs=x.natAbs-y.natAbs:=by cases s<;>cases t<;>simp [sg]at*<;>omega
abbrev wv (x:Int):Value:= .agg #[.bool (decide (x<0)),.string (Xo x.natAbs)]
def Bw(x:Int):Int:=if 65536<bl x.natAbs then 0 else x
def Zif(x:Int):Int:=if 65536<bl x.natAbs then 7 else 0
theorem Zi7:bl (Bw x).natAbs<=65536:=by
 unfold Bw;split
 .decide
 .omega
theorem Nj(h:bl x.natAbs<=65536):Bw x=x:=by unfold Bw;rw [aD O]
theorem Zpl(h:bl x.natAbs<=65536):Zif x=0:=by unfold Zif;rw [aD O]
theorem Ynk(h:65536<bl x.natAbs):Bw x=0:=by unfold Bw;rw [aF h]
theorem Yml(h:65536<bl x.natAbs):Zif x=7:=by unfold Zif;rw [aF h]
abbrev Zb9 (x:Int):Value:= .tuple #[wv (Bw x),.int .i64 (Zif x)]
theorem Yan(h:((65536:Int)<((bl x.natAbs:Nat):Int))):Zb9 x= .tuple #[.agg #[.bool false,.string ⟨#[]⟩],.int .i64 7]:=by unfold Zb9;rw [Ynk O,Yml O];rfl
theorem Zw9(h:¬((65536:Int)<((bl x.natAbs:Nat):Int))):Zb9 x= .tuple #[wv x,.int .i64 0]:=by unfold Zb9;rw [Nj O,Zpl O]
theorem Zqy(hs:sg false x)(h:¬((65536:Int)<((bl x.natAbs:Nat):Int))):Zb9 x= .tuple #[.agg #[.bool false,.string (Xo x.natAbs)],.int .i64 0]:=by rw [Zw9 h,wv,aK (by have:=hs.2 rfl;omega)]
theorem Zqx(hs:sg true x)(h:¬((65536:Int)<((bl x.natAbs:Nat):Int))):Zb9 x= .tuple #[.agg #[.bool (decide ((0:Int)<(((dg U x.natAbs).length:Nat):Int))),.string (Xo x.natAbs)],.int .i64 0]:=by have a:=hs.1 rfl;have c:=Nu Xm x.natAbs;rw [Zw9 h,wv,show decide (x<0)=decide ((0:Int)<(((dg U x.natAbs).length:Nat):Int))from cF.2 ⟨λh=>O,λh=>O⟩]
theorem Yb3{q r:Int}(d:y≠0)(h:x=y*q+r)(l:0<=r)(m:r<(y.natAbs:Int)):x/y=q/\x%y=r:=by
 have e:=Int.mul_ediv_add_emod x y;have i:=mK x d;have j:=Int.emod_lt x d;have c:x/y=q:=by
  have g:y*(x/y-q)=r-x%y:=by rw [oJ];omega
  have a:(y*(x/y-q)).natAbs<y.natAbs:=by rw [g];omega
  rw [cH]at a;rcases aV (x/y-q).natAbs with h|h
  .omega
  .exact absurd (eP y.natAbs h) O
 refine⟨c,?_⟩;rw [c]at e;omega
theorem Zu2(h:sg s x):x=if s then -(x.natAbs:Int)else(x.natAbs:Int):=by cases s<;>simp [sg]at*<;>omega
theorem Zzp(hs:sg s x)(d:sg t y)(e:y≠0){Q R:Nat}(g:R<y.natAbs)(h:x=(if s then -1 else 1)*((y.natAbs:Int)*Q)+R) :
  sg (s != t) (x/y)/\(x/y).natAbs=Q/\(x%y).natAbs=R:=by
 have c:=Zu2 d;have a:x/y=(if s != t then -(Q:Int)else Q)/\x%y=R:=by
  refine Yb3 e ?_ O O
  conv=>lhs;rw [h]
  conv=>rhs;rw [c]
  cases s<;>cases t<;>simp [oK,kL]
 rw [a.1,a.2];cases s<;>cases t<;>simp [sg]
theorem divB(hs:sg s x)(h:sg t y)(i:y≠0)(g:s=false\/x.natAbs%y.natAbs=0):sg (s != t) (x/y)/\(x/y).natAbs=x.natAbs/y.natAbs/\(x%y).natAbs=x.natAbs%y.natAbs:=by
 have c:=Zu2 hs;have e:=cP x.natAbs y.natAbs;refine Zzp hs h i (bO _ O) ?_;have a:((y.natAbs:Int)*((x.natAbs/y.natAbs:Nat):Int))+((x.natAbs%y.natAbs:Nat):Int)=x.natAbs:=by rw [<-fU,<-mL,e]
 rcases g with rfl|d
 .simp at c ⊢;simp at a;omega
 .rw [d]at a ⊢;cases s<;>simp at c a ⊢<;>omega
theorem divA(hs:sg true x)(a:sg t y)(c:y≠0)(g:0<x.natAbs%y.natAbs):sg (true != t) (x/y)/\(x/y).natAbs=x.natAbs/y.natAbs+1/\(x%y).natAbs=y.natAbs-x.natAbs%y.natAbs:=by
 have i:=Zu2 hs;have e:=cP x.natAbs y.natAbs;have h:=bO x.natAbs (show 0<y.natAbs by omega);refine Zzp hs a c O ?_;have d:((y.natAbs:Int)*((x.natAbs/y.natAbs:Nat):Int))+((x.natAbs%y.natAbs:Nat):Int)=x.natAbs:=by rw [<-fU,<-mL,e]
 rw [Int.natCast_sub O,mL,kM];generalize ((y.natAbs:Int)*((x.natAbs/y.natAbs:Nat):Int))=P at *;generalize ((x.natAbs%y.natAbs:Nat):Int)=R at *;simp only [jY]at *;omega
def okW(b:Bool)(s:ByteArray):Bool:=if s.size=0 then !b else decide ((s.data.toList.getD 0 0).toNat≠0) && decide (s.size<=8192)
theorem bl256 (n:Nat)(k:Nat) : (dg 256 n).length<=k↔bl n<=8*k:=by rw [Zvl];omega
theorem Zcm(h:bl x.natAbs<=65536):okW (decide (x<0)) (Xo x.natAbs)=true:=by
 unfold okW;rw [Fk];split
 .rename_i c;have:=(Nu (by omega:2<=256) x.natAbs).1 c;simp;omega
 .rename_i c;have g:0<x.natAbs:=by
   rcases aV x.natAbs with a|a
   .rw [a]at c;simp [Ej]at c
   .exact a
  have a:=Zua x.natAbs 0 O;have d:=dg_top (by omega:2<=256) g;rw [Fb O]at d;have e:=(bl256 x.natAbs 8192).2 O;rw [aQ];refine⟨aJ (by rw [a];simpa using d),aJ e⟩
theorem Zhn{a b:ByteArray}(h:a.data.toList=b.data.toList):a=b:=by cases a;cases b;simp at h;rw [h]
theorem Ynu{s:ByteArray}(e:s.size≠0)(h:(s.data.toList.getD 0 0).toNat≠0):s=Xo (val 256 (s.data.toList.reverse.map UInt8.toNat)):=by
 have g:s.data.toList.length=s.size:=rfl;have a:∀d∈s.data.toList.reverse.map UInt8.toNat,d<256:=λd c=>by obtain⟨u,_,rfl⟩:=eV.1 c;exact u.toNat_lt
 refine Zhn ?_;unfold Xo;rw [Cm O _ a,tz_eq]
 .simp [List.map_reverse,Function.comp_def]
 .refine .inr ?_;rw [aW,List.length_reverse,aE,eY,List.getElem?_reverse O];rw [show s.data.toList.length-1-(s.data.toList.length-1)=0 by omega];rw [aE]at h;cases hx:s.data.toList[0]? with
  | none=>rw [hx]at h;simp at h
  | some u=>rw [hx]at h;simpa using h
theorem Zox{s:ByteArray}(h:okW b s=true):∃x:Int,bl x.natAbs<=65536/\b=decide (x<0)/\s=Xo x.natAbs:=by
 unfold okW at h;split at h
 .rename_i c;refine⟨0,by simp [Ko],?_,?_⟩
  .cases b<;>simp_all
  .refine Zhn ?_;have:s.data.toList.length=0:=c;rw [aG this];rfl
 .rename_i c;rw [aQ]at h;have e:=cD h.1;have g:=cD h.2;have hs:=Ynu c e;generalize val 256 (s.data.toList.reverse.map UInt8.toNat)=n at hs;have d:(dg 256 n).length=s.size:=by rw [hs,Fk]
  have i:0<n:=by
   rcases aV n with h|h
   .subst h;simp [Ej]at d;omega
   .exact h
  have a:bl n<=65536:=by have:=(bl256 n 8192).1 O;omega
  cases b with
  | true=>exact⟨-(n:Int),by simpa using a,O9,by simpa using hs⟩
  | false=>exact⟨n,by simpa using a,O8,by simpa using hs⟩
def eqW(a:Bool)(s:ByteArray)(b:Bool)(t:ByteArray):Bool:=(a == b) && (s.toList == t.toList)
theorem wv_inj(h:decide (x<0)=decide (y<0))(g:Xo x.natAbs=Xo y.natAbs):x=y:=by
 have j:x.natAbs=y.natAbs:=by
  have a:(dg 256 x.natAbs).reverse.map UInt8.ofNat=(dg 256 y.natAbs).reverse.map UInt8.ofNat:=by have:=aL (λb:ByteArray=>b.data.toList) g;simpa [Xo]using this
  have c:∀n:Nat,((dg 256 n).reverse.map UInt8.ofNat).map UInt8.toNat=(dg 256 n).reverse:=λn=>by
   rw [iC]
   conv=>rhs;rw [<-nA (dg 256 n).reverse]
   refine kX λd i=>?_;have:=Gs (by omega:2<=256) n d (List.mem_reverse.1 i);simp [UInt8.toNat_ofNat',aU this]
  have e:=aL (List.map UInt8.toNat) a;rw [c,c]at e;exact(Zni (by omega:2<=256)).1 (List.reverse_inj.1 e)
 have a:=cF.1 h;omega
theorem Ymr{a:Bool}{s t:ByteArray} : eqW a s b t=true↔a=b/\s=t:=by unfold eqW;rw [aQ,ByteArray.toList_eq,ByteArray.toList_eq,lD,lD];exact⟨λh=>⟨h.1,Zhn h.2⟩,λh=>⟨h.1,by rw [h.2]⟩⟩
theorem Yhf(x y:Int):eqW (decide (x<0)) (Xo x.natAbs) (decide (y<0)) (Xo y.natAbs)=decide (x=y):=by rw [Bool.eq_iff_iff,Ymr,eW];exact⟨λh=>wv_inj h.1 h.2,λh=>by rw [h];exact⟨rfl,rfl⟩⟩
theorem Mm:sg (decide (x<0)) x:=by unfold sg;simp;omega
def Dz(x y:Int):bl (x+y).natAbs<=max (bl x.natAbs) (bl y.natAbs)+1:=
 aB (Ll (lS x y)) bl_add
theorem Xq(x y:Int):bl (x*y).natAbs<=bl x.natAbs+bl y.natAbs:=by rw [cH];exact Zwt _ _
theorem Zjc(x y:Int):bl (x-y).natAbs<=max (bl x.natAbs) (bl y.natAbs)+1:=by have:=Dz x (-y);rwa [iH,<-dE]at this
theorem Zwr(x:Int):bl (-x).natAbs=bl x.natAbs:=by rw [iH]
theorem Zjd(x y:Int):bl (x/y).natAbs<=bl x.natAbs+1:=by have h:(x/y).natAbs<=x.natAbs:=lP x y;have:=Ll h;omega
theorem Yac(x y:Int)(a:y≠0):bl (x%y).natAbs<=bl y.natAbs:=by have c:=mK x a;have d:=Int.emod_lt x a;exact Ll O
theorem Zqm(x y:Nat):bl (Nat.gcd x y)<=max (bl x) (bl y):=by
 rcases aV x with h|h
 .subst h;rw [Nat.gcd_zero_left];omega
 .have:=Ll (lY h (mB x y));omega
def Yko(x:Int)(h:y≠0):sg false (x%y):=⟨λa=>Bool.noConfusion a,λ_=>mK x h⟩
def Mp(x y:Int):Int:=if y<0 then -(Int.gcd x y:Int)else(Int.gcd x y:Int)
theorem Zco(x y:Int):(Mp x y).natAbs=Nat.gcd x.natAbs y.natAbs:=by unfold Mp;split<;>simp [Int.gcd]
theorem Zyt(h:y≠0):Mp x y≠0:=λe=>by have a:=Zco x y;rw [e]at a;have:=(Nat.gcd_eq_zero_iff.1 a.symm).2;omega
theorem Ykm(a:sg t y)(c:y≠0):sg t (Mp x y):=by
 unfold Mp sg at *;refine⟨λh=>?_,λh=>?_⟩
 .rw [aF (by have:=a.1 h;omega)];omega
 .rw [aD (by have:=a.2 h;omega)];omega
theorem Zys(x y:Int):Eu v (Nat.gcd x.natAbs y.natAbs)=Eu v (Mp x y).natAbs:=by rw [Zco]
def La(x y:Int):Prop:=65536<bl (x/Mp x y).natAbs\/65536<bl (y/Mp x y).natAbs
instance (x y:Int):Decidable (La x y):=by unfold La;infer_instance
def Ho(x y:Int):Int:=if La x y then 0 else x/Mp x y
def Iq(x y:Int):Int:=if La x y then 0 else y/Mp x y
def Yei(x y:Int):Int:=if La x y then 7 else 0
abbrev Zbm (x y:Int):Value:= .tuple #[.agg #[.bool (decide (Ho x y<0)),.string (Xo (Ho x y).natAbs),.bool (decide (Iq x y<0)),.string (Xo (Iq x y).natAbs)],.int .i64 (Yei x y)]
theorem Zbl(h:La x y):Zbm x y= .tuple #[.agg #[.bool false,.string ⟨#[]⟩,.bool false,.string ⟨#[]⟩],.int .i64 7]:=by unfold Zbm Ho Iq Yei;rw [aF h,aF h,aF h];rfl
theorem Zab(h:Zif x≠0):65536<bl x.natAbs:=by
 unfold Zif at h;split at h
 .assumption
 .exact absurd rfl h
theorem Zi0(h:Zif x=0):bl x.natAbs<=65536:=by
 unfold Zif at h;split at h
 .omega
 .omega
theorem Zr1(c:Zif (x/Mp x y)=0)(d:Zif (y/Mp x y)=0):Zbm x y= .tuple #[.agg #[.bool (decide (Bw (x/Mp x y)<0)),.string (Xo (Bw (x/Mp x y)).natAbs),.bool (decide (Bw (y/Mp x y)<0)),.string (Xo (Bw (y/Mp x y)).natAbs)],.int .i64 0]:=by
 have a:¬La x y:=λh=>by have:=Zi0 c;have:=Zi0 d;unfold La at h;omega
 unfold Zbm Ho Iq Yei;rw [aD a,aD a,aD a,Nj (Zi0 c),Nj (Zi0 d)]
def okR(b:Bool)(s:ByteArray)(c:Bool)(t:ByteArray):Bool:=okW b s && okW c t && (!c && decide (0<t.size))
theorem Zoq(z:Int):(!decide (z<0) && decide (0<(Xo z.natAbs).size))=decide (0<z):=by rw [Bool.eq_iff_iff,aQ,Fk,eW,eW];have:=Nu (by omega:2<=256) z.natAbs;simp only [gY,iI];omega
theorem Zbj(z:Int):decide (0<z.sign)=decide (0<z):=by
 rw [cF];rcases kB z 0 with h|h|h
 .rw [fS h];omega
 .subst h;simp
 .rw [gJ h];omega
theorem Zsd{s:ByteArray}{z:Int}(a:okW b s=true)(c:bl z.natAbs<=65536):okR b s (decide (z<0)) (Xo z.natAbs)=decide (0<z.sign):=by unfold okR;rw [a,Zcm c,Zoq,Zbj];rfl
theorem okR_wv(c:bl x.natAbs<=65536)(d:bl y.natAbs<=65536)(a:0<y):okR (decide (x<0)) (Xo x.natAbs) (decide (y<0)) (Xo y.natAbs)=true:=by unfold okR;rw [Zcm c,Zcm d,Zoq];simp [a]
theorem Yfa{c:Bool}{s t:ByteArray}(h:okR b s c t=true):∃x y:Int,bl x.natAbs<=65536/\bl y.natAbs<=65536/\0<y/\b=decide (x<0)/\s=Xo x.natAbs/\c=decide (y<0)/\t=Xo y.natAbs:=by unfold okR at h;rw [aQ,aQ]at h;obtain⟨⟨d,e⟩,a⟩:=h;obtain⟨x,g,rfl,rfl⟩:=Zox d;obtain⟨y,i,rfl,rfl⟩:=Zox e;rw [Zoq]at a;exact⟨x,y,g,i,cD a,rfl,rfl,rfl,rfl⟩
open Go.RowKit Below
def Sz(n:Nat)(p:List Int):Prop:=∀i,bl (cf p i).natAbs<=n
def Sz.getD{n:Nat}(h:Sz n p)(i:Nat):bl (p.getD i 0).natAbs<=n:=h i
def Sz.mono{n m:Nat}(h:Sz n p)(a:n<=m):Sz m p:=λi=>aB (h i) a
theorem Sz.tzl{n:Nat}(h:Sz n p):Sz n (tzl p):=λi=>by rw [Ik];exact h i
theorem Sz.nil(n:Nat):Sz n []:=λi=>by simp [cf,Ko]
theorem Sz.take{n:Nat}(h:Sz n p)(k:Nat):Sz n (p.take k):=λi=>by
 rw [El];split
 .exact h i
 .simp [Ko]
theorem Sz.mem{n:Nat}(h:Sz n p)(a:x∈p):bl x.natAbs<=n:=by obtain⟨i,hi,rfl⟩:=eD.1 a;have:=h i;rwa [Zc7 hi]at this
theorem Sz.of_mem{n:Nat}(h:∀x∈p,bl x.natAbs<=n):Sz n p:=λi=>by
 rcases aX i p.length with hi|hi
 .rw [Zc7 hi];exact h _ (fX hi)
 .rw [Yo hi];simp [Ko]
structure Vp (p:List Int):Prop where
 sz:Sz 65536 p
 tr:Tr p
 len:p.length<=25
def wr(x:Int):Bool×ByteArray:=(decide (x<0),Xo x.natAbs)
def okP(r:List (Bool×ByteArray)):Bool:=r.all (λw=>okW w.1 w.2) && (decide (r.length<=25) && (decide (r.length=0) || decide ((r.getD (r.length-1) (false,⟨#[]⟩)).2.size≠0)))
theorem Ze5 : (Xo x.natAbs).size=0↔x=0:=by rw [Fk];have:=Nu (by omega:2<=256) x.natAbs;omega
theorem Zcs{i:Nat}(h:i<xs.length):(xs.map wr).getD i (false,⟨#[]⟩)=wr (cf xs i):=by rw [Zc7 h];simp [List.getD,h]
theorem okP_wr(h:Vp xs):okP (xs.map wr)=true:=by
 unfold okP;rw [aQ,aQ,mM];refine⟨bF.2 λw e=>?_,by simpa using h.len,?_⟩
 .obtain⟨x,g,rfl⟩:=eV.1 e;exact Zcm (h.sz.mem g)
 .rcases h.tr with a|a
  .left;simp [a]
  .right;have i:0<xs.length:=by
    rcases aV xs.length with c|c
    .rw [Yo O]at a;exact absurd rfl a
    .exact c
   rw [aW,Zcs O];refine aJ λd=>a (Ze5.1 d)
theorem Zsc{r:List (Bool×ByteArray)}(h:∀w∈r,okW w.1 w.2=true):∃xs:List Int,(∀x∈xs,bl x.natAbs<=65536)/\r=xs.map wr:=by
 induction r with
 | nil=>exact⟨[],O8,rfl⟩
 | cons w r l=>
  obtain⟨xs,c,d⟩:=l λu i=>h u (bM _ i);obtain⟨x,j,e,g⟩:=Zox (h w (cE ..));refine⟨x::xs,λy a=>?_,?_⟩
  .rcases aZ.1 a with rfl|a
   .exact j
   .exact c y a
  .rw [cQ,<-d,wr,<-e,<-g]
theorem okP_ex{r:List (Bool×ByteArray)}(h:okP r=true):∃xs:List Int,Vp xs/\r=xs.map wr:=by
 unfold okP at h;rw [aQ,aQ,mM]at h;obtain⟨d,e,a⟩:=h;obtain⟨xs,g,rfl⟩:=Zsc (bF.1 d);refine⟨xs,⟨Sz.of_mem g,?_,by simpa using e⟩,rfl⟩;rcases a with a|a
 .left;exact aG (by simpa using a)
 .rcases aV xs.length with c|c
  .left;exact aG c
  .right;rw [aW,Zcs O]at a;exact λi=>cD a (Ze5.2 i)
theorem Zuu{j:Nat}(h:j<k)(a:(xs.take k).getD j 0=0):cf xs j=0:=by rw [Zdv _ _ _ _ h]at a;exact a
theorem Zq7 (k:Nat){j:Nat}(h:j<k)(a:¬((xs.take k).getD j 0).sign=0):cf xs j≠0:=λe=>a (by rw [Zdv _ _ _ _ h];rw [show xs.getD j 0=0 from e];rfl)
theorem Ylk{r:List (Bool×ByteArray)}{w:Bool×ByteArray}(a:w∈r)(h:okW w.1 w.2=false):okP r=false:=by unfold okP;rw [show r.all (λw=>okW w.1 w.2)=false from eT.2 ⟨w,a,by simp [h]⟩];rfl
theorem Zoy(h:∀x∈xs,bl x.natAbs<=65536):okP (xs.map wr)=(decide (xs.length<=25) && (decide (xs.length=0) || decide (¬(xs.getD (xs.length-1) 0).sign=0))):=by
 unfold okP;rw [show(xs.map wr).all (λw=>okW w.1 w.2)=true from bF.2 λw c=>by obtain⟨x,d,rfl⟩:=eV.1 c;exact Zcm (h x d)]
 rw [aW,fJ];congr 1;by_cases a:xs.length=0
 .simp [a]
 .rw [aK a,Bool.false_or,Bool.false_or,Zcs O];rw [cF,gT];exact not_congr Ze5
def err(e x:Int):Int:=if e=0 then Zif x else e
theorem Zv1(h:bl x.natAbs<=65536):err 0 x=0:=by unfold err;rw [aF rfl,Zpl h]
def Qz:List Int->Nat
 | []=>0
 | x::r=>max (bl x.natAbs) (Qz r)
theorem Kt(p:List Int):Sz (Qz p) p:=by
 refine Sz.of_mem λx a=>?_
 induction p with
 | nil=>cases a
 | cons y r c=>
  rcases aZ.1 a with rfl|h
  .simp only [Qz];omega
  .have:=c h;simp only [Qz];omega
theorem Pz{n:Nat}(h:Sz n p):Qz p<=n:=by
 have c:∀x∈p,bl x.natAbs<=n:=λx a=>h.mem a;clear h
 induction p with
 | nil=>exact bI _
 | cons y r d=>
  have:=c y (cE ..);have:=d λx a=>c x (bM _ a);simp only [Qz];omega
theorem Yfl(p:List Int)(x:Int):Qz (p ++ [x])=max (Qz p) (bl x.natAbs):=by
 induction p with
 | nil=>simp [Qz]
 | cons y r a=>simp only [iF,Qz,a];omega
variable {P:Program} {N:Nat} {sc:Nat->Prop} {env env':Qi} {H H':Hp} {Q Q':Exit->Act->World->Prop} {M:Nat->Prop}
theorem fpm{α β:Type}{f:α->β}{xs:List α}{p:Prop}(h:xs.map f≠[]/\p):xs≠[]/\p:=⟨λe=>h.1 (by rw [e];rfl),h.2⟩
def fpn{α β:Type}{f:α->β}{xs:List α}{p:Prop}(h:xs≠[]/\p):xs.map f≠[]/\p:=⟨λe=>h.1 (List.map_eq_nil_iff.1 e),h.2⟩
theorem slp_wr(v:Value)(xs:List Int)(w:World)(h:(Yt 2 wv v xs).holds w):(Yt 2 (λw:Bool×ByteArray=>Value.agg #[.bool w.1,.string w.2]) v (xs.map wr)).holds w:=by
 obtain⟨⟨a,c,l,m,n,d⟩,q⟩:=h;refine⟨⟨a,c,by rw [aW];exact l,by rw [aW];exact m,n,?_⟩,λb h=>q b (fpm h)⟩;rcases d with d|⟨g,e,d,o⟩
 .left;rw [d];rfl
 .right;refine⟨g,e,d,λi x hi j u r=>?_⟩;rw [eY]at hi;cases hx:xs[i]? with
  | none=>rw [hx]at hi;cases hi
  | some y=>rw [hx]at hi;cases hi;exact o i y hx j u r
theorem Ykj(v:Value)(xs:List Int)(w:World)(h:(Yt 2 (λw:Bool×ByteArray=>Value.agg #[.bool w.1,.string w.2]) v (xs.map wr)).holds w):(Yt 2 wv v xs).holds w:=by
 obtain⟨⟨a,c,l,m,n,d⟩,q⟩:=h;rw [aW]at l m;refine⟨⟨a,c,l,m,n,?_⟩,λb h=>q b (fpn h)⟩;rcases d with d|⟨g,e,d,o⟩
 .left;simpa using d
 .right;refine⟨g,e,d,λi x hi j u r=>?_⟩;exact o i (wr x) (by rw [eY,hi];rfl) j u r
theorem Cal.imp{p q:Pc}{al:Bool}{G:Type}{φ:G->Prop}{val:G->Value}{i:G->List Pc}(h:Cal P f args (p::pre) al φ val i)(I:∀w,q.holds w->p.holds w)(B:∀b,p.fp b->q.fp b) :
  Cal P f args (q::pre) al φ val i:=λw m=>by
 refine(h w λr a=>?_).mono ?_
 .rcases aZ.1 a with rfl|a
  .exact I w (m q (cE ..))
  .exact m r (bM _ a)
 .rintro e V ⟨g,z,F,j,c⟩;refine⟨g,z,F,j,λS l=>?_⟩;obtain⟨n,o,u⟩:=c S l;refine⟨n,o,λb j=>?_⟩;rcases u b j with h|⟨h,r,a,d⟩
  .exact .inl h
  .refine .inr ⟨h,?_⟩;rcases aZ.1 a with rfl|a
   .exact⟨q,cE ..,B b d⟩
   .exact⟨r,bM _ a,d⟩
end Go.Sky
namespace Go.Sky
variable{k m:Nat}{f:Nat->Int}{xs:List Int}
def fill(n k:Nat)(f:Nat->Int):List Int:=mk n λi=>if i<k then f i else 0
def Pa(n k:Nat)(f:Nat->Int):(fill n k f).length=n:=Yu _ _
theorem Zcu{n:Nat}(h:k<n):(fill n k f).set k (f k)=fill n (k+1) f:=Ku (by simp [Pa]) λi hi=>by
 rw [bX,Pa]at hi;rw [Zlw (by rw [Pa];exact h)];unfold fill;rw [Ly,Ly,aF hi,aF hi];by_cases b:i=k
 .subst b;rw [aF rfl,aF O]
 .rw [aD b];by_cases a:i<k
  .rw [aF a,aF O]
  .rw [aD a,aD O]
theorem Bh(n:Nat)(f:Nat->Int):List.replicate n 0=fill n 0 f:=Ku (by simp [Pa]) λi hi=>by rw [aT]at hi;unfold fill;rw [Ly,aF hi,aD O,Zc7 (by simpa using hi)];simp
theorem Ei(n:Nat)(f:Nat->Int):fill n n f=mk n f:=Gq λi hi=>by rw [aF hi]
theorem Yfm(xs:List Int)(g:Int->Int):mk xs.length (λi=>g (cf xs i))=xs.map g:=Ku (by simp [Yu]) λi hi=>by rw [Yu]at hi;rw [Ly,aF hi,Zc7 hi,Zc7 (p:=xs.map g) (by simpa using hi)];simp
theorem Zf1{n:Nat}(h:∀i,i<n->bl (f i).natAbs<=m):Sz m (mk n f):=λi=>by
 rw [Ly];split
 .exact h i ‹_›
 .simp [Ko]
theorem Mg{p:List Int}(h:Tr p):Tr (Xb p):=by
 unfold Xb;rcases aX 1 p.length with a|a
 .right;rw [Yu,Ly,aF O];have c:=h.mem (by intro e;rw [e]at a;simp at a);rw [show p.length-1-1+1=p.length-1 by omega];intro d;rcases fA.1 d with b|b
  .exact c b
  .omega
 .left;exact aG (by rw [Yu];omega)
theorem Ya8(xs:List Int)(c:Int):tzl (fill xs.length xs.length λi=>cf xs i*c)=Yk xs c:=by rw [Ei,Yfm xs (· * c)];rfl
theorem Yk9(h:Tr xs):tzl (fill (xs.length-1) (xs.length-1) λi=>cf xs (i+1)*((i:Int)+1))=Xb xs:=by rw [Ei];exact Zai (Mg h)
theorem Ye0{p:List Int}(h:p.length=0):Xb p=[]:=aG (by unfold Xb;rw [Yu];omega)
theorem Zkf(p:List Int)(x:Int):Xl (p ++ [x])=(Int.gcd (Xl p) x:Int):=by unfold Xl;rw [kC];rfl
theorem Mu(p:List Int):0<=Xl p:=by
 rcases Zio p with rfl|⟨a,y,rfl⟩
 .exact fE _
 .rw [Zkf];omega
theorem Ir{p:List Int}(h:k<p.length):Xl (p.take (k+1))=(Int.gcd (Xl (p.take k)) (p.getD k 0):Int):=by rw [Ps 0 _ _ h,Zkf]
theorem Zr9{n:Nat} : ∀(p:List Int),Sz n p->bl (Xl p).natAbs<=n:=λp=>by
 have a:∀k,k<=p.length->Sz n p->bl (Xl (p.take k)).natAbs<=n:=by
  intro k
  induction k with
  | zero=>intro _ _;rw [eX];exact bI _
  | succ k d=>
   intro c hs;rw [Ir c];have e:=d O hs;have b:=hs k;have:=Zqm (Xl (p.take k)).natAbs (p.getD k 0).natAbs;have g:bl (p.getD k 0).natAbs<=n:=b;show bl (Nat.gcd _ _)<=n;omega
 intro hs;have:=a p.length (aI _) hs;rwa [bT]at this
theorem Lr(p:List Int):∀i,Xl p∣cf p i:=by
 have a:∀k,k<=p.length->∀i,i<k->Xl (p.take k)∣cf p i:=by
  intro k
  induction k with
  | zero=>intro _ i hi;omega
  | succ k c=>
   intro b i hi;rw [Ir b];rcases aX i k with h|h
   .exact fQ (iJ ..) (c O i h)
   .have:i=k:=O;subst this;exact gE ..
 intro i;rcases aX i p.length with h|h
 .have:=a p.length (aI _) i h;rwa [bT]at this
 .rw [Yo h];exact jJ _
theorem Zck(p:List Int):Xl p=0↔∀i,cf p i=0:=by
 refine⟨λh i=>by have:=Lr p i;rw [h]at this;exact Int.zero_dvd.1 this,λh=>?_⟩;have a:∀k,k<=p.length->Xl (p.take k)=0:=by
  intro k
  induction k with
  | zero=>intro _;rfl
  | succ k c=>
   intro b;rw [Ir b,c O];have:=h k;rw [show p.getD k 0=0 from this];rfl
 have:=a p.length (aI _);rwa [bT]at this
theorem Dj{p:List Int}{d:Int}(h:∀i,d∣cf p i):d∣Xl p:=by
 have a:∀k,k<=p.length->d∣Xl (p.take k):=by
  intro k
  induction k with
  | zero=>intro _;exact jJ _
  | succ k c=>
   intro b;rw [Ir b];exact Int.dvd_coe_gcd (c O) (h k)
 have:=a p.length (aI _);rwa [bT]at this
theorem Za8(p:List Int)(i:Nat):cf (Yi p) i=cf p i/Xl p:=by unfold Yi;rw [Zc6 O8]
theorem Zy(p:List Int):(Yi p).length=p.length:=by simp [Yi]
theorem Zbx{x y:Int}{n:Nat}(h:y∣x)(b:bl x.natAbs<=n):bl (x/y).natAbs<=n:=by have a:(x/y).natAbs<=x.natAbs:=lP x y;exact aB (Ll a) b
theorem Xh{p:List Int}(h:Tr p):Tr (Yi p):=by
 rcases h with rfl|h
 .left;rfl
 .right;rw [Za8,Zy];intro a;have b:=Lr p (p.length-1);have:=kN b;rw [a,eC]at this;exact h this.symm
theorem Cb{n:Nat}{p:List Int}(h:Sz n p):Sz n (Yi p):=λi=>by rw [Za8];exact Zbx (Lr p i) (h i)
theorem Im{p:List Int}(h:Vp p):Vp (Yi p):=⟨Cb h.sz,Xh h.tr,by rw [Zy];exact h.len⟩
def Vp.ne{p:List Int}(h:Vp p)(a:p≠[]):Xl p≠0:=λe=>h.tr.mem a ((Zck p).1 e _)
def Lf(p:List Int)(n d:Int)(i:Nat):Int:=Yb (λm=>cf p (i+m)*(n^m*d^(p.length-1-(i+m)))) (p.length-i)
theorem Zsy(p:List Int)(n d:Int):Lf p n d 0=pev p n d:=by unfold Lf pev;simp only [bR,iM]
theorem Ymb{p:List Int}(n d:Int)(h:0<p.length):Lf p n d (p.length-1)=cf p (p.length-1):=by unfold Lf;rw [show p.length-(p.length-1)=0+1 by omega,Yl,Hl];simp
theorem Yf9{p:List Int}(n d:Int){i:Nat}(h:i<p.length):Lf p n d i=Lf p n d (i+1)*n+cf p i*d^(p.length-1-i):=by
 unfold Lf;rw [show p.length-i=p.length-(i+1)+1 by omega,Mz];rw [<-Zjr];have:Yb (λm=>cf p (i+(m+1))*(n^(m+1)*d^(p.length-1-(i+(m+1))))) (p.length-(i+1))=Yb (λm=>cf p (i+1+m)*(n^m*d^(p.length-1-(i+1+m)))*n) (p.length-(i+1)):=
  Yz λm a=>by rw [show i+(m+1)=i+1+m by omega,eF];grind
 rw [this];simp only [fR,dD,fG];omega
theorem Yil{K:Nat}{f:Nat->Int} : ∀{n:Nat},(∀i,i<n->bl (f i).natAbs<=K)->(Yb f n).natAbs<=n*(2^K-1)
 | 0,_=>by simp [Yb]
 | n+1,h=>by have b:=Yil (n:=n) λi hi=>h i O;have a:=(Qt K _).1 (h n O);rw [Yl,bL];have:=lS (Yb f n) (f n);omega
theorem Zjb{K:Nat}{n:Nat}(h:∀i,i<n->bl (f i).natAbs<=K)(a:n<=31):bl (Yb f n).natAbs<=K+5:=by rw [Qt];have b:=Yil h;have c:n*(2^K-1)<=31*(2^K-1):=aP _ a;have d:0<2^K:=dZ K;rw [bN];omega
theorem Be(x:Int){m:Nat}(h:bl x.natAbs<=m):∀k,0<k->bl (x^k).natAbs<=k*m
 | 0,a=>O
 | 1,_=>by rw [eF,dD,fG,mZ];exact h
 | k+2,_=>by have b:=Be x h (k+1) O;rw [eF,show k+2=(k+1)+1 from rfl,bL (k+1) 1 m];have:=Xq (x^(k+1)) x;omega
theorem Zja (i:Nat)(j:Nat){a n d:Int}{A:Nat}(l:bl a.natAbs<=A)(h:bl n.natAbs<=m)(g:bl d.natAbs<=m):bl (a*(n^i*d^j)).natAbs<=A+(i+j)*m:=by
 rcases aV i with rfl|hi
 .rcases aV j with rfl|c
  .simp;exact l
  .have e:=Be d g j c;have b:=Xq a (n^0*d^j);rw [dD,fG]at b ⊢;rw [bR];omega
 .rcases aV j with rfl|c
  .have e:=Be n h i hi;have b:=Xq a (n^i*d^0);rw [dD,iD]at b ⊢;rw [fR];omega
  .have e:=Be n h i hi;have b:=Be d g j c;have o:=Xq (n^i) (d^j);have p:=Xq a (n^i*d^j);rw [bL];omega
theorem Yin{p:List Int}{n d:Int}{A:Nat}(e:Sz A p)(c:bl n.natAbs<=m)(b:bl d.natAbs<=m)(h:p.length<=31)(i:Nat):bl (Lf p n d i).natAbs<=A+(p.length-1-i)*m+5:=by unfold Lf;refine Zjb (λk g=>?_) O;have a:=Zja k (p.length-1-(i+k)) (e (i+k)) c b;rw [show k+(p.length-1-(i+k))=p.length-1-i by omega]at a;exact a
def Kg(p:List Int)(n d:Int):Prop:=p≠[]/\65536<Qz p+(p.length-1)*Qz [n,d]+8
instance (p:List Int) (n d:Int):Decidable (Kg p n d):=by unfold Kg;infer_instance
def evv(p:List Int)(n d:Int):Int:=if Kg p n d then 0 else pev p n d
def eve(p:List Int)(n d:Int):Int:=if Kg p n d then 7 else 0
abbrev wc (x:Int):Array Value:=#[.bool (decide (x<0)),.string (Xo x.natAbs)]
section
variable {p:List Int} {n d:Int} (hF:Qz p+(p.length-1)*Qz [n,d]+8<=65536) (hl:p.length<=25)
include hF
theorem Zh5:bl n.natAbs<=Qz [n,d]/\bl d.natAbs<=Qz [n,d]:=by simp only [Qz];omega
theorem Zpu : bl (d^(p.length-1-k)).natAbs<=65536:=by
 rcases aV (p.length-1-k)with h|h
 .rw [h,dD];decide
 .have a:=Be d (Zh5 hF).2 _ h;have b:(p.length-1-k)*Qz [n,d]<=(p.length-1)*Qz [n,d]:=aP _ O;omega
theorem Zpt : bl (cf p k*d^(p.length-1-k)).natAbs<=65536:=by have a:=Zja 0 (p.length-1-k) (Kt p k) (Zh5 hF).1 (Zh5 hF).2;have b:(0+(p.length-1-k))*Qz [n,d]<=(p.length-1)*Qz [n,d]:=aP _ O;rw [dD,fG]at a;omega
include hl
theorem Zpv(k:Nat):bl (Lf p n d k).natAbs<=65536:=by have a:=Yin (Kt p) (Zh5 hF).1 (Zh5 hF).2 O k;have b:(p.length-1-k)*Qz [n,d]<=(p.length-1)*Qz [n,d]:=aP _ O;omega
theorem Zv0(a:1<=k)(b:k<=p.length-1):bl (Lf p n d k*n).natAbs<=65536:=by
 have c:=Yin (Kt p) (Zh5 hF).1 (Zh5 hF).2 O k;have e:=Xq (Lf p n d k) n;have g:=(Zh5 hF).1;have h:(p.length-1-k)*Qz [n,d]+Qz [n,d]<=(p.length-1)*Qz [n,d]:=by rw [<-eN];exact aP _ O
 omega
end
theorem evv_bl{p:List Int}{n d:Int}(hl:p.length<=25):bl (evv p n d).natAbs<=65536:=by
 unfold evv;split
 .decide
 .rename_i h;rcases aV p.length with a|a
  .rw [aG a,show pev [] n d=0 from rfl];decide
  .rw [<-Zsy];have c:p≠[]:=λe=>by rw [e]at a;simp at a
   exact Zpv (Nat.le_of_not_lt λb=>h ⟨c,b⟩) hl 0
theorem Yer(d:Int){L:Nat}(a:1<=k)(b:k<=L):d^(L-k)*d=d^(L-(k-1)):=by rw [show L-(k-1)=L-k+1 by omega,eF]
theorem Ybv{p:List Int}(n d:Int)(a:1<=k)(b:k<=p.length-1):Lf p n d k*n+cf p (k-1)*d^(p.length-1-(k-1))=Lf p n d (k-1):=by rw [Yf9 n d (i:=k-1) O,show k-1+1=k by omega]
end Go.Sky
namespace Go.Sky
variable{k i B t top:Nat}{f:Nat->Int}{q r c R:List Int}{a b:Int}
def acc(p q:List Int)(i t:Nat):Int:=Yb (λk=>if k<=t then cf p k*cf q (t-k)else 0) i
def Za9(p q:List Int)(i j t:Nat):Int:=acc p q i t+if i<=t/\t<i+j then cf p i*cf q (t-i)else 0
theorem Yci(p q:List Int)(i:Nat):Za9 p q i 0=acc p q i:=oO λt=>by unfold Za9;rw [aD O,bP]
theorem Yi8(p q:List Int)(i:Nat):Za9 p q i q.length=acc p q (i+1):=oO λt=>by
 unfold Za9 acc;rw [Yl];by_cases h:i<=t
 .rw [aF h];by_cases d:t<i+q.length
  .rw [aF ⟨h,d⟩]
  .rw [aD (λh=>d h.2),Yo (p:=q) O,eC]
 .rw [aD h,aD (λd=>h d.1)]
theorem Zks{L:Nat}{g:Nat->Int}(j:k<L)(h:∀t,t<L->t≠k->f t=g t){x:Int}(l:x=g k):(mk L f).set k x=mk L g:=Ku (by simp [Yu]) λt e=>by
 rw [bX,Yu]at e;rw [Zlw (by rw [Yu];exact j),Ly,Ly,aF e];by_cases d:t=k
 .rw [aF d,d,l,aF j]
 .rw [aD d,aF e,h t e d]
theorem Yi7{p:List Int}{L j:Nat}(h:i+j<L):(mk L (Za9 p q i j)).set (i+j) (Za9 p q i j (i+j)+cf p i*cf q j)=mk L (Za9 p q i (j+1)):=by
 refine Zks h (λt g e=>?_) ?_
 .unfold Za9;by_cases d:i<=t/\t<i+j
  .rw [aF d,aF O]
  .rw [aD d,aD O]
 .unfold Za9;rw [aD O,aF O,bP,show i+j-i=j by omega]
theorem Zul(p q:List Int)(t:Nat):acc p q p.length t=(ps p*ps q).c t:=by
 rw [PS.mul_c];unfold acc;have d:Yb (λk=>if k<=t then cf p k*cf q (t-k)else 0) (max (t+1) p.length)=Yb (λk=>if k<=t then cf p k*cf q (t-k)else 0) p.length:=
  Zgz O λk d _=>by rw [Yo d,dC];split<;>rfl
 have e:Yb (λk=>if k<=t then cf p k*cf q (t-k)else 0) (max (t+1) p.length)=Yb (λk=>if k<=t then cf p k*cf q (t-k)else 0) (t+1):=
  Zgz O λk d _=>by rw [aD O]
 rw [<-d,e];exact Yz λk g=>by rw [aF O];rfl
theorem Zvb(L:Nat):List.replicate L 0=mk L λ_=>0:=by rw [Bh L λ_=>0];unfold fill;exact Gq λi _=>by split<;>rfl
theorem Yev(p q:List Int):tzl (mk (p.length+q.length-1) (acc p q p.length))=Qr p q:=by unfold Qr;congr 1;exact Gq λi _=>Zul p q i
theorem Ynz{p:List Int}{A j:Nat}(g:Sz A p)(l:Sz B q)(hi:i<31):bl (Za9 p q i j t).natAbs<=A+B+5:=by
 have h:Za9 p q i j t=Yb (λk=>if k<i then(if k<=t then cf p k*cf q (t-k)else 0)else if i<=t/\t<i+j then cf p i*cf q (t-i)else 0) (i+1):=by rw [Yl];rw [aD (Nat.lt_irrefl i)];unfold Za9 acc;congr 1;exact Yz λk d=>by rw [aF d]
 rw [h];have e:∀a b,bl (cf p a*cf q b).natAbs<=A+B:=λa b=>by have:=Xq (cf p a) (cf q b);have:=g a;have:=l b;omega
 refine Zjb (λk d=>?_) O;split
 .split
  .exact e _ _
  .simp [Ko]
 .split
  .exact e _ _
  .simp [Ko]
theorem bl_acc{p:List Int}{A:Nat}(d:Sz A p)(e:Sz B q)(hi:i<=31):bl (acc p q i t).natAbs<=A+B+5:=by
 refine Zjb (λk g=>?_) hi;split
 .have:=Xq (cf p k) (cf q (t-k));have:=d k;have:=e (t-k);omega
 .simp [Ko]
def Av(p q:List Int):Prop:=p≠[]/\q≠[]/\(24<p.length+q.length-2\/65536<Qz p+Qz q+5)
instance (p q:List Int):Decidable (Av p q):=by unfold Av;infer_instance
theorem Zdw{L:Nat}(h:i<L):(mk L f).getD i 0=f i:=by have:=Ly L f i;rw [aF h]at this;exact this
def Ym2(p q:List Int):Bool:=decide (q≠[]) && decide (p.length<q.length)
def Ba(p q:List Int):Int:=if q.length=0 then 3 else if p.length<q.length then 0 else if 65536<Qz p+(p.length-q.length+1)*(Qz q+1)then 7 else 0
def Zh0(q r:List Int)(top:Nat):List Int:=
 mk r.length λt=>cf r t*cf q (q.length-1)-if top-(q.length-1)<=t/\t<top-(q.length-1)+q.length then cf r top*cf q (t-(top-(q.length-1)))else 0
def Qx(p q:List Int):Nat->List Int
 | 0=>p
 | j+1=>Zh0 q (Qx p q j) (p.length-1-j)
def Zf4(q r:List Int)(top:Nat):(Zh0 q r top).length=r.length:=Yu _ _
theorem Lb(p q:List Int):∀j,(Qx p q j).length=p.length
 | 0=>rfl
 | j+1=>by unfold Qx;rw [Zf4,Lb p q j]
def Qk(p q:List Int):List Int:=if p.length<q.length then p else tzl (Qx p q (p.length-q.length+1))
theorem Zt8(d:t<r.length):cf (Zh0 q r top) t=cf r t*cf q (q.length-1)-if top-(q.length-1)<=t/\t<top-(q.length-1)+q.length then cf r top*cf q (t-(top-(q.length-1)))else 0:=by unfold Zh0;rw [Ly,aF d]
theorem Yaa{c d:Int}{A:Nat}(j:bl a.natAbs<=A)(l:bl b.natAbs<=B)(m:bl c.natAbs<=A)(n:bl d.natAbs<=B):bl (a*b-c*d).natAbs<=A+(B+1):=by have e:=Xq a b;have g:=Xq c d;have h:=Zjc (a*b) (c*d);omega
theorem Yc9{A:Nat}(e:Sz A r)(d:Sz B q):Sz (A+(B+1)) (Zh0 q r top):=by
 unfold Zh0;refine Zf1 λt g=>?_;split
 .exact Yaa (e t) (d _) (e _) (d _)
 .rw [jK];have:=Xq (cf r t) (cf q (q.length-1));have:=e t;have:=d (q.length-1);omega
theorem Zgw(p q:List Int):∀j,Sz (Qz p+j*(Qz q+1)) (Qx p q j)
 | 0=>by rw [iO];exact Kt p
 | j+1=>by unfold Qx;rw [eN,<-fY];exact Yc9 (Zgw p q j) (Kt q)
def dq(q r:List Int)(k:Nat):Int:=cf r (k+q.length-1)/cf q (q.length-1)
def Zlj(q r:List Int)(k:Nat):List Int:=mk r.length λt=>cf r t-if k<=t/\t<k+q.length then dq q r k*cf q (t-k)else 0
def Pd(p q:List Int):Nat->List Int
 | 0=>p
 | j+1=>Zlj q (Pd p q j) (p.length-q.length-j)
theorem Zaq(p q:List Int):∀j,(Pd p q j).length=p.length
 | 0=>rfl
 | j+1=>by unfold Pd Zlj;rw [Yu,Zaq p q j]
def Zzr(p q:List Int)(k:Nat):Int:=dq q (Pd p q (p.length-q.length-k)) k
def Ha(p q:List Int)(k:Nat):Prop:=cf (Pd p q (p.length-q.length-k)) (k+q.length-1)%cf q (q.length-1)=0
def Yeq(p q:List Int):List Int:=tzl (mk (p.length-q.length+1) (Zzr p q))
def pdivs(p q:List Int):Prop:=p=[]\/(q.length<=p.length/\(∀k,k<=p.length-q.length->Ha p q k)/\∀i,cf (Pd p q (p.length-q.length+1)) i=0)
theorem Yda{A:Nat}(d:Sz A r)(g:Sz B q)(e:cf r (k+q.length-1)%cf q (q.length-1)=0):Sz (A+(B+1)) (Zlj q r k):=by
 unfold Zlj;refine Zf1 λt m=>?_;split
 .have h:bl (dq q r k).natAbs<=A:=Zbx (mC e) (d _);have j:=Xq (dq q r k) (cf q (t-k));have l:=Zjc (cf r t) (dq q r k*cf q (t-k));have:=d t;have:=g (t-k);omega
 .rw [jK];have:=d t;omega
theorem Zgy(p q:List Int):∀j,j<=p.length-q.length+1->(∀k,p.length-q.length<k+j->k<=p.length-q.length->Ha p q k)->Sz (Qz p+j*(Qz q+1)) (Pd p q j)
 | 0,_,_=>by rw [iO];exact Kt p
 | j+1,g,h=>by unfold Pd;rw [eN,<-fY];refine Yda (Zgy p q j O λk e d=>h k O d) (Kt q) ?_;have:=h (p.length-q.length-j) O O;unfold Ha at this;rw [show p.length-q.length-(p.length-q.length-j)=j by omega]at this;exact this
theorem Ycj(p q:List Int)(i j:Nat):Za9 p q i (j+1) (i+j)=Za9 p q i j (i+j)+cf p i*cf q j:=by unfold Za9;rw [aF O,aD O,bP,show i+j-i=j by omega]
theorem Zfs{p:List Int}(h:p.length=0\/q.length=0):Qr p q=[]:=by
 unfold Qr;refine(Lt _).2 λi=>?_;rw [Ly];split
 .rw [PS.mul_c];refine Ft λk _=>?_;rcases h with h|h
  .rw [Nl,Yo O,dC]
  .rw [Nl,Nl,Yo (p:=q) O,eC]
 .rfl
def Zid(R:List Int)(l:Int)(i:Nat):List Int:=mk R.length λt=>if t<i then cf R t*l else cf R t
def Zl6(q R:List Int)(l c:Int)(s i:Nat):List Int:=mk R.length λt=>cf R t*l-if s<=t/\t<s+i then c*cf q (t-s)else 0
def Zsp(R:List Int)(l:Int)(i:Nat):(Zid R l i).length=R.length:=Yu _ _
def Zso(q R:List Int)(l c:Int)(s i:Nat):(Zl6 q R l c s i).length=R.length:=Yu _ _
theorem Ybi(R:List Int)(l:Int):Zid R l 0=R:=by unfold Zid;refine Eq.trans (Gq λi hi=>?_) (Zix R);rw [aD O]
theorem Yfk{l:Int}(h:i<R.length):(Zid R l i).getD i 0=cf R i:=by unfold Zid;rw [Zdw h,aD O]
theorem Yfj{l:Int}(h:i<R.length):(Zid R l i).set i (cf R i*l)=Zid R l (i+1):=by
 unfold Zid;refine Zks h (λt g e=>?_) (by rw [aF O]);by_cases d:t<i
 .rw [aF d,aF O]
 .rw [aD d,aD O]
theorem Yau(q R:List Int)(l c:Int)(s:Nat):Zid R l R.length=Zl6 q R l c s 0:=by unfold Zid Zl6;exact Gq λi hi=>by rw [aF hi,aD O,jK]
theorem Yde{l c:Int}{s:Nat}(h:s+i<R.length):(Zl6 q R l c s i).getD (s+i) 0=cf R (s+i)*l:=by unfold Zl6;rw [Zdw h,aD O,jK]
theorem Ydd{l c:Int}{s:Nat}(h:s+i<R.length):(Zl6 q R l c s i).set (s+i) (cf R (s+i)*l-c*cf q i)=Zl6 q R l c s (i+1):=by
 unfold Zl6;refine Zks h (λt g e=>?_) (by rw [aF O,show s+i-s=i by omega]);by_cases d:s<=t/\t<s+i
 .rw [aF d,aF O]
 .rw [aD d,aD O]
theorem rest_b{p:List Int}{j:Nat}(g:Qz p+(p.length-q.length+1)*(Qz q+1)<=65536)(h:j<p.length-q.length+1) :
  (∀t,bl (cf (Qx p q j) t).natAbs<=65536)/\(∀t i,bl (cf (Qx p q j) t*cf q i).natAbs<=65536)/\(∀t i t2 i2,bl (cf (Qx p q j) t*cf q i-cf (Qx p q j) t2*cf q i2).natAbs<=65536):=by
 have d:=Zgw p q j;have e:j*(Qz q+1)+(Qz q+1)<=(p.length-q.length+1)*(Qz q+1):=by rw [<-eN];exact aP _ O
 refine⟨λt=>by have:=d t;omega,λt i=>?_,λt i t2 i2=>?_⟩
 .have:=d t;have:=Kt q i;have:=Xq (cf (Qx p q j) t) (cf q i);omega
 .have:=Yaa (d t) (Kt q i) (d t2) (Kt q i2);omega
def Zra{p:List Int}(d:Qz p+(p.length-q.length+1)*(Qz q+1)<=65536):Sz 65536 (Qx p q (p.length-q.length+1)):=(Zgw p q _).mono d
theorem Zdx{p:List Int}(h:Ba p q=0):q.length≠0/\(q.length<=p.length->Qz p+(p.length-q.length+1)*(Qz q+1)<=65536):=by
 unfold Ba at h;split at h
 .omega
 .refine⟨‹_›,λd=>?_⟩;rw [aD O]at h;split at h
  .omega
  .omega
theorem Zge{p:List Int}(h:q.length≠0):Ym2 p q=decide (p.length<q.length):=by unfold Ym2;have d:q≠[]:=λe=>h (by rw [e];rfl);simp [d]
def Zmd(q R:List Int)(c:Int)(k i:Nat):List Int:=mk R.length λt=>cf R t-if k<=t/\t<k+i then c*cf q (t-k)else 0
def Zsq(q R:List Int)(c:Int)(k i:Nat):(Zmd q R c k i).length=R.length:=Yu _ _
theorem Yb5(q R:List Int)(c:Int)(k:Nat):R=Zmd q R c k 0:=by unfold Zmd;refine Eq.trans (Zix R).symm (Gq λi hi=>?_);rw [aD O,jK]
theorem Yhm{c:Int}(h:k+i<R.length):(Zmd q R c k i).getD (k+i) 0=cf R (k+i):=by unfold Zmd;rw [Zdw h,aD O,jK]
theorem Yhl{c:Int}(h:k+i<R.length):(Zmd q R c k i).set (k+i) (cf R (k+i)-c*cf q i)=Zmd q R c k (i+1):=by
 unfold Zmd;refine Zks h (λt g e=>?_) (by rw [aF O,show k+i-k=i by omega]);by_cases d:k<=t/\t<k+i
 .rw [aF d,aF O]
 .rw [aD d,aD O]
def Zhl(p q:List Int)(j:Nat):List Int:=mk (p.length-q.length+1) λt=>if p.length-q.length<t+j then Zzr p q t else 0
def Zcp(p q:List Int)(j:Nat):(Zhl p q j).length=p.length-q.length+1:=Yu _ _
theorem Yb7(p q:List Int):List.replicate (p.length-q.length+1) 0=Zhl p q 0:=by rw [Zvb];unfold Zhl;exact Gq λi hi=>by rw [aD O]
theorem Yhp{p:List Int}{j:Nat}(g:j<p.length-q.length+1):(Zhl p q j).set (p.length-q.length-j) (dq q (Pd p q j) (p.length-q.length-j))=Zhl p q (j+1):=by
 unfold Zhl;refine Zks O (λt h e=>?_) ?_
 .by_cases d:p.length-q.length<t+j
  .rw [aF d,aF O]
  .rw [aD d,aD O]
 .rw [aF O];unfold Zzr;rw [show p.length-q.length-(p.length-q.length-j)=j by omega]
theorem Zgd(p q:List Int):tzl (Zhl p q (p.length-q.length+1))=Yeq p q:=by unfold Zhl Yeq;congr 1;exact Gq λi hi=>by rw [aF O]
def pdv(p q:List Int):Prop:=p=[]\/(q.length<=p.length/\(∀k,k<=p.length-q.length->Ha p q k)/\tzl (Pd p q (p.length-q.length+1))=[])
instance (p q:List Int) (k:Nat):Decidable (Ha p q k):=by unfold Ha;infer_instance
instance (p q:List Int):Decidable (pdv p q):=by unfold pdv;infer_instance
theorem div_b{p:List Int}{j:Nat}(n:Qz p+(p.length-q.length+1)*(Qz q+1)<=65536)(o:j<p.length-q.length+1)(h:∀k,p.length-q.length<k+j->k<=p.length-q.length->Ha p q k) :
  (∀t,bl (cf (Pd p q j) t).natAbs<=65536)/\(Ha p q (p.length-q.length-j)->bl (dq q (Pd p q j) (p.length-q.length-j)).natAbs<=65536/\(∀i,bl (dq q (Pd p q j) (p.length-q.length-j)*cf q i).natAbs<=65536)/\
   ∀t i,bl (cf (Pd p q j) t-dq q (Pd p q j) (p.length-q.length-j)*cf q i).natAbs<=65536):=by
 have d:=Zgy p q j O h;have l:j*(Qz q+1)+(Qz q+1)<=(p.length-q.length+1)*(Qz q+1):=by rw [<-eN];exact aP _ O
 refine⟨λt=>by have:=d t;omega,λe=>?_⟩;unfold Ha at e;rw [show p.length-q.length-(p.length-q.length-j)=j by omega]at e;have m:bl (dq q (Pd p q j) (p.length-q.length-j)).natAbs<=Qz p+j*(Qz q+1):=Zbx (mC e) (d _);have g:∀i,bl (dq q (Pd p q j) (p.length-q.length-j)*cf q i).natAbs<=Qz p+j*(Qz q+1)+Qz q:=λi=>by have:=Xq (dq q (Pd p q j) (p.length-q.length-j)) (cf q i);have:=Kt q i;omega
 refine⟨O,λi=>by have:=g i;omega,λt i=>?_⟩;have:=Zjc (cf (Pd p q j) t) (dq q (Pd p q j) (p.length-q.length-j)*cf q i);have:=g i;have:=d t;omega
theorem Zxe{p:List Int}(g:Qz p+(p.length-q.length+1)*(Qz q+1)<=65536)(e:∀k,k<=p.length-q.length->Ha p q k){j:Nat}:Sz 65536 (Zhl p q j):=by
 unfold Zhl;refine Zf1 λt l=>?_;split
 .have d:=(div_b g (j:=p.length-q.length-t) O (λk _ h=>e k h)).2;rw [show p.length-q.length-(p.length-q.length-t)=t by omega]at d;exact(d (e t O)).1
 .simp [Ko]
def Ydb{p:List Int}(d:Qz p+(p.length-q.length+1)*(Qz q+1)<=65536)(g:∀k,k<=p.length-q.length->Ha p q k):Sz 65536 (Pd p q (p.length-q.length+1)):=
 (Zgy p q _ (aI _) λk _ e=>g k e).mono d
def Mx(p:List Int)(a b d:Int):Nat->List Int
 | 0=>[cf p (p.length-1)]
 | j+1=>mk ((Mx p a b d j).length+1) λt=>cf (Mx p a b d j) t*a+(if t=0 then cf p (p.length-2-j)*d^(j+1)else cf (Mx p a b d j) (t-1)*b)
def Dn(p:List Int)(a b d:Int):Mx p a b d 0=[cf p (p.length-1)]:=rfl
def Ycc(p:List Int)(a b d:Int)(j:Nat):Mx p a b d (j+1)=mk ((Mx p a b d j).length+1) (λt=>cf (Mx p a b d j) t*a+(if t=0 then cf p (p.length-2-j)*d^(j+1)else cf (Mx p a b d j) (t-1)*b)):=rfl
theorem Zcq(p:List Int)(a b d:Int):∀j,(Mx p a b d j).length=j+1
 | 0=>rfl
 | j+1=>by unfold Mx;rw [Yu,Zcq p a b d j]
def Ks(p:List Int)(a b d:Int):List Int:=if p.length=0 then []else tzl (Mx p a b d (p.length-1))
def Zlp(p:List Int)(a b d:Int):Prop:=p≠[]/\65536<Qz p+(p.length-1)*(Qz [a,b,d]+1)+8
instance (p:List Int) (a b d:Int):Decidable (Zlp p a b d):=by unfold Zlp;infer_instance
def Hc(p q:List Int):List Int:=if p=[]then []else Yeq p q
def Zr3{p:List Int}(h:p≠[]):Hc p q=Yeq p q:=aD h
theorem Ztl{p:List Int}{j:Nat}(d:j<=p.length-q.length):Ha p q (p.length-q.length-j)↔cf (Pd p q j) (p.length-q.length-j+q.length-1)%cf q (q.length-1)=0:=by unfold Ha;rw [show p.length-q.length-(p.length-q.length-j)=j by omega]
def Zt7{x y:Int}(e:y≠0)(d:bl y.natAbs<=65536):Bw (x%y)=x%y:=Nj (aB (Yac x y e) d)
def cnx(c:List Int)(a b:Int)(i:Nat):List Int:=mk (c.length+1) λt=>if t<i then cf c t*a+(if t=0 then 0 else cf c (t-1)*b)else if t=i/\0<i then cf c (t-1)*b else 0
def Hy(c:List Int)(a b:Int)(i:Nat):(cnx c a b i).length=c.length+1:=Yu _ _
theorem Yh8(c:List Int)(a b:Int):List.replicate (c.length+1) 0=cnx c a b 0:=by rw [Zvb];unfold cnx;exact Gq λi hi=>by rw [aD O,aD O]
theorem Zz0(h:i<c.length):(cnx c a b i).getD i 0=if i=0 then 0 else cf c (i-1)*b:=by
 unfold cnx;rw [Zdw O,aD O];by_cases d:i=0
 .rw [aD O,aF d]
 .rw [aF O,aD d]
theorem Ync(h:i<c.length):((cnx c a b i).set i ((cnx c a b i).getD i 0+cf c i*a)).set (i+1) (cf c i*b)=cnx c a b (i+1):=Ku (by simp [Hy]) λt g=>by
 rw [bX,bX,Hy]at g;rw [Zlw (by rw [bX,Hy];omega),Zlw (by rw [Hy];omega),Zz0 h];unfold cnx;rw [Ly,Ly,aF g,aF g];by_cases d:t=i+1
 .subst d;rw [aF rfl,aD O,aF O,show i+1-1=i by omega]
 .rw [aD d];by_cases e:t=i
  .subst e;rw [aF rfl,aF (Nat.lt_succ_self t)];split<;>omega
  .rw [aD e];by_cases j:t<i
   .simp [j,show t<i+1 by omega]
   .simp [j,e,d,show ¬t<i+1 by omega]
theorem Zt5(h:0<c.length):(cnx c a b c.length).getD 0 0=cf c 0*a:=by unfold cnx;rw [Zdw O,aF h,aF rfl,bP]
theorem Ynd{w:Int}(h:0<c.length):(cnx c a b c.length).set 0 ((cnx c a b c.length).getD 0 0+w)=mk (c.length+1) λt=>cf c t*a+(if t=0 then w else cf c (t-1)*b):=Ku (by simp [Hy,Yu]) λt e=>by
 rw [bX,Hy]at e;rw [Zlw (by rw [Hy];omega),Zt5 h,Ly,aF e];unfold cnx;rw [Ly,aF e];by_cases d:t=0
 .rw [aF d,aF d,d]
 .rw [aD d,aD d,aD d];by_cases g:t<c.length
  .rw [aF g]
  .rw [aD g,aF (show t=c.length/\0<c.length by omega),Yo (i:=t) O];omega
theorem Zim{p:List Int}{x y z:Int}{A m:Nat}(d:Sz A p)(l:bl x.natAbs<=m)(v:bl y.natAbs<=m)(n:bl z.natAbs<=m):∀j,Sz (A+j*(m+1)) (Mx p x y z j)
 | 0=>Sz.of_mem λw g=>by have g:w∈[cf p (p.length-1)]:=g;rw [bZ.1 g];have:=d (p.length-1);omega
 | j+1=>by
  have o:=Zim d l v n j;unfold Mx;refine Zf1 λt G=>?_;have D:=Xq (cf (Mx p x y z j) t) x;have F:=o t;have e:(j+1)*(m+1)=j*(m+1)+m+1:=by rw [eN];omega
  split
  .have h:=Zja 0 (j+1) (d (p.length-2-j)) l n;rw [dD,fG]at h;have s:(0+(j+1))*m<=j*(m+1)+m:=by rw [bR,eN];have:j*m<=j*(m+1):=bH _ O;omega
   have u:=Dz (cf (Mx p x y z j) t*x) (cf p (p.length-2-j)*z^(j+1));omega
  .have h:=Xq (cf (Mx p x y z j) (t-1)) y;have s:=o (t-1);have u:=Dz (cf (Mx p x y z j) t*x) (cf (Mx p x y z j) (t-1)*y);omega
section
variable {p:List Int} {x y z:Int} (hF:Qz p+(p.length-1)*(Qz [x,y,z]+1)+8<=65536) {j:Nat} (hj:j<p.length-1)
include hF hj
theorem cp_all:bl (z^j).natAbs<=65536/\bl (z^(j+1)).natAbs<=65536/\(∀t,bl (cf (Mx p x y z j) t).natAbs<=65536)/\(∀t,bl (cf (Mx p x y z j) t*x).natAbs<=65536)/\(∀t,bl (cf (Mx p x y z j) t*y).natAbs<=65536)/\
  (∀t,bl ((if t=0 then 0 else cf (Mx p x y z j) (t-1)*y)).natAbs<=65536)/\(∀t,bl ((if t=0 then 0 else cf (Mx p x y z j) (t-1)*y)+cf (Mx p x y z j) t*x).natAbs<=65536)/\
  bl (cf p (p.length-2-j)*z^(j+1)).natAbs<=65536/\bl (cf (Mx p x y z j) 0*x+cf p (p.length-2-j)*z^(j+1)).natAbs<=65536:=by
 have v:bl x.natAbs<=Qz [x,y,z]:=by simp only [Qz];omega
 have F:bl y.natAbs<=Qz [x,y,z]:=by simp only [Qz];omega
 have d:bl z.natAbs<=Qz [x,y,z]:=by simp only [Qz];omega
 have l:=Zim (Kt p) v F d j;generalize Qz [x,y,z]=m at *;have e:j*(m+1)+(m+1)<=(p.length-1)*(m+1):=by rw [<-eN];exact aP _ O
 have D:j*m<=j*(m+1):=bH _ O;have w:=Zja 0 (j+1) (Kt p (p.length-2-j)) v d;rw [dD,fG,bR,eN]at w;have o:=Be z d (j+1) O;rw [eN]at o;have n:bl (z^j).natAbs<=65536:=by
  rcases aV j with h|h
  .rw [h,dD];decide
  .have:=Be z d j h;omega
 have g:∀t,bl (cf (Mx p x y z j) t*x).natAbs<=Qz p+j*(m+1)+m:=λt=>by have:=Xq (cf (Mx p x y z j) t) x;have:=l t;omega
 have s:∀t,bl (cf (Mx p x y z j) t*y).natAbs<=Qz p+j*(m+1)+m:=λt=>by have:=Xq (cf (Mx p x y z j) t) y;have:=l t;omega
 have u:∀t,bl ((if t=0 then 0 else cf (Mx p x y z j) (t-1)*y)).natAbs<=Qz p+j*(m+1)+m:=λt=>by
  split
  .simp [Ko]
  .exact s _
 refine⟨n,O,λt=>by have:=l t;omega,λt=>by have:=g t;omega,λt=>by have:=s t;omega,λt=>by have:=u t;omega,λt=>?_,O,?_⟩
 .have:=Dz (if t=0 then 0 else cf (Mx p x y z j) (t-1)*y) (cf (Mx p x y z j) t*x);have:=g t;have:=u t;omega
 .have:=Dz (cf (Mx p x y z j) 0*x) (cf p (p.length-2-j)*z^(j+1));have:=g 0;omega
end
theorem Ym9{p:List Int}{x y z:Int}(hF:Qz p+(p.length-1)*(Qz [x,y,z]+1)+8<=65536):Sz 65536 (Mx p x y z (p.length-1)):=by
 have d:bl x.natAbs<=Qz [x,y,z]:=by simp only [Qz];omega
 have e:bl y.natAbs<=Qz [x,y,z]:=by simp only [Qz];omega
 have g:bl z.natAbs<=Qz [x,y,z]:=by simp only [Qz];omega
 exact(Zim (Kt p) d e g _).mono O
theorem Zie(p q:List Int):(Qk p q).length<=p.length:=by
 unfold Qk;split
 .exact aI _
 .have:=Hj (Qx p q (p.length-q.length+1));rw [Lb]at this;exact this
theorem Zca{p:List Int}(d:Vp p)(e:Ba p q=0):Vp (Qk p q):=by
 have g:=Zie p q;refine⟨?_,?_,by have:=d.len;omega⟩
 .unfold Qk;split
  .exact d.sz
  .exact(Zra ((Zdx e).2 O)).tzl
 .unfold Qk;split
  .exact d.tr
  .exact Qq _
def Znd(p q:List Int):Prop:=p.length≠0/\q.length≠0/\65536<(max p.length q.length+2)*(max p.length q.length+2)*(max (Qz p) (Qz q)+8)
instance (p q:List Int):Decidable (Znd p q):=by unfold Znd;infer_instance
def gA(p q:List Int):List Int:=if p.length<q.length then Yi q else Yi p
def gB(p q:List Int):List Int:=if p.length<q.length then Yi p else Yi q
def eok:Nat->List Int->List Int->Prop
 | 0,_,b=>b=[]
 | f+1,a,b=>b=[]\/(Ba a b=0/\eok f b (Yi (Qk a b)))
def eu:Nat->List Int->List Int->List Int
 | 0,a,_=>a
 | f+1,a,b=>if b=[]then a else eu f b (Yi (Qk a b))
theorem Yhg{f:Nat}{a b:List Int}(h:eok f a b)(d:b≠[]):∃g,f=g+1/\Ba a b=0/\eok g b (Yi (Qk a b))/\eu f a b=eu g b (Yi (Qk a b)):=by
 cases f with
 | zero=>exact absurd h d
 | succ g=>
  rcases h with h|h
  .exact absurd h d
  .exact⟨g,rfl,h.1,h.2,by show(if b=[]then a else _)=_;rw [aD d]⟩
theorem Zhk(f:Nat)(a:List Int):eu f a []=a:=by cases f<;>rfl
def Hz(g:List Int):List Int:=if g.length≠0/\cf g (g.length-1)<0 then Yk g (-1)else g
def Nz(f:Nat)(p q:List Int):List Int:=Hz (eu f (gA p q) (gB p q))
theorem vp_gA{p:List Int}(d:Vp p)(e:Vp q):Vp (gA p q):=by unfold gA;split<;>exact Im ‹_›
theorem vp_gB{p:List Int}(d:Vp p)(e:Vp q):Vp (gB p q):=by unfold gB;split<;>exact Im ‹_›
theorem Zbz{p:List Int}(h:Sz 65536 p)(i:Nat):bl (cf p i * -1).natAbs<=65536:=by rw [kL,iD,iH];exact h i
theorem sign_neg_iff(z:Int):z.sign<0↔z<0:=by
 rcases kB z 0 with h|h|h
 .rw [fS h];omega
 .subst h;simp
 .rw [gJ h];omega
end Go.Sky
namespace Go.Sky
def Yka{l:List Int}(h:∀x∈l,Mw x):Sz 65536 l:=Sz.of_mem λx a=>by obtain⟨b,c⟩:=h x a;have:bl x.natAbs<=64:=(Qt 64 _).2 O;omega
open Go.RowKit Below
set_option maxRecDepth 20000
abbrev d9p (v:Value) (x:Nat):Pc:=Yt 1 Ymt v (dg 1000000000 x)
def d9s(a b c:Nat):Nat:=if a<b+c then a+1000000000-(b+c)else a-(b+c)
def cmpI(x y:Nat):Int:=if x<y then -1 else if y<x then 1 else 0
section
variable {P:Program} {N:Nat} {sc:Nat->Prop} {env env':Qi} {H H':Hp} {Q Q':Exit->Act->World->Prop} {M:Nat->Prop}
variable {o:Oper} {t t':TypeId} {x y:Operand} {m n:Nat}
end
end Go.Sky
namespace Go.Sky
section
variable {P:Program} {N:Nat} {sc:Nat->Prop} {env env':Qi} {H H':Hp} {Q Q':Exit->Act->World->Prop} {M:Nat->Prop}
variable {o:Oper} {t t':TypeId} {x y:Operand} {m n:Nat}
end
end Go.Sky
namespace Go.Sky
variable{x y:Operand}{k i:Nat}{v u z:Value}{r:List Pc}{o:Oper}{t:TypeId}{p:Pc}{w0:World}{M0:Nat->Prop}{ks:List Nat}
def Zr2(a b:Int):Prop:=65536<bl a.natAbs\/65536<bl b.natAbs
instance (a b:Int):Decidable (Zr2 a b):=by unfold Zr2;infer_instance
def qn(a b:Int):Int:=if Zr2 a b then 0 else a
def qd(a b:Int):Int:=if Zr2 a b then 0 else b
def qe(a b:Int):Int:=if Zr2 a b then 7 else 0
def Ylx{x y:Int}(h:¬y<0):Mp x y=(Int.gcd x y:Int):=aD h
def Zql(x y:Int):bl ((Int.gcd x y:Int)).natAbs<=max (bl x.natAbs) (bl y.natAbs):=Zqm _ _
open Go.RowKit Below
variable {P:Program} {N:Nat} {sc:Nat->Prop} {env env':Qi} {H H':Hp} {Q Q':Exit->Act->World->Prop} {M:Nat->Prop}
abbrev Yhh (w:Bool×ByteArray):Value:= .agg #[.bool w.1,.string w.2]
abbrev Ymu (z:Int×SL):Value:= .agg #[.bool (decide (z.1<0)),Xp z.2]
abbrev Ob {α:Type} (z:SL×α):Value:=Xp z.1
abbrev qI (z:Int×SL):Pc:=d9p (Xp z.2) z.1.natAbs
abbrev pp (v:Value) (zs:List (Int×SL)):Pc:=Qj 2 Ymu qI v zs
abbrev ints (zs:List (Int×SL)):List Int:=zs.map Prod.fst
abbrev I0:Int×SL:=(0,none,0,0)
theorem Yeo{β:Type}{enc:β->Value}{q:β->Pc}{zs:List β}{al:Bool}{z:β}(i:Nat)(hi:lk H i=some (Qj k enc q v zs))(a:Nat.beq i 0=false)(c:z∈zs)(h:PreOk H al r):PreOk H al (q z::r):=
 ⟨⟨i,_,λe=>by subst e;simp at a,hi,λw h=>h.2 z c,λb d=> .inr ⟨z,c,d⟩,λ_=>rfl⟩,h⟩
theorem t_appM {α:Type}   {e:TypeId} {i2 j h d:Nat}  {enc:α->Value} {xs ys:List α}  {ti:TypeInfo}   
  (ho:o.op= .call { callee:= .builtin .append,args:=#[x,y],argTypes:=#[t,t] }) (hd:o.dst=some d) (hN:Nat.blt d N=true)
  (hx:ev env x=some v) (hy:ev env y=some u) (hH:lk H i=some (On k e enc v xs)) (a3:i≠0) (hj:lk H j=some p) (hr:Rd p k enc u ys) (b0:ys≠[])
  (ht:P.underlying t=some (.slice e)) (hi:P.info? e=some ti) (hz:ti.zero=some z) (n:Enc P e k enc) (a4:ti.size=k) (a1:ti.bytes=h) (b1:z.cells.size=k)
  (l:(xs.length+ys.length)*h<=140737488355328) (s:0<h)
  (h0:lk H 0=some (Zt w0 M0)) (hw:∀b,w0.heap.size<=b->sc b) (hM:∀b,(On k e enc v xs).fp b->M b) :
  T P N sc M o env H (G:=Value) (λ_=>True) (λv'=>(d,v')::env) (λv'=>(i,On k e enc v' (xs ++ ys))::H):=λa w hs K Q hK=>by
 have R:w.ownsRow 0 e k v xs.length (cellsOf enc xs):=hs.hold i _ hH;obtain⟨ad,c,rfl,h1,h2,Y⟩:=hr w (hs.hold j p hj);rcases Y with rfl|⟨g,V,rfl,Y⟩
 .exact absurd rfl b0
 have a9:∀q u,(cellsOf enc ys)[q]? = some u->w.cell? ((⟨g,V,none⟩:Addr).add q)=some u:=λq u hq=>by
  have a5:q<ys.length*k:=by rw [<-Xe n.cells ys];exact(cI.1 hq).1
  have F:=n.pos;have a2:q/k<ys.length:=jC (by rw [aR];exact a5);have m:ys[q/k]? = some ys[q/k]:=aM a2;have a7:q%k<(enc ys[q/k]).cells.toList.length:=by rw [eA,n.cells];exact bO _ F
  have W:=aM a7;have Z:=Ga n.cells ys _ _ m _ _ W;have h5:=Y _ _ m _ _ W;have I:q/k*k+q%k=q:=by rw [aR];exact cP q k
  rw [I]at Z;rw [fY,I]at h5;rw [hq]at Z;cases Z;rw [Px];exact h5
 have D:∀u∈cellsOf enc ys,u.oneCell'=true:=λu W=>by obtain⟨y,_,hy⟩:=jH.1 W;exact n.one y u hy
 have b2:xs.length+ys.length<=140737488355328:=aB (eP _ s) l;obtain⟨v',w',S,a6,f,a0⟩:=Zec (P:=P) t o.type e ti z k h ht hi hz a4 a1 b1 n.pos v xs.length (cellsOf enc xs) R ⟨g,V,none⟩ ys.length c (cellsOf enc ys)
  (Xe n.cells ys) a9 D (by simp only [maxLen];omega) l
 have a8:(execOp a.eval o).run P w= .ok (.value v') w':=by simp only [execOp,ho,resolve,invoke,builtin,Sem.run_bind,Sem.run_pure,Result.andThen_ok,gN,cQ,iQ,hs.ev hx,hs.ev hy,S]
 unfold Oper.wp;rw [a8];show K (a.put o.dst _) _;rw [hd];have B:Chg (λb=>v.ownBlock=some b) w w':=⟨f.os,f.tape,f.output,f.size,λb l hn=>f.block b l (λe=>hn e.symm)⟩;refine hK v' _ _ aA ((hs.upd hH rfl a3 (q:=On k e enc v' (xs ++ ys)) B ?_ (λb l=>a0 b l) h0 hw).put d _ hN) ⟨f.os,f.tape,f.output,f.size,λb l hn=>f.block b l (λe=>hn (hM b e.symm))⟩;show w'.ownsRow 0 e k v' (xs ++ ys).length (cellsOf enc (xs ++ ys));rw [Ky,bE];exact a6
theorem Yj9 (m:Nat) {α:Type}   {e:TypeId} {j d:Nat}  {enc:α->Value} {xs ys:List α}  {ti:TypeInfo}   
  (ho:o.op= .call { callee:= .builtin .append,args:=#[x,y],argTypes:=#[t,t] }) (hd:o.dst=some d) (hN:Nat.blt d N=true)
  (hx:ev env x=some v) (hy:ev env y=some u) (Y:lk H i=some (On k e enc v xs)) (F:i≠0) (hj:lk H j=some p) (hr:Rd p k enc u ys)
  (ht:P.underlying t=some (.slice e)) (hi:P.info? e=some ti) (hz:ti.zero=some z) (he:Enc P e k enc) (a2:ti.size=k) (a1:ti.bytes=m) (a4:z.cells.size=k)
  (Z:(xs.length+ys.length)*m<=140737488355328) (B:0<m)
  (h0:lk H 0=some (Zt w0 M0)) (hw:∀b,w0.heap.size<=b->sc b) (hM:∀b,(On k e enc v xs).fp b->M b) :
  T P N sc M o env H (G:=Value) (λ_=>True) (λv'=>(d,v')::env) (λv'=>(i,On k e enc v' (xs ++ ys))::H):=by
 by_cases S:ys=[]
 .subst S;intro a w hs K Q hK;have h:w.ownsRow 0 e k v xs.length (cellsOf enc xs):=hs.hold i _ Y;obtain⟨V,c,rfl,h1,h2,h3⟩:=hr w (hs.hold j p hj);have I:∃l n s,v= .slice l n s/\n=xs.length/\n<=s:=by
   rcases h.2 with⟨rfl,hn⟩|⟨g,W,a5,rfl,_,_,f,_⟩
   .exact⟨none,0,0,rfl,hn.symm,aI _⟩
   .exact⟨_,_,W,rfl,rfl,f⟩
  obtain⟨l,n,s,rfl,rfl,f⟩:=I;have R:(Builtin.append_ #[t,t] o.type #[.slice l xs.length s,.slice V ([]:List α).length c]).run P w= .ok (.slice l xs.length s) w:=by
   have D:(Builtin.firstCells ti.size 0 (.slice V 0 c)).run P w= .ok #[] w:=by
    cases V with
    | none=>rfl
    | some q=>simp [Builtin.firstCells,loadCells,loadCellsFrom]
   cases l with
   | none=>simp [Builtin.append_,run_underlying ht,sizeOf,typeInfo,hi,Builtin.lenOf,D,f]
   | some q=>simp [Builtin.append_,run_underlying ht,sizeOf,typeInfo,hi,Builtin.lenOf,D,f,storeCells]
  have a3:(execOp a.eval o).run P w= .ok (.value (.slice l xs.length s)) w:=by simp only [execOp,ho,resolve,invoke,builtin,Sem.run_bind,Sem.run_pure,Result.andThen_ok,gN,cQ,iQ,hs.ev hx,hs.ev hy,R]
  unfold Oper.wp;rw [a3];show K (a.put o.dst _) _;rw [hd];refine hK _ _ _ aA ((Sat.upd hs Y rfl F (q:=On k e enc (.slice l xs.length s) (xs ++ [])) (Chg.refl _ w) ?_ (λb Z=> .inl Z) h0 hw).put d _ hN) (Chg.refl _ w);rw [iT];exact h
 .exact t_appM (i2:=0) ho hd hN hx hy Y F hj hr S ht hi hz he a2 a1 a4 Z B h0 hw hM
theorem t_offr  {G:Type} {φ:G->Prop} {c:G->Qi} {g:G->Hp} {d:Hp}   (i:Nat) (hi:lk H i=some p) (D:p.own=true) (B:ks.all (λk=>!Nat.beq k i)=true) (m:Agr d H ks)
  (h:(∀b,p.fp b->Off d ks b)->T P N sc (Off d ks) o env H φ c g):T P N sc (Off d ks) o env H φ c g:=λa w hs=>
 h (λb n k j q l s=>by
  rw [<-m.mem k j]at l;have f:i≠k:=λe=>by subst e;have:=bF.1 B i j;simp at this
  exact hs.sep i k p q f hi l D b n s) a w hs
def eaf(v:Value)(i k q:Nat):Addr:=(ead v i k).add q
theorem Zgi (ii:Nat) {α:Type}    {f:Nat} {e:Array Field} {b:Field} {G q:Nat}   {enc:α->Value} {xs:List α} (s:o.op= .fieldAddr t x f)
  (j:ev env x=some (.pointer (some (ead v i k)))) (l:lk H ii=some p) (D:Rd p k enc v xs) (F:P.underlying t=some (.struct e)) (m:e[f]? = some b) (n:∀w,(sizeOf b.type).run P w= .ok (G+1) w) (B:b.offset=q) (d:i<xs.length:=by omega) :
  Ms P N sc o env H (.pointer (some (eaf v i k q))):=λa w hs=>by
 obtain⟨R,c,rfl,S,V,h⟩:=D w (hs.hold ii p l);rcases h with rfl|⟨g,I,rfl,h⟩
 .simp at d
 .subst B;simp only [ead,Px]at j;simp [execOp,s,hs.ev j,Instr.fieldAt,run_underlying F,m,Instr.sureAddr,fieldPlace,n,Px,eaf,ead]
theorem Zgh (ii:Nat) {α:Type}    {q:Nat}   {enc:α->Value} {xs:List α} (e:α) (m:o.op= .load t x)
  (f:ev env x=some (.pointer (some (eaf v i k q)))) (j:lk H ii=some p) (n:Rd p k enc v xs) (l:∀w,(isAgg t).run P w= .ok false w) (s:(enc (xs.getD i e)).cells.toList[q]? = some u) (b:i<xs.length:=by omega):Ms P N sc o env H u:=λa w hs=>by
 obtain⟨D,c,rfl,F,G,d⟩:=n w (hs.hold ii p j);rcases d with rfl|⟨g,B,rfl,d⟩
 .simp at b
 .have hi:xs[i]? = some (xs.getD i e):=by simp [List.getD,aM b]
  have h:=d i _ hi q u s;simp only [eaf,ead,Px]at f;simp [execOp,m,hs.ev f,Instr.loadAt,Instr.sureAddr,loadVar,l,load,Sem.run,h]
end Go.Sky
namespace Go.Sky
variable{o:Oper}{r pre:List Pc}{f:FuncId}{xs:List Operand}{a:Act}{w:World}{c x:Operand}{ats:Array TypeId}{vs:List Value}{M0:Nat->Prop}{b:Nat}{t:TypeId}{cs:Array Value}
abbrev rq (z:Int×Int):Value:= .agg #[.bool (decide (z.1<0)),.string (Xo z.1.natAbs),.bool (decide (z.2<0)),.string (Xo z.2.natAbs)]
abbrev encQ (z:(Bool×ByteArray)×(Bool×ByteArray)):Value:= .agg #[.bool z.1.1,.string z.1.2,.bool z.2.1,.string z.2.2]
def Yw (d:Value){P:Program}{N:Nat}{sc:Nat->Prop}{env:Qi}{H:Hp}{r:Value}(h:Ms P N sc o env H r)(e:r=d):Ms P N sc o env H d:=e▸h
open Go.RowKit Below
variable {P:Program} {N:Nat} {sc:Nat->Prop} {env env':Qi} {H H':Hp} {Q Q':Exit->Act->World->Prop} {M:Nat->Prop}
theorem Zgg (vs:List Value)(d:List Value){ys:List Operand}(h:o.op= .makeFunc (.func f) xs.toArray ys.toArray)(j:EvL env xs vs)(i:EvL env ys d):Ms P N sc o env H (.func (.func f) vs.toArray d.toArray):=λa w hs=>by have e:=j.map hs;have g:=i.map hs;simp [execOp,h,Instr.makeFunc,e,g]
theorem Zeb   (hs:Sat N sc env H a w)      {e g:List Value} (j:o.op= .call { callee:= .value c,args:=xs.toArray,argTypes:=ats })
  (h:ev env c=some (.func (.func f) e.toArray g.toArray)) (d:EvL env xs vs):(execOp a.eval o).run P w=(callFunc f (e ++ vs ++ g).toArray).run P w:=by
 have i:=d.map hs;simp [execOp,j,resolve,invoke,hs.ev h,Deferred.ofValue,i]
theorem Cq (n:Nat)(i:List Value)(vs:List Value)(p:List Value)      {d:Nat}   {al:Bool} {G:Type} {φ:G->Prop} {val:G->Value} {m:G->List Pc} {w0:World} 
  (D:Cal P f (i ++ vs ++ p).toArray pre al φ val m)
  (I:o.op= .call { callee:= .value c,args:=xs.toArray,argTypes:=ats }) (s:ev env c=some (.func (.func f) i.toArray p.toArray)) (F:o.dst=some d) (B:Nat.blt d N=true)
  (h:EvL env xs vs) (e:∀args w,(callFunc f args).run P w= .ok (.enter f args) w) (k:PreOk H al pre)
  (y:lk H 0=some (Zt w0 M0)) (S:∀b,w0.heap.size<=b->sc b) :
  T P N sc M o env H φ (λg=>(d,val g)::env) (λg=>adds n (m g) H):=λa w hs K Q z=>by
 have R:(execOp a.eval o).run P w= .ok (.enter f (i ++ vs ++ p).toArray) w:=by rw [Zeb hs I s h,e]
 let o2:Oper:={ o with op:= .call { callee:= .value (.func f),args:=((i ++ vs ++ p).map Operand.const).toArray,argTypes:=ats } };have j:∀l:List Value,EvL env (l.map Operand.const) l:=λl=>by
  induction l with
  | nil=>trivial
  | cons v r V=>exact⟨rfl,V⟩
 have u:(execOp a.eval o2).run P w= .ok (.enter f (i ++ vs ++ p).toArray) w:=by rw [Gg hs (o:=o2) rfl (j _),e]
 have q:o2.wp P a w K Q:=Ol n (M:=M) D (o:=o2) rfl F B (j _) e k y S a w hs K Q z;unfold Oper.wp at q ⊢;rw [u]at q;rw [R];exact q
theorem Zg7(i:Nat)(hi:lk H i=some (box b t cs))(d:Nat.beq i 0=false)(h:PreOk H false r):PreOk H false (Nb b t cs::r):=
 ⟨⟨i,_,λe=>by subst e;simp at d,hi,λw h=>h,λb g=>g,λh=>by cases h⟩,h⟩
theorem Sat.rboxc(hs:Sat N sc env H a w){i:Nat}(d:lk H i=some (Nb b t cs))(j:Nat):w.cell? ⟨b,j,none⟩=cs[j]?:=by have h:w.heap[b]? = some (.cells cs t (0,0)):=hs.hold i _ d;simp [World.cell?,h]
theorem d_lra   {v:TypeId} {i j k:Nat}   (l:o.op= .load t x)
  (s:ev env x=some (.pointer (some ⟨b,j,none⟩))) (e:lk H i=some (Nb b v cs)) (m:∀w,(isAgg t).run P w= .ok true w) (g:∀w,(sizeOf t).run P w= .ok k w)
  (h:vs.length=k) (q:∀n u,vs[n]? = some u->cs[j+n]? = some u):Ms P N sc o env H (.agg vs.toArray):=λa w hs=>by
 have d:=run_loadCells_list (P:=P) w ⟨b,j,none⟩ vs (λn u p=>by rw [Px,hs.rboxc e];exact q n u p);rw [h]at d;simp [execOp,l,hs.ev s,Instr.loadAt,Instr.sureAddr,loadVar,m,g,d]
theorem d_negi{m:Int}(d:o.op= .unOp .neg t x)(e:ev env x=some (.int .i64 m))(h:Mw (-m)):Ms P N sc o env H (.int .i64 (-m)):=λa w hs=>by simp [execOp,d,hs.ev e,Op.unary,Op.intArith,Zei h]
theorem fill24{n p q s d e g h j k l m:Value}:Instr.fill (λi=>some (i*4,4)) ((List.range (2*4)).map ((Value.agg #[n,p,q,s]).cells[· % (Value.agg #[n,p,q,s]).cells.size]!)).toArray [(0,.agg #[d,e,g,h]),(1,.agg #[j,k,l,m])]=some #[d,e,g,h,j,k,l,m]:=by
 simp [Instr.fill,Value.cells,List.range,List.range.loop]
 try rfl
end Go.Sky
namespace Go.Sky
open Go.RowKit Below
variable{f:FuncId}{c:Operand}{xs:List Operand}{ats:Array TypeId}{p:Pc}{pre:List Pc}{w0:World}{M0:Nat->Prop}{fn:Func}{vs:List Value}
variable {P:Program} {N:Nat} {sc:Nat->Prop} {env env':Qi} {H H':Hp} {Q Q':Exit->Act->World->Prop} {M:Nat->Prop}
abbrev iq (z:(Int×Int)×(Int×Int)):Value:= .agg #[.bool (decide (z.1.1<0)),.string (Xo z.1.1.natAbs),.bool (decide (z.1.2<0)),.string (Xo z.1.2.natAbs),.bool (decide (z.2.1<0)),.string (Xo z.2.1.natAbs),.bool (decide (z.2.2<0)),.string (Xo z.2.2.natAbs)]
def Yjo(P:Program)(f:FuncId)(args:Array Value)(pre:List Pc)(p:Pc){G:Type}(φ:G->Prop)(val:G->Value)(q:G->Pc):Prop:=
 ∀w,(∀r∈pre,r.holds w/\∀k,p.fp k->¬r.fp k)->p.holds w->Calls P f args w λe a=>∃g,e= .returned (val g)/\φ g/\Chg p.fp w a/\(q g).holds a/\∀k,(q g).fp k->p.fp k\/w.heap.size<=k
theorem Zn8 (i:Nat)(x:List Value)(vs:List Value)(I:List Value) {o:Oper}     {d:Nat}    {G:Type} {φ:G->Prop} {val:G->Value} {q:G->Pc}  
  (hc:Yjo P f (x ++ vs ++ I).toArray pre p φ val q)
  (ho:o.op= .call { callee:= .value c,args:=xs.toArray,argTypes:=ats }) (z:ev env c=some (.func (.func f) x.toArray I.toArray)) (hd:o.dst=some d) (Y:Nat.blt d N=true)
  (m:EvL env xs vs) (n:∀args w,(callFunc f args).run P w= .ok (.enter f args) w) (y:lk H i=some p) (l:p.own=true) (B:i≠0) (u:PreOk (drp i H) false pre)
  (S:lk H 0=some (Zt w0 M0)) (hw:∀b,w0.heap.size<=b->sc b) (W:∀b,p.fp b->M b) :
  T P N sc M o env H φ (λg=>(d,val g)::env) (λg=>(i,q g)::H):=λa w hs K Q V=>by
 have hr:(execOp a.eval o).run P w= .ok (.enter f (x ++ vs ++ I).toArray) w:=by rw [Zeb hs ho z m,n]
 unfold Oper.wp;rw [hr];refine(hc w (λr hp=>by obtain⟨j,R,_,v,t,s,_⟩:=u.mem r hp;obtain⟨F,v⟩:=Hx _ _ _ _ v;exact⟨t w (hs.hold j R v),λk D Z=>hs.sep i j _ R (jG F) y v l k D (s k Z)⟩) (hs.hold i _ y)).mono ?_
 rintro e w' ⟨g,rfl,hg,h,hq,s⟩;show K (a.put o.dst (val g)) w';rw [hd];exact V g _ _ hg (Sat.put (hs.upd y l B h hq s S hw) d _ Y) ⟨h.os,h.tape,h.output,h.size,λk D hn=>h.block k D (λe=>hn (W k e))⟩
def Yjj(P:Program)(fn:Func)(w0:World)(p:Pc){G:Type}(φ:G->Prop)(val:G->Value)(q:G->Pc):Exit->Act->World->Prop:=
 bodyPost P fn λe a=>∃g,e= .returned (val g)/\φ g/\Chg p.fp w0 a/\(q g).holds a/\∀k,(q g).fp k->p.fp k\/w0.heap.size<=k
theorem Zqf   {c:Code}    {G:Type} {φ:G->Prop} {val:G->Value} {q:G->Pc} {N:Nat}
  (V:P.funcs[f]? = some fn) (S:fn.body=some c) (R:fn.ntmps=N) (n:Nat.ble vs.length N=true) (B:AllRo pre)
  (h:∀w0 (sc:Nat->Prop),(∀k,w0.heap.size<=k->sc k)->(∀k,sc k->w0.heap.size<=k\/p.fp k\/∃q∈pre,q.fp k)->
   E P N sc c (Yjj P fn w0 p φ val q) (Qf 0 vs) ((0,Zt w0 p.fp)::(1,p)::Yg 2 pre)) :
  Yjo P f vs.toArray pre p φ val q:=λw D s=>by
 refine calls_of_wp V S (h w (λk=>w.heap.size<=k\/p.fp k\/∃q∈pre,q.fp k) (λk b=> .inl b) (λk b=>b) _ w ?_);have n:vs.length<=N:=by simpa using n
 have a:∀i r,lk ((0,Zt w p.fp)::(1,p)::Yg 2 pre) i=some r->(i=0/\r=Zt w p.fp)\/(i=1/\r=p)\/(i≠0/\i≠1/\r∈pre/\r.own=false):=λi r hi=>by
   by_cases l:0=i
   .subst l;rw [Zm]at hi;cases hi;exact .inl ⟨rfl,rfl⟩
   .rw [Zh l]at hi;by_cases g:1=i
    .subst g;rw [Zm]at hi;cases hi;exact .inr (.inl ⟨rfl,rfl⟩)
    .rw [Zh g]at hi;obtain⟨_,d⟩:=Ot pre 2 i r hi;exact .inr (.inr ⟨λe=>l e.symm,λe=>g e.symm,d,B.mem r d⟩)
 refine⟨by simp [R];omega,rfl,λt v Y=>?_,λi r hi=>?_,λi j r F y hi W z k b m=>?_,λi r u hi k b=>?_⟩
 .have g:vs.toArray[t]? = some v:=by simpa using(Hu vs 0 t v Y).2
  have x:=(aO.1 g).1;rw [bK,eQ x,g];rfl
 .rcases a i r hi with⟨_,rfl⟩|⟨_,rfl⟩|⟨_,_,d,_⟩
  .exact Chg.refl _ w
  .exact s
  .exact(D r d).1
 .rcases a i r hi with⟨_,rfl⟩|⟨g,rfl⟩|⟨_,_,d,o⟩
  .cases z
  .rcases a j F W with⟨_,rfl⟩|⟨I,rfl⟩|⟨_,_,d,_⟩
   .exact m.2 b
   .exact y (g.trans I.symm)
   .exact(D F d).2 k b m
  .rw [o]at z;cases z
 .rcases a i r hi with⟨l,_⟩|⟨_,rfl⟩|⟨_,_,d,_⟩
  .exact absurd l u
  .exact .inr (.inl b)
  .exact .inr (.inr ⟨r,d,b⟩)
theorem Zuq    {G:Type} {φ:G->Prop} {val:G->Value} {q:G->Pc}  {e:Exit} (B:e= .ret\/e= .normal) (u:∀k,sc k->w0.heap.size<=k\/p.fp k\/∃q∈pre,q.fp k)
  (g:G) {v:Value} (m:∀a w,Sat N sc env H a w->(results fn a.tmps).run P w= .ok v w) (I:val g=v) (D:φ g) (i:Nat) (hi:lk H i=some (q g)) (z:lk H 0=some (Zt w0 p.fp)) (b:Nat.beq i 0=false) (d:(q g).own=true) (l:PreOk (drp i H) false pre) :
  X N sc e (Yjj P fn w0 p φ val q) env H:=λa w hs=>by
 have b:i≠0:=λe=>by subst e;simp at b
 have x:a.defers=[]/\∃v,(results fn a.tmps).run P w= .ok v w/\(∃g,Ending.returned v= .returned (val g)/\φ g/\Chg p.fp w0 w/\(q g).holds w/\∀k,(q g).fp k->p.fp k\/w0.heap.size<=k):=by
  refine⟨hs.defers,v,m a w hs,g,by rw [I],D,hs.hold 0 _ z,hs.hold i _ hi,λk y=>?_⟩;rcases u k (hs.scope i _ b hi k y)with h|h|⟨r,F,t⟩
  .exact .inr h
  .exact .inl h
  .obtain⟨j,R,_,o,_,n,_⟩:=l.mem r F;obtain⟨s,o⟩:=Hx _ _ _ _ o;exact(hs.sep i j _ R (jG s) hi o d k y (n k t)).elim
 rcases B with rfl|rfl<;>exact x
def gb{α:Type}(b:Nat)(t:TypeId)(k:Nat)(e:TypeId)(enc:α->Value)(v:Value)(xs:List α):Pc:=
 {own:=true,fp:=λc=>c=b\/v.ownBlock=some c,holds:=λw=>(box b t #[v]).holds w/\(On k e enc v xs).holds w/\v.ownBlock≠some b
  lt:=λw c h a=>by
   rcases a with rfl|a
   .exact(box c t #[v]).lt w c h.1 rfl
   .exact(On k e enc v xs).lt w c h.2.1 a
  stable:=λw l h a=>⟨(box b t #[v]).stable w l h.1 ⟨a.os,a.tape,a.output,a.size,λk g i=>a.block k g (λd=>i (λj=>d (.inl j)))⟩,
   (On k e enc v xs).stable w l h.2.1 ⟨a.os,a.tape,a.output,a.size,λk g i=>a.block k g (λd=>i (λj=>d (.inr j)))⟩,h.2.2⟩ }
end Go.Sky

