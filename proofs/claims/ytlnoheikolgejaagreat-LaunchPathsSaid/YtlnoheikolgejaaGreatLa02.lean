/- Rules, arithmetic and contracts: part 3. No conditions but those that each theorem names. -/
import Derived.Test.YtlnoheikolgejaaGreatLa01
set_option linter.all false
namespace Go.Sky
set_option maxRecDepth 20000
variable{v:Value}{R ys:List Nat}{y x:Int}{b t s:Bool}{D:Nat}{p xs:List Int}{f:FuncId}{args:Array Value}{pre:List Pc}
theorem Ze8{n:Nat}(h:n<U):tz [n]=dg U n:=by rw [<-Ec Xd [n] (by simpa using h)];simp [val]
theorem Zz8{N:Nat}{sc:Nat->Prop}{env:Xz}{H:Hp}{α:Type}{k:Nat}{e:TypeId}{enc:α->Value}{xs ys:List α}(i:Nat)(h:xs=ys)(hi:lk H i=some (Pt k e enc v xs))(c:Nat.beq i 0=false) :
  ∀a w,Sat N sc env H a w->Sat N sc env ((i,Pt k e enc v ys)::H) a w:=by
 subst h;exact Zl0 i hi rfl (λw h=>h) (λb d=>d) c
theorem Zjt(R:List Nat)(j:Nat)(a:j<=R.length):val U R=val U (R.take j)+U^j*val U (R.drop j):=by have:=Mo U (R.take j) (R.drop j);rw [fC,aU,dM a]at this;exact this
theorem Zho(g:∀d∈R,d<U)(j:Nat)(e:j<=R.length):val U (R.take j)=val U R%U^j/\val U (R.drop j)=val U R/U^j:=by
 have c:=Zjt R j e;have a:=Zhn Xf (R.take j) (λd h=>g d (fJ h));rw [aU,dM e]at a;have i:0<U^j:=bQ Xf;constructor
 .rw [c,iL,iM,aW a]
 .rw [c,iL,gQ i,dB a,fK]
theorem Zdo(e:∀d∈R,d<U){n:Nat}(g:n<=R.length)(h:val U R<U^n):val U (R.drop n)=0/\val U (R.take n)=val U R:=by obtain⟨a,c⟩:=Zho e n g;rw [c,a,aW h];exact⟨dB h,rfl⟩
theorem Yfj(c:∀d∈R,d<U){j n:Nat}(g:j+n<=R.length)(h:val U R<U^(j+n)):tz ((R.drop j).take n)=dg U (val U R/U^j):=by have a:∀d∈R.drop j,d<U:=λd a=>c d (kI a);rw [<-(Zho c j O).2,<-Ec Xd _ (λd e=>a d (fJ e))];congr 1;refine(Zdo a (by rw [eJ];omega) ?_).2;rw [(Zho c j O).2,cF (bQ Xf),<-bK,iL];exact h
theorem Znx(c:∀d∈R,d<U)(e:∀d∈ys,d<U)(lo:Nat):∀d∈spl R lo ys,d<U:=λd a=>by
 simp only [spl,cS]at a;rcases a with(a|a)|a
 .exact c d (fJ a)
 .exact e d a
 .exact c d (kI a)
theorem Zn8(L:Nat)(ys:List Nat):val U (spl (List.replicate L 0) 0 ys)=val U ys:=by simp [spl,Mo,mZ,Fi]
theorem Yfr(a:∀d∈R,d<U){j n:Nat}(g:j+n<=R.length)(h:val U R<U^(j+n))(i:ys.length<=n) :
  val U (spl (spl R j (List.replicate n 0)) j ys)=val U R%U^j+U^j*val U ys:=by
 have c:(spl R j (List.replicate n 0)).take j=R.take j:=by simp only [spl,dV];rw [eZ (by rw [aU];omega),jU,Nat.min_self]
 have e:(spl R j (List.replicate n 0)).drop (j+ys.length)=List.replicate (n-ys.length) 0 ++ R.drop (j+n):=by simp only [spl,dV,aV];rw [<-List.drop_drop,List.drop_left' (by rw [aU];omega),fW (by rw [aV];exact i),mZ]
 rw [spl,c,e,Mo,Mo,Mo,Fi,(Zdo a g h).1,(Zho a j O).1,aU,dM O];simp
theorem Yg8{y b k:Nat}(d:0<y)(l:k=(dg U y).length)(r:b=64-bl ((dg U y).getD (k-1) 0)):(dg U (y*2^b)).length=k/\2^b*U^k<=y*2^b*U*2^b/\1<=k/\y*2^b<U^k/\b<=63/\U^(k-1)*9223372036854775808<=y*2^b:=by
 obtain⟨m,n,g,o⟩:=Zts d;rw [<-l]at m n g o;obtain⟨h,q⟩:=Znq d;have i:=Dd y;have e:bl y+b=64*k:=O;have c:y*2^b<U^k:=by rw [Zbo,<-e,bK];exact eD i (dO b)
 have a:U^(k-1)*9223372036854775808<=y*2^b:=by
  have:U^(k-1)*9223372036854775808=2^(bl y-1)*2^b:=by rw [Zbo,<-bK,show 9223372036854775808=2^63 from rfl,<-bK];congr 1;omega
  rw [this];exact aM _ h
 have j:U^k=U^(k-1)*U:=by rw [<-cC];congr 1;omega
 refine⟨?_,?_,g,c,O,a⟩
 .refine jL ((Xh Xd _ _).2 c) ?_;have:k-1<(dg U (y*2^b)).length:=(Lq Xd _ _).2 (aB (eK _ O) a);omega
 .rw [j,aR (2^b)];refine aM _ ?_;refine aM _ (aB (eK _ O) a)
theorem Ych{W k w1 a t:Nat}(c:t*U^k<=D)(g:0<t)(d:W/U^k=w1*U+a):W/D<=(w1*U+a)/t:=by have e:0<U^k:=bQ Xf;rw [<-d,aX,aR];exact Nat.div_le_div_left c (fU g e)
theorem Yfv(c:∀d∈R,d<U){j k:Nat}(m:1<=k)(h:val U R<U^(j+k+1))(n:j+k+1<=R.length):val U R/U^j/U^(k-1)=R.getD (j+k) 0*U+R.getD (j+k-1) 0:=by
 have e:∀i,R.getD i 0=val U R/U^i%U:=λi=>by
  rcases bE i R.length with hi|hi
  .have a:=(Zho c i O).2;rw [Zqh 0 R i hi]at a;simp only [val]at a;rw [<-a,jG,aW (Qw Xf c i)]
  .rw [show R.getD i 0=0 by simp [List.getD,bO hi],dB (cZ (Zhn Xf R c) (dE Xf hi))];rfl
 rw [e,e,aX,<-bK,show j+(k-1)=j+k-1 by omega];have g:val U R/U^(j+k)<U:=by rw [cF (bQ Xf),<-nD,iL (j+k)]at *;rw [iL 1]at *;exact h
 have l:val U R/U^(j+k)=val U R/U^(j+k-1)/U:=by rw [aX,<-cC];congr 2;omega
 rw [aW g,l,aR,cM]
theorem Ydk{x b k lx:Nat}(e:x<U^lx)(c:b<=63)(l:1<=k)(d:k<=lx+1)(a:U^(k-1)*9223372036854775808<=D):x*2^b<D*U^(lx+1-k):=by
 have g:x*2^b<U^lx*2^b:=eD e (dO b);have h:U^lx*2^b<=U^lx*9223372036854775808:=bD _ (by rw [show 9223372036854775808=2^63 from rfl];exact dE O c)
 have i:U^lx*9223372036854775808=U^(k-1)*9223372036854775808*U^(lx+1-k):=by rw [iK,<-bK];congr 2;omega
 have j:U^(k-1)*9223372036854775808*U^(lx+1-k)<=D*U^(lx+1-k):=aM _ a;omega
theorem Ydj{V j Q Vq N:Nat}(h:0<D)(a:Q=V/U^j/D)(i:Vq*U^(j+1)*D+V=N) :
  V%U^j+U^j*(V/U^j-D*Q)<D*U^j/\(Q+U*Vq)*U^j*D+(V%U^j+U^j*(V/U^j-D*Q))=N:=by
 have k:0<U^j:=bQ Xf;have n:=bR V k;have o:=cM V (U^j);have c:=cM (V/U^j) D;have d:=bR (V/U^j) h;have e:V/U^j-D*Q=V/U^j%D:=by rw [a];omega
 rw [e];constructor
 .have g:U^j*(V/U^j%D+1)<=U^j*D:=bD _ d;rw [gG]at g;rw [aR D];omega
 .rw [<-i];have l:(Q+U*Vq)*U^j*D=U^j*(D*Q)+Vq*U^(j+1)*D:=by
   rw [bI,bI,cC];congr 1
   .rw [aR Q,cT,aR Q]
   .rw [aR U Vq,cT Vq,aR U]
  have m:U^j*(D*Q)+U^j*(V/U^j%D)=U^j*(V/U^j):=by rw [<-gG,a,c]
  omega
def sg(s:Bool)(x:Int):Prop:=(s=true->x<=0)/\(s=false->0<=x)
theorem sg_neg(h:sg s x):sg (!s) (-x):=by cases s<;>simp [sg]at*<;>omega
theorem sg_mul(hs:sg s x)(a:sg t y):sg (s != t) (x*y):=by
 cases s<;>cases t<;>simp [sg]at *
 .exact dI hs a
 .exact gK hs a
 .exact gL hs a
 .exact Int.mul_nonneg_of_nonpos_of_nonpos hs a
theorem Zw1(h:(((dg U x.natAbs).length:Nat):Int)=0):Value.int .i64 x.sign= .int .i64 0:=by have a:=(Og Xd x.natAbs).1 O;have:x=0:=O;subst this;rfl
theorem Zzw(hs:sg s x)(a:s=true)(h:¬(((dg U x.natAbs).length:Nat):Int)=0):Value.int .i64 x.sign= .int .i64 (-1):=by have c:¬x.natAbs=0:=λe=>h (by rw [(Og Xd x.natAbs).2 e];rfl);have d:=hs.1 a;rw [fM O]
theorem Zzv(hs:sg s x)(a:s=false)(h:¬(((dg U x.natAbs).length:Nat):Int)=0):Value.int .i64 x.sign= .int .i64 1:=by have c:¬x.natAbs=0:=λe=>h (by rw [(Og Xd x.natAbs).2 e];rfl);have d:=hs.2 a;rw [gF O]
theorem Ygc(hs:sg s x)(a:sg s y):sg s (x+y):=by cases s<;>simp [sg]at*<;>omega
theorem Ye4(hs:sg s x)(a:sg s y):(x+y).natAbs=x.natAbs+y.natAbs:=by cases s<;>simp [sg]at*<;>omega
theorem Zty(hs:sg s x)(c:sg t y)(h:s≠t)(a:y.natAbs<=x.natAbs):sg s (x+y):=by cases s<;>cases t<;>simp [sg]at*<;>omega
theorem Zrd(hs:sg s x)(c:sg t y)(h:s≠t)(a:y.natAbs<=x.natAbs):(x+y).natAbs=x.natAbs-y.natAbs:=by cases s<;>cases t<;>simp [sg]at*<;>omega
abbrev wv (x:Int):Value:= .agg #[.bool (decide (x<0)),.string (Xn x.natAbs)]
def Bx(x:Int):Int:=if 65536<bl x.natAbs then 0 else x
def Zgq(x:Int):Int:=if 65536<bl x.natAbs then 7 else 0
theorem Yi7:bl (Bx x).natAbs<=65536:=by
 unfold Bx;split
 .decide
 .omega
theorem Lr(h:bl x.natAbs<=65536):Bx x=x:=by unfold Bx;rw [aD O]
theorem Zmy(h:bl x.natAbs<=65536):Zgq x=0:=by unfold Zgq;rw [aD O]
theorem Yi6(h:65536<bl x.natAbs):Bx x=0:=by unfold Bx;rw [aF h]
theorem Yh7(h:65536<bl x.natAbs):Zgq x=7:=by unfold Zgq;rw [aF h]
abbrev Zam (x:Int):Value:= .tuple #[wv (Bx x),.int .i64 (Zgq x)]
theorem Zwp(h:((65536:Int)<((bl x.natAbs:Nat):Int))):Zam x= .tuple #[.agg #[.bool false,.string ⟨#[]⟩],.int .i64 7]:=by unfold Zam;rw [Yi6 O,Yh7 O];rfl
theorem Ztj(h:¬((65536:Int)<((bl x.natAbs:Nat):Int))):Zam x= .tuple #[wv x,.int .i64 0]:=by unfold Zam;rw [Lr O,Zmy O]
theorem Zn2(hs:sg false x)(h:¬((65536:Int)<((bl x.natAbs:Nat):Int))):Zam x= .tuple #[.agg #[.bool false,.string (Xn x.natAbs)],.int .i64 0]:=by rw [Ztj h,wv,aJ (by have:=hs.2 rfl;omega)]
theorem Zn1(hs:sg true x)(h:¬((65536:Int)<((bl x.natAbs:Nat):Int))):Zam x= .tuple #[.agg #[.bool (decide ((0:Int)<(((dg U x.natAbs).length:Nat):Int))),.string (Xn x.natAbs)],.int .i64 0]:=by have a:=hs.1 rfl;have c:=Og Xd x.natAbs;rw [Ztj h,wv,show decide (x<0)=decide ((0:Int)<(((dg U x.natAbs).length:Nat):Int))from dD.2 ⟨λh=>O,λh=>O⟩]
theorem Zx2{q r:Int}(d:y≠0)(h:x=y*q+r)(k:0<=r)(l:r<(y.natAbs:Int)):x/y=q/\x%y=r:=by
 have e:=Int.mul_ediv_add_emod x y;have i:=mG x d;have j:=Int.emod_lt x d;have c:x/y=q:=by
  have g:y*(x/y-q)=r-x%y:=by rw [oA];omega
  have a:(y*(x/y-q)).natAbs<y.natAbs:=by rw [g];omega
  rw [cJ]at a;rcases aZ (x/y-q).natAbs with h|h
  .omega
  .exact absurd (eK y.natAbs h) O
 refine⟨c,?_⟩;rw [c]at e;omega
theorem Zrq(h:sg s x):x=if s then -(x.natAbs:Int)else(x.natAbs:Int):=by cases s<;>simp [sg]at*<;>omega
theorem Zvp(hs:sg s x)(d:sg t y)(e:y≠0){Q R:Nat}(g:R<y.natAbs)(h:x=(if s then -1 else 1)*((y.natAbs:Int)*Q)+R) :
  sg (s != t) (x/y)/\(x/y).natAbs=Q/\(x%y).natAbs=R:=by
 have c:=Zrq d;have a:x/y=(if s != t then -(Q:Int)else Q)/\x%y=R:=by
  refine Zx2 e ?_ O O
  conv=>lhs;rw [h]
  conv=>rhs;rw [c]
  cases s<;>cases t<;>simp [oB,kJ]
 rw [a.1,a.2];cases s<;>cases t<;>simp [sg]
theorem divB(hs:sg s x)(h:sg t y)(i:y≠0)(g:s=false\/x.natAbs%y.natAbs=0):sg (s != t) (x/y)/\(x/y).natAbs=x.natAbs/y.natAbs/\(x%y).natAbs=x.natAbs%y.natAbs:=by
 have c:=Zrq hs;have e:=cM x.natAbs y.natAbs;refine Zvp hs h i (bR _ O) ?_;have a:((y.natAbs:Int)*((x.natAbs/y.natAbs:Nat):Int))+((x.natAbs%y.natAbs:Nat):Int)=x.natAbs:=by rw [<-fP,<-mH,e]
 rcases g with rfl|d
 .simp at c ⊢;simp at a;omega
 .rw [d]at a ⊢;cases s<;>simp at c a ⊢<;>omega
theorem divA(hs:sg true x)(a:sg t y)(c:y≠0)(g:0<x.natAbs%y.natAbs):sg (true != t) (x/y)/\(x/y).natAbs=x.natAbs/y.natAbs+1/\(x%y).natAbs=y.natAbs-x.natAbs%y.natAbs:=by
 have i:=Zrq hs;have e:=cM x.natAbs y.natAbs;have h:=bR x.natAbs (show 0<y.natAbs by omega);refine Zvp hs a c O ?_;have d:((y.natAbs:Int)*((x.natAbs/y.natAbs:Nat):Int))+((x.natAbs%y.natAbs:Nat):Int)=x.natAbs:=by rw [<-fP,<-mH,e]
 rw [Int.natCast_sub O,mH,kK];generalize ((y.natAbs:Int)*((x.natAbs/y.natAbs:Nat):Int))=P at *;generalize ((x.natAbs%y.natAbs:Nat):Int)=R at *;simp only [kG]at *;omega
def okW(b:Bool)(s:ByteArray):Bool:=if s.size=0 then !b else decide ((s.data.toList.getD 0 0).toNat≠0) && decide (s.size<=8192)
theorem bl256 (n:Nat)(k:Nat) : (dg 256 n).length<=k↔bl n<=8*k:=by rw [Zsb];omega
theorem Za3(h:bl x.natAbs<=65536):okW (decide (x<0)) (Xn x.natAbs)=true:=by
 unfold okW;rw [Fg];split
 .rename_i c;have:=(Og (by omega:2<=256) x.natAbs).1 c;simp;omega
 .rename_i c;have g:0<x.natAbs:=by
   rcases aZ x.natAbs with a|a
   .rw [a]at c;simp [Gi]at c
   .exact a
  have a:=Zq3 x.natAbs 0 O;have d:=dg_top (by omega:2<=256) g;rw [Ix O]at d;have e:=(bl256 x.natAbs 8192).2 O;rw [aP];refine⟨aN (by rw [a];simpa using d),aN e⟩
theorem Zfx{a b:ByteArray}(h:a.data.toList=b.data.toList):a=b:=by cases a;cases b;simp at h;rw [h]
theorem Yji{s:ByteArray}(e:s.size≠0)(h:(s.data.toList.getD 0 0).toNat≠0):s=Xn (val 256 (s.data.toList.reverse.map UInt8.toNat)):=by
 have g:s.data.toList.length=s.size:=rfl;have a:∀d∈s.data.toList.reverse.map UInt8.toNat,d<256:=λd c=>by obtain⟨u,_,rfl⟩:=eQ.1 c;exact u.toNat_lt
 refine Zfx ?_;unfold Xn;rw [Ec O _ a,tz_eq]
 .simp [List.map_reverse,Function.comp_def]
 .refine .inr ?_;rw [aQ,List.length_reverse,aC,dZ,List.getElem?_reverse O];rw [show s.data.toList.length-1-(s.data.toList.length-1)=0 by omega];rw [aC]at h;cases hx:s.data.toList[0]? with
  | none=>rw [hx]at h;simp at h
  | some u=>rw [hx]at h;simpa using h
theorem Zmh{s:ByteArray}(h:okW b s=true):∃x:Int,bl x.natAbs<=65536/\b=decide (x<0)/\s=Xn x.natAbs:=by
 unfold okW at h;split at h
 .rename_i c;refine⟨0,by simp [La],?_,?_⟩
  .cases b<;>simp_all
  .refine Zfx ?_;have:s.data.toList.length=0:=c;rw [aE this];rfl
 .rename_i c;rw [aP]at h;have e:=bT h.1;have g:=bT h.2;have hs:=Yji c e;generalize val 256 (s.data.toList.reverse.map UInt8.toNat)=n at hs;have d:(dg 256 n).length=s.size:=by rw [hs,Fg]
  have i:0<n:=by
   rcases aZ n with h|h
   .subst h;simp [Gi]at d;omega
   .exact h
  have a:bl n<=65536:=by have:=(bl256 n 8192).1 O;omega
  cases b with
  | true=>exact⟨-(n:Int),by simpa using a,O8,by simpa using hs⟩
  | false=>exact⟨n,by simpa using a,O7,by simpa using hs⟩
def eqW(a:Bool)(s:ByteArray)(b:Bool)(t:ByteArray):Bool:=(a == b) && (s.toList == t.toList)
theorem wv_inj(h:decide (x<0)=decide (y<0))(g:Xn x.natAbs=Xn y.natAbs):x=y:=by
 have j:x.natAbs=y.natAbs:=by
  have a:(dg 256 x.natAbs).reverse.map UInt8.ofNat=(dg 256 y.natAbs).reverse.map UInt8.ofNat:=by have:=aL (λb:ByteArray=>b.data.toList) g;simpa [Xn]using this
  have c:∀n:Nat,((dg 256 n).reverse.map UInt8.ofNat).map UInt8.toNat=(dg 256 n).reverse:=λn=>by
   rw [kZ]
   conv=>rhs;rw [<-oC (dg 256 n).reverse]
   refine kV λd i=>?_;have:=Iq (by omega:2<=256) n d (List.mem_reverse.1 i);simp [UInt8.toNat_ofNat',aW this]
  have e:=aL (List.map UInt8.toNat) a;rw [c,c]at e;exact(Zk9 (by omega:2<=256)).1 (List.reverse_inj.1 e)
 have a:=dD.1 h;omega
theorem Yic{a:Bool}{s t:ByteArray} : eqW a s b t=true↔a=b/\s=t:=by unfold eqW;rw [aP,ByteArray.toList_eq,ByteArray.toList_eq,lC,lC];exact⟨λh=>⟨h.1,Zfx h.2⟩,λh=>⟨h.1,by rw [h.2]⟩⟩
theorem Yc7(x y:Int):eqW (decide (x<0)) (Xn x.natAbs) (decide (y<0)) (Xn y.natAbs)=decide (x=y):=by rw [Bool.eq_iff_iff,Yic,fH];exact⟨λh=>wv_inj h.1 h.2,λh=>by rw [h];exact⟨rfl,rfl⟩⟩
theorem Nb:sg (decide (x<0)) x:=by unfold sg;simp;omega
def Fq(x y:Int):bl (x+y).natAbs<=max (bl x.natAbs) (bl y.natAbs)+1:=
 aB (Mj (lN x y)) bl_add
theorem Xg(x y:Int):bl (x*y).natAbs<=bl x.natAbs+bl y.natAbs:=by rw [cJ];exact Zs8 _ _
theorem Zhh(x y:Int):bl (x-y).natAbs<=max (bl x.natAbs) (bl y.natAbs)+1:=by have:=Fq x (-y);rwa [iF,<-gM]at this
theorem Zs6(x:Int):bl (-x).natAbs=bl x.natAbs:=by rw [iF]
theorem Zhi(x y:Int):bl (x/y).natAbs<=bl x.natAbs+1:=by have h:(x/y).natAbs<=x.natAbs:=lK x y;have:=Mj h;omega
theorem Zwf(x y:Int)(a:y≠0):bl (x%y).natAbs<=bl y.natAbs:=by have c:=mG x a;have d:=Int.emod_lt x a;exact Mj O
theorem Zns(x y:Nat):bl (Nat.gcd x y)<=max (bl x) (bl y):=by
 rcases aZ x with h|h
 .subst h;rw [Nat.gcd_zero_left];omega
 .have:=Mj (lT h (mA x y));omega
def Ygb(x:Int)(h:y≠0):sg false (x%y):=⟨λa=>Bool.noConfusion a,λ_=>mG x h⟩
def Nu(x y:Int):Int:=if y<0 then -(Int.gcd x y:Int)else(Int.gcd x y:Int)
theorem Za6(x y:Int):(Nu x y).natAbs=Nat.gcd x.natAbs y.natAbs:=by unfold Nu;split<;>simp [Int.gcd]
theorem Yhn(h:y≠0):Nu x y≠0:=λe=>by have a:=Za6 x y;rw [e]at a;have:=(Nat.gcd_eq_zero_iff.1 a.symm).2;omega
theorem Yf9(a:sg t y)(c:y≠0):sg t (Nu x y):=by
 unfold Nu sg at *;refine⟨λh=>?_,λh=>?_⟩
 .rw [aF (by have:=a.1 h;omega)];omega
 .rw [aD (by have:=a.2 h;omega)];omega
theorem Zuw(x y:Int):Gs v (Nat.gcd x.natAbs y.natAbs)=Gs v (Nu x y).natAbs:=by rw [Za6]
def Ld(x y:Int):Prop:=65536<bl (x/Nu x y).natAbs\/65536<bl (y/Nu x y).natAbs
instance (x y:Int):Decidable (Ld x y):=by unfold Ld;infer_instance
def Hi(x y:Int):Int:=if Ld x y then 0 else x/Nu x y
def Ij(x y:Int):Int:=if Ld x y then 0 else y/Nu x y
def Yao(x y:Int):Int:=if Ld x y then 7 else 0
abbrev Am (x y:Int):Value:= .tuple #[.agg #[.bool (decide (Hi x y<0)),.string (Xn (Hi x y).natAbs),.bool (decide (Ij x y<0)),.string (Xn (Ij x y).natAbs)],.int .i64 (Yao x y)]
theorem Al(h:Ld x y):Am x y= .tuple #[.agg #[.bool false,.string ⟨#[]⟩,.bool false,.string ⟨#[]⟩],.int .i64 7]:=by unfold Am Hi Ij Yao;rw [aF h,aF h,aF h];rfl
theorem Ct(h:Zgq x≠0):65536<bl x.natAbs:=by
 unfold Zgq at h;split at h
 .assumption
 .exact absurd rfl h
theorem Zg9(h:Zgq x=0):bl x.natAbs<=65536:=by
 unfold Zgq at h;split at h
 .omega
 .omega
theorem Zo1(c:Zgq (x/Nu x y)=0)(d:Zgq (y/Nu x y)=0):Am x y= .tuple #[.agg #[.bool (decide (Bx (x/Nu x y)<0)),.string (Xn (Bx (x/Nu x y)).natAbs),.bool (decide (Bx (y/Nu x y)<0)),.string (Xn (Bx (y/Nu x y)).natAbs)],.int .i64 0]:=by
 have a:¬Ld x y:=λh=>by have:=Zg9 c;have:=Zg9 d;unfold Ld at h;omega
 unfold Am Hi Ij Yao;rw [aD a,aD a,aD a,Lr (Zg9 c),Lr (Zg9 d)]
def okR(b:Bool)(s:ByteArray)(c:Bool)(t:ByteArray):Bool:=okW b s && okW c t && (!c && decide (0<t.size))
theorem Zmb(z:Int):(!decide (z<0) && decide (0<(Xn z.natAbs).size))=decide (0<z):=by rw [Bool.eq_iff_iff,aP,Fg,fH,fH];have:=Og (by omega:2<=256) z.natAbs;simp only [fY,iG];omega
theorem Ak(z:Int):decide (0<z.sign)=decide (0<z):=by
 rw [dD];rcases jV z 0 with h|h|h
 .rw [fM h];omega
 .subst h;simp
 .rw [gF h];omega
theorem Zpi{s:ByteArray}{z:Int}(a:okW b s=true)(c:bl z.natAbs<=65536):okR b s (decide (z<0)) (Xn z.natAbs)=decide (0<z.sign):=by unfold okR;rw [a,Za3 c,Zmb,Ak];rfl
theorem okR_wv(c:bl x.natAbs<=65536)(d:bl y.natAbs<=65536)(a:0<y):okR (decide (x<0)) (Xn x.natAbs) (decide (y<0)) (Xn y.natAbs)=true:=by unfold okR;rw [Za3 c,Za3 d,Zmb];simp [a]
theorem Ya9{c:Bool}{s t:ByteArray}(h:okR b s c t=true):∃x y:Int,bl x.natAbs<=65536/\bl y.natAbs<=65536/\0<y/\b=decide (x<0)/\s=Xn x.natAbs/\c=decide (y<0)/\t=Xn y.natAbs:=by unfold okR at h;rw [aP,aP]at h;obtain⟨⟨d,e⟩,a⟩:=h;obtain⟨x,g,rfl,rfl⟩:=Zmh d;obtain⟨y,i,rfl,rfl⟩:=Zmh e;rw [Zmb]at a;exact⟨x,y,g,i,bT a,rfl,rfl,rfl,rfl⟩
open Go.RowKit Below
def Sz(n:Nat)(p:List Int):Prop:=∀i,bl (cf p i).natAbs<=n
def Sz.getD{n:Nat}(h:Sz n p)(i:Nat):bl (p.getD i 0).natAbs<=n:=h i
def Sz.mono{n m:Nat}(h:Sz n p)(a:n<=m):Sz m p:=λi=>aB (h i) a
theorem Sz.tzl{n:Nat}(h:Sz n p):Sz n (tzl p):=λi=>by rw [Lt];exact h i
theorem Sz.nil(n:Nat):Sz n []:=λi=>by simp [cf,La]
theorem Sz.take{n:Nat}(h:Sz n p)(k:Nat):Sz n (p.take k):=λi=>by
 rw [Gj];split
 .exact h i
 .simp [La]
theorem Sz.mem{n:Nat}(h:Sz n p)(a:x∈p):bl x.natAbs<=n:=by obtain⟨i,hi,rfl⟩:=eA.1 a;have:=h i;rwa [Zbk hi]at this
theorem Sz.of_mem{n:Nat}(h:∀x∈p,bl x.natAbs<=n):Sz n p:=λi=>by
 rcases bE i p.length with hi|hi
 .rw [Zbk hi];exact h _ (eX hi)
 .rw [Yl hi];simp [La]
structure Vp (p:List Int):Prop where
 sz:Sz 65536 p
 tr:Tr p
 len:p.length<=25
def wr(x:Int):Bool×ByteArray:=(decide (x<0),Xn x.natAbs)
def okP(r:List (Bool×ByteArray)):Bool:=r.all (λw=>okW w.1 w.2) && (decide (r.length<=25) && (decide (r.length=0) || decide ((r.getD (r.length-1) (false,⟨#[]⟩)).2.size≠0)))
theorem Zdg : (Xn x.natAbs).size=0↔x=0:=by rw [Fg];have:=Og (by omega:2<=256) x.natAbs;omega
theorem Za9{i:Nat}(h:i<xs.length):(xs.map wr).getD i (false,⟨#[]⟩)=wr (cf xs i):=by rw [Zbk h];simp [List.getD,h]
theorem okP_wr(h:Vp xs):okP (xs.map wr)=true:=by
 unfold okP;rw [aP,aP,mI];refine⟨bW.2 λw e=>?_,by simpa using h.len,?_⟩
 .obtain⟨x,g,rfl⟩:=eQ.1 e;exact Za3 (h.sz.mem g)
 .rcases h.tr with a|a
  .left;simp [a]
  .right;have i:0<xs.length:=by
    rcases aZ xs.length with c|c
    .rw [Yl O]at a;exact absurd rfl a
    .exact c
   rw [aQ,Za9 O];refine aN λd=>a (Zdg.1 d)
theorem Zph{r:List (Bool×ByteArray)}(h:∀w∈r,okW w.1 w.2=true):∃xs:List Int,(∀x∈xs,bl x.natAbs<=65536)/\r=xs.map wr:=by
 induction r with
 | nil=>exact⟨[],O7,rfl⟩
 | cons w r k=>
  obtain⟨xs,c,d⟩:=k λu i=>h u (bJ _ i);obtain⟨x,j,e,g⟩:=Zmh (h w (bX ..));refine⟨x::xs,λy a=>?_,?_⟩
  .rcases bG.1 a with rfl|a
   .exact j
   .exact c y a
  .rw [bN,<-d,wr,<-e,<-g]
theorem okP_ex{r:List (Bool×ByteArray)}(h:okP r=true):∃xs:List Int,Vp xs/\r=xs.map wr:=by
 unfold okP at h;rw [aP,aP,mI]at h;obtain⟨d,e,a⟩:=h;obtain⟨xs,g,rfl⟩:=Zph (bW.1 d);refine⟨xs,⟨Sz.of_mem g,?_,by simpa using e⟩,rfl⟩;rcases a with a|a
 .left;exact aE (by simpa using a)
 .rcases aZ xs.length with c|c
  .left;exact aE c
  .right;rw [aQ,Za9 O]at a;exact λi=>bT a (Zdg.2 i)
theorem Zrj{k j:Nat}(h:j<k)(a:(xs.take k).getD j 0=0):cf xs j=0:=by rw [Zb7 _ _ _ _ h]at a;exact a
theorem Zob (k:Nat){j:Nat}(h:j<k)(a:¬((xs.take k).getD j 0).sign=0):cf xs j≠0:=λe=>a (by rw [Zb7 _ _ _ _ h];rw [show xs.getD j 0=0 from e];rfl)
theorem Yg6{r:List (Bool×ByteArray)}{w:Bool×ByteArray}(a:w∈r)(h:okW w.1 w.2=false):okP r=false:=by unfold okP;rw [show r.all (λw=>okW w.1 w.2)=false from nU.2 ⟨w,a,by simp [h]⟩];rfl
theorem Zmi(h:∀x∈xs,bl x.natAbs<=65536):okP (xs.map wr)=(decide (xs.length<=25) && (decide (xs.length=0) || decide (¬(xs.getD (xs.length-1) 0).sign=0))):=by
 unfold okP;rw [show(xs.map wr).all (λw=>okW w.1 w.2)=true from bW.2 λw c=>by obtain⟨x,d,rfl⟩:=eQ.1 c;exact Za3 (h x d)]
 rw [aQ,lW];congr 1;by_cases a:xs.length=0
 .simp [a]
 .rw [aJ a,nE,nE,Za9 O];rw [dD,gN];exact not_congr Zdg
def err(e x:Int):Int:=if e=0 then Zgq x else e
theorem Zsk(h:bl x.natAbs<=65536):err 0 x=0:=by unfold err;rw [aF rfl,Zmy h]
def Qk:List Int->Nat
 | []=>0
 | x::r=>max (bl x.natAbs) (Qk r)
theorem Lf(p:List Int):Sz (Qk p) p:=by
 refine Sz.of_mem λx a=>?_
 induction p with
 | nil=>cases a
 | cons y r c=>
  rcases bG.1 a with rfl|h
  .simp only [Qk];omega
  .have:=c h;simp only [Qk];omega
theorem Pd{n:Nat}(h:Sz n p):Qk p<=n:=by
 have c:∀x∈p,bl x.natAbs<=n:=λx a=>h.mem a;clear h
 induction p with
 | nil=>exact bB _
 | cons y r d=>
  have:=c y (bX ..);have:=d λx a=>c x (bJ _ a);simp only [Qk];omega
theorem Ybh(p:List Int)(x:Int):Qk (p ++ [x])=max (Qk p) (bl x.natAbs):=by
 induction p with
 | nil=>simp [Qk]
 | cons y r a=>simp only [eW,Qk,a];omega
variable {P:Program} {N:Nat} {sc:Nat->Prop} {env env':Xz} {H H':Hp} {Q Q':Exit->Act->World->Prop} {M:Nat->Prop}
theorem fpm{α β:Type}{f:α->β}{xs:List α}{p:Prop}(h:xs.map f≠[]/\p):xs≠[]/\p:=⟨λe=>h.1 (by rw [e];rfl),h.2⟩
def fpn{α β:Type}{f:α->β}{xs:List α}{p:Prop}(h:xs≠[]/\p):xs.map f≠[]/\p:=⟨λe=>h.1 (List.map_eq_nil_iff.1 e),h.2⟩
theorem slp_wr(v:Value)(xs:List Int)(w:World)(h:(Yg 2 wv v xs).holds w):(Yg 2 (λw:Bool×ByteArray=>Value.agg #[.bool w.1,.string w.2]) v (xs.map wr)).holds w:=by
 obtain⟨⟨a,c,k,l,m,d⟩,o⟩:=h;refine⟨⟨a,c,by rw [aQ];exact k,by rw [aQ];exact l,m,?_⟩,λb h=>o b (fpm h)⟩;rcases d with d|⟨g,e,d,n⟩
 .left;rw [d];rfl
 .right;refine⟨g,e,d,λi x hi j u q=>?_⟩;rw [dZ]at hi;cases hx:xs[i]? with
  | none=>rw [hx]at hi;cases hi
  | some y=>rw [hx]at hi;cases hi;exact n i y hx j u q
theorem Yf6(v:Value)(xs:List Int)(w:World)(h:(Yg 2 (λw:Bool×ByteArray=>Value.agg #[.bool w.1,.string w.2]) v (xs.map wr)).holds w):(Yg 2 wv v xs).holds w:=by
 obtain⟨⟨a,c,k,l,m,d⟩,o⟩:=h;rw [aQ]at k l;refine⟨⟨a,c,k,l,m,?_⟩,λb h=>o b (fpn h)⟩;rcases d with d|⟨g,e,d,n⟩
 .left;simpa using d
 .right;refine⟨g,e,d,λi x hi j u q=>?_⟩;exact n i (wr x) (by rw [dZ,hi];rfl) j u q
theorem Cal.imp{p q:Pc}{al:Bool}{G:Type}{φ:G->Prop}{val:G->Value}{i:G->List Pc}(h:Cal P f args (p::pre) al φ val i)(F:∀w,q.holds w->p.holds w)(z:∀b,p.fp b->q.fp b) :
  Cal P f args (q::pre) al φ val i:=λw l=>by
 refine(h w λr a=>?_).mono ?_
 .rcases bG.1 a with rfl|a
  .exact F w (l q (bX ..))
  .exact l r (bJ _ a)
 .rintro e S ⟨g,u,B,j,c⟩;refine⟨g,u,B,j,λI k=>?_⟩;obtain⟨m,n,o⟩:=c I k;refine⟨m,n,λb j=>?_⟩;rcases o b j with h|⟨h,r,a,d⟩
  .exact .inl h
  .refine .inr ⟨h,?_⟩;rcases bG.1 a with rfl|a
   .exact⟨q,bX ..,z b d⟩
   .exact⟨r,bJ _ a,d⟩
end Go.Sky
namespace Go.Sky
variable{f:Nat->Int}{m:Nat}{xs:List Int}
def fill(n k:Nat)(f:Nat->Int):List Int:=mk n λi=>if i<k then f i else 0
def Ql(n k:Nat)(f:Nat->Int):(fill n k f).length=n:=Yo _ _
theorem Zbb{n k:Nat}(h:k<n):(fill n k f).set k (f k)=fill n (k+1) f:=Lg (by simp [Ql]) λi hi=>by
 rw [cI,Ql]at hi;rw [Zjk (by rw [Ql];exact h)];unfold fill;rw [Mh,Mh,aF hi,aF hi];by_cases b:i=k
 .subst b;rw [aF rfl,aF O]
 .rw [aD b];by_cases a:i<k
  .rw [aF a,aF O]
  .rw [aD a,aD O]
theorem Di(n:Nat)(f:Nat->Int):List.replicate n 0=fill n 0 f:=Lg (by simp [Ql]) λi hi=>by rw [aV]at hi;unfold fill;rw [Mh,aF hi,aD O,Zbk (by simpa using hi)];simp
theorem Gh(n:Nat)(f:Nat->Int):fill n n f=mk n f:=Il λi hi=>by rw [aF hi]
theorem Ybj(xs:List Int)(g:Int->Int):mk xs.length (λi=>g (cf xs i))=xs.map g:=Lg (by simp [Yo]) λi hi=>by rw [Yo]at hi;rw [Mh,aF hi,Zbk hi,Zbk (p:=xs.map g) (by simpa using hi)];simp
theorem Zei{n:Nat}(h:∀i,i<n->bl (f i).natAbs<=m):Sz m (mk n f):=λi=>by
 rw [Mh];split
 .exact h i ‹_›
 .simp [La]
theorem Ov{p:List Int}(h:Tr p):Tr (Ys p):=by
 unfold Ys;rcases bE 1 p.length with a|a
 .right;rw [Yo,Mh,aF O];have c:=h.mem (by intro e;rw [e]at a;simp at a);rw [show p.length-1-1+1=p.length-1 by omega];intro d;rcases eU.1 d with b|b
  .exact c b
  .omega
 .left;exact aE (by rw [Yo];omega)
theorem Zxb(xs:List Int)(c:Int):tzl (fill xs.length xs.length λi=>cf xs i*c)=Yf xs c:=by rw [Gh,Ybj xs (· * c)];rfl
theorem Yg1(h:Tr xs):tzl (fill (xs.length-1) (xs.length-1) λi=>cf xs (i+1)*((i:Int)+1))=Ys xs:=by rw [Gh];exact Cw (Ov h)
theorem Ya4{p:List Int}(h:p.length=0):Ys p=[]:=aE (by unfold Ys;rw [Yo];omega)
theorem Zig(p:List Int)(x:Int):Xb (p ++ [x])=(Int.gcd (Xb p) x:Int):=by unfold Xb;rw [List.foldl_append];rfl
theorem Ni(p:List Int):0<=Xb p:=by
 rcases Zgx p with rfl|⟨a,y,rfl⟩
 .exact fV _
 .rw [Zig];omega
theorem Lz{p:List Int}{k:Nat}(h:k<p.length):Xb (p.take (k+1))=(Int.gcd (Xb (p.take k)) (p.getD k 0):Int):=by rw [Qb 0 _ h,Zig]
theorem Zpe{n:Nat} : ∀(p:List Int),Sz n p->bl (Xb p).natAbs<=n:=λp=>by
 have a:∀k,k<=p.length->Sz n p->bl (Xb (p.take k)).natAbs<=n:=by
  intro k
  induction k with
  | zero=>intro _ _;rw [dY];exact bB _
  | succ k d=>
   intro c hs;rw [Lz c];have e:=d O hs;have b:=hs k;have:=Zns (Xb (p.take k)).natAbs (p.getD k 0).natAbs;have g:bl (p.getD k 0).natAbs<=n:=b;show bl (Nat.gcd _ _)<=n;omega
 intro hs;have:=a p.length (aK _) hs;rwa [bM]at this
theorem Ma(p:List Int):∀i,Xb p∣cf p i:=by
 have a:∀k,k<=p.length->∀i,i<k->Xb (p.take k)∣cf p i:=by
  intro k
  induction k with
  | zero=>intro _ i hi;omega
  | succ k c=>
   intro b i hi;rw [Lz b];rcases bE i k with h|h
   .exact gX (kF ..) (c O i h)
   .have:i=k:=O;subst this;exact iS ..
 intro i;rcases bE i p.length with h|h
 .have:=a p.length (aK _) i h;rwa [bM]at this
 .rw [Yl h];exact jC _
theorem Za1(p:List Int):Xb p=0↔∀i,cf p i=0:=by
 refine⟨λh i=>by have:=Ma p i;rw [h]at this;exact Int.zero_dvd.1 this,λh=>?_⟩;have a:∀k,k<=p.length->Xb (p.take k)=0:=by
  intro k
  induction k with
  | zero=>intro _;rfl
  | succ k c=>
   intro b;rw [Lz b,c O];have:=h k;rw [show p.getD k 0=0 from this];rfl
 have:=a p.length (aK _);rwa [bM]at this
theorem Fb{p:List Int}{d:Int}(h:∀i,d∣cf p i):d∣Xb p:=by
 have a:∀k,k<=p.length->d∣Xb (p.take k):=by
  intro k
  induction k with
  | zero=>intro _;exact jC _
  | succ k c=>
   intro b;rw [Lz b];exact Int.dvd_coe_gcd (c O) (h k)
 have:=a p.length (aK _);rwa [bM]at this
theorem Aa(p:List Int)(i:Nat):cf (Yi p) i=cf p i/Xb p:=by unfold Yi;rw [Zbj O7]
theorem Zw(p:List Int):(Yi p).length=p.length:=by simp [Yi]
theorem Ax{x y:Int}{n:Nat}(h:y∣x)(b:bl x.natAbs<=n):bl (x/y).natAbs<=n:=by have a:(x/y).natAbs<=x.natAbs:=lK x y;exact aB (Mj a) b
theorem Yy{p:List Int}(h:Tr p):Tr (Yi p):=by
 rcases h with rfl|h
 .left;rfl
 .right;rw [Aa,Zw];intro a;have b:=Ma p (p.length-1);have:=kL b;rw [a,dS]at this;exact h this.symm
theorem Fs{n:Nat}{p:List Int}(h:Sz n p):Sz n (Yi p):=λi=>by rw [Aa];exact Ax (Ma p i) (h i)
theorem Lv{p:List Int}(h:Vp p):Vp (Yi p):=⟨Fs h.sz,Yy h.tr,by rw [Zw];exact h.len⟩
def Vp.ne{p:List Int}(h:Vp p)(a:p≠[]):Xb p≠0:=λe=>h.tr.mem a ((Za1 p).1 e _)
def Lj(p:List Int)(n d:Int)(i:Nat):Int:=Yb (λm=>cf p (i+m)*(n^m*d^(p.length-1-(i+m)))) (p.length-i)
theorem Zp4(p:List Int)(n d:Int):Lj p n d 0=pev p n d:=by unfold Lj pev;simp only [bP,jB]
theorem Yh0{p:List Int}(n d:Int)(h:0<p.length):Lj p n d (p.length-1)=cf p (p.length-1):=by unfold Lj;rw [show p.length-(p.length-1)=0+1 by omega,Yk,Kn];simp
theorem Ycd{p:List Int}(n d:Int){i:Nat}(h:i<p.length):Lj p n d i=Lj p n d (i+1)*n+cf p i*d^(p.length-1-i):=by
 unfold Lj;rw [show p.length-i=p.length-(i+1)+1 by omega,Nm];rw [<-Zht];have:Yb (λm=>cf p (i+(m+1))*(n^(m+1)*d^(p.length-1-(i+(m+1))))) (p.length-(i+1))=Yb (λm=>cf p (i+1+m)*(n^m*d^(p.length-1-(i+1+m)))*n) (p.length-(i+1)):=
  Yq λm a=>by rw [show i+(m+1)=i+1+m by omega,dX];grind
 rw [this];simp only [fK,cW,fA];omega
theorem Yei{K:Nat}{f:Nat->Int} : ∀{n:Nat},(∀i,i<n->bl (f i).natAbs<=K)->(Yb f n).natAbs<=n*(2^K-1)
 | 0,_=>by simp [Yb]
 | n+1,h=>by have b:=Yei (n:=n) λi hi=>h i O;have a:=(Qg K _).1 (h n O);rw [Yk,bI];have:=lN (Yb f n) (f n);omega
theorem Zhg{K:Nat}{n:Nat}(h:∀i,i<n->bl (f i).natAbs<=K)(a:n<=31):bl (Yb f n).natAbs<=K+5:=by rw [Qg];have b:=Yei h;have c:n*(2^K-1)<=31*(2^K-1):=aM _ a;have d:0<2^K:=dO K;rw [bK];omega
theorem De(x:Int){m:Nat}(h:bl x.natAbs<=m):∀k,0<k->bl (x^k).natAbs<=k*m
 | 0,a=>O
 | 1,_=>by rw [dX,cW,fA,mW];exact h
 | k+2,_=>by have b:=De x h (k+1) O;rw [dX,show k+2=(k+1)+1 from rfl,bI (k+1) 1 m];have:=Xg (x^(k+1)) x;omega
theorem Zhf (i:Nat)(j:Nat){a n d:Int}{A:Nat}(k:bl a.natAbs<=A)(h:bl n.natAbs<=m)(g:bl d.natAbs<=m):bl (a*(n^i*d^j)).natAbs<=A+(i+j)*m:=by
 rcases aZ i with rfl|hi
 .rcases aZ j with rfl|c
  .simp;exact k
  .have e:=De d g j c;have b:=Xg a (n^0*d^j);rw [cW,fA]at b ⊢;rw [bP];omega
 .rcases aZ j with rfl|c
  .have e:=De n h i hi;have b:=Xg a (n^i*d^0);rw [cW,kM]at b ⊢;rw [fK];omega
  .have e:=De n h i hi;have b:=De d g j c;have l:=Xg (n^i) (d^j);have o:=Xg a (n^i*d^j);rw [bI];omega
theorem Yek{p:List Int}{n d:Int}{A:Nat}(e:Sz A p)(c:bl n.natAbs<=m)(b:bl d.natAbs<=m)(h:p.length<=31)(i:Nat):bl (Lj p n d i).natAbs<=A+(p.length-1-i)*m+5:=by unfold Lj;refine Zhg (λk g=>?_) O;have a:=Zhf k (p.length-1-(i+k)) (e (i+k)) c b;rw [show k+(p.length-1-(i+k))=p.length-1-i by omega]at a;exact a
def Mv(p:List Int)(n d:Int):Prop:=p≠[]/\65536<Qk p+(p.length-1)*Qk [n,d]+8
instance (p:List Int) (n d:Int):Decidable (Mv p n d):=by unfold Mv;infer_instance
def evv(p:List Int)(n d:Int):Int:=if Mv p n d then 0 else pev p n d
def eve(p:List Int)(n d:Int):Int:=if Mv p n d then 7 else 0
abbrev wc (x:Int):Array Value:=#[.bool (decide (x<0)),.string (Xn x.natAbs)]
section
variable {p:List Int} {n d:Int} (hF:Qk p+(p.length-1)*Qk [n,d]+8<=65536) (hl:p.length<=25)
include hF
theorem Zgf:bl n.natAbs<=Qk [n,d]/\bl d.natAbs<=Qk [n,d]:=by simp only [Qk];omega
theorem Zm8{k:Nat} : bl (d^(p.length-1-k)).natAbs<=65536:=by
 rcases aZ (p.length-1-k)with h|h
 .rw [h,cW];decide
 .have a:=De d (Zgf hF).2 _ h;have b:(p.length-1-k)*Qk [n,d]<=(p.length-1)*Qk [n,d]:=aM _ O;omega
theorem Zm7{k:Nat} : bl (cf p k*d^(p.length-1-k)).natAbs<=65536:=by have a:=Zhf 0 (p.length-1-k) (Lf p k) (Zgf hF).1 (Zgf hF).2;have b:(0+(p.length-1-k))*Qk [n,d]<=(p.length-1)*Qk [n,d]:=aM _ O;rw [cW,fA]at a;omega
include hl
theorem Zm9(k:Nat):bl (Lj p n d k).natAbs<=65536:=by have a:=Yek (Lf p) (Zgf hF).1 (Zgf hF).2 O k;have b:(p.length-1-k)*Qk [n,d]<=(p.length-1)*Qk [n,d]:=aM _ O;omega
theorem Zsj{k:Nat}(a:1<=k)(b:k<=p.length-1):bl (Lj p n d k*n).natAbs<=65536:=by
 have c:=Yek (Lf p) (Zgf hF).1 (Zgf hF).2 O k;have e:=Xg (Lj p n d k) n;have g:=(Zgf hF).1;have h:(p.length-1-k)*Qk [n,d]+Qk [n,d]<=(p.length-1)*Qk [n,d]:=by rw [<-eF];exact aM _ O
 omega
end
theorem evv_bl{p:List Int}{n d:Int}(hl:p.length<=25):bl (evv p n d).natAbs<=65536:=by
 unfold evv;split
 .decide
 .rename_i h;rcases aZ p.length with a|a
  .rw [aE a,show pev [] n d=0 from rfl];decide
  .rw [<-Zp4];have c:p≠[]:=λe=>by rw [e]at a;simp at a
   exact Zm9 (Nat.le_of_not_lt λb=>h ⟨c,b⟩) hl 0
theorem Yax(d:Int){L k:Nat}(a:1<=k)(b:k<=L):d^(L-k)*d=d^(L-(k-1)):=by rw [show L-(k-1)=L-k+1 by omega,dX]
theorem Zxy{p:List Int}(n d:Int){k:Nat}(a:1<=k)(b:k<=p.length-1):Lj p n d k*n+cf p (k-1)*d^(p.length-1-(k-1))=Lj p n d (k-1):=by rw [Ycd n d (i:=k-1) O,show k-1+1=k by omega]
end Go.Sky
namespace Go.Sky
variable{f:Nat->Int}{q r c R:List Int}{i B t top:Nat}{a b:Int}
def acc(p q:List Int)(i t:Nat):Int:=Yb (λk=>if k<=t then cf p k*cf q (t-k)else 0) i
def Ac(p q:List Int)(i j t:Nat):Int:=acc p q i t+if i<=t/\t<i+j then cf p i*cf q (t-i)else 0
theorem Zyl(p q:List Int)(i:Nat):Ac p q i 0=acc p q i:=oF λt=>by unfold Ac;rw [aD O,fN]
theorem Ye3(p q:List Int)(i:Nat):Ac p q i q.length=acc p q (i+1):=oF λt=>by
 unfold Ac acc;rw [Yk];by_cases h:i<=t
 .rw [aF h];by_cases d:t<i+q.length
  .rw [aF ⟨h,d⟩]
  .rw [aD (λh=>d h.2),Yl (p:=q) O,dS]
 .rw [aD h,aD (λd=>h d.1)]
theorem Zip{L k:Nat}{g:Nat->Int}(j:k<L)(h:∀t,t<L->t≠k->f t=g t){x:Int}(l:x=g k):(mk L f).set k x=mk L g:=Lg (by simp [Yo]) λt e=>by
 rw [cI,Yo]at e;rw [Zjk (by rw [Yo];exact j),Mh,Mh,aF e];by_cases d:t=k
 .rw [aF d,d,l,aF j]
 .rw [aD d,aF e,h t e d]
theorem Ye2{p:List Int}{L j:Nat}(h:i+j<L):(mk L (Ac p q i j)).set (i+j) (Ac p q i j (i+j)+cf p i*cf q j)=mk L (Ac p q i (j+1)):=by
 refine Zip h (λt g e=>?_) ?_
 .unfold Ac;by_cases d:i<=t/\t<i+j
  .rw [aF d,aF O]
  .rw [aD d,aD O]
 .unfold Ac;rw [aD O,aF O,fN,show i+j-i=j by omega]
theorem Zrc(p q:List Int)(t:Nat):acc p q p.length t=(ps p*ps q).c t:=by
 rw [PS.mul_c];unfold acc;have d:Yb (λk=>if k<=t then cf p k*cf q (t-k)else 0) (max (t+1) p.length)=Yb (λk=>if k<=t then cf p k*cf q (t-k)else 0) p.length:=
  Zfd O λk d _=>by rw [Yl d,cY];split<;>rfl
 have e:Yb (λk=>if k<=t then cf p k*cf q (t-k)else 0) (max (t+1) p.length)=Yb (λk=>if k<=t then cf p k*cf q (t-k)else 0) (t+1):=
  Zfd O λk d _=>by rw [aD O]
 rw [<-d,e];exact Yq λk g=>by rw [aF O];rfl
theorem Zry(L:Nat):List.replicate L 0=mk L λ_=>0:=by rw [Di L λ_=>0];unfold fill;exact Il λi _=>by split<;>rfl
theorem Yaz(p q:List Int):tzl (mk (p.length+q.length-1) (acc p q p.length))=Qc p q:=by unfold Qc;congr 1;exact Il λi _=>Zrc p q i
theorem Yjn{p:List Int}{A j:Nat}(g:Sz A p)(l:Sz B q)(hi:i<31):bl (Ac p q i j t).natAbs<=A+B+5:=by
 have h:Ac p q i j t=Yb (λk=>if k<i then(if k<=t then cf p k*cf q (t-k)else 0)else if i<=t/\t<i+j then cf p i*cf q (t-i)else 0) (i+1):=by rw [Yk];rw [aD (Nat.lt_irrefl i)];unfold Ac acc;congr 1;exact Yq λk d=>by rw [aF d]
 rw [h];have e:∀a b,bl (cf p a*cf q b).natAbs<=A+B:=λa b=>by have:=Xg (cf p a) (cf q b);have:=g a;have:=l b;omega
 refine Zhg (λk d=>?_) O;split
 .split
  .exact e _ _
  .simp [La]
 .split
  .exact e _ _
  .simp [La]
theorem bl_acc{p:List Int}{A:Nat}(d:Sz A p)(e:Sz B q)(hi:i<=31):bl (acc p q i t).natAbs<=A+B+5:=by
 refine Zhg (λk g=>?_) hi;split
 .have:=Xg (cf p k) (cf q (t-k));have:=d k;have:=e (t-k);omega
 .simp [La]
def Cn(p q:List Int):Prop:=p≠[]/\q≠[]/\(24<p.length+q.length-2\/65536<Qk p+Qk q+5)
instance (p q:List Int):Decidable (Cn p q):=by unfold Cn;infer_instance
theorem Zb8{L:Nat}(h:i<L):(mk L f).getD i 0=f i:=by have:=Mh L f i;rw [aF h]at this;exact this
def Yiq(p q:List Int):Bool:=decide (q≠[]) && decide (p.length<q.length)
def Db(p q:List Int):Int:=if q.length=0 then 3 else if p.length<q.length then 0 else if 65536<Qk p+(p.length-q.length+1)*(Qk q+1)then 7 else 0
def Zf7(q r:List Int)(top:Nat):List Int:=
 mk r.length λt=>cf r t*cf q (q.length-1)-if top-(q.length-1)<=t/\t<top-(q.length-1)+q.length then cf r top*cf q (t-(top-(q.length-1)))else 0
def Qi(p q:List Int):Nat->List Int
 | 0=>p
 | j+1=>Zf7 q (Qi p q j) (p.length-1-j)
def Zek(q r:List Int)(top:Nat):(Zf7 q r top).length=r.length:=Yo _ _
theorem Np(p q:List Int):∀j,(Qi p q j).length=p.length
 | 0=>rfl
 | j+1=>by unfold Qi;rw [Zek,Np p q j]
def Xs(p q:List Int):List Int:=if p.length<q.length then p else tzl (Qi p q (p.length-q.length+1))
theorem Zq1(d:t<r.length):cf (Zf7 q r top) t=cf r t*cf q (q.length-1)-if top-(q.length-1)<=t/\t<top-(q.length-1)+q.length then cf r top*cf q (t-(top-(q.length-1)))else 0:=by unfold Zf7;rw [Mh,aF d]
theorem Zwd{c d:Int}{A:Nat}(j:bl a.natAbs<=A)(k:bl b.natAbs<=B)(l:bl c.natAbs<=A)(m:bl d.natAbs<=B):bl (a*b-c*d).natAbs<=A+(B+1):=by have e:=Xg a b;have g:=Xg c d;have h:=Zhh (a*b) (c*d);omega
theorem Zy8{A:Nat}(e:Sz A r)(d:Sz B q):Sz (A+(B+1)) (Zf7 q r top):=by
 unfold Zf7;refine Zei λt g=>?_;split
 .exact Zwd (e t) (d _) (e _) (d _)
 .rw [jD];have:=Xg (cf r t) (cf q (q.length-1));have:=e t;have:=d (q.length-1);omega
theorem Zfa(p q:List Int):∀j,Sz (Qk p+j*(Qk q+1)) (Qi p q j)
 | 0=>by rw [gV];exact Lf p
 | j+1=>by unfold Qi;rw [eF,<-fT];exact Zy8 (Zfa p q j) (Lf q)
def dq(q r:List Int)(k:Nat):Int:=cf r (k+q.length-1)/cf q (q.length-1)
def Zi9(q r:List Int)(k:Nat):List Int:=mk r.length λt=>cf r t-if k<=t/\t<k+q.length then dq q r k*cf q (t-k)else 0
def Qn(p q:List Int):Nat->List Int
 | 0=>p
 | j+1=>Zi9 q (Qn p q j) (p.length-q.length-j)
theorem Ba(p q:List Int):∀j,(Qn p q j).length=p.length
 | 0=>rfl
 | j+1=>by unfold Qn Zi9;rw [Yo,Ba p q j]
def Zvr(p q:List Int)(k:Nat):Int:=dq q (Qn p q (p.length-q.length-k)) k
def Kf(p q:List Int)(k:Nat):Prop:=cf (Qn p q (p.length-q.length-k)) (k+q.length-1)%cf q (q.length-1)=0
def Yaw(p q:List Int):List Int:=tzl (mk (p.length-q.length+1) (Zvr p q))
def pdivs(p q:List Int):Prop:=p=[]\/(q.length<=p.length/\(∀k,k<=p.length-q.length->Kf p q k)/\∀i,cf (Qn p q (p.length-q.length+1)) i=0)
theorem Zy9{A:Nat}(d:Sz A r)(g:Sz B q){k:Nat}(e:cf r (k+q.length-1)%cf q (q.length-1)=0):Sz (A+(B+1)) (Zi9 q r k):=by
 unfold Zi9;refine Zei λt m=>?_;split
 .have h:bl (dq q r k).natAbs<=A:=Ax (mB e) (d _);have j:=Xg (dq q r k) (cf q (t-k));have l:=Zhh (cf r t) (dq q r k*cf q (t-k));have:=d t;have:=g (t-k);omega
 .rw [jD];have:=d t;omega
theorem Zfc(p q:List Int):∀j,j<=p.length-q.length+1->(∀k,p.length-q.length<k+j->k<=p.length-q.length->Kf p q k)->Sz (Qk p+j*(Qk q+1)) (Qn p q j)
 | 0,_,_=>by rw [gV];exact Lf p
 | j+1,g,h=>by unfold Qn;rw [eF,<-fT];refine Zy9 (Zfc p q j O λk e d=>h k O d) (Lf q) ?_;have:=h (p.length-q.length-j) O O;unfold Kf at this;rw [show p.length-q.length-(p.length-q.length-j)=j by omega]at this;exact this
theorem Zym(p q:List Int)(i j:Nat):Ac p q i (j+1) (i+j)=Ac p q i j (i+j)+cf p i*cf q j:=by unfold Ac;rw [aF O,aD O,fN,show i+j-i=j by omega]
theorem Zd8{p:List Int}(h:p.length=0\/q.length=0):Qc p q=[]:=by
 unfold Qc;refine(Mc _).2 λi=>?_;rw [Mh];split
 .rw [PS.mul_c];refine Hm λk _=>?_;rcases h with h|h
  .rw [Px,Yl O,cY]
  .rw [Px,Px,Yl (p:=q) O,dS]
 .rfl
def Zgn(R:List Int)(l:Int)(i:Nat):List Int:=mk R.length λt=>if t<i then cf R t*l else cf R t
def Zjw(q R:List Int)(l c:Int)(s i:Nat):List Int:=mk R.length λt=>cf R t*l-if s<=t/\t<s+i then c*cf q (t-s)else 0
def Zpu(R:List Int)(l:Int)(i:Nat):(Zgn R l i).length=R.length:=Yo _ _
def Zpt(q R:List Int)(l c:Int)(s i:Nat):(Zjw q R l c s i).length=R.length:=Yo _ _
theorem Zxj(R:List Int)(l:Int):Zgn R l 0=R:=by unfold Zgn;refine Eq.trans (Il λi hi=>?_) (Zg6 R);rw [aD O]
theorem Ybg{l:Int}(h:i<R.length):(Zgn R l i).getD i 0=cf R i:=by unfold Zgn;rw [Zb8 h,aD O]
theorem Ybf{l:Int}(h:i<R.length):(Zgn R l i).set i (cf R i*l)=Zgn R l (i+1):=by
 unfold Zgn;refine Zip h (λt g e=>?_) (by rw [aF O]);by_cases d:t<i
 .rw [aF d,aF O]
 .rw [aD d,aD O]
theorem Zwx(q R:List Int)(l c:Int)(s:Nat):Zgn R l R.length=Zjw q R l c s 0:=by unfold Zgn Zjw;exact Il λi hi=>by rw [aF hi,aD O,jD]
theorem Zzd{l c:Int}{s:Nat}(h:s+i<R.length):(Zjw q R l c s i).getD (s+i) 0=cf R (s+i)*l:=by unfold Zjw;rw [Zb8 h,aD O,jD]
theorem Zzc{l c:Int}{s:Nat}(h:s+i<R.length):(Zjw q R l c s i).set (s+i) (cf R (s+i)*l-c*cf q i)=Zjw q R l c s (i+1):=by
 unfold Zjw;refine Zip h (λt g e=>?_) (by rw [aF O,show s+i-s=i by omega]);by_cases d:s<=t/\t<s+i
 .rw [aF d,aF O]
 .rw [aD d,aD O]
theorem rest_b{p:List Int}{j:Nat}(g:Qk p+(p.length-q.length+1)*(Qk q+1)<=65536)(h:j<p.length-q.length+1) :
  (∀t,bl (cf (Qi p q j) t).natAbs<=65536)/\(∀t i,bl (cf (Qi p q j) t*cf q i).natAbs<=65536)/\(∀t i t2 i2,bl (cf (Qi p q j) t*cf q i-cf (Qi p q j) t2*cf q i2).natAbs<=65536):=by
 have d:=Zfa p q j;have e:j*(Qk q+1)+(Qk q+1)<=(p.length-q.length+1)*(Qk q+1):=by rw [<-eF];exact aM _ O
 refine⟨λt=>by have:=d t;omega,λt i=>?_,λt i t2 i2=>?_⟩
 .have:=d t;have:=Lf q i;have:=Xg (cf (Qi p q j) t) (cf q i);omega
 .have:=Zwd (d t) (Lf q i) (d t2) (Lf q i2);omega
def Zoe{p:List Int}(d:Qk p+(p.length-q.length+1)*(Qk q+1)<=65536):Sz 65536 (Qi p q (p.length-q.length+1)):=(Zfa p q _).mono d
theorem Zb9{p:List Int}(h:Db p q=0):q.length≠0/\(q.length<=p.length->Qk p+(p.length-q.length+1)*(Qk q+1)<=65536):=by
 unfold Db at h;split at h
 .omega
 .refine⟨‹_›,λd=>?_⟩;rw [aD O]at h;split at h
  .omega
  .omega
theorem Zev{p:List Int}(h:q.length≠0):Yiq p q=decide (p.length<q.length):=by unfold Yiq;have d:q≠[]:=λe=>h (by rw [e];rfl);simp [d]
def Zj1(q R:List Int)(c:Int)(k i:Nat):List Int:=mk R.length λt=>cf R t-if k<=t/\t<k+i then c*cf q (t-k)else 0
def Zpv(q R:List Int)(c:Int)(k i:Nat):(Zj1 q R c k i).length=R.length:=Yo _ _
theorem Zx4(q R:List Int)(c:Int)(k:Nat):R=Zj1 q R c k 0:=by unfold Zj1;refine Eq.trans (Zg6 R).symm (Il λi hi=>?_);rw [aD O,jD]
theorem Ydg{c:Int}{k:Nat}(h:k+i<R.length):(Zj1 q R c k i).getD (k+i) 0=cf R (k+i):=by unfold Zj1;rw [Zb8 h,aD O,jD]
theorem Ydf{c:Int}{k:Nat}(h:k+i<R.length):(Zj1 q R c k i).set (k+i) (cf R (k+i)-c*cf q i)=Zj1 q R c k (i+1):=by
 unfold Zj1;refine Zip h (λt g e=>?_) (by rw [aF O,show k+i-k=i by omega]);by_cases d:k<=t/\t<k+i
 .rw [aF d,aF O]
 .rw [aD d,aD O]
def Zfu(p q:List Int)(j:Nat):List Int:=mk (p.length-q.length+1) λt=>if p.length-q.length<t+j then Zvr p q t else 0
def Za7(p q:List Int)(j:Nat):(Zfu p q j).length=p.length-q.length+1:=Yo _ _
theorem Zx6(p q:List Int):List.replicate (p.length-q.length+1) 0=Zfu p q 0:=by rw [Zry];unfold Zfu;exact Il λi hi=>by rw [aD O]
theorem Ydi{p:List Int}{j:Nat}(g:j<p.length-q.length+1):(Zfu p q j).set (p.length-q.length-j) (dq q (Qn p q j) (p.length-q.length-j))=Zfu p q (j+1):=by
 unfold Zfu;refine Zip O (λt h e=>?_) ?_
 .by_cases d:p.length-q.length<t+j
  .rw [aF d,aF O]
  .rw [aD d,aD O]
 .rw [aF O];unfold Zvr;rw [show p.length-q.length-(p.length-q.length-j)=j by omega]
theorem Zeu(p q:List Int):tzl (Zfu p q (p.length-q.length+1))=Yaw p q:=by unfold Zfu Yaw;congr 1;exact Il λi hi=>by rw [aF O]
def pdv(p q:List Int):Prop:=p=[]\/(q.length<=p.length/\(∀k,k<=p.length-q.length->Kf p q k)/\tzl (Qn p q (p.length-q.length+1))=[])
instance (p q:List Int) (k:Nat):Decidable (Kf p q k):=by unfold Kf;infer_instance
instance (p q:List Int):Decidable (pdv p q):=by unfold pdv;infer_instance
theorem div_b{p:List Int}{j:Nat}(n:Qk p+(p.length-q.length+1)*(Qk q+1)<=65536)(o:j<p.length-q.length+1)(h:∀k,p.length-q.length<k+j->k<=p.length-q.length->Kf p q k) :
  (∀t,bl (cf (Qn p q j) t).natAbs<=65536)/\(Kf p q (p.length-q.length-j)->bl (dq q (Qn p q j) (p.length-q.length-j)).natAbs<=65536/\(∀i,bl (dq q (Qn p q j) (p.length-q.length-j)*cf q i).natAbs<=65536)/\
   ∀t i,bl (cf (Qn p q j) t-dq q (Qn p q j) (p.length-q.length-j)*cf q i).natAbs<=65536):=by
 have d:=Zfc p q j O h;have l:j*(Qk q+1)+(Qk q+1)<=(p.length-q.length+1)*(Qk q+1):=by rw [<-eF];exact aM _ O
 refine⟨λt=>by have:=d t;omega,λe=>?_⟩;unfold Kf at e;rw [show p.length-q.length-(p.length-q.length-j)=j by omega]at e;have m:bl (dq q (Qn p q j) (p.length-q.length-j)).natAbs<=Qk p+j*(Qk q+1):=Ax (mB e) (d _);have g:∀i,bl (dq q (Qn p q j) (p.length-q.length-j)*cf q i).natAbs<=Qk p+j*(Qk q+1)+Qk q:=λi=>by have:=Xg (dq q (Qn p q j) (p.length-q.length-j)) (cf q i);have:=Lf q i;omega
 refine⟨O,λi=>by have:=g i;omega,λt i=>?_⟩;have:=Zhh (cf (Qn p q j) t) (dq q (Qn p q j) (p.length-q.length-j)*cf q i);have:=g i;have:=d t;omega
theorem Zto{p:List Int}(g:Qk p+(p.length-q.length+1)*(Qk q+1)<=65536)(e:∀k,k<=p.length-q.length->Kf p q k)(j:Nat):Sz 65536 (Zfu p q j):=by
 unfold Zfu;refine Zei λt l=>?_;split
 .have d:=(div_b g (j:=p.length-q.length-t) O (λk _ h=>e k h)).2;rw [show p.length-q.length-(p.length-q.length-t)=t by omega]at d;exact(d (e t O)).1
 .simp [La]
def Zza{p:List Int}(d:Qk p+(p.length-q.length+1)*(Qk q+1)<=65536)(g:∀k,k<=p.length-q.length->Kf p q k):Sz 65536 (Qn p q (p.length-q.length+1)):=
 (Zfc p q _ (aK _) λk _ e=>g k e).mono d
def Nk(p:List Int)(a b d:Int):Nat->List Int
 | 0=>[cf p (p.length-1)]
 | j+1=>mk ((Nk p a b d j).length+1) λt=>cf (Nk p a b d j) t*a+(if t=0 then cf p (p.length-2-j)*d^(j+1)else cf (Nk p a b d j) (t-1)*b)
def Fe(p:List Int)(a b d:Int):Nk p a b d 0=[cf p (p.length-1)]:=rfl
def Zyc(p:List Int)(a b d:Int)(j:Nat):Nk p a b d (j+1)=mk ((Nk p a b d j).length+1) (λt=>cf (Nk p a b d j) t*a+(if t=0 then cf p (p.length-2-j)*d^(j+1)else cf (Nk p a b d j) (t-1)*b)):=rfl
theorem Za8(p:List Int)(a b d:Int):∀j,(Nk p a b d j).length=j+1
 | 0=>rfl
 | j+1=>by unfold Nk;rw [Yo,Za8 p a b d j]
def Le(p:List Int)(a b d:Int):List Int:=if p.length=0 then []else tzl (Nk p a b d (p.length-1))
def Zjd(p:List Int)(a b d:Int):Prop:=p≠[]/\65536<Qk p+(p.length-1)*(Qk [a,b,d]+1)+8
instance (p:List Int) (a b d:Int):Decidable (Zjd p a b d):=by unfold Zjd;infer_instance
def Kh(p q:List Int):List Int:=if p=[]then []else Yaw p q
def Zo7{p:List Int}(h:p≠[]):Kh p q=Yaw p q:=aD h
theorem Zql{p:List Int}{j:Nat}(d:j<=p.length-q.length):Kf p q (p.length-q.length-j)↔cf (Qn p q j) (p.length-q.length-j+q.length-1)%cf q (q.length-1)=0:=by unfold Kf;rw [show p.length-q.length-(p.length-q.length-j)=j by omega]
def Zq0{x y:Int}(e:y≠0)(d:bl y.natAbs<=65536):Bx (x%y)=x%y:=Lr (aB (Zwf x y e) d)
def cnx(c:List Int)(a b:Int)(i:Nat):List Int:=mk (c.length+1) λt=>if t<i then cf c t*a+(if t=0 then 0 else cf c (t-1)*b)else if t=i/\0<i then cf c (t-1)*b else 0
def Kt(c:List Int)(a b:Int)(i:Nat):(cnx c a b i).length=c.length+1:=Yo _ _
theorem Yd4(c:List Int)(a b:Int):List.replicate (c.length+1) 0=cnx c a b 0:=by rw [Zry];unfold cnx;exact Il λi hi=>by rw [aD O,aD O]
theorem Zv0(h:i<c.length):(cnx c a b i).getD i 0=if i=0 then 0 else cf c (i-1)*b:=by
 unfold cnx;rw [Zb8 O,aD O];by_cases d:i=0
 .rw [aD O,aF d]
 .rw [aF O,aD d]
theorem Yiy(h:i<c.length):((cnx c a b i).set i ((cnx c a b i).getD i 0+cf c i*a)).set (i+1) (cf c i*b)=cnx c a b (i+1):=Lg (by simp [Kt]) λt g=>by
 rw [cI,cI,Kt]at g;rw [Zjk (by rw [cI,Kt];omega),Zjk (by rw [Kt];omega),Zv0 h];unfold cnx;rw [Mh,Mh,aF g,aF g];by_cases d:t=i+1
 .subst d;rw [aF rfl,aD O,aF O,show i+1-1=i by omega]
 .rw [aD d];by_cases e:t=i
  .subst e;rw [aF rfl,aF (Nat.lt_succ_self t)];split<;>omega
  .rw [aD e];by_cases j:t<i
   .simp [j,show t<i+1 by omega]
   .simp [j,e,d,show ¬t<i+1 by omega]
theorem Zqy(h:0<c.length):(cnx c a b c.length).getD 0 0=cf c 0*a:=by unfold cnx;rw [Zb8 O,aF h,aF rfl,fN]
theorem Yiz{w:Int}(h:0<c.length):(cnx c a b c.length).set 0 ((cnx c a b c.length).getD 0 0+w)=mk (c.length+1) λt=>cf c t*a+(if t=0 then w else cf c (t-1)*b):=Lg (by simp [Kt,Yo]) λt e=>by
 rw [cI,Kt]at e;rw [Zjk (by rw [Kt];omega),Zqy h,Mh,aF e];unfold cnx;rw [Mh,aF e];by_cases d:t=0
 .rw [aF d,aF d,d]
 .rw [aD d,aD d,aD d];by_cases g:t<c.length
  .rw [aF g]
  .rw [aD g,aF (show t=c.length/\0<c.length by omega),Yl (i:=t) O];omega
theorem Zgv{p:List Int}{x y z:Int}{A m:Nat}(d:Sz A p)(k:bl x.natAbs<=m)(u:bl y.natAbs<=m)(l:bl z.natAbs<=m):∀j,Sz (A+j*(m+1)) (Nk p x y z j)
 | 0=>Sz.of_mem λw g=>by have g:w∈[cf p (p.length-1)]:=g;rw [bZ.1 g];have:=d (p.length-1);omega
 | j+1=>by
  have n:=Zgv d k u l j;unfold Nk;refine Zei λt F=>?_;have v:=Xg (cf (Nk p x y z j) t) x;have D:=n t;have e:(j+1)*(m+1)=j*(m+1)+m+1:=by rw [eF];omega
  split
  .have h:=Zhf 0 (j+1) (d (p.length-2-j)) k l;rw [cW,fA]at h;have o:(0+(j+1))*m<=j*(m+1)+m:=by rw [bP,eF];have:j*m<=j*(m+1):=bD _ O;omega
   have s:=Fq (cf (Nk p x y z j) t*x) (cf p (p.length-2-j)*z^(j+1));omega
  .have h:=Xg (cf (Nk p x y z j) (t-1)) y;have o:=n (t-1);have s:=Fq (cf (Nk p x y z j) t*x) (cf (Nk p x y z j) (t-1)*y);omega
section
variable {p:List Int} {x y z:Int} (hF:Qk p+(p.length-1)*(Qk [x,y,z]+1)+8<=65536) {j:Nat} (hj:j<p.length-1)
include hF hj
theorem cp_all:bl (z^j).natAbs<=65536/\bl (z^(j+1)).natAbs<=65536/\(∀t,bl (cf (Nk p x y z j) t).natAbs<=65536)/\(∀t,bl (cf (Nk p x y z j) t*x).natAbs<=65536)/\(∀t,bl (cf (Nk p x y z j) t*y).natAbs<=65536)/\
  (∀t,bl ((if t=0 then 0 else cf (Nk p x y z j) (t-1)*y)).natAbs<=65536)/\(∀t,bl ((if t=0 then 0 else cf (Nk p x y z j) (t-1)*y)+cf (Nk p x y z j) t*x).natAbs<=65536)/\
  bl (cf p (p.length-2-j)*z^(j+1)).natAbs<=65536/\bl (cf (Nk p x y z j) 0*x+cf p (p.length-2-j)*z^(j+1)).natAbs<=65536:=by
 have u:bl x.natAbs<=Qk [x,y,z]:=by simp only [Qk];omega
 have D:bl y.natAbs<=Qk [x,y,z]:=by simp only [Qk];omega
 have d:bl z.natAbs<=Qk [x,y,z]:=by simp only [Qk];omega
 have k:=Zgv (Lf p) u D d j;generalize Qk [x,y,z]=m at *;have e:j*(m+1)+(m+1)<=(p.length-1)*(m+1):=by rw [<-eF];exact aM _ O
 have w:j*m<=j*(m+1):=bD _ O;have v:=Zhf 0 (j+1) (Lf p (p.length-2-j)) u d;rw [cW,fA,bP,eF]at v;have n:=De z d (j+1) O;rw [eF]at n;have l:bl (z^j).natAbs<=65536:=by
  rcases aZ j with h|h
  .rw [h,cW];decide
  .have:=De z d j h;omega
 have g:∀t,bl (cf (Nk p x y z j) t*x).natAbs<=Qk p+j*(m+1)+m:=λt=>by have:=Xg (cf (Nk p x y z j) t) x;have:=k t;omega
 have o:∀t,bl (cf (Nk p x y z j) t*y).natAbs<=Qk p+j*(m+1)+m:=λt=>by have:=Xg (cf (Nk p x y z j) t) y;have:=k t;omega
 have s:∀t,bl ((if t=0 then 0 else cf (Nk p x y z j) (t-1)*y)).natAbs<=Qk p+j*(m+1)+m:=λt=>by
  split
  .simp [La]
  .exact o _
 refine⟨l,O,λt=>by have:=k t;omega,λt=>by have:=g t;omega,λt=>by have:=o t;omega,λt=>by have:=s t;omega,λt=>?_,O,?_⟩
 .have:=Fq (if t=0 then 0 else cf (Nk p x y z j) (t-1)*y) (cf (Nk p x y z j) t*x);have:=g t;have:=s t;omega
 .have:=Fq (cf (Nk p x y z j) 0*x) (cf p (p.length-2-j)*z^(j+1));have:=g 0;omega
end
theorem Yiw{p:List Int}{x y z:Int}(hF:Qk p+(p.length-1)*(Qk [x,y,z]+1)+8<=65536):Sz 65536 (Nk p x y z (p.length-1)):=by
 have d:bl x.natAbs<=Qk [x,y,z]:=by simp only [Qk];omega
 have e:bl y.natAbs<=Qk [x,y,z]:=by simp only [Qk];omega
 have g:bl z.natAbs<=Qk [x,y,z]:=by simp only [Qk];omega
 exact(Zgv (Lf p) d e g _).mono O
theorem Zgo(p q:List Int):(Xs p q).length<=p.length:=by
 unfold Xs;split
 .exact aK _
 .have:=Kl (Qi p q (p.length-q.length+1));rw [Np]at this;exact this
theorem Zan{p:List Int}(d:Vp p)(e:Db p q=0):Vp (Xs p q):=by
 have g:=Zgo p q;refine⟨?_,?_,by have:=d.len;omega⟩
 .unfold Xs;split
  .exact d.sz
  .exact(Zoe ((Zb9 e).2 O)).tzl
 .unfold Xs;split
  .exact d.tr
  .exact Qa _
def Zk6(p q:List Int):Prop:=p.length≠0/\q.length≠0/\65536<(max p.length q.length+2)*(max p.length q.length+2)*(max (Qk p) (Qk q)+8)
instance (p q:List Int):Decidable (Zk6 p q):=by unfold Zk6;infer_instance
def gA(p q:List Int):List Int:=if p.length<q.length then Yi q else Yi p
def gB(p q:List Int):List Int:=if p.length<q.length then Yi p else Yi q
def eok:Nat->List Int->List Int->Prop
 | 0,_,b=>b=[]
 | f+1,a,b=>b=[]\/(Db a b=0/\eok f b (Yi (Xs a b)))
def eu:Nat->List Int->List Int->List Int
 | 0,a,_=>a
 | f+1,a,b=>if b=[]then a else eu f b (Yi (Xs a b))
theorem Yc8{f:Nat}{a b:List Int}(h:eok f a b)(d:b≠[]):∃g,f=g+1/\Db a b=0/\eok g b (Yi (Xs a b))/\eu f a b=eu g b (Yi (Xs a b)):=by
 cases f with
 | zero=>exact absurd h d
 | succ g=>
  rcases h with h|h
  .exact absurd h d
  .exact⟨g,rfl,h.1,h.2,by show(if b=[]then a else _)=_;rw [aD d]⟩
theorem Zft(f:Nat)(a:List Int):eu f a []=a:=by cases f<;>rfl
def Ku(g:List Int):List Int:=if g.length≠0/\cf g (g.length-1)<0 then Yf g (-1)else g
def Om(f:Nat)(p q:List Int):List Int:=Ku (eu f (gA p q) (gB p q))
theorem vp_gA{p:List Int}(d:Vp p)(e:Vp q):Vp (gA p q):=by unfold gA;split<;>exact Lv ‹_›
theorem vp_gB{p:List Int}(d:Vp p)(e:Vp q):Vp (gB p q):=by unfold gB;split<;>exact Lv ‹_›
theorem Az{p:List Int}(h:Sz 65536 p)(i:Nat):bl (cf p i * -1).natAbs<=65536:=by rw [kJ,kM,iF];exact h i
theorem Oh(z:Int):z.sign<0↔z<0:=by
 rcases jV z 0 with h|h|h
 .rw [fM h];omega
 .subst h;simp
 .rw [gF h];omega
end Go.Sky
namespace Go.Sky
def Yfy{l:List Int}(h:∀x∈l,Me x):Sz 65536 l:=Sz.of_mem λx a=>by obtain⟨b,c⟩:=h x a;have:bl x.natAbs<=64:=(Qg 64 _).2 O;omega
open Go.RowKit Below
set_option maxRecDepth 20000
abbrev d9p (v:Value) (x:Nat):Pc:=Yg 1 Yie v (dg 1000000000 x)
def d9s(a b c:Nat):Nat:=if a<b+c then a+1000000000-(b+c)else a-(b+c)
def cmpI(x y:Nat):Int:=if x<y then -1 else if y<x then 1 else 0
section
variable {P:Program} {N:Nat} {sc:Nat->Prop} {env env':Xz} {H H':Hp} {Q Q':Exit->Act->World->Prop} {M:Nat->Prop}
variable {o:Oper} {t t':TypeId} {x y:Operand} {m n:Nat}
end
end Go.Sky
namespace Go.Sky
section
variable {P:Program} {N:Nat} {sc:Nat->Prop} {env env':Xz} {H H':Hp} {Q Q':Exit->Act->World->Prop} {M:Nat->Prop}
variable {o:Oper} {t t':TypeId} {x y:Operand} {m n:Nat}
end
end Go.Sky
namespace Go.Sky
variable{x y:Operand}{v u z:Value}{r:List Pc}{o:Oper}{t:TypeId}{i d:Nat}{p:Pc}{w0:World}{M0:Nat->Prop}{ks:List Nat}
def Zo4(a b:Int):Prop:=65536<bl a.natAbs\/65536<bl b.natAbs
instance (a b:Int):Decidable (Zo4 a b):=by unfold Zo4;infer_instance
def qn(a b:Int):Int:=if Zo4 a b then 0 else a
def qd(a b:Int):Int:=if Zo4 a b then 0 else b
def qe(a b:Int):Int:=if Zo4 a b then 7 else 0
def Yho{x y:Int}(h:¬y<0):Nu x y=(Int.gcd x y:Int):=aD h
def Znr(x y:Int):bl ((Int.gcd x y:Int)).natAbs<=max (bl x.natAbs) (bl y.natAbs):=Zns _ _
open Go.RowKit Below
variable {P:Program} {N:Nat} {sc:Nat->Prop} {env env':Xz} {H H':Hp} {Q Q':Exit->Act->World->Prop} {M:Nat->Prop}
abbrev Yc9 (w:Bool×ByteArray):Value:= .agg #[.bool w.1,.string w.2]
abbrev Yif (z:Int×SL):Value:= .agg #[.bool (decide (z.1<0)),Xw z.2]
abbrev Kx {α:Type} (z:SL×α):Value:=Xw z.1
abbrev qI (z:Int×SL):Pc:=d9p (Xw z.2) z.1.natAbs
abbrev pp (v:Value) (zs:List (Int×SL)):Pc:=Qh 2 Yif qI v zs
abbrev ints (zs:List (Int×SL)):List Int:=zs.map Prod.fst
abbrev I0:Int×SL:=(0,none,0,0)
theorem Yau{β:Type}{k:Nat}{enc:β->Value}{q:β->Pc}{zs:List β}{al:Bool}{z:β}(i:Nat)(hi:lk H i=some (Qh k enc q v zs))(a:Nat.beq i 0=false)(c:z∈zs)(h:PreOk H al r):PreOk H al (q z::r):=
 ⟨⟨i,_,λe=>by subst e;simp at a,hi,λw h=>h.2 z c,λb f=> .inr ⟨z,c,f⟩,λ_=>rfl⟩,h⟩
theorem t_appM {α:Type}   {e:TypeId} {i2 j k h:Nat}  {enc:α->Value} {xs ys:List α}  {ti:TypeInfo}   
  (ho:o.op= .call { callee:= .builtin .append,args:=#[x,y],argTypes:=#[t,t] }) (hd:o.dst=some d) (hN:Nat.blt d N=true)
  (hx:ev env x=some v) (hy:ev env y=some u) (hH:lk H i=some (Pt k e enc v xs)) (a3:i≠0) (hj:lk H j=some p) (hr:Rd p k enc u ys) (b0:ys≠[])
  (ht:P.underlying t=some (.slice e)) (hi:P.info? e=some ti) (hz:ti.zero=some z) (n:Enc P e k enc) (a4:ti.size=k) (a1:ti.bytes=h) (b1:z.cells.size=k)
  (l:(xs.length+ys.length)*h<=140737488355328) (s:0<h)
  (h0:lk H 0=some (Yt w0 M0)) (hw:∀b,w0.heap.size<=b->sc b) (hM:∀b,(Pt k e enc v xs).fp b->M b) :
  T P N sc M o env H (G:=Value) (λ_=>True) (λv'=>(d,v')::env) (λv'=>(i,Pt k e enc v' (xs ++ ys))::H):=λa w hs K Q hK=>by
 have R:w.ownsRow 0 e k v xs.length (cellsOf enc xs):=hs.hold i _ hH;obtain⟨ad,c,rfl,h1,h2,Y⟩:=hr w (hs.hold j p hj);rcases Y with rfl|⟨g,V,rfl,Y⟩
 .exact absurd rfl b0
 have a9:∀q u,(cellsOf enc ys)[q]? = some u->w.cell? ((⟨g,V,none⟩:Addr).add q)=some u:=λq u hq=>by
  have a5:q<ys.length*k:=by rw [<-Yx n.cells ys];exact(eY.1 hq).1
  have F:=n.pos;have a2:q/k<ys.length:=iV (by rw [aR];exact a5);have m:ys[q/k]? = some ys[q/k]:=aH a2;have a7:q%k<(enc ys[q/k]).cells.toList.length:=by rw [dC,n.cells];exact bR _ F
  have W:=aH a7;have Z:=Kv n.cells ys _ _ m _ _ W;have h5:=Y _ _ m _ _ W;have I:q/k*k+q%k=q:=by rw [aR];exact cM q k
  rw [I]at Z;rw [fT,I]at h5;rw [hq]at Z;cases Z;rw [Pb];exact h5
 have D:∀u∈cellsOf enc ys,u.oneCell'=true:=λu W=>by obtain⟨y,_,hy⟩:=kD.1 W;exact n.one y u hy
 have b2:xs.length+ys.length<=140737488355328:=aB (eK _ s) l;obtain⟨v',w',S,a6,f,a0⟩:=Zci (P:=P) t o.type e ti z k h ht hi hz a4 a1 b1 n.pos v xs.length (cellsOf enc xs) R ⟨g,V,none⟩ ys.length c (cellsOf enc ys)
  (Yx n.cells ys) a9 D (by simp only [maxLen];omega) l
 have a8:(execOp a.eval o).run P w= .ok (.value v') w':=by simp only [execOp,ho,resolve,invoke,builtin,Sem.run_bind,Sem.run_pure,Result.andThen_ok,gI,bN,fL,hs.ev hx,hs.ev hy,S]
 unfold Oper.wp;rw [a8];show K (a.put o.dst _) _;rw [hd];have B:Chg (λb=>v.ownBlock=some b) w w':=⟨f.os,f.tape,f.output,f.size,λb l hn=>f.block b l (λe=>hn e.symm)⟩;refine hK v' _ _ aA ((hs.upd hH rfl a3 (q:=Pt k e enc v' (xs ++ ys)) B ?_ (λb l=>a0 b l) h0 hw).put d _ hN) ⟨f.os,f.tape,f.output,f.size,λb l hn=>f.block b l (λe=>hn (hM b e.symm))⟩;show w'.ownsRow 0 e k v' (xs ++ ys).length (cellsOf enc (xs ++ ys));rw [Li,aS];exact a6
theorem Zbt (i:Nat)(j:Nat)(m:Nat) {α:Type}   {e:TypeId} {k:Nat}  {enc:α->Value} {xs ys:List α}  {ti:TypeInfo}   
  (ho:o.op= .call { callee:= .builtin .append,args:=#[x,y],argTypes:=#[t,t] }) (hd:o.dst=some d) (hN:Nat.blt d N=true)
  (hx:ev env x=some v) (hy:ev env y=some u) (Y:lk H i=some (Pt k e enc v xs)) (F:i≠0) (hj:lk H j=some p) (hr:Rd p k enc u ys)
  (ht:P.underlying t=some (.slice e)) (hi:P.info? e=some ti) (hz:ti.zero=some z) (he:Enc P e k enc) (a2:ti.size=k) (a1:ti.bytes=m) (a4:z.cells.size=k)
  (Z:(xs.length+ys.length)*m<=140737488355328) (B:0<m)
  (h0:lk H 0=some (Yt w0 M0)) (hw:∀b,w0.heap.size<=b->sc b) (hM:∀b,(Pt k e enc v xs).fp b->M b) :
  T P N sc M o env H (G:=Value) (λ_=>True) (λv'=>(d,v')::env) (λv'=>(i,Pt k e enc v' (xs ++ ys))::H):=by
 by_cases S:ys=[]
 .subst S;intro a w hs K Q hK;have h:w.ownsRow 0 e k v xs.length (cellsOf enc xs):=hs.hold i _ Y;obtain⟨V,c,rfl,h1,h2,h3⟩:=hr w (hs.hold j p hj);have I:∃l n s,v= .slice l n s/\n=xs.length/\n<=s:=by
   rcases h.2 with⟨rfl,hn⟩|⟨g,W,a5,rfl,_,_,f,_⟩
   .exact⟨none,0,0,rfl,hn.symm,aK _⟩
   .exact⟨_,_,W,rfl,rfl,f⟩
  obtain⟨l,n,s,rfl,rfl,f⟩:=I;have R:(Builtin.append_ #[t,t] o.type #[.slice l xs.length s,.slice V ([]:List α).length c]).run P w= .ok (.slice l xs.length s) w:=by
   have D:(Builtin.firstCells ti.size 0 (.slice V 0 c)).run P w= .ok #[] w:=by
    cases V with
    | none=>rfl
    | some q=>simp [Builtin.firstCells,loadCells,loadCellsFrom]
   cases l with
   | none=>simp [Builtin.append_,run_underlying ht,sizeOf,typeInfo,hi,Builtin.lenOf,D,f]
   | some q=>simp [Builtin.append_,run_underlying ht,sizeOf,typeInfo,hi,Builtin.lenOf,D,f,storeCells]
  have a3:(execOp a.eval o).run P w= .ok (.value (.slice l xs.length s)) w:=by simp only [execOp,ho,resolve,invoke,builtin,Sem.run_bind,Sem.run_pure,Result.andThen_ok,gI,bN,fL,hs.ev hx,hs.ev hy,R]
  unfold Oper.wp;rw [a3];show K (a.put o.dst _) _;rw [hd];refine hK _ _ _ aA ((Sat.upd hs Y rfl F (q:=Pt k e enc (.slice l xs.length s) (xs ++ [])) (Chg.refl _ w) ?_ (λb Z=> .inl Z) h0 hw).put d _ hN) (Chg.refl _ w);rw [fE];exact h
 .exact t_appM (i2:=0) ho hd hN hx hy Y F hj hr S ht hi hz he a2 a1 a4 Z B h0 hw hM
theorem Ze9  {G:Type} {φ:G->Prop} {c:G->Xz} {j:G->Hp} {f:Hp}   (i:Nat) (hi:lk H i=some p) (F:p.own=true) (D:ks.all (λk=>!Nat.beq k i)=true) (n:Agr f H ks)
  (h:(∀b,p.fp b->Off f ks b)->T P N sc (Off f ks) o env H φ c j):T P N sc (Off f ks) o env H φ c j:=λa w hs=>
 h (λb s k l q m B=>by
  rw [<-n.mem k l]at m;have g:i≠k:=λe=>by subst e;have:=bW.1 D i l;simp at this
  exact hs.sep i k p q g hi m F b s B) a w hs
def eaf(v:Value)(i k q:Nat):Addr:=(ead v i k).add q
theorem Zlf (ii:Nat) {α:Type}    {f:Nat} {h:Array Field} {b:Field} {k I q:Nat}   {enc:α->Value} {xs:List α} (B:o.op= .fieldAddr t x f)
  (l:ev env x=some (.pointer (some (ead v i k)))) (m:lk H ii=some p) (F:Rd p k enc v xs) (G:P.underlying t=some (.struct h)) (n:h[f]? = some b) (s:∀w,(sizeOf b.type).run P w= .ok (I+1) w) (D:b.offset=q) (e:i<xs.length:=by omega) :
  Nf P N sc o env H (.pointer (some (eaf v i k q))):=λa w hs=>by
 obtain⟨S,c,rfl,V,W,j⟩:=F w (hs.hold ii p m);rcases j with rfl|⟨g,R,rfl,j⟩
 .simp at e
 .subst D;simp only [ead,Pb]at l;simp [execOp,B,hs.ev l,Instr.fieldAt,run_underlying G,n,Instr.sureAddr,fieldPlace,s,Pb,eaf,ead]
theorem Zld (ii:Nat) {α:Type}    {k q:Nat}   {enc:α->Value} {xs:List α} (f:α) (n:o.op= .load t x)
  (j:ev env x=some (.pointer (some (eaf v i k q)))) (l:lk H ii=some p) (s:Rd p k enc v xs) (m:∀w,(isAgg t).run P w= .ok false w) (B:(enc (xs.getD i f)).cells.toList[q]? = some u) (b:i<xs.length:=by omega):Nf P N sc o env H u:=λa w hs=>by
 obtain⟨F,c,rfl,G,I,e⟩:=s w (hs.hold ii p l);rcases e with rfl|⟨g,D,rfl,e⟩
 .simp at b
 .have hi:xs[i]? = some (xs.getD i f):=by simp [List.getD,aH b]
  have h:=e i _ hi q u B;simp only [eaf,ead,Pb]at j;simp [execOp,n,hs.ev j,Instr.loadAt,Instr.sureAddr,loadVar,m,load,Sem.run,h]
end Go.Sky
namespace Go.Sky
variable{o:Oper}{r pre:List Pc}{f:FuncId}{xs:List Operand}{a:Act}{w:World}{c x:Operand}{ats:Array TypeId}{vs:List Value}{M0:Nat->Prop}{b:Nat}{t:TypeId}{cs:Array Value}
abbrev rq (z:Int×Int):Value:= .agg #[.bool (decide (z.1<0)),.string (Xn z.1.natAbs),.bool (decide (z.2<0)),.string (Xn z.2.natAbs)]
abbrev encQ (z:(Bool×ByteArray)×(Bool×ByteArray)):Value:= .agg #[.bool z.1.1,.string z.1.2,.bool z.2.1,.string z.2.2]
def Zy (d:Value){P:Program}{N:Nat}{sc:Nat->Prop}{env:Xz}{H:Hp}{r:Value}(h:Nf P N sc o env H r)(e:r=d):Nf P N sc o env H d:=e▸h
open Go.RowKit Below
variable {P:Program} {N:Nat} {sc:Nat->Prop} {env env':Xz} {H H':Hp} {Q Q':Exit->Act->World->Prop} {M:Nat->Prop}
theorem Zvs (vs:List Value)(d:List Value){ys:List Operand}(h:o.op= .makeFunc (.func f) xs.toArray ys.toArray)(j:EvL env xs vs)(i:EvL env ys d):Nf P N sc o env H (.func (.func f) vs.toArray d.toArray):=λa w hs=>by have e:=j.map hs;have g:=i.map hs;simp [execOp,h,Instr.makeFunc,e,g]
theorem Zch   (hs:Sat N sc env H a w)      {e g:List Value} (j:o.op= .call { callee:= .value c,args:=xs.toArray,argTypes:=ats })
  (h:ev env c=some (.func (.func f) e.toArray g.toArray)) (d:EvL env xs vs):(execOp a.eval o).run P w=(callFunc f (e ++ vs ++ g).toArray).run P w:=by
 have i:=d.map hs;simp [execOp,j,resolve,invoke,hs.ev h,Deferred.ofValue,i]
theorem Cf (n:Nat)(i:List Value)(vs:List Value)(p:List Value)      {d:Nat}   {al:Bool} {G:Type} {φ:G->Prop} {val:G->Value} {m:G->List Pc} {y:World} 
  (F:Cal P f (i ++ vs ++ p).toArray pre al φ val m)
  (R:o.op= .call { callee:= .value c,args:=xs.toArray,argTypes:=ats }) (s:ev env c=some (.func (.func f) i.toArray p.toArray)) (I:o.dst=some d) (D:Nat.blt d N=true)
  (h:EvL env xs vs) (e:∀args w,(callFunc f args).run P w= .ok (.enter f args) w) (k:PreOk H al pre)
  (z:lk H 0=some (Yt y M0)) (V:∀b,y.heap.size<=b->sc b) :
  T P N sc M o env H φ (λg=>(d,val g)::env) (λg=>adds n (m g) H):=λa w hs K Q B=>by
 have S:(execOp a.eval o).run P w= .ok (.enter f (i ++ vs ++ p).toArray) w:=by rw [Zch hs R s h,e]
 let o2:Oper:={ o with op:= .call { callee:= .value (.func f),args:=((i ++ vs ++ p).map Operand.const).toArray,argTypes:=ats } };have j:∀l:List Value,EvL env (l.map Operand.const) l:=λl=>by
  induction l with
  | nil=>trivial
  | cons v r W=>exact⟨rfl,W⟩
 have u:(execOp a.eval o2).run P w= .ok (.enter f (i ++ vs ++ p).toArray) w:=by rw [Ia hs (o:=o2) rfl (j _),e]
 have q:o2.wp P a w K Q:=Ea n (M:=M) F (o:=o2) rfl I D (j _) e k z V a w hs K Q B;unfold Oper.wp at q ⊢;rw [u]at q;rw [S];exact q
theorem Zfl(i:Nat)(hi:lk H i=some (box b t cs))(d:Nat.beq i 0=false)(h:PreOk H false r):PreOk H false (Ke b t cs::r):=
 ⟨⟨i,_,λe=>by subst e;simp at d,hi,λw h=>h,λb g=>g,λh=>by cases h⟩,h⟩
theorem Sat.rboxc(hs:Sat N sc env H a w){i:Nat}(d:lk H i=some (Ke b t cs))(j:Nat):w.cell? ⟨b,j,none⟩=cs[j]?:=by have h:w.heap[b]? = some (.cells cs t (0,0)):=hs.hold i _ d;simp [World.cell?,h]
theorem d_lra   {v:TypeId} {i j k:Nat}   (l:o.op= .load t x)
  (s:ev env x=some (.pointer (some ⟨b,j,none⟩))) (e:lk H i=some (Ke b v cs)) (m:∀w,(isAgg t).run P w= .ok true w) (g:∀w,(sizeOf t).run P w= .ok k w)
  (h:vs.length=k) (q:∀n u,vs[n]? = some u->cs[j+n]? = some u):Nf P N sc o env H (.agg vs.toArray):=λa w hs=>by
 have d:=run_loadCells_list (P:=P) w ⟨b,j,none⟩ vs (λn u p=>by rw [Pb,hs.rboxc e];exact q n u p);rw [h]at d;simp [execOp,l,hs.ev s,Instr.loadAt,Instr.sureAddr,loadVar,m,g,d]
theorem d_negi{m:Int}(d:o.op= .unOp .neg t x)(e:ev env x=some (.int .i64 m))(h:Me (-m)):Nf P N sc o env H (.int .i64 (-m)):=λa w hs=>by simp [execOp,d,hs.ev e,Op.unary,Op.intArith,Zcr h]
theorem fill24{n p q s d e g h j k l m:Value}:Instr.fill (λi=>some (i*4,4)) ((List.range (2*4)).map ((Value.agg #[n,p,q,s]).cells[· % (Value.agg #[n,p,q,s]).cells.size]!)).toArray [(0,.agg #[d,e,g,h]),(1,.agg #[j,k,l,m])]=some #[d,e,g,h,j,k,l,m]:=by
 simp [Instr.fill,Value.cells,List.range,List.range.loop]
 try rfl
end Go.Sky
namespace Go.Sky
open Go.RowKit Below
variable{f:FuncId}{c:Operand}{xs:List Operand}{ats:Array TypeId}{p:Pc}{pre:List Pc}{w0:World}{M0:Nat->Prop}{fn:Func}{vs:List Value}
variable {P:Program} {N:Nat} {sc:Nat->Prop} {env env':Xz} {H H':Hp} {Q Q':Exit->Act->World->Prop} {M:Nat->Prop}
abbrev iq (z:(Int×Int)×(Int×Int)):Value:= .agg #[.bool (decide (z.1.1<0)),.string (Xn z.1.1.natAbs),.bool (decide (z.1.2<0)),.string (Xn z.1.2.natAbs),.bool (decide (z.2.1<0)),.string (Xn z.2.1.natAbs),.bool (decide (z.2.2<0)),.string (Xn z.2.2.natAbs)]
def Zth(P:Program)(f:FuncId)(args:Array Value)(pre:List Pc)(p:Pc){G:Type}(φ:G->Prop)(val:G->Value)(q:G->Pc):Prop:=
 ∀w,(∀r∈pre,r.holds w/\∀k,p.fp k->¬r.fp k)->p.holds w->Calls P f args w λe a=>∃g,e= .returned (val g)/\φ g/\Chg p.fp w a/\(q g).holds a/\∀k,(q g).fp k->p.fp k\/w.heap.size<=k
theorem Zdu (i:Nat)(x:List Value)(vs:List Value)(I:List Value) {o:Oper}     {d:Nat}    {G:Type} {φ:G->Prop} {val:G->Value} {q:G->Pc}  
  (hc:Zth P f (x ++ vs ++ I).toArray pre p φ val q)
  (ho:o.op= .call { callee:= .value c,args:=xs.toArray,argTypes:=ats }) (z:ev env c=some (.func (.func f) x.toArray I.toArray)) (hd:o.dst=some d) (Y:Nat.blt d N=true)
  (m:EvL env xs vs) (n:∀args w,(callFunc f args).run P w= .ok (.enter f args) w) (y:lk H i=some p) (l:p.own=true) (B:i≠0) (u:PreOk (drp i H) false pre)
  (S:lk H 0=some (Yt w0 M0)) (hw:∀b,w0.heap.size<=b->sc b) (W:∀b,p.fp b->M b) :
  T P N sc M o env H φ (λg=>(d,val g)::env) (λg=>(i,q g)::H):=λa w hs K Q V=>by
 have hr:(execOp a.eval o).run P w= .ok (.enter f (x ++ vs ++ I).toArray) w:=by rw [Zch hs ho z m,n]
 unfold Oper.wp;rw [hr];refine(hc w (λr hp=>by obtain⟨j,R,_,v,t,s,_⟩:=u.mem r hp;obtain⟨F,v⟩:=Ih _ _ _ _ v;exact⟨t w (hs.hold j R v),λk D Z=>hs.sep i j _ R (gR F) y v l k D (s k Z)⟩) (hs.hold i _ y)).mono ?_
 rintro e w' ⟨g,rfl,hg,h,hq,s⟩;show K (a.put o.dst (val g)) w';rw [hd];exact V g _ _ hg (Sat.put (hs.upd y l B h hq s S hw) d _ Y) ⟨h.os,h.tape,h.output,h.size,λk D hn=>h.block k D (λe=>hn (W k e))⟩
def Yfb(P:Program)(fn:Func)(w0:World)(p:Pc){G:Type}(φ:G->Prop)(val:G->Value)(q:G->Pc):Exit->Act->World->Prop:=
 bodyPost P fn λe a=>∃g,e= .returned (val g)/\φ g/\Chg p.fp w0 a/\(q g).holds a/\∀k,(q g).fp k->p.fp k\/w0.heap.size<=k
theorem Ze1   {c:Code}    {G:Type} {φ:G->Prop} {val:G->Value} {q:G->Pc} {N:Nat}
  (V:P.funcs[f]? = some fn) (S:fn.body=some c) (R:fn.ntmps=N) (n:Nat.ble vs.length N=true) (B:AllRo pre)
  (h:∀w0 (sc:Nat->Prop),(∀k,w0.heap.size<=k->sc k)->(∀k,sc k->w0.heap.size<=k\/p.fp k\/∃q∈pre,q.fp k)->
   E P N sc c (Yfb P fn w0 p φ val q) (Qd 0 vs) ((0,Yt w0 p.fp)::(1,p)::Yr 2 pre)) :
  Zth P f vs.toArray pre p φ val q:=λw D s=>by
 refine calls_of_wp V S (h w (λk=>w.heap.size<=k\/p.fp k\/∃q∈pre,q.fp k) (λk b=> .inl b) (λk b=>b) _ w ?_);have n:vs.length<=N:=by simpa using n
 have a:∀i r,lk ((0,Yt w p.fp)::(1,p)::Yr 2 pre) i=some r->(i=0/\r=Yt w p.fp)\/(i=1/\r=p)\/(i≠0/\i≠1/\r∈pre/\r.own=false):=λi r hi=>by
   by_cases l:0=i
   .subst l;rw [Zv]at hi;cases hi;exact .inl ⟨rfl,rfl⟩
   .rw [Zm l]at hi;by_cases g:1=i
    .subst g;rw [Zv]at hi;cases hi;exact .inr (.inl ⟨rfl,rfl⟩)
    .rw [Zm g]at hi;obtain⟨_,d⟩:=Oe pre 2 i r hi;exact .inr (.inr ⟨λe=>l e.symm,λe=>g e.symm,d,B.mem r d⟩)
 refine⟨by simp [R];omega,rfl,λt v Y=>?_,λi r hi=>?_,λi j r F y hi W z k b m=>?_,λi r u hi k b=>?_⟩
 .have g:vs.toArray[t]? = some v:=by simpa using(Hc vs 0 t v Y).2
  have x:=(aO.1 g).1;rw [bH,eR x,g];rfl
 .rcases a i r hi with⟨_,rfl⟩|⟨_,rfl⟩|⟨_,_,d,_⟩
  .exact Chg.refl _ w
  .exact s
  .exact(D r d).1
 .rcases a i r hi with⟨_,rfl⟩|⟨g,rfl⟩|⟨_,_,d,o⟩
  .cases z
  .rcases a j F W with⟨_,rfl⟩|⟨I,rfl⟩|⟨_,_,d,_⟩
   .exact m.2 b
   .exact y (g.trans I.symm)
   .exact(D F d).2 k b m
  .rw [o]at z;cases z
 .rcases a i r hi with⟨l,_⟩|⟨_,rfl⟩|⟨_,_,d,_⟩
  .exact absurd l u
  .exact .inr (.inl b)
  .exact .inr (.inr ⟨r,d,b⟩)
theorem Dj    {G:Type} {φ:G->Prop} {val:G->Value} {q:G->Pc}  {e:Exit} (B:e= .ret\/e= .normal) (u:∀k,sc k->w0.heap.size<=k\/p.fp k\/∃q∈pre,q.fp k)
  (g:G) {v:Value} (m:∀a w,Sat N sc env H a w->(results fn a.tmps).run P w= .ok v w) (I:val g=v) (D:φ g) (i:Nat) (hi:lk H i=some (q g)) (z:lk H 0=some (Yt w0 p.fp)) (b:Nat.beq i 0=false) (d:(q g).own=true) (l:PreOk (drp i H) false pre) :
  X N sc e (Yfb P fn w0 p φ val q) env H:=λa w hs=>by
 have b:i≠0:=λe=>by subst e;simp at b
 have x:a.defers=[]/\∃v,(results fn a.tmps).run P w= .ok v w/\(∃g,Ending.returned v= .returned (val g)/\φ g/\Chg p.fp w0 w/\(q g).holds w/\∀k,(q g).fp k->p.fp k\/w0.heap.size<=k):=by
  refine⟨hs.defers,v,m a w hs,g,by rw [I],D,hs.hold 0 _ z,hs.hold i _ hi,λk y=>?_⟩;rcases u k (hs.scope i _ b hi k y)with h|h|⟨r,F,t⟩
  .exact .inr h
  .exact .inl h
  .obtain⟨j,R,_,o,_,n,_⟩:=l.mem r F;obtain⟨s,o⟩:=Ih _ _ _ _ o;exact(hs.sep i j _ R (gR s) hi o d k y (n k t)).elim
 rcases B with rfl|rfl<;>exact x
def gb{α:Type}(b:Nat)(t:TypeId)(k:Nat)(e:TypeId)(enc:α->Value)(v:Value)(xs:List α):Pc:=
 {own:=true,fp:=λc=>c=b\/v.ownBlock=some c,holds:=λw=>(box b t #[v]).holds w/\(Pt k e enc v xs).holds w/\v.ownBlock≠some b
  lt:=λw c h a=>by
   rcases a with rfl|a
   .exact(box c t #[v]).lt w c h.1 rfl
   .exact(Pt k e enc v xs).lt w c h.2.1 a
  stable:=λw l h a=>⟨(box b t #[v]).stable w l h.1 ⟨a.os,a.tape,a.output,a.size,λk g i=>a.block k g (λd=>i (λj=>d (.inl j)))⟩,
   (Pt k e enc v xs).stable w l h.2.1 ⟨a.os,a.tape,a.output,a.size,λk g i=>a.block k g (λd=>i (λj=>d (.inr j)))⟩,h.2.2⟩ }
end Go.Sky

