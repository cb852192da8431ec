/- Rules, arithmetic and contracts: part 3. No conditions but those that each theorem names. -/
import Derived.Test.YteikicbnfbgpnaaGreatDc01
set_option linter.all false
namespace Go.Sky
set_option maxRecDepth 20000
variable{k D:Nat}{R ys:List Nat}{y x:Int}{b t s:Bool}{p xs:List Int}{f:FuncId}{args:Array Value}{pre:List Pc}
theorem Zhf{n:Nat}(h:n<U):tz [n]=dg U n:=by rw [<-Kt Xv [n] (by simpa using h)];simp [Yq]
theorem Zej{N:Nat}{sc:Nat->Prop}{env:Ob}{H:Hp}{α:Type}{e:TypeId}{enc:α->Value}{v:Value}{xs ys:List α}(i:Nat)(h:xs=ys)(hi:lk H i=some (On k e enc v xs))(c:Nat.beq i 0=false) :
  ∀a w,Sat N sc env H a w->Sat N sc env ((i,On k e enc v ys)::H) a w:=by
 subst h;exact Zpa i hi rfl (λw h=>h) (λb d=>d) c
theorem Zm1(R:List Nat)(j:Nat)(a:j<=R.length):Yq U R=Yq U (R.take j)+U^j*Yq U (R.drop j):=by have:=Nz U (R.take j) (R.drop j);rw [fM,aR,dG a]at this;exact this
theorem Zkd(g:∀d∈R,d<U)(j:Nat)(e:j<=R.length):Yq U (R.take j)=Yq U R%U^j/\Yq U (R.drop j)=Yq U R/U^j:=by
 have c:=Zm1 R j e;have a:=Zhc Qa (R.take j) (λd h=>g d (eK h));rw [aR,dG e]at a;have i:0<U^j:=cE Qa;constructor
 .rw [c,jK,gR,aW a]
 .rw [c,jK,gG i,cN a,eF]
theorem Zfl(e:∀d∈R,d<U){n:Nat}(g:n<=R.length)(h:Yq U R<U^n):Yq U (R.drop n)=0/\Yq U (R.take n)=Yq U R:=by obtain⟨a,c⟩:=Zkd e n g;rw [c,a,aW h];exact⟨cN h,rfl⟩
theorem Ylj(c:∀d∈R,d<U){j n:Nat}(g:j+n<=R.length)(h:Yq U R<U^(j+n)):tz ((R.drop j).take n)=dg U (Yq U R/U^j):=by have a:∀d∈R.drop j,d<U:=λd a=>c d (kL a);rw [<-(Zkd c j O).2,<-Kt Xv _ (λd e=>a d (eK e))];congr 1;refine(Zfl a (by rw [dZ];omega) ?_).2;rw [(Zkd c j O).2,cD (cE Qa),<-bT,jK];exact h
theorem Zrx(c:∀d∈R,d<U)(e:∀d∈ys,d<U)(lo:Nat):∀d∈spl R lo ys,d<U:=λd a=>by
 simp only [spl,cY]at a;rcases a with(a|a)|a
 .exact c d (eK a)
 .exact e d a
 .exact c d (kL a)
theorem Zr8(L:Nat)(ys:List Nat):Yq U (spl (List.replicate L 0) 0 ys)=Yq U ys:=by simp [spl,Nz,nD,Gn]
theorem Ylo(a:∀d∈R,d<U){j n:Nat}(g:j+n<=R.length)(h:Yq U R<U^(j+n))(i:ys.length<=n) :
  Yq U (spl (spl R j (List.replicate n 0)) j ys)=Yq U R%U^j+U^j*Yq U ys:=by
 have c:(spl R j (List.replicate n 0)).take j=R.take j:=by simp only [spl,eC];rw [fB (by rw [aR];omega),iG,Nat.min_self]
 have e:(spl R j (List.replicate n 0)).drop (j+ys.length)=List.replicate (n-ys.length) 0 ++ R.drop (j+n):=by simp only [spl,eC,aT];rw [<-List.drop_drop,List.drop_left' (by rw [aR];omega),fY (by rw [aT];exact i),nD]
 rw [spl,c,e,Nz,Nz,Nz,Gn,(Zfl a g h).1,(Zkd a j O).1,aR,dG O];simp
theorem Ynb{y b:Nat}(d:0<y)(l:k=(dg U y).length)(r:b=64-bl ((dg U y).getD (k-1) 0)):(dg U (y*2^b)).length=k/\2^b*U^k<=y*2^b*U*2^b/\1<=k/\y*2^b<U^k/\b<=63/\U^(k-1)*9223372036854775808<=y*2^b:=by
 obtain⟨m,n,g,o⟩:=Zym d;rw [<-l]at m n g o;obtain⟨h,q⟩:=Zrp d;have i:=Cd y;have e:bl y+b=64*k:=O;have c:y*2^b<U^k:=by rw [Zdi,<-e,bT];exact eE i (dJ b)
 have a:U^(k-1)*9223372036854775808<=y*2^b:=by
  have:U^(k-1)*9223372036854775808=2^(bl y-1)*2^b:=by rw [Zdi,<-bT,show 9223372036854775808=2^63 from rfl,<-bT];congr 1;omega
  rw [this];exact aK _ h
 have j:U^k=U^(k-1)*U:=by rw [<-bW];congr 1;omega
 refine⟨?_,?_,g,c,O,a⟩
 .refine jR ((Xm Xv _ _).2 c) ?_;have:k-1<(dg U (y*2^b)).length:=(Np Xv _ _).2 (aB (dO _ O) a);omega
 .rw [j,aO (2^b)];refine aK _ ?_;refine aK _ (aB (dO _ O) a)
theorem Yis{W w1 w0 t:Nat}(a:t*U^k<=D)(e:0<t)(c:W/U^k=w1*U+w0):W/D<=(w1*U+w0)/t:=by have d:0<U^k:=cE Qa;rw [<-c,aU,aO];exact nE a (fW e d)
theorem Ylv(c:∀d∈R,d<U){j:Nat}(m:1<=k)(h:Yq U R<U^(j+k+1))(n:j+k+1<=R.length):Yq U R/U^j/U^(k-1)=R.getD (j+k) 0*U+R.getD (j+k-1) 0:=by
 have e:∀i,R.getD i 0=Yq U R/U^i%U:=λi=>by
  rcases bA i R.length with hi|hi
  .have a:=(Zkd c i O).2;rw [Zc4 0 R i hi]at a;simp only [Yq]at a;rw [<-a,jN,aW (Xu Qa c i)]
  .rw [show R.getD i 0=0 by simp [List.getD,bE hi],cN (dB (Zhc Qa R c) (dH Qa hi))];rfl
 rw [e,e,aU,<-bT,show j+(k-1)=j+k-1 by omega];have g:Yq U R/U^(j+k)<U:=by rw [cD (cE Qa),<-nJ,jK (j+k)]at *;rw [jK 1]at *;exact h
 have l:Yq U R/U^(j+k)=Yq U R/U^(j+k-1)/U:=by rw [aU,<-bW];congr 2;omega
 rw [aW g,l,aO,bZ]
theorem Yjq{x b a:Nat}(g:x<U^a)(d:b<=63)(m:1<=k)(e:k<=a+1)(c:U^(k-1)*9223372036854775808<=D):x*2^b<D*U^(a+1-k):=by
 have h:x*2^b<U^a*2^b:=eE g (dJ b);have i:U^a*2^b<=U^a*9223372036854775808:=aX _ (by rw [show 9223372036854775808=2^63 from rfl];exact dH O d)
 have j:U^a*9223372036854775808=U^(k-1)*9223372036854775808*U^(a+1-k):=by rw [iN,<-bT];congr 2;omega
 have l:U^(k-1)*9223372036854775808*U^(a+1-k)<=D*U^(a+1-k):=aK _ c;omega
theorem Yjo{V j Q Vq N:Nat}(h:0<D)(a:Q=V/U^j/D)(i:Vq*U^(j+1)*D+V=N) :
  V%U^j+U^j*(V/U^j-D*Q)<D*U^j/\(Q+U*Vq)*U^j*D+(V%U^j+U^j*(V/U^j-D*Q))=N:=by
 have l:0<U^j:=cE Qa;have o:=bO V l;have q:=bZ V (U^j);have c:=bZ (V/U^j) D;have d:=bO (V/U^j) h;have e:V/U^j-D*Q=V/U^j%D:=by rw [a];omega
 rw [e];constructor
 .have g:U^j*(V/U^j%D+1)<=U^j*D:=aX _ d;rw [fV]at g;rw [aO D];omega
 .rw [<-i];have m:(Q+U*Vq)*U^j*D=U^j*(D*Q)+Vq*U^(j+1)*D:=by
   rw [bF,bF,bW];congr 1
   .rw [aO Q,cT,aO Q]
   .rw [aO U Vq,cT Vq,aO U]
  have n:U^j*(D*Q)+U^j*(V/U^j%D)=U^j*(V/U^j):=by rw [<-fV,a,c]
  omega
def sg(s:Bool)(x:Int):Prop:=(s=true->x<=0)/\(s=false->0<=x)
theorem Yfu(h:sg s x):sg (!s) (-x):=by cases s<;>simp [sg]at*<;>omega
theorem Yfv(hs:sg s x)(a:sg t y):sg (s != t) (x*y):=by
 cases s<;>cases t<;>simp [sg]at *
 .exact eJ hs a
 .exact gM hs a
 .exact gN hs a
 .exact Int.mul_nonneg_of_nonpos_of_nonpos hs a
theorem Ycr(h:(((dg U x.natAbs).length:Nat):Int)=0):Value.int .i64 x.sign= .int .i64 0:=by have a:=(Ok Xv x.natAbs).1 O;have:x=0:=O;subst this;rfl
theorem Yfp(hs:sg s x)(a:s=true)(h:¬(((dg U x.natAbs).length:Nat):Int)=0):Value.int .i64 x.sign= .int .i64 (-1):=by have c:¬x.natAbs=0:=λe=>h (by rw [(Ok Xv x.natAbs).2 e];rfl);have d:=hs.1 a;rw [eV O]
theorem Yfo(hs:sg s x)(a:s=false)(h:¬(((dg U x.natAbs).length:Nat):Int)=0):Value.int .i64 x.sign= .int .i64 1:=by have c:¬x.natAbs=0:=λe=>h (by rw [(Ok Xv x.natAbs).2 e];rfl);have d:=hs.2 a;rw [fJ O]
theorem Zys(hs:sg s x)(a:sg s y):sg s (x+y):=by cases s<;>simp [sg]at*<;>omega
theorem Zg9(hs:sg s x)(a:sg s y):(x+y).natAbs=x.natAbs+y.natAbs:=by cases s<;>simp [sg]at*<;>omega
theorem Zjf(hs:sg s x)(c:sg t y)(h:s≠t)(a:y.natAbs<=x.natAbs):sg s (x+y):=by cases s<;>cases t<;>simp [sg]at*<;>omega
theorem Zbh(hs:sg s x)(c:sg t y)(h:s≠t)(a:y.natAbs<=x.natAbs):(x+y).natAbs=x.natAbs-y.natAbs:=by cases s<;>cases t<;>simp [sg]at*<;>omega
abbrev wv (x:Int):Value:= .agg #[.bool (decide (x<0)),.string (Qv x.natAbs)]
def Zbc(x:Int):Int:=if 65536<bl x.natAbs then 0 else x
def Zi4(x:Int):Int:=if 65536<bl x.natAbs then 7 else 0
theorem Yov(x:Int):bl (Zbc x).natAbs<=65536:=by
 unfold Zbc;split
 .decide
 .omega
theorem Iw(h:bl x.natAbs<=65536):Zbc x=x:=by unfold Zbc;rw [aD O]
theorem Zqp(h:bl x.natAbs<=65536):Zi4 x=0:=by unfold Zi4;rw [aD O]
theorem You(h:65536<bl x.natAbs):Zbc x=0:=by unfold Zbc;rw [aG h]
theorem Ynz(h:65536<bl x.natAbs):Zi4 x=7:=by unfold Zi4;rw [aG h]
abbrev Zci (x:Int):Value:= .tuple #[wv (Zbc x),.int .i64 (Zi4 x)]
theorem Ycc(h:((65536:Int)<((bl x.natAbs:Nat):Int))):Zci x= .tuple #[.agg #[.bool false,.string ⟨#[]⟩],.int .i64 7]:=by unfold Zci;rw [You O,Ynz O];rfl
theorem Zyb(h:¬((65536:Int)<((bl x.natAbs:Nat):Int))):Zci x= .tuple #[wv x,.int .i64 0]:=by unfold Zci;rw [Iw O,Zqp O]
theorem Zr3(hs:sg false x)(h:¬((65536:Int)<((bl x.natAbs:Nat):Int))):Zci x= .tuple #[.agg #[.bool false,.string (Qv x.natAbs)],.int .i64 0]:=by rw [Zyb h,wv,aM (by have:=hs.2 rfl;omega)]
theorem Zr2(hs:sg true x)(h:¬((65536:Int)<((bl x.natAbs:Nat):Int))):Zci x= .tuple #[.agg #[.bool (decide ((0:Int)<(((dg U x.natAbs).length:Nat):Int))),.string (Qv x.natAbs)],.int .i64 0]:=by have a:=hs.1 rfl;have c:=Ok Xv x.natAbs;rw [Zyb h,wv,show decide (x<0)=decide ((0:Int)<(((dg U x.natAbs).length:Nat):Int))from bJ.2 ⟨λh=>O,λh=>O⟩]
theorem Zd8{q r:Int}(d:y≠0)(h:x=y*q+r)(l:0<=r)(m:r<(y.natAbs:Int)):x/y=q/\x%y=r:=by
 have e:=Int.mul_ediv_add_emod x y;have i:=mI x d;have j:=Int.emod_lt x d;have c:x/y=q:=by
  have g:y*(x/y-q)=r-x%y:=by rw [Int.mul_sub];omega
  have a:(y*(x/y-q)).natAbs<y.natAbs:=by rw [g];omega
  rw [cF]at a;rcases aV (x/y-q).natAbs with h|h
  .omega
  .exact absurd (dO y.natAbs h) O
 refine⟨c,?_⟩;rw [c]at e;omega
theorem Zv2(h:sg s x):x=if s then -(x.natAbs:Int)else(x.natAbs:Int):=by cases s<;>simp [sg]at*<;>omega
theorem Ya0(hs:sg s x)(d:sg t y)(e:y≠0)(Q R:Nat)(g:R<y.natAbs)(h:x=(if s then -1 else 1)*((y.natAbs:Int)*Q)+R) :
  sg (s != t) (x/y)/\(x/y).natAbs=Q/\(x%y).natAbs=R:=by
 have c:=Zv2 d;have a:x/y=(if s != t then -(Q:Int)else Q)/\x%y=R:=by
  refine Zd8 e ?_ O O
  conv=>lhs;rw [h]
  conv=>rhs;rw [c]
  cases s<;>cases t<;>simp [oE,jW]
 rw [a.1,a.2];cases s<;>cases t<;>simp [sg]
theorem divB(hs:sg s x)(h:sg t y)(i:y≠0)(g:s=false\/x.natAbs%y.natAbs=0):sg (s != t) (x/y)/\(x/y).natAbs=x.natAbs/y.natAbs/\(x%y).natAbs=x.natAbs%y.natAbs:=by
 have c:=Zv2 hs;have e:=bZ x.natAbs y.natAbs;refine Ya0 hs h i _ _ (bO _ O) ?_;have a:((y.natAbs:Int)*((x.natAbs/y.natAbs:Nat):Int))+((x.natAbs%y.natAbs:Nat):Int)=x.natAbs:=by rw [<-eW,<-kP,e]
 rcases g with rfl|d
 .simp at c ⊢;simp at a;omega
 .rw [d]at a ⊢;cases s<;>simp at c a ⊢<;>omega
theorem divA(hs:sg true x)(a:sg t y)(c:y≠0)(g:0<x.natAbs%y.natAbs):sg (true != t) (x/y)/\(x/y).natAbs=x.natAbs/y.natAbs+1/\(x%y).natAbs=y.natAbs-x.natAbs%y.natAbs:=by
 have i:=Zv2 hs;have e:=bZ x.natAbs y.natAbs;have h:=bO x.natAbs (show 0<y.natAbs by omega);refine Ya0 hs a c _ _ O ?_;have d:((y.natAbs:Int)*((x.natAbs/y.natAbs:Nat):Int))+((x.natAbs%y.natAbs:Nat):Int)=x.natAbs:=by rw [<-eW,<-kP,e]
 rw [Int.natCast_sub O,kP,kK];generalize ((y.natAbs:Int)*((x.natAbs/y.natAbs:Nat):Int))=P at *;generalize ((x.natAbs%y.natAbs:Nat):Int)=R at *;simp only [lL]at *;omega
def okW(b:Bool)(s:ByteArray):Bool:=if s.size=0 then !b else decide ((s.data.toList.getD 0 0).toNat≠0) && decide (s.size<=8192)
theorem bl256{n:Nat} : (dg 256 n).length<=k↔bl n<=8*k:=by rw [Zh0];omega
theorem Zcx(h:bl x.natAbs<=65536):okW (decide (x<0)) (Qv x.natAbs)=true:=by
 unfold okW;rw [Fw];split
 .rename_i c;have:=(Ok (by omega:2<=256) x.natAbs).1 c;simp;omega
 .rename_i c;have g:0<x.natAbs:=by
   rcases aV x.natAbs with a|a
   .rw [a]at c;simp [Gi]at c
   .exact a
  have a:=Zmn x.natAbs 0 O;have d:=dg_top (by omega:2<=256) g;rw [He O]at d;have e:=(bl256 (n:=x.natAbs) (k:=8192)).2 O;rw [aS];refine⟨aL (by rw [a];simpa using d),aL e⟩
theorem Zh8{a b:ByteArray}(h:a.data.toList=b.data.toList):a=b:=by cases a;cases b;simp at h;rw [h]
theorem Yo8{s:ByteArray}(e:s.size≠0)(h:(s.data.toList.getD 0 0).toNat≠0):s=Qv (Yq 256 (s.data.toList.reverse.map UInt8.toNat)):=by
 have g:s.data.toList.length=s.size:=rfl;have a:∀d∈s.data.toList.reverse.map UInt8.toNat,d<256:=λd c=>by obtain⟨u,_,rfl⟩:=fT.1 c;exact u.toNat_lt
 refine Zh8 ?_;unfold Qv;rw [Kt O _ a,tz_eq]
 .simp [List.map_reverse,Function.comp_def]
 .refine .inr ?_;rw [aP,List.length_reverse,aI,eR,List.getElem?_reverse O];rw [show s.data.toList.length-1-(s.data.toList.length-1)=0 by omega];rw [aI]at h;cases hx:s.data.toList[0]? with
  | none=>rw [hx]at h;simp at h
  | some u=>rw [hx]at h;simpa using h
theorem Zp3{s:ByteArray}(h:okW b s=true):∃x:Int,bl x.natAbs<=65536/\b=decide (x<0)/\s=Qv x.natAbs:=by
 unfold okW at h;split at h
 .rename_i c;refine⟨0,by simp [Ll],?_,?_⟩
  .cases b<;>simp_all
  .refine Zh8 ?_;have:s.data.toList.length=0:=c;rw [aC this];rfl
 .rename_i c;rw [aS]at h;have e:=cC h.1;have g:=cC h.2;have hs:=Yo8 c e;generalize Yq 256 (s.data.toList.reverse.map UInt8.toNat)=n at hs;have d:(dg 256 n).length=s.size:=by rw [hs,Fw]
  have i:0<n:=by
   rcases aV n with h|h
   .subst h;simp [Gi]at d;omega
   .exact h
  have a:bl n<=65536:=by have:=(bl256 (n:=n) (k:=8192)).1 O;omega
  cases b with
  | true=>exact⟨-(n:Int),by simpa using a,O8,by simpa using hs⟩
  | false=>exact⟨n,by simpa using a,O5,by simpa using hs⟩
def eqW(a:Bool)(s:ByteArray)(b:Bool)(t:ByteArray):Bool:=(a == b) && (s.toList == t.toList)
theorem Yek(h:decide (x<0)=decide (y<0))(g:Qv x.natAbs=Qv y.natAbs):x=y:=by
 have j:x.natAbs=y.natAbs:=by
  have a:(dg 256 x.natAbs).reverse.map UInt8.ofNat=(dg 256 y.natAbs).reverse.map UInt8.ofNat:=by have:=aF (λb:ByteArray=>b.data.toList) g;simpa [Qv]using this
  have c:∀n:Nat,((dg 256 n).reverse.map UInt8.ofNat).map UInt8.toNat=(dg 256 n).reverse:=λn=>by
   rw [kW]
   conv=>rhs;rw [<-List.map_id (dg 256 n).reverse]
   refine kR λd i=>?_;have:=Nt (by omega:2<=256) n d (List.mem_reverse.1 i);simp [UInt8.toNat_ofNat',aW this]
  have e:=aF (List.map UInt8.toNat) a;rw [c,c]at e;exact(Zh5 (by omega:2<=256)).1 (List.reverse_inj.1 e)
 have a:=bJ.1 h;omega
theorem Zq1{a:Bool}{s t:ByteArray} : eqW a s b t=true↔a=b/\s=t:=by unfold eqW;rw [aS,ByteArray.toList_eq,ByteArray.toList_eq,kZ,kZ];exact⟨λh=>⟨h.1,Zh8 h.2⟩,λh=>⟨h.1,by rw [h.2]⟩⟩
theorem Yje(x y:Int):eqW (decide (x<0)) (Qv x.natAbs) (decide (y<0)) (Qv y.natAbs)=decide (x=y):=by rw [Bool.eq_iff_iff,Zq1,fG];exact⟨λh=>Yek h.1 h.2,λh=>by rw [h];exact⟨rfl,rfl⟩⟩
theorem Xh(x:Int):sg (decide (x<0)) x:=by unfold sg;simp;omega
def Kz(x y:Int):bl (x+y).natAbs<=max (bl x.natAbs) (bl y.natAbs)+1:=
 aB (Oi (lN x y)) (bl_add _ _)
theorem Yo(x y:Int):bl (x*y).natAbs<=bl x.natAbs+bl y.natAbs:=by rw [cF];exact Zms _ _
theorem Bn(x y:Int):bl (x-y).natAbs<=max (bl x.natAbs) (bl y.natAbs)+1:=by have:=Kz x (-y);rwa [dU,<-fH]at this
theorem Zmr(x:Int):bl (-x).natAbs=bl x.natAbs:=by rw [dU]
theorem Zj6(x y:Int):bl (x/y).natAbs<=bl x.natAbs+1:=by have h:(x/y).natAbs<=x.natAbs:=jO x y;have:=Oi h;omega
theorem Zrr(x y:Int)(a:y≠0):bl (x%y).natAbs<=bl y.natAbs:=by have c:=mI x a;have d:=Int.emod_lt x a;exact Oi O
theorem Zrs(x y:Nat):bl (Nat.gcd x y)<=max (bl x) (bl y):=by
 rcases aV x with h|h
 .subst h;rw [Nat.gcd_zero_left];omega
 .have:=Oi (lW h (mB x y));omega
def Ymd(x:Int)(h:y≠0):sg false (x%y):=⟨λa=>Bool.noConfusion a,λ_=>mI x h⟩
def Lv(x y:Int):Int:=if y<0 then -(Int.gcd x y:Int)else(Int.gcd x y:Int)
theorem Zcz(x y:Int):(Lv x y).natAbs=Nat.gcd x.natAbs y.natAbs:=by unfold Lv;split<;>simp [Int.gcd]
theorem Ynj(h:y≠0):Lv x y≠0:=λe=>by have a:=Zcz x y;rw [e]at a;have:=(Nat.gcd_eq_zero_iff.1 a.symm).2;omega
theorem Ymb(a:sg t y)(c:y≠0):sg t (Lv x y):=by
 unfold Lv sg at *;refine⟨λh=>?_,λh=>?_⟩
 .rw [aG (by have:=a.1 h;omega)];omega
 .rw [aD (by have:=a.2 h;omega)];omega
theorem Zz5(v:Value)(x y:Int):Ey v (Nat.gcd x.natAbs y.natAbs)=Ey v (Lv x y).natAbs:=by rw [Zcz]
def Ic(x y:Int):Prop:=65536<bl (x/Lv x y).natAbs\/65536<bl (y/Lv x y).natAbs
instance (x y:Int):Decidable (Ic x y):=by unfold Ic;infer_instance
def Cq(x y:Int):Int:=if Ic x y then 0 else x/Lv x y
def Dd(x y:Int):Int:=if Ic x y then 0 else y/Lv x y
def Ygd(x y:Int):Int:=if Ic x y then 7 else 0
abbrev Zbu (x y:Int):Value:= .tuple #[.agg #[.bool (decide (Cq x y<0)),.string (Qv (Cq x y).natAbs),.bool (decide (Dd x y<0)),.string (Qv (Dd x y).natAbs)],.int .i64 (Ygd x y)]
theorem Zbt(h:Ic x y):Zbu x y= .tuple #[.agg #[.bool false,.string ⟨#[]⟩,.bool false,.string ⟨#[]⟩],.int .i64 7]:=by unfold Zbu Cq Dd Ygd;rw [aG h,aG h,aG h];rfl
theorem Zag(h:Zi4 x≠0):65536<bl x.natAbs:=by
 unfold Zi4 at h;split at h
 .assumption
 .exact absurd rfl h
theorem Zjv(h:Zi4 x=0):bl x.natAbs<=65536:=by
 unfold Zi4 at h;split at h
 .omega
 .omega
theorem Zs8(c:Zi4 (x/Lv x y)=0)(d:Zi4 (y/Lv x y)=0):Zbu x y= .tuple #[.agg #[.bool (decide (Zbc (x/Lv x y)<0)),.string (Qv (Zbc (x/Lv x y)).natAbs),.bool (decide (Zbc (y/Lv x y)<0)),.string (Qv (Zbc (y/Lv x y)).natAbs)],.int .i64 0]:=by
 have a:¬Ic x y:=λh=>by have:=Zjv c;have:=Zjv d;unfold Ic at h;omega
 unfold Zbu Cq Dd Ygd;rw [aD a,aD a,aD a,Iw (Zjv c),Iw (Zjv d)]
def okR(b:Bool)(s:ByteArray)(c:Bool)(t:ByteArray):Bool:=okW b s && okW c t && (!c && decide (0<t.size))
theorem Zpv(z:Int):(!decide (z<0) && decide (0<(Qv z.natAbs).size))=decide (0<z):=by rw [Bool.eq_iff_iff,aS,Fw,fG,fG];have:=Ok (by omega:2<=256) z.natAbs;simp only [gC,gD];omega
theorem Eb(z:Int):decide (0<z.sign)=decide (0<z):=by
 rw [bJ];rcases kB z 0 with h|h|h
 .rw [eV h];omega
 .subst h;simp
 .rw [fJ h];omega
theorem Ztr{s:ByteArray}{z:Int}(a:okW b s=true)(c:bl z.natAbs<=65536):okR b s (decide (z<0)) (Qv z.natAbs)=decide (0<z.sign):=by unfold okR;rw [a,Zcx c,Zpv,Eb];rfl
theorem okR_wv(c:bl x.natAbs<=65536)(d:bl y.natAbs<=65536)(a:0<y):okR (decide (x<0)) (Qv x.natAbs) (decide (y<0)) (Qv y.natAbs)=true:=by unfold okR;rw [Zcx c,Zcx d,Zpv];simp [a]
theorem Yhk{c:Bool}{s t:ByteArray}(h:okR b s c t=true):∃x y:Int,bl x.natAbs<=65536/\bl y.natAbs<=65536/\0<y/\b=decide (x<0)/\s=Qv x.natAbs/\c=decide (y<0)/\t=Qv y.natAbs:=by unfold okR at h;rw [aS,aS]at h;obtain⟨⟨d,e⟩,a⟩:=h;obtain⟨x,g,rfl,rfl⟩:=Zp3 d;obtain⟨y,i,rfl,rfl⟩:=Zp3 e;rw [Zpv]at a;exact⟨x,y,g,i,cC a,rfl,rfl,rfl,rfl⟩
open Go.RowKit (Below)
def Sz(n:Nat)(p:List Int):Prop:=∀i,bl (cf p i).natAbs<=n
def Sz.getD{n:Nat}(h:Sz n p)(i:Nat):bl (p.getD i 0).natAbs<=n:=h i
def Sz.mono{n m:Nat}(h:Sz n p)(a:n<=m):Sz m p:=λi=>aB (h i) a
theorem Sz.tzl{n:Nat}(h:Sz n p):Sz n (tzl p):=λi=>by rw [Mu];exact h i
theorem Sz.nil(n:Nat):Sz n []:=λi=>by simp [cf,Ll]
theorem Sz.take{n:Nat}(h:Sz n p)(k:Nat):Sz n (p.take k):=λi=>by
 rw [Ep];split
 .exact h i
 .simp [Ll]
theorem Sz.mem{n:Nat}(h:Sz n p)(a:x∈p):bl x.natAbs<=n:=by obtain⟨i,hi,rfl⟩:=eN.1 a;have:=h i;rwa [Zdc hi]at this
theorem Sz.of_mem{n:Nat}(h:∀x∈p,bl x.natAbs<=n):Sz n p:=λi=>by
 rcases bA i p.length with hi|hi
 .rw [Zdc hi];exact h _ (fO hi)
 .rw [Yf hi];simp [Ll]
structure Vp (p:List Int):Prop where
 sz:Sz 65536 p
 tr:Tr p
 len:p.length<=25
def wr(x:Int):Bool×ByteArray:=(decide (x<0),Qv x.natAbs)
def okP(r:List (Bool×ByteArray)):Bool:=r.all (λw=>okW w.1 w.2) && (decide (r.length<=25) && (decide (r.length=0) || decide ((r.getD (r.length-1) (false,⟨#[]⟩)).2.size≠0)))
theorem Zfg : (Qv x.natAbs).size=0↔x=0:=by rw [Fw];have:=Ok (by omega:2<=256) x.natAbs;omega
theorem Zc2(xs:List Int)(i:Nat)(h:i<xs.length):(xs.map wr).getD i (false,⟨#[]⟩)=wr (cf xs i):=by rw [Zdc h];simp [List.getD,h]
theorem okP_wr(h:Vp xs):okP (xs.map wr)=true:=by
 unfold okP;rw [aS,aS,mJ];refine⟨cP.2 λw e=>?_,by simpa using h.len,?_⟩
 .obtain⟨x,g,rfl⟩:=fT.1 e;exact Zcx (h.sz.mem g)
 .rcases h.tr with a|a
  .left;simp [a]
  .right;have i:0<xs.length:=by
    rcases aV xs.length with c|c
    .rw [Yf O]at a;exact absurd rfl a
    .exact c
   rw [aP,Zc2 _ _ O];refine aL λd=>a (Zfg.1 d)
theorem Ztq{r:List (Bool×ByteArray)}(h:∀w∈r,okW w.1 w.2=true):∃xs:List Int,(∀x∈xs,bl x.natAbs<=65536)/\r=xs.map wr:=by
 induction r with
 | nil=>exact⟨[],O5,rfl⟩
 | cons w r l=>
  obtain⟨xs,c,d⟩:=l λu i=>h u (bG _ i);obtain⟨x,j,e,g⟩:=Zp3 (h w (bR ..));refine⟨x::xs,λy a=>?_,?_⟩
  .rcases bQ.1 a with rfl|a
   .exact j
   .exact c y a
  .rw [cJ,<-d,wr,<-e,<-g]
theorem okP_ex{r:List (Bool×ByteArray)}(h:okP r=true):∃xs:List Int,Vp xs/\r=xs.map wr:=by
 unfold okP at h;rw [aS,aS,mJ]at h;obtain⟨d,e,a⟩:=h;obtain⟨xs,g,rfl⟩:=Ztq (cP.1 d);refine⟨xs,⟨Sz.of_mem g,?_,by simpa using e⟩,rfl⟩;rcases a with a|a
 .left;exact aC (by simpa using a)
 .rcases aV xs.length with c|c
  .left;exact aC c
  .right;rw [aP,Zc2 _ _ O]at a;exact λi=>cC a (Zfg.2 i)
theorem Zkj{j:Nat}(h:j<k)(a:(xs.take k).getD j 0=0):cf xs j=0:=by rw [Zd5 _ _ _ _ h]at a;exact a
theorem Zfp{j:Nat}(h:j<k)(a:¬((xs.take k).getD j 0).sign=0):cf xs j≠0:=λe=>a (by rw [Zd5 _ _ _ _ h];rw [show xs.getD j 0=0 from e];rfl)
theorem Ym9{r:List (Bool×ByteArray)}{w:Bool×ByteArray}(a:w∈r)(h:okW w.1 w.2=false):okP r=false:=by unfold okP;rw [show r.all (λw=>okW w.1 w.2)=false from List.all_eq_false.2 ⟨w,a,by simp [h]⟩];rfl
theorem Zp4(h:∀x∈xs,bl x.natAbs<=65536):okP (xs.map wr)=(decide (xs.length<=25) && (decide (xs.length=0) || decide (¬(xs.getD (xs.length-1) 0).sign=0))):=by
 unfold okP;rw [show(xs.map wr).all (λw=>okW w.1 w.2)=true from cP.2 λw c=>by obtain⟨x,d,rfl⟩:=fT.1 c;exact Zcx (h x d)]
 rw [aP,nK];congr 1;by_cases a:xs.length=0
 .simp [a]
 .rw [aM a,Bool.false_or,Bool.false_or,Zc2 _ _ O];rw [bJ,eP];exact not_congr Zfg
def err(e x:Int):Int:=if e=0 then Zi4 x else e
theorem Zxa(h:bl x.natAbs<=65536):err 0 x=0:=by unfold err;rw [aG rfl,Zqp h]
def Xo:List Int->Nat
 | []=>0
 | x::r=>max (bl x.natAbs) (Xo r)
theorem Pa(p:List Int):Sz (Xo p) p:=by
 refine Sz.of_mem λx a=>?_
 induction p with
 | nil=>cases a
 | cons y r c=>
  rcases bQ.1 a with rfl|h
  .simp only [Xo];omega
  .have:=c h;simp only [Xo];omega
theorem Qp{n:Nat}(h:Sz n p):Xo p<=n:=by
 have c:∀x∈p,bl x.natAbs<=n:=λx a=>h.mem a;clear h
 induction p with
 | nil=>exact bD _
 | cons y r d=>
  have:=c y (bR ..);have:=d λx a=>c x (bG _ a);simp only [Xo];omega
theorem Yh1(p:List Int)(x:Int):Xo (p ++ [x])=max (Xo p) (bl x.natAbs):=by
 induction p with
 | nil=>simp [Xo]
 | cons y r a=>simp only [iF,Xo,a];omega
variable {P:Program} {N:Nat} {sc:Nat->Prop} {env env':Ob} {H H':Hp} {Q Q':Exit->Act->World->Prop} {M:Nat->Prop}
theorem fpm{α β:Type}{f:α->β}{xs:List α}{p:Prop}(h:xs.map f≠[]/\p):xs≠[]/\p:=⟨λe=>h.1 (by rw [e];rfl),h.2⟩
def fpn{α β:Type}{f:α->β}{xs:List α}{p:Prop}(h:xs≠[]/\p):xs.map f≠[]/\p:=⟨λe=>h.1 (List.map_eq_nil_iff.1 e),h.2⟩
theorem Zvz(v:Value)(xs:List Int)(w:World)(h:(Yw 2 wv v xs).holds w):(Yw 2 (λw:Bool×ByteArray=>Value.agg #[.bool w.1,.string w.2]) v (xs.map wr)).holds w:=by
 obtain⟨⟨a,c,l,m,n,d⟩,q⟩:=h;refine⟨⟨a,c,by rw [aP];exact l,by rw [aP];exact m,n,?_⟩,λb h=>q b (fpm h)⟩;rcases d with d|⟨g,e,d,o⟩
 .left;rw [d];rfl
 .right;refine⟨g,e,d,λi x hi j u r=>?_⟩;rw [eR]at hi;cases hx:xs[i]? with
  | none=>rw [hx]at hi;cases hi
  | some y=>rw [hx]at hi;cases hi;exact o i y hx j u r
theorem Yl7(v:Value)(xs:List Int)(w:World)(h:(Yw 2 (λw:Bool×ByteArray=>Value.agg #[.bool w.1,.string w.2]) v (xs.map wr)).holds w):(Yw 2 wv v xs).holds w:=by
 obtain⟨⟨a,c,l,m,n,d⟩,q⟩:=h;rw [aP]at l m;refine⟨⟨a,c,l,m,n,?_⟩,λb h=>q b (fpn h)⟩;rcases d with d|⟨g,e,d,o⟩
 .left;simpa using d
 .right;refine⟨g,e,d,λi x hi j u r=>?_⟩;exact o i (wr x) (by rw [eR,hi];rfl) j u r
theorem Cal.imp{p q:Pc}{al:Bool}{G:Type}{φ:G->Prop}{Yq:G->Value}{i:G->List Pc}(h:Cal P f args (p::pre) al φ Yq i)(F:∀w,q.holds w->p.holds w)(z:∀b,p.fp b->q.fp b) :
  Cal P f args (q::pre) al φ Yq i:=λw m=>by
 refine(h w λr a=>?_).mono ?_
 .rcases bQ.1 a with rfl|a
  .exact F w (m q (bR ..))
  .exact m r (bG _ a)
 .rintro e S ⟨g,v,B,j,c⟩;refine⟨g,v,B,j,λI l=>?_⟩;obtain⟨n,o,u⟩:=c I l;refine⟨n,o,λb j=>?_⟩;rcases u b j with h|⟨h,r,a,d⟩
  .exact .inl h
  .refine .inr ⟨h,?_⟩;rcases bQ.1 a with rfl|a
   .exact⟨q,bR ..,z b d⟩
   .exact⟨r,bG _ a,d⟩
end Go.Sky
namespace Go.Sky
variable{k m i:Nat}{f:Nat->Int}{xs:List Int}
def fill(n k:Nat)(f:Nat->Int):List Int:=mk n λi=>if i<k then f i else 0
def Ps(n k:Nat)(f:Nat->Int):(fill n k f).length=n:=Yu _ _
theorem Zc3{n:Nat}(h:k<n):(fill n k f).set k (f k)=fill n (k+1) f:=Ie (by simp [Ps]) λi hi=>by
 rw [cL,Ps]at hi;rw [Zml _ _ _ _ (by rw [Ps];exact h)];unfold fill;rw [Nq,Nq,aG hi,aG hi];by_cases b:i=k
 .subst b;rw [aG rfl,aG O]
 .rw [aD b];by_cases a:i<k
  .rw [aG a,aG O]
  .rw [aD a,aD O]
theorem Bt(n:Nat)(f:Nat->Int):List.replicate n 0=fill n 0 f:=Ie (by simp [Ps]) λi hi=>by rw [aT]at hi;unfold fill;rw [Nq,aG hi,aD O,Zdc (by simpa using hi)];simp
theorem El(n:Nat)(f:Nat->Int):fill n n f=mk n f:=Hu λi hi=>by rw [aG hi]
theorem Zqb(xs:List Int)(g:Int->Int):mk xs.length (λi=>g (cf xs i))=xs.map g:=Ie (by simp [Yu]) λi hi=>by rw [Yu]at hi;rw [Nq,aG hi,Zdc hi,Zdc (p:=xs.map g) (by simpa using hi)];simp
theorem Cw{n:Nat}(h:∀i,i<n->bl (f i).natAbs<=m):Sz m (mk n f):=λi=>by
 rw [Nq];split
 .exact h i ‹_›
 .simp [Ll]
theorem Ni{p:List Int}(h:Tr p):Tr (Yx p):=by
 unfold Yx;rcases bA 1 p.length with a|a
 .right;rw [Yu,Nq,aG O];have c:=h.mem (by intro e;rw [e]at a;simp at a);rw [show p.length-1-1+1=p.length-1 by omega];intro d;rcases eI.1 d with b|b
  .exact c b
  .omega
 .left;exact aC (by rw [Yu];omega)
theorem Yc6(xs:List Int)(c:Int):tzl (fill xs.length xs.length λi=>cf xs i*c)=Zs xs c:=by rw [El,Zqb xs (· * c)];rfl
theorem Ym3(h:Tr xs):tzl (fill (xs.length-1) (xs.length-1) λi=>cf xs (i+1)*((i:Int)+1))=Yx xs:=by rw [El];exact Zal (Ni h)
theorem Yhd{p:List Int}(h:p.length=0):Yx p=[]:=aC (by unfold Yx;rw [Yu];omega)
theorem Zld(p:List Int)(x:Int):Ys (p ++ [x])=(Int.gcd (Ys p) x:Int):=by unfold Ys;rw [List.foldl_append];rfl
theorem Nk(p:List Int):0<=Ys p:=by
 rcases Zje p with rfl|⟨a,y,rfl⟩
 .exact fA _
 .rw [Zld];omega
theorem Lb{p:List Int}(h:k<p.length):Ys (p.take (k+1))=(Int.gcd (Ys (p.take k)) (p.getD k 0):Int):=by rw [Py 0 _ _ h,Zld]
theorem Za4{n:Nat} : ∀(p:List Int),Sz n p->bl (Ys p).natAbs<=n:=λp=>by
 have a:∀k,k<=p.length->Sz n p->bl (Ys (p.take k)).natAbs<=n:=by
  intro k
  induction k with
  | zero=>intro _ _;rw [dS];exact bD _
  | succ k d=>
   intro c hs;rw [Lb c];have e:=d O hs;have b:=hs k;have:=Zrs (Ys (p.take k)).natAbs (p.getD k 0).natAbs;have g:bl (p.getD k 0).natAbs<=n:=b;show bl (Nat.gcd _ _)<=n;omega
 intro hs;have:=a p.length (aH _) hs;rwa [bL]at this
theorem Ln(p:List Int):∀i,Ys p∣cf p i:=by
 have a:∀k,k<=p.length->∀i,i<k->Ys (p.take k)∣cf p i:=by
  intro k
  induction k with
  | zero=>intro _ i hi;omega
  | succ k c=>
   intro b i hi;rw [Lb b];rcases bA i k with h|h
   .exact iB (kI ..) (c O i h)
   .have:i=k:=O;subst this;exact jB ..
 intro i;rcases bA i p.length with h|h
 .have:=a p.length (aH _) i h;rwa [bL]at this
 .rw [Yf h];exact jL _
theorem Zcv(p:List Int):Ys p=0↔∀i,cf p i=0:=by
 refine⟨λh i=>by have:=Ln p i;rw [h]at this;exact nY.1 this,λh=>?_⟩;have a:∀k,k<=p.length->Ys (p.take k)=0:=by
  intro k
  induction k with
  | zero=>intro _;rfl
  | succ k c=>
   intro b;rw [Lb b,c O];have:=h k;rw [show p.getD k 0=0 from this];rfl
 have:=a p.length (aH _);rwa [bL]at this
theorem Ft{p:List Int}{d:Int}(h:∀i,d∣cf p i):d∣Ys p:=by
 have a:∀k,k<=p.length->d∣Ys (p.take k):=by
  intro k
  induction k with
  | zero=>intro _;exact jL _
  | succ k c=>
   intro b;rw [Lb b];exact Int.dvd_coe_gcd (c O) (h k)
 have:=a p.length (aH _);rwa [bL]at this
theorem Zbf(p:List Int)(i:Nat):cf (Zx p) i=cf p i/Ys p:=by unfold Zx;rw [Zdb _ _ O5]
theorem Zw(p:List Int):(Zx p).length=p.length:=by simp [Zx]
theorem Iv{x y:Int}{n:Nat}(h:y∣x)(b:bl x.natAbs<=n):bl (x/y).natAbs<=n:=by have a:(x/y).natAbs<=x.natAbs:=jO x y;exact aB (Oi a) b
theorem Yv{p:List Int}(h:Tr p):Tr (Zx p):=by
 rcases h with rfl|h
 .left;rfl
 .right;rw [Zbf,Zw];intro a;have b:=Ln p (p.length-1);have:=kM b;rw [a,dL]at this;exact h this.symm
theorem Hl{n:Nat}{p:List Int}(h:Sz n p):Sz n (Zx p):=λi=>by rw [Zbf];exact Iv (Ln p i) (h i)
theorem Lp{p:List Int}(h:Vp p):Vp (Zx p):=⟨Hl h.sz,Yv h.tr,by rw [Zw];exact h.len⟩
def Vp.ne{p:List Int}(h:Vp p)(a:p≠[]):Ys p≠0:=λe=>h.tr.mem a ((Zcv p).1 e _)
def Ig(p:List Int)(n d:Int)(i:Nat):Int:=Ye (λm=>cf p (i+m)*(n^m*d^(p.length-1-(i+m)))) (p.length-i)
theorem Zue(p:List Int)(n d:Int):Ig p n d 0=pev p n d:=by unfold Ig pev;simp only [bX,jI]
theorem Yns{p:List Int}(n d:Int)(h:0<p.length):Ig p n d (p.length-1)=cf p (p.length-1):=by unfold Ig;rw [show p.length-(p.length-1)=0+1 by omega,Yi,Hm];simp
theorem Yio{p:List Int}(n d:Int)(h:i<p.length):Ig p n d i=Ig p n d (i+1)*n+cf p i*d^(p.length-1-i):=by
 unfold Ig;rw [show p.length-i=p.length-(i+1)+1 by omega,Mp];rw [<-Zkl];have:Ye (λm=>cf p (i+(m+1))*(n^(m+1)*d^(p.length-1-(i+(m+1))))) (p.length-(i+1))=Ye (λm=>cf p (i+1+m)*(n^m*d^(p.length-1-(i+1+m)))*n) (p.length-(i+1)):=
  Xa λm a=>by rw [show i+(m+1)=i+1+m by omega,cZ];grind
 rw [this];simp only [eF,cK,eQ];omega
theorem Zx2{K:Nat}{f:Nat->Int} : ∀{n:Nat},(∀i,i<n->bl (f i).natAbs<=K)->(Ye f n).natAbs<=n*(2^K-1)
 | 0,_=>by simp [Ye]
 | n+1,h=>by have b:=Zx2 (n:=n) λi hi=>h i O;have a:=(Qm K _).1 (h n O);rw [Yi,bF];have:=lN (Ye f n) (f n);omega
theorem Zj3{K:Nat}{n:Nat}(h:∀i,i<n->bl (f i).natAbs<=K)(a:n<=31):bl (Ye f n).natAbs<=K+5:=by rw [Qm];have b:=Zx2 h;have c:n*(2^K-1)<=31*(2^K-1):=aK _ a;have d:0<2^K:=dJ K;rw [bT];omega
theorem Fb(x:Int){m:Nat}(h:bl x.natAbs<=m):∀k,0<k->bl (x^k).natAbs<=k*m
 | 0,a=>O
 | 1,_=>by rw [cZ,cK,eQ,lM];exact h
 | k+2,_=>by have b:=Fb x h (k+1) O;rw [cZ,show k+2=(k+1)+1 from rfl,bF (k+1) 1 m];have:=Yo (x^(k+1)) x;omega
def Yks:bl 1=1:=O3
theorem Zg5{a n d:Int}{A j:Nat}(l:bl a.natAbs<=A)(h:bl n.natAbs<=m)(g:bl d.natAbs<=m):bl (a*(n^i*d^j)).natAbs<=A+(i+j)*m:=by
 rcases aV i with rfl|hi
 .rcases aV j with rfl|c
  .simp;exact l
  .have e:=Fb d g j c;have b:=Yo a (n^0*d^j);rw [cK,eQ]at b ⊢;rw [bX];omega
 .rcases aV j with rfl|c
  .have e:=Fb n h i hi;have b:=Yo a (n^i*d^0);rw [cK,fL]at b ⊢;rw [eF];omega
  .have e:=Fb n h i hi;have b:=Fb d g j c;have o:=Yo (n^i) (d^j);have p:=Yo a (n^i*d^j);rw [bF];omega
theorem Ykt{p:List Int}{n d:Int}{A:Nat}(e:Sz A p)(c:bl n.natAbs<=m)(b:bl d.natAbs<=m)(h:p.length<=31)(i:Nat):bl (Ig p n d i).natAbs<=A+(p.length-1-i)*m+5:=by unfold Ig;refine Zj3 (λk g=>?_) O;have a:=Zg5 (i:=k) (j:=p.length-1-(i+k)) (e (i+k)) c b;rw [show k+(p.length-1-(i+k))=p.length-1-i by omega]at a;exact a
def Ks(p:List Int)(n d:Int):Prop:=p≠[]/\65536<Xo p+(p.length-1)*Xo [n,d]+8
instance (p:List Int) (n d:Int):Decidable (Ks p n d):=by unfold Ks;infer_instance
def evv(p:List Int)(n d:Int):Int:=if Ks p n d then 0 else pev p n d
def eve(p:List Int)(n d:Int):Int:=if Ks p n d then 7 else 0
abbrev wc (x:Int):Array Value:=#[.bool (decide (x<0)),.string (Qv x.natAbs)]
section
variable {p:List Int} {n d:Int} (hF:Xo p+(p.length-1)*Xo [n,d]+8<=65536) (hl:p.length<=25)
include hF
theorem Ziu:bl n.natAbs<=Xo [n,d]/\bl d.natAbs<=Xo [n,d]:=by simp only [Xo];omega
theorem Zqz : bl (d^(p.length-1-k)).natAbs<=65536:=by
 rcases aV (p.length-1-k)with h|h
 .rw [h,cK];decide
 .have a:=Fb d (Ziu hF).2 _ h;have b:(p.length-1-k)*Xo [n,d]<=(p.length-1)*Xo [n,d]:=aK _ O;omega
theorem Zqy : bl (cf p k*d^(p.length-1-k)).natAbs<=65536:=by have a:=Zg5 (i:=0) (j:=p.length-1-k) (Pa p k) (Ziu hF).1 (Ziu hF).2;have b:(0+(p.length-1-k))*Xo [n,d]<=(p.length-1)*Xo [n,d]:=aK _ O;rw [cK,eQ]at a;omega
include hl
theorem Zq0(k:Nat):bl (Ig p n d k).natAbs<=65536:=by have a:=Ykt (Pa p) (Ziu hF).1 (Ziu hF).2 O k;have b:(p.length-1-k)*Xo [n,d]<=(p.length-1)*Xo [n,d]:=aK _ O;omega
theorem Zw8(a:1<=k)(b:k<=p.length-1):bl (Ig p n d k*n).natAbs<=65536:=by
 have c:=Ykt (Pa p) (Ziu hF).1 (Ziu hF).2 O k;have e:=Yo (Ig p n d k) n;have g:=(Ziu hF).1;have h:(p.length-1-k)*Xo [n,d]+Xo [n,d]<=(p.length-1)*Xo [n,d]:=by rw [<-dA];exact aK _ O
 omega
end
theorem evv_bl{p:List Int}{n d:Int}(hl:p.length<=25):bl (evv p n d).natAbs<=65536:=by
 unfold evv;split
 .decide
 .rename_i h;rcases aV p.length with a|a
  .rw [aC a,show pev [] n d=0 from rfl];decide
  .rw [<-Zue];have c:p≠[]:=λe=>by rw [e]at a;simp at a
   exact Zq0 (Nat.le_of_not_lt λb=>h ⟨c,b⟩) hl 0
theorem Yg3(d:Int){L:Nat}(a:1<=k)(b:k<=L):d^(L-k)*d=d^(L-(k-1)):=by rw [show L-(k-1)=L-k+1 by omega,cZ]
theorem Ydw{p:List Int}(n d:Int)(a:1<=k)(b:k<=p.length-1):Ig p n d k*n+cf p (k-1)*d^(p.length-1-(k-1))=Ig p n d (k-1):=by rw [Yio n d (i:=k-1) O,show k-1+1=k by omega]
end Go.Sky
namespace Go.Sky
variable{k i B t:Nat}{f:Nat->Int}{q r c R:List Int}{a b:Int}
def acc(p q:List Int)(i t:Nat):Int:=Ye (λk=>if k<=t then cf p k*cf q (t-k)else 0) i
def Zbg(p q:List Int)(i j t:Nat):Int:=acc p q i t+if i<=t/\t<i+j then cf p i*cf q (t-i)else 0
theorem Yed(p q:List Int)(i:Nat):Zbg p q i 0=acc p q i:=funext λt=>by unfold Zbg;rw [aD O,fC]
theorem Yk8(p q:List Int)(i:Nat):Zbg p q i q.length=acc p q (i+1):=funext λt=>by
 unfold Zbg acc;rw [Yi];by_cases h:i<=t
 .rw [aG h];by_cases d:t<i+q.length
  .rw [aG ⟨h,d⟩]
  .rw [aD (λh=>d h.2),Yf (p:=q) O,dL]
 .rw [aD h,aD (λd=>h d.1)]
theorem Zll{L:Nat}{g:Nat->Int}(j:k<L)(h:∀t,t<L->t≠k->f t=g t)(x:Int)(l:x=g k):(mk L f).set k x=mk L g:=Ie (by simp [Yu]) λt e=>by
 rw [cL,Yu]at e;rw [Zml _ _ _ _ (by rw [Yu];exact j),Nq,Nq,aG e];by_cases d:t=k
 .rw [aG d,d,l,aG j]
 .rw [aD d,aG e,h t e d]
theorem Yk7{p:List Int}{L j:Nat}(h:i+j<L):(mk L (Zbg p q i j)).set (i+j) (Zbg p q i j (i+j)+cf p i*cf q j)=mk L (Zbg p q i (j+1)):=by
 refine Zll h (λt g e=>?_) _ ?_
 .unfold Zbg;by_cases d:i<=t/\t<i+j
  .rw [aG d,aG O]
  .rw [aD d,aD O]
 .unfold Zbg;rw [aD O,aG O,fC,show i+j-i=j by omega]
theorem Zvm(p q:List Int)(t:Nat):acc p q p.length t=(ps p*ps q).c t:=by
 rw [PS.mul_c];unfold acc;have d:Ye (λk=>if k<=t then cf p k*cf q (t-k)else 0) (max (t+1) p.length)=Ye (λk=>if k<=t then cf p k*cf q (t-k)else 0) p.length:=
  Zhj O λk d _=>by rw [Yf d,cM];split<;>rfl
 have e:Ye (λk=>if k<=t then cf p k*cf q (t-k)else 0) (max (t+1) p.length)=Ye (λk=>if k<=t then cf p k*cf q (t-k)else 0) (t+1):=
  Zhj O λk d _=>by rw [aD O]
 rw [<-d,e];exact Xa λk g=>by rw [aG O];rfl
theorem Zpm(L:Nat):List.replicate L 0=mk L λ_=>0:=by rw [Bt L λ_=>0];unfold fill;exact Hu λi _=>by split<;>rfl
theorem Yg8(p q:List Int):tzl (mk (p.length+q.length-1) (acc p q p.length))=Qn p q:=by unfold Qn;congr 1;exact Hu λi _=>Zvm p q i
theorem Yph{p:List Int}{A j:Nat}(g:Sz A p)(l:Sz B q)(hi:i<31):bl (Zbg p q i j t).natAbs<=A+B+5:=by
 have h:Zbg p q i j t=Ye (λk=>if k<i then(if k<=t then cf p k*cf q (t-k)else 0)else if i<=t/\t<i+j then cf p i*cf q (t-i)else 0) (i+1):=by rw [Yi];rw [aD (Nat.lt_irrefl i)];unfold Zbg acc;congr 1;exact Xa λk d=>by rw [aG d]
 rw [h];have e:∀a b,bl (cf p a*cf q b).natAbs<=A+B:=λa b=>by have:=Yo (cf p a) (cf q b);have:=g a;have:=l b;omega
 refine Zj3 (λk d=>?_) O;split
 .split
  .exact e _ _
  .simp [Ll]
 .split
  .exact e _ _
  .simp [Ll]
theorem bl_acc{p:List Int}{A:Nat}(d:Sz A p)(e:Sz B q)(hi:i<=31):bl (acc p q i t).natAbs<=A+B+5:=by
 refine Zj3 (λk g=>?_) hi;split
 .have:=Yo (cf p k) (cf q (t-k));have:=d k;have:=e (t-k);omega
 .simp [Ll]
def Zaa(p q:List Int):Prop:=p≠[]/\q≠[]/\(24<p.length+q.length-2\/65536<Xo p+Xo q+5)
instance (p q:List Int):Decidable (Zaa p q):=by unfold Zaa;infer_instance
theorem Zd6{L:Nat}(h:i<L):(mk L f).getD i 0=f i:=by have:=Nq L f i;rw [aG h]at this;exact this
def Yn9(p q:List Int):Bool:=decide (q≠[]) && decide (p.length<q.length)
def Bm(p q:List Int):Int:=if q.length=0 then 3 else if p.length<q.length then 0 else if 65536<Xo p+(p.length-q.length+1)*(Xo q+1)then 7 else 0
def Zel(q r:List Int)(d:Nat):List Int:=
 mk r.length λt=>cf r t*cf q (q.length-1)-if d-(q.length-1)<=t/\t<d-(q.length-1)+q.length then cf r d*cf q (t-(d-(q.length-1)))else 0
def Qk(p q:List Int):Nat->List Int
 | 0=>p
 | j+1=>Zel q (Qk p q j) (p.length-1-j)
def Zgi(q r:List Int)(d:Nat):(Zel q r d).length=r.length:=Yu _ _
theorem Pj(p q:List Int):∀j,(Qk p q j).length=p.length
 | 0=>rfl
 | j+1=>by unfold Qk;rw [Zgi,Pj p q j]
def Xx(p q:List Int):List Int:=if p.length<q.length then p else tzl (Qk p q (p.length-q.length+1))
theorem Zg2{d:Nat}(e:t<r.length):cf (Zel q r d) t=cf r t*cf q (q.length-1)-if d-(q.length-1)<=t/\t<d-(q.length-1)+q.length then cf r d*cf q (t-(d-(q.length-1)))else 0:=by unfold Zel;rw [Nq,aG e]
theorem Ybx{c d:Int}{A:Nat}(j:bl a.natAbs<=A)(l:bl b.natAbs<=B)(m:bl c.natAbs<=A)(n:bl d.natAbs<=B):bl (a*b-c*d).natAbs<=A+(B+1):=by have e:=Yo a b;have g:=Yo c d;have h:=Bn (a*b) (c*d);omega
theorem Ye0{A:Nat}(e:Sz A r)(d:Sz B q)(g:Nat):Sz (A+(B+1)) (Zel q r g):=by
 unfold Zel;refine Cw λt h=>?_;split
 .exact Ybx (e t) (d _) (e _) (d _)
 .rw [fU];have:=Yo (cf r t) (cf q (q.length-1));have:=e t;have:=d (q.length-1);omega
theorem Bp(p q:List Int):∀j,Sz (Xo p+j*(Xo q+1)) (Qk p q j)
 | 0=>by rw [gI];exact Pa p
 | j+1=>by unfold Qk;rw [dA,<-fR];exact Ye0 (Bp p q j) (Pa q) _
def dq(q r:List Int)(k:Nat):Int:=cf r (k+q.length-1)/cf q (q.length-1)
def Zeq(q r:List Int)(k:Nat):List Int:=mk r.length λt=>cf r t-if k<=t/\t<k+q.length then dq q r k*cf q (t-k)else 0
def Xf(p q:List Int):Nat->List Int
 | 0=>p
 | j+1=>Zeq q (Xf p q j) (p.length-q.length-j)
theorem Gt(p q:List Int):∀j,(Xf p q j).length=p.length
 | 0=>rfl
 | j+1=>by unfold Xf Zeq;rw [Yu,Gt p q j]
def Zuy(p q:List Int)(k:Nat):Int:=dq q (Xf p q (p.length-q.length-k)) k
def Mh(p q:List Int)(k:Nat):Prop:=cf (Xf p q (p.length-q.length-k)) (k+q.length-1)%cf q (q.length-1)=0
def Yg0(p q:List Int):List Int:=tzl (mk (p.length-q.length+1) (Zuy p q))
def pdivs(p q:List Int):Prop:=p=[]\/(q.length<=p.length/\(∀k,k<=p.length-q.length->Mh p q k)/\∀i,cf (Xf p q (p.length-q.length+1)) i=0)
theorem Ye3{A:Nat}(d:Sz A r)(g:Sz B q)(k:Nat)(e:cf r (k+q.length-1)%cf q (q.length-1)=0):Sz (A+(B+1)) (Zeq q r k):=by
 unfold Zeq;refine Cw λt m=>?_;split
 .have h:bl (dq q r k).natAbs<=A:=Iv (gE e) (d _);have j:=Yo (dq q r k) (cf q (t-k));have l:=Bn (cf r t) (dq q r k*cf q (t-k));have:=d t;have:=g (t-k);omega
 .rw [fU];have:=d t;omega
theorem Zav(p q:List Int):∀j,j<=p.length-q.length+1->(∀k,p.length-q.length<k+j->k<=p.length-q.length->Mh p q k)->Sz (Xo p+j*(Xo q+1)) (Xf p q j)
 | 0,_,_=>by rw [gI];exact Pa p
 | j+1,g,h=>by unfold Xf;rw [dA,<-fR];refine Ye3 (Zav p q j O λk e d=>h k O d) (Pa q) _ ?_;have:=h (p.length-q.length-j) O O;unfold Mh at this;rw [show p.length-q.length-(p.length-q.length-j)=j by omega]at this;exact this
theorem Yjg{x y:Bool×ByteArray}(h:eqW x.1 x.2 y.1 y.2=true):x=y:=by obtain⟨d,e⟩:=Zq1.1 h;exact Prod.ext d e
def Yjf(a:Bool)(s:ByteArray):eqW a s a s=true:=Zq1.2 ⟨rfl,rfl⟩
theorem Yee(p q:List Int)(i j:Nat):Zbg p q i (j+1) (i+j)=Zbg p q i j (i+j)+cf p i*cf q j:=by unfold Zbg;rw [aG O,aD O,fC,show i+j-i=j by omega]
theorem Za2{p:List Int}(h:p.length=0\/q.length=0):Qn p q=[]:=by
 unfold Qn;refine(Ki _).2 λi=>?_;rw [Nq];split
 .rw [PS.mul_c];refine Gd λk _=>?_;rcases h with h|h
  .rw [Om,Yf O,cM]
  .rw [Om,Om,Yf (p:=q) O,dL]
 .rfl
def Zi2(R:List Int)(l:Int)(i:Nat):List Int:=mk R.length λt=>if t<i then cf R t*l else cf R t
def Zm4(q R:List Int)(l c:Int)(s i:Nat):List Int:=mk R.length λt=>cf R t*l-if s<=t/\t<s+i then c*cf q (t-s)else 0
def Zt2(R:List Int)(l:Int)(i:Nat):(Zi2 R l i).length=R.length:=Yu _ _
def Zt1(q R:List Int)(l c:Int)(s i:Nat):(Zm4 q R l c s i).length=R.length:=Yu _ _
theorem Ydh(R:List Int)(l:Int):Zi2 R l 0=R:=by unfold Zi2;refine Eq.trans (Hu λi hi=>?_) (Zd3 R);rw [aD O]
theorem Yh0{l:Int}(h:i<R.length):(Zi2 R l i).getD i 0=cf R i:=by unfold Zi2;rw [Zd6 h,aD O]
theorem Yhz{l:Int}(h:i<R.length):(Zi2 R l i).set i (cf R i*l)=Zi2 R l (i+1):=by
 unfold Zi2;refine Zll h (λt g e=>?_) _ (by rw [aG O]);by_cases d:t<i
 .rw [aG d,aG O]
 .rw [aD d,aD O]
theorem Ycm(q R:List Int)(l c:Int)(s:Nat):Zi2 R l R.length=Zm4 q R l c s 0:=by unfold Zi2 Zm4;exact Hu λi hi=>by rw [aG hi,aD O,fU]
theorem Ye7{l c:Int}{s:Nat}(h:s+i<R.length):(Zm4 q R l c s i).getD (s+i) 0=cf R (s+i)*l:=by unfold Zm4;rw [Zd6 h,aD O,fU]
theorem Ye6{l c:Int}{s:Nat}(h:s+i<R.length):(Zm4 q R l c s i).set (s+i) (cf R (s+i)*l-c*cf q i)=Zm4 q R l c s (i+1):=by
 unfold Zm4;refine Zll h (λt g e=>?_) _ (by rw [aG O,show s+i-s=i by omega]);by_cases d:s<=t/\t<s+i
 .rw [aG d,aG O]
 .rw [aD d,aD O]
theorem rest_b{p:List Int}{j:Nat}(g:Xo p+(p.length-q.length+1)*(Xo q+1)<=65536)(h:j<p.length-q.length+1) :
  (∀t,bl (cf (Qk p q j) t).natAbs<=65536)/\(∀t i,bl (cf (Qk p q j) t*cf q i).natAbs<=65536)/\(∀t i t2 i2,bl (cf (Qk p q j) t*cf q i-cf (Qk p q j) t2*cf q i2).natAbs<=65536):=by
 have d:=Bp p q j;have e:j*(Xo q+1)+(Xo q+1)<=(p.length-q.length+1)*(Xo q+1):=by rw [<-dA];exact aK _ O
 refine⟨λt=>by have:=d t;omega,λt i=>?_,λt i t2 i2=>?_⟩
 .have:=d t;have:=Pa q i;have:=Yo (cf (Qk p q j) t) (cf q i);omega
 .have:=Ybx (d t) (Pa q i) (d t2) (Pa q i2);omega
def Zsf{p:List Int}(d:Xo p+(p.length-q.length+1)*(Xo q+1)<=65536):Sz 65536 (Qk p q (p.length-q.length+1)):=(Bp p q _).mono d
theorem Zb4{p:List Int}(h:Bm p q=0):q.length≠0/\(q.length<=p.length->Xo p+(p.length-q.length+1)*(Xo q+1)<=65536):=by
 unfold Bm at h;split at h
 .omega
 .refine⟨‹_›,λd=>?_⟩;rw [aD O]at h;split at h
  .omega
  .omega
theorem Zgv{p:List Int}(h:q.length≠0):Yn9 p q=decide (p.length<q.length):=by unfold Yn9;have d:q≠[]:=λe=>h (by rw [e];rfl);simp [d]
def Zne(q R:List Int)(c:Int)(k i:Nat):List Int:=mk R.length λt=>cf R t-if k<=t/\t<k+i then c*cf q (t-k)else 0
def Zt3(q R:List Int)(c:Int)(k i:Nat):(Zne q R c k i).length=R.length:=Yu _ _
theorem Yd2(q R:List Int)(c:Int)(k:Nat):R=Zne q R c k 0:=by unfold Zne;refine Eq.trans (Zd3 R).symm (Hu λi hi=>?_);rw [aD O,fU]
theorem Yjl{c:Int}(h:k+i<R.length):(Zne q R c k i).getD (k+i) 0=cf R (k+i):=by unfold Zne;rw [Zd6 h,aD O,fU]
theorem Yjk{c:Int}(h:k+i<R.length):(Zne q R c k i).set (k+i) (cf R (k+i)-c*cf q i)=Zne q R c k (i+1):=by
 unfold Zne;refine Zll h (λt g e=>?_) _ (by rw [aG O,show k+i-k=i by omega]);by_cases d:k<=t/\t<k+i
 .rw [aG d,aG O]
 .rw [aD d,aD O]
def Zc6(p q:List Int)(j:Nat):List Int:=mk (p.length-q.length+1) λt=>if p.length-q.length<t+j then Zuy p q t else 0
def Zac(p q:List Int)(j:Nat):(Zc6 p q j).length=p.length-q.length+1:=Yu _ _
theorem Zom(p q:List Int):List.replicate (p.length-q.length+1) 0=Zc6 p q 0:=by rw [Zpm];unfold Zc6;exact Hu λi hi=>by rw [aD O]
theorem Zup{p:List Int}{j:Nat}(g:j<p.length-q.length+1):(Zc6 p q j).set (p.length-q.length-j) (dq q (Xf p q j) (p.length-q.length-j))=Zc6 p q (j+1):=by
 unfold Zc6;refine Zll O (λt h e=>?_) _ ?_
 .by_cases d:p.length-q.length<t+j
  .rw [aG d,aG O]
  .rw [aD d,aD O]
 .rw [aG O];unfold Zuy;rw [show p.length-q.length-(p.length-q.length-j)=j by omega]
theorem Zc5(p q:List Int):tzl (Zc6 p q (p.length-q.length+1))=Yg0 p q:=by unfold Zc6 Yg0;congr 1;exact Hu λi hi=>by rw [aG O]
def pdv(p q:List Int):Prop:=p=[]\/(q.length<=p.length/\(∀k,k<=p.length-q.length->Mh p q k)/\tzl (Xf p q (p.length-q.length+1))=[])
instance (p q:List Int) (k:Nat):Decidable (Mh p q k):=by unfold Mh;infer_instance
instance (p q:List Int):Decidable (pdv p q):=by unfold pdv;infer_instance
theorem div_b{p:List Int}{j:Nat}(n:Xo p+(p.length-q.length+1)*(Xo q+1)<=65536)(o:j<p.length-q.length+1)(h:∀k,p.length-q.length<k+j->k<=p.length-q.length->Mh p q k) :
  (∀t,bl (cf (Xf p q j) t).natAbs<=65536)/\(Mh p q (p.length-q.length-j)->bl (dq q (Xf p q j) (p.length-q.length-j)).natAbs<=65536/\(∀i,bl (dq q (Xf p q j) (p.length-q.length-j)*cf q i).natAbs<=65536)/\
   ∀t i,bl (cf (Xf p q j) t-dq q (Xf p q j) (p.length-q.length-j)*cf q i).natAbs<=65536):=by
 have d:=Zav p q j O h;have l:j*(Xo q+1)+(Xo q+1)<=(p.length-q.length+1)*(Xo q+1):=by rw [<-dA];exact aK _ O
 refine⟨λt=>by have:=d t;omega,λe=>?_⟩;unfold Mh at e;rw [show p.length-q.length-(p.length-q.length-j)=j by omega]at e;have m:bl (dq q (Xf p q j) (p.length-q.length-j)).natAbs<=Xo p+j*(Xo q+1):=Iv (gE e) (d _);have g:∀i,bl (dq q (Xf p q j) (p.length-q.length-j)*cf q i).natAbs<=Xo p+j*(Xo q+1)+Xo q:=λi=>by have:=Yo (dq q (Xf p q j) (p.length-q.length-j)) (cf q i);have:=Pa q i;omega
 refine⟨O,λi=>by have:=g i;omega,λt i=>?_⟩;have:=Bn (cf (Xf p q j) t) (dq q (Xf p q j) (p.length-q.length-j)*cf q i);have:=g i;have:=d t;omega
theorem Zyi{p:List Int}(g:Xo p+(p.length-q.length+1)*(Xo q+1)<=65536)(e:∀k,k<=p.length-q.length->Mh p q k)(j:Nat):Sz 65536 (Zc6 p q j):=by
 unfold Zc6;refine Cw λt l=>?_;split
 .have d:=(div_b g (j:=p.length-q.length-t) O (λk _ h=>e k h)).2;rw [show p.length-q.length-(p.length-q.length-t)=t by omega]at d;exact(d (e t O)).1
 .simp [Ll]
def Ye4{p:List Int}(d:Xo p+(p.length-q.length+1)*(Xo q+1)<=65536)(g:∀k,k<=p.length-q.length->Mh p q k):Sz 65536 (Xf p q (p.length-q.length+1)):=
 (Zav p q _ (aH _) λk _ e=>g k e).mono d
def Mt(p:List Int)(a b d:Int):Nat->List Int
 | 0=>[cf p (p.length-1)]
 | j+1=>mk ((Mt p a b d j).length+1) λt=>cf (Mt p a b d j) t*a+(if t=0 then cf p (p.length-2-j)*d^(j+1)else cf (Mt p a b d j) (t-1)*b)
def Fv(p:List Int)(a b d:Int):Mt p a b d 0=[cf p (p.length-1)]:=rfl
def Zos(p:List Int)(a b d:Int)(j:Nat):Mt p a b d (j+1)=mk ((Mt p a b d j).length+1) (λt=>cf (Mt p a b d j) t*a+(if t=0 then cf p (p.length-2-j)*d^(j+1)else cf (Mt p a b d j) (t-1)*b)):=rfl
theorem Zc0(p:List Int)(a b d:Int):∀j,(Mt p a b d j).length=j+1
 | 0=>rfl
 | j+1=>by unfold Mt;rw [Yu,Zc0 p a b d j]
def Lc(p:List Int)(a b d:Int):List Int:=if p.length=0 then []else tzl (Mt p a b d (p.length-1))
def Zmf(p:List Int)(a b d:Int):Prop:=p≠[]/\65536<Xo p+(p.length-1)*(Xo [a,b,d]+1)+8
instance (p:List Int) (a b d:Int):Decidable (Zmf p a b d):=by unfold Zmf;infer_instance
def Lq(p q:List Int):List Int:=if p=[]then []else Yg0 p q
def Zk9{p:List Int}(h:p≠[]):Lq p q=Yg0 p q:=aD h
theorem Zgw{p:List Int}{j:Nat}(d:j<=p.length-q.length):Mh p q (p.length-q.length-j)↔cf (Xf p q j) (p.length-q.length-j+q.length-1)%cf q (q.length-1)=0:=by unfold Mh;rw [show p.length-q.length-(p.length-q.length-j)=j by omega]
def Zvc{x y:Int}(e:y≠0)(d:bl y.natAbs<=65536):Zbc (x%y)=x%y:=Iw (aB (Zrr x y e) d)
def cnx(c:List Int)(a b:Int)(i:Nat):List Int:=mk (c.length+1) λt=>if t<i then cf c t*a+(if t=0 then 0 else cf c (t-1)*b)else if t=i/\0<i then cf c (t-1)*b else 0
def Hx(c:List Int)(a b:Int)(i:Nat):(cnx c a b i).length=c.length+1:=Yu _ _
theorem Ykd(c:List Int)(a b:Int):List.replicate (c.length+1) 0=cnx c a b 0:=by rw [Zpm];unfold cnx;exact Hu λi hi=>by rw [aD O,aD O]
theorem Ybg(h:i<c.length):(cnx c a b i).getD i 0=if i=0 then 0 else cf c (i-1)*b:=by
 unfold cnx;rw [Zd6 O,aD O];by_cases d:i=0
 .rw [aD O,aG d]
 .rw [aG O,aD d]
theorem Yon(h:i<c.length):((cnx c a b i).set i ((cnx c a b i).getD i 0+cf c i*a)).set (i+1) (cf c i*b)=cnx c a b (i+1):=Ie (by simp [Hx]) λt g=>by
 rw [cL,cL,Hx]at g;rw [Zml _ _ _ _ (by rw [cL,Hx];omega),Zml _ _ _ _ (by rw [Hx];omega),Ybg h];unfold cnx;rw [Nq,Nq,aG g,aG g];by_cases d:t=i+1
 .subst d;rw [aG rfl,aD O,aG O,show i+1-1=i by omega]
 .rw [aD d];by_cases e:t=i
  .subst e;rw [aG rfl,aG (iI t)];split<;>omega
  .rw [aD e];by_cases j:t<i
   .simp [j,show t<i+1 by omega]
   .simp [j,e,d,show ¬t<i+1 by omega]
theorem Zu9(h:0<c.length):(cnx c a b c.length).getD 0 0=cf c 0*a:=by unfold cnx;rw [Zd6 O,aG h,aG rfl,fC]
theorem Yoo{w:Int}(h:0<c.length):(cnx c a b c.length).set 0 ((cnx c a b c.length).getD 0 0+w)=mk (c.length+1) λt=>cf c t*a+(if t=0 then w else cf c (t-1)*b):=Ie (by simp [Hx,Yu]) λt e=>by
 rw [cL,Hx]at e;rw [Zml _ _ _ _ (by rw [Hx];omega),Zu9 h,Nq,aG e];unfold cnx;rw [Nq,aG e];by_cases d:t=0
 .rw [aG d,aG d,d]
 .rw [aD d,aD d,aD d];by_cases g:t<c.length
  .rw [aG g]
  .rw [aD g,aG (show t=c.length/\0<c.length by omega),Yf (i:=t) O];omega
theorem Zjd{p:List Int}{x y z:Int}{A m:Nat}(d:Sz A p)(l:bl x.natAbs<=m)(v:bl y.natAbs<=m)(n:bl z.natAbs<=m):∀j,Sz (A+j*(m+1)) (Mt p x y z j)
 | 0=>Sz.of_mem λw g=>by have g:w∈[cf p (p.length-1)]:=g;rw [bC.1 g];have:=d (p.length-1);omega
 | j+1=>by
  have o:=Zjd d l v n j;unfold Mt;refine Cw λt G=>?_;have D:=Yo (cf (Mt p x y z j) t) x;have F:=o t;have e:(j+1)*(m+1)=j*(m+1)+m+1:=by rw [dA];omega
  split
  .have h:=Zg5 (i:=0) (j:=j+1) (d (p.length-2-j)) l n;rw [cK,eQ]at h;have s:(0+(j+1))*m<=j*(m+1)+m:=by rw [bX,dA];have:j*m<=j*(m+1):=aX _ O;omega
   have u:=Kz (cf (Mt p x y z j) t*x) (cf p (p.length-2-j)*z^(j+1));omega
  .have h:=Yo (cf (Mt p x y z j) (t-1)) y;have s:=o (t-1);have u:=Kz (cf (Mt p x y z j) t*x) (cf (Mt p x y z j) (t-1)*y);omega
section
variable {p:List Int} {x y z:Int} (hF:Xo p+(p.length-1)*(Xo [x,y,z]+1)+8<=65536) {j:Nat} (hj:j<p.length-1)
include hF hj
theorem cp_all:bl (z^j).natAbs<=65536/\bl (z^(j+1)).natAbs<=65536/\(∀t,bl (cf (Mt p x y z j) t).natAbs<=65536)/\(∀t,bl (cf (Mt p x y z j) t*x).natAbs<=65536)/\(∀t,bl (cf (Mt p x y z j) t*y).natAbs<=65536)/\
  (∀t,bl ((if t=0 then 0 else cf (Mt p x y z j) (t-1)*y)).natAbs<=65536)/\(∀t,bl ((if t=0 then 0 else cf (Mt p x y z j) (t-1)*y)+cf (Mt p x y z j) t*x).natAbs<=65536)/\
  bl (cf p (p.length-2-j)*z^(j+1)).natAbs<=65536/\bl (cf (Mt p x y z j) 0*x+cf p (p.length-2-j)*z^(j+1)).natAbs<=65536:=by
 have v:bl x.natAbs<=Xo [x,y,z]:=by simp only [Xo];omega
 have F:bl y.natAbs<=Xo [x,y,z]:=by simp only [Xo];omega
 have d:bl z.natAbs<=Xo [x,y,z]:=by simp only [Xo];omega
 have l:=Zjd (Pa p) v F d j;generalize Xo [x,y,z]=m at *;have e:j*(m+1)+(m+1)<=(p.length-1)*(m+1):=by rw [<-dA];exact aK _ O
 have D:j*m<=j*(m+1):=aX _ O;have w:=Zg5 (i:=0) (j:=j+1) (Pa p (p.length-2-j)) v d;rw [cK,eQ,bX,dA]at w;have o:=Fb z d (j+1) O;rw [dA]at o;have n:bl (z^j).natAbs<=65536:=by
  rcases aV j with h|h
  .rw [h,cK];decide
  .have:=Fb z d j h;omega
 have g:∀t,bl (cf (Mt p x y z j) t*x).natAbs<=Xo p+j*(m+1)+m:=λt=>by have:=Yo (cf (Mt p x y z j) t) x;have:=l t;omega
 have s:∀t,bl (cf (Mt p x y z j) t*y).natAbs<=Xo p+j*(m+1)+m:=λt=>by have:=Yo (cf (Mt p x y z j) t) y;have:=l t;omega
 have u:∀t,bl ((if t=0 then 0 else cf (Mt p x y z j) (t-1)*y)).natAbs<=Xo p+j*(m+1)+m:=λt=>by
  split
  .simp [Ll]
  .exact s _
 refine⟨n,O,λt=>by have:=l t;omega,λt=>by have:=g t;omega,λt=>by have:=s t;omega,λt=>by have:=u t;omega,λt=>?_,O,?_⟩
 .have:=Kz (if t=0 then 0 else cf (Mt p x y z j) (t-1)*y) (cf (Mt p x y z j) t*x);have:=g t;have:=u t;omega
 .have:=Kz (cf (Mt p x y z j) 0*x) (cf p (p.length-2-j)*z^(j+1));have:=g 0;omega
end
theorem Yol{p:List Int}{x y z:Int}(hF:Xo p+(p.length-1)*(Xo [x,y,z]+1)+8<=65536):Sz 65536 (Mt p x y z (p.length-1)):=by
 have d:bl x.natAbs<=Xo [x,y,z]:=by simp only [Xo];omega
 have e:bl y.natAbs<=Xo [x,y,z]:=by simp only [Xo];omega
 have g:bl z.natAbs<=Xo [x,y,z]:=by simp only [Xo];omega
 exact(Zjd (Pa p) d e g _).mono O
theorem Zi3(p q:List Int):(Xx p q).length<=p.length:=by
 unfold Xx;split
 .exact aH _
 .have:=Mo (Qk p q (p.length-q.length+1));rw [Pj]at this;exact this
theorem Zas{p:List Int}(d:Vp p)(e:Bm p q=0):Vp (Xx p q):=by
 have g:=Zi3 p q;refine⟨?_,?_,by have:=d.len;omega⟩
 .unfold Xx;split
  .exact d.sz
  .exact(Zsf ((Zb4 e).2 O)).tzl
 .unfold Xx;split
  .exact d.tr
  .exact Qf _
def Zoi(p q:List Int):Prop:=p.length≠0/\q.length≠0/\65536<(max p.length q.length+2)*(max p.length q.length+2)*(max (Xo p) (Xo q)+8)
instance (p q:List Int):Decidable (Zoi p q):=by unfold Zoi;infer_instance
def gA(p q:List Int):List Int:=if p.length<q.length then Zx q else Zx p
def gB(p q:List Int):List Int:=if p.length<q.length then Zx p else Zx q
def eok:Nat->List Int->List Int->Prop
 | 0,_,b=>b=[]
 | f+1,a,b=>b=[]\/(Bm a b=0/\eok f b (Zx (Xx a b)))
def eu:Nat->List Int->List Int->List Int
 | 0,a,_=>a
 | f+1,a,b=>if b=[]then a else eu f b (Zx (Xx a b))
theorem Zum{f:Nat}{a b:List Int}(h:eok f a b)(d:b≠[]):∃g,f=g+1/\Bm a b=0/\eok g b (Zx (Xx a b))/\eu f a b=eu g b (Zx (Xx a b)):=by
 cases f with
 | zero=>exact absurd h d
 | succ g=>
  rcases h with h|h
  .exact absurd h d
  .exact⟨g,rfl,h.1,h.2,by show(if b=[]then a else _)=_;rw [aD d]⟩
theorem Dm(f:Nat)(a:List Int):eu f a []=a:=by cases f<;>rfl
def Lm(g:List Int):List Int:=if g.length≠0/\cf g (g.length-1)<0 then Zs g (-1)else g
def Na(f:Nat)(p q:List Int):List Int:=Lm (eu f (gA p q) (gB p q))
theorem vp_gA{p:List Int}(d:Vp p)(e:Vp q):Vp (gA p q):=by unfold gA;split<;>exact Lp ‹_›
theorem vp_gB{p:List Int}(d:Vp p)(e:Vp q):Vp (gB p q):=by unfold gB;split<;>exact Lp ‹_›
theorem Zb7{p:List Int}(h:Sz 65536 p)(i:Nat):bl (cf p i * -1).natAbs<=65536:=by rw [jW,fL,dU];exact h i
theorem Pf(z:Int):z.sign<0↔z<0:=by
 rcases kB z 0 with h|h|h
 .rw [eV h];omega
 .subst h;simp
 .rw [fJ h];omega
end Go.Sky
namespace Go.Sky
variable{b k c:Nat}{xs ys:List Nat}{p:Nat->Prop}
theorem Zjc{l:List Int}(h:∀x∈l,Nx x):Sz 65536 l:=Sz.of_mem λx a=>by obtain⟨d,e⟩:=h x a;have:bl x.natAbs<=64:=(Qm 64 _).2 O;omega
open Go.RowKit (Below)
set_option maxRecDepth 20000
def Pp:2<=1000000000:=O3
def Il:0<1000000000:=O3
abbrev Ow (v:Value) (x:Nat):Pc:=Yw 1 Kv v (dg 1000000000 x)
theorem Iu(x:Nat):(dg 1000000000 x).length<=bl x:=by rw [Xm Pp];exact dB (Cd x) (fK O3 _)
theorem Zyf(a:2<=b){o:List Nat}(f:∀d∈o,d<b){x:Nat}(g:Yq b o=x)(h:o.length=0\/b^(o.length-1)<=x):o=dg b x:=by
 rw [<-g,Kt a o f];have j:(tz o).length<=o.length:=(Bo o).1;have i:o.length<=(tz o).length:=by
  rw [<-Kt a o f,g];rcases h with h|h
  .omega
  .have:=(Np a (o.length-1) x).2 h;omega
 have e:=(Bo o).2;rw [bK i]at e;exact e
theorem Ydb{o:List Nat}(a:o.length=k)(h:Yq b o+c*b^k=Yq b (xs.take k)+Yq b (ys.take k)) :
  Yq b (o ++ [(c+xs.getD k 0+ys.getD k 0)%b])+(c+xs.getD k 0+ys.getD k 0)/b*b^(k+1)=Yq b (xs.take (k+1))+Yq b (ys.take (k+1)):=by
 rw [Nz,Qo,Qo,a];have e:=bZ (c+xs.getD k 0+ys.getD k 0) b;generalize (c+xs.getD k 0+ys.getD k 0)/b=q at *;generalize (c+xs.getD k 0+ys.getD k 0)%b=r at *;simp only [Yq,bW];generalize b^k=B at *;have:(b*q+r)*B=(c+xs.getD k 0+ys.getD k 0)*B:=by rw [e]
 grind
def d9s(a b c:Nat):Nat:=if a<b+c then a+1000000000-(b+c)else a-(b+c)
theorem Ya8{a:Nat}(d:a<1000000000)(e:b<1000000000)(f:c<=1):d9s a b c<1000000000/\d9s a b c+(b+c)=a+brw a b c*1000000000:=by unfold d9s brw;split<;>omega
theorem Zwu{o:List Nat}(a:c<=1)(f:xs.getD k 0<1000000000)(g:ys.getD k 0<1000000000)(d:o.length=k)(h:Yq 1000000000 o+Yq 1000000000 (ys.take k)=Yq 1000000000 (xs.take k)+c*1000000000^k) :
  Yq 1000000000 (o ++ [d9s (xs.getD k 0) (ys.getD k 0) c])+Yq 1000000000 (ys.take (k+1))=Yq 1000000000 (xs.take (k+1))+brw (xs.getD k 0) (ys.getD k 0) c*1000000000^(k+1):=by
 rw [Nz,Qo,Qo,d];have e:=(Ya8 f g a).2;generalize d9s (xs.getD k 0) (ys.getD k 0) c=r at *;generalize brw (xs.getD k 0) (ys.getD k 0) c=q at *;simp only [Yq,bW];generalize 1000000000^k=B at *;have:(r+(ys.getD k 0+c))*B=(xs.getD k 0+q*1000000000)*B:=by rw [e]
 grind
theorem Zmy{o:List Nat}(h:∀d∈o,p d){x:Nat}(f:p x):∀d∈o ++ [x],p d:=λd e=>by
 rcases cY.1 e with a|a
 .exact h d a
 .rw [bC.1 a];exact f
def Za1{x:Nat}(a:2<=b)(h:k<(dg b x).length):b^k<=x:=(Np a k x).1 h
theorem Fk{x:Nat}(a:2<=b)(h:(dg b x).length<=k):Yq b ((dg b x).take k)=x:=by rw [Mj _ _ _ h,Mm a]
theorem Zsc{a o:Nat}(d:a<1000000000)(e:b<1000000000)(g:o<1000000000)(f:c<1000000000):(o+c+a*b)/1000000000<1000000000/\o+c+a*b<=9223372036854775807:=by have h:a*b<=999999999*999999999:=aQ O O;refine⟨?_,O⟩;rw [cD Il];omega
theorem Zvv{o:List Nat}{i V:Nat}(h:Yq 1000000000 o+c*1000000000^(i+k)=V+xs.getD i 0*1000000000^i*Yq 1000000000 (ys.take k))(d:i+k<o.length) :
  Yq 1000000000 (o.set (i+k) ((o.getD (i+k) 0+c+xs.getD i 0*ys.getD k 0)%1000000000))+(o.getD (i+k) 0+c+xs.getD i 0*ys.getD k 0)/1000000000*1000000000^(i+(k+1))=V+xs.getD i 0*1000000000^i*Yq 1000000000 (ys.take (k+1)):=by
 have a:=Zja 1000000000 o o.length (i+k) ((o.getD (i+k) 0+c+xs.getD i 0*ys.getD k 0)%1000000000) d d;rw [bK (by rw [cL];exact aH _),bK (aH _)]at a;rw [Qo];have e:=bZ (o.getD (i+k) 0+c+xs.getD i 0*ys.getD k 0) 1000000000;generalize (o.getD (i+k) 0+c+xs.getD i 0*ys.getD k 0)/1000000000=q at *;generalize (o.getD (i+k) 0+c+xs.getD i 0*ys.getD k 0)%1000000000=r at *;generalize Yq 1000000000 (o.set (i+k) r)=W at *;rw [show i+(k+1)=(i+k)+1 by omega,bW];have f:1000000000^(i+k)=1000000000^i*1000000000^k:=bT _ _ _;rw [f]at h a ⊢;generalize 1000000000^i=A at *;generalize 1000000000^k=B at *;have g:(1000000000*q+r)*(A*B)=(o.getD (i+k) 0+c+xs.getD i 0*ys.getD k 0)*(A*B):=by rw [e]
 simp only [bF]at g;have t1:q*(A*B*1000000000)=1000000000*q*(A*B):=O4;have t2:xs.getD i 0*A*(Yq 1000000000 (ys.take k)+ys.getD k 0*B)=xs.getD i 0*A*Yq 1000000000 (ys.take k)+xs.getD i 0*ys.getD k 0*(A*B):=O4;rw [t1,t2];omega
def Zi7(x y:Nat):Int:=if x<y then -1 else if y<x then 1 else 0
section
variable {P:Program} {N:Nat} {sc:Nat->Prop} {env env':Ob} {H H':Hp} {Q Q':Exit->Act->World->Prop} {M:Nat->Prop}
variable {o:Oper} {t t':TypeId} {x y:Operand} {m n:Nat}
theorem Zgc(a:o.op= .binOp .add t x y t')(d:ev env x=some (.int .i64 (m:Int)))(e:ev env y=some (.int .i64 (n:Int)))(h:m+n<=9223372036854775807):Mz P N sc o env H (.int .i64 ((m+n:Nat):Int)):=by have:=d_add (P:=P) (N:=N) (sc:=sc) (H:=H) a d e ⟨O,O⟩;rwa [<-kP]at this
theorem n_mul(a:o.op= .binOp .mul t x y t')(d:ev env x=some (.int .i64 (m:Int)))(e:ev env y=some (.int .i64 (n:Int)))(h:m*n<=9223372036854775807):Mz P N sc o env H (.int .i64 ((m*n:Nat):Int)):=by have:=d_mul (P:=P) (N:=N) (sc:=sc) (H:=H) a d e (by rw [<-eW];exact⟨O,O⟩);rwa [<-eW]at this
theorem Zli(a:o.op= .binOp .quo t x y t')(d:ev env x=some (.int .i64 (m:Int)))(e:ev env y=some (.int .i64 (n:Int)))(h:m<=9223372036854775807)(f:0<n):Mz P N sc o env H (.int .i64 ((m/n:Nat):Int)):=by have:=Zes (P:=P) (N:=N) (sc:=sc) (H:=H) a d e   ;rwa [<-Int.natCast_ediv]at this
theorem Ztt(a:o.op= .binOp .rem t x y t')(d:ev env x=some (.int .i64 (m:Int)))(e:ev env y=some (.int .i64 (n:Int)))(f:0<n):Mz P N sc o env H (.int .i64 ((m%n:Nat):Int)):=by have:=Zme (P:=P) (N:=N) (sc:=sc) (H:=H) a d e  ;rwa [<-Int.natCast_emod]at this
end
end Go.Sky
namespace Go.Sky
variable{b a r k:Nat}{q:List Nat}
theorem Zc7{l:List Nat}{i:Nat}(h:l.length<=i):l.getD i 0=0:=by simp [List.getD,bE h]
theorem Zut{x y:Nat}(d:2<=b)(h:x<=y):(dg b x).length<=(dg b y).length:=by
 rcases bA (dg b y).length (dg b x).length with c|c
 .have:=Za9 d c;omega
 .exact c
theorem Yjr{n:Nat}(c:2<=b)(h:n<b)(d:n≠0):dg b n=[n]:=by rw [Zb3 c O,aW h,cN h,Gi]
theorem Yls(c:2<=b)(f:a<b):tz (a::dg b r)=dg b (r*b+a):=by
 have h:∀d∈a::dg b r,d<b:=λd e=>by
  rcases bQ.1 e with rfl|e
  .exact f
  .exact Nt c r d e
 rw [<-Kt c _ h];congr 1;simp only [Yq,Mm c];rw [aO];omega
theorem Zvb : Zi7 a b<0↔a<b:=by unfold Zi7;split<;>(try split)<;>omega
theorem Ybi : Zi7 a b<=0↔a<=b:=by unfold Zi7;split<;>(try split)<;>omega
theorem Ybj : 0<=Zi7 a b↔b<=a:=by unfold Zi7;split<;>(try split)<;>omega
theorem Zwn{x:Nat}(c:0<k):x/1000000000^k*1000000000+x/1000000000^(k-1)%1000000000=x/1000000000^(k-1):=by
 have h:x/1000000000^k=x/1000000000^(k-1)/1000000000:=by rw [aU,<-bW,show(k-1).succ=k by omega]
 rw [h,aO];exact bZ _ _
theorem over_Q{y:Nat}(c:r<y)(d:a<1000000000):(r*1000000000+a)/y<1000000000:=by rw [cD O];have:(r+1)*1000000000<=y*1000000000:=aK _ c;rw [aO 1000000000];omega
theorem bl_m30{y m:Nat}(h:bl m<=30):bl (y*m)<=bl y+30:=by have:=Zms y m;omega
theorem Ypf{y:Nat}(f:r<y)(g:a<1000000000):bl (r*1000000000+a)<=bl y+30:=by
 have c:r*1000000000+a<y*1000000000:=by have:(r+1)*1000000000<=y*1000000000:=aK _ f;omega
 have d:=Oi (dX c);have e:=bl_m30 (y:=y) (m:=1000000000) ((Qm 30 _).2 O);exact aB d e
theorem Zmq{y n:Nat}(e:n<1000000000):bl (y*n)<=bl y+30:=by have c:=Zms y n;have d:bl n<=30:=(Qm 30 _).2 O;omega
theorem Zgs{d:Nat}(c:0<k)(h:k<=q.length):Yq 1000000000 ((q.set (k-1) d).drop (k-1))=d+1000000000*Yq 1000000000 (q.drop k):=by rw [drop_set _ _ _ O,show k-1+1=k by omega];rfl
theorem Yd3(d:0<k)(h:k<=q.length)(c:q.getD (k-1) 0=0):Yq 1000000000 (q.drop (k-1))=1000000000*Yq 1000000000 (q.drop k):=by rw [Zc4 0 q (k-1) O,c,show k-1+1=k by omega];simp [Yq]
theorem Yet{n:Nat}(c:2<=b)(h:n<b):tz [n]=dg b n:=by have:=Kt c [n] (by simpa using h);simpa [Yq]using this.symm
theorem Zsb{m:Nat}(h:m<9223372036854775809):tz [m%1000000000,m/1000000000%1000000000,m/1000000000/1000000000]=dg 1000000000 m:=by rw [<-Kt Pp [m%1000000000,m/1000000000%1000000000,m/1000000000/1000000000] (by intro d c;simp at c;omega)];congr 1;simp only [Yq];omega
theorem sign9{x:Int}(h:(((dg 1000000000 x.natAbs).length:Nat):Int)=0):Value.int .i64 x.sign= .int .i64 0:=by have c:=(Ok Pp x.natAbs).1 O;have:x=0:=O;subst this;rfl
theorem Zlw{x:Nat}(h:¬(((dg 1000000000 x).length:Nat):Int)=0):0<x:=by
 rcases aV x with c|c
 .subst c;simp [Gi]at h
 .exact c
theorem Yh5{s:Bool}{n:Nat}{z:Int}(c:n=z.natAbs)(hs:sg s z):(s && decide (0<n))=decide (z<0):=by
 subst c;cases s
 .have:=hs.2 rfl;rw [Bool.false_and,aM O]
 .have:=hs.1 rfl;rw [nK,bJ];omega
theorem Zt6(n:Nat):decide ((0:Int)<(((dg 1000000000 n).length:Nat):Int))=decide (0<n):=by rw [bJ];have:=Ok Pp n;omega
theorem Ypi{a b:Bool}(h:(a == b)=true):a=b:=by simpa using h
theorem Yl0{x y:Int}(c:y≠0):(x-x.tdiv y*y=x.tmod y):=by have:=iV x y;have e:x.tdiv y*y=y*x.tdiv y:=cQ _ _;omega
def Zki(x y:Int):x.natAbs/y.natAbs=(x.tdiv y).natAbs:=(mK x y).symm
theorem Yl9(x y:Int):sg (decide (x<0) != decide (y<0)) (x.tdiv y):=by
 have e:∀a b:Int,0<=a->0<=b->0<=a.tdiv b:=λa b i j=>Int.tdiv_nonneg i j;rcases gY x 0 with h|h<;>rcases gY y 0 with d|d
 .have c:=e (-x) (-y) O O;rw [nZ,Int.tdiv_neg]at c;simp only [sg,h,d,decide_true,bne_self_eq_false];exact⟨λh=>Bool.noConfusion h,λ_=>O⟩
 .have c:=e (-x) y O d;rw [nZ]at c;have:¬y<0:=O;simp [sg,h,this];omega
 .have c:=e x (-y) h O;rw [Int.tdiv_neg]at c;have:¬x<0:=O;simp [sg,d,this];omega
 .have c:=e x y h d;have f:¬x<0:=O;have g:¬y<0:=O;simp [sg,f,g];exact c
theorem Zkh(x:Int){y:Int}(c:y≠0):(x.tmod y).natAbs<y.natAbs:=by rw [Int.natAbs_tmod];exact bO _ O
theorem Ymv{x y:Int}(f:0<y)(h:x.tmod y<0):x/y=x.tdiv y-1/\x%y=x-(x.tdiv y-1)*y:=by
 have c:=Zkh x (show y≠0 by omega);have d:=iV x y;have e:(x.tdiv y-1)*y=y*x.tdiv y-y:=by rw [Int.sub_mul,cQ];omega
 have:=Zd8 (x:=x) (y:=y) (q:=x.tdiv y-1) (r:=x-(x.tdiv y-1)*y) O (by rw [cQ y];omega) O O;exact this
theorem Ymw{x y:Int}(f:y<0)(h:x.tmod y<0):x/y=x.tdiv y+1/\x%y=x-(x.tdiv y+1)*y:=by
 have c:=Zkh x (show y≠0 by omega);have d:=iV x y;have e:(x.tdiv y+1)*y=y*x.tdiv y+y:=by rw [lO,cQ];omega
 have:=Zd8 (x:=x) (y:=y) (q:=x.tdiv y+1) (r:=x-(x.tdiv y+1)*y) O (by rw [cQ y];omega) O O;exact this
theorem Ygv{x y:Int}(c:y≠0)(h:¬x.tmod y<0):x/y=x.tdiv y/\x%y=x.tmod y:=by have d:=Zkh x c;have e:=iV x y;exact Zd8 c O O O
theorem Ype(x y:Int):bl (x.tdiv y).natAbs<=bl x.natAbs:=by rw [mK];exact Oi (eH _ _)
theorem Zx1(x y:Int):bl (x.tdiv y*y).natAbs<=bl x.natAbs:=by rw [cF,mK];exact Oi (nF _ _)
section
variable {P:Program} {N:Nat} {sc:Nat->Prop} {env env':Ob} {H H':Hp} {Q Q':Exit->Act->World->Prop} {M:Nat->Prop}
variable {o:Oper} {t t':TypeId} {x y:Operand} {m n:Nat}
theorem Zws(e:o.op= .binOp .quo t x y t')(g:ev env x=some (.int .i64 (-(m:Int))))(i:ev env y=some (.int .i64 (n:Int)))(h:m<=9223372036854775808)(d:1<n):Mz P N sc o env H (.int .i64 (-((m/n:Nat):Int))):=Fu e g i λw=>by
 have c:(-(m:Int)).tdiv (n:Int)=-((m/n:Nat):Int):=by rw [nZ,Int.ofNat_tdiv]
 have j:m/n<=9223372036854775807:=by have:=nE (show 2<=n from d) (by omega:0<2) (a:=m);omega
 generalize m/n=q at *;have f:Nx (-(q:Int)):=⟨O,O⟩;simp [binOp,Op.intDiv,c,Zbi f];omega
theorem Yht(d:o.op= .binOp .rem t x y t')(e:ev env x=some (.int .i64 (-(m:Int))))(f:ev env y=some (.int .i64 (n:Int)))(g:0<n):Mz P N sc o env H (.int .i64 (-((m%n:Nat):Int))):=Fu d e f λw=>by
 have c:(-(m:Int)).tmod (n:Int)=-((m%n:Nat):Int):=by rw [Int.neg_tmod,Int.ofNat_tmod]
 simp [binOp,Op.intDiv,c];omega
theorem Yhw(c:o.op= .unOp .neg t x)(e:ev env x=some (.int .i64 (-(m:Int))))(h:m<=9223372036854775807):Mz P N sc o env H (.int .i64 (m:Int)):=λa w hs=>by have d:Nx (m:Int):=⟨O,O⟩;simp [execOp,c,hs.ev e,Op.unary,Op.intArith,Zbi d]
end
end Go.Sky
namespace Go.Sky
variable{i k m:Nat}{p:Pc}{r:List Pc}{bs ts ks:List Nat}{x y:Operand}{v u:Value}{ops:Array Oper}{listed:Array Bool}{zs:List (Int×SL)}{z:Int×SL}{o:Oper}{t:TypeId}{w0:World}{M0:Nat->Prop}
def Ydz(n:Nat):n/256^((dg 256 n).length-0)=0:=cN ((Xm O _ n).1 O)
theorem Zol{n:Nat}(h:i<(dg 256 n).length):n/256^((dg 256 n).length-i)*256+n/256^((dg 256 n).length-1-i)%256=n/256^((dg 256 n).length-(i+1)):=by
 rw [show(dg 256 n).length-1-i=(dg 256 n).length-(i+1) by omega];have a:n/256^((dg 256 n).length-i)=n/256^((dg 256 n).length-(i+1))/256:=by rw [aU,<-bW,show((dg 256 n).length-(i+1)).succ=(dg 256 n).length-i by omega]
 rw [a,aO];exact bZ _ _
theorem Ylx{p xs:List Nat}{r:Nat}(b:0<k)(c:k<=p.length)(d:k<=xs.length)(a:Yq 1000000000 (p.drop k)*256+r=Yq 1000000000 (xs.drop k)) :
  Yq 1000000000 ((p.set (k-1) ((r*1000000000+xs.getD (k-1) 0)/256)).drop (k-1))*256+(r*1000000000+xs.getD (k-1) 0)%256=Yq 1000000000 (xs.drop (k-1)):=by
 rw [Zgs b c,Zc4 0 xs (k-1) O,show k-1+1=k by omega];simp only [Yq];have e:=bZ (r*1000000000+xs.getD (k-1) 0) 256;generalize (r*1000000000+xs.getD (k-1) 0)/256=q at *;generalize (r*1000000000+xs.getD (k-1) 0)%256=s at *;generalize Yq 1000000000 (p.drop k)=A at *;generalize Yq 1000000000 (xs.drop k)=B at *;rw [<-a,bF,fV,cT 1000000000 A 256];generalize 1000000000*(A*256)=Z;clear a;omega
theorem Yev{r a:Nat}(d:r<256)(c:a<1000000000):(r*1000000000+a)/256<1000000000:=by
 have h:r*1000000000+a<256*1000000000:=by have b:r*1000000000<=255*1000000000:=aK _ O;omega
 exact gV h
theorem Yly{n:Nat}(a:Yq 256 bs+256^bs.length*m=n):Yq 256 (bs ++ [m%256])+256^(bs ++ [m%256]).length*(m/256)=n:=by rw [Nz,aY];simp only [Yq,dM,eX,bW,bX,gW,eF,fD,jF];have e:=bZ m 256;generalize m/256=q at *;generalize m%256=s at *;rw [<-a,<-e];generalize 256^bs.length=P at *;grind
theorem to_ge{n:Nat}(b:Yq 256 bs+256^bs.length*m=n)(a:0<m):256^bs.length<=n:=by have:=dO (256^bs.length) a;omega
theorem to_len{n:Nat}(h:256^bs.length<=n):bs.length<=bl n:=by have a:=Za1 (b:=256) (x:=n) (k:=bs.length) O ((Np O _ _).2 h);have c:=(Np (by omega:2<=256) bs.length n).2 h;have d:=Zh0 n;omega
theorem Yjn(a:0<k)(h:k<=bs.length):(bs.drop k).reverse ++ [bs.getD (k-1) 0]=(bs.drop (k-1)).reverse:=by rw [Zc4 0 bs (k-1) O,show k-1+1=k by omega];simp
theorem Yo9{n:Nat}(h:bs=dg 256 n):(⟨((bs.drop 0).reverse.map UInt8.ofNat).toArray⟩:ByteArray)=Qv n:=by rw [h,gO];rfl
def Ztg(a b:Int):Prop:=65536<bl a.natAbs\/65536<bl b.natAbs
instance (a b:Int):Decidable (Ztg a b):=by unfold Ztg;infer_instance
def qn(a b:Int):Int:=if Ztg a b then 0 else a
def qd(a b:Int):Int:=if Ztg a b then 0 else b
def qe(a b:Int):Int:=if Ztg a b then 7 else 0
def Ynk{x y:Int}(h:¬y<0):Lv x y=(Int.gcd x y:Int):=aD h
def Zj5(x y:Int):bl ((Int.gcd x y:Int)).natAbs<=max (bl x.natAbs) (bl y.natAbs):=Zrs _ _
open Go.RowKit (Below)
variable {P:Program} {N:Nat} {sc:Nat->Prop} {env env':Ob} {H H':Hp} {Q Q':Exit->Act->World->Prop} {M:Nat->Prop}
abbrev Zxc (w:Bool×ByteArray):Value:= .agg #[.bool w.1,.string w.2]
abbrev Mg (z:Int×SL):Value:= .agg #[.bool (decide (z.1<0)),Xq z.2]
abbrev Nf {α:Type} (z:SL×α):Value:=Xq z.1
abbrev qI (z:Int×SL):Pc:=Ow (Xq z.2) z.1.natAbs
abbrev pp (v:Value) (zs:List (Int×SL)):Pc:=Qh 2 Mg qI v zs
abbrev Zb (zs:List (Int×SL)):List Int:=zs.map Prod.fst
abbrev I0:Int×SL:=(0,none,0,0)
def Zi(zs:List (Int×SL)):(Zb zs).length=zs.length:=O5
theorem Qx(zs:List (Int×SL))(i:Nat):(zs.getD i I0).1=cf (Zb zs) i:=by simp only [cf,List.getD,Zb,eR];cases zs[i]?<;>rfl
theorem Zth{β:Type}{enc:β->Value}{q:β->Pc}{zs:List β}{al:Bool}{z:β}(i:Nat)(hi:lk H i=some (Qh k enc q v zs))(a:Nat.beq i 0=false)(c:z∈zs)(h:PreOk H al r):PreOk H al (q z::r):=
 ⟨⟨i,_,λe=>by subst e;simp at a,hi,λw h=>h.2 z c,λb d=> .inr ⟨z,c,d⟩,λ_=>rfl⟩,h⟩
theorem Ydy{β:Type}{enc:β->Value}{q:β->Pc}{zs:List β}{z:β}(i:Nat)(hi:lk H i=some (Qh k enc q v zs))(a:Nat.beq i 0=false)(c:z∈zs)(f:(q z).own=false)(h:Give H true r):Give H true (q z::r):=
 ⟨⟨f,.inl ⟨i,_,λe=>by subst e;simp at a,hi,λw h=>h.2 z c,λb d=> .inr ⟨z,c,d⟩,λh=>by cases h⟩⟩,h⟩
theorem Ycw{β:Type}{enc:β->Value}{q:β->Pc}{zs:List β}(i j n:Nat)(hi:lk H i=some (Qh k enc q v zs))(d:Nat.beq i 0=false)(f:n<=zs.length):∀a w,Sat N sc env H a w->Sat N sc env ((j,Qh k enc q (Kr v n) (zs.take n))::H) a w:=
 Zcp i j hi d rfl (λw h=>⟨⟨Zdt n f h.1.1,λb c=>h.1.2 b (Zl3 c)⟩,λz e=>h.2 z (eK e)⟩) (λb c=>by
  rcases c with c|⟨z,e,c⟩
  .exact .inl (Zl3 c)
  .right;exact⟨z,eK e,c⟩) rfl
theorem Zvn{n:Nat}{α:Type}{p:α->Prop}(b:∀a w,Sat N sc env H a w->∃x,p x)(h:∀x,p x->A P N sc M ops ts Q n listed env H):A P N sc M ops ts Q n listed env H:=λa w hs=>by obtain⟨x,c⟩:=b a w hs;exact h x c a w hs
theorem Fc(i:Nat):∀a w,Sat N sc env H a w->Sat N sc env ((i,pp (.slice none 0 0) [])::H) a w:=λa w hs=>
 hs.add i _ ⟨Br 2 Mg w,λz d=>by cases d⟩ (λf g _ _ Ig b c e=>by
  rcases c with c|⟨z,d,_⟩
  .exact absurd rfl c.1
  .cases d) (λb c=>by
  rcases c with c|⟨z,d,_⟩
  .exact absurd rfl c.1
  .cases d)
theorem Zuk{β:Type}{enc:β->Value}{q:β->Pc}{zs:List β}(i:Nat)(hi:lk H i=some (Qh k enc q v zs)):∀a w,Sat N sc env H a w->Kr v zs.length=v:=λa w hs=>by obtain⟨b,c,h,_⟩:=(hs.hold i _ hi).1.1;rw [h];rfl
theorem Zhh(zs:List (Int×SL))(k:Nat):Zb (zs.take k)=(Zb zs).take k:=by simp [Zb,lX]
def Xr{al:Bool}(i:Nat)(hi:lk H i=some (pp v zs))(a:Nat.beq i 0=false)(b:z∈zs)(h:PreOk H al r):PreOk H al (Ow (Xq z.2) z.1.natAbs::r):=Zth (q:=qI) (z:=z) i hi a b h
theorem Ynu(i:Nat)(hi:lk H i=some (pp v zs))(a:Nat.beq i 0=false)(c:z∈zs)(b:Ow (Xq z.2) z.1.natAbs=p)(h:Give H true r):Give H true (p::r):=by subst b;exact Ydy (q:=qI) (z:=z) i hi a c rfl h
theorem t_appM {α:Type}   {e:TypeId} {i2 j by_ d:Nat}  {enc:α->Value} {xs ys:List α}  {ti:TypeInfo} {z:Value}  
  (ho:o.op= .call { callee:= .builtin .append,args:=#[x,y],argTypes:=#[t,t] }) (hd:o.dst=some d) (hN:Nat.blt d N=true)
  (hx:ev env x=some v) (hy:ev env y=some u) (hH:lk H i=some (On k e enc v xs)) (a3:i≠0) (hj:lk H j=some p) (hr:Rd p k enc u ys) (b0:ys≠[])
  (ht:P.underlying t=some (.slice e)) (hi:P.info? e=some ti) (hz:ti.zero=some z) (n:Enc P e k enc) (a4:ti.size=k) (a1:ti.bytes=by_) (b1:z.cells.size=k)
  (h:(xs.length+ys.length)*by_<=140737488355328) (s:0<by_)
  (h0:lk H 0=some (Qb w0 M0)) (hw:∀b,w0.heap.size<=b->sc b) (hM:∀b,(On k e enc v xs).fp b->M b) :
  T P N sc M o env H (G:=Value) (λ_=>True) (λv'=>(d,v')::env) (λv'=>(i,On k e enc v' (xs ++ ys))::H):=λa w hs K Q hK=>by
 have R:w.ownsRow 0 e k v xs.length (cellsOf enc xs):=hs.hold i _ hH;obtain⟨ad,c,rfl,h1,h2,Y⟩:=hr w (hs.hold j p hj);rcases Y with rfl|⟨g,V,rfl,Y⟩
 .exact absurd rfl b0
 have a9:∀q u,(cellsOf enc ys)[q]? = some u->w.cell? ((⟨g,V,none⟩:Addr).add q)=some u:=λq u hq=>by
  have a5:q<ys.length*k:=by rw [<-Xk n.cells ys];exact(eZ.1 hq).1
  have F:=n.pos;have a2:q/k<ys.length:=gV (by rw [aO];exact a5);have l:ys[q/k]? = some ys[q/k]:=aN a2;have a7:q%k<(enc ys[q/k]).cells.toList.length:=by rw [dY,n.cells];exact bO _ F
  have W:=aN a7;have Z:=Hy n.cells ys _ _ l _ _ W;have h5:=Y _ _ l _ _ W;have I:q/k*k+q%k=q:=by rw [aO];exact bZ q k
  rw [I]at Z;rw [fR,I]at h5;rw [hq]at Z;cases Z;rw [Ot];exact h5
 have D:∀u∈cellsOf enc ys,u.oneCell'=true:=λu W=>by obtain⟨y,_,hy⟩:=kG.1 W;exact n.one y u hy
 have b2:xs.length+ys.length<=140737488355328:=aB (dO _ s) h;obtain⟨v',w',S,a6,f,a0⟩:=Zek (P:=P) t o.type e ti z k by_ ht hi hz a4 a1 b1 n.pos v xs.length (cellsOf enc xs) R ⟨g,V,none⟩ ys.length c (cellsOf enc ys)
  (Xk n.cells ys) a9 D (by simp only [maxLen];omega) h
 have a8:(execOp a.eval o).run P w= .ok (.value v') w':=by simp only [execOp,ho,resolve,invoke,builtin,Sem.run_bind,Sem.run_pure,Result.andThen_ok,gK,cJ,fS,hs.ev hx,hs.ev hy,S]
 unfold Oper.wp;rw [a8];show K (a.put o.dst _) _;rw [hd];have B:Chg (λb=>v.ownBlock=some b) w w':=⟨f.os,f.tape,f.output,f.size,λb h hn=>f.block b h (λe=>hn e.symm)⟩;refine hK v' _ _ aA ((hs.upd hH rfl a3 (q:=On k e enc v' (xs ++ ys)) B ?_ (λb h=>a0 b h) h0 hw).put d _ hN) ⟨f.os,f.tape,f.output,f.size,λb h hn=>f.block b h (λe=>hn (hM b e.symm))⟩;show w'.ownsRow 0 e k v' (xs ++ ys).length (cellsOf enc (xs ++ ys));rw [Ii,aY];exact a6
theorem Bb {α:Type}   {e:TypeId} {j by_ d:Nat}  {enc:α->Value} {xs ys:List α}  {ti:TypeInfo} {z:Value}  
  (ho:o.op= .call { callee:= .builtin .append,args:=#[x,y],argTypes:=#[t,t] }) (hd:o.dst=some d) (hN:Nat.blt d N=true)
  (hx:ev env x=some v) (hy:ev env y=some u) (Y:lk H i=some (On k e enc v xs)) (F:i≠0) (hj:lk H j=some p) (hr:Rd p k enc u ys)
  (ht:P.underlying t=some (.slice e)) (hi:P.info? e=some ti) (hz:ti.zero=some z) (he:Enc P e k enc) (a2:ti.size=k) (a1:ti.bytes=by_) (a4:z.cells.size=k)
  (Z:(xs.length+ys.length)*by_<=140737488355328) (B:0<by_)
  (h0:lk H 0=some (Qb w0 M0)) (hw:∀b,w0.heap.size<=b->sc b) (hM:∀b,(On k e enc v xs).fp b->M b) :
  T P N sc M o env H (G:=Value) (λ_=>True) (λv'=>(d,v')::env) (λv'=>(i,On k e enc v' (xs ++ ys))::H):=by
 by_cases S:ys=[]
 .subst S;intro a w hs K Q hK;have h:w.ownsRow 0 e k v xs.length (cellsOf enc xs):=hs.hold i _ Y;obtain⟨V,c,rfl,h1,h2,h3⟩:=hr w (hs.hold j p hj);have I:∃l n s,v= .slice l n s/\n=xs.length/\n<=s:=by
   rcases h.2 with⟨rfl,hn⟩|⟨g,W,a5,rfl,_,_,f,_⟩
   .exact⟨none,0,0,rfl,hn.symm,aH _⟩
   .exact⟨_,_,W,rfl,rfl,f⟩
  obtain⟨l,n,s,rfl,rfl,f⟩:=I;have R:(Builtin.append_ #[t,t] o.type #[.slice l xs.length s,.slice V ([]:List α).length c]).run P w= .ok (.slice l xs.length s) w:=by
   have D:(Builtin.firstCells ti.size 0 (.slice V 0 c)).run P w= .ok #[] w:=by
    cases V with
    | none=>rfl
    | some q=>simp [Builtin.firstCells,loadCells,loadCellsFrom]
   cases l with
   | none=>simp [Builtin.append_,run_underlying ht,sizeOf,typeInfo,hi,Builtin.lenOf,D,f]
   | some q=>simp [Builtin.append_,run_underlying ht,sizeOf,typeInfo,hi,Builtin.lenOf,D,f,storeCells]
  have a3:(execOp a.eval o).run P w= .ok (.value (.slice l xs.length s)) w:=by simp only [execOp,ho,resolve,invoke,builtin,Sem.run_bind,Sem.run_pure,Result.andThen_ok,gK,cJ,fS,hs.ev hx,hs.ev hy,R]
  unfold Oper.wp;rw [a3];show K (a.put o.dst _) _;rw [hd];refine hK _ _ _ aA ((Sat.upd hs Y rfl F (q:=On k e enc (.slice l xs.length s) (xs ++ [])) (Chg.refl _ w) ?_ (λb Z=> .inl Z) h0 hw).put d _ hN) (Chg.refl _ w);rw [iS];exact h
 .exact t_appM (i2:=0) ho hd hN hx hy Y F hj hr S ht hi hz he a2 a1 a4 Z B h0 hw hM
theorem Zbn  {G:Type} {φ:G->Prop} {c:G->Ob} {g:G->Hp} {d:Hp}   (i:Nat) (hi:lk H i=some p) (F:p.own=true) (D:ks.all (λk=>!Nat.beq k i)=true) (n:Agr d H ks)
  (h:(∀b,p.fp b->Off d ks b)->T P N sc (Off d ks) o env H φ c g):T P N sc (Off d ks) o env H φ c g:=λa w hs=>
 h (λb s k j q l B=>by
  rw [<-n.mem k j]at l;have f:i≠k:=λe=>by subst e;have:=cP.1 D i j;simp at this
  exact hs.sep i k p q f hi l F b s B) a w hs
def eaf(v:Value)(i k q:Nat):Addr:=(ead v i k).add q
theorem Kd {α:Type}    {f:Nat} {fs:Array Field} {b:Field} {G ii q:Nat}   {enc:α->Value} {xs:List α} (s:o.op= .fieldAddr t x f)
  (h:ev env x=some (.pointer (some (ead v i k)))) (j:lk H ii=some p) (D:Rd p k enc v xs) (F:P.underlying t=some (.struct fs)) (l:fs[f]? = some b) (n:∀w,(sizeOf b.type).run P w= .ok (G+1) w) (B:b.offset=q) (d:i<xs.length:=by omega) :
  Mz P N sc o env H (.pointer (some (eaf v i k q))):=λa w hs=>by
 obtain⟨R,c,rfl,S,V,e⟩:=D w (hs.hold ii p j);rcases e with rfl|⟨g,I,rfl,e⟩
 .simp at d
 .subst B;simp only [ead,Ot]at h;simp [execOp,s,hs.ev h,Instr.fieldAt,run_underlying F,l,Instr.sureAddr,fieldPlace,n,Ot,eaf,ead]
theorem Kc {α:Type}    {ii q:Nat}   {enc:α->Value} {xs:List α} (e:α) (n:o.op= .load t x)
  (f:ev env x=some (.pointer (some (eaf v i k q)))) (j:lk H ii=some p) (s:Rd p k enc v xs) (l:∀w,(isAgg t).run P w= .ok false w) (B:(enc (xs.getD i e)).cells.toList[q]? = some u) (b:i<xs.length:=by omega):Mz P N sc o env H u:=λa w hs=>by
 obtain⟨F,c,rfl,G,I,d⟩:=s w (hs.hold ii p j);rcases d with rfl|⟨g,D,rfl,d⟩
 .simp at b
 .have hi:xs[i]? = some (xs.getD i e):=by simp [List.getD,aN b]
  have h:=d i _ hi q u B;simp only [eaf,ead,Ot]at f;simp [execOp,n,hs.ev f,Instr.loadAt,Instr.sureAddr,loadVar,l,load,Sem.run,h]
end Go.Sky
namespace Go.Sky
variable{o:Oper}{r:List Pc}{f:FuncId}{xs:List Operand}{vs us:List Value}{a:Act}{w:World}{c x:Operand}{ats:Array TypeId}{b:Nat}{t:TypeId}{cs:Array Value}
abbrev rq (z:Int×Int):Value:= .agg #[.bool (decide (z.1<0)),.string (Qv z.1.natAbs),.bool (decide (z.2<0)),.string (Qv z.2.natAbs)]
abbrev encQ (z:(Bool×ByteArray)×(Bool×ByteArray)):Value:= .agg #[.bool z.1.1,.string z.1.2,.bool z.2.1,.string z.2.2]
def Ql{P:Program}{N:Nat}{sc:Nat->Prop}{env:Ob}{H:Hp}{r r':Value}(h:Mz P N sc o env H r)(e:r=r'):Mz P N sc o env H r':=e▸h
open Go.RowKit (Below)
variable {P:Program} {N:Nat} {sc:Nat->Prop} {env env':Ob} {H H':Hp} {Q Q':Exit->Act->World->Prop} {M:Nat->Prop}
theorem d_mkc{ys:List Operand}(g:o.op= .makeFunc (.func f) xs.toArray ys.toArray)(i:EvL env xs vs)(h:EvL env ys us):Mz P N sc o env H (.func (.func f) vs.toArray us.toArray):=λa w hs=>by have d:=i.map hs;have e:=h.map hs;simp [execOp,g,Instr.makeFunc,d,e]
theorem Zm9   (hs:Sat N sc env H a w)      {fs:List Value} (h:o.op= .call { callee:= .value c,args:=xs.toArray,argTypes:=ats })
  (e:ev env c=some (.func (.func f) fs.toArray us.toArray)) (d:EvL env xs vs):(execOp a.eval o).run P w=(callFunc f (fs ++ vs ++ us).toArray).run P w:=by
 have g:=d.map hs;simp [execOp,h,resolve,invoke,hs.ev e,Deferred.ofValue,g]
theorem Zhs(i:Nat)(hi:lk H i=some (box b t cs))(d:Nat.beq i 0=false)(h:PreOk H false r):PreOk H false (Fd b t cs::r):=
 ⟨⟨i,_,λe=>by subst e;simp at d,hi,λw h=>h,λb g=>g,λh=>by cases h⟩,h⟩
theorem Sat.rboxc(hs:Sat N sc env H a w){i:Nat}(d:lk H i=some (Fd b t cs))(j:Nat):w.cell? ⟨b,j,none⟩=cs[j]?:=by have h:w.heap[b]? = some (.cells cs t (0,0)):=hs.hold i _ d;simp [World.cell?,h]
theorem d_lra   {v:TypeId} {i j k:Nat}   (l:o.op= .load t x)
  (s:ev env x=some (.pointer (some ⟨b,j,none⟩))) (e:lk H i=some (Fd b v cs)) (m:∀w,(isAgg t).run P w= .ok true w) (g:∀w,(sizeOf t).run P w= .ok k w)
  (h:vs.length=k) (q:∀n u,vs[n]? = some u->cs[j+n]? = some u):Mz P N sc o env H (.agg vs.toArray):=λa w hs=>by
 have d:=run_loadCells_list (P:=P) w ⟨b,j,none⟩ vs (λn u p=>by rw [Ot,hs.rboxc e];exact q n u p);rw [h]at d;simp [execOp,l,hs.ev s,Instr.loadAt,Instr.sureAddr,loadVar,m,g,d]
theorem Yjw{m:Int}(d:o.op= .unOp .neg t x)(e:ev env x=some (.int .i64 m))(h:Nx (-m):=by exact⟨O,O⟩):Mz P N sc o env H (.int .i64 (-m)):=λa w hs=>by simp [execOp,d,hs.ev e,Op.unary,Op.intArith,Zbi h]
theorem fill24(n p q s d e g h j k l m:Value):Instr.fill (λi=>some (i*4,4)) ((List.range (2*4)).map ((Value.agg #[n,p,q,s]).cells[· % (Value.agg #[n,p,q,s]).cells.size]!)).toArray [(0,.agg #[d,e,g,h]),(1,.agg #[j,k,l,m])]=some #[d,e,g,h,j,k,l,m]:=by
 simp [Instr.fill,Value.cells,List.range,List.range.loop]
 try rfl
end Go.Sky
namespace Go.Sky
open Go.RowKit (Below)
variable{f:FuncId}{c:Operand}{xs:List Operand}{ats:Array TypeId}{p:Pc}{vs:List Value}{pre:List Pc}{w0:World}{M0:Nat->Prop}{fn:Func}
variable {P:Program} {N:Nat} {sc:Nat->Prop} {env env':Ob} {H H':Hp} {Q Q':Exit->Act->World->Prop} {M:Nat->Prop}
abbrev iq (z:(Int×Int)×(Int×Int)):Value:= .agg #[.bool (decide (z.1.1<0)),.string (Qv z.1.1.natAbs),.bool (decide (z.1.2<0)),.string (Qv z.1.2.natAbs),.bool (decide (z.2.1<0)),.string (Qv z.2.1.natAbs),.bool (decide (z.2.2<0)),.string (Qv z.2.2.natAbs)]
def Ypn(P:Program)(f:FuncId)(args:Array Value)(pre:List Pc)(p:Pc){G:Type}(φ:G->Prop)(Yq:G->Value)(q:G->Pc):Prop:=
 ∀w,(∀r∈pre,r.holds w/\∀k,p.fp k->¬r.fp k)->p.holds w->Calls P f args w λe a=>∃g,e= .returned (Yq g)/\φ g/\Chg p.fp w a/\(q g).holds a/\∀k,(q g).fp k->p.fp k\/w.heap.size<=k
theorem Zyh {o:Oper}     {d i:Nat}  {fs us:List Value}  {G:Type} {φ:G->Prop} {Yq:G->Value} {q:G->Pc}  
  (Y:Ypn P f (fs ++ vs ++ us).toArray pre p φ Yq q)
  (ho:o.op= .call { callee:= .value c,args:=xs.toArray,argTypes:=ats }) (y:ev env c=some (.func (.func f) fs.toArray us.toArray)) (Z:o.dst=some d) (V:Nat.blt d N=true)
  (m:EvL env xs vs) (n:∀args w,(callFunc f args).run P w= .ok (.enter f args) w) (x:lk H i=some p) (l:p.own=true) (z:i≠0) (u:PreOk (drp i H) false pre)
  (I:lk H 0=some (Qb w0 M0)) (hw:∀b,w0.heap.size<=b->sc b) (S:∀b,p.fp b->M b) :
  T P N sc M o env H φ (λg=>(d,Yq g)::env) (λg=>(i,q g)::H):=λa w hs K Q R=>by
 have hr:(execOp a.eval o).run P w= .ok (.enter f (fs ++ vs ++ us).toArray) w:=by rw [Zm9 hs ho y m,n]
 unfold Oper.wp;rw [hr];refine(Y w (λr hp=>by obtain⟨j,F,_,v,t,s,_⟩:=u.mem r hp;obtain⟨D,v⟩:=Dl _ _ _ _ v;exact⟨t w (hs.hold j F v),λk B W=>hs.sep i j _ F (iC D) x v l k B (s k W)⟩) (hs.hold i _ x)).mono ?_
 rintro e w' ⟨g,rfl,hg,h,hq,s⟩;show K (a.put o.dst (Yq g)) w';rw [Z];exact R g _ _ hg (Sat.put (hs.upd x l z h hq s I hw) d _ V) ⟨h.os,h.tape,h.output,h.size,λk B hn=>h.block k B (λe=>hn (S k e))⟩
def Yle(P:Program)(fn:Func)(w0:World)(p:Pc){G:Type}(φ:G->Prop)(Yq:G->Value)(q:G->Pc):Exit->Act->World->Prop:=
 bodyPost P fn λe a=>∃g,e= .returned (Yq g)/\φ g/\Chg p.fp w0 a/\(q g).holds a/\∀k,(q g).fp k->p.fp k\/w0.heap.size<=k
theorem Ybs   {c:Code}    {G:Type} {φ:G->Prop} {Yq:G->Value} {q:G->Pc} {N:Nat}
  (V:P.funcs[f]? = some fn) (S:fn.body=some c) (R:fn.ntmps=N) (n:Nat.ble vs.length N=true) (B:AllRo pre)
  (h:∀w0 (sc:Nat->Prop),(∀k,w0.heap.size<=k->sc k)->(∀k,sc k->w0.heap.size<=k\/p.fp k\/∃q∈pre,q.fp k)->
   E P N sc c (Yle P fn w0 p φ Yq q) (Oh 0 vs) ((0,Qb w0 p.fp)::(1,p)::Qt 2 pre)) :
  Ypn P f vs.toArray pre p φ Yq q:=λw D s=>by
 refine calls_of_wp V S (h w (λk=>w.heap.size<=k\/p.fp k\/∃q∈pre,q.fp k) (λk b=> .inl b) (λk b=>b) _ w ?_);have n:vs.length<=N:=by simpa using n
 have a:∀i r,lk ((0,Qb w p.fp)::(1,p)::Qt 2 pre) i=some r->(i=0/\r=Qb w p.fp)\/(i=1/\r=p)\/(i≠0/\i≠1/\r∈pre/\r.own=false):=λi r hi=>by
   by_cases l:0=i
   .subst l;rw [Yl]at hi;cases hi;exact .inl ⟨rfl,rfl⟩
   .rw [Zy _ _ l]at hi;by_cases g:1=i
    .subst g;rw [Yl]at hi;cases hi;exact .inr (.inl ⟨rfl,rfl⟩)
    .rw [Zy _ _ g]at hi;obtain⟨_,d⟩:=Md pre 2 i r hi;exact .inr (.inr ⟨λe=>l e.symm,λe=>g e.symm,d,B.mem r d⟩)
 refine⟨by simp [R];omega,rfl,λt v Y=>?_,λi r hi=>?_,λi j r F y hi W z k b m=>?_,λi r u hi k b=>?_⟩
 .have g:vs.toArray[t]? = some v:=by simpa using(Fi vs 0 t v Y).2
  have x:=(bI.1 g).1;rw [bP,eU x,g];rfl
 .rcases a i r hi with⟨_,rfl⟩|⟨_,rfl⟩|⟨_,_,d,_⟩
  .exact Chg.refl _ w
  .exact s
  .exact(D r d).1
 .rcases a i r hi with⟨_,rfl⟩|⟨g,rfl⟩|⟨_,_,d,o⟩
  .cases z
  .rcases a j F W with⟨_,rfl⟩|⟨I,rfl⟩|⟨_,_,d,_⟩
   .exact m.2 b
   .exact y (g.trans I.symm)
   .exact(D F d).2 k b m
  .rw [o]at z;cases z
 .rcases a i r hi with⟨l,_⟩|⟨_,rfl⟩|⟨_,_,d,_⟩
  .exact absurd l u
  .exact .inr (.inl b)
  .exact .inr (.inr ⟨r,d,b⟩)
theorem Yeh    {G:Type} {φ:G->Prop} {Yq:G->Value} {q:G->Pc}  {e:Exit} (B:e= .ret\/e= .normal) (u:∀k,sc k->w0.heap.size<=k\/p.fp k\/∃q∈pre,q.fp k)
  (g:G) (v:Value) (m:∀a w,Sat N sc env H a w->(results fn a.tmps).run P w= .ok v w) (I:Yq g=v) (D:φ g) (i:Nat) (hi:lk H i=some (q g)) (z:lk H 0=some (Qb w0 p.fp)) (b:Nat.beq i 0=false) (d:(q g).own=true) (l:PreOk (drp i H) false pre) :
  X N sc e (Yle P fn w0 p φ Yq q) env H:=λa w hs=>by
 have b:i≠0:=λe=>by subst e;simp at b
 have x:a.defers=[]/\∃v,(results fn a.tmps).run P w= .ok v w/\(∃g,Ending.returned v= .returned (Yq g)/\φ g/\Chg p.fp w0 w/\(q g).holds w/\∀k,(q g).fp k->p.fp k\/w0.heap.size<=k):=by
  refine⟨hs.defers,v,m a w hs,g,by rw [I],D,hs.hold 0 _ z,hs.hold i _ hi,λk y=>?_⟩;rcases u k (hs.scope i _ b hi k y)with h|h|⟨r,F,t⟩
  .exact .inr h
  .exact .inl h
  .obtain⟨j,R,_,o,_,n,_⟩:=l.mem r F;obtain⟨s,o⟩:=Dl _ _ _ _ o;exact(hs.sep i j _ R (iC s) hi o d k y (n k t)).elim
 rcases B with rfl|rfl<;>exact x
def gb{α:Type}(b:Nat)(t:TypeId)(k:Nat)(e:TypeId)(enc:α->Value)(v:Value)(xs:List α):Pc:=
 {own:=true,fp:=λc=>c=b\/v.ownBlock=some c,holds:=λw=>(box b t #[v]).holds w/\(On k e enc v xs).holds w/\v.ownBlock≠some b
  lt:=λw c h a=>by
   rcases a with rfl|a
   .exact(box c t #[v]).lt w c h.1 rfl
   .exact(On k e enc v xs).lt w c h.2.1 a
  stable:=λw l h a=>⟨(box b t #[v]).stable w l h.1 ⟨a.os,a.tape,a.output,a.size,λk g i=>a.block k g (λd=>i (λj=>d (.inl j)))⟩,
   (On k e enc v xs).stable w l h.2.1 ⟨a.os,a.tape,a.output,a.size,λk g i=>a.block k g (λd=>i (λj=>d (.inr j)))⟩,h.2.2⟩ }
end Go.Sky

