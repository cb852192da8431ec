/- Rules, arithmetic and contracts: part 3. No conditions but those that each theorem names. -/
import Derived.Test.YtpmihempjefadaaGreatGa01
set_option linter.all false
namespace Go.Sky
set_option maxRecDepth 20000
variable{k D:Nat}{v:Value}{R ys:List Nat}{y x:Int}{b t s:Bool}{p xs:List Int}{f:FuncId}{args:Array Value}{pre:List Pc}
theorem Zdq{n:Nat}(h:n<U):tz [n]=dg U n:=by rw [<-Lr Yl [n] (by simpa using h)];simp [val]
theorem Zix{N:Nat}{sc:Nat->Prop}{env:Xu}{H:Hp}{α:Type}{e:TypeId}{enc:α->Value}{xs ys:List α}(i:Nat)(h:xs=ys)(hi:lk H i=some (Nl k e enc v xs))(c:Nat.beq i 0=false) :
  ∀a w,Sat N sc env H a w->Sat N sc env ((i,Nl k e enc v ys)::H) a w:=by
 subst h;exact Zj7 i hi rfl (λw h=>h) (λb d=>d) c
theorem Zh0(R:List Nat)(j:Nat)(a:j<=R.length):val U R=val U (R.take j)+U^j*val U (R.drop j):=by have:=Ps U (R.take j) (R.drop j);rw [gN,aN,cW a]at this;exact this
theorem Zfz(g:∀d∈R,d<U)(j:Nat)(e:j<=R.length):val U (R.take j)=val U R%U^j/\val U (R.drop j)=val U R/U^j:=by
 have c:=Zh0 R j e;have a:=Zdp Yp (R.take j) (λd h=>g d (dX h));rw [aN,cW e]at a;have i:0<U^j:=bK Yp;constructor
 .rw [c,gK,gL,aQ a]
 .rw [c,gK,fR i,cS a,eO]
theorem Zb6(e:∀d∈R,d<U){n:Nat}(g:n<=R.length)(h:val U R<U^n):val U (R.drop n)=0/\val U (R.take n)=val U R:=by obtain⟨a,c⟩:=Zfz e n g;rw [c,a,aQ h];exact⟨cS h,rfl⟩
theorem Ych(c:∀d∈R,d<U){j n:Nat}(g:j+n<=R.length)(h:val U R<U^(j+n)):tz ((R.drop j).take n)=dg U (val U R/U^j):=by have a:∀d∈R.drop j,d<U:=λd a=>c d (hZ a);rw [<-(Zfz c j O).2,<-Lr Yl _ (λd e=>a d (dX e))];congr 1;refine(Zb6 a (by rw [dO];omega) ?_).2;rw [(Zfz c j O).2,bQ (bK Yp),<-bH,gK];exact h
theorem Zl7(c:∀d∈R,d<U)(e:∀d∈ys,d<U)(lo:Nat):∀d∈spl R lo ys,d<U:=λd a=>by
 simp only [spl,dH]at a;rcases a with(a|a)|a
 .exact c d (dX a)
 .exact e d a
 .exact c d (hZ a)
theorem Zmh(L:Nat)(ys:List Nat):val U (spl (List.replicate L 0) 0 ys)=val U ys:=by simp [spl,Ps,mC,Hl]
theorem Ycm(a:∀d∈R,d<U){j n:Nat}(g:j+n<=R.length)(h:val U R<U^(j+n))(i:ys.length<=n) :
  val U (spl (spl R j (List.replicate n 0)) j ys)=val U R%U^j+U^j*val U ys:=by
 have c:(spl R j (List.replicate n 0)).take j=R.take j:=by simp only [spl,eJ];rw [jL (by rw [aN];omega),gC,Nat.min_self]
 have e:(spl R j (List.replicate n 0)).drop (j+ys.length)=List.replicate (n-ys.length) 0 ++ R.drop (j+n):=by simp only [spl,eJ,aW];rw [<-List.drop_drop,List.drop_left' (by rw [aN];omega),jK (by rw [aW];exact i),mC]
 rw [spl,c,e,Ps,Ps,Ps,Hl,(Zb6 a g h).1,(Zfz a j O).1,aN,cW O];simp
theorem Ydt{y b:Nat}(d:0<y)(l:k=(dg U y).length)(r:b=64-bl ((dg U y).getD (k-1) 0)):(dg U (y*2^b)).length=k/\2^b*U^k<=y*2^b*U*2^b/\1<=k/\y*2^b<U^k/\b<=63/\U^(k-1)*9223372036854775808<=y*2^b:=by
 obtain⟨m,n,g,o⟩:=Zru d;rw [<-l]at m n g o;obtain⟨h,q⟩:=Zlx d;have i:=Ga y;have e:bl y+b=64*k:=O;have c:y*2^b<U^k:=by rw [Zac,<-e,bH];exact dP i (dB b)
 have a:U^(k-1)*9223372036854775808<=y*2^b:=by
  have:U^(k-1)*9223372036854775808=2^(bl y-1)*2^b:=by rw [Zac,<-bH,show 9223372036854775808=2^63 from rfl,<-bH];congr 1;omega
  rw [this];exact aI _ h
 have j:U^k=U^(k-1)*U:=by rw [<-bL];congr 1;omega
 refine⟨?_,?_,g,c,O,a⟩
 .refine iM ((Yt Yl _ _).2 c) ?_;have:k-1<(dg U (y*2^b)).length:=(Pg Yl _ _).2 (aB (dL _ O) a);omega
 .rw [j,aJ (2^b)];refine aI _ ?_;refine aI _ (aB (dL _ O) a)
theorem Zz9{W w1 w0 t:Nat}(a:t*U^k<=D)(e:0<t)(c:W/U^k=w1*U+w0):W/D<=(w1*U+w0)/t:=by have d:0<U^k:=bK Yp;rw [<-c,aS,aJ];exact mD a (fF e d)
theorem Ycr(c:∀d∈R,d<U){j:Nat}(m:1<=k)(h:val U R<U^(j+k+1))(n:j+k+1<=R.length):val U R/U^j/U^(k-1)=R.getD (j+k) 0*U+R.getD (j+k-1) 0:=by
 have e:∀i,R.getD i 0=val U R/U^i%U:=λi=>by
  rcases bJ i R.length with hi|hi
  .have a:=(Zfz c i O).2;rw [Zda 0 R i hi]at a;simp only [val]at a;rw [<-a,iI,aQ (Yv Yp c i)]
  .rw [show R.getD i 0=0 by simp [List.getD,bI hi],cS (cL (Zdp Yp R c) (cN Yp hi))];rfl
 rw [e,e,aS,<-bH,show j+(k-1)=j+k-1 by omega];have g:val U R/U^(j+k)<U:=by rw [bQ (bK Yp),<-mK,gK (j+k)]at *;rw [gK 1]at *;exact h
 have l:val U R/U^(j+k)=val U R/U^(j+k-1)/U:=by rw [aS,<-bL];congr 2;omega
 rw [aQ g,l,aJ,bP]
theorem Ya5{x b lx:Nat}(e:x<U^lx)(c:b<=63)(l:1<=k)(d:k<=lx+1)(a:U^(k-1)*9223372036854775808<=D):x*2^b<D*U^(lx+1-k):=by
 have g:x*2^b<U^lx*2^b:=dP e (dB b);have h:U^lx*2^b<=U^lx*9223372036854775808:=bZ _ (by rw [show 9223372036854775808=2^63 from rfl];exact cN O c)
 have i:U^lx*9223372036854775808=U^(k-1)*9223372036854775808*U^(lx+1-k):=by rw [gJ,<-bH];congr 2;omega
 have j:U^(k-1)*9223372036854775808*U^(lx+1-k)<=D*U^(lx+1-k):=aI _ a;omega
theorem Ya4{V j Q Vq N:Nat}(h:0<D)(a:Q=V/U^j/D)(i:Vq*U^(j+1)*D+V=N) :
  V%U^j+U^j*(V/U^j-D*Q)<D*U^j/\(Q+U*Vq)*U^j*D+(V%U^j+U^j*(V/U^j-D*Q))=N:=by
 have l:0<U^j:=bK Yp;have o:=bG V l;have q:=bP V (U^j);have c:=bP (V/U^j) D;have d:=bG (V/U^j) h;have e:V/U^j-D*Q=V/U^j%D:=by rw [a];omega
 rw [e];constructor
 .have g:U^j*(V/U^j%D+1)<=U^j*D:=bZ _ d;rw [fE]at g;rw [aJ D];omega
 .rw [<-i];have m:(Q+U*Vq)*U^j*D=U^j*(D*Q)+Vq*U^(j+1)*D:=by
   rw [bD,bD,bL];congr 1
   .rw [aJ Q,cF,aJ Q]
   .rw [aJ U Vq,cF Vq,aJ U]
  have n:U^j*(D*Q)+U^j*(V/U^j%D)=U^j*(V/U^j):=by rw [<-fE,a,c]
  omega
def sg(s:Bool)(x:Int):Prop:=(s=true->x<=0)/\(s=false->0<=x)
theorem Zxr(h:sg s x):sg (!s) (-x):=by cases s<;>simp [sg]at*<;>omega
theorem sg_mul(hs:sg s x)(a:sg t y):sg (s != t) (x*y):=by
 cases s<;>cases t<;>simp [sg]at *
 .exact cY hs a
 .exact Int.mul_nonpos_of_nonneg_of_nonpos hs a
 .exact fO hs a
 .exact Int.mul_nonneg_of_nonpos_of_nonpos hs a
theorem Zu3(h:(((dg U x.natAbs).length:Nat):Int)=0):Value.int .i64 x.sign= .int .i64 0:=by have a:=(Qp Yl x.natAbs).1 O;have:x=0:=O;subst this;rfl
theorem Zxo(hs:sg s x)(a:s=true)(h:¬(((dg U x.natAbs).length:Nat):Int)=0):Value.int .i64 x.sign= .int .i64 (-1):=by have c:¬x.natAbs=0:=λe=>h (by rw [(Qp Yl x.natAbs).2 e];rfl);have d:=hs.1 a;rw [eE O]
theorem Zxn(hs:sg s x)(a:s=false)(h:¬(((dg U x.natAbs).length:Nat):Int)=0):Value.int .i64 x.sign= .int .i64 1:=by have c:¬x.natAbs=0:=λe=>h (by rw [(Qp Yl x.natAbs).2 e];rfl);have d:=hs.2 a;rw [eW O]
theorem Zr0(hs:sg s x)(a:sg s y):sg s (x+y):=by cases s<;>simp [sg]at*<;>omega
theorem Zdn(hs:sg s x)(a:sg s y):(x+y).natAbs=x.natAbs+y.natAbs:=by cases s<;>simp [sg]at*<;>omega
theorem Zfh(hs:sg s x)(c:sg t y)(h:s≠t)(a:y.natAbs<=x.natAbs):sg s (x+y):=by cases s<;>cases t<;>simp [sg]at*<;>omega
theorem Cb(hs:sg s x)(c:sg t y)(h:s≠t)(a:y.natAbs<=x.natAbs):(x+y).natAbs=x.natAbs-y.natAbs:=by cases s<;>cases t<;>simp [sg]at*<;>omega
abbrev wv (x:Int):Value:= .agg #[.bool (decide (x<0)),.string (Yw x.natAbs)]
def Db(x:Int):Int:=if 65536<bl x.natAbs then 0 else x
def Zfa(x:Int):Int:=if 65536<bl x.natAbs then 7 else 0
theorem Ye8:bl (Db x).natAbs<=65536:=by
 unfold Db;split
 .decide
 .omega
theorem Ng(h:bl x.natAbs<=65536):Db x=x:=by unfold Db;rw [aE O]
theorem Zk3(h:bl x.natAbs<=65536):Zfa x=0:=by unfold Zfa;rw [aE O]
theorem Ye7(h:65536<bl x.natAbs):Db x=0:=by unfold Db;rw [aG h]
theorem Yek(h:65536<bl x.natAbs):Zfa x=7:=by unfold Zfa;rw [aG h]
abbrev Bs (x:Int):Value:= .tuple #[wv (Db x),.int .i64 (Zfa x)]
theorem Zut(h:((65536:Int)<((bl x.natAbs:Nat):Int))):Bs x= .tuple #[.agg #[.bool false,.string ⟨#[]⟩],.int .i64 7]:=by unfold Bs;rw [Ye7 O,Yek O];rfl
theorem Zrg(h:¬((65536:Int)<((bl x.natAbs:Nat):Int))):Bs x= .tuple #[wv x,.int .i64 0]:=by unfold Bs;rw [Ng O,Zk3 O]
theorem Zme(hs:sg false x)(h:¬((65536:Int)<((bl x.natAbs:Nat):Int))):Bs x= .tuple #[.agg #[.bool false,.string (Yw x.natAbs)],.int .i64 0]:=by rw [Zrg h,wv,aM (by have:=hs.2 rfl;omega)]
theorem Zmd(hs:sg true x)(h:¬((65536:Int)<((bl x.natAbs:Nat):Int))):Bs x= .tuple #[.agg #[.bool (decide ((0:Int)<(((dg U x.natAbs).length:Nat):Int))),.string (Yw x.natAbs)],.int .i64 0]:=by have a:=hs.1 rfl;have c:=Qp Yl x.natAbs;rw [Zrg h,wv,show decide (x<0)=decide ((0:Int)<(((dg U x.natAbs).length:Nat):Int))from cE.2 ⟨λh=>O,λh=>O⟩]
theorem Zv9{q r:Int}(d:y≠0)(h:x=y*q+r)(l:0<=r)(m:r<(y.natAbs:Int)):x/y=q/\x%y=r:=by
 have e:=Int.mul_ediv_add_emod x y;have i:=lG x d;have j:=Int.emod_lt x d;have c:x/y=q:=by
  have g:y*(x/y-q)=r-x%y:=by rw [nE];omega
  have a:(y*(x/y-q)).natAbs<y.natAbs:=by rw [g];omega
  rw [cC]at a;rcases aU (x/y-q).natAbs with h|h
  .omega
  .exact absurd (dL y.natAbs h) O
 refine⟨c,?_⟩;rw [c]at e;omega
theorem Zpx(h:sg s x):x=if s then -(x.natAbs:Int)else(x.natAbs:Int):=by cases s<;>simp [sg]at*<;>omega
theorem Zts(hs:sg s x)(d:sg t y)(e:y≠0){Q R:Nat}(g:R<y.natAbs)(h:x=(if s then -1 else 1)*((y.natAbs:Int)*Q)+R) :
  sg (s != t) (x/y)/\(x/y).natAbs=Q/\(x%y).natAbs=R:=by
 have c:=Zpx d;have a:x/y=(if s != t then -(Q:Int)else Q)/\x%y=R:=by
  refine Zv9 e ?_ O O
  conv=>lhs;rw [h]
  conv=>rhs;rw [c]
  cases s<;>cases t<;>simp [nF,jM]
 rw [a.1,a.2];cases s<;>cases t<;>simp [sg]
theorem divB(hs:sg s x)(h:sg t y)(i:y≠0)(g:s=false\/x.natAbs%y.natAbs=0):sg (s != t) (x/y)/\(x/y).natAbs=x.natAbs/y.natAbs/\(x%y).natAbs=x.natAbs%y.natAbs:=by
 have c:=Zpx hs;have e:=bP x.natAbs y.natAbs;refine Zts hs h i (bG _ O) ?_;have a:((y.natAbs:Int)*((x.natAbs/y.natAbs:Nat):Int))+((x.natAbs%y.natAbs:Nat):Int)=x.natAbs:=by rw [<-dM,<-iQ,e]
 rcases g with rfl|d
 .simp at c ⊢;simp at a;omega
 .rw [d]at a ⊢;cases s<;>simp at c a ⊢<;>omega
theorem divA(hs:sg true x)(a:sg t y)(c:y≠0)(g:0<x.natAbs%y.natAbs):sg (true != t) (x/y)/\(x/y).natAbs=x.natAbs/y.natAbs+1/\(x%y).natAbs=y.natAbs-x.natAbs%y.natAbs:=by
 have i:=Zpx hs;have e:=bP x.natAbs y.natAbs;have h:=bG x.natAbs (show 0<y.natAbs by omega);refine Zts hs a c O ?_;have d:((y.natAbs:Int)*((x.natAbs/y.natAbs:Nat):Int))+((x.natAbs%y.natAbs:Nat):Int)=x.natAbs:=by rw [<-dM,<-iQ,e]
 rw [Int.natCast_sub O,iQ,kJ];generalize ((y.natAbs:Int)*((x.natAbs/y.natAbs:Nat):Int))=P at *;generalize ((x.natAbs%y.natAbs:Nat):Int)=R at *;simp only [gP]at *;omega
def okW(b:Bool)(s:ByteArray):Bool:=if s.size=0 then !b else decide ((s.data.toList.getD 0 0).toNat≠0) && decide (s.size<=8192)
theorem bl256 (n:Nat)(k:Nat) : (dg 256 n).length<=k↔bl n<=8*k:=by rw [Zg9];omega
theorem Ah(h:bl x.natAbs<=65536):okW (decide (x<0)) (Yw x.natAbs)=true:=by
 unfold okW;rw [Hj];split
 .rename_i c;have:=(Qp (by omega:2<=256) x.natAbs).1 c;simp;omega
 .rename_i c;have g:0<x.natAbs:=by
   rcases aU x.natAbs with a|a
   .rw [a]at c;simp [Kp]at c
   .exact a
  have a:=Zo5 x.natAbs 0 O;have d:=dg_top (by omega:2<=256) g;rw [Kq O]at d;have e:=(bl256 x.natAbs 8192).2 O;rw [aL];refine⟨aO (by rw [a];simpa using d),aO e⟩
theorem Zef{a b:ByteArray}(h:a.data.toList=b.data.toList):a=b:=by cases a;cases b;simp at h;rw [h]
theorem Yfk{s:ByteArray}(e:s.size≠0)(h:(s.data.toList.getD 0 0).toNat≠0):s=Yw (val 256 (s.data.toList.reverse.map UInt8.toNat)):=by
 have g:s.data.toList.length=s.size:=rfl;have a:∀d∈s.data.toList.reverse.map UInt8.toNat,d<256:=λd c=>by obtain⟨u,_,rfl⟩:=jX.1 c;exact u.toNat_lt
 refine Zef ?_;unfold Yw;rw [Lr O _ a,tz_eq]
 .simp [List.map_reverse,Function.comp_def]
 .refine .inr ?_;rw [bX,List.length_reverse,aX,fI,List.getElem?_reverse O];rw [show s.data.toList.length-1-(s.data.toList.length-1)=0 by omega];rw [aX]at h;cases hx:s.data.toList[0]? with
  | none=>rw [hx]at h;simp at h
  | some u=>rw [hx]at h;simpa using h
theorem Zkk{s:ByteArray}(h:okW b s=true):∃x:Int,bl x.natAbs<=65536/\b=decide (x<0)/\s=Yw x.natAbs:=by
 unfold okW at h;split at h
 .rename_i c;refine⟨0,by simp [Ms],?_,?_⟩
  .cases b<;>simp_all
  .refine Zef ?_;have:s.data.toList.length=0:=c;rw [aF this];rfl
 .rename_i c;rw [aL]at h;have e:=cZ h.1;have g:=cZ h.2;have hs:=Yfk c e;generalize val 256 (s.data.toList.reverse.map UInt8.toNat)=n at hs;have d:(dg 256 n).length=s.size:=by rw [hs,Hj]
  have i:0<n:=by
   rcases aU n with h|h
   .subst h;simp [Kp]at d;omega
   .exact h
  have a:bl n<=65536:=by have:=(bl256 n 8192).1 O;omega
  cases b with
  | true=>exact⟨-(n:Int),by simpa using a,O9,by simpa using hs⟩
  | false=>exact⟨n,by simpa using a,O7,by simpa using hs⟩
def eqW(a:Bool)(s:ByteArray)(b:Bool)(t:ByteArray):Bool:=(a == b) && (s.toList == t.toList)
theorem Zwo(h:decide (x<0)=decide (y<0))(g:Yw x.natAbs=Yw y.natAbs):x=y:=by
 have j:x.natAbs=y.natAbs:=by
  have a:(dg 256 x.natAbs).reverse.map UInt8.ofNat=(dg 256 y.natAbs).reverse.map UInt8.ofNat:=by have:=aP (λb:ByteArray=>b.data.toList) g;simpa [Yw]using this
  have c:∀n:Nat,((dg 256 n).reverse.map UInt8.ofNat).map UInt8.toNat=(dg 256 n).reverse:=λn=>by
   rw [mW]
   conv=>rhs;rw [<-List.map_id (dg 256 n).reverse]
   refine mE λd i=>?_;have:=Ol (by omega:2<=256) n d (List.mem_reverse.1 i);simp [UInt8.toNat_ofNat',aQ this]
  have e:=aP (List.map UInt8.toNat) a;rw [c,c]at e;exact(Zed (by omega:2<=256)).1 (List.reverse_inj.1 e)
 have a:=cE.1 h;omega
theorem Zle{a:Bool}{s t:ByteArray} : eqW a s b t=true↔a=b/\s=t:=by unfold eqW;rw [aL,ByteArray.toList_eq,ByteArray.toList_eq,gW,gW];exact⟨λh=>⟨h.1,Zef h.2⟩,λh=>⟨h.1,by rw [h.2]⟩⟩
theorem Zqs(x y:Int):eqW (decide (x<0)) (Yw x.natAbs) (decide (y<0)) (Yw y.natAbs)=decide (x=y):=by rw [Bool.eq_iff_iff,Zle,fA];exact⟨λh=>Zwo h.1 h.2,λh=>by rw [h];exact⟨rfl,rfl⟩⟩
theorem Xl(x:Int):sg (decide (x<0)) x:=by unfold sg;simp;omega
def Bf(x y:Int):bl (x+y).natAbs<=max (bl x.natAbs) (bl y.natAbs)+1:=
 aB (Py (kK x y)) bl_add
theorem Xb(x y:Int):bl (x*y).natAbs<=bl x.natAbs+bl y.natAbs:=by rw [cC];exact Zq8 _ _
theorem Zdi(x y:Int):bl (x-y).natAbs<=max (bl x.natAbs) (bl y.natAbs)+1:=by have:=Bf x (-y);rwa [eF,<-eT]at this
theorem Zly(x:Int):bl (-x).natAbs=bl x.natAbs:=by rw [eF]
theorem Zfv(x y:Int):bl (x/y).natAbs<=bl x.natAbs+1:=by have h:(x/y).natAbs<=x.natAbs:=kG x y;have:=Py h;omega
theorem Zum(x y:Int)(a:y≠0):bl (x%y).natAbs<=bl y.natAbs:=by have c:=lG x a;have d:=Int.emod_lt x a;exact Py O
theorem Zl0(x y:Nat):bl (Nat.gcd x y)<=max (bl x) (bl y):=by
 rcases aU x with h|h
 .subst h;rw [Nat.gcd_zero_left];omega
 .have:=Py (kQ h (kU x y));omega
def Yc6(x:Int)(h:y≠0):sg false (x%y):=⟨λa=>Bool.noConfusion a,λ_=>lG x h⟩
def Nc(x y:Int):Int:=if y<0 then -(Int.gcd x y:Int)else(Int.gcd x y:Int)
theorem Al(x y:Int):(Nc x y).natAbs=Nat.gcd x.natAbs y.natAbs:=by unfold Nc;split<;>simp [Int.gcd]
theorem Yd2(h:y≠0):Nc x y≠0:=λe=>by have a:=Al x y;rw [e]at a;have:=(Nat.gcd_eq_zero_iff.1 a.symm).2;omega
theorem Yc4(a:sg t y)(c:y≠0):sg t (Nc x y):=by
 unfold Nc sg at *;refine⟨λh=>?_,λh=>?_⟩
 .rw [aG (by have:=a.1 h;omega)];omega
 .rw [aE (by have:=a.2 h;omega)];omega
theorem Zs4(x y:Int):Iz v (Nat.gcd x.natAbs y.natAbs)=Iz v (Nc x y).natAbs:=by rw [Al]
def Md(x y:Int):Prop:=65536<bl (x/Nc x y).natAbs\/65536<bl (y/Nc x y).natAbs
instance (x y:Int):Decidable (Md x y):=by unfold Md;infer_instance
def Ie(x y:Int):Int:=if Md x y then 0 else x/Nc x y
def Kt(x y:Int):Int:=if Md x y then 0 else y/Nc x y
def Zx8(x y:Int):Int:=if Md x y then 7 else 0
abbrev Cl (x y:Int):Value:= .tuple #[.agg #[.bool (decide (Ie x y<0)),.string (Yw (Ie x y).natAbs),.bool (decide (Kt x y<0)),.string (Yw (Kt x y).natAbs)],.int .i64 (Zx8 x y)]
theorem Ck(h:Md x y):Cl x y= .tuple #[.agg #[.bool false,.string ⟨#[]⟩,.bool false,.string ⟨#[]⟩],.int .i64 7]:=by unfold Cl Ie Kt Zx8;rw [aG h,aG h,aG h];rfl
theorem Eu(h:Zfa x≠0):65536<bl x.natAbs:=by
 unfold Zfa at h;split at h
 .assumption
 .exact absurd rfl h
theorem Zfp(h:Zfa x=0):bl x.natAbs<=65536:=by
 unfold Zfa at h;split at h
 .omega
 .omega
theorem Zm8(c:Zfa (x/Nc x y)=0)(d:Zfa (y/Nc x y)=0):Cl x y= .tuple #[.agg #[.bool (decide (Db (x/Nc x y)<0)),.string (Yw (Db (x/Nc x y)).natAbs),.bool (decide (Db (y/Nc x y)<0)),.string (Yw (Db (y/Nc x y)).natAbs)],.int .i64 0]:=by
 have a:¬Md x y:=λh=>by have:=Zfp c;have:=Zfp d;unfold Md at h;omega
 unfold Cl Ie Kt Zx8;rw [aE a,aE a,aE a,Ng (Zfp c),Ng (Zfp d)]
def okR(b:Bool)(s:ByteArray)(c:Bool)(t:ByteArray):Bool:=okW b s && okW c t && (!c && decide (0<t.size))
theorem Zke(z:Int):(!decide (z<0) && decide (0<(Yw z.natAbs).size))=decide (0<z):=by rw [Bool.eq_iff_iff,aL,Hj,fA,fA];have:=Qp (by omega:2<=256) z.natAbs;simp only [eU,fJ];omega
theorem Zch(z:Int):decide (0<z.sign)=decide (0<z):=by
 rw [cE];rcases kL z 0 with h|h|h
 .rw [eE h];omega
 .subst h;simp
 .rw [eW h];omega
theorem Znl{s:ByteArray}{z:Int}(a:okW b s=true)(c:bl z.natAbs<=65536):okR b s (decide (z<0)) (Yw z.natAbs)=decide (0<z.sign):=by unfold okR;rw [a,Ah c,Zke,Zch];rfl
theorem okR_wv(c:bl x.natAbs<=65536)(d:bl y.natAbs<=65536)(a:0<y):okR (decide (x<0)) (Yw x.natAbs) (decide (y<0)) (Yw y.natAbs)=true:=by unfold okR;rw [Ah c,Ah d,Zke];simp [a]
theorem Zyx{c:Bool}{s t:ByteArray}(h:okR b s c t=true):∃x y:Int,bl x.natAbs<=65536/\bl y.natAbs<=65536/\0<y/\b=decide (x<0)/\s=Yw x.natAbs/\c=decide (y<0)/\t=Yw y.natAbs:=by unfold okR at h;rw [aL,aL]at h;obtain⟨⟨d,e⟩,a⟩:=h;obtain⟨x,g,rfl,rfl⟩:=Zkk d;obtain⟨y,i,rfl,rfl⟩:=Zkk e;rw [Zke]at a;exact⟨x,y,g,i,cZ a,rfl,rfl,rfl,rfl⟩
open Go.RowKit Below
def Sz(n:Nat)(p:List Int):Prop:=∀i,bl (cf p i).natAbs<=n
def Sz.getD{n:Nat}(h:Sz n p)(i:Nat):bl (p.getD i 0).natAbs<=n:=h i
def Sz.mono{n m:Nat}(h:Sz n p)(a:n<=m):Sz m p:=λi=>aB (h i) a
theorem Sz.tzl{n:Nat}(h:Sz n p):Sz n (tzl p):=λi=>by rw [Nj];exact h i
theorem Sz.nil(n:Nat):Sz n []:=λi=>by simp [cf,Ms]
theorem Sz.take{n:Nat}(h:Sz n p)(k:Nat):Sz n (p.take k):=λi=>by
 rw [Iu];split
 .exact h i
 .simp [Ms]
theorem Sz.mem{n:Nat}(h:Sz n p)(a:x∈p):bl x.natAbs<=n:=by obtain⟨i,hi,rfl⟩:=fV.1 a;have:=h i;rwa [Ay hi]at this
theorem Sz.of_mem{n:Nat}(h:∀x∈p,bl x.natAbs<=n):Sz n p:=λi=>by
 rcases bJ i p.length with hi|hi
 .rw [Ay hi];exact h _ (kS hi)
 .rw [Zv hi];simp [Ms]
structure Vp (p:List Int):Prop where
 sz:Sz 65536 p
 tr:Tr p
 len:p.length<=25
def wr(x:Int):Bool×ByteArray:=(decide (x<0),Yw x.natAbs)
def okP(r:List (Bool×ByteArray)):Bool:=r.all (λw=>okW w.1 w.2) && (decide (r.length<=25) && (decide (r.length=0) || decide ((r.getD (r.length-1) (false,⟨#[]⟩)).2.size≠0)))
theorem Zbx : (Yw x.natAbs).size=0↔x=0:=by rw [Hj];have:=Qp (by omega:2<=256) x.natAbs;omega
theorem Aq{i:Nat}(h:i<xs.length):(xs.map wr).getD i (false,⟨#[]⟩)=wr (cf xs i):=by rw [Ay h];simp [List.getD,h]
theorem okP_wr(h:Vp xs):okP (xs.map wr)=true:=by
 unfold okP;rw [aL,aL,jR];refine⟨bR.2 λw e=>?_,by simpa using h.len,?_⟩
 .obtain⟨x,g,rfl⟩:=jX.1 e;exact Ah (h.sz.mem g)
 .rcases h.tr with a|a
  .left;simp [a]
  .right;have i:0<xs.length:=by
    rcases aU xs.length with c|c
    .rw [Zv O]at a;exact absurd rfl a
    .exact c
   rw [bX,Aq O];refine aO λd=>a (Zbx.1 d)
theorem Znk{r:List (Bool×ByteArray)}(h:∀w∈r,okW w.1 w.2=true):∃xs:List Int,(∀x∈xs,bl x.natAbs<=65536)/\r=xs.map wr:=by
 induction r with
 | nil=>exact⟨[],O7,rfl⟩
 | cons w r l=>
  obtain⟨xs,c,d⟩:=l λu i=>h u (aT _ i);obtain⟨x,j,e,g⟩:=Zkk (h w (bM ..));refine⟨x::xs,λy a=>?_,?_⟩
  .rcases bO.1 a with rfl|a
   .exact j
   .exact c y a
  .rw [cH,<-d,wr,<-e,<-g]
theorem okP_ex{r:List (Bool×ByteArray)}(h:okP r=true):∃xs:List Int,Vp xs/\r=xs.map wr:=by
 unfold okP at h;rw [aL,aL,jR]at h;obtain⟨d,e,a⟩:=h;obtain⟨xs,g,rfl⟩:=Znk (bR.1 d);refine⟨xs,⟨Sz.of_mem g,?_,by simpa using e⟩,rfl⟩;rcases a with a|a
 .left;exact aF (by simpa using a)
 .rcases aU xs.length with c|c
  .left;exact aF c
  .right;rw [bX,Aq O]at a;exact λi=>cZ a (Zbx.2 i)
theorem Zf4 (k:Nat){j:Nat}(h:j<k)(a:(xs.take k).getD j 0=0):cf xs j=0:=by rw [Zau _ _ _ _ h]at a;exact a
theorem Zcc (k:Nat){j:Nat}(h:j<k)(a:¬((xs.take k).getD j 0).sign=0):cf xs j≠0:=λe=>a (by rw [Zau _ _ _ _ h];rw [show xs.getD j 0=0 from e];rfl)
theorem Ydr{r:List (Bool×ByteArray)}{w:Bool×ByteArray}(a:w∈r)(h:okW w.1 w.2=false):okP r=false:=by unfold okP;rw [show r.all (λw=>okW w.1 w.2)=false from List.all_eq_false.2 ⟨w,a,by simp [h]⟩];rfl
theorem Zkl(h:∀x∈xs,bl x.natAbs<=65536):okP (xs.map wr)=(decide (xs.length<=25) && (decide (xs.length=0) || decide (¬(xs.getD (xs.length-1) 0).sign=0))):=by
 unfold okP;rw [show(xs.map wr).all (λw=>okW w.1 w.2)=true from bR.2 λw c=>by obtain⟨x,d,rfl⟩:=jX.1 c;exact Ah (h x d)]
 rw [bX,jH];congr 1;by_cases a:xs.length=0
 .simp [a]
 .rw [aM a,Bool.false_or,Bool.false_or,Aq O];rw [cE,eY];exact not_congr Zbx
def err(e x:Int):Int:=if e=0 then Zfa x else e
theorem Zqr(h:bl x.natAbs<=65536):err 0 x=0:=by unfold err;rw [aG rfl,Zk3 h]
def Qs:List Int->Nat
 | []=>0
 | x::r=>max (bl x.natAbs) (Qs r)
theorem Lm(p:List Int):Sz (Qs p) p:=by
 refine Sz.of_mem λx a=>?_
 induction p with
 | nil=>cases a
 | cons y r c=>
  rcases bO.1 a with rfl|h
  .simp only [Qs];omega
  .have:=c h;simp only [Qs];omega
theorem Qv{n:Nat}(h:Sz n p):Qs p<=n:=by
 have c:∀x∈p,bl x.natAbs<=n:=λx a=>h.mem a;clear h
 induction p with
 | nil=>exact aZ _
 | cons y r d=>
  have:=c y (bM ..);have:=d λx a=>c x (aT _ a);simp only [Qs];omega
theorem Zzd(p:List Int)(x:Int):Qs (p ++ [x])=max (Qs p) (bl x.natAbs):=by
 induction p with
 | nil=>simp [Qs]
 | cons y r a=>simp only [iF,Qs,a];omega
variable {P:Program} {N:Nat} {sc:Nat->Prop} {env env':Xu} {H H':Hp} {Q Q':Exit->Act->World->Prop} {M:Nat->Prop}
theorem fpm{α β:Type}{f:α->β}{xs:List α}{p:Prop}(h:xs.map f≠[]/\p):xs≠[]/\p:=⟨λe=>h.1 (by rw [e];rfl),h.2⟩
def fpn{α β:Type}{f:α->β}{xs:List α}{p:Prop}(h:xs≠[]/\p):xs.map f≠[]/\p:=⟨λe=>h.1 (List.map_eq_nil_iff.1 e),h.2⟩
theorem Zpu(v:Value)(xs:List Int)(w:World)(h:(Ym 2 wv v xs).holds w):(Ym 2 (λw:Bool×ByteArray=>Value.agg #[.bool w.1,.string w.2]) v (xs.map wr)).holds w:=by
 obtain⟨⟨a,c,l,m,n,d⟩,q⟩:=h;refine⟨⟨a,c,by rw [bX];exact l,by rw [bX];exact m,n,?_⟩,λb h=>q b (fpm h)⟩;rcases d with d|⟨g,e,d,o⟩
 .left;rw [d];rfl
 .right;refine⟨g,e,d,λi x hi j u r=>?_⟩;rw [fI]at hi;cases hx:xs[i]? with
  | none=>rw [hx]at hi;cases hi
  | some y=>rw [hx]at hi;cases hi;exact o i y hx j u r
theorem Yc2(v:Value)(xs:List Int)(w:World)(h:(Ym 2 (λw:Bool×ByteArray=>Value.agg #[.bool w.1,.string w.2]) v (xs.map wr)).holds w):(Ym 2 wv v xs).holds w:=by
 obtain⟨⟨a,c,l,m,n,d⟩,q⟩:=h;rw [bX]at l m;refine⟨⟨a,c,l,m,n,?_⟩,λb h=>q b (fpn h)⟩;rcases d with d|⟨g,e,d,o⟩
 .left;simpa using d
 .right;refine⟨g,e,d,λi x hi j u r=>?_⟩;exact o i (wr x) (by rw [fI,hi];rfl) j u r
theorem Cal.imp{p q:Pc}{al:Bool}{G:Type}{φ:G->Prop}{val:G->Value}{i:G->List Pc}(h:Cal P f args (p::pre) al φ val i)(I:∀w,q.holds w->p.holds w)(B:∀b,p.fp b->q.fp b) :
  Cal P f args (q::pre) al φ val i:=λw m=>by
 refine(h w λr a=>?_).mono ?_
 .rcases bO.1 a with rfl|a
  .exact I w (m q (bM ..))
  .exact m r (aT _ a)
 .rintro e V ⟨g,z,F,j,c⟩;refine⟨g,z,F,j,λS l=>?_⟩;obtain⟨n,o,u⟩:=c S l;refine⟨n,o,λb j=>?_⟩;rcases u b j with h|⟨h,r,a,d⟩
  .exact .inl h
  .refine .inr ⟨h,?_⟩;rcases bO.1 a with rfl|a
   .exact⟨q,bM ..,B b d⟩
   .exact⟨r,aT _ a,d⟩
end Go.Sky
namespace Go.Sky
variable{k m:Nat}{f:Nat->Int}{xs:List Int}
def fill(n k:Nat)(f:Nat->Int):List Int:=mk n λi=>if i<k then f i else 0
def Xx(n k:Nat)(f:Nat->Int):(fill n k f).length=n:=Ye _ _
theorem Ar{n:Nat}(h:k<n):(fill n k f).set k (f k)=fill n (k+1) f:=Ln (by simp [Xx]) λi hi=>by
 rw [dA,Xx]at hi;rw [Ybj (by rw [Xx];exact h)];unfold fill;rw [Lt,Lt,aG hi,aG hi];by_cases b:i=k
 .subst b;rw [aG rfl,aG O]
 .rw [aE b];by_cases a:i<k
  .rw [aG a,aG O]
  .rw [aE a,aE O]
theorem Fg(n:Nat)(f:Nat->Int):List.replicate n 0=fill n 0 f:=Ln (by simp [Xx]) λi hi=>by rw [aW]at hi;unfold fill;rw [Lt,aG hi,aE O,Ay (by simpa using hi)];simp
theorem Ir(n:Nat)(f:Nat->Int):fill n n f=mk n f:=Ij λi hi=>by rw [aG hi]
theorem Zzh(xs:List Int)(g:Int->Int):mk xs.length (λi=>g (cf xs i))=xs.map g:=Ln (by simp [Ye]) λi hi=>by rw [Ye]at hi;rw [Lt,aG hi,Ay hi,Ay (p:=xs.map g) (by simpa using hi)];simp
theorem Zcz{n:Nat}(h:∀i,i<n->bl (f i).natAbs<=m):Sz m (mk n f):=λi=>by
 rw [Lt];split
 .exact h i ‹_›
 .simp [Ms]
theorem Pm{p:List Int}(h:Tr p):Tr (Zy p):=by
 unfold Zy;rcases bJ 1 p.length with a|a
 .right;rw [Ye,Lt,aG O];have c:=h.mem (by intro e;rw [e]at a;simp at a);rw [show p.length-1-1+1=p.length-1 by omega];intro d;rcases eQ.1 d with b|b
  .exact c b
  .omega
 .left;exact aF (by rw [Ye];omega)
theorem Zvf(xs:List Int)(c:Int):tzl (fill xs.length xs.length λi=>cf xs i*c)=Yc xs c:=by rw [Ir,Zzh xs (· * c)];rfl
theorem Ydl(h:Tr xs):tzl (fill (xs.length-1) (xs.length-1) λi=>cf xs (i+1)*((i:Int)+1))=Zy xs:=by rw [Ir];exact Bu (Pm h)
theorem Zyq{p:List Int}(h:p.length=0):Zy p=[]:=aF (by unfold Zy;rw [Ye];omega)
theorem Zgq(p:List Int)(x:Int):Yj (p ++ [x])=(Int.gcd (Yj p) x:Int):=by unfold Yj;rw [mX];rfl
theorem Pw(p:List Int):0<=Yj p:=by
 rcases Zfg p with rfl|⟨a,y,rfl⟩
 .exact fG _
 .rw [Zgq];omega
theorem Mv{p:List Int}(h:k<p.length):Yj (p.take (k+1))=(Int.gcd (Yj (p.take k)) (p.getD k 0):Int):=by rw [Ql 0 _ _ h,Zgq]
theorem Zni{n:Nat} : ∀(p:List Int),Sz n p->bl (Yj p).natAbs<=n:=λp=>by
 have a:∀k,k<=p.length->Sz n p->bl (Yj (p.take k)).natAbs<=n:=by
  intro k
  induction k with
  | zero=>intro _ _;rw [fM];exact aZ _
  | succ k d=>
   intro c hs;rw [Mv c];have e:=d O hs;have b:=hs k;have:=Zl0 (Yj (p.take k)).natAbs (p.getD k 0).natAbs;have g:bl (p.getD k 0).natAbs<=n:=b;show bl (Nat.gcd _ _)<=n;omega
 intro hs;have:=a p.length (aH _) hs;rwa [bN]at this
theorem Nk(p:List Int):∀i,Yj p∣cf p i:=by
 have a:∀k,k<=p.length->∀i,i<k->Yj (p.take k)∣cf p i:=by
  intro k
  induction k with
  | zero=>intro _ i hi;omega
  | succ k c=>
   intro b i hi;rw [Mv b];rcases bJ i k with h|h
   .exact fX (jG ..) (c O i h)
   .have:i=k:=O;subst this;exact gT ..
 intro i;rcases bJ i p.length with h|h
 .have:=a p.length (aH _) i h;rwa [bN]at this
 .rw [Zv h];exact iZ _
theorem Ag(p:List Int):Yj p=0↔∀i,cf p i=0:=by
 refine⟨λh i=>by have:=Nk p i;rw [h]at this;exact Int.zero_dvd.1 this,λh=>?_⟩;have a:∀k,k<=p.length->Yj (p.take k)=0:=by
  intro k
  induction k with
  | zero=>intro _;rfl
  | succ k c=>
   intro b;rw [Mv b,c O];have:=h k;rw [show p.getD k 0=0 from this];rfl
 have:=a p.length (aH _);rwa [bN]at this
theorem Hh{p:List Int}{d:Int}(h:∀i,d∣cf p i):d∣Yj p:=by
 have a:∀k,k<=p.length->d∣Yj (p.take k):=by
  intro k
  induction k with
  | zero=>intro _;exact iZ _
  | succ k c=>
   intro b;rw [Mv b];exact Int.dvd_coe_gcd (c O) (h k)
 have:=a p.length (aH _);rwa [bN]at this
theorem Dz(p:List Int)(i:Nat):cf (Zs p) i=cf p i/Yj p:=by unfold Zs;rw [Zbw O7]
theorem Zk(p:List Int):(Zs p).length=p.length:=by simp [Zs]
theorem Cz{x y:Int}{n:Nat}(h:y∣x)(b:bl x.natAbs<=n):bl (x/y).natAbs<=n:=by have a:(x/y).natAbs<=x.natAbs:=kG x y;exact aB (Py a) b
theorem Yi{p:List Int}(h:Tr p):Tr (Zs p):=by
 rcases h with rfl|h
 .left;rfl
 .right;rw [Dz,Zk];intro a;have b:=Nk p (p.length-1);have:=lW b;rw [a,dK]at this;exact h this.symm
theorem Ge{n:Nat}{p:List Int}(h:Sz n p):Sz n (Zs p):=λi=>by rw [Dz];exact Cz (Nk p i) (h i)
theorem Mt{p:List Int}(h:Vp p):Vp (Zs p):=⟨Ge h.sz,Yi h.tr,by rw [Zk];exact h.len⟩
def Vp.ne{p:List Int}(h:Vp p)(a:p≠[]):Yj p≠0:=λe=>h.tr.mem a ((Ag p).1 e _)
def My(p:List Int)(n d:Int)(i:Nat):Int:=Zp (λm=>cf p (i+m)*(n^m*d^(p.length-1-(i+m)))) (p.length-i)
theorem Zn5(p:List Int)(n d:Int):My p n d 0=pev p n d:=by unfold My pev;simp only [cP,kW]
theorem Yee{p:List Int}(n d:Int)(h:0<p.length):My p n d (p.length-1)=cf p (p.length-1):=by unfold My;rw [show p.length-(p.length-1)=0+1 by omega,Ya,Hb];simp
theorem Zz5{p:List Int}(n d:Int){i:Nat}(h:i<p.length):My p n d i=My p n d (i+1)*n+cf p i*d^(p.length-1-i):=by
 unfold My;rw [show p.length-i=p.length-(i+1)+1 by omega,Ox];rw [<-Zf5];have:Zp (λm=>cf p (i+(m+1))*(n^(m+1)*d^(p.length-1-(i+(m+1))))) (p.length-(i+1))=Zp (λm=>cf p (i+1+m)*(n^m*d^(p.length-1-(i+1+m)))*n) (p.length-(i+1)):=
  Yf λm a=>by rw [show i+(m+1)=i+1+m by omega,eR];grind
 rw [this];simp only [eO,dE,eI];omega
theorem Ybs{K:Nat}{f:Nat->Int} : ∀{n:Nat},(∀i,i<n->bl (f i).natAbs<=K)->(Zp f n).natAbs<=n*(2^K-1)
 | 0,_=>by simp [Zp]
 | n+1,h=>by have b:=Ybs (n:=n) λi hi=>h i O;have a:=(Xo K _).1 (h n O);rw [Ya,bD];have:=kK (Zp f n) (f n);omega
theorem Zfu{K:Nat}{n:Nat}(h:∀i,i<n->bl (f i).natAbs<=K)(a:n<=31):bl (Zp f n).natAbs<=K+5:=by rw [Xo];have b:=Ybs h;have c:n*(2^K-1)<=31*(2^K-1):=aI _ a;have d:0<2^K:=dB K;rw [bH];omega
theorem Be(x:Int){m:Nat}(h:bl x.natAbs<=m):∀k,0<k->bl (x^k).natAbs<=k*m
 | 0,a=>O
 | 1,_=>by rw [eR,dE,eI,kI];exact h
 | k+2,_=>by have b:=Be x h (k+1) O;rw [eR,show k+2=(k+1)+1 from rfl,bD (k+1) 1 m];have:=Xb (x^(k+1)) x;omega
theorem Zuj (i:Nat){a n d:Int}{A j:Nat}(l:bl a.natAbs<=A)(h:bl n.natAbs<=m)(g:bl d.natAbs<=m):bl (a*(n^i*d^j)).natAbs<=A+(i+j)*m:=by
 rcases aU i with rfl|hi
 .rcases aU j with rfl|c
  .simp;exact l
  .have e:=Be d g j c;have b:=Xb a (n^0*d^j);rw [dE,eI]at b ⊢;rw [cP];omega
 .rcases aU j with rfl|c
  .have e:=Be n h i hi;have b:=Xb a (n^i*d^0);rw [dE,jN]at b ⊢;rw [eO];omega
  .have e:=Be n h i hi;have b:=Be d g j c;have o:=Xb (n^i) (d^j);have p:=Xb a (n^i*d^j);rw [bD];omega
theorem Ybv{p:List Int}{n d:Int}{A:Nat}(e:Sz A p)(c:bl n.natAbs<=m)(b:bl d.natAbs<=m)(h:p.length<=31)(i:Nat):bl (My p n d i).natAbs<=A+(p.length-1-i)*m+5:=by unfold My;refine Zfu (λk g=>?_) O;have a:=Zuj k (j:=p.length-1-(i+k)) (e (i+k)) c b;rw [show k+(p.length-1-(i+k))=p.length-1-i by omega]at a;exact a
def Nu(p:List Int)(n d:Int):Prop:=p≠[]/\65536<Qs p+(p.length-1)*Qs [n,d]+8
instance (p:List Int) (n d:Int):Decidable (Nu p n d):=by unfold Nu;infer_instance
def evv(p:List Int)(n d:Int):Int:=if Nu p n d then 0 else pev p n d
def eve(p:List Int)(n d:Int):Int:=if Nu p n d then 7 else 0
abbrev wc (x:Int):Array Value:=#[.bool (decide (x<0)),.string (Yw x.natAbs)]
section
variable {p:List Int} {n d:Int} (hF:Qs p+(p.length-1)*Qs [n,d]+8<=65536) (hl:p.length<=25)
include hF
theorem Ze0:bl n.natAbs<=Qs [n,d]/\bl d.natAbs<=Qs [n,d]:=by simp only [Qs];omega
theorem Zlc : bl (d^(p.length-1-k)).natAbs<=65536:=by
 rcases aU (p.length-1-k)with h|h
 .rw [h,dE];decide
 .have a:=Be d (Ze0 hF).2 _ h;have b:(p.length-1-k)*Qs [n,d]<=(p.length-1)*Qs [n,d]:=aI _ O;omega
theorem Zlb : bl (cf p k*d^(p.length-1-k)).natAbs<=65536:=by have a:=Zuj 0 (j:=p.length-1-k) (Lm p k) (Ze0 hF).1 (Ze0 hF).2;have b:(0+(p.length-1-k))*Qs [n,d]<=(p.length-1)*Qs [n,d]:=aI _ O;rw [dE,eI]at a;omega
include hl
theorem Zld(k:Nat):bl (My p n d k).natAbs<=65536:=by have a:=Ybv (Lm p) (Ze0 hF).1 (Ze0 hF).2 O k;have b:(p.length-1-k)*Qs [n,d]<=(p.length-1)*Qs [n,d]:=aI _ O;omega
theorem Zqq(a:1<=k)(b:k<=p.length-1):bl (My p n d k*n).natAbs<=65536:=by
 have c:=Ybv (Lm p) (Ze0 hF).1 (Ze0 hF).2 O k;have e:=Xb (My p n d k) n;have g:=(Ze0 hF).1;have h:(p.length-1-k)*Qs [n,d]+Qs [n,d]<=(p.length-1)*Qs [n,d]:=by rw [<-eV];exact aI _ O
 omega
end
theorem evv_bl{p:List Int}{n d:Int}(hl:p.length<=25):bl (evv p n d).natAbs<=65536:=by
 unfold evv;split
 .decide
 .rename_i h;rcases aU p.length with a|a
  .rw [aF a,show pev [] n d=0 from rfl];decide
  .rw [<-Zn5];have c:p≠[]:=λe=>by rw [e]at a;simp at a
   exact Zld (Nat.le_of_not_lt λb=>h ⟨c,b⟩) hl 0
theorem Zyh(d:Int){L:Nat}(a:1<=k)(b:k<=L):d^(L-k)*d=d^(L-(k-1)):=by rw [show L-(k-1)=L-k+1 by omega,eR]
theorem Zv6{p:List Int}(n d:Int)(a:1<=k)(b:k<=p.length-1):My p n d k*n+cf p (k-1)*d^(p.length-1-(k-1))=My p n d (k-1):=by rw [Zz5 n d (i:=k-1) O,show k-1+1=k by omega]
end Go.Sky
namespace Go.Sky
variable{k i B t top:Nat}{f:Nat->Int}{q r R:List Int}{c:Int}
def acc(p q:List Int)(i t:Nat):Int:=Zp (λk=>if k<=t then cf p k*cf q (t-k)else 0) i
def Ca(p q:List Int)(i j t:Nat):Int:=acc p q i t+if i<=t/\t<i+j then cf p i*cf q (t-i)else 0
theorem Zwk(p q:List Int)(i:Nat):Ca p q i 0=acc p q i:=funext λt=>by unfold Ca;rw [aE O,fD]
theorem Yb5(p q:List Int)(i:Nat):Ca p q i q.length=acc p q (i+1):=funext λt=>by
 unfold Ca acc;rw [Ya];by_cases h:i<=t
 .rw [aG h];by_cases a:t<i+q.length
  .rw [aG ⟨h,a⟩]
  .rw [aE (λh=>a h.2),Zv (p:=q) O,dK]
 .rw [aE h,aE (λa=>h a.1)]
theorem Zgz{L:Nat}{g:Nat->Int}(d:k<L)(h:∀t,t<L->t≠k->f t=g t){x:Int}(e:x=g k):(mk L f).set k x=mk L g:=Ln (by simp [Ye]) λt b=>by
 rw [dA,Ye]at b;rw [Ybj (by rw [Ye];exact d),Lt,Lt,aG b];by_cases a:t=k
 .rw [aG a,a,e,aG d]
 .rw [aE a,aG b,h t b a]
theorem Yb4{p:List Int}{L j:Nat}(h:i+j<L):(mk L (Ca p q i j)).set (i+j) (Ca p q i j (i+j)+cf p i*cf q j)=mk L (Ca p q i (j+1)):=by
 refine Zgz h (λt d b=>?_) ?_
 .unfold Ca;by_cases a:i<=t/\t<i+j
  .rw [aG a,aG O]
  .rw [aE a,aE O]
 .unfold Ca;rw [aE O,aG O,fD,show i+j-i=j by omega]
theorem Zpf(p q:List Int)(t:Nat):acc p q p.length t=(ps p*ps q).c t:=by
 rw [PS.mul_c];unfold acc;have a:Zp (λk=>if k<=t then cf p k*cf q (t-k)else 0) (max (t+1) p.length)=Zp (λk=>if k<=t then cf p k*cf q (t-k)else 0) p.length:=
  Zis O λk a _=>by rw [Zv a,dD];split<;>rfl
 have b:Zp (λk=>if k<=t then cf p k*cf q (t-k)else 0) (max (t+1) p.length)=Zp (λk=>if k<=t then cf p k*cf q (t-k)else 0) (t+1):=
  Zis O λk a _=>by rw [aE O]
 rw [<-a,b];exact Yf λk d=>by rw [aG O];rfl
theorem Zx9(L:Nat):List.replicate L 0=mk L λ_=>0:=by rw [Fg L λ_=>0];unfold fill;exact Ij λi _=>by split<;>rfl
theorem Zyl(p q:List Int):tzl (mk (p.length+q.length-1) (acc p q p.length))=Yy p q:=by unfold Yy;congr 1;exact Ij λi _=>Zpf p q i
theorem Yfm{p:List Int}{A j:Nat}(g:Sz A p)(l:Sz B q)(hi:i<31):bl (Ca p q i j t).natAbs<=A+B+5:=by
 have h:Ca p q i j t=Zp (λk=>if k<i then(if k<=t then cf p k*cf q (t-k)else 0)else if i<=t/\t<i+j then cf p i*cf q (t-i)else 0) (i+1):=by rw [Ya];rw [aE (mJ i)];unfold Ca acc;congr 1;exact Yf λk d=>by rw [aG d]
 rw [h];have e:∀a b,bl (cf p a*cf q b).natAbs<=A+B:=λa b=>by have:=Xb (cf p a) (cf q b);have:=g a;have:=l b;omega
 refine Zfu (λk d=>?_) O;split
 .split
  .exact e _ _
  .simp [Ms]
 .split
  .exact e _ _
  .simp [Ms]
theorem bl_acc{p:List Int}{A:Nat}(a:Sz A p)(b:Sz B q)(hi:i<=31):bl (acc p q i t).natAbs<=A+B+5:=by
 refine Zfu (λk d=>?_) hi;split
 .have:=Xb (cf p k) (cf q (t-k));have:=a k;have:=b (t-k);omega
 .simp [Ms]
def Gy(p q:List Int):Prop:=p≠[]/\q≠[]/\(24<p.length+q.length-2\/65536<Qs p+Qs q+5)
instance (p q:List Int):Decidable (Gy p q):=by unfold Gy;infer_instance
theorem Zfo{L:Nat}(h:i<L):(mk L f).getD i 0=f i:=by have:=Lt L f i;rw [aG h]at this;exact this
def Yeu(p q:List Int):Bool:=decide (q≠[]) && decide (p.length<q.length)
def Fc(p q:List Int):Int:=if q.length=0 then 3 else if p.length<q.length then 0 else if 65536<Qs p+(p.length-q.length+1)*(Qs q+1)then 7 else 0
def Zet(q r:List Int)(top:Nat):List Int:=
 mk r.length λt=>cf r t*cf q (q.length-1)-if top-(q.length-1)<=t/\t<top-(q.length-1)+q.length then cf r top*cf q (t-(top-(q.length-1)))else 0
def Xv(p q:List Int):Nat->List Int
 | 0=>p
 | j+1=>Zet q (Xv p q j) (p.length-1-j)
def Zc5(q r:List Int)(top:Nat):(Zet q r top).length=r.length:=Ye _ _
theorem Oy(p q:List Int):∀j,(Xv p q j).length=p.length
 | 0=>rfl
 | j+1=>by unfold Xv;rw [Zc5,Oy p q j]
def Xj(p q:List Int):List Int:=if p.length<q.length then p else tzl (Xv p q (p.length-q.length+1))
theorem Zo3(a:t<r.length):cf (Zet q r top) t=cf r t*cf q (q.length-1)-if top-(q.length-1)<=t/\t<top-(q.length-1)+q.length then cf r top*cf q (t-(top-(q.length-1)))else 0:=by unfold Zet;rw [Lt,aG a]
theorem Zuk{a b d:Int}{A:Nat}(j:bl a.natAbs<=A)(l:bl b.natAbs<=B)(m:bl c.natAbs<=A)(n:bl d.natAbs<=B):bl (a*b-c*d).natAbs<=A+(B+1):=by have e:=Xb a b;have g:=Xb c d;have h:=Zdi (a*b) (c*d);omega
theorem Zw7{A:Nat}(b:Sz A r)(a:Sz B q):Sz (A+(B+1)) (Zet q r top):=by
 unfold Zet;refine Zcz λt d=>?_;split
 .exact Zuk (b t) (a _) (b _) (a _)
 .rw [eX];have:=Xb (cf r t) (cf q (q.length-1));have:=b t;have:=a (q.length-1);omega
theorem Zds(p q:List Int):∀j,Sz (Qs p+j*(Qs q+1)) (Xv p q j)
 | 0=>by rw [gI];exact Lm p
 | j+1=>by unfold Xv;rw [eV,<-gM];exact Zw7 (Zds p q j) (Lm q)
def dq(q r:List Int)(k:Nat):Int:=cf r (k+q.length-1)/cf q (q.length-1)
def Zhm(q r:List Int)(k:Nat):List Int:=mk r.length λt=>cf r t-if k<=t/\t<k+q.length then dq q r k*cf q (t-k)else 0
def Xy(p q:List Int):Nat->List Int
 | 0=>p
 | j+1=>Zhm q (Xy p q j) (p.length-q.length-j)
theorem Ez(p q:List Int):∀j,(Xy p q j).length=p.length
 | 0=>rfl
 | j+1=>by unfold Xy Zhm;rw [Ye,Ez p q j]
def Ztu(p q:List Int)(k:Nat):Int:=dq q (Xy p q (p.length-q.length-k)) k
def La(p q:List Int)(k:Nat):Prop:=cf (Xy p q (p.length-q.length-k)) (k+q.length-1)%cf q (q.length-1)=0
def Zyg(p q:List Int):List Int:=tzl (mk (p.length-q.length+1) (Ztu p q))
def pdivs(p q:List Int):Prop:=p=[]\/(q.length<=p.length/\(∀k,k<=p.length-q.length->La p q k)/\∀i,cf (Xy p q (p.length-q.length+1)) i=0)
theorem Zw8{A:Nat}(a:Sz A r)(d:Sz B q)(b:cf r (k+q.length-1)%cf q (q.length-1)=0):Sz (A+(B+1)) (Zhm q r k):=by
 unfold Zhm;refine Zcz λt j=>?_;split
 .have e:bl (dq q r k).natAbs<=A:=Cz (kV b) (a _);have g:=Xb (dq q r k) (cf q (t-k));have h:=Zdi (cf r t) (dq q r k*cf q (t-k));have:=a t;have:=d (t-k);omega
 .rw [eX];have:=a t;omega
theorem Zdu(p q:List Int):∀j,j<=p.length-q.length+1->(∀k,p.length-q.length<k+j->k<=p.length-q.length->La p q k)->Sz (Qs p+j*(Qs q+1)) (Xy p q j)
 | 0,_,_=>by rw [gI];exact Lm p
 | j+1,d,h=>by unfold Xy;rw [eV,<-gM];refine Zw8 (Zdu p q j O λk b a=>h k O a) (Lm q) ?_;have:=h (p.length-q.length-j) O O;unfold La at this;rw [show p.length-q.length-(p.length-q.length-j)=j by omega]at this;exact this
theorem Yav{x y:Bool×ByteArray}(h:eqW x.1 x.2 y.1 y.2=true):x=y:=by obtain⟨a,b⟩:=Zle.1 h;exact Prod.ext a b
def Yau(a:Bool)(s:ByteArray):eqW a s a s=true:=Zle.2 ⟨rfl,rfl⟩
theorem Zwl(p q:List Int)(i j:Nat):Ca p q i (j+1) (i+j)=Ca p q i j (i+j)+cf p i*cf q j:=by unfold Ca;rw [aG O,aE O,fD,show i+j-i=j by omega]
theorem Zcr{p:List Int}(h:p.length=0\/q.length=0):Yy p q=[]:=by
 unfold Yy;refine(Nn _).2 λi=>?_;rw [Lt];split
 .rw [PS.mul_c];refine Kk λk _=>?_;rcases h with h|h
  .rw [Pj,Zv O,dD]
  .rw [Pj,Pj,Zv (p:=q) O,dK]
 .rfl
def Ze7(R:List Int)(l:Int)(i:Nat):List Int:=mk R.length λt=>if t<i then cf R t*l else cf R t
def Zh3(q R:List Int)(l c:Int)(s i:Nat):List Int:=mk R.length λt=>cf R t*l-if s<=t/\t<s+i then c*cf q (t-s)else 0
def Znw(R:List Int)(l:Int)(i:Nat):(Ze7 R l i).length=R.length:=Ye _ _
def Znv(q R:List Int)(l c:Int)(s i:Nat):(Zh3 q R l c s i).length=R.length:=Ye _ _
theorem Zvq(R:List Int)(l:Int):Ze7 R l 0=R:=by unfold Ze7;refine Eq.trans (Ij λi hi=>?_) (Zc0 R);rw [aE O]
theorem Zzc{l:Int}(h:i<R.length):(Ze7 R l i).getD i 0=cf R i:=by unfold Ze7;rw [Zfo h,aE O]
theorem Zzb{l:Int}(h:i<R.length):(Ze7 R l i).set i (cf R i*l)=Ze7 R l (i+1):=by
 unfold Ze7;refine Zgz h (λt d b=>?_) (by rw [aG O]);by_cases a:t<i
 .rw [aG a,aG O]
 .rw [aE a,aE O]
theorem Zuz(q R:List Int)(l c:Int)(s:Nat):Ze7 R l R.length=Zh3 q R l c s 0:=by unfold Ze7 Zh3;exact Ij λi hi=>by rw [aG hi,aE O,eX]
theorem Zxc{l:Int}{s:Nat}(h:s+i<R.length):(Zh3 q R l c s i).getD (s+i) 0=cf R (s+i)*l:=by unfold Zh3;rw [Zfo h,aE O,eX]
theorem Zxb{l:Int}{s:Nat}(h:s+i<R.length):(Zh3 q R l c s i).set (s+i) (cf R (s+i)*l-c*cf q i)=Zh3 q R l c s (i+1):=by
 unfold Zh3;refine Zgz h (λt d b=>?_) (by rw [aG O,show s+i-s=i by omega]);by_cases a:s<=t/\t<s+i
 .rw [aG a,aG O]
 .rw [aE a,aE O]
theorem rest_b{p:List Int}{j:Nat}(d:Qs p+(p.length-q.length+1)*(Qs q+1)<=65536)(e:j<p.length-q.length+1) :
  (∀t,bl (cf (Xv p q j) t).natAbs<=65536)/\(∀t i,bl (cf (Xv p q j) t*cf q i).natAbs<=65536)/\(∀t i t2 i2,bl (cf (Xv p q j) t*cf q i-cf (Xv p q j) t2*cf q i2).natAbs<=65536):=by
 have a:=Zds p q j;have b:j*(Qs q+1)+(Qs q+1)<=(p.length-q.length+1)*(Qs q+1):=by rw [<-eV];exact aI _ O
 refine⟨λt=>by have:=a t;omega,λt i=>?_,λt i t2 i2=>?_⟩
 .have:=a t;have:=Lm q i;have:=Xb (cf (Xv p q j) t) (cf q i);omega
 .have:=Zuk (a t) (Lm q i) (a t2) (Lm q i2);omega
def Zmm{p:List Int}(a:Qs p+(p.length-q.length+1)*(Qs q+1)<=65536):Sz 65536 (Xv p q (p.length-q.length+1)):=(Zds p q _).mono a
theorem Zax{p:List Int}(h:Fc p q=0):q.length≠0/\(q.length<=p.length->Qs p+(p.length-q.length+1)*(Qs q+1)<=65536):=by
 unfold Fc at h;split at h
 .omega
 .refine⟨‹_›,λa=>?_⟩;rw [aE O]at h;split at h
  .omega
  .omega
theorem Zdd{p:List Int}(h:q.length≠0):Yeu p q=decide (p.length<q.length):=by unfold Yeu;have a:q≠[]:=λe=>h (by rw [e];rfl);simp [a]
def Zib(q R:List Int)(c:Int)(k i:Nat):List Int:=mk R.length λt=>cf R t-if k<=t/\t<k+i then c*cf q (t-k)else 0
def Znx(q R:List Int)(c:Int)(k i:Nat):(Zib q R c k i).length=R.length:=Ye _ _
theorem Zwa(q R:List Int)(c:Int)(k:Nat):R=Zib q R c k 0:=by unfold Zib;refine Eq.trans (Zc0 R).symm (Ij λi hi=>?_);rw [aE O,eX]
theorem Ya0(h:k+i<R.length):(Zib q R c k i).getD (k+i) 0=cf R (k+i):=by unfold Zib;rw [Zfo h,aE O,eX]
theorem Yaz(h:k+i<R.length):(Zib q R c k i).set (k+i) (cf R (k+i)-c*cf q i)=Zib q R c k (i+1):=by
 unfold Zib;refine Zgz h (λt d b=>?_) (by rw [aG O,show k+i-k=i by omega]);by_cases a:k<=t/\t<k+i
 .rw [aG a,aG O]
 .rw [aE a,aE O]
def Zec(p q:List Int)(j:Nat):List Int:=mk (p.length-q.length+1) λt=>if p.length-q.length<t+j then Ztu p q t else 0
def An(p q:List Int)(j:Nat):(Zec p q j).length=p.length-q.length+1:=Ye _ _
theorem Zwc(p q:List Int):List.replicate (p.length-q.length+1) 0=Zec p q 0:=by rw [Zx9];unfold Zec;exact Ij λi hi=>by rw [aE O]
theorem Ya3{p:List Int}{j:Nat}(d:j<p.length-q.length+1):(Zec p q j).set (p.length-q.length-j) (dq q (Xy p q j) (p.length-q.length-j))=Zec p q (j+1):=by
 unfold Zec;refine Zgz O (λt e b=>?_) ?_
 .by_cases a:p.length-q.length<t+j
  .rw [aG a,aG O]
  .rw [aE a,aE O]
 .rw [aG O];unfold Ztu;rw [show p.length-q.length-(p.length-q.length-j)=j by omega]
theorem Zdc(p q:List Int):tzl (Zec p q (p.length-q.length+1))=Zyg p q:=by unfold Zec Zyg;congr 1;exact Ij λi hi=>by rw [aG O]
def pdv(p q:List Int):Prop:=p=[]\/(q.length<=p.length/\(∀k,k<=p.length-q.length->La p q k)/\tzl (Xy p q (p.length-q.length+1))=[])
instance (p q:List Int) (k:Nat):Decidable (La p q k):=by unfold La;infer_instance
instance (p q:List Int):Decidable (pdv p q):=by unfold pdv;infer_instance
theorem div_b{p:List Int}{j:Nat}(l:Qs p+(p.length-q.length+1)*(Qs q+1)<=65536)(m:j<p.length-q.length+1)(e:∀k,p.length-q.length<k+j->k<=p.length-q.length->La p q k) :
  (∀t,bl (cf (Xy p q j) t).natAbs<=65536)/\(La p q (p.length-q.length-j)->bl (dq q (Xy p q j) (p.length-q.length-j)).natAbs<=65536/\(∀i,bl (dq q (Xy p q j) (p.length-q.length-j)*cf q i).natAbs<=65536)/\
   ∀t i,bl (cf (Xy p q j) t-dq q (Xy p q j) (p.length-q.length-j)*cf q i).natAbs<=65536):=by
 have a:=Zdu p q j O e;have g:j*(Qs q+1)+(Qs q+1)<=(p.length-q.length+1)*(Qs q+1):=by rw [<-eV];exact aI _ O
 refine⟨λt=>by have:=a t;omega,λb=>?_⟩;unfold La at b;rw [show p.length-q.length-(p.length-q.length-j)=j by omega]at b;have h:bl (dq q (Xy p q j) (p.length-q.length-j)).natAbs<=Qs p+j*(Qs q+1):=Cz (kV b) (a _);have d:∀i,bl (dq q (Xy p q j) (p.length-q.length-j)*cf q i).natAbs<=Qs p+j*(Qs q+1)+Qs q:=λi=>by have:=Xb (dq q (Xy p q j) (p.length-q.length-j)) (cf q i);have:=Lm q i;omega
 refine⟨O,λi=>by have:=d i;omega,λt i=>?_⟩;have:=Zdi (cf (Xy p q j) t) (dq q (Xy p q j) (p.length-q.length-j)*cf q i);have:=d i;have:=a t;omega
theorem Zro{p:List Int}(d:Qs p+(p.length-q.length+1)*(Qs q+1)<=65536)(b:∀k,k<=p.length-q.length->La p q k){j:Nat}:Sz 65536 (Zec p q j):=by
 unfold Zec;refine Zcz λt g=>?_;split
 .have a:=(div_b d (j:=p.length-q.length-t) O (λk _ e=>b k e)).2;rw [show p.length-q.length-(p.length-q.length-t)=t by omega]at a;exact(a (b t O)).1
 .simp [Ms]
def Zw9{p:List Int}(a:Qs p+(p.length-q.length+1)*(Qs q+1)<=65536)(d:∀k,k<=p.length-q.length->La p q k):Sz 65536 (Xy p q (p.length-q.length+1)):=
 (Zdu p q _ (aH _) λk _ b=>d k b).mono a
def Yfc(p:List Int)(a b d:Int):Nat->List Int
 | 0=>[cf p (p.length-1)]
 | j+1=>mk ((Yfc p a b d j).length+1) λt=>cf (Yfc p a b d j) t*a+(if t=0 then cf p (p.length-2-j)*d^(j+1)else cf (Yfc p a b d j) (t-1)*b)
def Zyr(p:List Int)(a b d:Int):List Int:=if p.length=0 then []else tzl (Yfc p a b d (p.length-1))
def Ybe(p:List Int)(a b d:Int):Prop:=p≠[]/\65536<Qs p+(p.length-1)*(Qs [a,b,d]+1)+8
instance (p:List Int) (a b d:Int):Decidable (Ybe p a b d):=by unfold Ybe;infer_instance
def Lc(p q:List Int):List Int:=if p=[]then []else Zyg p q
def Znd{p:List Int}(h:p≠[]):Lc p q=Zyg p q:=aE h
theorem Zoo{p:List Int}{j:Nat}(a:j<=p.length-q.length):La p q (p.length-q.length-j)↔cf (Xy p q j) (p.length-q.length-j+q.length-1)%cf q (q.length-1)=0:=by unfold La;rw [show p.length-q.length-(p.length-q.length-j)=j by omega]
def Zo2{x y:Int}(b:y≠0)(a:bl y.natAbs<=65536):Db (x%y)=x%y:=Ng (aB (Zum x y b) a)
def cnx(c:List Int)(a b:Int)(i:Nat):List Int:=mk (c.length+1) λt=>if t<i then cf c t*a+(if t=0 then 0 else cf c (t-1)*b)else if t=i/\0<i then cf c (t-1)*b else 0
section
variable {p:List Int} {x y z:Int} (hF:Qs p+(p.length-1)*(Qs [x,y,z]+1)+8<=65536) {j:Nat} (hj:j<p.length-1)
include hF hj
end
theorem Ze8(p q:List Int):(Xj p q).length<=p.length:=by
 unfold Xj;split
 .exact aH _
 .have:=Ic (Xv p q (p.length-q.length+1));rw [Oy]at this;exact this
theorem Bt{p:List Int}(a:Vp p)(b:Fc p q=0):Vp (Xj p q):=by
 have d:=Ze8 p q;refine⟨?_,?_,by have:=a.len;omega⟩
 .unfold Xj;split
  .exact a.sz
  .exact(Zmm ((Zax b).2 O)).tzl
 .unfold Xj;split
  .exact a.tr
  .exact Qd _
def Zjf(p q:List Int):Prop:=p.length≠0/\q.length≠0/\65536<(max p.length q.length+2)*(max p.length q.length+2)*(max (Qs p) (Qs q)+8)
instance (p q:List Int):Decidable (Zjf p q):=by unfold Zjf;infer_instance
def gA(p q:List Int):List Int:=if p.length<q.length then Zs q else Zs p
def gB(p q:List Int):List Int:=if p.length<q.length then Zs p else Zs q
def eok:Nat->List Int->List Int->Prop
 | 0,_,b=>b=[]
 | f+1,a,b=>b=[]\/(Fc a b=0/\eok f b (Zs (Xj a b)))
def eu:Nat->List Int->List Int->List Int
 | 0,a,_=>a
 | f+1,a,b=>if b=[]then a else eu f b (Zs (Xj a b))
theorem Yaw{f:Nat}{a b:List Int}(h:eok f a b)(d:b≠[]):∃g,f=g+1/\Fc a b=0/\eok g b (Zs (Xj a b))/\eu f a b=eu g b (Zs (Xj a b)):=by
 cases f with
 | zero=>exact absurd h d
 | succ g=>
  rcases h with h|h
  .exact absurd h d
  .exact⟨g,rfl,h.1,h.2,by show(if b=[]then a else _)=_;rw [aE d]⟩
theorem Zeb(f:Nat)(a:List Int):eu f a []=a:=by cases f<;>rfl
def Lo(g:List Int):List Int:=if g.length≠0/\cf g (g.length-1)<0 then Yc g (-1)else g
def Od(f:Nat)(p q:List Int):List Int:=Lo (eu f (gA p q) (gB p q))
theorem vp_gA{p:List Int}(a:Vp p)(b:Vp q):Vp (gA p q):=by unfold gA;split<;>exact Mt ‹_›
theorem vp_gB{p:List Int}(a:Vp p)(b:Vp q):Vp (gB p q):=by unfold gB;split<;>exact Mt ‹_›
theorem Bd{p:List Int}(h:Sz 65536 p)(i:Nat):bl (cf p i * -1).natAbs<=65536:=by rw [jM,jN,eF];exact h i
theorem Pv(z:Int):z.sign<0↔z<0:=by
 rcases kL z 0 with h|h|h
 .rw [eE h];omega
 .subst h;simp
 .rw [eW h];omega
end Go.Sky
namespace Go.Sky
variable{b k c:Nat}{xs ys:List Nat}{p:Nat->Prop}
theorem Zj0{l:List Int}(h:∀x∈l,Qf x):Sz 65536 l:=Sz.of_mem λx a=>by obtain⟨d,e⟩:=h x a;have:bl x.natAbs<=64:=(Xo 64 _).2 O;omega
open Go.RowKit Below
set_option maxRecDepth 20000
def Pb:2<=1000000000:=O3
def Gk:0<1000000000:=O3
abbrev d9p (v:Value) (x:Nat):Pc:=Ym 1 Da v (dg 1000000000 x)
theorem Ht(x:Nat):(dg 1000000000 x).length<=bl x:=by rw [Yt Pb];exact cL (Ga x) (eH O3 _)
theorem Zrl(a:2<=b){o:List Nat}(f:∀d∈o,d<b){x:Nat}(g:val b o=x)(h:o.length=0\/b^(o.length-1)<=x):o=dg b x:=by
 rw [<-g,Lr a o f];have j:(tz o).length<=o.length:=(Ff o).1;have i:o.length<=(tz o).length:=by
  rw [<-Lr a o f,g];rcases h with h|h
  .omega
  .have:=(Pg a (o.length-1) x).2 h;omega
 have e:=(Ff o).2;rw [bW i]at e;exact e
theorem Zvj{o:List Nat}(a:o.length=k)(h:val b o+c*b^k=val b (xs.take k)+val b (ys.take k)) :
  val b (o ++ [(c+xs.getD k 0+ys.getD k 0)%b])+(c+xs.getD k 0+ys.getD k 0)/b*b^(k+1)=val b (xs.take (k+1))+val b (ys.take (k+1)):=by
 rw [Ps,Xq,Xq,a];have e:=bP (c+xs.getD k 0+ys.getD k 0) b;generalize (c+xs.getD k 0+ys.getD k 0)/b=q at *;generalize (c+xs.getD k 0+ys.getD k 0)%b=r at *;simp only [val,bL];generalize b^k=B at *;have:(b*q+r)*B=(c+xs.getD k 0+ys.getD k 0)*B:=by rw [e]
 grind
def d9s(a b c:Nat):Nat:=if a<b+c then a+1000000000-(b+c)else a-(b+c)
theorem Zt3{a:Nat}(d:a<1000000000)(e:b<1000000000)(f:c<=1):d9s a b c<1000000000/\d9s a b c+(b+c)=a+brw a b c*1000000000:=by unfold d9s brw;split<;>omega
theorem Zqa{o:List Nat}(a:c<=1)(f:xs.getD k 0<1000000000)(g:ys.getD k 0<1000000000)(d:o.length=k)(h:val 1000000000 o+val 1000000000 (ys.take k)=val 1000000000 (xs.take k)+c*1000000000^k) :
  val 1000000000 (o ++ [d9s (xs.getD k 0) (ys.getD k 0) c])+val 1000000000 (ys.take (k+1))=val 1000000000 (xs.take (k+1))+brw (xs.getD k 0) (ys.getD k 0) c*1000000000^(k+1):=by
 rw [Ps,Xq,Xq,d];have e:=(Zt3 f g a).2;generalize d9s (xs.getD k 0) (ys.getD k 0) c=r at *;generalize brw (xs.getD k 0) (ys.getD k 0) c=q at *;simp only [val,bL];generalize 1000000000^k=B at *;have:(r+(ys.getD k 0+c))*B=(xs.getD k 0+q*1000000000)*B:=by rw [e]
 grind
theorem Zhx{o:List Nat}(h:∀d∈o,p d){x:Nat}(f:p x):∀d∈o ++ [x],p d:=λd e=>by
 rcases dH.1 e with a|a
 .exact h d a
 .rw [aK.1 a];exact f
def Dq{x:Nat}(a:2<=b)(h:k<(dg b x).length):b^k<=x:=(Pg a k x).1 h
theorem Eh{x:Nat}(a:2<=b)(h:(dg b x).length<=k):val b ((dg b x).take k)=x:=by rw [Pu _ _ h,Om a]
def Zo1(x y:Nat):Int:=if x<y then -1 else if y<x then 1 else 0
section
variable {P:Program} {N:Nat} {sc:Nat->Prop} {env env':Xu} {H H':Hp} {Q Q':Exit->Act->World->Prop} {M:Nat->Prop}
variable {o:Oper} {t t':TypeId} {x y:Operand} {m n:Nat}
theorem Zy7(a:o.op= .binOp .add t x y t')(d:ev env x=some (.int .i64 (m:Int)))(e:ev env y=some (.int .i64 (n:Int)))(h:m+n<=9223372036854775807):Ni P N sc o env H (.int .i64 ((m+n:Nat):Int)):=by have:=Zt2 (P:=P) (N:=N) (sc:=sc) (H:=H) a d e ;rwa [<-iQ]at this
theorem n_mul(a:o.op= .binOp .mul t x y t')(d:ev env x=some (.int .i64 (m:Int)))(e:ev env y=some (.int .i64 (n:Int)))(h:m*n<=9223372036854775807):Ni P N sc o env H (.int .i64 ((m*n:Nat):Int)):=by have:=d_mul (P:=P) (N:=N) (sc:=sc) (H:=H) a d e (by rw [<-dM];exact⟨O,O⟩);rwa [<-dM]at this
theorem Zno(a:o.op= .binOp .quo t x y t')(d:ev env x=some (.int .i64 (m:Int)))(e:ev env y=some (.int .i64 (n:Int)))(h:m<=9223372036854775807)(f:0<n):Ni P N sc o env H (.int .i64 ((m/n:Nat):Int)):=by have:=Zdf (P:=P) (N:=N) (sc:=sc) (H:=H) a d e   ;rwa [<-Int.natCast_ediv]at this
theorem Zsw(a:o.op= .binOp .rem t x y t')(d:ev env x=some (.int .i64 (m:Int)))(e:ev env y=some (.int .i64 (n:Int)))(f:0<n):Ni P N sc o env H (.int .i64 ((m%n:Nat):Int)):=by have:=Zho (P:=P) (N:=N) (sc:=sc) (H:=H) a d e  ;rwa [<-Int.natCast_emod]at this
end
end Go.Sky
namespace Go.Sky
def Zon{l:List Nat}{i:Nat}(h:l.length<=i):l.getD i 0=0:=by simp [List.getD,bI h]
def Zom{b x y:Nat}(c:2<=b)(h:x<=y):(dg b x).length<=(dg b y).length:=by
 rcases bJ (dg b y).length (dg b x).length with a|a
 .have:=Dx c a;omega
 .exact a
def Zt7{a b:Nat} : 0<=Zo1 a b↔b<=a:=by unfold Zo1;split<;>(try split)<;>omega
def Zlj{q:List Nat}{k d:Nat}(a:0<k)(h:k<=q.length):val 1000000000 ((q.set (k-1) d).drop (k-1))=d+1000000000*val 1000000000 (q.drop k):=by rw [drop_set O,show k-1+1=k by omega];rfl
def Zmk{m:Nat}(h:m<9223372036854775809):tz [m%1000000000,m/1000000000%1000000000,m/1000000000/1000000000]=dg 1000000000 m:=by rw [<-Lr Pb [m%1000000000,m/1000000000%1000000000,m/1000000000/1000000000] (by intro d a;simp at a;omega)];congr 1;simp only [val];omega
def sign9{x:Int}(h:(((dg 1000000000 x.natAbs).length:Nat):Int)=0):Value.int .i64 x.sign= .int .i64 0:=by have a:=(Qp Pb x.natAbs).1 O;have:x=0:=O;subst this;rfl
def Znz{x:Nat}(h:¬(((dg 1000000000 x).length:Nat):Int)=0):0<x:=by
 rcases aU x with a|a
 .subst a;simp [Kp]at h
 .exact a
def Zzk{s:Bool}{n:Nat}{z:Int}(a:n=z.natAbs)(hs:sg s z):(s && decide (0<n))=decide (z<0):=by
 subst a;cases s
 .have:=hs.2 rfl;rw [Bool.false_and,aM O]
 .have:=hs.1 rfl;rw [jH,cE];omega
def Zny(n:Nat):decide ((0:Int)<(((dg 1000000000 n).length:Nat):Int))=decide (0<n):=by rw [cE];have:=Qp Pb n;omega
def Yfn{a b:Bool}(h:(a == b)=true):a=b:=by simpa using h
section
variable {P:Program} {N:Nat} {sc:Nat->Prop} {env env':Xu} {H H':Hp} {Q Q':Exit->Act->World->Prop} {M:Nat->Prop}
variable {o:Oper} {t t':TypeId} {x y:Operand} {m n:Nat}
theorem Zp9(d:o.op= .binOp .quo t x y t')(f:ev env x=some (.int .i64 (-(m:Int))))(g:ev env y=some (.int .i64 (n:Int)))(h:m<=9223372036854775808)(c:1<n):Ni P N sc o env H (.int .i64 (-((m/n:Nat):Int))):=Ia d f g λw=>by
 have b:(-(m:Int)).tdiv (n:Int)=-((m/n:Nat):Int):=by rw [Int.neg_tdiv,Int.ofNat_tdiv]
 have i:m/n<=9223372036854775807:=by have:=mD (show 2<=n from c) (by omega:0<2) (a:=m);omega
 generalize m/n=q at *;have e:Qf (-(q:Int)):=⟨O,O⟩;simp [binOp,Op.intDiv,b,Bq e];omega
theorem Zy1(b:o.op= .binOp .rem t x y t')(c:ev env x=some (.int .i64 (-(m:Int))))(d:ev env y=some (.int .i64 (n:Int)))(e:0<n):Ni P N sc o env H (.int .i64 (-((m%n:Nat):Int))):=Ia b c d λw=>by
 have a:(-(m:Int)).tmod (n:Int)=-((m%n:Nat):Int):=by rw [Int.neg_tmod,Int.ofNat_tmod]
 simp [binOp,Op.intDiv,a];omega
theorem Zy6(b:o.op= .unOp .neg t x)(d:ev env x=some (.int .i64 (-(m:Int))))(h:m<=9223372036854775807):Ni P N sc o env H (.int .i64 (m:Int)):=λa w hs=>by have c:Qf (m:Int):=⟨O,O⟩;simp [execOp,b,hs.ev d,Op.unary,Op.intArith,Bq c]
end
end Go.Sky
namespace Go.Sky
variable{k m:Nat}{r:List Pc}{bs:List Nat}{v:Value}{zs:List (Int×SL)}{z:Int×SL}
theorem Yct{p xs:List Nat}{r:Nat}(b:0<k)(c:k<=p.length)(d:k<=xs.length)(a:val 1000000000 (p.drop k)*256+r=val 1000000000 (xs.drop k)) :
  val 1000000000 ((p.set (k-1) ((r*1000000000+xs.getD (k-1) 0)/256)).drop (k-1))*256+(r*1000000000+xs.getD (k-1) 0)%256=val 1000000000 (xs.drop (k-1)):=by
 rw [Zlj b c,Zda 0 xs (k-1) O,show k-1+1=k by omega];simp only [val];have e:=bP (r*1000000000+xs.getD (k-1) 0) 256;generalize (r*1000000000+xs.getD (k-1) 0)/256=q at *;generalize (r*1000000000+xs.getD (k-1) 0)%256=s at *;generalize val 1000000000 (p.drop k)=A at *;generalize val 1000000000 (xs.drop k)=B at *;rw [<-a,bD,fE,cF 1000000000 A 256];generalize 1000000000*(A*256)=Z;clear a;omega
theorem Zw0{r a:Nat}(d:r<256)(c:a<1000000000):(r*1000000000+a)/256<1000000000:=by
 have h:r*1000000000+a<256*1000000000:=by have b:r*1000000000<=255*1000000000:=aI _ O;omega
 exact fU h
theorem Ycu{n:Nat}(a:val 256 bs+256^bs.length*m=n):val 256 (bs ++ [m%256])+256^(bs ++ [m%256]).length*(m/256)=n:=by rw [Ps,cI];simp only [val,dG,jS,bL,cP,jW,eO,fC,lX];have e:=bP m 256;generalize m/256=q at *;generalize m%256=s at *;rw [<-a,<-e];generalize 256^bs.length=P at *;grind
theorem to_ge{n:Nat}(b:val 256 bs+256^bs.length*m=n)(a:0<m):256^bs.length<=n:=by have:=dL (256^bs.length) a;omega
theorem to_len{n:Nat}(h:256^bs.length<=n):bs.length<=bl n:=by have a:=Dq (b:=256) (x:=n) (k:=bs.length) O ((Pg O _ _).2 h);have c:=(Pg (by omega:2<=256) bs.length n).2 h;have d:=Zg9 n;omega
theorem Ya2(a:0<k)(h:k<=bs.length):(bs.drop k).reverse ++ [bs.getD (k-1) 0]=(bs.drop (k-1)).reverse:=by rw [Zda 0 bs (k-1) O,show k-1+1=k by omega];simp
theorem Yfl{n:Nat}(h:bs=dg 256 n):(⟨((bs.drop 0).reverse.map UInt8.ofNat).toArray⟩:ByteArray)=Yw n:=by rw [h,iA];rfl
def Zna(a b:Int):Prop:=65536<bl a.natAbs\/65536<bl b.natAbs
instance (a b:Int):Decidable (Zna a b):=by unfold Zna;infer_instance
def qn(a b:Int):Int:=if Zna a b then 0 else a
def qd(a b:Int):Int:=if Zna a b then 0 else b
def qe(a b:Int):Int:=if Zna a b then 7 else 0
def Yd3{x y:Int}(h:¬y<0):Nc x y=(Int.gcd x y:Int):=aE h
def Zlz(x y:Int):bl ((Int.gcd x y:Int)).natAbs<=max (bl x.natAbs) (bl y.natAbs):=Zl0 _ _
open Go.RowKit Below
variable {P:Program} {N:Nat} {sc:Nat->Prop} {env env':Xu} {H H':Hp} {Q Q':Exit->Act->World->Prop} {M:Nat->Prop}
abbrev Zqt (w:Bool×ByteArray):Value:= .agg #[.bool w.1,.string w.2]
abbrev Zqu (z:Int×SL):Value:= .agg #[.bool (decide (z.1<0)),Lh z.2]
abbrev Iy {α:Type} (z:SL×α):Value:=Lh z.1
abbrev qI (z:Int×SL):Pc:=d9p (Lh z.2) z.1.natAbs
abbrev pp (v:Value) (zs:List (Int×SL)):Pc:=Nv 2 Zqu qI v zs
abbrev Gl (zs:List (Int×SL)):List Int:=zs.map Prod.fst
abbrev I0:Int×SL:=(0,none,0,0)
def Am(zs:List (Int×SL)):(Gl zs).length=zs.length:=O7
theorem Zue(zs:List (Int×SL))(i:Nat):(zs.getD i I0).1=cf (Gl zs) i:=by simp only [cf,List.getD,Gl,fI];cases zs[i]?<;>rfl
theorem Znc{β:Type}{enc:β->Value}{q:β->Pc}{zs:List β}{al:Bool}{z:β}(i:Nat)(hi:lk H i=some (Nv k enc q v zs))(a:Nat.beq i 0=false)(c:z∈zs)(h:PreOk H al r):PreOk H al (q z::r):=
 ⟨⟨i,_,λe=>by subst e;simp at a,hi,λw h=>h.2 z c,λb d=> .inr ⟨z,c,d⟩,λ_=>rfl⟩,h⟩
theorem Zu8{β:Type}{enc:β->Value}{q:β->Pc}{zs:List β}(i j n:Nat)(hi:lk H i=some (Nv k enc q v zs))(d:Nat.beq i 0=false)(f:n<=zs.length):∀a w,Sat N sc env H a w->Sat N sc env ((j,Nv k enc q (Nr v n) (zs.take n))::H) a w:=
 Zck i j hi d rfl (λw h=>⟨⟨Zag n f h.1.1,λb c=>h.1.2 b (Zhg c)⟩,λz e=>h.2 z (dX e)⟩) (λb c=>by
  rcases c with c|⟨z,e,c⟩
  .exact .inl (Zhg c)
  .right;exact⟨z,dX e,c⟩) rfl
theorem Zof{β:Type}{enc:β->Value}{q:β->Pc}{zs:List β}(i:Nat)(hi:lk H i=some (Nv k enc q v zs)):∀a w,Sat N sc env H a w->Nr v zs.length=v:=λa w hs=>by obtain⟨b,c,h,_⟩:=(hs.hold i _ hi).1.1;rw [h];rfl
theorem Zdr(zs:List (Int×SL))(k:Nat):Gl (zs.take k)=(Gl zs).take k:=by simp [Gl,List.map_take]
def Zyf{al:Bool}(i:Nat)(hi:lk H i=some (pp v zs))(a:Nat.beq i 0=false)(b:z∈zs)(h:PreOk H al r):PreOk H al (d9p (Lh z.2) z.1.natAbs::r):=Znc (q:=qI) (z:=z) i hi a b h
def eaf(v:Value)(i k q:Nat):Addr:=(ead v i k).add q
end Go.Sky
namespace Go.Sky
variable{o:Oper}{r pre:List Pc}{f:FuncId}{xs:List Operand}{a:Act}{w:World}{c x:Operand}{ats:Array TypeId}{vs:List Value}{M0:Nat->Prop}{b:Nat}{t:TypeId}{cs:Array Value}
abbrev rq (z:Int×Int):Value:= .agg #[.bool (decide (z.1<0)),.string (Yw z.1.natAbs),.bool (decide (z.2<0)),.string (Yw z.2.natAbs)]
abbrev encQ (z:(Bool×ByteArray)×(Bool×ByteArray)):Value:= .agg #[.bool z.1.1,.string z.1.2,.bool z.2.1,.string z.2.2]
def Of (d:Value){P:Program}{N:Nat}{sc:Nat->Prop}{env:Xu}{H:Hp}{r:Value}(h:Ni P N sc o env H r)(e:r=d):Ni P N sc o env H d:=e▸h
open Go.RowKit Below
variable {P:Program} {N:Nat} {sc:Nat->Prop} {env env':Xu} {H H':Hp} {Q Q':Exit->Act->World->Prop} {M:Nat->Prop}
theorem Ztx (vs:List Value)(d:List Value){ys:List Operand}(h:o.op= .makeFunc (.func f) xs.toArray ys.toArray)(j:EvL env xs vs)(i:EvL env ys d):Ni P N sc o env H (.func (.func f) vs.toArray d.toArray):=λa w hs=>by have e:=j.map hs;have g:=i.map hs;simp [execOp,h,Instr.makeFunc,e,g]
theorem Za6   (hs:Sat N sc env H a w)      {e g:List Value} (j:o.op= .call { callee:= .value c,args:=xs.toArray,argTypes:=ats })
  (h:ev env c=some (.func (.func f) e.toArray g.toArray)) (d:EvL env xs vs):(execOp a.eval o).run P w=(callFunc f (e ++ vs ++ g).toArray).run P w:=by
 have i:=d.map hs;simp [execOp,j,resolve,invoke,hs.ev h,Deferred.ofValue,i]
theorem Ch (n:Nat)(i:List Value)(vs:List Value)(p:List Value)      {d:Nat}   {al:Bool} {G:Type} {φ:G->Prop} {val:G->Value} {m:G->List Pc} {w0:World} 
  (D:Cal P f (i ++ vs ++ p).toArray pre al φ val m)
  (I:o.op= .call { callee:= .value c,args:=xs.toArray,argTypes:=ats }) (s:ev env c=some (.func (.func f) i.toArray p.toArray)) (F:o.dst=some d) (B:Nat.blt d N=true)
  (h:EvL env xs vs) (e:∀args w,(callFunc f args).run P w= .ok (.enter f args) w) (k:PreOk H al pre)
  (y:lk H 0=some (Xm w0 M0)) (S:∀b,w0.heap.size<=b->sc b) :
  T P N sc M o env H φ (λg=>(d,val g)::env) (λg=>adds n (m g) H):=λa w hs K Q z=>by
 have R:(execOp a.eval o).run P w= .ok (.enter f (i ++ vs ++ p).toArray) w:=by rw [Za6 hs I s h,e]
 let o2:Oper:={ o with op:= .call { callee:= .value (.func f),args:=((i ++ vs ++ p).map Operand.const).toArray,argTypes:=ats } };have j:∀l:List Value,EvL env (l.map Operand.const) l:=λl=>by
  induction l with
  | nil=>trivial
  | cons v r V=>exact⟨rfl,V⟩
 have u:(execOp a.eval o2).run P w= .ok (.enter f (i ++ vs ++ p).toArray) w:=by rw [Lz hs (o:=o2) rfl (j _),e]
 have q:o2.wp P a w K Q:=Lg n (M:=M) D (o:=o2) rfl F B (j _) e k y S a w hs K Q z;unfold Oper.wp at q ⊢;rw [u]at q;rw [R];exact q
theorem Kc(i:Nat)(hi:lk H i=some (box b t cs))(d:Nat.beq i 0=false)(h:PreOk H false r):PreOk H false (Ka b t cs::r):=
 ⟨⟨i,_,λe=>by subst e;simp at d,hi,λw h=>h,λb g=>g,λh=>by cases h⟩,h⟩
theorem Sat.rboxc(hs:Sat N sc env H a w){i:Nat}(d:lk H i=some (Ka b t cs))(j:Nat):w.cell? ⟨b,j,none⟩=cs[j]?:=by have h:w.heap[b]? = some (.cells cs t (0,0)):=hs.hold i _ d;simp [World.cell?,h]
theorem d_lra   {v:TypeId} {i j k:Nat}   (l:o.op= .load t x)
  (s:ev env x=some (.pointer (some ⟨b,j,none⟩))) (e:lk H i=some (Ka b v cs)) (m:∀w,(isAgg t).run P w= .ok true w) (g:∀w,(sizeOf t).run P w= .ok k w)
  (h:vs.length=k) (q:∀n u,vs[n]? = some u->cs[j+n]? = some u):Ni P N sc o env H (.agg vs.toArray):=λa w hs=>by
 have d:=run_loadCells_list (P:=P) w ⟨b,j,none⟩ vs (λn u p=>by rw [Mi,hs.rboxc e];exact q n u p);rw [h]at d;simp [execOp,l,hs.ev s,Instr.loadAt,Instr.sureAddr,loadVar,m,g,d]
theorem d_negi{m:Int}(d:o.op= .unOp .neg t x)(e:ev env x=some (.int .i64 m))(h:Qf (-m)):Ni P N sc o env H (.int .i64 (-m)):=λa w hs=>by simp [execOp,d,hs.ev e,Op.unary,Op.intArith,Bq h]
theorem fill24{n p q s d e g h j k l m:Value}:Instr.fill (λi=>some (i*4,4)) ((List.range (2*4)).map ((Value.agg #[n,p,q,s]).cells[· % (Value.agg #[n,p,q,s]).cells.size]!)).toArray [(0,.agg #[d,e,g,h]),(1,.agg #[j,k,l,m])]=some #[d,e,g,h,j,k,l,m]:=by
 simp [Instr.fill,Value.cells,List.range,List.range.loop]
 try rfl
end Go.Sky
namespace Go.Sky
open Go.RowKit Below
variable{f:FuncId}{c:Operand}{xs:List Operand}{ats:Array TypeId}{p:Pc}{pre:List Pc}{w0:World}{M0:Nat->Prop}{fn:Func}{vs:List Value}
variable {P:Program} {N:Nat} {sc:Nat->Prop} {env env':Xu} {H H':Hp} {Q Q':Exit->Act->World->Prop} {M:Nat->Prop}
abbrev iq (z:(Int×Int)×(Int×Int)):Value:= .agg #[.bool (decide (z.1.1<0)),.string (Yw z.1.1.natAbs),.bool (decide (z.1.2<0)),.string (Yw z.1.2.natAbs),.bool (decide (z.2.1<0)),.string (Yw z.2.1.natAbs),.bool (decide (z.2.2<0)),.string (Yw z.2.2.natAbs)]
def Yft(P:Program)(f:FuncId)(args:Array Value)(pre:List Pc)(p:Pc){G:Type}(φ:G->Prop)(val:G->Value)(q:G->Pc):Prop:=
 ∀w,(∀r∈pre,r.holds w/\∀k,p.fp k->¬r.fp k)->p.holds w->Calls P f args w λe a=>∃g,e= .returned (val g)/\φ g/\Chg p.fp w a/\(q g).holds a/\∀k,(q g).fp k->p.fp k\/w.heap.size<=k
theorem Zrn (i:Nat)(x:List Value)(vs:List Value)(I:List Value) {o:Oper}     {d:Nat}    {G:Type} {φ:G->Prop} {val:G->Value} {q:G->Pc}  
  (hc:Yft P f (x ++ vs ++ I).toArray pre p φ val q)
  (ho:o.op= .call { callee:= .value c,args:=xs.toArray,argTypes:=ats }) (z:ev env c=some (.func (.func f) x.toArray I.toArray)) (hd:o.dst=some d) (Y:Nat.blt d N=true)
  (m:EvL env xs vs) (n:∀args w,(callFunc f args).run P w= .ok (.enter f args) w) (y:lk H i=some p) (l:p.own=true) (B:i≠0) (u:PreOk (drp i H) false pre)
  (S:lk H 0=some (Xm w0 M0)) (hw:∀b,w0.heap.size<=b->sc b) (W:∀b,p.fp b->M b) :
  T P N sc M o env H φ (λg=>(d,val g)::env) (λg=>(i,q g)::H):=λa w hs K Q V=>by
 have hr:(execOp a.eval o).run P w= .ok (.enter f (x ++ vs ++ I).toArray) w:=by rw [Za6 hs ho z m,n]
 unfold Oper.wp;rw [hr];refine(hc w (λr hp=>by obtain⟨j,R,_,v,t,s,_⟩:=u.mem r hp;obtain⟨F,v⟩:=Hg _ _ _ _ v;exact⟨t w (hs.hold j R v),λk D Z=>hs.sep i j _ R (fS F) y v l k D (s k Z)⟩) (hs.hold i _ y)).mono ?_
 rintro e w' ⟨g,rfl,hg,h,hq,s⟩;show K (a.put o.dst (val g)) w';rw [hd];exact V g _ _ hg (Sat.put (hs.upd y l B h hq s S hw) d _ Y) ⟨h.os,h.tape,h.output,h.size,λk D hn=>h.block k D (λe=>hn (W k e))⟩
def Ycb(P:Program)(fn:Func)(w0:World)(p:Pc){G:Type}(φ:G->Prop)(val:G->Value)(q:G->Pc):Exit->Act->World->Prop:=
 bodyPost P fn λe a=>∃g,e= .returned (val g)/\φ g/\Chg p.fp w0 a/\(q g).holds a/\∀k,(q g).fp k->p.fp k\/w0.heap.size<=k
theorem Zug   {c:Code}    {G:Type} {φ:G->Prop} {val:G->Value} {q:G->Pc} {N:Nat}
  (V:P.funcs[f]? = some fn) (S:fn.body=some c) (R:fn.ntmps=N) (n:Nat.ble vs.length N=true) (B:AllRo pre)
  (h:∀w0 (sc:Nat->Prop),(∀k,w0.heap.size<=k->sc k)->(∀k,sc k->w0.heap.size<=k\/p.fp k\/∃q∈pre,q.fp k)->
   E P N sc c (Ycb P fn w0 p φ val q) (Pa 0 vs) ((0,Xm w0 p.fp)::(1,p)::Qc 2 pre)) :
  Yft P f vs.toArray pre p φ val q:=λw D s=>by
 refine calls_of_wp V S (h w (λk=>w.heap.size<=k\/p.fp k\/∃q∈pre,q.fp k) (λk b=> .inl b) (λk b=>b) _ w ?_);have n:vs.length<=N:=by simpa using n
 have a:∀i r,lk ((0,Xm w p.fp)::(1,p)::Qc 2 pre) i=some r->(i=0/\r=Xm w p.fp)\/(i=1/\r=p)\/(i≠0/\i≠1/\r∈pre/\r.own=false):=λi r hi=>by
   by_cases l:0=i
   .subst l;rw [Zz]at hi;cases hi;exact .inl ⟨rfl,rfl⟩
   .rw [Zj l]at hi;by_cases g:1=i
    .subst g;rw [Zz]at hi;cases hi;exact .inr (.inl ⟨rfl,rfl⟩)
    .rw [Zj g]at hi;obtain⟨_,d⟩:=Pt pre 2 i r hi;exact .inr (.inr ⟨λe=>l e.symm,λe=>g e.symm,d,B.mem r d⟩)
 refine⟨by simp [R];omega,rfl,λt v Y=>?_,λi r hi=>?_,λi j r F y hi W z k b m=>?_,λi r u hi k b=>?_⟩
 .have g:vs.toArray[t]? = some v:=by simpa using(Kw vs 0 t v Y).2
  have x:=(aR.1 g).1;rw [bF,eD x,g];rfl
 .rcases a i r hi with⟨_,rfl⟩|⟨_,rfl⟩|⟨_,_,d,_⟩
  .exact Chg.refl _ w
  .exact s
  .exact(D r d).1
 .rcases a i r hi with⟨_,rfl⟩|⟨g,rfl⟩|⟨_,_,d,o⟩
  .cases z
  .rcases a j F W with⟨_,rfl⟩|⟨I,rfl⟩|⟨_,_,d,_⟩
   .exact m.2 b
   .exact y (g.trans I.symm)
   .exact(D F d).2 k b m
  .rw [o]at z;cases z
 .rcases a i r hi with⟨l,_⟩|⟨_,rfl⟩|⟨_,_,d,_⟩
  .exact absurd l u
  .exact .inr (.inl b)
  .exact .inr (.inr ⟨r,d,b⟩)
theorem Zwn    {G:Type} {φ:G->Prop} {val:G->Value} {q:G->Pc}  {e:Exit} (B:e= .ret\/e= .normal) (u:∀k,sc k->w0.heap.size<=k\/p.fp k\/∃q∈pre,q.fp k)
  (g:G) {v:Value} (m:∀a w,Sat N sc env H a w->(results fn a.tmps).run P w= .ok v w) (I:val g=v) (D:φ g) (i:Nat) (hi:lk H i=some (q g)) (z:lk H 0=some (Xm w0 p.fp)) (b:Nat.beq i 0=false) (d:(q g).own=true) (l:PreOk (drp i H) false pre) :
  X N sc e (Ycb P fn w0 p φ val q) env H:=λa w hs=>by
 have b:i≠0:=λe=>by subst e;simp at b
 have x:a.defers=[]/\∃v,(results fn a.tmps).run P w= .ok v w/\(∃g,Ending.returned v= .returned (val g)/\φ g/\Chg p.fp w0 w/\(q g).holds w/\∀k,(q g).fp k->p.fp k\/w0.heap.size<=k):=by
  refine⟨hs.defers,v,m a w hs,g,by rw [I],D,hs.hold 0 _ z,hs.hold i _ hi,λk y=>?_⟩;rcases u k (hs.scope i _ b hi k y)with h|h|⟨r,F,t⟩
  .exact .inr h
  .exact .inl h
  .obtain⟨j,R,_,o,_,n,_⟩:=l.mem r F;obtain⟨s,o⟩:=Hg _ _ _ _ o;exact(hs.sep i j _ R (fS s) hi o d k y (n k t)).elim
 rcases B with rfl|rfl<;>exact x
def gb{α:Type}(b:Nat)(t:TypeId)(k:Nat)(e:TypeId)(enc:α->Value)(v:Value)(xs:List α):Pc:=
 {own:=true,fp:=λc=>c=b\/v.ownBlock=some c,holds:=λw=>(box b t #[v]).holds w/\(Nl k e enc v xs).holds w/\v.ownBlock≠some b
  lt:=λw c h a=>by
   rcases a with rfl|a
   .exact(box c t #[v]).lt w c h.1 rfl
   .exact(Nl k e enc v xs).lt w c h.2.1 a
  stable:=λw l h a=>⟨(box b t #[v]).stable w l h.1 ⟨a.os,a.tape,a.output,a.size,λk g i=>a.block k g (λd=>i (λj=>d (.inl j)))⟩,
   (Nl k e enc v xs).stable w l h.2.1 ⟨a.os,a.tape,a.output,a.size,λk g i=>a.block k g (λd=>i (λj=>d (.inr j)))⟩,h.2.2⟩ }
end Go.Sky

