/- Rules, arithmetic and contracts: part 20. No conditions but those that each theorem names. -/
import Derived.Test.YtlnoheikolgejaaGreatLa18
set_option linter.all false
set_option maxHeartbeats 4000000
namespace Go.Sky
variable{p q:List Zj}{i a:Nat}{es:List (LkT×Value)}
abbrev PPT:=SL×List PT
abbrev Fy:PPT:=((none,0,0),[])
abbrev Zes (x:PPT):Value:=Xw x.1
abbrev qPP (x:PPT):Pc:=Qh 1 Eb qP (Xw x.1) x.2
abbrev ZnT:=Int×Int×Int×Int
def opt(b:List PPT)(a i:Nat):List Zj:=((b.getD a Fy).2.getD i PT0).2
def apA(z:ZnT)(p q:List Zj):Bool×Int:=if apZ z.1 1 1 p q=true then(apZ z.2.1 z.2.2.1 z.2.2.2 p q,0)else(false,Gr p q)
abbrev ApF:=Nat->Nat->Nat->Nat->Bool×Int
def apO(c:List PPT)(z:ZnT):ApF:=λa i b k=>apA z (opt c a i) (opt c b k)
theorem ap_g0{D n d:Int}(h:apZ D n d p q=true):Gr p q=0:=by unfold apZ at h;simp only [aP,cL]at h;exact h.1
theorem apA_t{z:ZnT}(h:apZ z.1 1 1 p q=true):apA z p q=(apZ z.2.1 z.2.2.1 z.2.2.2 p q,Gr p q):=by unfold apA;rw [aF h,ap_g0 h]
theorem apA_f{z:ZnT}(h:apZ z.1 1 1 p q=false):apA z p q=(false,Gr p q):=by unfold apA;rw [h];rfl
def Ez(ap:ApF)(n i:Nat):List Nat->Nat->Bool×Int
 | [],_=>(true,0)
 | k::r,a=>if(ap a k n i).1=true then Ez ap n i r (a+1)else(false,(ap a k n i).2)
abbrev RnT:=List Nat×Int×Int
def rnF(ap:ApF)(d:List Nat):Nat->List Nat->Nat->Nat->RnT
 | 0,_,_,_=>([],0,0)
 | f+1,b,e,c=>
  if b.length<d.length then
   if e<d.getD b.length 0 then
    match c with
    | 0=>([],0,0)
    | c+1=>
     let r:=Ez ap b.length e b 0
     if r.1=true then rnF ap d f (b ++ [e]) 0 c else if r.2=0 then rnF ap d f b (e+1) c else([],0,r.2)
   else if b.length=0 then([],2,0)else rnF ap d f b.dropLast (b.getLastD 0+1) c
  else(b,1,0)
def rnA(ap:ApF)(c:List Nat)(b:Nat):RnT:=rnF ap c (2*b+1) [] 0 b
section
variable {ap:ApF} {ns ch:List Nat} {f nx bd:Nat}
theorem fit_e{n i:Nat} : ∀(l:List Nat) (a:Nat),(Ez ap n i l a).1=true->(Ez ap n i l a).2=0
 | [],_,_=>rfl
 | k::r,a,h=>by
  unfold Ez at h ⊢;split
  .rename_i b;rw [aF b]at h;exact fit_e r _ h
  .rename_i b;rw [aD b]at h;cases h
theorem Ycu{n:Nat}(l:List Nat)(j:Nat)(b:j<l.length):Ez ap n i (l.drop j) j=if(ap j (l.getD j 0) n i).1=true then Ez ap n i (l.drop (j+1)) (j+1)else(false,(ap j (l.getD j 0) n i).2):=by
 have e:l.drop j=l.getD j 0::l.drop (j+1):=by rw [dP b,aC,aH b];rfl
 rw [e];rfl
theorem Yia{n:Nat}(l:List Nat){j:Nat}(b:l.length<=j):Ez ap n i (l.drop j) j=(true,0):=by rw [gE b];rfl
theorem Ygr(h:¬ch.length<ns.length):rnF ap ns (f+1) ch nx bd=(ch,1,0):=by unfold rnF;rw [aD h]
theorem rn_unk(h:ch.length<ns.length)(b:nx<ns.getD ch.length 0):rnF ap ns (f+1) ch nx 0=([],0,0):=by unfold rnF;rw [aF h,aF b]
theorem Ygm(h:ch.length<ns.length)(b:nx<ns.getD ch.length 0)(c:(Ez ap ch.length nx ch 0).1=true):rnF ap ns (f+1) ch nx (bd+1)=rnF ap ns f (ch ++ [nx]) 0 bd:=by show(if ch.length<ns.length then if nx<ns.getD ch.length 0 then _ else _ else _)=_;rw [aF h,aF b];exact aF c
theorem Ygp(h:ch.length<ns.length)(b:nx<ns.getD ch.length 0)(c:(Ez ap ch.length nx ch 0).1=false)(d:(Ez ap ch.length nx ch 0).2=0):rnF ap ns (f+1) ch nx (bd+1)=rnF ap ns f ch (nx+1) bd:=by show(if ch.length<ns.length then if nx<ns.getD ch.length 0 then _ else _ else _)=_;rw [aF h,aF b];exact(aD (by rw [c];decide)).trans (aF d)
theorem rn_err(h:ch.length<ns.length)(c:nx<ns.getD ch.length 0)(b:(Ez ap ch.length nx ch 0).2≠0):rnF ap ns (f+1) ch nx (bd+1)=([],0,(Ez ap ch.length nx ch 0).2):=by
 have d:(Ez ap ch.length nx ch 0).1=false:=by
  cases h4:(Ez ap ch.length nx ch 0).1 with
  | false=>rfl
  | true=>exact absurd (fit_e _ _ h4) b
 show(if ch.length<ns.length then if nx<ns.getD ch.length 0 then _ else _ else _)=_;rw [aF h,aF c];exact(aD (by rw [d];decide)).trans (aD b)
theorem Ygo(h:0<ns.length)(b:¬nx<ns.getD 0 0):rnF ap ns (f+1) [] nx bd=([],2,0):=by show(if([]:List Nat).length<ns.length then if nx<ns.getD ([]:List Nat).length 0 then _ else _ else _)=_;rw [aF (by simpa using h),aD (by simpa using b)];exact aF rfl
theorem rn_pop{l:Nat}(h:(ch ++ [l]).length<ns.length)(b:¬nx<ns.getD (ch ++ [l]).length 0):rnF ap ns (f+1) (ch ++ [l]) nx bd=rnF ap ns f ch (l+1) bd:=by show(if(ch ++ [l]).length<ns.length then if nx<ns.getD (ch ++ [l]).length 0 then _ else _ else _)=_;rw [aF h,aD b];refine(aD O7).trans ?_;rw [List.dropLast_concat,List.getLastD_concat]
end
def nI(l:List Nat):List Int:=l.map λn:Nat=>(n:Int)
def Za5(l:List Nat):(nI l).length=l.length:=aQ _
def Yhc(l:List Nat)(n:Nat):nI (l ++ [n])=nI l ++ [(n:Int)]:=cE
theorem Yhe(l:List Nat):nI l.dropLast=(nI l).take (l.length-1):=by unfold nI;rw [List.map_dropLast,mP,aQ]
theorem Zge{l:List Nat} : l.getD (l.length-1) 0=l.getLastD 0:=by rw [lM,List.getLast?_eq_getElem?,aC]
theorem Yhd(l:List Nat)(h:0<l.length):(nI l).getD (l.length-1) 0=((l.getLastD 0:Nat):Int):=by rw [<-Zge];exact Zur l _
def nsL(b:List PPT):List Nat:=b.map λx=>x.2.length
def Zc5(b:List PPT):(nsL b).length=b.length:=aQ _
theorem Zui{b:List PPT}{k:Nat} : (nsL b).getD k 0=(b.getD k Fy).2.length:=by unfold nsL;rw [aC,dZ,aC];cases b[k]?<;>rfl
section
variable {ap:ApF} {ls:List PPT} {ch:List Nat} {f nx bd:Nat} {R:RnT}
def Zda{f m:Nat}(h:m+1<=f):∃k,f=k+1/\f-1=k:=⟨f-1,O,rfl⟩
theorem Yag(d:rnF ap (nsL ls) f ch nx bd=R)(h:2*bd+ch.length+1<=f)(j:0<bd)(g:ch.length<ls.length)(b:nx<(nsL ls).getD ch.length 0)(c:(Ez ap ch.length nx ch 0).1=true):rnF ap (nsL ls) (f-1) (ch ++ [nx]) 0 (bd-1)=R:=by obtain⟨k,rfl,e⟩:=Zda h;obtain⟨m,rfl⟩:∃m,bd=m+1:=⟨bd-1,O⟩;rw [e,<-d];exact(Ygm (by rw [Zc5];exact g) b c).symm
theorem Yai(g:rnF ap (nsL ls) f ch nx bd=R)(j:2*bd+ch.length+1<=f)(l:0<bd)(h:ch.length<ls.length)(b:nx<(nsL ls).getD ch.length 0)(c:(Ez ap ch.length nx ch 0).1=false)(d:(Ez ap ch.length nx ch 0).2=0):rnF ap (nsL ls) (f-1) ch (nx+1) (bd-1)=R:=by obtain⟨k,rfl,e⟩:=Zda j;obtain⟨m,rfl⟩:∃m,bd=m+1:=⟨bd-1,O⟩;rw [e,<-g];exact(Ygp (by rw [Zc5];exact h) b c d).symm
theorem Ygl(c:rnF ap (nsL ls) f ch nx bd=R)(h:2*bd+ch.length+1<=f)(d:bd=0)(g:ch.length<ls.length)(b:nx<(nsL ls).getD ch.length 0):R=([],0,0):=by obtain⟨k,rfl,e⟩:=Zda h;subst d;rw [<-c];exact rn_unk (by rw [Zc5];exact g) b
theorem Ygq(d:rnF ap (nsL ls) f ch nx bd=R)(h:2*bd+ch.length+1<=f)(j:0<bd)(g:ch.length<ls.length)(b:nx<(nsL ls).getD ch.length 0)(c:(Ez ap ch.length nx ch 0).2≠0):R=([],0,(Ez ap ch.length nx ch 0).2):=by obtain⟨k,rfl,e⟩:=Zda h;obtain⟨m,rfl⟩:∃m,bd=m+1:=⟨bd-1,O⟩;rw [<-d];exact rn_err (by rw [Zc5];exact g) b c
theorem Yah(c:rnF ap (nsL ls) f ch nx bd=R)(g:2*bd+ch.length+1<=f)(d:ch.length<ls.length)(b:¬nx<(nsL ls).getD ch.length 0)(h:ch=[]):R=([],2,0):=by obtain⟨k,rfl,e⟩:=Zda g;subst h;rw [<-c];exact Ygo (by rw [Zc5];exact d) b
theorem Ygn(g:rnF ap (nsL ls) f ch nx bd=R)(m:2*bd+ch.length+1<=f)(j:ch.length<ls.length)(d:¬nx<(nsL ls).getD ch.length 0)(h:0<ch.length):rnF ap (nsL ls) (f-1) ch.dropLast (ch.getLastD 0+1) bd=R:=by
 obtain⟨k,rfl,e⟩:=Zda m;have b:ch≠[]:=by intro e;subst e;cases h
 have c:ch=ch.dropLast ++ [ch.getLastD 0]:=by
  conv=>lhs;rw [<-List.dropLast_concat_getLast b]
  rw [lM,List.getLast?_eq_some_getLast b];rfl
 rw [e,<-g];generalize ch.dropLast=n at *;generalize ch.getLastD 0=l at *;subst c;exact(rn_pop (by rw [Zc5];exact j) d).symm
theorem Yaj(b:rnF ap (nsL ls) f ch nx bd=R)(d:2*bd+ch.length+1<=f)(c:¬ch.length<ls.length):R=(ch,1,0):=by obtain⟨k,rfl,e⟩:=Zda d;rw [<-b];exact Ygr (by rw [Zc5];exact c)
end
def Zze{b:Nat}(h:0<b):(b:Int)-1=((b-1:Nat):Int):=O
structure OkL (ls:List PPT) (z:ZnT):Prop where
 g:∀x∈ls,∀y∈x.2,(∀g∈y.2,Gin g)/\Xk y.2=true/\y.2.length<=5
 d:dsB z.1=true
 z:znB z.2.1 z.2.2.1 z.2.2.2=true
 k64:∀x∈ls,x.2.length<=64
def OkL.at{ls:List PPT}{z:ZnT}(h:OkL ls z)(b:a<ls.length)(hi:i<(ls.getD a Fy).2.length):(∀g∈opt ls a i,Gin g)/\Xk (opt ls a i)=true/\(opt ls a i).length<=5:=
 h.g _ (Zk b) _ (Zk hi)
def OkL.k{ls:List PPT}{z:ZnT}(h:OkL ls z)(b:a<ls.length):(ls.getD a Fy).2.length<=64:=h.k64 _ (Zk b)
def ChO(ls:List PPT)(ch:List Nat):Prop:=∀j,j<ch.length->ch.getD j 0<(ls.getD j Fy).2.length
theorem chO_s{ls:List PPT}{ch:List Nat}{n:Nat}(h:ChO ls ch)(d:n<(ls.getD ch.length Fy).2.length):ChO ls (ch ++ [n]):=λj c=>by
 rw [aS]at c;rcases bL.1 c with b|b
 .rw [aC,cQ b,<-aC];exact h j b
 .subst b;simpa using d
theorem chO_d{ls:List PPT}{ch:List Nat}(h:ChO ls ch):ChO ls ch.dropLast:=λj b=>by rw [jA]at b;rw [mP,aC,jJ b,<-aC];exact h j O
def CkI(ls:List PPT)(z:ZnT)(es:List (LkT×Value)):Prop:=
 ∀p∈es,∃a i c k:Nat,p.1=((a:Int),(i:Int),(c:Int),(k:Int))/\p.2= .agg #[.bool (apO ls z a i c k).1,.int .i64 (apO ls z a i c k).2]
theorem ck_nil{ls:List PPT}{z:ZnT}:CkI ls z []:=λp h=>by cases h
theorem Yd8{ls:List PPT}{z:ZnT}{c k:Nat}{v:Value}(h:CkI ls z es)(e:v= .agg #[.bool (apO ls z a i c k).1,.int .i64 (apO ls z a i c k).2]):CkI ls z (es ++ [(((a:Int),(i:Int),(c:Int),(k:Int)),v)]):=λp d=>by
 rcases cS.1 d with b|b
 .exact h p b
 .rw [bZ.1 b];exact⟨a,i,c,k,rfl,e⟩
theorem Zup{k:LkT} : ∀{es:List (LkT×Value)} {b j:Nat} {v:Value},mfk es k b=some (j,v)->(k,v)∈es
 | [],_,_,_,h=>by cases h
 | (a,w)::r,b,j,v,h=>by
  unfold mfk at h;split at h
  .rename_i e;subst e;cases h;exact bX ..
  .exact bJ _ (Zup h)
theorem Ybi{ls:List PPT}{z:ZnT}(h:CkI ls z es)(a i c k:Nat) :
  (mfk es ((a:Int),(i:Int),(c:Int),(k:Int)) 0=none/\mlv es ((a:Int),(i:Int),(c:Int),(k:Int)) (.agg #[.bool false,.int .i64 0])= .tuple #[.agg #[.bool false,.int .i64 0],.bool false])\/
  mlv es ((a:Int),(i:Int),(c:Int),(k:Int)) (.agg #[.bool false,.int .i64 0])= .tuple #[.agg #[.bool (apO ls z a i c k).1,.int .i64 (apO ls z a i c k).2],.bool true]:=by
 cases hf:mfk es ((a:Int),(i:Int),(c:Int),(k:Int)) 0 with
 | none=>exact .inl ⟨rfl,by unfold mlv;rw [hf]⟩
 | some p=>
  obtain⟨j,v⟩:=p;obtain⟨e,l,g,m,b,d⟩:=h _ (Zup hf);simp only [nH,Int.ofNat_inj]at b;obtain⟨rfl,rfl,rfl,rfl⟩:=b;exact .inr (by unfold mlv;rw [hf];dsimp only at d ⊢;rw [d])
def okZ(z:ZnT)(bd:Int):Bool:=dsB z.1 && (znB z.2.1 z.2.2.1 z.2.2.2 && decide (0<=bd/\bd<=100000))
def chR(ls:List PPT)(z:ZnT)(bd:Int):RnT:=
 if(ls.all λx=>Ee x.2)=false\/okZ z bd=false then([],0,2)
 else if(ls.any λx=>decide (64<x.2.length))=true\/64<ls.length then([],0,7)
 else rnA (apO ls z) (nsL ls) bd.toNat
section
variable {ls:List PPT} {z:ZnT} {bd:Int}
theorem okZ_t(h:okZ z bd=true):dsB z.1=true/\znB z.2.1 z.2.2.1 z.2.2.2=true/\0<=bd/\bd<=100000:=by unfold okZ at h;simp only [aP,cL]at h;exact⟨h.1,h.2.1,h.2.2⟩
def okZ_b(h:okZ z bd=true):0<=bd/\bd<=100000:=(okZ_t h).2.2
def chR_2(h:(ls.all λx=>Ee x.2)=false):chR ls z bd=([],0,2):=aF (.inl h)
def chR_2z(h:okZ z bd=false):chR ls z bd=([],0,2):=aF (.inr h)
theorem chR_7(c:(ls.all λx=>Ee x.2)=true)(h:okZ z bd=true)(b:(ls.any λx=>decide (64<x.2.length))=true\/64<ls.length):chR ls z bd=([],0,7):=by unfold chR;rw [aD (by rw [c,h];simp),aF b]
theorem chR_r(c:(ls.all λx=>Ee x.2)=true)(h:okZ z bd=true)(b:(ls.any λx=>decide (64<x.2.length))=false)(d:ls.length<=64):chR ls z bd=rnA (apO ls z) (nsL ls) bd.toNat:=by unfold chR;rw [aD (by rw [c,h];simp),aD (by rw [b];simp;omega)]
theorem Yjb(h:∀j,j<ls.length->Ee (ls.getD j Fy).2=true):(ls.all λx=>Ee x.2)=true:=by rw [bW];intro x c;obtain⟨j,b,rfl⟩:=gY c;have:=h j b;rwa [aC,aH b]at this
theorem chv_no(hi:i<ls.length)(h:Ee (ls.getD i Fy).2=false):(ls.all λx=>Ee x.2)=false:=
 lS.2 λb=>by rw [bW.1 b _ (Zk hi)]at h;cases h
theorem lg_s{bl b:Bool}(h:bl=(ls.take i).any λx=>decide (64<x.2.length))(hi:i<ls.length)(d:(bl=true/\b=true)\/(bl=false/\b=decide (64<(ls.getD i Fy).2.length))):b=(ls.take (i+1)).any λx=>decide (64<x.2.length):=by
 rw [Qb Fy _ hi,List.any_append,<-h];rcases d with⟨c,rfl⟩|⟨c,rfl⟩
 .rw [c];rfl
 .rw [c];simp
theorem ok_L(l:∀x∈ls,∀y∈x.2,∀g∈y.2,Gin g)(k:∀x∈ls,∀y∈x.2,y.2.length<=5)(m:(ls.all λx=>Ee x.2)=true)(h:okZ z bd=true)(d:(ls.any λx=>decide (64<x.2.length))=false):OkL ls z:=by
 obtain⟨e,j,n⟩:=okZ_t h;refine⟨λx b y c=>⟨l x b y c,?_,k x b y c⟩,e,j,λx b=>?_⟩
 .exact bW.1 (bW.1 m x b) y c
 .have:=jZ.1 d x b;simp only [cL]at this;omega
end
end Go.Sky
namespace Go.Sky
open Go Go.MapKept Go.Proofs
def pPt:Enc Tryz.prog 61 3 Ll:=Enc.agg O3 Tryz.sizeOf61 Tryz.isAgg61 (λx=>⟨[.int .i64 x.1,.int .i64 x.2.1,.int .i64 x.2.2],rfl,rfl,O10⟩)
@[reducible,instance] def encPtI:EncT Tryz.prog 61 3 Ll:=⟨pPt⟩
def pPq:Enc Tryz.prog 36 1 Eb:=Enc.flat Tryz.sizeOf36 Tryz.isAgg36 (λ_=>rfl)
@[reducible,instance] def encPqI:EncT Tryz.prog 36 1 Eb:=⟨pPq⟩
def pPPq:Enc Tryz.prog 27 1 Zes:=Enc.flat Tryz.sizeOf27 Tryz.isAgg27 (λ_=>rfl)
@[reducible,instance] def encPPqI:EncT Tryz.prog 27 1 Zes:=⟨pPPq⟩
def shLk:Tryz.prog.stoodInHeld 291=false:=O5
def inLk(m:Nat)(w:World)(k e:LkT):(Op.equalIn (m+2) 291 (kv4 k) (kv4 e)).run Tryz.prog w= .ok (decide (k=e)) w:=by
 have p:Tryz.prog.underlying 291=some (.struct (Tryz.prog.fieldsOf 291)):=by unfold Program.fieldsOf;rw [Tryz.underlying291]
 obtain⟨a,b,c,d⟩:=k;obtain⟨f,g,h,i⟩:=e;unfold kv4;rw [run_equalIn_agg w (m+1) 291 _ _ p shLk];unfold Program.fieldsOf;rw [Tryz.underlying291];simp [Op.eqFields,part,Tryz.isAgg3,run_equalIn_int _ _ _ _ _ _ _ Tryz.underlying3];by_cases j:a=f<;>by_cases l:b=g<;>by_cases n:c=h<;>by_cases o:d=i<;>simp [j,l,n,o]
def chLk(e:Bool)(m:Nat)(w:World)(k:LkT):(Instr.checkKey e (m+2) 291 (kv4 k)).run Tryz.prog w= .ok () w:=by obtain⟨a,b,c,d⟩:=k;unfold kv4;have hi:∀(x:Int) (n:Nat),(Instr.checkKey e (n+1) 3 (.int .i64 x)).run Tryz.prog w= .ok () w:=λx n=>run_checkKey Tryz.underlying3 (show IsKey (.int .i64) (.int .i64 x)from rfl) e n;simp [Instr.checkKey,run_underlying Tryz.underlying291,part,Tryz.isAgg3,run_underlying Tryz.underlying3]
def k4L:KeyQ Tryz.prog 291:=⟨⟨_,Tryz.underlying291⟩,λw k a=>inLk 9998 w k a,λe w k=>chLk e 9998 w k⟩
def zvSn(w:World):(zeroValue 372).run Tryz.prog w= .ok (.agg #[.bool false,.int .i64 0]) w:=Tryz.zeroValue372 w
def fill93{u0 u1 u2 u3 u4 u5 u6 u7 u8 u9 a b c d e f g h j k l m n o p q r s t u v w x y z B D F G H I M N P Q R S V W Y Z c6 c7 c8:Value}:Instr.fill (λi=>some (i*9,9)) #[u0,u1,u2,u3,u4,u5,u6,u7,u8,u9,a,b,c,d,e,f,g,h,j,k,l,m,n,o,p,q,r] [(0,.agg #[s,t,u,v,w,x,y,z,B]),(1,.agg #[D,F,G,H,I,M,N,P,Q]),(2,.agg #[R,S,V,W,Y,Z,c6,c7,c8])]=some #[s,t,u,v,w,x,y,z,B,D,F,G,H,I,M,N,P,Q,R,S,V,W,Y,Z,c6,c7,c8]:=by simp [Instr.fill,Value.cells]
def ti_l3:Tryz.prog.info? 197=some Tryz.t197:=O5
def ti_l1:Tryz.prog.info? 196=some Tryz.t196:=O5
def Yet{a b c d e f g h i j k l m n o p q r s t u v w x y z B:Value} : Tryz.prog.built 197 [(0,.agg #[a,b,c,d,e,f,g,h,i]),(1,.agg #[j,k,l,m,n,o,p,q,r]),(2,.agg #[s,t,u,v,w,x,y,z,B])]=some #[a,b,c,d,e,f,g,h,i,j,k,l,m,n,o,p,q,r,s,t,u,v,w,x,y,z,B]:=by refine Ff ti_l3 Tryz.underlying197 rfl ti_l1 ?_;rw [show Tryz.t196.size=9 from rfl];exact fill93
def Zqr {P:Program} {N:Nat} {sc:Nat->Prop} {env:Xz} {H:Hp} {o:Oper} {x y:Operand} {t e:TypeId} {i n:Nat} {l:IntKind} {m:Int} {cs:Array Value} (g:o.op= .index t x y) (j:ev env x=some (.agg cs)) (k:ev env y=some (.int l m))
  (h:P.underlying t=some (.array n e)) (f:∀w,(sizeOf e).run P w= .ok 9 w) (d:∀w,(isAgg e).run P w= .ok true w) (b:m=(i:Int)) (c:i<n):Nf P N sc o env H (.agg (cs.extract (i*9) (i*9+9))):=λa w hs=>by
 subst b;simp [execOp,g,hs.ev j,hs.ev k,Instr.index,asIntOf,run_underlying h,f,d,asAgg,part,c]
end Go.Sky
namespace Go.Sky
open Go.Proofs
variable{v va vb u:Value}{xs x:List Int}{pa pb:List Zj}{bad:Bool}
theorem dw_neg(a:Cvd xs):Cal Tryz.prog 178 #[v] [Yg 2 wv v xs] false (G:=Unit) (λ_=>True) (λ_=> .bool (Et xs)) (λ_=>[]):=by
 unfold Et;cases hn:ngb (Pk xs) (chx xs) (0,1) (1,1)with
 | true=>exact Zsm v xs a hn
 | false=>exact Zx3 v xs a hn
open Go.Proofs.Tryz
set_option synthInstance.maxHeartbeats 0
set_option synthInstance.maxSize 100000
set_option maxRecDepth 20000
set_option linter.unusedSimpArgs false
theorem Yio{y D B:Int}(l:∀g∈pa,Gin g)(m:∀g∈pb,Gin g)(h:Xk pa=true)(i:Xk pb=true)(R:pa.length<=5)(S:pb.length<=5)(t:znB y D B=true):Cal prog 177 #[va,vb,.agg #[.int .i64 y,.int .i64 D,.int .i64 B]] [Qh 6 Qu qG va pa,Qh 6 Qu qG vb pb] true (G:=Value×List GpT) (λg=>g.2.map unP=Mu y D B pa pb) (λg=> .tuple #[g.1,.int .i64 (Gr pa pb)]) (λg=>[Qh 3 Ei qGp g.1 g.2]):=by
 refine Zf func177 ntmps177 λw0 sc V r=>go 2 ?_;refine Ym (Yj 3) λbx _=>go 8 ?_;refine cl 3 [] Zqf λ_ _=>?_;refine dt (dF (Xi J J) (aL (λb=>Value.bool (!b)) t))<|go 9 ?_;refine cl 4 [1,2] (Zkk l m h i R S) λc e=>go 16<|Zc J (λf=>?_) (λf=>?_)
 .have N:=f;refine go 8<|Zr (Hs 72 3 Ei qGp) ?_;exact Na r (.slice none 0 0,[]) results177 (by rw [Yco N]) (Ycm O).symm (Oz 72 Za)
 .have N:=f;refine go 16<|Zl (Nn 74 3 178 Ei)<|Zl (Ye qGp 76) ?_;have P:=Zni l m h i;have Z:c.1.2.length=(Nw pa pb pa).length:=by rw [<-e.1,aQ]
  have a0:c.2.2.length=(Nw pa pb pb).length:=by rw [<-e.2,aQ]
  refine lp (G:=Nat×Value×List GpT) [5,8,9,10,26] [0,1,2,3,4,5] (λq=>[(27,.int .i64 (q.1:Int)),(11,q.2.1)]) (λq=>[(74,Pt 3 178 Ei q.2.1 q.2.2),(76,Im qGp q.2.2)]) (λq=>(q.1<=c.1.2.length)/\(q.2.2.map unP=(Mu y D B pa pb).take q.1)/\(q.2.2.length=q.1)) (λq=>c.1.2.length-q.1) (0,.slice none 0 0,[]) ⟨O1,(by rw [dY];rfl),rfl⟩ K2 K2 ?_;rintro⟨k,vq,W⟩ ⟨Y,n,s⟩;dsimp only at Y n s;dsimp only;refine go 6<|Zc J (λM=>?_) (λM=>?_)
  .refine go 10 ?_;obtain⟨H,o⟩:=Zbh l h e.1 _ (Zk (d:=G0) (show k<c.1.2.length by omega));obtain⟨I,p⟩:=Zbh m i e.2 _ (Zk (d:=G0) (show k<c.2.2.length by omega));refine Zl (Ny (c.1.2.getD k G0) ((c.1.2.getD k G0).2.1) 4 51 J J Zk O7)<|Zl (Ny (c.1.2.getD k G0) ((c.1.2.getD k G0).2.2.1) 4 52 J J Zk O7)<|Zl (Ny (c.1.2.getD k G0) ((c.1.2.getD k G0).2.2.2) 4 53 J J Zk O7)<|Zl (Ny (c.2.2.getD k G0) ((c.2.2.getD k G0).2.1) 5 54 J J Zk O7)<|Zl (Ny (c.2.2.getD k G0) ((c.2.2.getD k G0).2.2.1) 5 55 J J Zk O7)<|Zl (Ny (c.2.2.getD k G0) ((c.2.2.getD k G0).2.2.2) 5 56 J J Zk O7)<|Oj [3,4,5] [24]<|Ya 0 [(0,0),(1,0),(2,0),(3,0),(4,0),(5,0),(6,0),(7,0),(8,0),(9,0),(10,0),(11,0),(12,0),(13,0),(14,0),(15,0),(16,0),(17,0),(18,0),(19,0),(20,1),(21,0),(22,1),(23,1),(24,3)]<|go 3 ?_;refine Xp J J (Eo (Yh 4 k J J J J Zp Zdq Zaa J) K3)<|Xp J J (Eo (Zlf 4 J J J Zp Zkc J Dg J) K3)<|Xp J J (Eo (Zld 4 G0 J J J Zp iA3 J) K3)<|go 2 ?_;refine Xp J J (Eo (Yh 4 k J J J J Zp Zdq Zaa J) K3)<|Xp J J (Eo (Zlf 4 J J J Zp Zkc J Dg J) K3)<|Xp J J (Eo (Zld 4 G0 J J J Zp iA3 J) K3)<|go 2 ?_;refine Xp J J (Eo (Yh 4 k J J J J Zp Zdq Zaa J) K3)<|Xp J J (Eo (Po 4 G0 J J J Zp pG) K3)<|go 2 ?_;refine Xp J J (Eo (Yh 5 k J J J J Zp Zdq Zaa J) K3)<|Xp J J (Eo (Po 5 G0 J J J Zp pG) K3)<|go 1 ?_;refine Xq (Zs 84 [51,52,53,54,55,56] (Yin (Hr H o) (Hr I p) (Zat o) (Zat p) t)) λF Q=>?_;refine Xp J J (Eo (Xv [(0,_),(1,_),(2,_)] J K6 (λa w hs=>Zq8 ((Ze J) a w hs) ((Ze J) a w hs) ((Ze J) a w hs))) K3)<|Eh J (Xm [(0,_)] 6 (enc:=Ei) [(gpY (c.1.2.getD k G0) F)] J J K2 underlying155 ti178 J J Zvb J J pGp.cells J J V.h) (λv _=>?_);refine Eh J (Ze9 74 J J J K3 (λj=>(Zbt 74 6 40 J J J J J J O3 J (Yc pGp) underlying155 ti178 J pGp J J J O8 O3 J V.h j))) λa1 _=>go 2 ?_;refine Yu<|go 6 ⟨O,?_⟩;exact Zr (Zd (q:=qGp) (z:=(gpY (c.1.2.getD k G0) F)) 76 84 76 J J J J J)<|Yv (k+1,_,W ++ [(gpY (c.1.2.getD k G0) F)]) ⟨O1,Zu4 e.1 e.2 n O O Q,by rw [aS,s];rfl⟩ O1 K2 K2
  .obtain rfl:k=c.1.2.length:=O;refine go 14<|Zr (Xj 74 J J pGp)<|Zr (Xt 74 76 78 J J J J) ?_;exact Na r (vq,W) results177 (by rw [Ycn N]) (Yci e.1 P.1 n) (Oz 78 Za)
theorem Ydc{n p o:Int}(f:∀g∈pa,Gin g)(h:∀g∈pb,Gin g)(c:Xk pa=true)(d:Xk pb=true)(t:pa.length<=5)(w:pb.length<=5)(m:znB n p o=true):Cal prog 109 #[va,vb,.agg #[.int .i64 n,.int .i64 p,.int .i64 o]] [Qh 6 Qu qG va pa,Qh 6 Qu qG vb pb] false (G:=SL) (λz=>True) (λz=> .tuple #[.agg #[.int .i64 (Zaj (Mu n p o pa pb)).1,.int .i64 (Zaj (Mu n p o pa pb)).2.1,Xw z],.bool (Zaj (Mu n p o pa pb)).2.2,.int .i64 (Gr pa pb)]) (λz=>[]):=by
 refine Zf func109 ntmps109 λP N M l=>go 2 ?_;refine Ym (Yj 3) λH _=>Ym (Yd 4) λB _=>go 9 ?_;refine cl 5 [1,2] (Yio f h c d t w m) λj a=>go 16 ?_;have F:=Yh6 f h c d a;refine lp (G:=Nat) [6,19,20] [0,1,2,3,4,5] (λk=>[(21,.int .i64 (k:Int)),(8,.int .i64 (Gr pa pb))]) (λk=>[]) (λk=>(k<=j.2.length)/\(∀i,i<k->Et (j.2.getD i Gp0).2.2=false)) (λk=>j.2.length-k) 0 ⟨O1,λi hi=>absurd hi (cN i)⟩ K2 aA ?_;rintro k ⟨I,y⟩;refine go 6<|Zc J (λr=>?_) (λr=>?_)
 .refine go 5<|Zl (Ht 5 55 (j.2.getD k Gp0) J J Zk J) ?_;have s:=cvd_at f h c d m a (k:=k) O;refine go 2 ⟨O2,?_⟩;refine dt (Po 5 Gp0 J J J Zp pGp O2)<|Ym (Yd 6) λD _=>go 7 ?_;refine cl 6 [55] (dw_neg s) λ_ _=>go 2<|Pr J (λb=>?_) (λb=>?_)
  .have e:=b;exact go 15<|xe3 l (j.2.getD k Gp0).2.1 results109 (by rw [fst_at a O y e]) aA Za
  .have e:=b;refine go 7 ⟨O,?_⟩;exact Yv (k+1) ⟨O1,λi hi=>by rcases bL.1 hi with q|q;exact y i q;subst q;exact e⟩ O1 K2 aA
 .obtain rfl:k=j.2.length:=O;exact go 15<|xe3 l (none,0,0) results109 (by rw [Ycr a y]) aA Za
theorem Ydd(pa pb:List Zj)(k m l:Int)(h:∀g∈pa,Gin g)(i:∀g∈pb,Gin g)(c:Xk pa=true)(d:Xk pb=true)(e:pa.length<=5)(f:pb.length<=5)(j:znB k m l=true):Qp prog 45 #[va,vb,.agg #[.int .i64 k,.int .i64 m,.int .i64 l]] [Qh 6 Qu qG va pa,Qh 6 Qu qG vb pb] (.tuple #[.bool (apZ k m l pa pb),.int .i64 (Gr pa pb)]):=by
 refine Zf func45 ntmps45 λs r q a=>go 2 ?_;refine Ym (Yj 3) λo _=>go 9 ?_;refine cl 3 [1,2] (Ydc h i c d e f j) λp _=>go 4<|Ym (Yd 4) λn _=>go 10<|Yn 21 J (λb=>?_) (λb=>?_)
 .refine go 9 ?_;exact Na a () results45 (by first|rw [ap_t ‹_›]|rw [ap_f ‹_›]) aA Za
 .refine go 9 ?_;exact Na a () results45 (by first|rw [ap_t ‹_›]|rw [ap_f ‹_›]) aA Za
theorem Zfk(a b k:Int)(n:-4194304<=a/\a<=4194304)(o:-4194304<=b/\b<=4194304):Cal prog 122 #[.int .i64 a,.int .i64 b,.int .i64 k] [] true (G:=SL) (λr=>True) (λr=>Xw r) (λr=>[Yg 1 Zz (Xw r) (tmL a b k)]):=by
 refine Zf func122 ntmps122 λq p f e=>?_;refine go 19 ⟨O,?_⟩;refine Yn 13 J (λi=>?_) (λi=>?_)
 .refine go 9 ?_;refine tt (Xm [(0,_)] 1 (enc:=Zz) ([a]:List Int) J J K2 Nr ti3 J J J J J pZ.cells J J f.h) λv _=>go 5 ?_;refine Zr (Xj 1 J J pZ)<|Ae (Xl 1 J Zh) (λd c=>?_);subst c;exact Xc e d results122 J aA (Oz 1 Za (aL (Yg 1 Zz (Xw d)) (tmL_0 a b k O).symm))
 .refine go 5<|Zc J (λg=>?_) (λg=>?_)
  .refine go 3 ?_;refine tt (Xm [(0,_)] 2 (enc:=Zz) ([a]:List Int) J J K2 Nr ti3 J J J J J pZ.cells J J f.h) λj _=>go 5 ?_;refine Zr (Xj 2 J J pZ)<|Ae (Xl 2 J Zh) (λd c=>?_);subst c;exact Xc e d results122 J aA (Oz 2 Za (aL (Yg 1 Zz (Xw d)) (tmL_0 a b k O).symm))
  .refine go 9<|Zc J (λh=>?_) (λh=>?_)
   .refine go 4 ?_;refine tt (Xm [(0,_),(1,_)] 3 (enc:=Zz) ([a,b-a]:List Int) J J K4 Nr ti3 J J J J J pZ.cells J J f.h) λl _=>go 5 ?_;refine Zr (Xj 3 J J pZ)<|Ae (Xl 3 J Zh) (λd c=>?_);subst c;exact Xc e d results122 J aA (Oz 3 Za (aL (Yg 1 Zz (Xw d)) (tmL_1 (a:=a) (b:=b) (k:=k) O O).symm))
   .refine go 11 ⟨O,O,O,?_⟩;refine tt (Xm [(0,_),(1,_),(2,_),(3,_),(4,_),(5,_)] 4 (enc:=Zz) ([a,0,0,10*(b-a),-15*(b-a),6*(b-a)]:List Int) J J K12 Nr ti3 J J J J J pZ.cells J J f.h) λm _=>go 4 ?_;refine Zr (Xj 4 J J pZ)<|Ae (Xl 4 J Zh) (λd c=>?_);subst c;exact Xc e d results122 J aA (Oz 4 Za (aL (Yg 1 Zz (Xw d)) (tmL_2 (a:=a) (b:=b) (k:=k) O O).symm))
theorem Es(c d e f b g fr y k:Int)(l:-4194304<=c/\c<=4194304)(m:-4194304<=d/\d<=4194304)(n:-4194304<=e/\e<=4194304)(o:-4194304<=f/\f<=4194304)(h:-4194304<=b/\b<=4194304)(p:-4194304<=g/\g<=4194304):Cal prog 58 #[.agg #[.int .i64 c,.int .i64 d,.int .i64 e],.agg #[.int .i64 f,.int .i64 b,.int .i64 g],.int .i64 fr,.int .i64 y,.int .i64 k] [] true (G:=SL×SL×SL) (λr=>True) (λr=> .agg #[.int .i64 fr,.int .i64 y,.int .i64 1,Xw r.1,Xw r.2.1,Xw r.2.2]) (λr=>[Yg 1 Zz (Xw r.1) (tmL c f k),Yg 1 Zz (Xw r.2.1) (tmL d b k),Yg 1 Zz (Xw r.2.2) (tmL e g k)]):=by refine Zf func58 ntmps58 λF D B q=>go 2 ?_;refine Ym (Yj 1) λbq _=>Ym (Yj 2) λs _=>Ym (Yd 3) λt _=>go 3<|Qj (λ_=>False) [(0,0),(1,0),(2,0),(3,0),(4,0),(5,0),(6,0),(8,0),(9,0),(10,0),(11,0),(12,0),(14,0),(15,0),(16,0),(17,0),(18,0),(7,1),(13,1),(19,1),(20,0),(21,3)]<|go 17<|Xq (Zs 4 [] (Zfk c f k l o)) λz _=>Xq (Zs 5 [] (Zfk d b k m h)) λi _=>Xq (Zs 6 [] (Zfk e g k n p)) λj _=>?_;refine Xp J J (Qv (Xv [(0,_),(1,_),(2,_),(3,_),(4,_),(5,_)] J K12 (λa w hs=>Zgk ((Ze J) a w hs) ((Ze J) a w hs) ((Ze J) a w hs) ((Qm 4 J Zh) a w hs) ((Qm 5 J Zh) a w hs) ((Qm 6 J Zh) a w hs))))<|go 4 ?_;exact Xc q (z,i,j) results58 J aA (Oz 4 (Oz 5 (Oz 6 Za)))
theorem Ap(x y:List Int):Cal Tryz.prog 128 #[v,u] [Yg 1 Zz v x,Yg 1 Zz u y] false (G:=Unit) (λ_=>True) (λ_=> .bool (decide (x=y))) (λ_=>[]):=by
 refine Zf Tryz.func128 Tryz.ntmps128 λp o n d=>?_;refine Qf (Py (i:=1) rfl Zh) (λj=>?_);refine Qf (Py (i:=2) rfl Zh) (λl=>?_);refine go 15 ?_;refine Zc rfl (λc=>?_) (λc=>?_)
 .have b:=c;refine go 7 ?_;exact Xc d () Tryz.results128 (by rw [aJ (λe=>b (by rw [e]))]) aA Za
 .have g:x.length=y.length:=O;refine go 9 ?_;refine lp (G:=Nat) [0,1] [0,1,2] (λk=>[(5,.int .i64 (k:Int))]) (λk=>[]) (λk=>(k<=x.length)/\(x.take k=y.take k)) (λk=>x.length-k) 0 ⟨O1,rfl⟩ ⟨rfl,aA⟩ aA ?_;rintro k ⟨m,h⟩;refine go 9 ?_;refine Zc rfl (λf=>?_) (λf=>?_)
  .refine go 5 ?_;refine Qj (λ_=>False) [(0,0),(1,0),(2,0),(3,0),(4,0),(5,0),(6,0),(7,0),(8,0)] ?_;refine go 2 ?_;refine Xp rfl rfl (Qv (Yh 1 k rfl rfl rfl rfl Zh Tryz.underlying25 Tryz.sizeOf3 rfl)) ?_;refine go 3 ⟨O,?_⟩;refine Xp rfl rfl (Qv (Yh 2 k rfl rfl rfl rfl Zh Tryz.underlying25 Tryz.sizeOf3 rfl)) ?_;refine go 4 ⟨O,?_⟩;refine Zc rfl (λa=>?_) (λa=>?_)
   .have b:=a;refine go 11 ?_;exact Xc d () Tryz.results128 (by rw [aJ (λe=>b (by rw [e]))]) aA Za
   .have b:=a;refine go 8 ⟨O,?_⟩;exact Yv (k+1) ⟨O1,tk_s O O h (fB.1 b)⟩ O1 ⟨rfl,aA⟩ aA
  .obtain rfl:k=x.length:=O;refine go 11 ?_;exact Xc d () Tryz.results128 (by rw [aN (tk_e g h)]) aA Za
theorem Ao(y:List Int):Cal Tryz.prog 21 #[v,u] [Yg 1 Zz v x,Yg 1 Zz u y] false (G:=Unit) (λ_=>True) (λ_=> .bool (decide (x=y))) (λ_=>[]):=by
 refine Zf Tryz.func21 Tryz.ntmps21 λp o n d=>?_;refine Qf (Py (i:=1) rfl Zh) (λj=>?_);refine Qf (Py (i:=2) rfl Zh) (λl=>?_);refine go 15 ?_;refine Zc rfl (λc=>?_) (λc=>?_)
 .have b:=c;refine go 7 ?_;exact Xc d () Tryz.results21 (by rw [aJ (λe=>b (by rw [e]))]) aA Za
 .have g:x.length=y.length:=O;refine go 9 ?_;refine lp (G:=Nat) [0,1] [0,1,2] (λk=>[(5,.int .i64 (k:Int))]) (λk=>[]) (λk=>(k<=x.length)/\(x.take k=y.take k)) (λk=>x.length-k) 0 ⟨O1,rfl⟩ ⟨rfl,aA⟩ aA ?_;rintro k ⟨m,h⟩;refine go 9 ?_;refine Zc rfl (λf=>?_) (λf=>?_)
  .refine go 5 ?_;refine Qj (λ_=>False) [(0,0),(1,0),(2,0),(3,0),(4,0),(5,0),(6,0),(7,0),(8,0)] ?_;refine go 2 ?_;refine Xp rfl rfl (Qv (Yh 1 k rfl rfl rfl rfl Zh Tryz.underlying25 Tryz.sizeOf3 rfl)) ?_;refine go 3 ⟨O,?_⟩;refine Xp rfl rfl (Qv (Yh 2 k rfl rfl rfl rfl Zh Tryz.underlying25 Tryz.sizeOf3 rfl)) ?_;refine go 4 ⟨O,?_⟩;refine Zc rfl (λa=>?_) (λa=>?_)
   .have b:=a;refine go 11 ?_;exact Xc d () Tryz.results21 (by rw [aJ (λe=>b (by rw [e]))]) aA Za
   .have b:=a;refine go 8 ⟨O,?_⟩;exact Yv (k+1) ⟨O1,tk_s O O h (fB.1 b)⟩ O1 ⟨rfl,aA⟩ aA
  .obtain rfl:k=x.length:=O;refine go 11 ?_;exact Xc d () Tryz.results21 (by rw [aN (tk_e g h)]) aA Za
theorem Zo2{fr r q f i g:Int}{s t w j k l:Value}{y z m n o:List Int}:Cal Tryz.prog 66 #[.agg #[.int .i64 fr,.int .i64 r,.int .i64 q,s,t,w],.agg #[.int .i64 f,.int .i64 i,.int .i64 g,j,k,l]] [Yg 1 Zz s x,Yg 1 Zz t y,Yg 1 Zz w z,Yg 1 Zz j m,Yg 1 Zz k n,Yg 1 Zz l o] false (G:=Unit) (λ_=>True) (λ_=> .bool (sgE ((fr,r,q),x,y,z) ((f,i,g),m,n,o))) (λ_=>[]):=by
 refine Zf Tryz.func66 Tryz.ntmps66 λH F D a=>?_;refine go 2 ?_;refine Ym (Yj 7) λB _=>?_;refine Ym (Yj 8) λp _=>?_;refine go 11 ?_;refine Yn 10 rfl (λh=>?_) (λh=>?_)
 .refine go 7 ?_;refine Yn 17 rfl (λb=>?_) (λb=>?_)
  .refine go 7 ?_;refine Yn 24 rfl (λc=>?_) (λc=>?_)
   .refine go 4 ?_;refine It 8 [1,4] (Ap x m) λ_ _=>?_;refine go 2 ?_;refine Nv 31 rfl (λd=>?_) (λd=>?_)
    .refine go 4 ?_;refine It 8 [2,5] (Ap y n) λ_ _=>?_;refine go 2 ?_;refine Nv 38 rfl (λe=>?_) (λe=>?_)
     .refine go 4 ?_;refine It 8 [3,6] (Ap z o) λ_ _=>?_;refine go 5 ?_;exact Xc a () Tryz.results66 (by unfold sgE;simp_all) aA Za
     .refine go 10 ?_;exact Xc a () Tryz.results66 (by unfold sgE;simp_all) aA Za
    .refine go 17 ?_;exact Xc a () Tryz.results66 (by unfold sgE;simp_all) aA Za
   .refine go 24 ?_;exact Xc a () Tryz.results66 (by unfold sgE;simp_all) aA Za
  .refine go 31 ?_;exact Xc a () Tryz.results66 (by unfold sgE;simp_all) aA Za
 .refine go 38 ?_;exact Xc a () Tryz.results66 (by unfold sgE;simp_all) aA Za
theorem Zo3{xs ys:List Zj}:Cal Tryz.prog 16 #[v,u] [Qh 6 Qu qG v xs,Qh 6 Qu qG u ys] false (G:=Unit) (λ_=>True) (λ_=> .bool (decide (xs.map Mb=ys.map Mb))) (λ_=>[]):=by
 refine Zf Tryz.func16 Tryz.ntmps16 λq p o d=>?_;refine Qf (Py (i:=1) rfl Zp) (λl=>?_);refine Qf (Py (i:=2) rfl Zp) (λm=>?_);refine go 15 ?_;refine Zc rfl (λc=>?_) (λc=>?_)
 .have b:=c;refine go 7 ?_;exact Xc d () Tryz.results16 (by rw [aJ (λe=>b (by rw [<-aQ (f:=Mb),e,aQ]))]) aA Za
 .have h:xs.length=ys.length:=O;refine go 9 ?_;refine lp (G:=Nat) [0,1] [0,1,2] (λk=>[(5,.int .i64 (k:Int))]) (λk=>[]) (λk=>(k<=xs.length)/\((xs.map Mb).take k=(ys.map Mb).take k)) (λk=>xs.length-k) 0 ⟨O1,rfl⟩ ⟨rfl,aA⟩ aA ?_;rintro k ⟨n,j⟩;refine go 9 ?_;refine Zc rfl (λg=>?_) (λg=>?_)
  .refine go 5 ?_;refine Zl (Ny (xs.getD k G0) ((xs.getD k G0).2.1) 1 51 rfl rfl Zk O7) ?_;refine Zl (Ny (xs.getD k G0) ((xs.getD k G0).2.2.1) 1 52 rfl rfl Zk O7) ?_;refine Zl (Ny (xs.getD k G0) ((xs.getD k G0).2.2.2) 1 53 rfl rfl Zk O7) ?_;refine Zl (Ny (ys.getD k G0) ((ys.getD k G0).2.1) 2 54 rfl rfl Zk O7) ?_;refine Zl (Ny (ys.getD k G0) ((ys.getD k G0).2.2.1) 2 55 rfl rfl Zk O7) ?_;refine Zl (Ny (ys.getD k G0) ((ys.getD k G0).2.2.2) 2 56 rfl rfl Zk O7) ?_;refine Qj (λ_=>False) [(0,0),(1,0),(2,0),(3,0),(4,0),(5,0),(6,0),(7,0),(8,1),(9,0)] ?_;refine go 2 ?_;refine Xp rfl rfl (Qv (Yh 1 k rfl rfl rfl rfl Zp Tryz.underlying36 Tryz.sizeOf116 rfl)) ?_;refine Xp rfl rfl (Qv (Po 1 G0 rfl rfl rfl Zp pG)) ?_;refine go 2 ?_;refine Xp rfl rfl (Qv (Yh 2 k rfl rfl rfl rfl Zp Tryz.underlying36 Tryz.sizeOf116 rfl)) ?_;refine Xp rfl rfl (Qv (Po 2 G0 rfl rfl rfl Zp pG)) ?_;refine Xq (Zs 2 [51,52,53,54,55,56] Zo2) λ_ _=>?_;refine go 3 ?_;refine Pr rfl (λa=>?_) (λa=>?_)
   .have b:=a;refine go 11 ?_;exact Xc d () Tryz.results16 (by rw [aJ (λe=>absurd ((Bc b).symm.trans (tku_n (k:=k) O O e)) O3)]) aA Za
   .have b:=a;refine go 8 ⟨O,?_⟩;exact Yv (k+1) ⟨O1,tku_s O O j (sgE_t (Dx b))⟩ O1 ⟨rfl,aA⟩ aA
  .obtain rfl:k=xs.length:=O;refine go 11 ?_;exact Xc d () Tryz.results16 (by rw [aN (tku_e h j)]) aA Za
theorem Gc(f fl wv:Int):Cal Tryz.prog 14 #[.agg #[.int .i64 f,.int .i64 fl,.int .i64 wv]] [] false (G:=Unit) (λ_=>True) (λ_=> .bool (Cb (f,fl,wv))) (λ_=>[]):=by
 refine Zf Tryz.func14 Tryz.ntmps14 λk j i a=>?_;refine go 2 ?_;refine Ym (Yj 1) λh _=>?_;refine go 9 ?_;refine Yn 6 rfl (λg=>?_) (λg=>?_)
 .refine go 5 ?_;refine Yn 11 rfl (λb=>?_) (λb=>?_)
  .refine go 5 ?_;refine Yn 16 rfl (λc=>?_) (λc=>?_)
   .refine go 5 ?_;refine Yn 21 rfl (λd=>?_) (λd=>?_)
    .refine go 5 ?_;refine Yn 26 rfl (λe=>?_) (λe=>?_)
     .refine go 8 ?_;exact Xc a () Tryz.results14 (by unfold Cb;first|(simp_all;done)|(simp_all;omega)) aA Za
     .refine go 8 ?_;exact Xc a () Tryz.results14 (by unfold Cb;first|(simp_all;done)|(simp_all;omega)) aA Za
    .refine go 13 ?_;exact Xc a () Tryz.results14 (by unfold Cb;first|(simp_all;done)|(simp_all;omega)) aA Za
   .refine go 18 ?_;exact Xc a () Tryz.results14 (by unfold Cb;first|(simp_all;done)|(simp_all;omega)) aA Za
  .refine go 23 ?_;exact Xc a () Tryz.results14 (by unfold Cb;first|(simp_all;done)|(simp_all;omega)) aA Za
 .refine go 28 ?_;exact Xc a () Tryz.results14 (by unfold Cb;first|(simp_all;done)|(simp_all;omega)) aA Za
theorem Zax(t:Int):Cal Tryz.prog 65 #[.int .i64 t] [] false (G:=Unit) (λ_=>True) (λ_=> .bool (decide (0<=t/\t<=3600000))) (λ_=>[]):=by
 refine Zf Tryz.func65 Tryz.ntmps65 λe d c a=>?_;refine go 10 ?_;refine Yn 5 rfl (λb=>?_) (λb=>?_)
 .refine go 7 ?_;exact Xc a () Tryz.results65 (by first|(simp_all;done)|(simp_all;omega)) aA Za
 .refine go 7 ?_;exact Xc a () Tryz.results65 (by first|(simp_all;done)|(simp_all;omega)) aA Za
theorem Gy(e fl wv:Int):Cal Tryz.prog 15 #[.agg #[.int .i64 e,.int .i64 fl,.int .i64 wv]] [] false (G:=Unit) (λ_=>True) (λ_=> .bool (Cb (e,fl,wv))) (λ_=>[]):=by
 refine Zf Tryz.func15 Tryz.ntmps15 λj i h a=>?_;refine go 2 ?_;refine Ym (Yj 1) λg _=>?_;refine go 7 ?_;refine cl 1 [] (Zax _) λ_ _=>?_;refine go 1 ?_;refine Nv 6 rfl (λf=>?_) (λf=>?_)
 .refine go 5 ?_;refine Yn 11 rfl (λb=>?_) (λb=>?_)
  .refine go 2 ?_;refine It 1 [] (Zax _) λ_ _=>?_;refine go 2 ?_;refine Nv 16 rfl (λc=>?_) (λc=>?_)
   .refine go 5 ?_;refine Yn 21 rfl (λd=>?_) (λd=>?_)
    .refine go 8 ?_;exact Xc a () Tryz.results15 (by unfold Cb;first|(simp_all;done)|(simp_all;omega)) aA Za
    .refine go 8 ?_;exact Xc a () Tryz.results15 (by unfold Cb;first|(simp_all;done)|(simp_all;omega)) aA Za
   .refine go 13 ?_;exact Xc a () Tryz.results15 (by unfold Cb;first|(simp_all;done)|(simp_all;omega)) aA Za
  .refine go 18 ?_;exact Xc a () Tryz.results15 (by unfold Cb;first|(simp_all;done)|(simp_all;omega)) aA Za
 .refine go 23 ?_;exact Xc a () Tryz.results15 (by unfold Cb;first|(simp_all;done)|(simp_all;omega)) aA Za
theorem Zxp(a:Pf):Cal Tryz.prog 124 #[Ll a] [] false (G:=Unit) (λ_=>True) (λ_=> .bool (!Bd a)) (λ_=>[]):=by refine Zf Tryz.func124 Tryz.ntmps124 λe d c b=>?_;refine go 2 ?_;refine Ym (Yj 1) λbq _=>?_;refine go 6 ?_;refine cl 1 [] (Zyx a.1 a.2.1 a.2.2) λ_ _=>?_;refine go 5 ?_;exact Xc b () Tryz.results124 rfl aA Za
theorem ix_pts(l:List Pf):Cal Tryz.prog 168 #[v,.func (.func 124) #[] #[]] [Yg 3 Ll v l] false (G:=Int) (λr=>decide (r>=0)=!l.all Bd) (λr=> .int .i64 r) (λr=>[]):=by
 refine Zf Tryz.func168 Tryz.ntmps168 λo n m d=>?_;refine Qf (Py (i:=1) rfl Zh) (λf=>?_);refine go 14 ?_;refine lp (G:=Nat) [0,1,7] [0,1] (λi=>[(8,.int .i64 (i:Int))]) (λi=>[]) (λi=>(i<=l.length)/\(∀j,j<i->Bd (l.getD j Fr)=true)) (λi=>l.length-i) 0 ⟨O1,λj h=>absurd h (cN j)⟩ ⟨rfl,aA⟩ aA ?_;rintro i ⟨hi,g⟩;refine go 6 ?_;refine Zc rfl (λc=>?_) (λc=>?_)
 .refine go 15 ?_;refine dt (Yh 1 i rfl rfl rfl rfl Zh Tryz.underlying22 Tryz.sizeOf61 rfl) ?_;refine dt (Po 1 Fr rfl rfl rfl Zh pPt) ?_;refine tt (Cf 1 [] [_] [] (Zxp (l.getD i Fr)) rfl rfl rfl rfl ⟨rfl,aA⟩ Tryz.call124 Zu rfl m.h) (λ_ _=>?_);refine go 2 ?_;refine Pr rfl (λa=>?_) (λa=>?_)
  .have b:=a;refine go 12 ?_;exact Xc d (i:Int) Tryz.results168 rfl (by rw [al_f O (Bc b)];exact aN (jO i)) Za
  .have b:=a;refine go 7 ⟨O,?_⟩;exact Yv (i+1) ⟨O1,λj k=>by rcases bL.1 k with e|e;exact g j e;subst e;exact Dx b⟩ O1 ⟨rfl,aA⟩ aA
 .obtain rfl:i=l.length:=O;refine go 11 ?_;exact Xc d (-1) Tryz.results168 rfl (by rw [al_t g];rfl) Za
theorem Zjl(l:List Pf):Cal Tryz.prog 104 #[v,.func (.func 124) #[] #[]] [Yg 3 Ll v l] false (G:=Unit) (λ_=>True) (λ_=> .bool (!l.all Bd)) (λ_=>[]):=by refine Zf Tryz.func104 Tryz.ntmps104 λf e c b=>?_;refine go 9 ?_;refine cl 1 [1] (ix_pts l) λd a=>?_;refine go 5 ?_;exact Xc b () Tryz.results104 (by rw [a]) aA Za
theorem Zpp(a b:List Pf)(e fl wv t:Int):Cal Tryz.prog 61 #[v,u,.agg #[.int .i64 e,.int .i64 fl,.int .i64 wv],.int .i64 t,.bool bad] [Yg 3 Ll v a,Yg 3 Ll u b] false (G:=Unit) (λ_=>True) (λ_=> .int .i64 (lkE a b (e,fl,wv) t bad)) (λ_=>[]):=by
 refine Zf Tryz.func61 Tryz.ntmps61 λD B z f=>?_;refine Qf (Py (i:=1) rfl Zh) (λr=>?_);refine Qf (Py (i:=2) rfl Zh) (λs=>?_);refine go 2 ?_;refine Ym (Yj 3) λy _=>?_;refine go 11 ?_;rcases Ybw a b (e,fl,wv) t bad with c|⟨c,d⟩|⟨c,d,g⟩|⟨c,d,g,h⟩|⟨c,d,g,h,j⟩|⟨c,d,g,h,j,k⟩|⟨c,d,g,h,j,k,l⟩|⟨c,d,g,h,j,k,l,m⟩|⟨c,d,g,h,j,k,l,m⟩
 .refine go 2 ?_;refine kt c ?_;refine go 46 ?_;exact Xc f () Tryz.results61 (by rw [Fw (Ybv c)]) aA Za
 .refine go 2 ?_;refine kf c ?_;refine go 1 ?_;refine It 3 [] (Gc e fl wv) λ_ _=>?_;refine Bb (Zy ( .bool true) (Xi rfl rfl) (aL (λb=>Value.bool (!b)) d)) rfl rfl ?_;refine go 43 ?_;exact Xc f () Tryz.results61 (by rw [Fw (lk_f1 c d)]) aA Za
 .refine go 2 ?_;refine kf c ?_;refine go 1 ?_;refine It 3 [] (Gc e fl wv) λ_ _=>?_;refine Bb (Zy ( .bool false) (Xi rfl rfl) (aL (λb=>Value.bool (!b)) d)) rfl rfl ?_;refine go 4 ?_;refine ktg (aN g) ?_;refine go 38 ?_;exact Xc f () Tryz.results61 (by rw [Fw (lk_f2 c d g)]) aA Za
 .refine go 2 ?_;refine kf c ?_;refine go 1 ?_;refine It 3 [] (Gc e fl wv) λ_ _=>?_;refine Bb (Zy ( .bool false) (Xi rfl rfl) (aL (λb=>Value.bool (!b)) d)) rfl rfl ?_;refine go 4 ?_;refine kfg (aJ g) ?_;refine go 6 ?_;refine ktg (aN h) ?_;refine go 31 ?_;exact Xc f () Tryz.results61 (by rw [Fw (lk_f3 c d g h)]) aA Za
 .refine go 2 ?_;refine kf c ?_;refine go 1 ?_;refine It 3 [] (Gc e fl wv) λ_ _=>?_;refine Bb (Zy ( .bool false) (Xi rfl rfl) (aL (λb=>Value.bool (!b)) d)) rfl rfl ?_;refine go 4 ?_;refine kfg (aJ g) ?_;refine go 6 ?_;refine kfg (aJ h) ?_;refine go 3 ?_;refine ktg (aN j) ?_;refine go 27 ?_;exact Xc f () Tryz.results61 (by rw [Fw (lk_f4 c d g h j)]) aA Za
 .refine go 2 ?_;refine kf c ?_;refine go 1 ?_;refine It 3 [] (Gc e fl wv) λ_ _=>?_;refine Bb (Zy ( .bool false) (Xi rfl rfl) (aL (λb=>Value.bool (!b)) d)) rfl rfl ?_;refine go 4 ?_;refine kfg (aJ g) ?_;refine go 6 ?_;refine kfg (aJ h) ?_;refine go 3 ?_;refine kfg (aJ j) ?_;refine go 3 ?_;refine ktg (aN k) ?_;refine go 23 ?_;exact Xc f () Tryz.results61 (by rw [Fw (lk_f5 c d g h j k)]) aA Za
 .refine go 2 ?_;refine kf c ?_;refine go 1 ?_;refine It 3 [] (Gc e fl wv) λ_ _=>?_;refine Bb (Zy ( .bool false) (Xi rfl rfl) (aL (λb=>Value.bool (!b)) d)) rfl rfl ?_;refine go 4 ?_;refine kfg (aJ g) ?_;refine go 6 ?_;refine kfg (aJ h) ?_;refine go 3 ?_;refine kfg (aJ j) ?_;refine go 3 ?_;refine kfg (aJ k) ?_;refine go 4 ?_;refine It 3 [1] (Zjl a) λ_ _=>?_;refine dt (Zy ( .bool true) (Zca rfl rfl rfl) (aL (λb=>Value.bool (!b)) l)) ?_;refine go 17 ?_;exact Xc f () Tryz.results61 (by rw [Fw (lk_f6 c d g h j k l)]) aA Za
 .refine go 2 ?_;refine kf c ?_;refine go 1 ?_;refine It 3 [] (Gc e fl wv) λ_ _=>?_;refine Bb (Zy ( .bool false) (Xi rfl rfl) (aL (λb=>Value.bool (!b)) d)) rfl rfl ?_;refine go 4 ?_;refine kfg (aJ g) ?_;refine go 6 ?_;refine kfg (aJ h) ?_;refine go 3 ?_;refine kfg (aJ j) ?_;refine go 3 ?_;refine kfg (aJ k) ?_;refine go 4 ?_;refine It 3 [1] (Zjl a) λ_ _=>?_;refine dt (Zy ( .bool false) (Zca rfl rfl rfl) (aL (λb=>Value.bool (!b)) l)) ?_;refine go 3 ?_;refine It 3 [2] (Zjl b) λ_ _=>?_;refine dt (Zy ( .bool true) (Zca rfl rfl rfl) (aL (λb=>Value.bool (!b)) m)) ?_;refine go 12 ?_;exact Xc f () Tryz.results61 (by rw [Fw (lk_f7 c d g h j k l m)]) aA Za
 .refine go 2 ?_;refine kf c ?_;refine go 1 ?_;refine It 3 [] (Gc e fl wv) λ_ _=>?_;refine Bb (Zy ( .bool false) (Xi rfl rfl) (aL (λb=>Value.bool (!b)) d)) rfl rfl ?_;refine go 4 ?_;refine kfg (aJ g) ?_;refine go 6 ?_;refine kfg (aJ h) ?_;refine go 3 ?_;refine kfg (aJ j) ?_;refine go 3 ?_;refine kfg (aJ k) ?_;refine go 4 ?_;refine It 3 [1] (Zjl a) λ_ _=>?_;refine dt (Zy ( .bool false) (Zca rfl rfl rfl) (aL (λb=>Value.bool (!b)) l)) ?_;refine go 3 ?_;refine It 3 [2] (Zjl b) λ_ _=>?_;refine dt (Zy ( .bool false) (Zca rfl rfl rfl) (aL (λb=>Value.bool (!b)) m)) ?_;refine go 12 ?_;refine Zc rfl (λp=>?_) (λp=>?_)
  .refine go 8 ?_;exact Xc f () Tryz.results61 (by rw [lkE_7 (Zut c d g h j k l m) O]) aA Za
  .refine go 1 ?_;have o:=Yfi d;dsimp only at o;have w:=Zxm o.1 o.2.1 (n:=wv-1) O O;refine go 16 ⟨O,O,O,O,?_⟩;refine Zc rfl (λq=>?_) (λq=>?_)
   .refine go 8 ?_;exact Xc f () Tryz.results61 (by rw [lkE_3 (Zut c d g h j k l m) O (by unfold lnd;omega)]) aA Za
   .refine go 9 ?_;exact Xc f () Tryz.results61 (by rw [Ybx (Zut c d g h j k l m) O (by unfold lnd;omega)]) aA Za
theorem Zia{x:Int}:Qp prog 93 #[.int .i64 x] [] (.bool (decide (-1048576<=x/\x<=1048576))):=by
 refine Zf func93 ntmps93 λe d c a=>go 10 ?_;refine Yn 5 J (λb=>?_) (λb=>?_)
 .refine go 7 ?_;exact Xc a () results93 (by first|(simp_all;done)|(simp_all;omega)) aA Za
 .refine go 7 ?_;exact Xc a () results93 (by first|(simp_all;done)|(simp_all;omega)) aA Za
theorem Zks{x y z:Int}:Qp prog 33 #[.agg #[.int .i64 x,.int .i64 y,.int .i64 z]] [] (.bool (ptB x y z)):=by
 refine Zf func33 ntmps33 λg f e a=>go 2 ?_;refine Ym (Yj 1) λd _=>go 7 ?_;refine cl 1 [] Zia λ_ _=>go 1<|Nv 6 J (λc=>?_) (λc=>?_)
 .refine go 2 ?_;refine It 1 [] Zia λ_ _=>go 2<|Nv 11 J (λb=>?_) (λb=>?_)
  .refine go 2 ?_;refine It 1 [] Zia λ_ _=>go 5 ?_;exact Xc a () results33 (by rw [Zl9];first|(simp_all;done)|(simp_all;intros;omega)) aA Za
  .refine go 8 ?_;exact Xc a () results33 (by rw [Zl9];first|(simp_all;done)|(simp_all;intros;omega)) aA Za
 .refine go 13 ?_;exact Xc a () results33 (by rw [Zl9];first|(simp_all;done)|(simp_all;intros;omega)) aA Za
theorem Zxq(n:Int)(d:Nat)(c fl wv:Int):Cal Tryz.prog 60 #[.int .i64 n,.pointer (some ⟨d,0,none⟩)] [Ke d 24 #[.int .i64 c,.int .i64 fl,.int .i64 wv]] false (G:=Unit) (λ_=>True) (λ_=> .bool (nbB wv n)) (λ_=>[]):=by
 refine Zf Tryz.func60 Tryz.ntmps60 λg f e a=>?_;refine go 10 ?_;refine Yn 6 rfl (λb=>?_) (λb=>?_)
 .refine go 9 ?_;exact Xc a () Tryz.results60 (by unfold nbB;first|(simp_all;done)|(simp_all;omega)) aA Za
 .refine go 9 ?_;exact Xc a () Tryz.results60 (by unfold nbB;first|(simp_all;done)|(simp_all;omega)) aA Za
theorem ix_nb(l:List Int)(f:Nat)(c fl wv:Int):Cal Tryz.prog 123 #[v,.func (.func 60) #[] #[.pointer (some ⟨f,0,none⟩)]] [Yg 1 Zz v l,Ke f 24 #[.int .i64 c,.int .i64 fl,.int .i64 wv]] false (G:=Int) (λr=>decide (r>=0)=l.any (nbB wv)) (λr=> .int .i64 r) (λr=>[]):=by
 refine Zf Tryz.func123 Tryz.ntmps123 λq p o e=>?_;refine Qf (Py (i:=1) rfl Zh) (λk=>?_);refine go 14 ?_;refine lp (G:=Nat) [0,1,7] [0,1,2] (λi=>[(8,.int .i64 (i:Int))]) (λi=>[]) (λi=>(i<=l.length)/\(∀j,j<i->nbB wv (l.getD j 0)=false)) (λi=>l.length-i) 0 ⟨O1,λj h=>absurd h (cN j)⟩ ⟨rfl,aA⟩ aA ?_;rintro i ⟨hi,m⟩;refine go 6 ?_;refine Zc rfl (λd=>?_) (λd=>?_)
 .refine go 15 ?_;refine dt (Yh 1 i rfl rfl rfl rfl Zh Tryz.underlying25 Tryz.sizeOf3 rfl) ?_;refine go 1 ⟨O,?_⟩;refine tt (Cf 2 [] [_] [_] (Zxq (l.getD i 0) f c fl wv) rfl rfl rfl rfl ⟨rfl,aA⟩ Tryz.call60 (Zx 2 rfl rfl rfl Zu) rfl o.h) (λ_ _=>?_);refine go 2 ?_;refine Pr rfl (λa=>?_) (λa=>?_)
  .have b:=a;refine go 12 ?_;exact Xc e (i:Int) Tryz.results123 rfl (by rw [an_t O b];exact aN (jO i)) Za
  .have b:=lS.1 a;refine go 7 ⟨O,?_⟩;exact Yv (i+1) ⟨O1,λj n=>by rcases bL.1 n with g|g;exact m j g;subst g;exact eq_false_of_ne_true b⟩ O1 ⟨rfl,aA⟩ aA
 .obtain rfl:i=l.length:=O;refine go 11 ?_;exact Xc e (-1) Tryz.results123 rfl (by rw [an_f m];rfl) Za
theorem cf_nb(l:List Int){b:Nat}(a fl wv:Int):Cal Tryz.prog 59 #[v,.func (.func 60) #[] #[.pointer (some ⟨b,0,none⟩)]] [Yg 1 Zz v l,Ke b 24 #[.int .i64 a,.int .i64 fl,.int .i64 wv]] false (G:=Unit) (λ_=>True) (λ_=> .bool (l.any (nbB wv))) (λ_=>[]):=by refine Zf Tryz.func59 Tryz.ntmps59 λh g e d=>?_;refine go 9 ?_;refine cl 2 [1,2] (ix_nb l b a fl wv) λf c=>?_;refine go 5 ?_;exact Xc d () Tryz.results59 (by rw [c]) aA Za
theorem Yhk(p d:Pf)(b fl wv t n:Int)(P:Bd p=true)(M:Bd d=true)(m:Cb (b,fl,wv)=true)(ht:0<=t)(N:lnd (b,fl,wv) t<=3600000)(V:0<=n/\n<wv):Cal Tryz.prog 62 #[Ll p,Ll d,.agg #[.int .i64 b,.int .i64 fl,.int .i64 wv],.int .i64 t,.int .i64 n] [] true (G:=SL×List Zj) (λr=>r.2.map Mb=lpP p d (b,fl,wv) t n) (λr=>Xw r.1) (λr=>[Qh 6 Qu qG (Xw r.1) r.2]):=by
 refine Zf Tryz.func62 Tryz.ntmps62 λw0 sc c k=>?_;have e:=Yfi m;unfold lnd at N;dsimp only at e N;have Q:=Zxm e.1 e.2.1 (n:=n) V.1 O;have R:=Zxm e.1 e.2.1 (n:=wv-1) O O;have S:=mg_le e.1 (show n<=wv-1 by omega);refine go 2 ?_;refine Ym (Yj 1) λbx _=>?_;refine Ym (Yj 2) λy _=>?_;refine Ym (Yj 3) λz _=>?_;refine go 4 ?_;refine Qj (λ_=>False) [(0,0),(1,0),(2,0),(3,0),(4,0),(5,0),(6,0),(7,0),(8,0),(9,0),(10,0),(11,0),(12,0),(13,0),(14,0),(15,0),(16,0),(17,0),(18,3)] ?_;refine go 33 ⟨O,O,O,O,O,O,?_⟩;refine dt (Xv [(0,_),(1,_),(2,_),(3,_),(4,_)] rfl ⟨rfl,rfl,rfl,rfl,rfl,rfl,rfl,rfl,rfl,rfl,aA⟩ (λa w hs=>Zdh ((Ze rfl) a w hs) ((Ze rfl) a w hs) ((Ze rfl) a w hs))) ?_;refine go 7 ⟨O,?_⟩;refine dt (Xv [(0,_),(1,_),(2,_),(3,_),(4,_)] rfl ⟨rfl,rfl,rfl,rfl,rfl,rfl,rfl,rfl,rfl,rfl,aA⟩ (λa w hs=>Zdh ((Ze rfl) a w hs) ((Ze rfl) a w hs) ((Ze rfl) a w hs))) ?_;refine go 7 ⟨O,?_⟩;refine dt (Xv [(0,_),(1,_),(2,_),(3,_),(4,_)] rfl ⟨rfl,rfl,rfl,rfl,rfl,rfl,rfl,rfl,rfl,rfl,aA⟩ (λa w hs=>Zdh ((Ze rfl) a w hs) ((Ze rfl) a w hs) ((Ze rfl) a w hs))) ?_;refine dt (Xv [(0,_),(1,_),(2,_)] rfl ⟨rfl,rfl,rfl,rfl,rfl,rfl,aA⟩ (λa w hs=>Yet)) ?_;refine go 4 ?_;refine Zl (Nn 70 6 116 Qu) ?_;refine Zl (Ye qG 71) ?_;refine lp (G:=Nat×Value×List Zj) [56] [0,1,2,3] (λq=>[(57,.int .i64 (q.1:Int)),(13,q.2.1)]) (λq=>[(70,Pt 6 116 Qu q.2.1 q.2.2),(71,Im qG q.2.2)]) (λq=>(q.1<=3)/\(q.2.2.map Mb=lpT p d (b,fl,wv) t n q.1)/\(q.2.2.length<=q.1)) (λq=>3-q.1) (0,_,[]) ⟨O1,rfl,aK _⟩ ⟨rfl,rfl,aA⟩ ⟨rfl,rfl,aA⟩ ?_;rintro⟨i,vp,xs⟩ ⟨hi,g,j⟩;dsimp only at hi g j;dsimp only;refine go 6 ?_;refine Zc rfl (λh=>?_) (λh=>?_)
 .refine go 5 ?_;rcases lp5 (show i<3 by omega) (t<t+n*b) (t+n*b+fl<t+(wv-1)*b+fl)with⟨rfl,f⟩|⟨rfl,f⟩|rfl|⟨rfl,f⟩|⟨rfl,f⟩
  .refine go 1 ?_;refine dt (Zy ( .agg #[.func (.func 125) #[] #[],.int .i64 p.1,.int .i64 p.2.1,.int .i64 p.2.2,.int .i64 p.1,.int .i64 p.2.1,.int .i64 p.2.2,.int .i64 t,.int .i64 (t+n*b)]) (Zqr rfl rfl rfl Tryz.underlying197 Tryz.sizeOf196 Tryz.isAgg196 rfl O3) rfl) ?_;refine Ym (Yd 4) λB _=>?_;refine tt (Zkd 4 rfl rfl rfl rfl rfl rfl Tryz.sizeOf196 rfl rfl ⟨Ze rfl,Ze rfl,Ze rfl,Ze rfl,Ze rfl,Ze rfl,Ze rfl,Ze rfl,Ze rfl,aA⟩ rfl c.h aA) (λ_ _=>?_);refine go 14 ?_;refine tt (Cf 5 [] [_,_,_,_] [] (Zu5 p.1 p.2.1 p.2.2 p.1 p.2.1 p.2.2 t (t+n*b) (glv_h P O f O)) rfl rfl rfl rfl ⟨rfl,rfl,rfl,rfl,aA⟩ Tryz.call125 Zu rfl c.h) (λ⟨v,q⟩ _=>?_);refine go 10 ?_;refine tt (Lc 70 5 96 rfl rfl rfl rfl rfl rfl O3 rfl Zp Tryz.underlying36 Tryz.ti116 rfl pG rfl rfl rfl O9 O3 rfl c.h) (λY _=>?_);refine Zo (Ha 5 73 rfl rfl) ?_;refine Zo (Iz 71 73 71 rfl rfl rfl rfl) ?_;refine go 8 ⟨O,?_⟩;exact Yv (1,_,xs ++ [glG p.1 p.2.1 p.2.2 p.1 p.2.1 p.2.2 t (t+n*b) 1 q]) ⟨O1,lpT_0 g f,(by rw [aS];simp only [cD,eH];omega)⟩ O1 ⟨rfl,rfl,aA⟩ ⟨rfl,rfl,aA⟩
  .refine go 1 ?_;refine dt (Zy ( .agg #[.func (.func 125) #[] #[],.int .i64 p.1,.int .i64 p.2.1,.int .i64 p.2.2,.int .i64 p.1,.int .i64 p.2.1,.int .i64 p.2.2,.int .i64 t,.int .i64 (t+n*b)]) (Zqr rfl rfl rfl Tryz.underlying197 Tryz.sizeOf196 Tryz.isAgg196 rfl O3) rfl) ?_;refine Ym (Yd 6) λD _=>?_;refine tt (Zkd 6 rfl rfl rfl rfl rfl rfl Tryz.sizeOf196 rfl rfl ⟨Ze rfl,Ze rfl,Ze rfl,Ze rfl,Ze rfl,Ze rfl,Ze rfl,Ze rfl,Ze rfl,aA⟩ rfl c.h aA) (λ_ _=>?_);refine go 14 ?_;refine tt (Cf 6 [] [_,_,_,_] [] (Zgd p.1 p.2.1 p.2.2 p.1 p.2.1 p.2.2 t (t+n*b) (Zi0 O)) rfl rfl rfl rfl ⟨rfl,rfl,rfl,rfl,aA⟩ Tryz.call125 Zu rfl c.h) (λ_ _=>?_);refine Zo (Hs 75 6 Qu qG) ?_;refine go 10 ?_;refine tt (Lc 70 75 96 rfl rfl rfl rfl rfl rfl O3 rfl Zp Tryz.underlying36 Tryz.ti116 rfl pG rfl rfl rfl O9 O3 rfl c.h) (λZ _=>?_);refine Zo (Ha 75 73 rfl rfl) ?_;refine Zo (Iz 71 73 71 rfl rfl rfl rfl) ?_;refine go 8 ⟨O,?_⟩;exact Yv (1,_,xs ++ []) ⟨O1,lpT_1 g f,(by rw [aS];simp only [cD,eH];omega)⟩ O1 ⟨rfl,rfl,aA⟩ ⟨rfl,rfl,aA⟩
  .refine go 1 ?_;refine dt (Zy ( .agg #[.func (.func 126) #[] #[],.int .i64 p.1,.int .i64 p.2.1,.int .i64 p.2.2,.int .i64 d.1,.int .i64 d.2.1,.int .i64 d.2.2,.int .i64 (t+n*b),.int .i64 (t+n*b+fl)]) (Zqr rfl rfl rfl Tryz.underlying197 Tryz.sizeOf196 Tryz.isAgg196 rfl O3) rfl) ?_;refine Ym (Yd 7) λF _=>?_;refine tt (Zkd 7 rfl rfl rfl rfl rfl rfl Tryz.sizeOf196 rfl rfl ⟨Ze rfl,Ze rfl,Ze rfl,Ze rfl,Ze rfl,Ze rfl,Ze rfl,Ze rfl,Ze rfl,aA⟩ rfl c.h aA) (λ_ _=>?_);refine go 14 ?_;refine tt (Cf 8 [] [_,_,_,_] [] (Ycj p.1 p.2.1 p.2.2 d.1 d.2.1 d.2.2 (t+n*b) (t+n*b+fl) (glv_g P M O O O)) rfl rfl rfl rfl ⟨rfl,rfl,rfl,rfl,aA⟩ Tryz.call126 Zu rfl c.h) (λ⟨a0,o⟩ _=>?_);refine go 10 ?_;refine tt (Lc 70 8 96 rfl rfl rfl rfl rfl rfl O3 rfl Zp Tryz.underlying36 Tryz.ti116 rfl pG rfl rfl rfl O9 O3 rfl c.h) (λa1 _=>?_);refine Zo (Ha 8 73 rfl rfl) ?_;refine Zo (Iz 71 73 71 rfl rfl rfl rfl) ?_;refine go 8 ⟨O,?_⟩;exact Yv (2,_,xs ++ [glG p.1 p.2.1 p.2.2 d.1 d.2.1 d.2.2 (t+n*b) (t+n*b+fl) 2 o]) ⟨O1,lpT_2 g,(by rw [aS];simp only [cD,eH];omega)⟩ O1 ⟨rfl,rfl,aA⟩ ⟨rfl,rfl,aA⟩
  .refine go 1 ?_;refine dt (Zy ( .agg #[.func (.func 125) #[] #[],.int .i64 d.1,.int .i64 d.2.1,.int .i64 d.2.2,.int .i64 d.1,.int .i64 d.2.1,.int .i64 d.2.2,.int .i64 (t+n*b+fl),.int .i64 (t+(wv-1)*b+fl)]) (Zqr rfl rfl rfl Tryz.underlying197 Tryz.sizeOf196 Tryz.isAgg196 rfl O3) rfl) ?_;refine Ym (Yd 9) λH _=>?_;refine tt (Zkd 9 rfl rfl rfl rfl rfl rfl Tryz.sizeOf196 rfl rfl ⟨Ze rfl,Ze rfl,Ze rfl,Ze rfl,Ze rfl,Ze rfl,Ze rfl,Ze rfl,Ze rfl,aA⟩ rfl c.h aA) (λ_ _=>?_);refine go 14 ?_;refine tt (Cf 10 [] [_,_,_,_] [] (Zu5 d.1 d.2.1 d.2.2 d.1 d.2.1 d.2.2 (t+n*b+fl) (t+(wv-1)*b+fl) (glv_h M O f O)) rfl rfl rfl rfl ⟨rfl,rfl,rfl,rfl,aA⟩ Tryz.call125 Zu rfl c.h) (λ⟨a2,s⟩ _=>?_);refine go 10 ?_;refine tt (Lc 70 10 96 rfl rfl rfl rfl rfl rfl O3 rfl Zp Tryz.underlying36 Tryz.ti116 rfl pG rfl rfl rfl O9 O3 rfl c.h) (λa3 _=>?_);refine Zo (Ha 10 73 rfl rfl) ?_;refine Zo (Iz 71 73 71 rfl rfl rfl rfl) ?_;refine go 8 ⟨O,?_⟩;exact Yv (3,_,xs ++ [glG d.1 d.2.1 d.2.2 d.1 d.2.1 d.2.2 (t+n*b+fl) (t+(wv-1)*b+fl) 1 s]) ⟨O1,lpT_3 g f,(by rw [aS];simp only [cD,eH];omega)⟩ O1 ⟨rfl,rfl,aA⟩ ⟨rfl,rfl,aA⟩
  .refine go 1 ?_;refine dt (Zy ( .agg #[.func (.func 125) #[] #[],.int .i64 d.1,.int .i64 d.2.1,.int .i64 d.2.2,.int .i64 d.1,.int .i64 d.2.1,.int .i64 d.2.2,.int .i64 (t+n*b+fl),.int .i64 (t+(wv-1)*b+fl)]) (Zqr rfl rfl rfl Tryz.underlying197 Tryz.sizeOf196 Tryz.isAgg196 rfl O3) rfl) ?_;refine Ym (Yd 11) λI _=>?_;refine tt (Zkd 11 rfl rfl rfl rfl rfl rfl Tryz.sizeOf196 rfl rfl ⟨Ze rfl,Ze rfl,Ze rfl,Ze rfl,Ze rfl,Ze rfl,Ze rfl,Ze rfl,Ze rfl,aA⟩ rfl c.h aA) (λ_ _=>?_);refine go 14 ?_;refine tt (Cf 11 [] [_,_,_,_] [] (Zgd d.1 d.2.1 d.2.2 d.1 d.2.1 d.2.2 (t+n*b+fl) (t+(wv-1)*b+fl) (Zi0 O)) rfl rfl rfl rfl ⟨rfl,rfl,rfl,rfl,aA⟩ Tryz.call125 Zu rfl c.h) (λ_ _=>?_);refine Zo (Hs 75 6 Qu qG) ?_;refine go 10 ?_;refine tt (Lc 70 75 96 rfl rfl rfl rfl rfl rfl O3 rfl Zp Tryz.underlying36 Tryz.ti116 rfl pG rfl rfl rfl O9 O3 rfl c.h) (λa4 _=>?_);refine Zo (Ha 75 73 rfl rfl) ?_;refine Zo (Iz 71 73 71 rfl rfl rfl rfl) ?_;refine go 8 ⟨O,?_⟩;exact Yv (3,_,xs ++ []) ⟨O1,lpT_4 g f,(by rw [aS];simp only [cD,eH];omega)⟩ O1 ⟨rfl,rfl,aA⟩ ⟨rfl,rfl,aA⟩
 .refine go 12 ?_;obtain rfl:i=3:=O;refine Ae (Xl 70 rfl (Yc pG)) (λW l=>?_);subst l;refine Zr (Xj 70 rfl rfl pG) ?_;refine Zr (Xt 70 71 72 rfl rfl rfl rfl) ?_;exact Xc k (W,xs) Tryz.results62 rfl g (Oz 72 Za)
theorem Zpq{q:Value}(a b:List Pf)(k:List Int)(d fl wv t:Int):Cal Tryz.prog 12 #[v,u,.agg #[.int .i64 d,.int .i64 fl,.int .i64 wv],.int .i64 t,q] [Yg 3 Ll v a,Yg 3 Ll u b,Yg 1 Zz q k] true (G:=Value×List PT) (λr=>Zao r.2=lPr a b (d,fl,wv) t k) (λr=> .tuple #[r.1,.int .i64 (lkE a b (d,fl,wv) t (pbB a k wv))]) (λr=>[Qh 1 Eb qP r.1 r.2]):=by
 refine Zf Tryz.func12 Tryz.ntmps12 λw0 sc I j=>?_;refine Qf (Py (i:=1) rfl Zh) (λS=>?_);refine Qf (Py (i:=2) rfl Zh) (λV=>?_);refine Qf (Py (i:=3) rfl Zh) (λY=>?_);refine go 2 ?_;refine Ym (Yj 4) λbx _=>?_;refine go 12 ?_;refine Yn 22 rfl (λf=>?_) (λf=>?_)
 .have c:=pb_1 (wv:=wv) f;refine go 15 ?_;refine cl 4 [1,2] (Zpp a b d fl wv t) λ_ _=>?_;refine go 6 ?_;refine kt (aN (by rw [Fw (Ybv rfl)];decide)) ?_;refine go 12 ?_;refine Zr (Hs 75 1 Eb qP) ?_;exact Na j (.slice none 0 0,[]) Tryz.results12 (by rw [c]) (Yb2 (by rw [c,Fw (Ybv rfl)];decide)).symm (Oz 75 Za)
 .have c:=pb_2 (wv:=wv) f;refine go 1 ?_;refine Bb (Zvs [] [_] rfl aA ⟨rfl,aA⟩) rfl rfl ?_;refine It 4 [3,4] (cf_nb k d fl wv) λ_ _=>?_;refine go 12 ?_;refine cl 4 [1,2] (Zpp a b d fl wv t) λ_ _=>?_;refine go 9 ?_;refine Zc rfl (λe=>?_) (λe=>?_)
  .have R:=e;refine go 9 ?_;refine Zr (Hs 75 1 Eb qP) ?_;exact Na j (.slice none 0 0,[]) Tryz.results12 (by rw [c]) (Yb2 (by rw [c];exact R)).symm (Oz 75 Za)
  .have g:=fB.1 e;rw [<-c]at g;obtain⟨N,H,n⟩:=lkE_0 g;obtain⟨m,F,P,Q,D,y,B⟩:=Yby N;obtain⟨Z,w⟩:=pb_f m;refine go 16 ?_;refine Zl (Nn 70 1 36 Eb) ?_;refine Zl (Ye qP 71) ?_;refine lp (G:=Nat×Value×List PT) [0,1,3,7,36,37] [0,1,2,3,4] (λq=>[(38,.int .i64 (q.1:Int)),(14,q.2.1)]) (λq=>[(70,Pt 1 36 Eb q.2.1 q.2.2),(71,Im qP q.2.2)]) (λq=>(q.1<=a.length)/\(Zao q.2.2=lPs a b (d,fl,wv) t k q.1)) (λq=>a.length-q.1) (0,_,[]) ⟨O1,rfl⟩ ⟨rfl,rfl,aA⟩ ⟨rfl,rfl,aA⟩ ?_;rintro⟨i,vl,M⟩ ⟨hi,o⟩;dsimp only at hi o;dsimp only;have W:=Zu1 o;refine go 6 ?_;refine Zc rfl (λl=>?_) (λl=>?_)
   .refine go 7 ?_;refine dt (Yh 3 i rfl rfl rfl rfl Zh Tryz.underlying25 Tryz.sizeOf3 rfl) ?_;refine go 5 ⟨O,?_⟩;refine Oj [1,2,4] [15] ?_;refine Ya 1 [(0,0),(1,0),(2,0),(3,0),(4,0),(5,0),(6,0),(7,0),(8,0),(9,0),(10,0),(11,0),(12,1),(13,1),(14,1)] ?_;refine go 3 ?_;refine Xp rfl rfl (Eo (Yh 1 i rfl rfl rfl rfl Zh Tryz.underlying22 Tryz.sizeOf61 rfl) ⟨rfl,rfl,rfl,aA⟩) ?_;refine Xp rfl rfl (Eo (Po 1 Fr rfl rfl rfl Zh pPt) ⟨rfl,rfl,rfl,aA⟩) ?_;refine go 2 ?_;refine Xp rfl rfl (Eo (Yh 2 i rfl rfl rfl rfl Zh Tryz.underlying22 Tryz.sizeOf61 rfl) ⟨rfl,rfl,rfl,aA⟩) ?_;refine Xp rfl rfl (Eo (Po 2 Fr rfl rfl rfl Zh pPt) ⟨rfl,rfl,rfl,aA⟩) ?_;refine go 3 ?_;refine Xq (Zs 5 [] (Yhk (a.getD i Fr) (b.getD i Fr) d fl wv t (k.getD i 0) (Zkv y O) (Zkv B O) F D.1 n (nb_at w O))) λp s=>?_;refine Eh rfl (Xm [(0,_)] 6 (enc:=Eb) [p] rfl rfl ⟨rfl,rfl,aA⟩ Tryz.underlying27 Tryz.ti36 rfl rfl rfl rfl rfl pPq.cells rfl rfl I.h) (λv _=>?_);refine Eh rfl (Ze9 70 rfl rfl rfl ⟨rfl,rfl,rfl,aA⟩ (λh=>(Zbt 70 6 24 rfl rfl rfl rfl rfl rfl O3 rfl (Yc pPq) Tryz.underlying27 Tryz.ti36 rfl pPq rfl rfl rfl O9 O3 rfl I.h h))) (λa0 _=>?_);refine go 1 ?_;refine Nz (Zd (q:=qP) (z:=p) 71 5 71 rfl rfl rfl rfl rfl) ?_;refine Ya 0 [(15,3)] ?_;refine go 2 ?_;refine Yu ?_;refine go 6 ⟨O,?_⟩;exact Yv (i+1,_,M ++ [p]) ⟨O1,by rw [Zj6,o,lPs_s,s]⟩ O1 ⟨rfl,rfl,aA⟩ ⟨rfl,rfl,aA⟩
   .refine go 13 ?_;obtain rfl:i=a.length:=O;refine Zr (Xj 70 rfl rfl pPq) ?_;refine Zr (Xt 70 71 72 rfl rfl rfl rfl) ?_;exact Na j (_,M) Tryz.results12 (by rw [g]) (o.trans (lPr_t g).symm) (Oz 72 Za)
theorem Zd5(a fl wv t:Int)(d:Cb (a,fl,wv)=true)(g:0<=t/\t<=3600000):Cal Tryz.prog 127 #[.agg #[.int .i64 a,.int .i64 fl,.int .i64 wv],.int .i64 t] [] false (G:=Unit) (λ_=>True) (λ_=> .int .i64 (lnd (a,fl,wv) t)) (λ_=>[]):=by refine Zf Tryz.func127 Tryz.ntmps127 λj i h c=>?_;have b:=Yfi d;dsimp only at b;have e:=Zxm b.1 b.2.1 (n:=wv-1) O O;refine go 2 ?_;refine Ym (Yj 1) λf _=>?_;refine go 20 ⟨O,O,O,O,?_⟩;exact Xc c () Tryz.results127 rfl aA Za
theorem Zw8(a b:List Pf)(c fl wv t:Int):Cal Tryz.prog 63 #[v,u,.agg #[.int .i64 c,.int .i64 fl,.int .i64 wv],.int .i64 t,.bool bad] [Yg 3 Ll v a,Yg 3 Ll u b] false (G:=Unit) (λ_=>True) (λ_=> .int .i64 (lkE a b (c,fl,wv) t bad)) (λ_=>[]):=by
 refine Zf Tryz.func63 Tryz.ntmps63 λY W V d=>?_;refine Qf (Py (i:=1) rfl Zh) (λQ=>?_);refine Qf (Py (i:=2) rfl Zh) (λR=>?_);refine go 2 ?_;refine Ym (Yj 3) λS _=>?_;refine go 5 ?_;rcases Zxr a b (c,fl,wv) t bad with e|⟨e,k⟩|⟨e,k,l⟩|⟨e,k,l,m⟩|⟨e,k,l,m,D⟩|⟨e,k,l,m,D⟩
 .refine go 2 ?_;refine cl 3 [] (Gy c fl wv) λ_ _=>?_;refine dt (Zy ( .bool true) (Xi rfl rfl) (aL (λb=>Value.bool (!b)) e)) ?_;refine go 30 ?_;exact Xc d () Tryz.results63 (by rw [Fw (Zc7 λh=>by obtain⟨s,w,y,z,B,-,-⟩:=h;first|(simp_all;done)|omega)]) aA Za
 .refine go 2 ?_;refine cl 3 [] (Gy c fl wv) λ_ _=>?_;refine dt (Zy ( .bool false) (Xi rfl rfl) (aL (λb=>Value.bool (!b)) e)) ?_;refine go 3 ?_;refine ktg (aN k) ?_;refine go 26 ?_;exact Xc d () Tryz.results63 (by rw [Fw (Zc7 λh=>by obtain⟨s,w,y,z,B,-,-⟩:=h;first|(simp_all;done)|omega)]) aA Za
 .refine go 2 ?_;refine cl 3 [] (Gy c fl wv) λ_ _=>?_;refine dt (Zy ( .bool false) (Xi rfl rfl) (aL (λb=>Value.bool (!b)) e)) ?_;refine go 3 ?_;refine kfg (aJ k) ?_;refine go 6 ?_;refine ktg (aN l) ?_;refine go 19 ?_;exact Xc d () Tryz.results63 (by rw [Fw (Zc7 λh=>by obtain⟨s,w,y,z,B,-,-⟩:=h;first|(simp_all;done)|omega)]) aA Za
 .refine go 2 ?_;refine cl 3 [] (Gy c fl wv) λ_ _=>?_;refine dt (Zy ( .bool false) (Xi rfl rfl) (aL (λb=>Value.bool (!b)) e)) ?_;refine go 3 ?_;refine kfg (aJ k) ?_;refine go 6 ?_;refine kfg (aJ l) ?_;refine go 3 ?_;refine It 3 [] (Zax t) λ_ _=>?_;refine Bb (Zy ( .bool true) (Xi rfl rfl) (aL (λb=>Value.bool (!b)) (aJ m))) rfl rfl ?_;refine go 14 ?_;exact Xc d () Tryz.results63 (by rw [Fw (Zc7 λh=>by obtain⟨s,w,y,z,B,-,-⟩:=h;first|(simp_all;done)|omega)]) aA Za
 .refine go 2 ?_;refine cl 3 [] (Gy c fl wv) λ_ _=>?_;refine dt (Zy ( .bool false) (Xi rfl rfl) (aL (λb=>Value.bool (!b)) e)) ?_;refine go 3 ?_;refine kfg (aJ k) ?_;refine go 6 ?_;refine kfg (aJ l) ?_;refine go 3 ?_;refine It 3 [] (Zax t) λ_ _=>?_;refine Bb (Zy ( .bool false) (Xi rfl rfl) (aL (λb=>Value.bool (!b)) (aN m))) rfl rfl ?_;refine go 2 ?_;refine ktg D ?_;refine go 11 ?_;exact Xc d () Tryz.results63 (by rw [Fw (Zc7 λh=>by obtain⟨s,w,y,z,B,-,-⟩:=h;first|(simp_all;done)|omega)]) aA Za
 .refine go 2 ?_;refine cl 3 [] (Gy c fl wv) λ_ _=>?_;refine dt (Zy ( .bool false) (Xi rfl rfl) (aL (λb=>Value.bool (!b)) e)) ?_;refine go 3 ?_;refine kfg (aJ k) ?_;refine go 6 ?_;refine kfg (aJ l) ?_;refine go 3 ?_;refine It 3 [] (Zax t) λ_ _=>?_;refine Bb (Zy ( .bool false) (Xi rfl rfl) (aL (λb=>Value.bool (!b)) (aN m))) rfl rfl ?_;refine go 2 ?_;refine kfg D ?_;refine go 13 ?_;refine lp (G:=Nat) [0,1,3,7] [0,1,2,3] (λi=>[(11,.int .i64 (i:Int))]) (λi=>[]) (λi=>(i<=a.length)/\(∀j,j<i->Bd (a.getD j Fr)=true/\Bd (b.getD j Fr)=true)) (λi=>a.length-i) 0 ⟨O1,λj h=>absurd h (cN j)⟩ ⟨rfl,aA⟩ aA ?_;rintro i ⟨hi,N⟩;refine go 9 ?_;refine Zc rfl (λp=>?_) (λp=>?_)
  .refine go 8 ?_;refine dt (Yh 1 i rfl rfl rfl rfl Zh Tryz.underlying22 Tryz.sizeOf61 rfl) ?_;refine dt (Po 1 Fr rfl rfl rfl Zh pPt) ?_;refine cl 3 [] Zks λ_ _=>?_;refine go 2 ?_;refine Nv 47 rfl (λg=>?_) (λg=>?_)
   .have n:=g;refine go 21 ?_;exact Xc d () Tryz.results63 (by rw [Fw (Zc7 λh=>by obtain⟨-,-,-,-,-,I,M⟩:=h;exact absurd ((Bc n).symm.trans (Zkv I (show i<a.length by omega))) O3)]) aA Za
   .have n:=g;refine go 2 ?_;refine Bb (Yh 2 i rfl rfl rfl rfl Zh Tryz.underlying22 Tryz.sizeOf61 rfl) rfl rfl ?_;refine Bb (Po 2 Fr rfl rfl rfl Zh pPt) rfl rfl ?_;refine It 3 [] Zks λ_ _=>?_;refine go 4 ?_;refine Pr rfl (λf=>?_) (λf=>?_)
    .have o:=f;refine go 11 ?_;exact Xc d () Tryz.results63 (by rw [Fw (Zc7 λh=>by obtain⟨-,-,-,-,-,I,M⟩:=h;exact absurd ((Bc o).symm.trans (Zkv M (show i<b.length by omega))) O3)]) aA Za
    .have o:=f;refine go 8 ⟨O,?_⟩;exact Yv (i+1) ⟨O1,λj P=>by rcases bL.1 P with F|F;exact N j F;subst F;exact⟨Dx n,Dx o⟩⟩ O1 ⟨rfl,aA⟩ aA
  .obtain rfl:i=a.length:=O;have H:=lkr_t e k l m D N;refine go 13 ?_;refine Zc rfl (λq=>?_) (λq=>?_)
   .refine go 7 ?_;exact Xc d () Tryz.results63 (by rw [lkE_7 H O]) aA Za
   .refine go 7 ?_;refine cl 3 [] (Zd5 c fl wv t e m) λ_ _=>?_;refine go 3 ?_;refine Zc rfl (λr=>?_) (λr=>?_)
    .refine go 7 ?_;exact Xc d () Tryz.results63 (by rw [lkE_3 H O O]) aA Za
    .refine go 8 ?_;exact Xc d () Tryz.results63 (by rw [Ybx H O O]) aA Za
theorem Yaq(p d:Pf)(a fl wv t n:Int)(hp:Bd p=true)(hd:Bd d=true)(N:Cb (a,fl,wv)=true)(V:0<=t)(Z:lnd (a,fl,wv) t<=3600000)(hn:0<=n/\n<wv):Cal Tryz.prog 64 #[Ll p,Ll d,.agg #[.int .i64 a,.int .i64 fl,.int .i64 wv],.int .i64 t,.int .i64 n] [] true (G:=SL×List Zj) (λr=>r.2.map Mb=lpP p d (a,fl,wv) t n) (λr=>Xw r.1) (λr=>[Qh 6 Qu qG (Xw r.1) r.2]):=by
 refine Zf Tryz.func64 Tryz.ntmps64 λw0 sc P Q=>?_;have F:=Yfi N;unfold lnd at Z;dsimp only at F Z;have a4:=Zxm F.1 F.2.1 (n:=n) hn.1 O;have a5:=Zxm F.1 F.2.1 (n:=wv-1) O O;have a6:=mg_le F.1 (show n<=wv-1 by omega);obtain⟨a7,a8,a9⟩:=Yas hp;obtain⟨a1,a2,a3⟩:=Yas hd;refine Zl (Ye qG 71) ?_;refine go 2 ?_;refine Ym (Yj 1) λbx _=>?_;refine Ym (Yj 2) λW _=>?_;refine Ym (Yj 3) λY _=>?_;refine go 27 ⟨O,O,?_⟩;refine Zc rfl (λI=>?_) (λI=>?_)
 .have S:t<(t+n*a):=I;refine go 6 ?_;refine cl 4 [] (Es p.1 p.2.1 p.2.2 p.1 p.2.1 p.2.2 t (t+n*a) 2 ⟨O,O⟩ ⟨O,O⟩ ⟨O,O⟩ ⟨O,O⟩ ⟨O,O⟩ ⟨O,O⟩) λ⟨H,j,k⟩ _=>?_;refine tt (Xm [(0,_)] 7 (enc:=Qu) [Gq p p t (t+n*a) 2 (H,j,k)] rfl rfl ⟨rfl,rfl,aA⟩ Tryz.underlying36 Tryz.ti116 rfl rfl Zbc rfl rfl pG.cells rfl rfl P.h) (λv _=>?_);refine Zo (Nn 8 6 116 Qu) ?_;refine tt (Lc 8 7 96 rfl rfl rfl rfl rfl rfl O3 rfl (Yc pG) Tryz.underlying36 Tryz.ti116 rfl pG rfl rfl rfl (by first|(simp;done)|(simp;omega)) O3 rfl P.h) (λb0 _=>?_);refine Zo (Ye qC 74) ?_;refine Zo (Zd (q:=qC) (z:=(Gq p p t (t+n*a) 2 (H,j,k)).2.1) 74 4 74 rfl rfl rfl rfl rfl) ?_;refine Zo (Zd (q:=qC) (z:=(Gq p p t (t+n*a) 2 (H,j,k)).2.2.1) 74 5 74 rfl rfl rfl rfl rfl) ?_;refine Zo (Zd (q:=qC) (z:=(Gq p p t (t+n*a) 2 (H,j,k)).2.2.2) 74 6 74 rfl rfl rfl rfl rfl) ?_;refine Zo (Zd (q:=qG) (z:=Gq p p t (t+n*a) 2 (H,j,k)) 71 74 71 rfl rfl rfl rfl rfl) ?_;refine go 13 ⟨O,?_⟩;refine cl 9 [] (Es p.1 p.2.1 p.2.2 d.1 d.2.1 d.2.2 (t+n*a) (t+n*a+fl) 0 ⟨O,O⟩ ⟨O,O⟩ ⟨O,O⟩ ⟨O,O⟩ ⟨O,O⟩ ⟨O,O⟩) λ⟨l,m,o⟩ _=>?_;refine tt (Xm [(0,_)] 12 (enc:=Qu) [Gq p d (t+n*a) (t+n*a+fl) 0 (l,m,o)] rfl rfl ⟨rfl,rfl,aA⟩ Tryz.underlying36 Tryz.ti116 rfl rfl Zbc rfl rfl pG.cells rfl rfl P.h) (λb1 _=>?_);refine tt (Lc 8 12 96 rfl rfl rfl rfl rfl rfl O3 rfl (Yc pG) Tryz.underlying36 Tryz.ti116 rfl pG rfl rfl rfl (by first|(simp;done)|(simp;omega)) O3 rfl P.h) (λb2 _=>?_);refine Zo (Ye qC 74) ?_;refine Zo (Zd (q:=qC) (z:=(Gq p d (t+n*a) (t+n*a+fl) 0 (l,m,o)).2.1) 74 9 74 rfl rfl rfl rfl rfl) ?_;refine Zo (Zd (q:=qC) (z:=(Gq p d (t+n*a) (t+n*a+fl) 0 (l,m,o)).2.2.1) 74 10 74 rfl rfl rfl rfl rfl) ?_;refine Zo (Zd (q:=qC) (z:=(Gq p d (t+n*a) (t+n*a+fl) 0 (l,m,o)).2.2.2) 74 11 74 rfl rfl rfl rfl rfl) ?_;refine Zo (Zd (q:=qG) (z:=Gq p d (t+n*a) (t+n*a+fl) 0 (l,m,o)) 71 74 71 rfl rfl rfl rfl rfl) ?_;refine go 5 ?_;refine Qj (λ_=>False) [(0,0),(1,0),(2,0),(3,0),(4,0),(5,0),(6,1),(7,0)] ?_;refine go 6 ⟨O,?_⟩;refine Xq (Zs 12 [] (Zd5 a fl wv t N ⟨V,O⟩)) λ_ _=>?_;refine go 3 ?_;refine Zc rfl (λM=>?_) (λM=>?_)
  .have R:(t+n*a+fl)<lnd (a,fl,wv) t:=M;refine Oj [2,3] [13] ?_;refine Ya 1 [(0,0),(1,0),(2,0),(3,0),(4,0),(5,0),(6,0),(7,0),(8,0),(9,1),(10,1),(11,1),(12,1)] ?_;refine go 9 ⟨O,?_⟩;refine Xq (Zs 12 [] (Zd5 a fl wv t N ⟨V,O⟩)) λ_ _=>?_;refine Xq (Zs 13 [] (Es d.1 d.2.1 d.2.2 d.1 d.2.1 d.2.2 (t+n*a+fl) (lnd (a,fl,wv) t) 2 ⟨O,O⟩ ⟨O,O⟩ ⟨O,O⟩ ⟨O,O⟩ ⟨O,O⟩ ⟨O,O⟩)) λ⟨s,w,y⟩ _=>?_;refine Eh rfl (Xm [(0,_)] 16 (enc:=Qu) [Gq d d (t+n*a+fl) (lnd (a,fl,wv) t) 2 (s,w,y)] rfl rfl ⟨rfl,rfl,aA⟩ Tryz.underlying36 Tryz.ti116 rfl rfl Zbc rfl rfl pG.cells rfl rfl P.h) (λb3 _=>?_);refine Eh rfl (Ze9 8 rfl rfl rfl ⟨rfl,rfl,aA⟩ (λB=>(Zbt 8 16 96 rfl rfl rfl rfl rfl rfl O3 rfl (Yc pG) Tryz.underlying36 Tryz.ti116 rfl pG rfl rfl rfl (by first|(simp;done)|(simp;omega)) O3 rfl P.h B))) (λb4 _=>?_);refine go 1 ?_;refine Nz (Ye qC 74) ?_;refine Nz (Zd (q:=qC) (z:=(Gq d d (t+n*a+fl) (lnd (a,fl,wv) t) 2 (s,w,y)).2.1) 74 13 74 rfl rfl rfl rfl rfl) ?_;refine Nz (Zd (q:=qC) (z:=(Gq d d (t+n*a+fl) (lnd (a,fl,wv) t) 2 (s,w,y)).2.2.1) 74 14 74 rfl rfl rfl rfl rfl) ?_;refine Nz (Zd (q:=qC) (z:=(Gq d d (t+n*a+fl) (lnd (a,fl,wv) t) 2 (s,w,y)).2.2.2) 74 15 74 rfl rfl rfl rfl rfl) ?_;refine Nz (Zd (q:=qG) (z:=Gq d d (t+n*a+fl) (lnd (a,fl,wv) t) 2 (s,w,y)) 71 74 71 rfl rfl rfl rfl rfl) ?_;refine Ya 0 [(13,3)] ?_;refine go 2 ?_;refine Yu ?_;refine go 8 ?_;refine Ae (Xl 8 rfl (Yc pG)) (λH D=>?_);subst D;refine Zr (Xj 8 rfl rfl pG) ?_;refine Zr (Xt 8 71 72 rfl rfl rfl rfl) ?_;exact Xc Q (H,_) Tryz.results64 rfl (lgP_11 S R) (Oz 72 Za)
  .have R:¬(t+n*a+fl)<lnd (a,fl,wv) t:=M;refine go 9 ?_;refine Ae (Xl 8 rfl (Yc pG)) (λH D=>?_);subst D;refine Zr (Xj 8 rfl rfl pG) ?_;refine Zr (Xt 8 71 72 rfl rfl rfl rfl) ?_;exact Xc Q (H,_) Tryz.results64 rfl (lgP_10 S R) (Oz 72 Za)
 .have S:¬t<(t+n*a):=I;refine go 12 ⟨O,?_⟩;refine cl 17 [] (Es p.1 p.2.1 p.2.2 d.1 d.2.1 d.2.2 (t+n*a) (t+n*a+fl) 0 ⟨O,O⟩ ⟨O,O⟩ ⟨O,O⟩ ⟨O,O⟩ ⟨O,O⟩ ⟨O,O⟩) λ⟨b,c,e⟩ _=>?_;refine tt (Xm [(0,_)] 20 (enc:=Qu) [Gq p d (t+n*a) (t+n*a+fl) 0 (b,c,e)] rfl rfl ⟨rfl,rfl,aA⟩ Tryz.underlying36 Tryz.ti116 rfl rfl Zbc rfl rfl pG.cells rfl rfl P.h) (λb5 _=>?_);refine Zo (Nn 21 6 116 Qu) ?_;refine tt (Lc 21 20 96 rfl rfl rfl rfl rfl rfl O3 rfl (Yc pG) Tryz.underlying36 Tryz.ti116 rfl pG rfl rfl rfl (by first|(simp;done)|(simp;omega)) O3 rfl P.h) (λb6 _=>?_);refine Zo (Ye qC 74) ?_;refine Zo (Zd (q:=qC) (z:=(Gq p d (t+n*a) (t+n*a+fl) 0 (b,c,e)).2.1) 74 17 74 rfl rfl rfl rfl rfl) ?_;refine Zo (Zd (q:=qC) (z:=(Gq p d (t+n*a) (t+n*a+fl) 0 (b,c,e)).2.2.1) 74 18 74 rfl rfl rfl rfl rfl) ?_;refine Zo (Zd (q:=qC) (z:=(Gq p d (t+n*a) (t+n*a+fl) 0 (b,c,e)).2.2.2) 74 19 74 rfl rfl rfl rfl rfl) ?_;refine Zo (Zd (q:=qG) (z:=Gq p d (t+n*a) (t+n*a+fl) 0 (b,c,e)) 71 74 71 rfl rfl rfl rfl rfl) ?_;refine go 5 ?_;refine Qj (λ_=>False) [(0,0),(1,0),(2,0),(3,0),(4,0),(5,0),(6,1),(7,0)] ?_;refine go 6 ⟨O,?_⟩;refine Xq (Zs 21 [] (Zd5 a fl wv t N ⟨V,O⟩)) λ_ _=>?_;refine go 3 ?_;refine Zc rfl (λi=>?_) (λi=>?_)
  .have R:(t+n*a+fl)<lnd (a,fl,wv) t:=i;refine Oj [2,3] [13] ?_;refine Ya 1 [(0,0),(1,0),(2,0),(3,0),(4,0),(5,0),(6,0),(7,0),(8,0),(9,1),(10,1),(11,1),(12,1)] ?_;refine go 9 ⟨O,?_⟩;refine Xq (Zs 21 [] (Zd5 a fl wv t N ⟨V,O⟩)) λ_ _=>?_;refine Xq (Zs 22 [] (Es d.1 d.2.1 d.2.2 d.1 d.2.1 d.2.2 (t+n*a+fl) (lnd (a,fl,wv) t) 2 ⟨O,O⟩ ⟨O,O⟩ ⟨O,O⟩ ⟨O,O⟩ ⟨O,O⟩ ⟨O,O⟩)) λ⟨f,g,h⟩ _=>?_;refine Eh rfl (Xm [(0,_)] 25 (enc:=Qu) [Gq d d (t+n*a+fl) (lnd (a,fl,wv) t) 2 (f,g,h)] rfl rfl ⟨rfl,rfl,aA⟩ Tryz.underlying36 Tryz.ti116 rfl rfl Zbc rfl rfl pG.cells rfl rfl P.h) (λb7 _=>?_);refine Eh rfl (Ze9 21 rfl rfl rfl ⟨rfl,rfl,aA⟩ (λB=>(Zbt 21 25 96 rfl rfl rfl rfl rfl rfl O3 rfl (Yc pG) Tryz.underlying36 Tryz.ti116 rfl pG rfl rfl rfl (by first|(simp;done)|(simp;omega)) O3 rfl P.h B))) (λa0 _=>?_);refine go 1 ?_;refine Nz (Ye qC 74) ?_;refine Nz (Zd (q:=qC) (z:=(Gq d d (t+n*a+fl) (lnd (a,fl,wv) t) 2 (f,g,h)).2.1) 74 22 74 rfl rfl rfl rfl rfl) ?_;refine Nz (Zd (q:=qC) (z:=(Gq d d (t+n*a+fl) (lnd (a,fl,wv) t) 2 (f,g,h)).2.2.1) 74 23 74 rfl rfl rfl rfl rfl) ?_;refine Nz (Zd (q:=qC) (z:=(Gq d d (t+n*a+fl) (lnd (a,fl,wv) t) 2 (f,g,h)).2.2.2) 74 24 74 rfl rfl rfl rfl rfl) ?_;refine Nz (Zd (q:=qG) (z:=Gq d d (t+n*a+fl) (lnd (a,fl,wv) t) 2 (f,g,h)) 71 74 71 rfl rfl rfl rfl rfl) ?_;refine Ya 0 [(13,3)] ?_;refine go 2 ?_;refine Yu ?_;refine go 8 ?_;refine Ae (Xl 21 rfl (Yc pG)) (λH D=>?_);subst D;refine Zr (Xj 21 rfl rfl pG) ?_;refine Zr (Xt 21 71 72 rfl rfl rfl rfl) ?_;exact Xc Q (H,_) Tryz.results64 rfl (lgP_01 S R) (Oz 72 Za)
  .have R:¬(t+n*a+fl)<lnd (a,fl,wv) t:=i;refine go 9 ?_;refine Ae (Xl 21 rfl (Yc pG)) (λH D=>?_);subst D;refine Zr (Xj 21 rfl rfl pG) ?_;refine Zr (Xt 21 71 72 rfl rfl rfl rfl) ?_;exact Xc Q (H,_) Tryz.results64 rfl (lgP_00 S R) (Oz 72 Za)
theorem Zw9{q:Value}(a b:List Pf)(f:List Int)(c fl wv t:Int):Cal Tryz.prog 13 #[v,u,.agg #[.int .i64 c,.int .i64 fl,.int .i64 wv],.int .i64 t,q] [Yg 3 Ll v a,Yg 3 Ll u b,Yg 1 Zz q f] true (G:=Value×List PT) (λr=>Zao r.2=lPr a b (c,fl,wv) t f) (λr=> .tuple #[r.1,.int .i64 (lkE a b (c,fl,wv) t (pbB a f wv))]) (λr=>[Qh 1 Eb qP r.1 r.2]):=by
 refine Zf Tryz.func13 Tryz.ntmps13 λw0 sc Q w=>?_;refine Qf (Py (i:=1) rfl Zh) (λa0=>?_);refine Qf (Py (i:=2) rfl Zh) (λa1=>?_);refine Qf (Py (i:=3) rfl Zh) (λa3=>?_);refine go 2 ?_;refine Ym (Yj 4) λbx _=>?_;refine go 21 ?_;refine lp (G:=Nat×Bool) [0,1,3,4,7] [0,1,2,3,4] (λq=>[(13,.int .i64 (q.1:Int)),(12,.bool q.2)]) (λq=>[]) (λq=>(q.1<=f.length)/\(q.2=(decide (f.length≠a.length) || (f.take q.1).any (nbB wv)))) (λq=>f.length-q.1) (0,_) ⟨O1,nb_0⟩ ⟨rfl,rfl,aA⟩ aA ?_;rintro⟨k,S⟩ ⟨hk,s⟩;dsimp only at hk s;dsimp only;refine go 9 ?_;refine Zc rfl (λl=>?_) (λl=>?_)
 .refine go 4 ?_;rcases nb_3 S wv (f.getD k 0)with h|⟨h,n⟩|⟨h,n⟩
  .refine Qj (λ_=>False) [(0,0),(1,0),(2,2),(3,2),(4,2),(5,2),(6,2),(7,0),(8,0),(9,2),(10,2),(11,2),(12,2),(13,2),(14,2),(15,2),(16,0),(17,3)] ?_;refine go 1 ?_;refine Xp rfl rfl (Qv (Zy ( .bool true) (Zak rfl rfl) (aL Value.bool h))) ?_;refine go 24 ⟨O,?_⟩;exact Yv (k+1,_) ⟨O1,(nb_s s O (.inl ⟨h,rfl⟩))⟩ O1 ⟨rfl,rfl,aA⟩ aA
  .refine Qj (λ_=>False) [(0,0),(1,0),(2,0),(3,0),(4,0),(5,0),(6,0),(7,0),(8,0),(9,2),(10,2),(11,2),(12,2),(13,2),(14,2),(15,2),(16,0),(17,3)] ?_;refine go 1 ?_;refine Xp rfl rfl (Qv (Zy ( .bool false) (Zak rfl rfl) (aL Value.bool h))) ?_;refine go 2 ?_;refine r0g (Qv (Yh 3 k rfl rfl rfl rfl Zh Tryz.underlying25 Tryz.sizeOf3 rfl)) rfl rfl rfl rfl rfl ?_;refine go 1 ⟨O,?_⟩;refine r0g (Qv (Zy ( .bool true) (Ydr rfl rfl rfl) (aL Value.bool (aN n)))) rfl rfl rfl rfl rfl ?_;refine go 19 ⟨O,?_⟩;exact Yv (k+1,_) ⟨O1,(nb_s s O (.inr (.inl ⟨h,n,rfl⟩)))⟩ O1 ⟨rfl,rfl,aA⟩ aA
  .refine Qj (λ_=>False) [(0,0),(1,0),(2,0),(3,0),(4,0),(5,0),(6,0),(7,0),(8,0),(9,0),(10,0),(11,0),(12,0),(13,0),(14,0),(15,0),(16,0),(17,3)] ?_;refine go 1 ?_;refine Xp rfl rfl (Qv (Zy ( .bool false) (Zak rfl rfl) (aL Value.bool h))) ?_;refine go 2 ?_;refine r0g (Qv (Yh 3 k rfl rfl rfl rfl Zh Tryz.underlying25 Tryz.sizeOf3 rfl)) rfl rfl rfl rfl rfl ?_;refine go 1 ⟨O,?_⟩;refine r0g (Qv (Zy ( .bool false) (Ydr rfl rfl rfl) (aL Value.bool (aJ n)))) rfl rfl rfl rfl rfl ?_;refine go 4 ?_;refine r0g (Qv (Yh 3 k rfl rfl rfl rfl Zh Tryz.underlying25 Tryz.sizeOf3 rfl)) rfl rfl rfl rfl rfl ?_;refine go 14 ⟨O,O,?_⟩;exact Yv (k+1,_) ⟨O1,(nb_s s O (.inr (.inr ⟨h,n,rfl⟩)))⟩ O1 ⟨rfl,rfl,aA⟩ aA
 .obtain rfl:k=f.length:=O;have e:=nb_e s;refine go 13 ?_;refine cl 4 [1,2] (Zw8 a b c fl wv t) λ_ _=>?_;refine go 9 ?_;refine Zc rfl (λd=>?_) (λd=>?_)
  .have Z:=d;refine go 9 ?_;refine Zr (Hs 75 1 Eb qP) ?_;exact Na w (.slice none 0 0,[]) Tryz.results13 (by rw [<-e]) (Yb2 (by rw [<-e];exact Z)).symm (Oz 75 Za)
  .have g:=fB.1 d;rw [e]at g;obtain⟨V,P,p⟩:=lkE_0 g;obtain⟨o,N,W,Y,M,H,I⟩:=Yby V;obtain⟨a4,F⟩:=pb_f o;refine go 14 ?_;refine Zl (Nn 70 1 36 Eb) ?_;refine Zl (Ye qP 71) ?_;refine lp (G:=Nat×Value×List PT) [0,1,3,4,7] [0,1,2,3,4] (λq=>[(16,.int .i64 (q.1:Int)),(15,q.2.1)]) (λq=>[(70,Pt 1 36 Eb q.2.1 q.2.2),(71,Im qP q.2.2)]) (λq=>(q.1<=a.length)/\(Zao q.2.2=lPs a b (c,fl,wv) t f q.1)) (λq=>a.length-q.1) (0,_,[]) ⟨O1,rfl⟩ ⟨rfl,rfl,aA⟩ ⟨rfl,rfl,aA⟩ ?_;rintro⟨i,vl,R⟩ ⟨hi,y⟩;dsimp only at hi y;dsimp only;have a2:=Zu1 y;refine go 9 ?_;refine Zc rfl (λm=>?_) (λm=>?_)
   .refine go 4 ?_;refine Oj [1,2,3,4] [18] ?_;refine Ya 1 [(0,0),(1,0),(2,0),(3,0),(4,0),(5,0),(6,0),(7,0),(8,0),(9,0),(10,0),(11,0),(12,0),(13,0),(14,0),(15,1),(16,1),(17,1)] ?_;refine go 3 ?_;refine Xp rfl rfl (Eo (Yh 1 i rfl rfl rfl rfl Zh Tryz.underlying22 Tryz.sizeOf61 rfl) ⟨rfl,rfl,rfl,rfl,aA⟩) ?_;refine Xp rfl rfl (Eo (Po 1 Fr rfl rfl rfl Zh pPt) ⟨rfl,rfl,rfl,rfl,aA⟩) ?_;refine go 2 ?_;refine Xp rfl rfl (Eo (Yh 2 i rfl rfl rfl rfl Zh Tryz.underlying22 Tryz.sizeOf61 rfl) ⟨rfl,rfl,rfl,rfl,aA⟩) ?_;refine Xp rfl rfl (Eo (Po 2 Fr rfl rfl rfl Zh pPt) ⟨rfl,rfl,rfl,rfl,aA⟩) ?_;refine go 4 ?_;refine Xp rfl rfl (Eo (Yh 3 i rfl rfl rfl rfl Zh Tryz.underlying25 Tryz.sizeOf3 rfl) ⟨rfl,rfl,rfl,rfl,aA⟩) ?_;refine go 1 ⟨O,?_⟩;refine Xq (Zs 5 [] (Yaq (a.getD i Fr) (b.getD i Fr) c fl wv t (f.getD i 0) (Zkv H O) (Zkv I O) N M.1 p (nb_at F O))) λB D=>?_;refine Eh rfl (Xm [(0,_)] 6 (enc:=Eb) [B] rfl rfl ⟨rfl,rfl,aA⟩ Tryz.underlying27 Tryz.ti36 rfl rfl rfl rfl rfl pPq.cells rfl rfl Q.h) (λv _=>?_);refine Eh rfl (Ze9 70 rfl rfl rfl ⟨rfl,rfl,rfl,rfl,aA⟩ (λj=>(Zbt 70 6 24 rfl rfl rfl rfl rfl rfl O3 rfl (Yc pPq) Tryz.underlying27 Tryz.ti36 rfl pPq rfl rfl rfl O9 O3 rfl Q.h j))) (λa5 _=>?_);refine go 1 ?_;refine Nz (Zd (q:=qP) (z:=B) 71 5 71 rfl rfl rfl rfl rfl) ?_;refine Ya 0 [(18,3)] ?_;refine go 2 ?_;refine Yu ?_;refine go 7 ⟨O,?_⟩;exact Yv (i+1,_,R ++ [B]) ⟨O1,by rw [Zj6,y,lPs_s,D]⟩ O1 ⟨rfl,rfl,aA⟩ ⟨rfl,rfl,aA⟩
   .refine go 13 ?_;obtain rfl:i=a.length:=O;refine Zr (Xj 70 rfl rfl pPq) ?_;refine Zr (Xt 70 71 72 rfl rfl rfl rfl) ?_;exact Na w (_,R) Tryz.results13 (by rw [g]) (y.trans (lPr_t g).symm) (Oz 72 Za)
end Go.Sky

