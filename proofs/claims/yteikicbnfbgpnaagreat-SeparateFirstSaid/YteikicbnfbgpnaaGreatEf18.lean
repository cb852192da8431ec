/- Rules, arithmetic and contracts: part 19. No conditions but those that each theorem names. -/
import Derived.Test.YteikicbnfbgpnaaGreatEf17
set_option linter.all false
set_option maxHeartbeats 4000000
namespace Go.Sky
variable{D d ov2:Int}{a b:List Zl}
def dfA(p q:List Int)(c ov2:Int)(t:Rat):Rat:=Zg p t*(ov2:Rat)-Zg q t*(c:Rat)
theorem Yp4(p q:List Int)(a b:Int)(t:Rat):Zg (dfP p q a b) t=dfA p q a b t:=by unfold dfP dfA;rw [Yi3,Gb,Gb,Mn,Mn];grind
theorem Zqv(p q:List Int)(a b k:Int)(t:Rat):Zg (sqK p q a b k) t=((k:Rat)*dfA p q a b t)*((k:Rat)*dfA p q a b t):=by unfold sqK dfK;rw [Yo,Gb,Yp4]
def fvE(D n d c ov2:Int)(x y z e f g:List Int)(t:Rat):Rat:=
 ((d:Rat)*dfA x e c ov2 t)*((d:Rat)*dfA x e c ov2 t)+((d:Rat)*dfA y f c ov2 t)*((d:Rat)*dfA y f c ov2 t)+((n:Rat)*dfA z g c ov2 t)*((n:Rat)*dfA z g c ov2 t)
  - ((D:Rat)*(d:Rat)*(c:Rat)*(ov2:Rat))*((D:Rat)*(d:Rat)*(c:Rat)*(ov2:Rat))
theorem Yp5(D d c ov2:Int)(t:Rat):Zg (cnZ D d c ov2) t=- (((D:Rat)*(d:Rat)*(c:Rat)*(ov2:Rat))*((D:Rat)*(d:Rat)*(c:Rat)*(ov2:Rat))):=by show Zg (Zr (Zr (Zr (Zr (Zr (Zr (Zr (Zr [-1] D) D) d) d) c) c) ov2) ov2) t=_;simp only [Gb];rw [show Zg [-1] t=(-1:Rat)from by show((-1:Int):Rat)+t*0=_;grind];grind
theorem Ybc(D n d c ov2:Int)(x y z e f g:List Int)(t:Rat):Zg (smZ D n d c ov2 x y z e f g 3) t=fvE D n d c ov2 x y z e f g t:=by show Zg (Ht (Ht (Ht (cnZ D d c ov2) (fqZ n d c ov2 x y z e f g 0)) (fqZ n d c ov2 x y z e f g 1)) (fqZ n d c ov2 x y z e f g 2)) t=_;rw [Zl7,Zl7,Zl7,Yp5];show _+Zg (sqK x e c ov2 d) t+Zg (sqK y f c ov2 d) t+Zg (sqK z g c ov2 n) t=_;rw [Zqv,Zqv,Zqv];unfold fvE;grind
def Yhg(D n d c ov2:Int)(x y z e f g:List Int):Tr (smZ D n d c ov2 x y z e f g 3):=Qj _
theorem negZ{n f:Int}{x y z g i j:List Int}(h:Cvd (fmZ D n d f ov2 x y z g i j)):Ky (fmZ D n d f ov2 x y z g i j)=false↔∀t:Rat,0<=t->t<=1->0<=fvE D n d f ov2 x y z g i j t:=by
 have e:Ky (fmZ D n d f ov2 x y z g i j)=true↔Zz9 (fmZ D n d f ov2 x y z g i j) (qv (0,1)) (qv (1,1)):=Zg5 h O3 O3 O7;have m:qv (0,1)=0:=O7;have o:qv (1,1)=1:=O7;rw [m,o]at e;rw [<-Bool.not_eq_true,e];constructor
 .intro q t k l;refine Rat.not_lt.1 λc=>q ⟨t,k,l,?_⟩;unfold fmZ;rw [Zvq (Yhg ..),Ybc];exact c
 .rintro p ⟨t,k,l,c⟩;unfold fmZ at c;rw [Zvq (Yhg ..),Ybc]at c;exact absurd (p t k l) (Rat.not_le.2 c)
theorem sq_le{a b c:Rat}(f:0<=a)(h:a<=b):(a*c)*(a*c)<=(b*c)*(b*c):=by have e:=aH (show 0<=b-a by grind) (show 0<=b+a by grind);have g:=aH e (sq_nn c);grind
theorem Yrl{n e g:Int}(d:Int){f:Int}{x y z i j h:List Int}(t:Rat)(k:0<=e)(l:e<=D)(m:0<=n)(o:n<=g):fvE D n d f ov2 x y z i j h t<=fvE e g d f ov2 x y z i j h t:=by
 have p:(0:Rat)<=(e:Rat):=by exact_mod_cast k
 have q:(e:Rat)<=(D:Rat):=by exact_mod_cast l
 have r:(0:Rat)<=(n:Rat):=by exact_mod_cast m
 have s:(n:Rat)<=(g:Rat):=by exact_mod_cast o
 have u:=sq_le (c:=(d:Rat)*(f:Rat)*(ov2:Rat)) p q;have v:=sq_le (c:=dfA z h f ov2 t) r s;unfold fvE;grind
def fvU(D n d:Int)(g h:Zom)(t:Rat):Rat:=fvE D n d g.1.2.2 h.1.2.2 g.2.1 g.2.2.1 g.2.2.2 h.2.1 h.2.2.1 h.2.2.2 t
theorem Yrn(l:List GpU):(Hu l).2.2=false↔∀g∈l,Ky g.2.2=false:=by
 constructor
 .intro h g c;cases he:Zfz l with
  | some q=>unfold Hu at h;rw [he]at h;cases h
  | none=>
   have:=jL.1 he g c;cases hn:Ky g.2.2 with
   | false=>rfl
   | true=>exact absurd hn this
 .intro h;have:Zfz l=none:=jL.2 λg c=>by rw [h g c];exact eI
  unfold Hu;rw [this]
theorem Yg0{α β γ:Type}(f:α->β->γ)(x:γ):∀(l:List α) (m:List β),x∈List.zipWith f l m↔∃g h,(g,h)∈l.zip m/\f g h=x
 | [],m=>O5
 | _::_,[]=>O5
 | a::l,b::m=>by
  rw [lW,bB,Yg0 f x l m,List.zip_cons_cons];constructor
  .rintro(rfl|⟨g,h,i,e⟩)
   .exact⟨a,b,.head _,rfl⟩
   .exact⟨g,h,.tail _ i,e⟩
  .rintro⟨g,h,i,e⟩;rcases bB.1 i with c|c
   .cases c;exact .inl e.symm
   .exact .inr ⟨g,h,c,e⟩
theorem ap_e2{n:Int} : Dn D n d a b=true↔Lt a b=0/\(Hu (Nl D n d a b)).2.2=false:=by unfold Dn;rw [aR,dA,fB]
theorem Zz5{n:Int}(f:∀g∈Nl D n d a b,Cvd g.2.2):Dn D n d a b=true↔Lt a b=0/\∀g h,(g,h)∈(Lu a b a).zip (Lu a b b)->∀t:Rat,0<=t->t<=1->0<=fvU D n d g h t:=by
 rw [ap_e2,Yrn];have c:∀x,x∈Nl D n d a b↔∃g h,(g,h)∈(Lu a b a).zip (Lu a b b)/\gpZ D n d g h=x:=λx=>Yg0 _ x _ _;generalize (Lu a b a).zip (Lu a b b)=Z at c;generalize Nl D n d a b=L at c f;refine and_congr nU ⟨λh g q k=>?_,λh g l=>?_⟩
 .have j:gpZ D n d g q∈L:=(c _).2 ⟨g,q,k,rfl⟩;have i:=f _ j;have m:=h _ j;simp only [gpZ]at i m;exact(negZ i).1 m
 .obtain⟨p,q,k,e⟩:=(c g).1 l;have i:=f g l;rw [<-e]at i ⊢;simp only [gpZ]at i ⊢;exact(negZ i).2 (h p q k)
theorem Yte{n f j:Int}(i:∀g∈Nl D n d a b,Cvd g.2.2)(c:∀g∈Nl f j d a b,Cvd g.2.2)(k:0<=f)(l:f<=D)(m:0<=n)(o:n<=j)(h:Dn D n d a b=true):Dn f j d a b=true:=by obtain⟨e,p⟩:=(Zz5 i).1 h;exact(Zz5 c).2 ⟨e,λg q r t t0 t1=>lQ (p g q r t t0 t1) (Yrl d t k l m o)⟩
def lastB(ps:List Zl)(t:Int):Bool:=decide (spF ps<=t) && decide (t<=spL ps)
def exI(ps:List Zl)(t:Int):Nat:=ps.findIdx λg=>decide (t<=g.1.2.1)
def exA(ps:List Zl)(t:Int):Int:=t-(ps.getD (exI ps t) G0).1.1
def exD(ps:List Zl)(t:Int):Int:=(ps.getD (exI ps t) G0).1.2.1-(ps.getD (exI ps t) G0).1.1
def exO(ps:List Zl)(t:Int):Int:=(ps.getD (exI ps t) G0).1.2.2*exD ps t^5/gS (ps.getD (exI ps t) G0).1.2.2 (exA ps t) (exD ps t) (ps.getD (exI ps t) G0).2.1.2 (ps.getD (exI ps t) G0).2.2.1.2 (ps.getD (exI ps t) G0).2.2.2.2 3
def exL(ps:List Zl)(t:Int):List Int:=Zoj ((ps.getD (exI ps t) G0).1.2.2*exD ps t^5) (mk 3 (plC (exA ps t) (exD ps t) (ps.getD (exI ps t) G0).2.1.2 (ps.getD (exI ps t) G0).2.2.1.2 (ps.getD (exI ps t) G0).2.2.2.2))
section
variable {P:Program} {N:Nat} {sc:Nat->Prop} {env:Pu} {H:Hp}
end
end Go.Sky
namespace Go.Sky
def exC(ps:List Zl)(t:Int)(c:List Int):Int:=pl c (exA ps t) (exD ps t)/gS (ps.getD (exI ps t) G0).1.2.2 (exA ps t) (exD ps t) (ps.getD (exI ps t) G0).2.1.2 (ps.getD (exI ps t) G0).2.2.1.2 (ps.getD (exI ps t) G0).2.2.2.2 3
def spX(g:Zl)(i:Nat)(s:Rat):Rat:=Zg (Zu i g.2.1.2 g.2.2.1.2 g.2.2.2.2) s
def exN(ps:List Zl)(t:Int)(i:Nat):Int:=exC ps t (Zu i (ps.getD (exI ps t) G0).2.1.2 (ps.getD (exI ps t) G0).2.2.1.2 (ps.getD (exI ps t) G0).2.2.2.2)
def rdN(ps:List Zl)(t:Int)(i:Nat):Int:=(exN ps t i+exN ps t i+exO ps t)/(exO ps t+exO ps t)
def rdL(ps:List Zl)(t:Int):Nat->List Int
 | 0=>[0,0,0]
 | i+1=>(rdL ps t i).set i (rdN ps t i)
structure AtB (n o:Int):Prop where
 b1:bl n.natAbs<=30000
 b2:bl o.natAbs<=30000
 n2:bl (n+n).natAbs<=30000
 o2:bl (o+o).natAbs<=30000
 s:bl (n+n+o).natAbs<=30000
 z:o+o≠0
 q:((n+n+o)/(o+o)).natAbs<=9223372036854775807
section
variable {P:Program} {N:Nat} {sc:Nat->Prop} {env:Pu} {H:Hp}
end
end Go.Sky
namespace Go.Sky
def SmP(g:Zl)(s:Rat)(h:Zl)(u:Rat):Prop:=∀i,i<3->spX g i s*(h.1.2.2:Rat)=spX h i u*(g.1.2.2:Rat)
def SmP.symm{g h:Zl}{s u:Rat}(e:SmP g s h u):SmP h u g s:=λi hi=>(e i hi).symm
def SmP.trans{g h k:Zl}{s u v:Rat}(a:(h.1.2.2:Rat)≠0)(e:SmP g s h u)(f:SmP h u k v):SmP g s k v:=λi hi=>by
 have b:=e i hi;have c:=f i hi;have:(spX g i s*(k.1.2.2:Rat)-spX k i v*(g.1.2.2:Rat))*(h.1.2.2:Rat)=0:=O4;rcases fR.1 this with q|q
 .grind
 .exact absurd q a
def sTm(g:Zl)(t:Int):Rat:=((t-g.1.1:Int):Rat)/((g.1.2.1-g.1.1:Int):Rat)
def cvS{D:Int}{a b:List Zl}(e:∀g∈a,Gin g)(f:∀g∈b,Gin g)(c:Xy a=true)(d:Xy b=true)(h:dsB D=true):∀g∈Nl D 1 1 a b,Cvd g.2.2:=Ym1 e f c d h (Yaf (Lu a b a)) (Yaf (Lu a b b))
section
variable {D n d:Int} {a b:List Zl} (hpa:∀g∈a,Gin g) (hpb:∀g∈b,Gin g) (hba:Xy a=true) (hbb:Xy b=true) (hz:znB D n d=true)
include hpa hpb hba hbb hz
end
end Go.Sky
namespace Go.Sky
variable{h:Int×Int}{i m:Nat}{zs:List GpT}
def NrP(a b:List Zl)(g:Int×Int):Prop:=
 (Lt a b≠0/\g=(0,Lt a b))\/(Lt a b=0/\Nl 0 1 1 a b=[]/\g=(0,9))\/
  (Lt a b=0/\Nl 0 1 1 a b≠[]/\g.2=0/\0<=g.1/\g.1<=4194304/\∀k,1<=k->k<=4194304->Dn k 1 1 a b=decide (k<=g.1))
theorem Zvp{a b:List Zl}{g:Int×Int}(c:NrP a b g)(r:NrP a b h):g=h:=by
 rcases c with⟨c,rfl⟩|⟨c,k,rfl⟩|⟨c,k,s,w,x,p⟩<;>rcases r with⟨d,rfl⟩|⟨d,j,rfl⟩|⟨d,j,q,u,v,o⟩
 .rfl
 .exact absurd d c
 .exact absurd d c
 .exact absurd c d
 .rfl
 .exact absurd k j
 .exact absurd c d
 .exact absurd j k
 .obtain⟨n,e⟩:=g;obtain⟨m,t⟩:=h;dsimp only at *;subst s q;rcases lD n m with h|h|h
  .have l:=p m O O;have f:=o m O O;rw [l,aJ (eN m)]at f;have:=cF f;omega
  .rw [h]
  .have l:=p n O O;have f:=o n O O;rw [l,aJ (eN n)]at f;have:=cF f.symm;omega
section
variable {a b:List Zl} (hpa:∀g∈a,Gin g) (hpb:∀g∈b,Gin g) (hba:Xy a=true) (hbb:Xy b=true)
include hpa hpb hba hbb
theorem ap_dn{D E:Int}(c:0<=E)(d:E<=D)(e:D<=4194304)(h:Dn D 1 1 a b=true):Dn E 1 1 a b=true:=
 Yte (cvS hpa hpb hba hbb (by unfold dsB;rw [aJ O,aJ O];rfl)) (cvS hpa hpb hba hbb (by unfold dsB;rw [aJ O,aJ O];rfl)) c d O3 O3 h
end
def NrS(a b:List Zl)(r:Nat):Prop:=r<=4194304/\(∀k,k<r->Dn ((k:Int)+1) 1 1 a b=true)/\∀k,r<=k->k<4194304->Dn ((k:Int)+1) 1 1 a b=false
def Yqw{a b:List Zl}{j:Nat}(l:i<=j/\j<=4194304)(f:¬i<j)(d:∀k,k<i->Dn ((k:Int)+1) 1 1 a b=true)(e:∀k,j<=k->k<4194304->Dn ((k:Int)+1) 1 1 a b=false):NrS a b i:=
 ⟨O,d,λk n c=>e k O c⟩
theorem nr_end{a b:List Zl}(q:zs.map Bc=Nl 0 1 1 a b)(c:¬Lt a b≠0)(o:¬zs.length=0)(h:NrS a b i):NrP a b ((i:Int),0):=by
 obtain⟨r,d,j⟩:=h;refine .inr (.inr ⟨fD.1 c,λe=>o ?_,rfl,O9,O9,λk l n=>?_⟩)
 .rw [<-aT (f:=Bc),q,e];rfl
 .obtain⟨m,rfl⟩:∃m:Nat,k=(m:Int)+1:=⟨(k-1).toNat,O⟩;by_cases p:m<i
  .rw [d m p,aJ O9]
  .rw [j m O O,aF O9]
theorem ds_in{k:Int}(c:0<=k)(d:k<=4194304):dsB k=true:=by unfold dsB;rw [aJ c,aJ d];rfl
section
variable {a b:List Zl} (hpa:∀g∈a,Gin g) (hpb:∀g∈b,Gin g) (hba:Xy a=true) (hbb:Xy b=true)
include hpa hpb hba hbb
theorem nrS_t(d:m<4194304)(h:Dn ((m:Int)+1) 1 1 a b=true)(k:Nat)(c:k<m+1):Dn ((k:Int)+1) 1 1 a b=true:=ap_dn hpa hpb hba hbb (D:=(m:Int)+1) O O O h
theorem nrS_f(h:Dn ((m:Int)+1) 1 1 a b=false)(k:Nat)(d:m<=k)(c:k<4194304):Dn ((k:Int)+1) 1 1 a b=false:=by
 cases hc:Dn ((k:Int)+1) 1 1 a b with
 | false=>rfl
 | true=>rw [ap_dn hpa hpb hba hbb (D:=(k:Int)+1) (E:=(m:Int)+1) O O O hc]at h;cases h
end
theorem Yqv{a b:List Zl}(e:zs.map Bc=Nl 0 1 1 a b)(c:¬Lt a b≠0)(d:zs.length=0):NrP a b (0,9):=by refine .inr (.inl ⟨fD.1 c,?_,rfl⟩);rw [<-e,aC d];rfl
theorem nr_is{a b:List Zl}{g:Int×Int}{n:Int}(h:NrP a b g)(j:Lt a b=0)(p:Nl 0 1 1 a b≠[])(s:1<=n/\n<4194304)(k:Dn n 1 1 a b=true)(l:Dn (n+1) 1 1 a b=false):g=(n,0):=by
 rcases h with⟨h,-⟩|⟨-,h,-⟩|⟨-,-,o,q,r,c⟩
 .exact absurd j h
 .exact absurd h p
 .obtain⟨m,e⟩:=g;dsimp only at *;subst o;have d:=c n O O;have f:=c (n+1) O O;rw [k]at d;rw [l]at f;have t:=cF d.symm;have u:=iF f.symm;rw [show m=n by omega]
def Yld(fr n d e f j c l k:Int)(s:SL×SL×SL):Zl:=((fr,n,1),(s.1,Dw d j k),(s.2.1,Dw e c k),(s.2.2,Dw f l k))
def Ae(s:SL×SL×SL):Zl:=Yld 0 1000 0 0 0 1000 0 0 1 s
def gv1(s:SL×SL×SL):Zl:=Yld 0 1000 1000 300 0 0 300 0 1 s
def gv2(s:SL×SL×SL):Zl:=Yld 500 2000 0 700 0 0 700 0 2 s
def gvL(s:SL×SL×SL):Zl:=Yld 1000 2000 0 0 0 1000 0 0 1 s
def gf_1:fmZ 300 1 1 1 1 (Dw 0 1000 1) (Dw 0 0 1) (Dw 0 0 1) (Dw 1000 0 1) (Dw 300 300 1) (Dw 0 0 1)=tzl [1,-4,4]:=O7
def gf_2:fmZ 400 1 1 1 1 (Dw 0 1000 1) (Dw 0 0 1) (Dw 0 0 1) (Dw 1000 0 1) (Dw 300 300 1) (Dw 0 0 1)=tzl [93,-400,400]:=O7
def gs_0:Bd 0 1000 1 (Dw 0 1000 1) (Dw 0 0 1) (Dw 0 0 1)=true:=O7
def gs_1:Bd 0 1000 1 (Dw 1000 0 1) (Dw 300 300 1) (Dw 0 0 1)=true:=O7
section
variable (s t:SL×SL×SL)
def Zj6:Xy [Ae s]=true:=O6
def Ygb:Xy [gv1 s]=true:=O6
def gp_2:Xy [gv2 s]=true:=O6
def gp_L:Xy [gvL s]=true:=O6
def Ygf:Lt [Ae s] [gv1 t]=0:=O6
def ge_2:Lt [Ae s] [gv2 t]=0:=O6
def ge_L:Lt [Ae s] [gvL t]=0:=O6
def gz_L:Nl 0 1 1 [Ae s] [gvL t]=[]:=O6
def gz_1:(Nl 0 1 1 [Ae s] [gv1 t]).isEmpty=false:=O6
def gz_2:(Nl 0 1 1 [Ae s] [gv2 t]).isEmpty=false:=O6
def Ylv:Dn 300 1 1 [Ae s] [gv1 t]=true:=O6
def ga_2:Dn 301 1 1 [Ae s] [gv1 t]=false:=O6
def ga_3:Dn 860 1 1 [Ae s] [gv2 t]=true:=O6
def ga_4:Dn 861 1 1 [Ae s] [gv2 t]=false:=O6
def ga_5:Dn 300 1 1 [Ae s] [gv2 t]=true:=O6
def ga_6:Dn 300 1 1 [gv1 s] [gv2 t]=true:=O6
def gz_3:Nl 860 1 1 [Ae s] [gv2 t]=[(500,1000,tzl [1,1250,625])]:=O6
def gf_3:Hu (Nl 301 1 1 [Ae s] [gv1 t])=(0,1000,true):=O6
end
end Go.Sky
namespace Go.Sky
variable{k:Nat}{qs zs:List Zl}{s:SL×SL×SL}{gs:List (Int×SL)}
def shG(b:Int)(g:Zl):Zl:=((g.1.1+b,g.1.2.1+b,g.1.2.2),g.2)
def shK(b:Int)(ps:List Zl)(k:Nat):List Zl:=(ps.take k).map (shG b) ++ ps.drop k
theorem shK_0(b:Int)(ps:List Zl):shK b ps 0=ps:=by unfold shK;simp
theorem On(b:Int)(ps:List Zl)(k:Nat):(shK b ps k).length=ps.length:=by unfold shK;simp;omega
theorem Ypk(b:Int)(ps:List Zl):shK b ps ps.length=ps.map (shG b):=by unfold shK;simp
theorem Zqk{b:Int}{ps:List Zl}(a:k<ps.length):(shK b ps k).getD k G0=ps.getD k G0:=by unfold shK;rw [aK,fA O8,mX,aK];congr 2;simp;omega
abbrev shA (b:Int) (x:Zl):Zl:=((x.1.1+b,x.1.2.1,x.1.2.2),x.2)
abbrev shB (b:Int) (x:Zl):Zl:=((x.1.1,x.1.2.1+b,x.1.2.2),x.2)
theorem Yim{ps:List Zl}{z:Zl}(a:k<ps.length):(ps.set k z).getD k G0=z:=by rw [aK,lT a];rfl
theorem shK_s{b:Int}{ps:List Zl}(a:k<ps.length) :
  ((shK b ps k).set k (shA b ((shK b ps k).getD k G0))).set k (shB b (((shK b ps k).set k (shA b ((shK b ps k).getD k G0))).getD k G0))=shK b ps (k+1):=by
 rw [Yim (by rw [On];exact a),List.set_set,Zqk a];unfold shK;have c:((ps.take k).map (shG b)).length=k:=O8;rw [jZ _ _ O,c,fI];have d:ps.drop k=ps.getD k G0::ps.drop (k+1):=by rw [eC a,aK,aN a];rfl
 rw [d,kT];have e:ps.take (k+1)=ps.take k ++ [ps.getD k G0]:=by rw [lG,aN a,aK,aN a];rfl
 rw [e,dD,eJ];rfl
theorem Ypl{b:Int}{ps:List Zl}(a:k<ps.length):((shK b ps k).set k (shA b ((shK b ps k).getD k G0))).getD k G0=shA b (ps.getD k G0):=by rw [Yim (by rw [On];exact a),Zqk a]
theorem Yq3(b:Int)(ps:List Zl):Nb qG ps=Nb qG (ps.map (shG b)):=by
 unfold Nb;congr 1
 .funext w;exact propext ⟨λ⟨z,a,h⟩=>⟨shG b z,eH.2 ⟨z,a,rfl⟩,h⟩,λ⟨z,a,h⟩=>by obtain⟨y,c,rfl⟩:=eH.1 a;exact⟨y,c,h⟩⟩
 .funext w;exact propext ⟨λh z a=>by obtain⟨y,c,rfl⟩:=eH.1 a;exact h y c,λh z a=>h (shG b z) (eH.2 ⟨z,a,rfl⟩)⟩
theorem Yhc{ps:List Zl}(h:qs.map Gr=ps.map Gr):qs.length=ps.length:=by have:=aE List.length h;simpa using this
theorem un_gd{ps:List Zl}(h:qs.map Gr=ps.map Gr)(k:Nat):Gr (qs.getD k G0)=Gr (ps.getD k G0):=by have:=aE (λl=>l[k]?) h;simp only [fC]at this;rw [aK,aK];cases h1:qs[k]?<;>cases h2:ps[k]?<;>rw [h1,h2]at this<;>simp_all
theorem un_sh{ps:List Zl}(h:qs.map Gr=ps.map Gr)(b:Int):(qs.map (shG b)).map Gr=(ps.map (shG b)).map Gr:=by
 induction qs generalizing ps with
 | nil=>cases ps with
  | nil=>rfl
  | cons p ps=>cases h
 | cons q qs f=>cases ps with
  | nil=>cases h
  | cons p ps=>
   rw [bP,bP]at h;injection h with h1 h2;rw [bP,bP,bP,bP,f h2];congr 1;unfold Gr at h1 ⊢;unfold shG;simp only [Prod.mk.injEq]at h1 ⊢;obtain⟨a,c,d,e⟩:=h1;exact⟨⟨by rw [a],by rw [a],by rw [a]⟩,c,d,e⟩
theorem sh_bd{ps:List Zl}(d:∀g∈ps,Gin g)(b:Xy ps=true)(h:qs.map Gr=ps.map Gr)(c:k<qs.length):0<=(qs.getD k G0).1.1/\(qs.getD k G0).1.1<(qs.getD k G0).1.2.1/\(qs.getD k G0).1.2.1<=3600000:=by
 have a:k<ps.length:=by rw [<-Yhc h];exact c
 have e:(qs.getD k G0).1=(ps.getD k G0).1:=aE (λu:Zom=>u.1) (un_gd h k);have s:SgG (ps.getD k G0):=Mx (d _ (Zd a)) (Fh ((Ox b).1 _ a));rw [e];exact⟨s.t1,s.t2,s.t3⟩
theorem sp_bd{ps:List Zl}(b:∀g∈ps,Gin g)(a:Xy ps=true):0<=spF ps/\spF ps<=3600000/\0<=spL ps/\spL ps<=3600000:=by have d:=(Ox a).2.1;have s:SgG (ps.getD 0 G0):=Mx (b _ (Zd O)) (Fh ((Ox a).1 _ O));have t:SgG (ps.getD (ps.length-1) G0):=Mx (b _ (Zd O)) (Fh ((Ox a).1 _ O));have c:=s.t1;have e:=s.t2;have f:=s.t3;have t1:=t.t1;have t2:=t.t2;have t3:=t.t3;unfold spF spL;exact⟨c,O,O,t3⟩
theorem Yas(h:qs.map Gr=([Ae s].map (shG 1000)).map Gr):∃t,qs=[gvL t]:=by have b:=aE List.length h;rw [aT,aT,aT]at b;obtain⟨q,rfl⟩:=lY.1 b;have h:[Gr q]=[Gr (shG 1000 (Ae s))]:=h;injection h with h;obtain⟨a,⟨c,d⟩,⟨e,f⟩,⟨g,i⟩⟩:=q;have h:(a,d,f,i)=((0+1000,1000+1000,1),Dw 0 1000 1,Dw 0 0 1,Dw 0 0 1):=h;simp only [Prod.mk.injEq]at h;obtain⟨rfl,rfl,rfl,rfl⟩:=h;exact⟨(c,e,g),rfl⟩
theorem Ysc{ps:List Zl}(h:zs.map Gr=(ps.take k).map Gr)(a:k<ps.length) :
  (zs ++ [(((ps.getD k G0).1,(s.1,(ps.getD k G0).2.1.2),(s.2.1,(ps.getD k G0).2.2.1.2),(s.2.2,(ps.getD k G0).2.2.2.2)):Zl)]).map Gr=(ps.take (k+1)).map Gr:=by
 have b:ps.take (k+1)=ps.take k ++ [ps.getD k G0]:=by rw [lG,aN a,aK,aN a];rfl
 rw [b,dD,dD,h];rfl
def ShR(ps:List Zl)(y:Int)(zs:List Zl)(e:Int):Prop:=(e=3/\(y < -(spF ps)\/y>3600000-spL ps))\/(e=0/\¬y < -(spF ps)/\¬y>3600000-spL ps/\zs.map Gr=(ps.map (shG y)).map Gr)
abbrev S3T:=SL×SL×SL
abbrev GvT:=(S3T×S3T×S3T)×(SL×SL×SL)
def gvs(q:GvT):List PT:=[(q.2.1,[Ae q.1.1]),(q.2.2.1,[gv1 q.1.2.1]),(q.2.2.2,[gv2 q.1.2.2])]
theorem Zkx{fr i c d e f b h k:Int}{s:S3T}(j:Nw fr)(l:Nw i)(m:∀a∈Dw c f k,Nw a)(n:∀a∈Dw d b k,Nw a)(o:∀a∈Dw e h k,Nw a):∀g∈[Yld fr i c d e f b h k s],Gin g:=λg p=>by rw [bI.1 p];exact⟨j,l,show Nw (1:Int)from⟨O3,O3⟩,m,n,o⟩
def Zj7{s:S3T}:∀g∈[Ae s],Gin g:=Zkx ⟨O3,O3⟩ ⟨O3,O3⟩ (Oy O3) (Oy O3) (Oy O3)
def Yge{s:S3T}:∀g∈[gv1 s],Gin g:=Zkx ⟨O3,O3⟩ ⟨O3,O3⟩ (Oy O3) (Oy O3) (Oy O3)
def gg_2{s:S3T}:∀g∈[gv2 s],Gin g:=Zkx ⟨O3,O3⟩ ⟨O3,O3⟩ (Oy O3) (Oy O3) (Oy O3)
def gg_L{s:S3T}:∀g∈[gvL s],Gin g:=Zkx ⟨O3,O3⟩ ⟨O3,O3⟩ (Oy O3) (Oy O3) (Oy O3)
theorem Zr6{q:GvT}{x:PT}(h:x∈gvs q):x=(q.2.1,[Ae q.1.1])\/x=(q.2.2.1,[gv1 q.1.2.1])\/x=(q.2.2.2,[gv2 q.1.2.2]):=by unfold gvs at h;simpa using h
theorem gvs_P{q:GvT}:∀x∈gvs q,∀g∈x.2,Gin g:=λx a=>by
 rcases Zr6 a with rfl|rfl|rfl
 .exact Zj7
 .exact Yge
 .exact gg_2
theorem gvs_V{q:GvT}:Gv (gvs q)=true:=cJ.2 λx a=>by
 rcases Zr6 a with rfl|rfl|rfl
 .exact Zj6 _
 .exact Ygb _
 .exact gp_2 _
theorem gvs_L{q:GvT}:∀x∈gvs q,x.2.length<=5:=λx a=>by rcases Zr6 a with rfl|rfl|rfl<;>exact(by decide:(1:Nat)<=5)
theorem gvs_n{q:GvT}:(gvs q).length<=64:=(by decide:(3:Nat)<=64)
theorem gcl_0(q:GvT):ClR 300 1 1 (gvs q) ((0,0,0,0),false,0):= .inl ⟨rfl,λj k c a d=>by
 have a:k<3:=a;have b:(j=0/\k=1)\/(j=0/\k=2)\/(j=1/\k=2):=O;rcases b with⟨rfl,rfl⟩|⟨rfl,rfl⟩|⟨rfl,rfl⟩
 .exact Ylv _ _
 .exact ga_5 _ _
 .exact ga_6 _ _⟩
theorem gcl_1(q:GvT):ClR 301 1 1 (gvs q) ((0,1,0,1000),true,0):=by refine .inr ⟨0,1,O3,(by decide:(1:Nat)<3),clA_0,clB_0,ga_2 _ _,?_⟩;have a:Hu (Nl 301 1 1 (Ck (gvs q) 0) (Ck (gvs q) 1))=(0,1000,true):=gf_3 _ _;have b:Lt (Ck (gvs q) 0) (Ck (gvs q) 1)=0:=Ygf _ _;unfold clV;rw [a,b];rfl
def gnr_L{s t:S3T}:NrP [Ae s] [gvL t] (0,9):= .inr (.inl ⟨ge_L s t,gz_L s t,rfl⟩)
theorem Yks{α:Type}{l:List α}(h:l.isEmpty=false):l≠[]:=λe=>by rw [e]at h;cases h
def gsp_0(s:S3T):spF [Ae s]=0:=rfl
def gsl_0(s:S3T):spL [Ae s]=1000:=rfl
theorem Yf9{a b c:Int}(e:Nw a)(f:Nw b)(g:Nw c):∀x∈[a,b,c],Nw x:=λx d=>by simp only [bB,dI,gR]at d;rcases d with rfl|rfl|rfl<;>assumption
theorem Yak{l:List Int}(c:∀x∈l,Nw x)(e:l.length<=1000)(a:Zb gs=tzl l):Sz 1000000 (Zb gs)/\gs.length<=1000:=by have b:=aE List.length a;rw [Zi]at b;have d:=Mc l;refine⟨?_,O⟩;rw [a];exact(Sz.tzl (Zkf c)).mono O
def NrL(a b:List Zl)(c hi:Int):Prop:=0<=c/\c<=hi/\hi<=4194304/\(∀k,1<=k->k<=c->Dn k 1 1 a b=true)/\∀k,hi<k->k<=4194304->Dn k 1 1 a b=false
section
variable {a b:List Zl} (hpa:∀g∈a,Gin g) (hpb:∀g∈b,Gin g) (hba:Xy a=true) (hbb:Xy b=true)
include hpa hpb hba hbb
end
end Go.Sky
namespace Go.Sky
variable{c:List Int}{ov ov2 zd:Int}{ls:List PT}{m:Nat}{vx vy vz vx2 vy2 vz2 va vb:Value}{zs:List GpT}
theorem cmp_cf(h:AxC c ov)(D:Int)(i:Nat):cf (Qu c 0 D D) i=cf c i*D^5:=by
 have:=Nk (p:=Qu c 0 D D) (q:=Zr c (D^5)) (λu=>by rw [Zda h (t:=u) (u:=u) (by push_cast;grind),Gb,Zcp]) i
 rw [this,Yi]
theorem Zzp(h:AxC c ov){D:Int}:∀x∈Qu c 0 D D,D^5∣x:=λx a=>by
 obtain⟨i,hi,rfl⟩:=cW.1 a;have e:cf (Qu c 0 D D) i=(Qu c 0 D D)[i]:=by unfold cf;rw [aK,aN hi];rfl
 rw [<-e,cmp_cf h];exact lM _ _
def Ycn{G:Int} : ∀(l:List Int) (o:Int),G∣o->(∀x∈l,G∣x)->G∣Ma o l
 | [],_,h,_=>h
 | x::r,o,h,hx=>Ycn r _ (Int.dvd_coe_gcd h (hx x (bK ..))) λy a=>hx y (bE _ a)
theorem Ygq{g:Zl}(v:Gin g)(k:seB g=true):Ze4 g.1.1 g.1.2.1 g=true:=by
 have s:=Mx v k;have t2:=s.t2;have y:=s.o1;have w:=s.o2;obtain⟨l,n,o⟩:=Zqo k;have p:cA g.1.1 g-g.1.1=0:=by show max g.1.1 g.1.1-g.1.1=0;omega
 have q:cB g.1.2.1 g-cA g.1.1 g=g.1.2.1-g.1.1:=by show min g.1.2.1 g.1.2.1-max g.1.1 g.1.1=_;omega
 have e:∀c,cX g.1.1 g.1.2.1 g c=Qu c 0 (g.1.2.1-g.1.1) (g.1.2.1-g.1.1):=λc=>by unfold cX;rw [p,q]
 have r:0<(g.1.2.1-g.1.1)^5:=jN O;have u:(g.1.2.1-g.1.1)^5∣cG g.1.1 g.1.2.1 g:=by
  unfold cG Kk;refine Ycn _ _ (lM _ _) λx a=>?_;have a:x∈cX g.1.1 g.1.2.1 g g.2.1.2 ++ cX g.1.1 g.1.2.1 g g.2.2.1.2 ++ cX g.1.1 g.1.2.1 g g.2.2.2.2:=a;rw [e,e,e,cP,cP]at a;rcases a with(a|a)|a
  .exact Zzp l x a
  .exact Zzp n x a
  .exact Zzp o x a
 have t:0<cO g:=fU O r;have f:0<=cG g.1.1 g.1.2.1 g:=Zeu _ _ (dV t);have d:cG g.1.1 g.1.2.1 g∣cO g:=(Zr8 _ _).1;have j:0<cG g.1.1 g.1.2.1 g:=by
  rcases nB f with h|h
  .exact h
  .rw [<-h]at d;have:=nK.1 d;omega
 have i:=kE j u;unfold Ze4;refine aJ ?_;refine nM (Int.ediv_le_of_le_mul j (b:=g.1.2.2) ?_) w;exact fL i O
theorem path_1{g:Zl}(h:Xy [g]=true):seB g=true:=by have a:=Fh (ps:=[g]) (i:=0) ((Ox h).1 0 (eO));exact a
theorem Yls{g:Zl}(l:Gin g)(h:Xy [g]=true):Lt [g] [g]=0:=by
 have k:=path_1 h;have t2:=(Mx l k).t2;have b:cmF [g] [g]=g.1.1:=by show max g.1.1 g.1.1=_;omega
 have eL:cmL [g] [g]=g.1.2.1:=by show min g.1.2.1 g.1.2.1=_;omega
 have B:=bks [g] [g] (by rw [b,eL];exact t2);have o:∀x∈Ny [g] [g],x=g.1.1\/x=g.1.2.1:=λx i=>by
  rcases Br.1 i with a|a|⟨a,F,f|f⟩
  .exact .inl (a.trans b)
  .exact .inr (a.trans eL)
  .obtain⟨y,j,e⟩:=f;rw [bI.1 j]at e;omega
  .obtain⟨y,j,e⟩:=f;rw [bI.1 j]at e;omega
 have s:Pw g.1.1 g.1.2.1 [g]=true:=by unfold Pw;refine cJ.2 λx i=>?_;rw [bI.1 (gE.1 i).1];exact Ygq l k
 have t:∀n,n+1<=(Ny [g] [g]).length->Dd (Ny [g] [g]) [g] [g] n=true:=λn=>by
  induction n with
  | zero=>intro _;rfl
  | succ n u=>
   intro G;show(Dd (Ny [g] [g]) [g] [g] n && (Pw ((Ny [g] [g]).getD n 0) ((Ny [g] [g]).getD (n+1) 0) [g] && Pw ((Ny [g] [g]).getD n 0) ((Ny [g] [g]).getD (n+1) 0) [g]))=true;obtain⟨w,z,D⟩:=B.lt n O;have H:=o _ (Zd (d:=0) (show n<(Ny [g] [g]).length by omega));have I:=o _ (Zd (d:=0) (show n+1<(Ny [g] [g]).length by omega));have p:(Ny [g] [g]).getD n 0=g.1.1:=O;have q:(Ny [g] [g]).getD (n+1) 0=g.1.2.1:=O;rw [u O,p,q,s];rfl
 have v:=B.two;have r:De [g] [g]=0:=by unfold De Zzn;rw [aG (by rw [b,eL];omega),t _ O];rfl
 unfold Lt;rw [r];rfl
theorem fv_nn(d:Int){x y z f g i:List Int}(t:Rat):0<=fvE 0 1 1 ov ov2 x y z f g i t:=by
 unfold fvE;have e:∀r:Rat,0<=r*r:=λr=>by
  rcases Rat.le_total (a:=0) (b:=r)with h|h
  .exact aH h h
  .have:=aH (a:=-r) (b:=-r) O4 O4;grind
 have j:=e (dfA x f ov ov2 t);have k:=e (dfA y g ov ov2 t);have l:=e (dfA z i ov ov2 t);push_cast;grind
def Ytd{a b:List Zl}(f:∀g∈a,Gin g)(i:∀g∈b,Gin g)(d:Xy a=true)(e:Xy b=true)(h:Lt a b=0):Dn 0 1 1 a b=true:=
 (Zz5 (cvS f i d e O3)).2 ⟨h,λg j _ t _ _=>fv_nn 1 t⟩
theorem Ygs(o:∀x∈ls,∀g∈x.2,Gin g)(p:Gv ls=true)(l:0<ls.length)(n:(ls.getD 0 Hj).2.length=1):ClR 0 1 1 (List.replicate m (ls.getD 0 Hj)) ((0,0,0,0),false,0):=by
 have h:ls.getD 0 Hj∈ls:=Zd l;refine .inl ⟨rfl,λj k r d f=>?_⟩;rw [aO]at d f;have e:∀i,i<m->Ck (List.replicate m (ls.getD 0 Hj)) i=(ls.getD 0 Hj).2:=λi hi=>by unfold Ck;rw [aK,jO,aM hi];rfl
 rw [e j f,e k d];obtain⟨g,q⟩:=lY.1 n;have b:=o _ h;have a:=Ek p h;rw [q]at b a ⊢;exact Ytd b b a a (Yls (b g (bI.2 rfl)) a)
open Go.Proofs
theorem Yq0(w:World){a b c d:Int}:(binOp .neq 64 (.agg #[.int .i64 a,.int .i64 b,.int .i64 c,.int .i64 d]) (.agg #[.int .i64 a,.int .i64 b,.int .i64 c,.int .i64 d])).run Tryz.prog w= .ok (.bool false) w:=by rw [run_neq_struct,inCl];rfl
theorem rep_P(b:∀x∈ls,∀g∈x.2,Gin g)(a:0<ls.length):∀x∈List.replicate m (ls.getD 0 Hj),∀g∈x.2,Gin g:=λx d=>by rw [jG d];exact b _ (Zd a)
theorem rep_V(b:Gv ls=true)(a:0<ls.length):Gv (List.replicate m (ls.getD 0 Hj))=true:=cJ.2 λx d=>by rw [jG d];exact Ek b (Zd a)
theorem rep_L(b:∀x∈ls,x.2.length<=5)(a:0<ls.length):∀x∈List.replicate m (ls.getD 0 Hj),x.2.length<=5:=λx d=>by rw [jG d];exact b _ (Zd a)
open Go.Proofs.Tryz
set_option synthInstance.maxHeartbeats 0
set_option synthInstance.maxSize 100000
set_option maxRecDepth 20000
set_option linter.unusedSimpArgs false
theorem Zbg:Qa prog 93 #[.int .i64 zd] [] (.bool (dsB zd)):=by
 refine Zh func93 ntmps93 λf e d a=>go 10 ?_;refine Xd 5 J (λb=>?_) (λb=>?_)
 .refine go 7 ?_;exact Xj a () results93 (by unfold dsB;first|(simp_all;done)|(simp_all;omega)) aA Za
 .refine go 7 ?_;exact Xj a () results93 (by unfold dsB;first|(simp_all;done)|(simp_all;omega)) aA Za
theorem Zlz{o p:Value}{d:List Int}{fr w h l:Int}(b:FmX c d ov ov2 1)(s:∀a∈c,Nw a)(e:c.length<=6)(t:∀a∈d,Nw a)(f:d.length<=6)(u:Nw ov)(i:Nw ov2):Cal prog 161 #[o,p,.agg #[.int .i64 fr,.int .i64 w,.int .i64 ov,vx,vy,vz],.agg #[.int .i64 h,.int .i64 l,.int .i64 ov2,vx2,vy2,vz2]] [Yy 1 Yk o c,Yy 1 Yk p d] true (G:=SL×List Int) (λg=>g.2=dfP c d ov ov2) (λg=>Xl g.1) (λg=>[Yy 2 wv (Xl g.1) g.2]):=by refine Zh func161 ntmps161 λB z y j=>go 2 ?_;refine Yg (Yp 3) λx _=>Yg (Yp 4) λn _=>go 6 ?_;refine cl 5 [1] (Zgy s (aB e O3)) λ_ _=>?_;refine Xe (Nq 5 (q:=Yy 2 wv _ (tzl c)) (aE (Yy 2 wv _) (aG (Zqa e))) J J)<|go 10 ?_;refine cl 6 [2] (Zgy t (aB f O3)) λ_ _=>?_;refine Xe (Nq 6 (q:=Yy 2 wv _ (tzl d)) (aE (Yy 2 wv _) (aG (Zqa f))) J J)<|go 12 ?_;refine cl 6 [] (Yb ov2 i) λ_ _=>cl 7 [5] (Kx ov2 b.v1 b.b1 b.s1) λ_ _=>go 11 ?_;refine cl 7 [] (Yb ov u) λ_ _=>cl 8 [6] (Kx ov b.v2 b.a1 b.s2) λ_ _=>go 10 ?_;refine cl 9 [7,8] (Yj1 (Zr (tzl c) ov2) (Zr (tzl d) ov) b.v3 b.v4 b.s3) λ_ _=>?_;refine Xe (Nq 9 (q:=Yy 2 wv _ (dfP c d ov ov2)) (aE (Yy 2 wv _) J) J J)<|go 13 ?_;refine Ztv (Xo 9 J Zq) (λv k=>?_);subst k;generalize dfP c d ov ov2=r;exact Xj j (v,r) results161 J J (Pq 9 Za)
theorem Ya1{fr P p r:Int}{x y z e f h:List Int}(j:Sgo fr P ov x y z)(b:Sgo p r ov2 e f h)(R:∀i,Ab KA (tzl (Zu i x y z)))(u:∀i,Ab KA (tzl (Zu i e f h)))(H:dsB zd=true):Cal prog 94 #[.agg #[.int .i64 fr,.int .i64 P,.int .i64 ov,vx,vy,vz],.agg #[.int .i64 p,.int .i64 r,.int .i64 ov2,vx2,vy2,vz2],.int .i64 zd] [Yy 1 Yk vx x,Yy 1 Yk vy y,Yy 1 Yk vz z,Yy 1 Yk vx2 e,Yy 1 Yk vy2 f,Yy 1 Yk vz2 h] true (G:=SL×List Int) (λg=>g.2=fmZ zd 1 1 ov ov2 x y z e f h) (λg=>Xl g.1) (λg=>[Yy 2 wv (Xl g.1) g.2]):=by
 refine Zh func94 ntmps94 λw0 sc V D=>?_;have l:=fsX j b R u H;refine go 2 ?_;refine Yg (Yp 7) λZ _=>Yg (Yp 8) λI _=>go 5 ?_;refine tt (Xs [(0,_)] 9 (enc:=Yk) ([-1]:List Int) J J K2 Pn ti3 J J J J J pZ.cells J J V.h) (λv _=>?_);refine Xe (Xn 9 J J pZ)<|cl 10 [9] (Zgy (λa S=>by rw [bI.1 S];exact⟨O3,O3⟩)) λ_ _=>?_;refine Xe (Nq 10 (q:=Yy 2 wv _ [-1]) (aE (Yy 2 wv _) tzlm1) J J)<|go 15 ?_;refine dt (Qf [(0,_),(1,_),(2,_)] J K6 (λa w hs=>Yn3 ((Yd J) a w hs) ((Yd J) a w hs) ((Yd J) a w hs)))<|go 4 ?_;refine Zf (Xu 10 80 J J J)<|lp (G:=Nat×Value) [3,4,23] [0,1,2,3,4,5,6,7,8,9,10] (λq=>[(24,.int .i64 (q.1:Int)),(7,q.2)]) (λq=>[(80,Yy 2 wv q.2 (ngC [zd,ov,ov2] q.1))]) (λq=>q.1<=3) (λq=>3-q.1) (0,_) O1 K2 K1 ?_;rintro⟨i,Y⟩ hi;dsimp only at hi;dsimp only;have d:=l.N i hi;refine go 6 ?_;refine Ze J (λs=>?_) (λs=>?_)
 .refine go 6 ?_;refine dt (d_ix3i (i:=i) J J J underlying165 Ki iA3 J O)<|go 7 ?_;refine cl 10 [] (Yb ([zd,ov,ov2].getD i 0) d.inn) λ_ _=>cl 11 [80] (Kx (xs:=(ngC [zd,ov,ov2] i)) ([zd,ov,ov2].getD i 0) d.v d.b d.s) λ_ _=>go 9 ?_;refine cl 11 [] (Yb ([zd,ov,ov2].getD i 0) d.inn) λ_ _=>cl 12 [11] (Kx (xs:=(Zr (ngC [zd,ov,ov2] i) ([zd,ov,ov2].getD i 0))) ([zd,ov,ov2].getD i 0) d.v2 d.b d.s2) λ_ _=>?_;refine go 11 ⟨O,?_⟩;exact Zs (Xu 12 80 J J J)<|Yf (i+1,_) O1 O1 K2 K1
 .obtain rfl:i=3:=O;refine go 7 ?_;refine Qd (λ_=>False) [(0,0),(1,0),(2,0),(3,0),(4,0),(5,0),(7,0),(8,0),(9,0),(10,0),(11,0),(12,0),(14,0),(15,0),(16,0),(17,0),(18,0),(19,0),(22,0),(6,1),(13,1),(20,1),(21,0)]<|go 19 ?_;refine Yv (Zm 13 [1,4] (Zlz (l.X 0) (j.hc 0) (j.lc 0).2 (b.hc 0) (b.lc 0).2 (Zpp j) (Zpp b))) λfq B=>Yv (Zm 14 [2,5] (Zlz (l.X 1) (j.hc 1) (j.lc 1).2 (b.hc 1) (b.lc 1).2 (Zpp j) (Zpp b))) λM n=>Yv (Zm 15 [3,6] (Zlz (l.X 2) (j.hc 2) (j.lc 2).2 (b.hc 2) (b.lc 2).2 (Zpp j) (Zpp b))) λN o=>?_;refine Xh J J (Xm (Qf [(0,_),(1,_),(2,_)] J K6 (λa w hs=>Yn1 ((Oo 13 J Zq) a w hs) ((Oo 14 J Zq) a w hs) ((Oo 15 J Zq) a w hs))))<|go 3 ?_;refine lp (G:=Nat×Value) [63] [0,1,2,3,4,5,6,7,8,9,10,13,14,15] (λq=>[(64,.int .i64 (q.1:Int)),(7,q.2)]) (λq=>[(80,Yy 2 wv q.2 (smS zd ov ov2 x y z e f h q.1))]) (λq=>q.1<=3) (λq=>3-q.1) (0,_) O1 K2 K1 ?_;rintro⟨i,Y⟩ hi;dsimp only at hi;dsimp only;have k:=l.X i;refine go 6 ?_;refine Ze J (λt=>?_) (λt=>?_)
  .refine go 5 ?_;refine Zf (Zii i 13 14 15 90 J J J J J J)<|Zf (Nq 90 (q:=Yy 2 wv _ (dfP (Zu i x y z) (Zu i e f h) ov ov2)) (aE (Yy 2 wv _) (df_sel i B n o)) J J)<|go 1 ?_;refine dt (Zpy i J J J underlying210 sizeOf40 isAgg40 J)<|go 7 ?_;refine cl 16 [90,90] (Zvg (dfP (Zu i x y z) (Zu i e f h) ov ov2) (dfP (Zu i x y z) (Zu i e f h) ov ov2) k.v5 k.v5 k.m5) λ_ _=>?_;refine Xe (Nq 16 (q:=Yy 2 wv _ (fqS ov ov2 x y z e f h i)) (aE (Yy 2 wv _) J) J J)<|go 9 ?_;refine cl 17 [80,16] (Yj2 (smS zd ov ov2 x y z e f h i) (fqS ov ov2 x y z e f h i) (l.Q.v i O) k.v8 (l.Q.s i O)) λ_ _=>?_;refine go 11 ⟨O,?_⟩;exact Zs (Xu 17 80 J J J)<|Yf (i+1,_) O1 O1 K2 K1
  .obtain rfl:i=3:=O;refine go 8 ?_;refine cl 18 [80] (My (l.Q.v 3 (aI _))) λ_ _=>?_;refine Xe (Nq 18 (q:=Yy 2 wv _ (fmZ zd 1 1 ov ov2 x y z e f h)) (aE (Yy 2 wv _) (fsZ zd ov ov2 x y z e f h).symm) J J)<|go 13 ?_;refine Ztv (Xo 18 J Zq) (λW F=>?_);subst F;generalize fmZ zd 1 1 ov ov2 x y z e f h=Q;exact Xj D (W,Q) results94 J J (Pq 18 Za)
theorem Yps(fr r ov d e ov2:Int)(x y z s t u:List Int)(zd:Int)(w:Nw fr)(H:Nw r)(D:Nw ov)(N:∀a∈x,Nw a)(P:∀a∈y,Nw a)(Q:∀a∈z,Nw a)(j:Nw d)(l:Nw e)(k:Nw ov2)(n:∀a∈s,Nw a)(o:∀a∈t,Nw a)(p:∀a∈u,Nw a)(f:Bd fr r ov x y z=true)(i:Bd d e ov2 s t u=true)(B:fr=d)(I:r=e)(q:dsB zd=true):Cal prog 37 #[.agg #[.int .i64 fr,.int .i64 r,.int .i64 ov,vx,vy,vz],.agg #[.int .i64 d,.int .i64 e,.int .i64 ov2,vx2,vy2,vz2],.int .i64 zd] [Yy 1 Yk vx x,Yy 1 Yk vy y,Yy 1 Yk vz z,Yy 1 Yk vx2 s,Yy 1 Yk vy2 t,Yy 1 Yk vz2 u] true (G:=SL×List Int) (λg=>g.2=fmZ zd 1 1 ov ov2 x y z s t u) (λg=> .tuple #[Xl g.1,.int .i64 0]) (λg=>[Yy 2 wv (Xl g.1) g.2]):=by refine Zh func37 ntmps37 λY W V F=>go 2 ?_;refine Yg (Yp 7) λR _=>Yg (Yp 8) λM _=>go 8 ?_;refine cl 8 [1,2,3] (Zc1 w H D N P Q) λ_ _=>?_;refine dt (dF (Xb J J) (aE (λb=>Value.bool (!b)) f))<|go 2 ?_;refine Dm 8 [4,5,6] (Zc1 j l k n o p) λ_ _=>?_;refine Fj (dF (Xb J J) (aE (λb=>Value.bool (!b)) i)) J J<|go 6 ?_;refine kfg (aF (λh=>h B))<|go 6 ?_;refine kfg (aF (λh=>h I))<|go 3 ?_;refine Dm 8 [] Zbg λ_ _=>?_;refine Fj (dF (Xb J J) (aE (λb=>Value.bool (!b)) q)) J J<|go 11 ?_;refine cl 9 [1,2,3,4,5,6] (Ya1 (Sgo.of N P Q f) (Sgo.of n o p i) (Za4 f) (Za4 i) q) λS v=>go 5 ?_;exact Mj F _ results37 J v (Pq 9 Za)
theorem Ya0{f h:List Zl}(o:∀g∈f,Gin g)(p:∀g∈h,Gin g)(j:Xy f=true)(l:Xy h=true)(N:f.length<=5)(P:h.length<=5)(Q:dsB zd=true):Cal prog 95 #[va,vb,.int .i64 zd] [Xv 6 Pa qG va f,Xv 6 Pa qG vb h] true (G:=Value×List GpT) (λg=>g.2.map Bc=Nl zd 1 1 f h) (λg=> .tuple #[g.1,.int .i64 (Lt f h)]) (λg=>[Xv 3 Gs qGp g.1 g.2]):=by
 refine Zh func95 ntmps95 λw0 sc R u=>go 10 ?_;refine cl 3 [1,2] (Yez o p j l N P) λb e=>go 16 ?_;refine Ze J (λi=>?_) (λi=>?_)
 .have H:=i;refine go 8 ?_;exact Zs (Ci 72 3 Gs qGp)<|Mj u (.slice none 0 0,[]) results95 (by rw [Ylu H]) (Zr9 O).symm (Pq 72 Za)
 .have H:=i;refine go 16 ?_;refine Zf (Qw 74 3 130 Gs)<|Zf (Yh qGp 76) ?_;have I:=Ydm o p j l;have V:b.1.2.length=(Lu f h f).length:=by rw [<-e.1,aT]
  have W:b.2.2.length=(Lu f h h).length:=by rw [<-e.2,aT]
  refine lp (G:=Nat×Value×List GpT) [2,9,10,23,24] [0,1,2,3,4] (λq=>[(25,.int .i64 (q.1:Int)),(11,q.2.1)]) (λq=>[(74,Of 3 130 Gs q.2.1 q.2.2),(76,Nb qGp q.2.2)]) (λq=>(q.1<=b.1.2.length)/\(q.2.2.map Bc=(Nl zd 1 1 f h).take q.1)/\(q.2.2.length=q.1)) (λq=>b.1.2.length-q.1) (0,.slice none 0 0,[]) ⟨O1,(by rw [dQ];rfl),rfl⟩ K2 K2 ?_;rintro⟨k,Z,zs⟩ ⟨S,r,x⟩;dsimp only at S r x;dsimp only;refine go 6 ?_;refine Ze J (λF=>?_) (λF=>?_)
  .refine go 5 ?_;obtain⟨B,s⟩:=Zi7 o j e.1 _ (Zd (d:=G0) (show k<b.1.2.length by omega));refine Zf (Pj (b.1.2.getD k G0) ((b.1.2.getD k G0).2.1) 3 51 J J (Zd O) O5)<|Zf (Pj (b.1.2.getD k G0) ((b.1.2.getD k G0).2.2.1) 3 52 J J (Zd O) O5)<|Zf (Pj (b.1.2.getD k G0) ((b.1.2.getD k G0).2.2.2) 3 53 J J (Zd O) O5)<|go 2 ?_;refine dt (Zv 3 k J J J J Zc Ln Iq J)<|dt (Ys 3 G0 J J J Zc pG)<|Yg (Zy 5) λbx _=>go 4 ?_;obtain⟨D,t⟩:=Zi7 p l e.2 _ (Zd (d:=G0) (show k<b.2.2.length by omega));refine Zf (Pj (b.2.2.getD k G0) ((b.2.2.getD k G0).2.1) 4 54 J J (Zd O) O5)<|Zf (Pj (b.2.2.getD k G0) ((b.2.2.getD k G0).2.2.1) 4 55 J J (Zd O) O5)<|Zf (Pj (b.2.2.getD k G0) ((b.2.2.getD k G0).2.2.2) 4 56 J J (Zd O) O5)<|Pm [4,5] [15]<|Zj 0 [(0,0),(1,0),(2,0),(3,0),(4,0),(5,0),(6,0),(7,0),(8,0),(9,0),(10,0),(11,1),(12,0),(13,1),(14,1),(15,3)]<|go 8 ?_;refine Xh J J (Eg (Zv 4 k J J J J Zc Ln Iq J) K2)<|Xh J J (Eg (Ys 4 G0 J J J Zc pG) K2)<|go 1 ?_;refine Yv (Zm 84 [51,52,53,54,55,56] (Ya1 (Mx B s) (Mx D t) (Za4 s) (Za4 t) Q)) λy M=>?_;refine Xh J J (Eg (Qf [(0,_),(1,_),(2,_)] J K6 (λa w hs=>Zn4 ((Yd J) a w hs) ((Yd J) a w hs) ((Yd J) a w hs))) K2)<|Ko J (Xs [(0,_)] 6 (enc:=Gs) [(gpY (b.1.2.getD k G0) y)] J J K2 Zfl ti130 J J Yl4 J J pGp.cells J J R.h) (λv _=>?_);refine Ko J (Zb7 74 J J J K2 (λn=>(Bn 74 6 40 J J J J J J O3 J (Ya pGp) Zfl ti130 J pGp J J J O8 O3 J R.h n))) λY _=>go 2 ?_;refine Zt<|go 6 ⟨O,?_⟩;exact Zs (Zo (q:=qGp) (z:=(gpY (b.1.2.getD k G0) y)) 76 84 76 J J J J J)<|Yf (k+1,_,zs ++ [(gpY (b.1.2.getD k G0) y)]) ⟨O1,Yck e.1 e.2 r O O M,by rw [bL,x];rfl⟩ O1 K2 K2
  .obtain rfl:k=b.1.2.length:=O;refine go 14 ?_;exact Zs (Xn 74 J J pGp)<|Zs (Xq 74 76 78 J J J J)<|Mj u (Z,zs) results95 (by rw [Ylt H]) (Ylq e.1 I.1 r) (Pq 78 Za)
theorem Zkk(a d:List Zl)(zd:Int)(h:∀g∈a,Gin g)(i:∀g∈d,Gin g)(e:Xy a=true)(f:Xy d=true)(l:a.length<=5)(n:d.length<=5)(j:dsB zd=true):Cal prog 40 #[va,vb,.int .i64 zd] [Xv 6 Pa qG va a,Xv 6 Pa qG vb d] true (G:=Value×List GpT) (λg=>g.2.map Bc=Nl zd 1 1 a d) (λg=> .tuple #[g.1,.int .i64 (Lt a d)]) (λg=>[Xv 3 Gs qGp g.1 g.2]):=by refine Zh func40 ntmps40 λs r q o=>go 10 ?_;refine cl 2 [1] (Gj h) λ_ _=>?_;refine dt (dF (Xb J J) (aE (λb=>Value.bool (!b)) e))<|go 2 ?_;refine Dm 2 [2] (Gj i) λ_ _=>?_;refine Fj (dF (Xb J J) (aE (λb=>Value.bool (!b)) f)) J J<|go 3 ?_;refine Dm 2 [] Zbg λ_ _=>?_;refine Fj (dF (Xb J J) (aE (λb=>Value.bool (!b)) j)) J J<|go 11 ?_;refine cl 3 [1,2] (Ya0 h i e f l n j) λp k=>go 7 ?_;exact Mj o _ results40 J k (Pq 3 Za)
theorem Za3(x y:Int)(e:Nw x)(f:Nw y)(b:y≠0):Qa prog 98 #[.int .i64 x,.int .i64 y] [] (.agg #[.bool (decide (Dq x y<0)),.string (Qq (Dq x y).natAbs),.bool (decide (Eh x y<0)),.string (Qq (Eh x y).natAbs)]):=by refine Zh func98 ntmps98 λj i h a=>go 2 ?_;refine Yg (Zy 1) λg _=>go 6 ?_;refine cl 1 [] (Zp8 x y e f b) λ_ _=>go 3 ?_;refine Yg (Zy 2) λd _=>go 11 ?_;exact Xj a () results98 J aA Za
theorem Zql(v:Value)(zs:List GpT)(N:Nat)(y:∀z∈zs,Cvd z.2.2):Ygz prog 162 [.pointer (some ⟨N,0,none⟩)] [Kv N 50 #[v],Xv 3 Gs qGp v zs] (α:=GpT) (G:=R2) (zs.filter (λz:GpT=>Ky z.2.2)) (λc g=>[.agg #[.int .i64 c.1.1,.int .i64 c.1.2,Xl c.2.1],.agg #[.bool (decide (g.1<0)),.string (Qq (g.1).natAbs),.bool (decide (g.2<0)),.string (Qq (g.2).natAbs)]]) (λc g=>[fctP (Fnd c.2.2 (qv (0,1)) (qv (1,1)) g)]):=by
 refine Zte func162 J ntmps162 J K2 ?_;intro l M JI Jx w0 sc hw h n e x u;simp only [Qv,Yz];have B:=Hw.mk hw;refine Qi (Od (i:=2) J Zc) λa1=>go 8 ?_;refine lp (G:=Nat×World) [0,8,9] [1,2] (λq=>[(10,.int .i64 (q.1:Int))]) (λq=>[(0,Yx q.2 (λ_=>False))]) (λq=>(q.1<=zs.length)/\(JI ((zs.take q.1).filter (λz:GpT=>Ky z.2.2)).length q.2)/\(w0.heap.size<=q.2.heap.size)) (λq=>zs.length-q.1) (0,w0) ⟨O1,x,aI _⟩ K1 K1 ?_;rintro⟨i,W⟩ ⟨hi,k,o⟩;dsimp only at hi k o;dsimp only;have a9:=Ycj B o;refine go 6 ?_;refine Ze J (λw=>?_) (λw=>?_)
 .refine go 5 ?_;refine Zf (Oa 2 55 (zs.getD i Gp0) J J (Zd O) J) ?_;have f:=y (zs.getD i Gp0) (Zd O);refine go 1 ?_;refine dt (Zv 2 i J J J J Zc Zfl sizeOf130 J)<|dt (Ys 2 Gp0 J J J Zc pGp)<|Yg (Zy 3) λbx _=>go 4 ?_;rcases tf (Ky (zs.getD i Gp0).2.2)with a|a
  .refine Pm [3] [12]<|Zj 11 [(0,0),(1,0)]<|go 3 ?_;refine Qy 10 2 9 ?_ ?_
   .refine Ou (Zm 3 [] (Za3 0 1 ⟨O3,O3⟩ ⟨O3,O3⟩ O3)) λ_ _=>?_;refine Qy 9 3 9 ?_ ?_
    .refine Ou (Zm 3 [] (Za3 1 1 ⟨O3,O3⟩ ⟨O3,O3⟩ O3)) λ_ _=>?_;refine Qy 8 4 9 ?_ ?_
     .refine Ou (Zm 3 [55] (Em (0,1) (1,1) f Zjz Zjy Zhu a)) λ_ _=>?_;refine Zj 0 [(5,0),(6,0),(7,0),(8,0),(9,1),(10,1),(11,0),(12,3)]<|go 4 ?_;refine Yv (Qe 4) λP ho=>go 4 ?_;refine Zt<|go 21 ⟨O,?_⟩;exact Yf (i+1,W) ⟨O1,by rw [Ycs O a];exact k,o⟩ O1 K1 K1
     .refine Ou (Qe 5) λQ a2=>?_;refine Zj 0 [(4,1),(5,0),(6,0),(7,0),(8,0),(10,1),(11,0),(12,3)]<|Yv (Zm 5 [55] (Em (0,1) (1,1) f Zjz Zjy Zhu a)) λ_ _=>go 8 ?_;refine Zt<|go 21 ⟨O,?_⟩;exact Yf (i+1,W) ⟨O1,by rw [Ycs O a];exact k,o⟩ O1 K1 K1
    .refine Ou (Qe 6) λR a3=>?_;refine Zj 0 [(3,1),(4,1),(5,0),(6,0),(7,0),(8,0),(10,1),(11,0),(12,3)]<|Yv (Zm 6 [] (Za3 1 1 ⟨O3,O3⟩ ⟨O3,O3⟩ O3)) λ_ _=>Yv (Zm 6 [55] (Em (0,1) (1,1) f Zjz Zjy Zhu a)) λ_ _=>go 8 ?_;refine Zt<|go 21 ⟨O,?_⟩;exact Yf (i+1,W) ⟨O1,by rw [Ycs O a];exact k,o⟩ O1 K1 K1
   .refine Ou (Qe 7) λS a4=>?_;refine Zj 0 [(2,1),(3,1),(4,1),(5,0),(6,0),(7,0),(8,0),(10,1),(11,0),(12,3)]<|Yv (Zm 7 [] (Za3 0 1 ⟨O3,O3⟩ ⟨O3,O3⟩ O3)) λ_ _=>Yv (Zm 7 [] (Za3 1 1 ⟨O3,O3⟩ ⟨O3,O3⟩ O3)) λ_ _=>Yv (Zm 7 [55] (Em (0,1) (1,1) f Zjz Zjy Zhu a)) λ_ _=>go 8 ?_;refine Zt<|go 21 ⟨O,?_⟩;exact Yf (i+1,W) ⟨O1,by rw [Ycs O a];exact k,o⟩ O1 K1 K1
  .refine Pm [3] [12]<|Zj 11 [(0,0),(1,0)]<|go 3 ?_;refine Qy 10 2 9 ?_ ?_
   .refine Ou (Zm 7 [] (Za3 0 1 ⟨O3,O3⟩ ⟨O3,O3⟩ O3)) λ_ _=>?_;refine Qy 9 3 9 ?_ ?_
    .refine Ou (Zm 7 [] (Za3 1 1 ⟨O3,O3⟩ ⟨O3,O3⟩ O3)) λ_ _=>?_;refine Qy 8 4 9 ?_ ?_
     .refine Ou (Zm 7 [55] (Ff (0,1) (1,1) f Zjz Zjy Zhu a)) λD p=>?_;refine Zj 0 [(5,0),(6,0),(7,0),(8,0),(9,1),(10,1),(11,0),(12,3)]<|go 4 ?_;refine Yv (Qe 8) λV a5=>go 4 ?_;refine Zt<|go 2 ?_;refine Ygj<|Mz (Za8 J J) J<|Mz (Za8 J J) J<|Le (Za8 J J) (wtd J J J J) J J<|Le (DI.h aA) (wtd J J J J) J J<|Le (DI.h aA) (wtd J J J J) J J<|Zep [_,_] [_,_] (zs.getD i Gp0) D u (Zk1 O a) k o h J (wtd J J J J) J J J K2 J J (Zhj p J) K2 K2 (λj b d=>?_) (λj b d=>?_)
      .simp only [Yz];refine Le (dF (Xb J J) J) (wtd J J J J) J J<|Mz (Cn J J J) J<|Bf<|go 9 ⟨O,?_⟩;exact Yf (i+1,j) ⟨O1,by rw [Ycr O a];exact b,d⟩ O1 K1 K1
      .simp only [Yz];refine Le (dT (Xb J J) J) (wtd J J J J) J J<|Mz (Cn J J J) J<|Bf<|go 7 ?_;exact Zb0 (.inl J) J J n e (.inr b)
     .refine Ou (Qe 9) λY a6=>?_;refine Zj 0 [(4,1),(5,0),(6,0),(7,0),(8,0),(10,1),(11,0),(12,3)]<|Yv (Zm 9 [55] (Ff (0,1) (1,1) f Zjz Zjy Zhu a)) λF r=>go 8 ?_;refine Zt<|go 2 ?_;refine Ygj<|Mz (Za8 J J) J<|Mz (Za8 J J) J<|Le (Za8 J J) (wtd J J J J) J J<|Le (DI.h aA) (wtd J J J J) J J<|Le (DI.h aA) (wtd J J J J) J J<|Zep [_,_] [_,_] (zs.getD i Gp0) F u (Zk1 O a) k o h J (wtd J J J J) J J J K2 J J (Zhj r J) K2 K2 (λj b d=>?_) (λj b d=>?_)
      .simp only [Yz];refine Le (dF (Xb J J) J) (wtd J J J J) J J<|Mz (Cn J J J) J<|Bf<|go 9 ⟨O,?_⟩;exact Yf (i+1,j) ⟨O1,by rw [Ycr O a];exact b,d⟩ O1 K1 K1
      .simp only [Yz];refine Le (dT (Xb J J) J) (wtd J J J J) J J<|Mz (Cn J J J) J<|Bf<|go 7 ?_;exact Zb0 (.inl J) J J n e (.inr b)
    .refine Ou (Qe 10) λZ a7=>?_;refine Zj 0 [(3,1),(4,1),(5,0),(6,0),(7,0),(8,0),(10,1),(11,0),(12,3)]<|Yv (Zm 10 [] (Za3 1 1 ⟨O3,O3⟩ ⟨O3,O3⟩ O3)) λ_ _=>Yv (Zm 10 [55] (Ff (0,1) (1,1) f Zjz Zjy Zhu a)) λH s=>go 8 ?_;refine Zt<|go 2 ?_;refine Ygj<|Mz (Za8 J J) J<|Mz (Za8 J J) J<|Le (Za8 J J) (wtd J J J J) J J<|Le (DI.h aA) (wtd J J J J) J J<|Le (DI.h aA) (wtd J J J J) J J<|Zep [_,_] [_,_] (zs.getD i Gp0) H u (Zk1 O a) k o h J (wtd J J J J) J J J K2 J J (Zhj s J) K2 K2 (λj b d=>?_) (λj b d=>?_)
     .simp only [Yz];refine Le (dF (Xb J J) J) (wtd J J J J) J J<|Mz (Cn J J J) J<|Bf<|go 9 ⟨O,?_⟩;exact Yf (i+1,j) ⟨O1,by rw [Ycr O a];exact b,d⟩ O1 K1 K1
     .simp only [Yz];refine Le (dT (Xb J J) J) (wtd J J J J) J J<|Mz (Cn J J J) J<|Bf<|go 7 ?_;exact Zb0 (.inl J) J J n e (.inr b)
   .refine Ou (Qe 11) λa0 a8=>?_;refine Zj 0 [(2,1),(3,1),(4,1),(5,0),(6,0),(7,0),(8,0),(10,1),(11,0),(12,3)]<|Yv (Zm 11 [] (Za3 0 1 ⟨O3,O3⟩ ⟨O3,O3⟩ O3)) λ_ _=>Yv (Zm 11 [] (Za3 1 1 ⟨O3,O3⟩ ⟨O3,O3⟩ O3)) λ_ _=>Yv (Zm 11 [55] (Ff (0,1) (1,1) f Zjz Zjy Zhu a)) λI t=>go 8 ?_;refine Zt<|go 2 ?_;refine Ygj<|Mz (Za8 J J) J<|Mz (Za8 J J) J<|Le (Za8 J J) (wtd J J J J) J J<|Le (DI.h aA) (wtd J J J J) J J<|Le (DI.h aA) (wtd J J J J) J J<|Zep [_,_] [_,_] (zs.getD i Gp0) I u (Zk1 O a) k o h J (wtd J J J J) J J J K2 J J (Zhj t J) K2 K2 (λj b d=>?_) (λj b d=>?_)
    .simp only [Yz];refine Le (dF (Xb J J) J) (wtd J J J J) J J<|Mz (Cn J J J) J<|Bf<|go 9 ⟨O,?_⟩;exact Yf (i+1,j) ⟨O1,by rw [Ycr O a];exact b,d⟩ O1 K1 K1
    .simp only [Yz];refine Le (dT (Xb J J) J) (wtd J J J J) J J<|Mz (Cn J J J) J<|Bf<|go 7 ?_;exact Zb0 (.inl J) J J n e (.inr b)
 .obtain rfl:i=zs.length:=O;rw [bQ]at k;refine go 4 ?_;exact Zb0 (.inr J) J J n e (.inl k)
theorem Zx2{v:Value}:Cal prog 96 #[v] [Xv 3 Gs qGp v zs] true (G:=Nat) (λg=>True) (λg=> .func (.func 162) #[] #[.pointer (some ⟨g,0,none⟩)]) (λg=>[Kv g 50 #[v]]):=by refine Zh func96 ntmps96 λi f e a=>?_;refine Az (Xo 1 J Zc) (λh b=>?_);subst b;refine go 2 ?_;refine Yg (Yp 2) λd _=>go 5 ?_;refine dt (Zw0 [] [_] J aA K1)<|go 4 ?_;exact Zs (Zfr 2 J J)<|Xj a _ results96 J aA (Pq 2 Za)
theorem Zl0(s t:List Zl)(zd:Int)(B:∀g∈s,Gin g)(F:∀g∈t,Gin g)(y:Xy s=true)(z:Xy t=true)(I:s.length<=5)(M:t.length<=5)(G:dsB zd=true):Qa prog 42 #[va,vb,.int .i64 zd] [Xv 6 Pa qG va s,Xv 6 Pa qG vb t] (.tuple #[.bool (Dn zd 1 1 s t),.int .i64 (Lt s t)]):=by
 refine Ze0 func42 J ntmps42 J K2 ?_;intro u sc N r;have N:=Hw.mk N;simp only [Qv,Yz];refine go 2 ?_;refine Yg (Zy 3) λf _=>Yg (Zy 4) λd _=>go 7 ?_;refine cl 5 [1,2] (Zkk _ _ _ B F y z I M G) λj o=>go 14 ?_;refine Ze J (λn=>?_) (λn=>?_)
 .have v:=n;refine go 9 ?_;exact Yct<|Mj r () results42 (by rw [ap_e v]) aA Za
 .have v:=n;refine go 6 ?_;refine cl 6 [5] Zx2 λb _=>go 3 ?_;refine Yc4 ([Kv b 50 #[j.1],Xv 3 Gs qGp j.1 j.2]) u (λ(_:Nat) (_:Unit)=>[(0,Yx u (λ_=>False)),(3,box f 4 #[.bool false]),(4,box d 26 #[.int .i64 0])]) (λk _=>k=0) (λ(_:Unit)=>[(0,Yx u (λ_=>False)),(3,box f 4 #[.bool false]),(4,box d 26 #[.int .i64 0])]) (λ_=>Dn zd 1 1 s t=false) () J (by intro e w;first|exact enters_of func162 O6 rfl e w|exact call162 e w) (Zql j.1 j.2 b (Zsy B F y z G o)) ?_ (λ_ _=>J) J N.h J J K3 (λ_ _=>⟨J,J⟩) (λ_=>⟨J,J⟩) (λk x Y j V i l R S=>?_) J (λj i D Z=>?_) (λ_ P=>?_)
  .intro p Q;simp only [bB,dI,gR]at Q;rcases Q with rfl|rfl
   .exact⟨J,6,J⟩
   .exact⟨J,5,J⟩
  .refine Zi5 (env':=[(6,.pointer (some ⟨f,0,none⟩)),(7,.pointer (some ⟨d,0,none⟩))]) (H':=[(92,Yx S R),(0,Yx u (λ_=>False)),(3,box f 4 #[.bool false]),(4,box d 26 #[.int .i64 0])]) (λa w hs=>hs.weaken ⟨J,J,aA⟩ ⟨J,J,J,J,aA⟩)<|Zsn λa w hs=>⟨J,[(6,.pointer (some ⟨f,0,none⟩)),(7,.pointer (some ⟨d,0,none⟩))],[(0,Yx u (λ_=>False)),(3,box f 4 #[.bool false]),(4,box d 26 #[.int .i64 0])],J,(λq h=>by cases h;rfl),⟨.inr (λb H=>⟨0,_,J,H⟩),.inl J,.inl J,aA⟩,hs.weaken ⟨J,J,aA⟩ ⟨J,J,J,J,aA⟩,λW _=>?_⟩;refine Zdn<|Zsp J<|go 2 ?_;refine go 1 ?_;exact Yom<|Zzb λa w hs=>Or.inr ⟨J,(),Zn0 o V,⟨.inr (λb H=>⟨0,_,J,H⟩),.inl J,.inl J,aA⟩,[],hs.weaken aA ⟨J,J,J,J,aA⟩⟩
  .refine go 2 ?_;refine go 1 ?_;refine Yek λa w hs=>⟨J,[(6,.pointer (some ⟨f,0,none⟩)),(7,.pointer (some ⟨d,0,none⟩))],[(0,Yx u (λ_=>False)),(3,box f 4 #[.bool true]),(4,box d 26 #[.int .i64 0])],J,⟨⟨_,J,J,λ_ h=>h⟩,⟨_,J,J,λ_ h=>h⟩,⟨_,J,J,λ_ h=>h⟩,aA⟩,hs.weaken ⟨J,J,aA⟩ ⟨J,J,J,J,aA⟩,?_⟩;exact Mj r () results42 (by rw [Yea o v i,fD.1 v]) aA Za
  .exact Mj r () results42 (by rw [P,fD.1 v]) aA Za
end Go.Sky

