/- Rules, arithmetic and contracts: part 19. No conditions but those that each theorem names. -/
import Derived.Test.YteikicbnfbgpnaaGreatEa217
set_option linter.all false
set_option maxHeartbeats 4000000
namespace Go.Sky
def SmP(g:Zk)(s:Rat)(h:Zk)(u:Rat):Prop:=∀i,i<3->spX g i s*(h.1.2.2:Rat)=spX h i u*(g.1.2.2:Rat)
def SmP.symm{g h:Zk}{s u:Rat}(e:SmP g s h u):SmP h u g s:=λi hi=>(e i hi).symm
def SmP.trans{g h k:Zk}{s u v:Rat}(a:(h.1.2.2:Rat)≠0)(e:SmP g s h u)(f:SmP h u k v):SmP g s k v:=λi hi=>by
 have b:=e i hi;have c:=f i hi;have:(spX g i s*(k.1.2.2:Rat)-spX k i v*(g.1.2.2:Rat))*(h.1.2.2:Rat)=0:=O5;rcases fN.1 this with q|q
 .grind
 .exact absurd q a
def Yct{g:Zk}(h:SgG g):(g.1.2.2:Rat)≠0:=by have:=h.o1;exact_mod_cast (show g.1.2.2≠0 by omega)
def SmP_me{g h:Zk}(b:SgG g)(m:SgG h)(e:meG g h=true):SmP g 1 h 0:=λi hi=>by
 unfold meG Zj7 Yjj at e;rw [aN,cF,cF]at e;obtain⟨-,n,o,p,r⟩:=e;have l:=low_q 1 1 b ⟨O4,O4⟩ ⟨O4,O4⟩ hi;have j:=low_q 0 1 m ⟨O4,O4⟩ ⟨O4,O4⟩ hi;have hs:pl (Zs i g.2.1.2 g.2.2.1.2 g.2.2.2.2) 1 1/gS g.1.2.2 1 1 g.2.1.2 g.2.2.1.2 g.2.2.2.2 3=pl (Zs i h.2.1.2 h.2.2.1.2 h.2.2.2.2) 0 1/gS h.1.2.2 0 1 h.2.1.2 h.2.2.1.2 h.2.2.2.2 3:=by
  match i,hi with
  | 0,_=>exact n
  | 1,_=>exact o
  | 2,_=>exact p
 rw [<-hs,<-r]at j;rw [show((1:Int):Rat)/((1:Int):Rat)=1 by decide +kernel]at l;rw [show((0:Int):Rat)/((1:Int):Rat)=0 by decide +kernel]at j;have t:0<g.1.2.2*1^5/gS g.1.2.2 1 1 g.2.1.2 g.2.2.1.2 g.2.2.2.2 3:=by
  have c:=(Znn b (a:=1) (d:=1) ⟨O4,O4⟩ ⟨O4,O4⟩ 3).1;obtain⟨q,f⟩:=(Zp7 g.1.2.2 1 1 g.2.1.2 g.2.2.1.2 g.2.2.2.2 3 0 O1).1;have f:g.1.2.2*1^5=gS g.1.2.2 1 1 g.2.1.2 g.2.2.1.2 g.2.2.2.2 3*q:=f;have k:0<g.1.2.2*1^5:=by have:=b.o1;omega
  rw [f]at k ⊢;rw [gL _ O1];exact Int.pos_of_mul_pos_right k c
 generalize g.1.2.2*1^5/gS g.1.2.2 1 1 g.2.1.2 g.2.2.1.2 g.2.2.2.2 3=O at *;generalize pl (Zs i g.2.1.2 g.2.2.1.2 g.2.2.2.2) 1 1/gS g.1.2.2 1 1 g.2.1.2 g.2.2.1.2 g.2.2.2.2 3=C at *;have s:(O:Rat)≠0:=by exact_mod_cast (show O≠0 by omega)
 have:(spX g i 1*(h.1.2.2:Rat)-spX h i 0*(g.1.2.2:Rat))*(O:Rat)=0:=O5;rcases fN.1 this with q|q
 .grind
 .exact absurd q s
def Yue{q g:Zk}{G:Int}(h:Prt q g G){t u:Rat}(e:t*((g.1.2.1-g.1.1:Int):Rat)=((q.1.1-g.1.1:Int):Rat)+((q.1.2.1-q.1.1:Int):Rat)*u):SmP q u g t:=λi hi=>by
 have d:=h.x i t u e;have c:(q.1.2.2:Rat)*(G:Rat)=(g.1.2.2:Rat)*((g.1.2.1-g.1.1:Int):Rat)^5:=by exact_mod_cast h.o
 have b:(G:Rat)≠0:=by have:=h.g0;exact_mod_cast (show G≠0 by omega)
 unfold spX;have:(Zi (Zs i q.2.1.2 q.2.2.1.2 q.2.2.2.2) u*(g.1.2.2:Rat)-Zi (Zs i g.2.1.2 g.2.2.1.2 g.2.2.2.2) t*(q.1.2.2:Rat))*(G:Rat)=0:=O5;rcases fN.1 this with a|a
 .grind
 .exact absurd a b
def sTm(g:Zk)(t:Int):Rat:=((t-g.1.1:Int):Rat)/((g.1.2.1-g.1.1:Int):Rat)
def Yjd{ps:List Zk}(v:∀g∈ps,Gin g)(d:Yf ps=true){fr a:Int}(w:spF ps<=fr)(x:fr<a)(q:a<=spL ps)(l:∀g∈ps,¬(fr<g.1.1/\g.1.1<a)) :
  ∃j,j<ps.length/\(ps.getD j G0).1.1<=fr/\a<=(ps.getD j G0).1.2.1:=by
 have k:Zhq ps a=true:=by unfold Zhq;rw [aG (show spF ps<=a by omega),aG q];rfl
 have c:=Zz8 d k;have r:a<=(ps.getD (exI ps a) G0).1.2.1:=by have:=exD_le d k;unfold exA exD at this;omega
 have s:=(ex_all v d k).2.1.1;unfold exA at s;refine⟨exI ps a,c,?_,r⟩;refine Int.not_lt.1 λt=>?_;rcases gJ (ps.getD (exI ps a) G0).1.1 a with n|n
 .exact l _ (Zd c) ⟨t,n⟩
 .have e:(ps.getD (exI ps a) G0).1.1=a:=O1;rcases aU (exI ps a)with o|o
  .rw [o]at e;have:spF ps=a:=e;omega
  .obtain⟨m,u⟩:∃m,exI ps a=m+1:=⟨exI ps a-1,O1⟩;have f:=Zfz d (i:=m) O1;rw [<-u,e]at f;have h:=lC (xs:=ps) (p:=λg:Zk=>decide (a<=g.1.2.1)) (i:=m) (show m<exI ps a by omega);have b:a<=(ps.getD m G0).1.2.1:=O1;rw [aL,aO (show m<ps.length by omega)]at b;exact fY h b
def Yea{ps:List Zk}(s:∀g∈ps,Gin g)(l:Yf ps=true){fr a:Int}(o:spF ps<=fr)(i:fr<a)(p:a<=spL ps)(c:∀g∈ps,¬(fr<g.1.1/\g.1.1<a))(b:Pu fr a ps=true){j:Nat}(q:j<ps.length)(t:(ps.getD j G0).1.1<=fr)(u:a<=(ps.getD j G0).1.2.1) :
  Zbf fr a ps=[Zf5 fr a (ps.getD j G0)]/\Kq fr a (ps.getD j G0)=true/\Zd0 fr a (ps.getD j G0)=true/\(Zf5 fr a (ps.getD j G0)).1.1=fr/\(Zf5 fr a (ps.getD j G0)).1.2.1=a:=by
 have m:=(Qd l).2.1;have f:cA fr (ps.getD j G0)=fr:=by unfold cA;omega
 have h:cB a (ps.getD j G0)=a:=by unfold cB;omega
 have k:Kq fr a (ps.getD j G0)=true:=by unfold Kq;rw [f,h];exact aG i
 have n:ps.getD j G0∈ps.filter (Kq fr a):=fA.2 ⟨Zd q,k⟩;have r:=Ztl (Zbu s l).1 (λe=>by rw [e]at m;simp at m) o i p c;obtain⟨z,d⟩:=lD.1 r;rw [d]at n;obtain rfl:=bN.1 n;refine⟨?_,k,?_,f,h⟩
 .unfold Zbf;rw [aM b,d];rfl
 .unfold Pu at b;rw [d]at b;simpa using b
def Zx1{c:List Int}{a b:List Zk} : ∀{n:Nat},Ei c a b n=true->∀k,k<n->Pu (c.getD k 0) (c.getD (k+1) 0) a=true/\Pu (c.getD k 0) (c.getD (k+1) 0) b=true
 | 0,_,k,e=>absurd e (bD k)
 | n+1,h,k,e=>by
  have f:Ei c a b (n+1)=(Ei c a b n && (Pu _ _ a && Pu _ _ b)):=rfl;rw [f,aN,aN]at h;rcases aY.1 e with d|d
  .exact Zx1 h.1 k d
  .subst d;exact h.2
def cvS{D:Int}{a b:List Zk}(e:∀g∈a,Gin g)(f:∀g∈b,Gin g)(c:Yf a=true)(d:Yf b=true)(h:dsB D=true):∀g∈Ma D 1 1 a b,Cvd g.2.2:=Ynx e f c d h (Zum (Lx a b a)) (Zum (Lx a b b))
section
variable {D n d:Int} {a b:List Zk} (hpa:∀g∈a,Gin g) (hpb:∀g∈b,Gin g) (hba:Yf a=true) (hbb:Yf b=true) (hz:znB D n d=true)
include hpa hpb hba hbb hz
end
end Go.Sky
namespace Go.Sky
variable{h:Int×Int}{i m:Nat}{zs:List Ad}
def NrP(a b:List Zk)(g:Int×Int):Prop:=
 (Mx a b≠0/\g=(0,Mx a b))\/(Mx a b=0/\Ma 0 1 1 a b=[]/\g=(0,9))\/
  (Mx a b=0/\Ma 0 1 1 a b≠[]/\g.2=0/\0<=g.1/\g.1<=4194304/\∀k,1<=k->k<=4194304->Fw k 1 1 a b=decide (k<=g.1))
theorem Zwd{a b:List Zk}{g:Int×Int}(c:NrP a b g)(f:NrP a b h):g=h:=by
 rcases c with⟨c,rfl⟩|⟨c,j,rfl⟩|⟨c,j,p,q,r,s⟩<;>rcases f with⟨d,rfl⟩|⟨d,e,rfl⟩|⟨d,e,k,l,n,o⟩
 all_goals grind
section
variable {a b:List Zk} (hpa:∀g∈a,Gin g) (hpb:∀g∈b,Gin g) (hba:Yf a=true) (hbb:Yf b=true)
include hpa hpb hba hbb
theorem ap_dn{D E:Int}(c:0<=E)(d:E<=D)(e:D<=4194304)(h:Fw D 1 1 a b=true):Fw E 1 1 a b=true:=
 Yud (cvS hpa hpb hba hbb (by unfold dsB;grind)) (cvS hpa hpb hba hbb (by unfold dsB;grind)) c d O1 O1 h
end
def NrS(a b:List Zk)(r:Nat):Prop:=r<=4194304/\(∀k,k<r->Fw ((k:Int)+1) 1 1 a b=true)/\∀k,r<=k->k<4194304->Fw ((k:Int)+1) 1 1 a b=false
def Yrx{a b:List Zk}{j:Nat}(l:i<=j/\j<=4194304)(f:¬i<j)(d:∀k,k<i->Fw ((k:Int)+1) 1 1 a b=true)(e:∀k,j<=k->k<4194304->Fw ((k:Int)+1) 1 1 a b=false):NrS a b i:=
 ⟨O1,d,λk n c=>e k O1 c⟩
theorem nr_end{a b:List Zk}(p:zs.map unP=Ma 0 1 1 a b)(c:¬Mx a b≠0)(j:¬zs.length=0)(h:NrS a b i):NrP a b ((i:Int),0):=by
 obtain⟨o,l,n⟩:=h;refine .inr (.inr ⟨eX.1 c,λe=>j ?_,rfl,O1,O1,λk d f=>?_⟩)
 .simp_all
 .obtain⟨m,rfl⟩:∃m:Nat,k=(m)+1:=⟨(k-1).toNat,O1⟩;grind
theorem ds_in{k:Int}(c:0<=k)(d:k<=4194304):dsB k=true:=by unfold dsB;grind
section
variable {a b:List Zk} (hpa:∀g∈a,Gin g) (hpb:∀g∈b,Gin g) (hba:Yf a=true) (hbb:Yf b=true)
include hpa hpb hba hbb
theorem nrS_t(d:m<4194304)(h:Fw ((m:Int)+1) 1 1 a b=true)(k:Nat)(c:k<m+1):Fw ((k:Int)+1) 1 1 a b=true:=ap_dn hpa hpb hba hbb O1 O1 O1 h
theorem nrS_f(h:Fw ((m:Int)+1) 1 1 a b=false)(k:Nat)(d:m<=k)(c:k<4194304):Fw ((k:Int)+1) 1 1 a b=false:=by
 cases hc:Fw _ 1 1 a b with
 | false=>rfl
 | true=>rw [ap_dn hpa hpb hba hbb O1 O1 O1 hc]at h;omega
end
theorem Yrw{a b:List Zk}(e:zs.map unP=Ma 0 1 1 a b)(c:¬Mx a b≠0)(d:zs.length=0):NrP a b (0,9):=by refine .inr (.inl ⟨eX.1 c,?_,rfl⟩);grind
theorem nr_is{a b:List Zk}{g:Int×Int}{n:Int}(h:NrP a b g)(c:Mx a b=0)(p:Ma 0 1 1 a b≠[])(o:1<=n/\n<4194304)(d:Fw n 1 1 a b=true)(e:Fw (n+1) 1 1 a b=false):g=(n,0):=by
 rcases h with⟨h,-⟩|⟨-,h,-⟩|⟨-,-,f,j,k,l⟩
 all_goals grind
def Yl9(fr n d e f j c l k:Int)(s:SL×SL×SL):Zk:=((fr,n,1),(s.1,Be d j k),(s.2.1,Be e c k),(s.2.2,Be f l k))
def gv0(s:SL×SL×SL):Zk:=Yl9 0 1000 0 0 0 1000 0 0 1 s
def gv1(s:SL×SL×SL):Zk:=Yl9 0 1000 1000 300 0 0 300 0 1 s
def gv2(s:SL×SL×SL):Zk:=Yl9 500 2000 0 700 0 0 700 0 2 s
def gvL(s:SL×SL×SL):Zk:=Yl9 1000 2000 0 0 0 1000 0 0 1 s
theorem gf_1:fmZ 300 1 1 1 1 (Be 0 1000 1) (Be 0 0 1) (Be 0 0 1) (Be 1000 0 1) (Be 300 300 1) (Be 0 0 1)=tzl [1,-4,4]:=by rfl
theorem gf_2:fmZ 400 1 1 1 1 (Be 0 1000 1) (Be 0 0 1) (Be 0 0 1) (Be 1000 0 1) (Be 300 300 1) (Be 0 0 1)=tzl [93,-400,400]:=by rfl
theorem gs_0:Bf 0 1000 1 (Be 0 1000 1) (Be 0 0 1) (Be 0 0 1)=true:=by rfl
theorem gs_1:Bf 0 1000 1 (Be 1000 0 1) (Be 300 300 1) (Be 0 0 1)=true:=by rfl
section
variable (s t:SL×SL×SL)
def Zkl:Yf [gv0 s]=true:=O8
def Yg1:Yf [gv1 s]=true:=O8
def Zkk:Yf [gv2 s]=true:=O8
def gp_L:Yf [gvL s]=true:=O8
def Yg5:Mx [gv0 s] [gv1 t]=0:=O8
def ge_2:Mx [gv0 s] [gv2 t]=0:=O8
theorem ge_L:Mx [gv0 s] [gvL t]=0:=by rfl
theorem gz_L:Ma 0 1 1 [gv0 s] [gvL t]=[]:=by rfl
def gz_1:(Ma 0 1 1 [gv0 s] [gv1 t]).isEmpty=false:=O8
def gz_2:(Ma 0 1 1 [gv0 s] [gv2 t]).isEmpty=false:=O8
def Ymr:Fw 300 1 1 [gv0 s] [gv1 t]=true:=O8
def ga_2:Fw 301 1 1 [gv0 s] [gv1 t]=false:=O8
def ga_3:Fw 860 1 1 [gv0 s] [gv2 t]=true:=O8
def ga_4:Fw 861 1 1 [gv0 s] [gv2 t]=false:=O8
def ga_5:Fw 300 1 1 [gv0 s] [gv2 t]=true:=O8
def ga_6:Fw 300 1 1 [gv1 s] [gv2 t]=true:=O8
def gz_3:Ma 860 1 1 [gv0 s] [gv2 t]=[(500,1000,tzl [1,1250,625])]:=O8
def gf_3:Cc (Ma 301 1 1 [gv0 s] [gv1 t])=(0,1000,true):=O8
end
end Go.Sky
namespace Go.Sky
open Go.Proofs.Tryz
open Go.Proofs
set_option synthInstance.maxHeartbeats 0
set_option synthInstance.maxSize 100000
set_option maxRecDepth 20000
set_option linter.unusedSimpArgs false
variable{va vb v u:Value}{ls:List PT}{M0:Nat->Prop}
theorem Zak(x:Int)(b:Nc x):Qe prog 98 #[.int .i64 x,.int .i64 1] [] (.agg #[.bool (decide (x<0)),.string (Qp (x).natAbs),.bool (decide ((1:Int)<0)),.string (Qp ((1:Int)).natAbs)]):=by refine Zg func98 ntmps98 λg f e a=>go 2 ?_;refine Yd (Zw 1) λd _=>go 6 ?_;refine cl 1 [] (Zgb x 1 b ⟨O4,O4⟩ O4) λ_ _=>go 3<|Yd (Zw 2) λc _=>go 11 ?_;exact Xh a () results98 (by rw [(Yjv b).1,(Yjv b).2]) aA Za
theorem Zyy{e f:List Zk}{j:Int}(b:∀g∈e,Gin g)(c:∀g∈f,Gin g)(k:¬(Yf e=true/\Yf f=true/\dsB j=true)):Qe prog 43 #[va,vb,.int .i64 j] [Xn 6 Xv qG va e,Xn 6 Xv qG vb f] (.tuple #[.agg #[.bool false,.string ⟨#[]⟩,.bool false,.string ⟨#[]⟩],.int .i64 2]):=by refine Zcx func43 J ntmps43 J K2 ?_;intro n m i d;have i:=Hw.mk i;simp only [Qz,Xd];refine Zf (Qt 98 3 130 Hm)<|Zf (Xo 98 J J pGp)<|go 2<|Yd (Zw 3) λl _=>Yd (Zw 4) λh _=>go 7 ?_;refine cl 4 [1,2] (Zjz b c k) λ_ _=>go 11<|kt (aG O4)<|go 5 ?_;refine dt (Xy [] J aA (λa w hs=>Zif))<|go 7 ?_;exact Ydr<|Nm d () results43 J aA Za
theorem Ziu(e f:List Zk)(M:Int)(q:∀g∈e,Gin g)(r:∀g∈f,Gin g)(j:Yf e=true)(m:Yf f=true)(B:e.length<=5)(F:f.length<=5)(s:dsB M=true)(P:Mx e f=0)(z:Fw M 1 1 e f=true):Qe prog 43 #[va,vb,.int .i64 M] [Xn 6 Xv qG va e,Xn 6 Xv qG vb f] (.tuple #[.agg #[.bool false,.string ⟨#[]⟩,.bool false,.string ⟨#[]⟩],.int .i64 9]):=by
 refine Zcx func43 J ntmps43 J K2 ?_;intro y Y H G;have H:=Hw.mk H;simp only [Qz,Xd];refine go 2<|Yd (Zw 3) λt _=>Yd (Zw 4) λc _=>go 7 ?_;refine cl 5 [1,2] (Zgu _ _ _ q r j m B F s) λi n=>go 11<|kf (aI (λh=>h P))<|go 9 ?_;refine cl 6 [5] Zq1 λb _=>go 3 ?_;refine Zxd ([Ku b 50 #[i.1],Xn 3 Hm qGp i.1 i.2]) y (λ(k:Nat) (_:Unit)=>[(0,Yy y (λ_=>False)),(3,box t 82 #[.bool false,.string ⟨#[]⟩,.bool false,.string ⟨#[]⟩]),(4,box c 26 #[.int .i64 0])]) (λk _=>k=0) (λ(_:Unit)=>[(0,Yy y (λ_=>False)),(3,box t 82 #[.bool false,.string ⟨#[]⟩,.bool false,.string ⟨#[]⟩]),(4,box c 26 #[.int .i64 0])]) (λ_=>False) () J (by intro d w;first|exact enters_of func162 O8 rfl d w|exact call162 d w) (Zk3 i.1 i.2 b (Zln q r j m s n)) ?_ (λ_ _=>J) J H.h J J K3 (λ_ _=>⟨J,J⟩) (λ_=>⟨J,J⟩) (λk x V _ Q o l R S=>?_) J (λ_ o D W=>?_) (λ_ I=>?_)
 .intro p N;simp only [aX,cM,fO]at N;rcases N with rfl|rfl
  .exact⟨J,6,J⟩
  .exact⟨J,5,J⟩
 .exact Bool.noConfusion ((Zie n Q).symm.trans z)
 .refine dt (Xy [] J aA (λa w hs=>Zif))<|go 3 ?_;refine Zyk λa w hs=>⟨J,[(6,.pointer (some ⟨t,0,none⟩)),(7,.pointer (some ⟨c,0,none⟩))],[(0,Yy y (λ_=>False)),(3,box t 82 #[.bool false,.string ⟨#[]⟩,.bool false,.string ⟨#[]⟩]),(4,box c 26 #[.int .i64 9])],J,⟨⟨_,J,J,λ_ h=>h⟩,⟨_,J,J,λ_ h=>h⟩,⟨_,J,J,λ_ h=>h⟩,aA⟩,hs.weaken ⟨J,J,aA⟩ ⟨J,J,J,J,aA⟩,?_⟩;exact Nm G () results43 J aA Za
 .exact I.elim
theorem Yjh(B F:List Zk)(W:Int)(t:∀g∈B,Gin g)(R:∀g∈F,Gin g)(s:Yf B=true)(Q:Yf F=true)(Y:B.length<=5)(Z:F.length<=5)(S:dsB W=true):Cal prog 43 #[va,vb,.int .i64 W] [Xn 6 Xv qG va B,Xn 6 Xv qG vb F] false (G:=R2×Int) (λg=>WtP W B F g) (λg=>wtV g) (λg=>[]):=by
 refine Zcx func43 J ntmps43 J K2 ?_;intro V sc hw y;have hw:=Hw.mk hw;simp only [Qz,Xd];refine go 2<|Yd (Zw 3) λN _=>Yd (Zw 4) λe _=>go 7 ?_;refine cl 5 [1,2] (Zgu _ _ _ t R s Q Y Z S) λP d=>go 14<|Ze J (λj=>?_) (λj=>?_)
 .have m:=j;refine go 2 ?_;refine dt (Xy [] J aA (λa w hs=>Zif))<|go 7 ?_;exact Ydr<|Nm y ((0,0),Mx B F) results43 J (.inl ⟨m,J⟩) Za
 .have m:=j;refine go 6 ?_;refine cl 6 [5] Zq1 λb _=>go 3 ?_;refine Zxd ([Ku b 50 #[P.1],Xn 3 Hm qGp P.1 P.2]) V (λ(k:Nat) (_:Unit)=>[(0,Yy V (λ_=>False)),(3,box N 82 #[.bool false,.string ⟨#[]⟩,.bool false,.string ⟨#[]⟩]),(4,box e 26 #[.int .i64 0])]) (λk _=>k=0) (λ(o:R2)=>[(0,Yy V (λ_=>False)),(3,box N 82 #[.bool (decide (o.1<0)),.string (Qp (o.1).natAbs),.bool (decide (o.2<0)),.string (Qp (o.2).natAbs)]),(4,box e 26 #[.int .i64 0])]) (λo=>WtP W B F (o,0)) () J (by intro n w;first|exact enters_of func162 O8 rfl n w|exact call162 n w) (Zk3 P.1 P.2 b (Zln t R s Q S d)) ?_ (λ_ _=>J) J hw.h J J K3 (λ_ _=>⟨J,J⟩) (λ_=>⟨J,J⟩) (λk x c _ z r l Mf Wa=>?_) J (λ_ r D od=>?_) (λo a0=>?_)
  .intro p hp;simp only [aX,cM,fO]at hp;rcases hp with rfl|rfl
   .exact⟨J,6,J⟩
   .exact⟨J,5,J⟩
  .refine Zf0 (env':=[(6,_),(7,_),(27,_),(28,_)]) (H':=[(92,Yy Wa Mf),(100,Ym2 (Fnd x.2.2 (qv (0,1)) (qv (1,1)) c)),(0,Yy V (λ_=>False)),(3,box N 82 #[.bool false,.string ⟨#[]⟩,.bool false,.string ⟨#[]⟩]),(4,box e 26 #[.int .i64 0])]) (λa w hs=>hs.weaken ⟨J,J,J,J,aA⟩ ⟨J,J,J,J,J,aA⟩)<|Hg<|Hh J<|Yd (Zw 7) λa2 _=>go 1 ?_;refine Bn (Zfj ?_);refine Gd<|Hh J<|Yd (Zw 8) λa3 _=>go 1 ?_;refine Bn (Zfj ?_);refine x_ra [(6,_),(7,_),(10,_),(11,_)] [(0,_),(3,_),(4,_),(100,_),(7,_),(8,_)] K4 K7 J (λq h=>by cases h;rfl) ⟨.inr (λb i=>⟨0,_,J,i⟩),.inl J,.inl J,.inr (λb i=>⟨100,_,J,i⟩),.inl J,.inl J,aA⟩ λWb a7=>?_;refine Ysq (f_fct 100 J) (λf=>?_);have a1:=gap_t t s d (fA.1 (eV z)).1;obtain⟨H,I,M⟩:=wt_m a1 f;refine Zbw<|Hg<|Zhv [7,8] [13] J<|Zj 8 [(0,0),(1,0),(2,0),(3,0),(4,0),(5,0)]<|go 7 ⟨O1,?_⟩;refine Qq 7 6 11 ?_ ?_
   .refine Px (Zl 8 [] (Zak (x.1.2-x.1.1) ⟨O1,O1⟩)) λ_ _=>?_;refine Qq 6 7 11 ?_ ?_
    .refine Px (Zl 8 [] (Kz c.1 c.2 (x.1.2-x.1.1) 1 (aB f.b1 O4) (aB f.b2 O4) (aB (Li ⟨O1,O1⟩) O4) O7 f.lw.1)) λ_ _=>?_;refine Zj 0 [(8,0),(9,0),(10,0),(11,1),(12,1),(13,3)]<|go 3 ?_;refine Yn (Qf 9) λa4 ho=>go 3<|Zo ?_;refine Gd<|Hg<|Zhv [7] [] J<|Zj 7 [(1,0),(2,0)]<|go 3 ?_;refine Qq 6 0 3 ?_ ?_
     .refine Lq J J (Zbk (Ynt 9 J J J isAgg82 sizeOf82 J J J J) J) (λ_ _=>?_);refine Zj 0 [(3,1),(4,1),(5,0),(6,0),(7,0),(8,1)]<|Yn (Zl 9 [] (Zak x.1.1 ⟨O1,O1⟩)) λ_ _=>Yn (Zl 9 [] (Ia (wtM x c).1 (wtM x c).2 x.1.1 1 (aB H O4) (aB I O4) (aB (Li ⟨O1,O1⟩) O4) O7 M)) λ_ _=>go 5 ?_;refine Zo<|Gd<|Hg<|Hh J<|go 3 ?_;refine Bn (Zfj ?_);refine Gd<|Zay<|go 1 ?_;exact Zqo (wtT x c) (Zoy d m z f) ⟨.inr (λb i=>⟨0,_,J,i⟩),.inl J,.inl J,aA⟩ K4
     .refine Px (Zl 9 [] (Zak x.1.1 ⟨O1,O1⟩)) λ_ _=>?_;refine Zj 0 [(0,1),(4,1),(5,0),(6,0),(7,0),(8,1)]<|go 1 ?_;refine Yn (Zl 9 [] (Ia (wtM x c).1 (wtM x c).2 x.1.1 1 (aB H O4) (aB I O4) (aB (Li ⟨O1,O1⟩) O4) O7 M)) λ_ _=>go 5<|Zo ?_;refine Gd<|Hg<|Hh J<|go 3 ?_;refine Bn (Zfj ?_);refine Gd<|Zay<|go 1 ?_;exact Zqo (wtT x c) (Zoy d m z f) ⟨.inr (λb i=>⟨0,_,J,i⟩),.inl J,.inl J,aA⟩ K4
    .refine Px (Qf 10) λa5 a8=>?_;refine Zj 0 [(7,1),(8,0),(9,0),(10,0),(12,1),(13,3)]<|Yn (Zl 10 [] (Kz c.1 c.2 (x.1.2-x.1.1) 1 (aB f.b1 O4) (aB f.b2 O4) (aB (Li ⟨O1,O1⟩) O4) O7 f.lw.1)) λ_ _=>go 6 ?_;refine Zo<|Gd<|Hg<|Zhv [7] [] J<|Zj 7 [(1,0),(2,0)]<|go 3 ?_;refine Qq 6 0 3 ?_ ?_
     .refine Lq J J (Zbk (Ynt 10 J J J isAgg82 sizeOf82 J J J J) J) (λ_ _=>?_);refine Zj 0 [(3,1),(4,1),(5,0),(6,0),(7,0),(8,1)]<|Yn (Zl 10 [] (Zak x.1.1 ⟨O1,O1⟩)) λ_ _=>Yn (Zl 10 [] (Ia (wtM x c).1 (wtM x c).2 x.1.1 1 (aB H O4) (aB I O4) (aB (Li ⟨O1,O1⟩) O4) O7 M)) λ_ _=>go 5 ?_;refine Zo<|Gd<|Hg<|Hh J<|go 3 ?_;refine Bn (Zfj ?_);refine Gd<|Zay<|go 1 ?_;exact Zqo (wtT x c) (Zoy d m z f) ⟨.inr (λb i=>⟨0,_,J,i⟩),.inl J,.inl J,aA⟩ K4
     .refine Px (Zl 10 [] (Zak x.1.1 ⟨O1,O1⟩)) λ_ _=>?_;refine Zj 0 [(0,1),(4,1),(5,0),(6,0),(7,0),(8,1)]<|go 1 ?_;refine Yn (Zl 10 [] (Ia (wtM x c).1 (wtM x c).2 x.1.1 1 (aB H O4) (aB I O4) (aB (Li ⟨O1,O1⟩) O4) O7 M)) λ_ _=>go 5<|Zo ?_;refine Gd<|Hg<|Hh J<|go 3 ?_;refine Bn (Zfj ?_);refine Gd<|Zay<|go 1 ?_;exact Zqo (wtT x c) (Zoy d m z f) ⟨.inr (λb i=>⟨0,_,J,i⟩),.inl J,.inl J,aA⟩ K4
   .refine Px (Qf 11) λa6 a9=>?_;refine Zj 0 [(6,1),(7,1),(8,0),(9,0),(10,0),(12,1),(13,3)]<|Yn (Zl 11 [] (Zak (x.1.2-x.1.1) ⟨O1,O1⟩)) λ_ _=>Yn (Zl 11 [] (Kz c.1 c.2 (x.1.2-x.1.1) 1 (aB f.b1 O4) (aB f.b2 O4) (aB (Li ⟨O1,O1⟩) O4) O7 f.lw.1)) λ_ _=>go 6 ?_;refine Zo<|Gd<|Hg<|Zhv [7] [] J<|Zj 7 [(1,0),(2,0)]<|go 3 ?_;refine Qq 6 0 3 ?_ ?_
    .refine Lq J J (Zbk (Ynt 11 J J J isAgg82 sizeOf82 J J J J) J) (λ_ _=>?_);refine Zj 0 [(3,1),(4,1),(5,0),(6,0),(7,0),(8,1)]<|Yn (Zl 11 [] (Zak x.1.1 ⟨O1,O1⟩)) λ_ _=>Yn (Zl 11 [] (Ia (wtM x c).1 (wtM x c).2 x.1.1 1 (aB H O4) (aB I O4) (aB (Li ⟨O1,O1⟩) O4) O7 M)) λ_ _=>go 5 ?_;refine Zo<|Gd<|Hg<|Hh J<|go 3 ?_;refine Bn (Zfj ?_);refine Gd<|Zay<|go 1 ?_;exact Zqo (wtT x c) (Zoy d m z f) ⟨.inr (λb i=>⟨0,_,J,i⟩),.inl J,.inl J,aA⟩ K4
    .refine Px (Zl 11 [] (Zak x.1.1 ⟨O1,O1⟩)) λ_ _=>?_;refine Zj 0 [(0,1),(4,1),(5,0),(6,0),(7,0),(8,1)]<|go 1 ?_;refine Yn (Zl 11 [] (Ia (wtM x c).1 (wtM x c).2 x.1.1 1 (aB H O4) (aB I O4) (aB (Li ⟨O1,O1⟩) O4) O7 M)) λ_ _=>go 5<|Zo ?_;refine Gd<|Hg<|Hh J<|go 3 ?_;refine Bn (Zfj ?_);refine Gd<|Zay<|go 1 ?_;exact Zqo (wtT x c) (Zoy d m z f) ⟨.inr (λb i=>⟨0,_,J,i⟩),.inl J,.inl J,aA⟩ K4
  .refine dt (Xy [] J aA (λa w hs=>Zif))<|go 3 ?_;refine Zyk λa w hs=>⟨J,[(6,.pointer (some ⟨N,0,none⟩)),(7,.pointer (some ⟨e,0,none⟩))],[(0,Yy V (λ_=>False)),(3,box N 82 #[.bool false,.string ⟨#[]⟩,.bool false,.string ⟨#[]⟩]),(4,box e 26 #[.int .i64 9])],J,⟨⟨_,J,J,λ_ h=>h⟩,⟨_,J,J,λ_ h=>h⟩,⟨_,J,J,λ_ h=>h⟩,aA⟩,hs.weaken ⟨J,J,aA⟩ ⟨J,J,J,J,aA⟩,?_⟩;exact Nm y ((0,0),9) results43 J (wt_no d m r) Za
  .exact Nm y (o,0) results43 J a0 Za
theorem Yfy(n:Nat)(B:Nat)(P:n<=64):Yhn prog 175 [.pointer (some ⟨B,0,none⟩)] [Ku B 3 #[.int .i64 (n:Int)]] (α:=Nat×Nat) (G:=Unit) (prs n) (λc g=>[.int .i64 (c.1:Int),.int .i64 (c.2:Int)]) (λc g=>[]):=by
 refine Zty func175 J ntmps175 J K1 ?_;intro l M y N x Q I o j b s D;simp only [Qz,Xd];have r:=Hw.mk I;refine Ysu<|go 1 ?_;refine Ysv<|go 8 ?_;refine lp (G:=Nat×World) [0,1,5] [1] (λq=>[(6,.int .i64 (q.1:Int))]) (λq=>[(0,Yy q.2 (λ_=>False))]) (λq=>(q.1<=n)/\(y (prU n q.1).length q.2)/\(x.heap.size<=q.2.heap.size)) (λq=>n-q.1) (0,x) ⟨O2,s,aF _⟩ K1 K1 ?_;rintro⟨i,W⟩ ⟨hi,a,d⟩;dsimp only at hi a d;dsimp only;have w:=Ydh r d;refine go 6<|Ze J (λf=>?_) (λf=>?_)
 .refine go 18 ⟨O1,?_⟩;refine lp (G:=Nat×World) [0,1,3,5,6] [1] (λq=>[(4,.int .i64 (q.1:Int))]) (λq=>[(0,Yy q.2 (λ_=>False))]) (λq=>(i+1<=q.1)/\(q.1<=n)/\(y ((prU n i).length+(q.1-(i+1))) q.2)/\(x.heap.size<=q.2.heap.size)) (λq=>n-q.1) (i+1,W) ⟨O2,O2,by rw [fE];exact a,d⟩ K1 K1 ?_;rintro⟨k,V⟩ ⟨t,F,a,d⟩;dsimp only at t F a d;dsimp only;have w:=Ydh r d;refine go 8<|Ze J (λh=>?_) (λh=>?_)
  .refine go 5<|Yg8 ?_;refine Lg (Zbd J J) J<|Lg (Zbd J J) J<|Lg (Zbd J J) J<|Zwl [_,_] [_] (i,k) () D (Ykr O1 O1 O1) a d o J J J J J K2 J J (λp H=>by cases H) K1 K1 (λz e m=>?_) (λz e m=>?_)
   .simp only [Xd];refine Lg (dF (Yq J J) J) J<|Bi<|go 10 ⟨O1,?_⟩;exact Yh (k+1,z) ⟨O2,O2,by rw [show(prU n i).length+(k+1-(i+1))=((prU n i).length+(k-(i+1)))+1 from by omega];exact e,m⟩ O2 K1 K1
   .simp only [Xd];refine Lg (dT (Yq J J) J) J<|Bi<|go 11 ?_;exact x_ngn<|Zb7 (.inr J) J J j b (.inr e)
  .refine go 10 ⟨O1,?_⟩;exact Yh (i+1,V) ⟨O2,by rw [pr_len,show n=k by omega];rw [show n=k by omega]at a;exact a,d⟩ O2 K1 K1
 .obtain rfl:i=n:=O1;refine go 4 ?_;exact x_ngn<|Zb7 (.inr J) J J j b (.inl a)
theorem Yjf(n:Nat):Cal prog 109 #[.int .i64 (n:Int)] [] true (G:=Nat) (λg=>True) (λg=> .func (.func 175) #[] #[.pointer (some ⟨g,0,none⟩)]) (λg=>[Ku g 3 #[.int .i64 (n:Int)]]):=by refine Zg func109 ntmps109 λe d c a=>go 2 ?_;refine Yd (Yk 1) λb _=>go 5 ?_;refine dt (Zxq [] [_] J aA K1)<|go 4 ?_;exact Zp (Zfr 1 J J)<|Xh a _ results109 J aA (Ph 1 Za)
theorem Yfz{ps:List Zk}(b:∀g∈ps,Gin g):Qe prog 108 #[v] [Xn 6 Xv qG v ps] (.bool (!Yf ps)):=by refine Zg func108 ntmps108 λe d c a=>go 8 ?_;refine cl 1 [1] (Nu b) λ_ _=>go 5 ?_;exact Xh a () results108 J aA Za
theorem Ymc(ls:List PT)(m:∀x∈ls,∀g∈x.2,Gin g):Cal prog 174 #[v,.func (.func 108) #[] #[]] [Xn 1 Znu qP v ls] false (G:=Int) (λr=>decide (r>=0)=!Zjp ls) (λr=> .int .i64 r) (λr=>[]):=by
 refine Zg func174 ntmps174 λp o n d=>?_;refine Pi (Mi (i:=1) J Zc) λf=>go 14 ?_;refine lp (G:=Nat) [0,1,7] [0,1] (λi=>[(8,.int .i64 (i:Int))]) (λi=>[]) (λi=>(i<=ls.length)/\(∀j,j<i->Yf (pth ls j)=true)) (λi=>ls.length-i) 0 ⟨O2,λj h=>absurd h (bD j)⟩ K1 aA ?_;rintro i ⟨hi,l⟩;refine go 6<|Ze J (λc=>?_) (λc=>?_)
 .refine go 11<|Zf (Nd 1 55 (ls.getD i PT0) J J (Zd O1) J)<|go 4 ?_;refine dt (Zv 1 i J J J J Zc Yfk sizeOf38 J)<|dt (Yw 1 PT0 J J J Zc pPq)<|tt (Ybj 1 [] [_] [] (Yfz (m _ (Zd O1))) J J J J K1 call108 (Zm 55 J J J Zn) J n.h) λ_ _=>go 2 ?_;refine Mz J (λa=>?_) (λa=>?_)
  .have b:=a;refine go 12 ?_;exact Xh d (i:Int) results174 J (by rw [vidx_t O1 (Zt0 b)];exact aG (kH i)) Za
  .have b:=a;refine go 7 ⟨O1,?_⟩;exact Yh (i+1) ⟨O2,λj h=>by rcases aY.1 h with e|e;exact l j e;subst e;exact Zt1 b⟩ O2 K1 aA
 .obtain rfl:i=ls.length:=O1;refine go 11 ?_;exact Xh d (-1) results174 J (by rw [Yhy (aF _) (λk h _=>l k h)];rfl) Za
theorem Yom(ls:List PT)(c:∀x∈ls,∀g∈x.2,Gin g):Qe prog 107 #[v,.func (.func 108) #[] #[]] [Xn 1 Znu qP v ls] (.bool (!Zjp ls)):=by refine Zg func107 ntmps107 λh f d b=>go 9 ?_;refine cl 1 [1] (Ymc ls c) λe a=>go 5 ?_;exact Xh b () results107 (by rw [a]) aA Za
theorem Zvb(B:Int)(R:∀x∈ls,∀g∈x.2,Gin g)(S:Zjp ls=true)(hL:∀x∈ls,x.2.length<=5)(hn:ls.length<=64)(N:dsB B=true):Cal prog 48 #[v,.int .i64 B] [Xn 1 Znu qP v ls] false (G:=ClT) (λr=>ClR B 1 1 ls r) (λr=>clE r) (λr=>[]):=by
 refine Zcx func48 J ntmps48 J K1 ?_;intro w0 sc hw W;have hw:=Hw.mk hw;simp only [Qz,Xd];refine Pi (Mi (i:=1) J Zc) (λa9=>?_);refine Zby (Xp 1 J Zc) (λI a4=>?_);subst a4;refine go 2<|Yd (Yk 2) λbx _=>Yd (Yk 3) λt _=>Yd (Zw 4) λc _=>Yd (Zw 5) λd _=>Yd (Zw 6) λe _=>go 7 ?_;refine cl 6 [] Zgt λ_ _=>?_;refine dt (dF (Yq J J) (aD (λb=>Value.bool (!b)) N))<|go 2 ?_;refine Hu 6 [1] (Yom ls R) λ_ _=>?_;refine kf (by rw [S];rfl)<|go 8<|kf (aI O1)<|go 12 ?_;refine cl 7 [] (Yjf ls.length) λb _=>go 3 ?_;refine Zxd ([Ku b 3 #[.int .i64 (ls.length:Int)]]) w0 (λ(k:Nat) (_:Unit)=>[(0,Yy w0 (λ_=>False)),(1,Xn 1 Znu qP (Xk I) ls),(2,box bx 61 #[Xk I]),(3,box t 3 #[.int .i64 B]),(4,box c 64 #[.int .i64 0,.int .i64 0,.int .i64 0,.int .i64 0]),(5,box d 4 #[.bool false]),(6,box e 26 #[.int .i64 0])]) (λk _=>PrI B ls k) (λ(z:ClT)=>[(0,Yy w0 (λ_=>False)),(4,box c 64 #[.int .i64 z.1.1,.int .i64 z.1.2.1,.int .i64 z.1.2.2.1,.int .i64 z.1.2.2.2]),(5,box d 4 #[.bool z.2.1]),(6,box e 26 #[.int .i64 z.2.2])]) (λz=>ClR B 1 1 ls z) () J (by intro n w;first|exact enters_of func175 O8 rfl n w|exact call175 n w) (Yfy ls.length b O1) ?_ (λ_ _=>J) J hw.h J (λj p h _=>absurd h (bD j)) K7 (λ_ _=>⟨J,J⟩) (λ_=>⟨J,J⟩) (λk x gi _ hx o l Z Wa=>?_) J (λ_ o D od=>?_) (λz a6=>?_)
 .intro p V;simp only [aX,cM,fO]at V;rcases V with rfl;exact⟨J,7,J⟩
 .refine Zf0 (env':=[(2,_),(3,_),(4,_),(5,_),(6,_),(29,_),(30,_)]) (H':=[(92,Yy Wa Z),(0,Yy w0 (λ_=>False)),(1,Xn 1 Znu qP (Xk I) ls),(2,box bx 61 #[Xk I]),(3,box t 3 #[.int .i64 B]),(4,box c 64 #[.int .i64 0,.int .i64 0,.int .i64 0,.int .i64 0]),(5,box d 4 #[.bool false]),(6,box e 26 #[.int .i64 0])]) (λa w hs=>hs.weaken ⟨J,J,J,J,J,J,J,aA⟩ ⟨J,J,J,J,J,J,J,J,aA⟩)<|Hg<|Hh J<|Yd (Zw 8) λF _=>go 1 ?_;refine Bn (Zfj ?_);refine Gd<|Hh J<|Yd (Zw 9) λH _=>go 1 ?_;refine Bn (Zfj ?_);refine x_ra [(2,_),(3,_),(4,_),(5,_),(6,_),(7,_),(8,_)] [(0,_),(1,_),(2,_),(3,_),(4,_),(5,_),(6,_),(8,_),(9,_)] K7 K10 J (λq h=>by cases h;rfl) ⟨.inr (λb f=>⟨0,_,J,f⟩),.inr (λb f=>⟨1,_,J,f⟩),.inl J,.inl J,.inl J,.inl J,.inl J,.inl J,.inl J,aA⟩ λWb a3=>?_;obtain⟨-,b1,b2⟩:=Zzi (eV hx);refine Zbw<|Hg<|Zf0 (Nd 1 55 (ls.getD x.1 PT0) J J (Zd (show x.1<ls.length by omega)) J)<|Zf0 (Nd 1 56 (ls.getD x.2 PT0) J J (Zd (show x.2<ls.length by omega)) J)<|Ysr (λ_=>False) [(0,0),(1,0),(2,0),(3,0),(4,0),(5,0),(6,0),(7,0),(8,0),(9,1),(10,0),(11,0),(12,0),(13,0),(14,3)] O8 J O8<|go 2 ?_;refine Xc J J (Xl (Zv 1 x.1 J J J J Zc Yfk sizeOf38 J))<|Xc J J (Xl (Yw 1 PT0 J J J Zc pPq))<|go 2 ?_;refine Xc J J (Xl (Zv 1 x.2 J J J J Zc Yfk sizeOf38 J))<|Xc J J (Xl (Yw 1 PT0 J J J Zc pPq))<|go 1 ?_;refine Yn (Zl 10 [55,56] (Ybw (R _ (Zd (show x.1<ls.length by omega))) (R _ (Zd (show x.2<ls.length by omega))) (Zgg S (Zd (show x.1<ls.length by omega))) (Zgg S (Zd (show x.2<ls.length by omega))) (hL _ (Zd (show x.1<ls.length by omega))) (hL _ (Zd (show x.2<ls.length by omega))) N)) λQ M=>go 6 ?_;refine Gd<|Hg<|Hg<|Hh J<|go 2 ?_;refine Bn (Zfj ?_);refine Gd<|Yss J (λy=>?_) (λy=>?_)
  .have h9:=y;refine Hg<|Hh J<|dt (Xy [] J aA (λa w hs=>b64_))<|go 4 ?_;refine Bn (Zfj ?_);refine Gd<|Zay<|go 2 ?_;exact Zqo ((0,0,0,0),false,Mx (ls.getD x.1 PT0).2 (ls.getD x.2 PT0).2) (Yri o hx h9) ⟨.inr (λb f=>⟨0,_,J,f⟩),.inl J,.inl J,.inl J,aA⟩ K5
  .have h9:=y;refine Ym9<|Gd<|Hg<|Hh J<|go 1 ?_;refine cl 11 [10] Zq1 λP _=>?_;refine Bn (Zfj ?_);refine Gd<|Zbw<|er_rfi (pre:=[Ku P 50 #[Q.1],Xn 3 Hm qGp Q.1 Q.2]) (w0:=w0) (λ(k2:Nat) (_:Unit)=>[(0,Yy w0 (λ_=>False)),(92,Yy Wb Z),(1,Xn 1 Znu qP (Xk I) ls),(2,box bx 61 #[Xk I]),(3,box t 3 #[.int .i64 B]),(4,box c 64 #[.int .i64 0,.int .i64 0,.int .i64 0,.int .i64 0]),(5,box d 4 #[.bool false]),(6,box e 26 #[.int .i64 0]),(8,box F 3 #[.int .i64 (x.1:Int)]),(9,box H 3 #[.int .i64 (x.2:Int)])]) (λk2 _=>k2=0) (λ(m:ClT)=>[(0,Yy w0 (λ_=>False)),(92,Yy Wb Z),(4,box c 64 #[.int .i64 m.1.1,.int .i64 m.1.2.1,.int .i64 m.1.2.2.1,.int .i64 m.1.2.2.2]),(5,box d 4 #[.bool m.2.1]),(6,box e 26 #[.int .i64 m.2.2])]) (λm=>ClR B 1 1 ls m) () a3 J J (by intro n w;first|exact enters_of func162 O8 rfl n w|exact call162 n w) (Zk3 Q.1 Q.2 P (Zln (R _ (Zd (show x.1<ls.length by omega))) (R _ (Zd (show x.2<ls.length by omega))) (Zgg S (Zd (show x.1<ls.length by omega))) (Zgg S (Zd (show x.2<ls.length by omega))) N M)) ?_ (λ_ _=>J) J hw.h J J K10 (λ_ _=>⟨J,J⟩) (λ_=>⟨J,J⟩) (λk2 x2 a2 _ a5 s l2 a0 a1=>?_) (λ_ s=>?_) (λm Y=>?_)
   .intro p V;simp only [aX,cM,fO]at V;rcases V with rfl|rfl
    .exact⟨J,11,J⟩
    .exact⟨J,10,J⟩
   .refine Zf0 (env':=[(4,_),(5,_),(6,_),(7,_),(8,_),(50,_)]) (H':=[(93,Yy a1 a0),(100,Ym2 (Fnd x2.2.2 (qv (0,1)) (qv (1,1)) a2)),(0,Yy w0 (λ_=>False)),(92,Yy Wb Z),(1,Xn 1 Znu qP (Xk I) ls),(2,box bx 61 #[Xk I]),(3,box t 3 #[.int .i64 B]),(4,box c 64 #[.int .i64 0,.int .i64 0,.int .i64 0,.int .i64 0]),(5,box d 4 #[.bool false]),(6,box e 26 #[.int .i64 0]),(8,box F 3 #[.int .i64 (x.1:Int)]),(9,box H 3 #[.int .i64 (x.2:Int)])]) (λa w hs=>hs.weaken ⟨J,J,J,J,J,J,aA⟩ ⟨J,J,J,J,J,J,J,J,J,J,J,J,aA⟩)<|Hh J<|Yd (Zw 12) λa7 _=>go 1 ?_;refine Bn (Zfj ?_);refine x_ra [(4,_),(5,_),(6,_),(7,_),(8,_),(11,_)] [(0,_),(92,_),(1,_),(2,_),(3,_),(4,_),(5,_),(6,_),(8,_),(9,_),(100,_),(12,_)] K6 K13 J (λq h=>by cases h;rfl) ⟨.inr (λb f=>⟨0,_,J,f⟩),.inr (λb f=>⟨92,_,J,f⟩),.inr (λb f=>⟨1,_,J,f⟩),.inl J,.inl J,.inl J,.inl J,.inl J,.inl J,.inl J,.inr (λb f=>⟨100,_,J,f⟩),.inl J,aA⟩ λb0 a8=>?_;refine Zbw<|Hg<|Hh J<|go 6 ?_;refine dt (Xy [(0,_),(1,_),(2,_),(3,_)] J K8 (λa w hs=>Zoj ((Yg J) a w hs) ((Yg J) a w hs) ((Yg J) a w hs) ((Yg J) a w hs)))<|go 3 ?_;refine Bn (Zfj ?_);refine Gd<|Zay<|go 1 ?_;exact Zqo (((x.1:Int),(x.2:Int),x2.1.1,x2.1.2),true,0) (Yrh o hx h9 M s a5) ⟨.inr (λb f=>⟨0,_,J,f⟩),.inr (λb f=>⟨92,_,J,f⟩),.inl J,.inl J,.inl J,aA⟩ K6
   .refine go 2 ?_;exact xq_rn () (prI_s o hx (Zt8 M h9 s)) ⟨.inr (λb f=>⟨0,_,J,f⟩),.inr (λb f=>⟨1,_,J,f⟩),.inl J,.inl J,.inl J,.inl J,.inl J,aA⟩ K8
   .refine go 2 ?_;exact Zqo m Y ⟨.inr (λb f=>⟨0,_,J,f⟩),.inl J,.inl J,.inl J,aA⟩ K5
 .refine dt (Xy [] J aA (λa w hs=>b64_))<|go 4 ?_;refine Zyk λa w hs=>⟨J,[(4,.pointer (some ⟨c,0,none⟩)),(5,.pointer (some ⟨d,0,none⟩)),(6,.pointer (some ⟨e,0,none⟩))],[(0,Yy w0 (λ_=>False)),(4,box c 64 #[.int .i64 0,.int .i64 0,.int .i64 0,.int .i64 0]),(5,box d 4 #[.bool false]),(6,box e 26 #[.int .i64 0])],J,⟨⟨_,J,J,λ_ h=>h⟩,⟨_,J,J,λ_ h=>h⟩,⟨_,J,J,λ_ h=>h⟩,⟨_,J,J,λ_ h=>h⟩,aA⟩,hs.weaken ⟨J,J,J,aA⟩ ⟨J,J,J,J,J,aA⟩,?_⟩;exact xe3 W ((0,0,0,0),false,0) results48 J (Yrj o) Za
 .exact xe3 W z results48 J a6 Za
theorem Yjg(va vb:Value)(a b:List Zk)(l m:Nat)(k:Nat)(n:k<4194304)(h:∀g∈a,Gin g)(i:∀g∈b,Gin g)(c:Yf a=true)(d:Yf b=true)(e:a.length<=5)(f:b.length<=5):Qe prog 111 #[.int .i64 (k:Int),.pointer (some ⟨l,0,none⟩),.pointer (some ⟨m,0,none⟩)] [Ku l 38 #[va],Ku m 38 #[vb],Xn 6 Xv qG va a,Xn 6 Xv qG vb b] (.bool (!Fw ((k:Int)+1) 1 1 a b)):=by refine Zg func111 ntmps111 λq p o j=>?_;refine go 11 ⟨O1,?_⟩;refine cl 4 [3,4] (Zbo a b ((k:Int)+1) h i c d e f (ds_in O1 O1)) λ_ _=>go 15 ?_;exact Xh j () results111 J aA Za
theorem Yqc(a b:List Zk){s t:Nat}(l:∀g∈a,Gin g)(o:∀g∈b,Gin g)(d:Yf a=true)(e:Yf b=true)(D:a.length<=5)(F:b.length<=5):Cal prog 110 #[.int .i64 4194304,.func (.func 111) #[] #[.pointer (some ⟨s,0,none⟩),.pointer (some ⟨t,0,none⟩)]] [Ku s 38 #[va],Ku t 38 #[vb],Xn 6 Xv qG va a,Xn 6 Xv qG vb b] false (G:=Nat) (λr=>NrS a b r) (λr=> .int .i64 (r:Int)) (λr=>[]):=by
 refine Zg func110 ntmps110 λP N M H=>go 14 ?_;refine lp (G:=Nat×Nat) [1] [0,1,2,3,4] (λq=>[(5,.int .i64 (q.1:Int)),(6,.int .i64 (q.2:Int))]) (λq=>[]) (λq=>(q.1<=q.2/\q.2<=4194304)/\(∀k:Nat,k<q.1->Fw ((k:Int)+1) 1 1 a b=true)/\(∀k:Nat,q.2<=k->k<4194304->Fw ((k:Int)+1) 1 1 a b=false)) (λq=>q.2-q.1) (0,4194304) ⟨⟨bE _,aF _⟩,λk f=>absurd f (bD k),λk f h=>absurd h (Nat.not_lt.2 f)⟩ K2 aA ?_;rintro⟨i,j⟩ ⟨p,w,x⟩;dsimp only at p w x;dsimp only;refine go 8<|Ze J (λy=>?_) (λy=>?_)
 .have I:i<j:=O1;refine go 7 ?_;refine dt (Yz ( .int .i64 ((i+j:Nat):Int)) (Ynw J J J) (by rw [Int.natCast_add]))<|dt (Ztj J J uT3 Ybd (by simp only [U];omega))<|dt (Fm 2 (n:=1) J J J J J)<|dt (Zbe J J Ybd uT3 ⟨O1,O1⟩)<|go 7 ?_;refine tt (Ybj 4 [] [_] [_,_] (Yjg va vb a b s t ((i+j)/2) O1 l o d e D F) J J J J K1 call111 (Zm 1 J J J (Zm 2 J J J (Zm 3 J J J (Zm 4 J J J Zn)))) J M.h) λ_ _=>go 3 ?_;refine Mz J (λc=>?_) (λc=>?_)
  .have z:=c;refine go 6 ⟨O1,?_⟩;exact Yh (((i+j)/2)+1,j) ⟨⟨O10,O10⟩,λk f=>nrS_t l o d e (m:=((i+j)/2)) O1 (by simpa using z) k f,x⟩ O10 K2 aA
  .have z:=c;refine go 5 ?_;exact Yh (i,((i+j)/2)) ⟨⟨O10,O10⟩,w,λk f h=>nrS_f l o d e (m:=((i+j)/2)) (by simpa using z) k f h⟩ O10 K2 aA
 .have B:¬i<j:=O1;refine go 12 ?_;exact Xh H i results110 J (Yrx p B w x) Za
theorem Zq2(b c:List Zk)(l:∀g∈b,Gin g)(m:∀g∈c,Gin g)(f:Yf b=true)(h:Yf c=true)(j:b.length<=5)(k:c.length<=5):Cal prog 50 #[va,vb] [Xn 6 Xv qG va b,Xn 6 Xv qG vb c] false (G:=Int×Int) (λg=>NrP b c g) (λg=> .tuple #[.int .i64 g.1,.int .i64 g.2]) (λg=>[]):=by
 refine Zg func50 ntmps50 λF D B d=>?_;refine Zby (Xp 1 J Zc) (λx n=>?_);subst n;refine Zby (Xp 2 J Zc) (λy o=>?_);subst o;refine go 2<|Yd (Yk 3) λz _=>Yd (Yk 4) λs _=>go 8 ?_;refine cl 5 [1,2] (Zgu b c 0 l m f h j k O4) λt i=>go 16<|Ze J (λa=>?_) (λa=>?_)
 .have p:=a;refine go 10 ?_;exact Nm d (0,Mx b c) results50 J (.inl ⟨p,J⟩) Za
 .have p:=a;refine go 8<|Ze J (λe=>?_) (λe=>?_)
  .have q:t.2.length=0:=O1;refine go 9 ?_;exact Nm d (0,9) results50 J (Yrw i p q) Za
  .have q:¬t.2.length=0:=O1;refine go 5 ?_;refine dt (Zxq [] [_,_] J aA K2)<|cl 5 [3,4,1,2] (Yqc b c l m f h j k) λw r=>go 5 ?_;exact Nm d ((w:Int),0) results50 J (nr_end i p q r) Za
theorem Yqe{ps:List Zk}(h:∀g∈ps,Gin g)(c:Yf ps=true):Qe prog 120 #[v] [Xn 6 Xv qG v ps] (.tuple #[.int .i64 (spF ps),.int .i64 (spL ps),.int .i64 0]):=by refine Zg func120 ntmps120 λl k j a=>?_;refine Pi (Mi (i:=1) J Zc) (λd=>?_);obtain⟨-,e,f⟩:=Qd c;refine go 11 ?_;refine cl 1 [1] (Nu h) λ_ _=>?_;refine dt (dF (Yq J J) (aD (λb=>Value.bool (!b)) c))<|go 6 ?_;refine Qb (λ_=>False) [(0,0),(1,0),(2,0),(3,0),(4,0),(5,0),(6,0),(7,0),(8,0),(9,0),(10,0),(11,0),(12,3),(13,3)]<|go 2 ⟨O1,?_⟩;refine Xc J J (Xl (Mb 1 J J J Zc Dl J Kx J))<|Xc J J (Xl (Mj 1 G0 J J J Zc iA3 J))<|go 4 ⟨O1,?_⟩;refine Xc J J (Xl (Zv 1 (ps.length-1) J J J J Zc Lz Ir))<|Xc J J (Xl (Mb 1 J J J Zc Dl J Kx J))<|Xc J J (Xl (Mj 1 G0 J J J Zc iA3 J))<|go 6 ?_;exact xe3 a () results120 J aA Za
open Go.RowKit Below
variable {P:Program} {N:Nat} {sc:Nat->Prop} {env env':Pw} {H H':Hp} {Q Q':Exit->Act->World->Prop} {M:Nat->Prop}
theorem Ygg(h:u.oneCell'=true):u.cells=#[u]:=by cases u<;>simp_all [Value.cells,Value.oneCell']
theorem Zx7{α:Type}{enc:α->Value}{k q j:Nat}(z b:α)(c:∀x,(enc x).cells.size=k)(xs:List α)(a:j<xs.length)(i:q<k)(l:(enc z).cells.toList=(enc (xs.getD j b)).cells.toList.set q u) :
  cellsOf enc (xs.set j z)=(cellsOf enc xs).set (j*k+q) u:=by
 have e:=Bc c xs j (xs.getD j b) a;have hs:xs.set j (xs.getD j b)=xs:=by rw [aL,aO a,fD];exact List.set_getElem_self ..
 rw [hs]at e;have h:(cellsOf enc xs).length=xs.length*k:=Xm c xs;have g:j*k+k<=xs.length*k:=by rw [<-dG];exact aJ k a
 have d:((cellsOf enc xs).take (j*k)).length=j*k:=by rw [cL,h];omega
 have f:(enc (xs.getD j b)).cells.toList.length=k:=by rw [eY,c]
 rw [Bc c xs j z a,l]
 conv=>rhs;rw [e]
 rw [eC,eC,jN _ _ (by rw [d];omega),d,Nat.add_sub_cancel_left,List.set_append_left _ _ (by rw [f];exact i)]
theorem t_stf (i:Nat) {α:Type} {o:Oper} {x y:Operand} {t ts e:TypeId} {j k q:Nat}  {enc:α->Value} {xs:List α} (z I:α) {w0:World}  (ho:o.op= .store t x y) (hd:o.dst=none)
  (hx:ev env x=some (.pointer (some (eaf v j k q)))) (hy:ev env y=some u) (R:lk H i=some (Oe k e enc v xs)) (B:i≠0) (S:Enc P ts k enc) (m:j<xs.length)
  (D:∀w,(sizeOf t).run P w= .ok 1 w) (W:u.oneCell'=true) (hq:q<k) (hz:(enc z).cells.toList=(enc (xs.getD j I)).cells.toList.set q u)
  (Z:lk H 0=some (Yy w0 M0)) (hw:∀b,w0.heap.size<=b->sc b) :
  T P N sc (λ_=>True) o env H (G:=Unit) (λ_=>True) (λ_=>env) (λ_=>(i,Oe k e enc v (xs.set j z))::H):=λa w hs K Q hK=>by
 have p:w.ownsRow 0 e k v xs.length (cellsOf enc xs):=hs.hold i _ R;rcases p.2 with⟨rfl,hn⟩|⟨g,d,c,rfl,hb,V,n,s,h,f⟩
 .omega
 .have a1:j*k+k<=xs.length*k:=by rw [<-dG];exact aJ k m
  have a0:xs.length*k<=d*k:=aJ k n;have r:=run_storeCells_at P g (j*k+q) e [u] 0 c w V (by rw [h,jP];omega) (λu' F=>by rw [bN.1 F];exact W);simp only [eJ,jP]at r;have hr:(execOp a.eval o).run P w= .ok .skip (w.setRow g (c.toList.take (j*k+q) ++ [u] ++ c.toList.drop (j*k+q+1)).toArray):=by simp [execOp,ho,hs.ev hx,hs.ev hy,Instr.storeAt,Instr.sureAddr,storeVar,Ygg W,D,ead,eaf,Ov,r]
  unfold Oper.wp;rw [hr];show K (a.put o.dst _) _;rw [hd];have l:c.toList.length=d*k:=by rw [eY,h]
  refine hK () _ _ aA ((hs.upd R rfl B (q:=Oe k e enc (.slice (some ⟨g,0,none⟩) xs.length d) (xs.set j z)) (Ib (M:=λk=>(Value.slice (some ⟨g,0,none⟩) xs.length d).ownBlock=some k) rfl) ?_ (λk D=> .inl D) Z hw).put_none undef) (Ib aA);refine⟨by rw [Xm S.cells],.inr ⟨g,d,_,O6,hb,setRow_heap w g c _ e _ V,by simpa using n,s,?_,?_⟩⟩
  .simp only [kM,bG,cL,iR,jP,l];omega
  .rw [Zx7 z I S.cells xs m hq hz,<-f];simp only [bK];have Y:c.toList.take (j*k+q) ++ [u] ++ c.toList.drop (j*k+q+1)=c.toList.set (j*k+q) u:=by rw [jE,aM O1,eC,List.singleton_append]
   rw [Y,List.take_set]
end Go.Sky
namespace Go.Sky
variable{b:Int}{k:Nat}{qs zs:List Zk}{s:SL×SL×SL}{z:Zk}{v:Value}{t:TypeId}
def shG(b:Int)(g:Zk):Zk:=((g.1.1+b,g.1.2.1+b,g.1.2.2),g.2)
def shK(b:Int)(ps:List Zk)(k:Nat):List Zk:=(ps.take k).map (shG b) ++ ps.drop k
theorem shK_0(b:Int)(ps:List Zk):shK b ps 0=ps:=by rfl
theorem Oq(b:Int)(ps:List Zk)(k:Nat):(shK b ps k).length=ps.length:=by unfold shK;grind
theorem Yqi(b:Int)(ps:List Zk):shK b ps ps.length=ps.map (shG b):=by unfold shK;simp
theorem Zq0{ps:List Zk}(a:k<ps.length):(shK b ps k).getD k G0=ps.getD k G0:=by unfold shK;grind
abbrev shA (b:Int) (x:Zk):Zk:=((x.1.1+b,x.1.2.1,x.1.2.2),x.2)
abbrev shB (b:Int) (x:Zk):Zk:=((x.1.1,x.1.2.1+b,x.1.2.2),x.2)
theorem Yja{ps:List Zk}(z:Zk)(a:k<ps.length):(ps.set k z).getD k G0=z:=by grind
theorem shK_s{ps:List Zk}(e:k<ps.length) :
  ((shK b ps k).set k (shA b ((shK b ps k).getD k G0))).set k (shB b (((shK b ps k).set k (shA b ((shK b ps k).getD k G0))).getD k G0))=shK b ps (k+1):=by
 rw [Yja _ (by grind [Oq]),List.set_set,Zq0 e];unfold shK;have a:((ps.take k).map (shG b)).length=k:=O5;rw [jN _ _ O1,a,fE];have c:ps.drop k=ps.getD k G0::ps.drop (k+1):=by simp_all
 rw [c];have d:ps.take (k+1)=ps.take k ++ [ps.getD k G0]:=by grind
 rw [d,dB,eC];rfl
theorem Yqj{ps:List Zk}(a:k<ps.length):((shK b ps k).set k (shA b ((shK b ps k).getD k G0))).getD k G0=shA b (ps.getD k G0):=by grind [Yja,Oq,Zq0]
theorem Yr3(b:Int)(ps:List Zk):Nf qG ps=Nf qG (ps.map (shG b)):=by
 unfold Nf;congr 1
 .funext w;exact propext ⟨λ⟨z,a,h⟩=>⟨shG b z,dI.2 ⟨z,a,rfl⟩,h⟩,λ⟨z,a,h⟩=>by obtain⟨y,c,rfl⟩:=dI.1 a;exact⟨y,c,h⟩⟩
 .funext w;exact propext ⟨λh z a=>by obtain⟨y,c,rfl⟩:=dI.1 a;exact h y c,λh z a=>h (shG b z) (dI.2 ⟨z,a,rfl⟩)⟩
theorem Yhz{ps:List Zk}(h:qs.map Gx=ps.map Gx):qs.length=ps.length:=by have:=aD List.length h;grind
theorem un_gd{ps:List Zk}(h:qs.map Gx=ps.map Gx)(k:Nat):Gx (qs.getD k G0)=Gx (ps.getD k G0):=by have:=aD (λl=>l[k]?) h;grind
theorem un_sh{ps:List Zk}(h:qs.map Gx=ps.map Gx)(b:Int):(qs.map (shG b)).map Gx=(ps.map (shG b)).map Gx:=by
 induction qs generalizing ps with
 | nil=>simp_all
 | cons q qs a=>cases ps with
  | nil=>grind
  | cons p ps=>
   injection h with h1 h2;rw [bZ,bZ,a h2];unfold Gx at h1 ⊢;unfold shG;grind
theorem sh_bd{ps:List Zk}(d:∀g∈ps,Gin g)(c:Yf ps=true)(h:qs.map Gx=ps.map Gx)(f:k<qs.length):0<=(qs.getD k G0).1.1/\(qs.getD k G0).1.1<(qs.getD k G0).1.2.1/\(qs.getD k G0).1.2.1<=3600000:=by
 have a:k<ps.length:=by grind [Yhz]
 have e:(qs.getD k G0).1=(ps.getD k G0).1:=aD (λu=>u.1) (un_gd h k);have s:=Oj (d _ (Zd a)) (Nx ((Qd c).1 _ a));rw [e];exact⟨s.t1,s.t2,s.t3⟩
theorem sp_bd{ps:List Zk}(c:∀g∈ps,Gin g)(a:Yf ps=true):0<=spF ps/\spF ps<=3600000/\0<=spL ps/\spL ps<=3600000:=by have d:=(Qd a).2.1;have s:SgG (ps.getD 0 G0):=Oj (c _ (Zd O1)) (Nx ((Qd a).1 _ O1));have t:SgG (ps.getD (ps.length-1) G0):=Oj (c _ (Zd O1)) (Nx ((Qd a).1 _ O1));have e:=s.t1;have f:=s.t2;have h:=s.t3;have t1:=t.t1;have t2:=t.t2;have t3:=t.t3;unfold spF spL;omega
theorem Yqh(h:qs.map Gx=([gv0 s].map (shG 1000)).map Gx):∃t,qs=[gvL t]:=by have c:=aD List.length h;rw [bA]at c;obtain⟨q,rfl⟩:=lD.1 c;obtain⟨a,⟨d,g⟩,⟨e,i⟩,⟨f,j⟩⟩:=q;obtain⟨rfl,rfl,rfl,rfl⟩:=h;exact⟨(d,e,f),rfl⟩
theorem Ytd{ps:List Zk}(h:zs.map Gx=(ps.take k).map Gx)(c:k<ps.length) :
  (zs ++ [(((ps.getD k G0).1,(s.1,(ps.getD k G0).2.1.2),(s.2.1,(ps.getD k G0).2.2.1.2),(s.2.2,(ps.getD k G0).2.2.2.2)):Zk)]).map Gx=(ps.take (k+1)).map Gx:=by
 have a:ps.take (k+1)=ps.take k ++ [ps.getD k G0]:=by simp_all
 rw [a,dB,dB,h];rfl
def ShR(ps:List Zk)(y:Int)(zs:List Zk)(e:Int):Prop:=(e=3/\(y < -(spF ps)\/y>3600000-spL ps))\/(e=0/\¬y < -(spF ps)/\¬y>3600000-spL ps/\zs.map Gx=(ps.map (shG y)).map Gx)
theorem Zu3{e:Int}(h:ShR [gv0 s] 1000 qs e):∃t,qs=[gvL t]:=by
 rcases h with⟨-,h|h⟩|⟨-,-,-,h⟩
 .exact absurd h (by show ¬(1000) < -(0);omega)
 .exact absurd h (by show ¬(1000)>3600000-1000;omega)
 .exact Yqh h
open Go.RowKit Below
variable {P:Program} {N:Nat} {sc:Nat->Prop} {env env':Pw} {H H':Hp} {Q Q':Exit->Act->World->Prop} {M:Nat->Prop}
def emp:Pc:=⟨false,λ_=>False,λ_=>True,λ_ _ _ h=>h.elim,λ_ _ _ _=>trivial⟩
def l3(z:Zk)(i:Nat):SL×List Int:=Zs i z.2.1 z.2.2.1 z.2.2.2
abbrev olz (e:TypeId) (p:SL×List Int):Pc:=Oe 1 e Yj (Xk p.1) p.2
def ol3(e:TypeId)(zs:List Zk):Pc:=
 {own:=true
  fp:=λb=>∃k i,k<zs.length/\i<3/\(olz e (l3 (zs.getD k G0) i)).fp b
  holds:=λw=>(∀k i,k<zs.length->i<3->(olz e (l3 (zs.getD k G0) i)).holds w)/\∀k i m j b,k<zs.length->i<3->m<zs.length->j<3->(olz e (l3 (zs.getD k G0) i)).fp b->(olz e (l3 (zs.getD m G0) j)).fp b->k=m/\i=j
  lt:=λw b h ⟨k,i,c,hi,d⟩=>(olz e _).lt w b (h.1 k i c hi) d
  stable:=λw n h a=>⟨λk i c hi=>(olz e _).stable w n (h.1 k i c hi) ⟨a.os,a.tape,a.output,a.size,λb d g=>a.block b d (λf=>g (λl=>f ⟨k,i,c,hi,l⟩))⟩,h.2⟩ }
def opa(e s:TypeId)(v:Value)(zs:List Zk):Pc:=
 {own:=true
  fp:=λb=>v.ownBlock=some b\/(ol3 e zs).fp b
  holds:=λw=>(Oe 6 s Xv v zs).holds w/\(ol3 e zs).holds w/\∀b,v.ownBlock=some b->(ol3 e zs).fp b->False
  lt:=λw b h c=>c.elim (λc=>(Oe 6 s Xv v zs).lt w b h.1 c) (λc=>(ol3 e zs).lt w b h.2.1 c)
  stable:=λw i h a=>⟨(Oe 6 s Xv v zs).stable w i h.1 ⟨a.os,a.tape,a.output,a.size,λb c f=>a.block b c (λd=>f (λg=>d (.inl g)))⟩,(ol3 e zs).stable w i h.2.1 ⟨a.os,a.tape,a.output,a.size,λb c f=>a.block b c (λd=>f (λg=>d (.inr g)))⟩,h.2.2⟩ }
def s_ol0(e:TypeId)(n:Nat):∀a w,Sat N sc env H a w->Sat N sc env ((n,ol3 e [])::H) a w:=λa w hs=>
 hs.add n _ ⟨λk i c=>absurd c (bD k),λk i m j b c=>absurd c (bD k)⟩ (λj d _ _ _ b ⟨k,i,c,_⟩=>absurd c (bD k)) (λb ⟨k,i,c,_⟩=>absurd c (bD k))
def Sat.drop{a:Act}{w:World}(h:Sat N sc env H a w)(j:Nat):Sat N sc env ((j,emp)::H) a w:=
 h.add j emp aA (λ_ _ _ _ _ _ c=>c.elim) (λ_ c=>c.elim)
theorem Zsf{j x:Nat}{p:Pc}(h:lk ((j,emp)::H) x=some p):(x=j/\p=emp)\/(x≠j/\lk H x=some p):=by grind [Ys,Zx]
theorem Zk0(a:k<(zs ++ [z]).length):(k<zs.length/\(zs ++ [z]).getD k G0=zs.getD k G0)\/(k=zs.length/\(zs ++ [z]).getD k G0=z):=by grind
theorem Yqt {e:TypeId}   (i l n o:Nat) (hi:lk H i=some (ol3 e zs)) (R:lk H l=some (olz e (l3 z 0))) (S:lk H n=some (olz e (l3 z 1))) (V:lk H o=some (olz e (l3 z 2)))
  (hd:(decide (i≠l) && decide (i≠n) && decide (i≠o) && decide (l≠n) && decide (l≠o) && decide (n≠o) && decide (i≠0) && decide (l≠0) && decide (n≠0) && decide (o≠0))=true) :
  ∀a w,Sat N sc env H a w->Sat N sc env ((i,ol3 e (zs ++ [z]))::(l,emp)::(n,emp)::(o,emp)::H) a w:=λa w hs=>by
 simp only [aN,cF]at hd;obtain⟨⟨⟨⟨⟨⟨⟨⟨⟨d1,d2⟩,d3⟩,d4⟩,d5⟩,d6⟩,n0⟩,n1⟩,n2⟩,n3⟩:=hd;have W:∀q,q<3->∃j,j≠i/\j≠0/\(j=l\/j=n\/j=o)/\lk H j=some (olz e (l3 z q)):=λq c=>by
  match q,c with
  | 0,_=>grind
  | 1,_=>grind
  | 2,_=>grind
 have a1:∀p q,p<3->q<3->∀b,(olz e (l3 z p)).fp b->(olz e (l3 z q)).fp b->p=q:=λp q G c b d f=>by
  match p,q,G,c with
  | 0,0,_,_=>rfl
  | 1,1,_,_=>rfl
  | 2,2,_,_=>rfl
  | 0,1,_,_=>exact(hs.sep l n _ _ d4 R S rfl b d f).elim
  | 1,0,_,_=>exact(hs.sep n l _ _ (λe=>d4 e.symm) S R rfl b d f).elim
  | 0,2,_,_=>exact(hs.sep l o _ _ d5 R V rfl b d f).elim
  | 2,0,_,_=>exact(hs.sep o l _ _ (λe=>d5 e.symm) V R rfl b d f).elim
  | 1,2,_,_=>exact(hs.sep n o _ _ d6 S V rfl b d f).elim
  | 2,1,_,_=>exact(hs.sep o n _ _ (λe=>d6 e.symm) V S rfl b d f).elim
 have ho:∀q,q<3->∀b,(olz e (l3 z q)).fp b->(ol3 e zs).fp b->False:=λq c b d f=>by obtain⟨j,ji,-,-,g⟩:=W q c;exact hs.sep i j _ _ (λe=>ji e.symm) hi g rfl b f d
 have hA:=hs.hold i _ hi;have I:∀b,(ol3 e (zs ++ [z])).fp b->(ol3 e zs).fp b\/∃q,q<3/\(olz e (l3 z q)).fp b:=λb ⟨k,q,F,c,D⟩=>by
  rcases Zk0 F with⟨u,y⟩|⟨u,y⟩
  .rw [y]at D;exact .inl ⟨k,q,u,c,D⟩
  grind
 refine(((hs.drop o).drop n).drop l).add i _ ⟨λk q F c=>?_,λk p m q b F G hm c d f=>?_⟩ (λx xt hx g _ b D r=>?_) (λb D=>?_)
 .rcases Zk0 F with⟨u,y⟩|⟨u,y⟩
  .rw [y];exact hA.1 k q u c
  .rw [y];obtain⟨j,-,-,-,g⟩:=W q c;exact hs.hold j _ g
 .rcases Zk0 F with⟨u,y⟩|⟨u,y⟩<;>rcases Zk0 hm with⟨Z,m2⟩|⟨Z,m2⟩<;>rw [y]at d<;>rw [m2]at f
  .exact hA.2 k p m q b u G Z c d f
  .exact(ho q c b f ⟨k,p,u,G,d⟩).elim
  .exact(ho p G b d ⟨m,q,Z,c,f⟩).elim
  grind
 .rcases Zsf g with⟨-,rfl⟩|⟨x0,g⟩
  .exact r
  rcases Zsf g with⟨-,rfl⟩|⟨x1,g⟩
  .exact r
  rcases Zsf g with⟨-,rfl⟩|⟨x2,g⟩
  .exact r
  rcases I b D with h|⟨q,c,h⟩
  .exact hs.sep i x _ _ (λe=>hx e.symm) hi g rfl b h r
  .obtain⟨j,-,-,a0,B⟩:=W q c;exact hs.sep j x _ _ (λe=>O1) B g rfl b h r
 .rcases I b D with h|⟨q,c,h⟩
  .exact hs.scope i _ n0 hi b h
  .obtain⟨j,-,Y,-,B⟩:=W q c;exact hs.scope j _ Y B b h
theorem s_opa{e s:TypeId}(i j:Nat)(hi:lk H i=some (Oe 6 s Xv v zs))(d:lk H j=some (ol3 e zs))(l:(decide (i≠j) && decide (i≠0) && decide (j≠0))=true) :
  ∀a w,Sat N sc env H a w->Sat N sc env ((i,opa e s v zs)::(j,emp)::H) a w:=λa w hs=>by
 simp only [aN,cF]at l;obtain⟨⟨o,q⟩,r⟩:=l;refine(hs.drop j).add i _ ⟨hs.hold i _ hi,hs.hold j _ d,λb m n=>hs.sep i j _ _ o hi d rfl b m n⟩ (λx y p f _ b g c=>?_) (λb g=>?_)
 .rcases Zsf f with⟨-,rfl⟩|⟨u,f⟩
  .exact c
  rcases g with h|h
  .exact hs.sep i x _ _ (λe=>p e.symm) hi f rfl b h c
  .exact hs.sep j x _ _ (λe=>u e.symm) d f rfl b h c
 .rcases g with h|h
  .exact hs.scope i _ q hi b h
  .exact hs.scope j _ r d b h
theorem Yqr{e s:TypeId}(i j:Nat)(hi:lk H i=some (opa e s v zs))(l:(decide (i≠j) && decide (i≠0) && decide (j≠0))=true) :
  ∀a w,Sat N sc env H a w->Sat N sc env ((j,ol3 e zs)::(i,Oe 6 s Xv v zs)::H) a w:=λa w hs=>by
 simp only [aN,cF]at l;obtain⟨⟨q,n⟩,r⟩:=l;have g:=hs.hold i _ hi;have o:=hs.add i _ g.1 (λx p m f _ b d c=>hs.sep i x _ _ (λe=>m e.symm) hi f rfl b (.inl d) c) (λb d=>hs.scope i _ n hi b (.inl d));exact o.add j _ g.2.1 (λx p m f _ b d c=>by
  by_cases h:i=x
  .subst h;rw [Ys]at f;cases f;exact g.2.2 b c d
  .rw [Zx _ _ h]at f;exact hs.sep i x _ _ h hi f rfl b (.inr d) c) (λb d=>hs.scope i _ n hi b (.inr d))
theorem s_pub3{e:TypeId}(i:Nat)(hi:lk H i=some (ol3 e zs))(B:Nat.beq i 0=false)(u:Enc P t 1 Yj):∀a w,Sat N sc env H a w->Sat N sc env ((i,Nf qG zs)::H) a w:=λa w hs=>by
 have p:i≠0:=λe=>O11;have r:=hs.hold i _ hi;have o:∀b,(Nf qG zs).fp b->(ol3 e zs).fp b:=λb c=>by
  obtain⟨z,j,y,d,-,c⟩:=c;obtain⟨k,h,rfl⟩:=cQ.1 j;have g:zs.getD k G0=zs[k]:=O5;simp only [aX,cM,fO]at d;rcases d with rfl|rfl|rfl
  .exact⟨k,0,h,O1,by rw [g];exact c⟩
  .exact⟨k,1,h,O1,by rw [g];exact c⟩
  .exact⟨k,2,h,O1,by rw [g];exact c⟩
 have n:∀z∈zs,∀y∈[z.2.1,z.2.2.1,z.2.2.2],(qC y).holds w:=λz j y d=>by
  obtain⟨k,h,rfl⟩:=cQ.1 j;have g:zs.getD k G0=zs[k]:=O5;have f:∀q,q<3->(qC _).holds w:=λq F=>by have l:=r.1 k q h F;rw [g]at l;exact⟨Dw u.cells l,λb c=>(l.lt b c.2).2⟩
  simp only [aX,cM,fO]at d;rcases d with rfl|rfl|rfl
  .exact f 0 O1
  .exact f 1 O1
  .exact f 2 O1
 refine hs.add i _ (λz j y d=>n z j y d) (λx I G D Ff b c m=>?_) (λb c=>hs.scope i _ p hi b (o b c));exact hs.sep i x _ _ (λe=>G e.symm) hi D rfl b (o b c) m
def stL(z:Zk)(i j:Nat)(u:Int):Zk:=(z.1,if i=0 then(z.2.1.1,z.2.1.2.set j u)else z.2.1,if i=1 then(z.2.2.1.1,z.2.2.1.2.set j u)else z.2.2.1,if i=2 then(z.2.2.2.1,z.2.2.2.2.set j u)else z.2.2.2)
end Go.Sky
namespace Go.Sky
open Go.Proofs
set_option synthInstance.maxHeartbeats 0
set_option synthInstance.maxSize 100000
set_option maxRecDepth 20000
set_option linter.unusedSimpArgs false
variable{v:Value}{xs:List Int}{gs:List (Int×SL)}
theorem Ztr(g:xs.length*8<=140737488355328):Yhm Tryz.prog 182 #[v] [Yx 1 Yj v xs] (G:=Value) (λr=>True) (λr=>r) (λr=>Oe 1 3 Yj r xs):=by
 refine Zls Tryz.func182 rfl Tryz.ntmps182 rfl ⟨rfl,aA⟩ ?_;intro j h d e;have d:=Hw.mk d;simp only [Qz,Xd];refine Pi (Ym6 (i:=1) rfl Zr) (λc=>?_);refine go 9 ?_;refine dt (Zth rfl rfl rfl (i:=1) rfl Zr Tryz.underlying33) ?_;refine go 2 ?_;refine Mz rfl (λb=>?_) (λb=>?_)
 .refine go 7 ?_;obtain rfl:xs=[]:=c (by simpa using b);refine Zp (Qt 9 1 3 Yj) ?_;exact Zfk (.inl rfl) (.slice none 0 0) (λa w hs=>Zcj hs Tryz.results182 rfl) rfl aA rfl 9 rfl rfl rfl
 .refine go 4 ?_;refine tt (Yh8 2 (enc:=Yj) rfl rfl rfl Tryz.underlying33 pZ rfl d.h) (λv _=>?_);refine go 1 ?_;refine tt (Oa 2 1 8 rfl rfl rfl rfl rfl rfl O4 rfl Zr Tryz.underlying33 Tryz.ti3 rfl pZ rfl rfl rfl O9 O4 rfl d.h) (λf _=>?_);refine go 4 ?_;exact Zfk (.inl rfl) _ (λa w hs=>Zcj hs Tryz.results182 rfl) rfl aA rfl 2 rfl (by rfl) rfl
theorem Yiw{ps:List Zk}(H:∀g∈ps,Gin g)(p:Yf ps=true):Yhm Tryz.prog 122 #[v] [Xn 6 Xv qG v ps] (G:=Value×List Zk) (λr=>r.2.map Gx=ps.map Gx) (λr=>r.1) (λr=>opa 3 35 r.1 r.2):=by
 refine Zls Tryz.func122 rfl Tryz.ntmps122 rfl ⟨rfl,aA⟩ ?_;intro W V d I;have d:=Hw.mk d;simp only [Qz,Xd];refine Pi (Mi (i:=1) rfl Zc) (λt=>?_);have F:=(Qd p).2.2;refine go 19 ?_;refine Zf (Qt 74 6 35 Xv) ?_;refine Zf (s_ol0 3 76) ?_;refine lp (G:=Nat×Value×List Zk) [6,7] [0,1] (λq=>[(8,.int .i64 (q.1:Int)),(3,q.2.1)]) (λq=>[(74,Oe 6 35 Xv q.2.1 q.2.2),(76,ol3 3 q.2.2)]) (λq=>(q.1<=ps.length)/\(q.2.2.map Gx=(ps.take q.1).map Gx)/\(q.2.2.length=q.1)) (λq=>ps.length-q.1) (0,.slice none 0 0,[]) ⟨O2,rfl,rfl⟩ ⟨rfl,rfl,aA⟩ ⟨rfl,rfl,aA⟩ ?_;rintro⟨k,R,u⟩ ⟨x,b,f⟩;dsimp only at x b f;dsimp only;refine go 6 ?_;refine Ze rfl (λe=>?_) (λe=>?_)
 .refine go 5 ?_;refine Zf (Pf (ps.getD k G0) ((ps.getD k G0).2.1) 1 51 rfl rfl (Zd O1) O6) ?_;refine Zf (Pf (ps.getD k G0) ((ps.getD k G0).2.2.1) 1 52 rfl rfl (Zd O1) O6) ?_;refine Zf (Pf (ps.getD k G0) ((ps.getD k G0).2.2.2) 1 53 rfl rfl (Zd O1) O6) ?_;have c:SgG (ps.getD k G0):=Oj (H _ (Zd O1)) (Nx ((Qd p).1 _ O1));have y:(ps.getD k G0).2.1.2.length<=6:=(c.lc 0).2;have B:(ps.getD k G0).2.2.1.2.length<=6:=(c.lc 1).2;have D:(ps.getD k G0).2.2.2.2.length<=6:=(c.lc 2).2;refine go 1 ?_;refine dt (Zv 1 k rfl rfl rfl rfl Zc Tryz.underlying38 Tryz.sizeOf35 rfl) ?_;refine dt (Yw 1 G0 rfl rfl rfl Zc pG) ?_;refine Yd (Zw 2) λS _=>?_;refine go 4 ?_;refine Lo (λ_=>False) [10,11,12,13,14] ?_;refine Zj 8 [(0,0),(1,0),(3,0),(4,0),(6,0),(7,0),(2,1)] ?_;refine go 6 ?_;refine Kp rfl (Zcd 3 (Ztr O1) rfl rfl rfl ⟨rfl,aA⟩ Tryz.call182 (Zm 51 rfl rfl rfl Zn) rfl d.h) (λv _=>?_);refine go 1 ?_;refine Zks (Xp 3 rfl (Zz pZ)) (λh m=>?_);subst m;refine Zj 6 [(9,0),(5,1)] ?_;refine go 1 ?_;refine Kp rfl (Zcd 4 (Ztr O1) rfl rfl rfl ⟨rfl,aA⟩ Tryz.call182 (Zm 52 rfl rfl rfl Zn) rfl d.h) (λM _=>?_);refine go 1 ?_;refine Zks (Xp 4 rfl (Zz pZ)) (λj n=>?_);subst n;refine Zj 5 [(8,1)] ?_;refine Kp rfl (Zcd 5 (Ztr O1) rfl rfl rfl ⟨rfl,aA⟩ Tryz.call182 (Zm 53 rfl rfl rfl Zn) rfl d.h) (λN _=>?_);refine go 1 ?_;refine Zks (Xp 5 rfl (Zz pZ)) (λl o=>?_);subst o;refine Zj 0 [(10,3),(11,3),(12,3),(13,3),(14,3)] ?_;refine go 6 ?_;refine Zo ?_;refine go 4 ?_;refine tt (Xx [(0,_)] 6 (enc:=Xv) [((((ps.getD k G0).1,(h,(ps.getD k G0).2.1.2),(j,(ps.getD k G0).2.2.1.2),(l,(ps.getD k G0).2.2.2.2)):Zk))] rfl rfl ⟨rfl,rfl,aA⟩ Tryz.underlying38 Tryz.ti35 rfl rfl Zjf rfl rfl pG.cells rfl rfl d.h) (λP _=>?_);refine tt (Oa 74 6 96 rfl rfl rfl rfl rfl rfl O4 rfl (Zz pG) Tryz.underlying38 Tryz.ti35 rfl pG rfl rfl rfl O9 O4 rfl d.h) (λQ _=>?_);refine go 8 ⟨O1,?_⟩;refine Zp (Yqt (z:=((((ps.getD k G0).1,(h,(ps.getD k G0).2.1.2),(j,(ps.getD k G0).2.2.1.2),(l,(ps.getD k G0).2.2.2.2)):Zk))) 76 3 4 5 rfl rfl rfl rfl rfl) ?_;exact Yh (k+1,_,u ++ [((((ps.getD k G0).1,(h,(ps.getD k G0).2.1.2),(j,(ps.getD k G0).2.2.1.2),(l,(ps.getD k G0).2.2.2.2)):Zk))]) ⟨O2,Ytd (s:=(h,j,l)) b O1,by rw [bG,f];rfl⟩ O2 ⟨rfl,rfl,aA⟩ ⟨rfl,rfl,aA⟩
 .obtain rfl:k=ps.length:=O1;refine go 12 ?_;refine Zp (s_opa 74 76 rfl rfl rfl) ?_;exact Zfk (.inl rfl) (R,u) (λa w hs=>Zcj hs Tryz.results122 rfl) rfl (by rw [bL]at b;exact b) rfl 74 rfl rfl rfl
theorem Zgo(ps:List Zk)(a:Int)(j:∀g∈ps,Gin g)(i:Yf ps=true):Cal Tryz.prog 59 #[v,.int .i64 a] [Xn 6 Xv qG v ps] true (G:=Value×List Zk×Int) (λg=>ShR ps a g.2.1 g.2.2) (λg=> .tuple #[g.1,.int .i64 g.2.2]) (λg=>[Xn 6 Xv qG g.1 g.2.1]):=by
 refine Zg Tryz.func59 Tryz.ntmps59 λB z n f=>?_;obtain⟨u,w,x,y⟩:=sp_bd j i;refine go 9 ?_;refine cl 1 [1] (Yqe j i) λ_ _=>?_;refine go 14 ?_;refine kf (aI O4) ?_;refine go 5 ?_;rcases(by omega:a < -(spF ps)\/¬a < -(spF ps)/\a>3600000-spL ps\/¬a < -(spF ps)/\¬a>3600000-spL ps)with c|⟨c,d⟩|⟨c,d⟩
 .refine go 3 ?_;refine dt (Ztf rfl rfl) ?_;refine kt (aG c) ?_;refine go 19 ?_;refine Zp (Qt 78 6 35 Xv) ?_;refine Zp (Xo 78 rfl rfl pG) ?_;refine Zp (Yi qG 77) ?_;refine Zp (Xq 78 77 78 rfl rfl rfl rfl) ?_;exact Nm f (.slice none 0 0,[],3) Tryz.results59 rfl (.inl ⟨rfl,.inl c⟩) (Ph 78 Za)
 .refine go 3 ?_;refine dt (Ztf rfl rfl) ?_;refine kf (aI c) ?_;refine go 4 ⟨O1,?_⟩;refine ktg (aG d) ?_;refine go 14 ?_;refine Zp (Qt 78 6 35 Xv) ?_;refine Zp (Xo 78 rfl rfl pG) ?_;refine Zp (Yi qG 77) ?_;refine Zp (Xq 78 77 78 rfl rfl rfl rfl) ?_;exact Nm f (.slice none 0 0,[],3) Tryz.results59 rfl (.inl ⟨rfl,.inr d⟩) (Ph 78 Za)
 .refine go 3 ?_;refine dt (Ztf rfl rfl) ?_;refine kf (aI c) ?_;refine go 4 ⟨O1,?_⟩;refine kfg (aI d) ?_;refine go 11 ?_;refine tt (Zcd 2 (Yiw j i) rfl rfl rfl ⟨rfl,aA⟩ Tryz.call122 (Zm 1 rfl rfl rfl Zn) rfl n.h) (λb e=>?_);refine go 5 ?_;refine Zf (Yqr 2 79 rfl rfl) ?_;refine go 7 ?_;refine Zf (Np 2 (q:=Oe 6 35 Xv b.1 (shK a b.2 0)) (by rw [shK_0]) rfl rfl) ?_;have r:=Yhz e;have p:=(Qd i).2.2;refine lp (G:=Nat) [1,9,35] [0,1,79] (λk=>[(36,.int .i64 (k:Int))]) (λk=>[(2,Oe 6 35 Xv b.1 (shK a b.2 k))]) (λk=>k<=b.2.length) (λk=>b.2.length-k) 0 O2 ⟨rfl,aA⟩ ⟨rfl,aA⟩ ?_;rintro k t;refine go 6 ?_;refine Ze rfl (λh=>?_) (λh=>?_)
  .refine go 11 ?_;have s:=Oq a b.2 k;have o:=sh_bd j i e (k:=k) O1;have l:(shK a b.2 k).getD k G0=b.2.getD k G0:=Zq0 O1;have m:((shK a b.2 k).set k (shA a ((shK a b.2 k).getD k G0))).getD k G0=shA a (b.2.getD k G0):=Yqj O1;refine go 3 ?_;refine dt (Zv 2 k rfl rfl rfl rfl (Zz pG) Tryz.underlying38 Tryz.sizeOf35 rfl (by first|(rw [bK,Oq];omega)|(rw [Oq];omega))) ?_;refine dt (Mb 2 rfl rfl rfl (Zz pG) Tryz.underlying35 rfl Tryz.sizeOf3 rfl (by first|(rw [bK,Oq];omega)|(rw [Oq];omega))) ?_;refine dt (Mj 2 G0 rfl rfl rfl (Zz pG) Tryz.isAgg3 rfl (by first|(rw [bK,Oq];omega)|(rw [Oq];omega))) ?_;refine go 2 ⟨by rw [l];exact⟨O1,O1⟩,?_⟩;refine dt (Zv 2 k rfl rfl rfl rfl (Zz pG) Tryz.underlying38 Tryz.sizeOf35 rfl (by first|(rw [bK,Oq];omega)|(rw [Oq];omega))) ?_;refine dt (Mb 2 rfl rfl rfl (Zz pG) Tryz.underlying35 rfl Tryz.sizeOf3 rfl (by first|(rw [bK,Oq];omega)|(rw [Oq];omega))) ?_;refine tt (t_stf 2 (enc:=Xv) (shA a ((shK a b.2 k).getD k G0)) G0 rfl rfl rfl rfl rfl O4 pG (by first|(rw [bK,Oq];omega)|(rw [Oq];omega)) Tryz.sizeOf3 rfl O4 rfl rfl n.h) (λ_ _=>?_);refine go 5 ?_;refine dt (Zv 2 k rfl rfl rfl rfl (Zz pG) Tryz.underlying38 Tryz.sizeOf35 rfl (by first|(rw [bK,Oq];omega)|(rw [Oq];omega))) ?_;refine dt (Mb 2 rfl rfl rfl (Zz pG) Tryz.underlying35 rfl Tryz.sizeOf3 rfl (by first|(rw [bK,Oq];omega)|(rw [Oq];omega))) ?_;refine dt (Mj 2 G0 rfl rfl rfl (Zz pG) Tryz.isAgg3 rfl (by first|(rw [bK,Oq];omega)|(rw [Oq];omega))) ?_;refine go 2 ⟨by rw [m];exact⟨O10,O10⟩,?_⟩;refine dt (Zv 2 k rfl rfl rfl rfl (Zz pG) Tryz.underlying38 Tryz.sizeOf35 rfl (by first|(rw [bK,Oq];omega)|(rw [Oq];omega))) ?_;refine dt (Mb 2 rfl rfl rfl (Zz pG) Tryz.underlying35 rfl Tryz.sizeOf3 rfl (by first|(rw [bK,Oq];omega)|(rw [Oq];omega))) ?_;refine tt (t_stf 2 (enc:=Xv) (shB a (((shK a b.2 k).set k (shA a ((shK a b.2 k).getD k G0))).getD k G0)) G0 rfl rfl rfl rfl rfl O4 pG (by first|(rw [bK,Oq];omega)|(rw [Oq];omega)) Tryz.sizeOf3 rfl O4 rfl rfl n.h) (λ_ _=>?_);refine go 7 ⟨O1,?_⟩;exact Yh (k+1) O2 O2 ⟨rfl,aA⟩ ⟨by rw [shK_s O1];rfl,aA⟩
  .obtain rfl:k=b.2.length:=O1;refine go 13 ?_;refine Zp (s_pub3 79 rfl rfl pZ) ?_;refine Zp (Np 2 (q:=Oe 6 35 Xv b.1 (b.2.map (shG a))) (by rw [Yqi]) rfl rfl) ?_;refine Zp (Np 79 (q:=Nf qG (b.2.map (shG a))) (Yr3 a b.2) rfl rfl) ?_;refine Zp (Xo 2 rfl rfl pG) ?_;refine Zp (Xq 2 79 78 rfl rfl rfl rfl) ?_;exact Nm f (b.1,b.2.map (shG a),0) Tryz.results59 rfl (.inr ⟨rfl,c,d,un_sh e a⟩) (Ph 78 Za)
abbrev S3T:=SL×SL×SL
abbrev GvT:=(S3T×S3T×S3T)×(SL×SL×SL)
def gvs(q:GvT):List PT:=[(q.2.1,[gv0 q.1.1]),(q.2.2.1,[gv1 q.1.2.1]),(q.2.2.2,[gv2 q.1.2.2])]
theorem Zlf{fr i c d e f b h k:Int}{s:S3T}(j:Nc fr)(l:Nc i)(m:∀a∈Be c f k,Nc a)(n:∀a∈Be d b k,Nc a)(o:∀a∈Be e h k,Nc a):∀g∈[Yl9 fr i c d e f b h k s],Gin g:=λg p=>by rw [bN.1 p];exact⟨j,l,show Nc (1:Int)from⟨O4,O4⟩,m,n,o⟩
def Zkm{s:S3T}:∀g∈[gv0 s],Gin g:=Zlf ⟨O4,O4⟩ ⟨O4,O4⟩ (Oy O4) (Oy O4) (Oy O4)
def Yg4{s:S3T}:∀g∈[gv1 s],Gin g:=Zlf ⟨O4,O4⟩ ⟨O4,O4⟩ (Oy O4) (Oy O4) (Oy O4)
def gg_2{s:S3T}:∀g∈[gv2 s],Gin g:=Zlf ⟨O4,O4⟩ ⟨O4,O4⟩ (Oy O4) (Oy O4) (Oy O4)
def gg_L{s:S3T}:∀g∈[gvL s],Gin g:=Zlf ⟨O4,O4⟩ ⟨O4,O4⟩ (Oy O4) (Oy O4) (Oy O4)
theorem Zss{q:GvT}{x:PT}(h:x∈gvs q):x=(q.2.1,[gv0 q.1.1])\/x=(q.2.2.1,[gv1 q.1.2.1])\/x=(q.2.2.2,[gv2 q.1.2.2]):=by unfold gvs at h;simpa using h
theorem gvs_P{q:GvT}:∀x∈gvs q,∀g∈x.2,Gin g:=λx a=>by
 rcases Zss a with rfl|rfl|rfl
 .exact Zkm
 .exact Yg4
 .exact gg_2
theorem gvs_V{q:GvT}:Zjp (gvs q)=true:=cI.2 λx a=>by
 rcases Zss a with rfl|rfl|rfl
 .exact Zkl _
 .exact Yg1 _
 .exact Zkk _
theorem gvs_L{q:GvT}:∀x∈gvs q,x.2.length<=5:=λx a=>by rcases Zss a with rfl|rfl|rfl<;>exact(by decide:(1:Nat)<=5)
theorem gvs_n{q:GvT}:(gvs q).length<=64:=(by decide:(3:Nat)<=64)
theorem gcl_0(q:GvT):ClR 300 1 1 (gvs q) ((0,0,0,0),false,0):= .inl ⟨rfl,λj k c a d=>by
 have a:k<3:=a;have b:(j=0/\k=1)\/(j=0/\k=2)\/(j=1/\k=2):=O1;rcases b with⟨rfl,rfl⟩|⟨rfl,rfl⟩|⟨rfl,rfl⟩
 .exact Ymr _ _
 .exact ga_5 _ _
 .exact ga_6 _ _⟩
theorem gcl_1(q:GvT):ClR 301 1 1 (gvs q) ((0,1,0,1000),true,0):=by refine .inr ⟨0,1,O4,(by decide:(1:Nat)<3),clA_0,clB_0,ga_2 _ _,?_⟩;have a:Cc (Ma 301 1 1 (pth (gvs q) 0) (pth (gvs q) 1))=(0,1000,true):=gf_3 _ _;have b:Mx (pth (gvs q) 0) (pth (gvs q) 1)=0:=Yg5 _ _;unfold clV;rw [a,b];rfl
def gnr_L{s t:S3T}:NrP [gv0 s] [gvL t] (0,9):= .inr (.inl ⟨ge_L s t,gz_L s t,rfl⟩)
theorem Ylo{α:Type}{l:List α}(h:l.isEmpty=false):l≠[]:=λe=>by rw [e]at h;cases h
theorem Ygz{a b c:Int}(e:Nc a)(f:Nc b)(g:Nc c):∀x∈[a,b,c],Nc x:=λx d=>by simp only [aX,cM,fO]at d;rcases d with rfl|rfl|rfl<;>assumption
theorem Ybh{l:List Int}(c:∀x∈l,Nc x)(e:l.length<=1000)(a:Zb gs=tzl l):Sz 1000000 (Zb gs)/\gs.length<=1000:=by have b:=aD List.length a;rw [Zh]at b;have d:=Ns l;refine⟨?_,O1⟩;rw [a];exact(Sz.tzl (Zkx c)).mono O1
def NrL(a b:List Zk)(c hi:Int):Prop:=0<=c/\c<=hi/\hi<=4194304/\(∀k,1<=k->k<=c->Fw k 1 1 a b=true)/\∀k,hi<k->k<=4194304->Fw k 1 1 a b=false
section
variable {a b:List Zk} (hpa:∀g∈a,Gin g) (hpb:∀g∈b,Gin g) (hba:Yf a=true) (hbb:Yf b=true)
include hpa hpb hba hbb
end
end Go.Sky
namespace Go.Sky
variable{t u:Rat}{k:Nat}{q h:Zk}
def sR(g:Zk)(t:Rat):Rat:=(t-(g.1.1:Rat))/((g.1.2.1-g.1.1:Int):Rat)
def InG(g:Zk)(t:Rat):Prop:=(g.1.1:Rat)<=t/\t<=(g.1.2.1:Rat)
theorem Yl8{g:Zk}(h:SgG g):((g.1.2.1-g.1.1:Int):Rat)≠0:=by have:=h.t2;exact_mod_cast (show g.1.2.1-g.1.1≠0 by omega)
theorem sR_mul{g:Zk}(h:SgG g)(t:Rat):sR g t*((g.1.2.1-g.1.1:Int):Rat)=t-(g.1.1:Rat):=by unfold sR;exact eG (Yl8 h)
theorem Yb0{ps:List Zk}(r:∀g∈ps,Gin g)(a:Yf ps=true){j:Nat}(w:j<k)(b:k<ps.length)(n:InG (ps.getD j G0) t)(o:InG (ps.getD k G0) t) :
  SmP (ps.getD j G0) (sR (ps.getD j G0) t) (ps.getD k G0) (sR (ps.getD k G0) t):=by
 have sg:∀k,k<ps.length->SgG (ps.getD k G0):=λk b=>Oj (r _ (Zd b)) (Nx ((Qd a).1 _ b));have x:(ps.getD k G0).1.1<=(ps.getD j G0).1.2.1:=by exact_mod_cast eD o.1 n.2
 have f:k=j+1:=by refine aZ λD=>?_;obtain⟨m,rfl⟩:∃m,k=m+1:=⟨k-1,O1⟩;have c:=Zfz a b;have d:=Yp3 r a (k:=j+1) (m:=m) O1 O1;have z:=Zfz a (i:=j) O1;have B:=(sg (j+1) O1).t2;omega
 subst f;have p:=Zfz a (i:=j) O1;have y:meG (ps.getD j G0) (ps.getD (j+1) G0)=true:=by have c:=(Qd a).1 _ b;have d:=Zdn (Nx c) (jZ _);rw [c]at d;exact d.symm
 have e:t=((ps.getD j G0).1.2.1:Rat):=by refine Rat.le_antisymm n.2 ?_;rw [<-p];exact o.1
 have l:=sg j O1;have s:sR (ps.getD j G0) t=1:=by unfold sR;rw [e,show(((ps.getD j G0).1.2.1:Rat)-((ps.getD j G0).1.1:Rat))=(((ps.getD j G0).1.2.1-(ps.getD j G0).1.1:Int):Rat) by push_cast;rfl,gK];exact mP _ (Yl8 l)
 have v:sR (ps.getD (j+1) G0) t=0:=by unfold sR;rw [e,p,gK];grind
 rw [s,v];exact SmP_me l (sg _ b) y
theorem Zvd{ps:List Zk}(d:∀g∈ps,Gin g)(c:Yf ps=true){j:Nat}(e:j<ps.length)(f:k<ps.length)(a:InG (ps.getD j G0) t)(b:InG (ps.getD k G0) t) :
  SmP (ps.getD j G0) (sR (ps.getD j G0) t) (ps.getD k G0) (sR (ps.getD k G0) t):=by
 rcases fM j k with h|h|h
 .exact Yb0 d c h f a b
 .subst h;exact λi hi=>rfl
 .exact(Yb0 d c h e b a).symm
theorem Ype{g:Zk}{G:Int}(a:SgG g)(h:Prt q g G) : SmP q u g (sR g ((q.1.1:Rat)+u*((q.1.2.1-q.1.1:Int):Rat))):=
 Yue h (by rw [sR_mul a];push_cast;grind)
def pzQ(g:Zk)(i:Nat)(s:Rat):Rat:=spX g i s/(g.1.2.2:Rat)
def dQ(g h:Zk)(s u:Rat):Rat:=(pzQ g 0 s-pzQ h 0 u)*(pzQ g 0 s-pzQ h 0 u)+(pzQ g 1 s-pzQ h 1 u)*(pzQ g 1 s-pzQ h 1 u)+(pzQ g 2 s-pzQ h 2 u)*(pzQ g 2 s-pzQ h 2 u)
theorem Zi2{g:Zk}{s:Rat}(j:SgG g)(l:SgG h)(e:SmP g s h u){i:Nat}(hi:i<3):pzQ g i s=pzQ h i u:=by
 have c:=e i hi;have a:=Yct j;have b:=Yct l;have d:pzQ g i s*(g.1.2.2:Rat)=spX g i s:=eG a;have f:pzQ h i u*(h.1.2.2:Rat)=spX h i u:=eG b;rw [<-d,<-f]at c;have:(pzQ g i s-pzQ h i u)*((g.1.2.2:Rat)*(h.1.2.2:Rat))=0:=O5;rcases fN.1 this with k|k
 .grind
 .rcases fN.1 k with k|k
  .exact absurd k a
  .exact absurd k b
theorem dQ_sm{g r:Zk}{s v w:Rat}(a:SgG g)(b:SgG h)(c:SgG q)(d:SgG r)(e:SmP g s q v)(f:SmP h u r w):dQ g h s u=dQ q r v w:=by unfold dQ;rw [Zi2 a c e (i:=0) O4,Zi2 a c e (i:=1) O4,Zi2 a c e (i:=2) O4,Zi2 b d f (i:=0) O4,Zi2 b d f (i:=1) O4,Zi2 b d f (i:=2) O4]
theorem fv_dQ{g:Zk}(s:SgG g)(v:SgG h)(D:Int):0<=fvE D 1 1 g.1.2.2 h.1.2.2 g.2.1.2 g.2.2.1.2 g.2.2.2.2 h.2.1.2 h.2.2.1.2 h.2.2.2.2 t↔(D:Rat)*D<=dQ g h t t:=by
 have c:=Yct s;have d:=Yct v;have a:∀i,spX g i t=pzQ g i t*(g.1.2.2:Rat)/\spX h i t=pzQ h i t*(h.1.2.2:Rat):=λi=>⟨(eG c).symm,(eG d).symm⟩;have f:Zi g.2.1.2 t=pzQ g 0 t*(g.1.2.2:Rat):=(a 0).1;have j:Zi g.2.2.1.2 t=pzQ g 1 t*(g.1.2.2:Rat):=(a 1).1;have l:Zi g.2.2.2.2 t=pzQ g 2 t*(g.1.2.2:Rat):=(a 2).1;have m:Zi h.2.1.2 t=pzQ h 0 t*(h.1.2.2:Rat):=(a 0).2;have n:Zi h.2.2.1.2 t=pzQ h 1 t*(h.1.2.2:Rat):=(a 1).2;have o:Zi h.2.2.2.2 t=pzQ h 2 t*(h.1.2.2:Rat):=(a 2).2;have w:(g.1.2.2:Rat)*(h.1.2.2:Rat)≠0:=λe=>by
  rcases fN.1 e with k|k
  .exact c k
  .exact d k
 have b:0<((g.1.2.2:Rat)*(h.1.2.2:Rat))*((g.1.2.2:Rat)*(h.1.2.2:Rat)):=by have x:=Yip ((g.1.2.2:Rat)*(h.1.2.2:Rat));refine lE.1 λy=>?_;have r:((g.1.2.2:Rat)*(h.1.2.2:Rat))*((g.1.2.2:Rat)*(h.1.2.2:Rat))=0:=O5;rcases fN.1 r with k|k<;>exact w k
 have e:fvE D 1 1 g.1.2.2 h.1.2.2 g.2.1.2 g.2.2.1.2 g.2.2.2.2 h.2.1.2 h.2.2.1.2 h.2.2.2.2 t=((g.1.2.2:Rat)*(h.1.2.2:Rat))*((g.1.2.2:Rat)*(h.1.2.2:Rat))*(dQ g h t t-(D:Rat)*D):=by unfold fvE dfA dQ;rw [f,j,l,m,n,o];push_cast;grind
 rw [e];constructor
 .intro p;refine lB.1 λz=>?_;have:=aT b (show 0<(D:Rat)*D-dQ g h t t by grind);grind
 .intro p;exact aE (cS b) O5
end Go.Sky

