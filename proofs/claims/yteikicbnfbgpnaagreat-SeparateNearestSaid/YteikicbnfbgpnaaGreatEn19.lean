/- Rules, arithmetic and contracts: part 20. No conditions but those that each theorem names. -/
import Derived.Test.YteikicbnfbgpnaaGreatEn18
set_option linter.all false
set_option maxHeartbeats 4000000
namespace Go.Sky
def lastB(ps:List Zl)(t:Int):Bool:=decide (spF ps<=t) && decide (t<=spL ps)
def exI(ps:List Zl)(t:Int):Nat:=ps.findIdx λg=>decide (t<=g.1.2.1)
def exA(ps:List Zl)(t:Int):Int:=t-(ps.getD (exI ps t) G0).1.1
def exD(ps:List Zl)(t:Int):Int:=(ps.getD (exI ps t) G0).1.2.1-(ps.getD (exI ps t) G0).1.1
def exO(ps:List Zl)(t:Int):Int:=(ps.getD (exI ps t) G0).1.2.2*exD ps t^5/gS (ps.getD (exI ps t) G0).1.2.2 (exA ps t) (exD ps t) (ps.getD (exI ps t) G0).2.1.2 (ps.getD (exI ps t) G0).2.2.1.2 (ps.getD (exI ps t) G0).2.2.2.2 3
def exL(ps:List Zl)(t:Int):List Int:=Zoc ((ps.getD (exI ps t) G0).1.2.2*exD ps t^5) (mk 3 (plC (exA ps t) (exD ps t) (ps.getD (exI ps t) G0).2.1.2 (ps.getD (exI ps t) G0).2.2.1.2 (ps.getD (exI ps t) G0).2.2.2.2))
section
variable {P:Program} {N:Nat} {sc:Nat->Prop} {env:Pw} {H:Hp}
end
end Go.Sky
namespace Go.Sky
def exC(ps:List Zl)(t:Int)(c:List Int):Int:=pl c (exA ps t) (exD ps t)/gS (ps.getD (exI ps t) G0).1.2.2 (exA ps t) (exD ps t) (ps.getD (exI ps t) G0).2.1.2 (ps.getD (exI ps t) G0).2.2.1.2 (ps.getD (exI ps t) G0).2.2.2.2 3
def spX(g:Zl)(i:Nat)(s:Rat):Rat:=Zf (Zu i g.2.1.2 g.2.2.1.2 g.2.2.2.2) s
def exN(ps:List Zl)(t:Int)(i:Nat):Int:=exC ps t (Zu i (ps.getD (exI ps t) G0).2.1.2 (ps.getD (exI ps t) G0).2.2.1.2 (ps.getD (exI ps t) G0).2.2.2.2)
def rdN(ps:List Zl)(t:Int)(i:Nat):Int:=(exN ps t i+exN ps t i+exO ps t)/(exO ps t+exO ps t)
def rdL(ps:List Zl)(t:Int):Nat->List Int
 | 0=>[0,0,0]
 | i+1=>(rdL ps t i).set i (rdN ps t i)
structure AtB (n o:Int):Prop where
 b1:bl n.natAbs<=30000
 b2:bl o.natAbs<=30000
 n2:bl (n+n).natAbs<=30000
 o2:bl (o+o).natAbs<=30000
 s:bl (n+n+o).natAbs<=30000
 z:o+o≠0
 q:((n+n+o)/(o+o)).natAbs<=9223372036854775807
section
variable {P:Program} {N:Nat} {sc:Nat->Prop} {env:Pw} {H:Hp}
end
end Go.Sky
namespace Go.Sky
def SmP(g:Zl)(s:Rat)(h:Zl)(u:Rat):Prop:=∀i,i<3->spX g i s*(h.1.2.2:Rat)=spX h i u*(g.1.2.2:Rat)
def SmP.symm{g h:Zl}{s u:Rat}(e:SmP g s h u):SmP h u g s:=λi hi=>(e i hi).symm
def SmP.trans{g h k:Zl}{s u v:Rat}(a:(h.1.2.2:Rat)≠0)(e:SmP g s h u)(f:SmP h u k v):SmP g s k v:=λi hi=>by
 have b:=e i hi;have c:=f i hi;have:(spX g i s*(k.1.2.2:Rat)-spX k i v*(g.1.2.2:Rat))*(h.1.2.2:Rat)=0:=O4;rcases fD.1 this with q|q
 .grind
 .exact absurd q a
def sTm(g:Zl)(t:Int):Rat:=((t-g.1.1:Int):Rat)/((g.1.2.1-g.1.1:Int):Rat)
def cvS{D:Int}{a b:List Zl}(e:∀g∈a,Gin g)(f:∀g∈b,Gin g)(c:Xl a=true)(d:Xl b=true)(h:dsB D=true):∀g∈Mg D 1 1 a b,Cvd g.2.2:=Ymi e f c d h (Zz1 (Lr a b a)) (Zz1 (Lr a b b))
section
variable {D n d:Int} {a b:List Zl} (hpa:∀g∈a,Gin g) (hpb:∀g∈b,Gin g) (hba:Xl a=true) (hbb:Xl b=true) (hz:znB D n d=true)
include hpa hpb hba hbb hz
end
end Go.Sky
namespace Go.Sky
variable{h:Int×Int}{i m:Nat}{zs:List GpT}
def NrP(a b:List Zl)(g:Int×Int):Prop:=
 (Iv a b≠0/\g=(0,Iv a b))\/(Iv a b=0/\Mg 0 1 1 a b=[]/\g=(0,9))\/
  (Iv a b=0/\Mg 0 1 1 a b≠[]/\g.2=0/\0<=g.1/\g.1<=4194304/\∀k,1<=k->k<=4194304->Ek k 1 1 a b=decide (k<=g.1))
theorem Zmh{a b:List Zl}{g:Int×Int}(c:NrP a b g)(r:NrP a b h):g=h:=by
 rcases c with⟨c,rfl⟩|⟨c,k,rfl⟩|⟨c,k,s,w,x,p⟩<;>rcases r with⟨d,rfl⟩|⟨d,j,rfl⟩|⟨d,j,q,u,v,o⟩
 .rfl
 .exact absurd d c
 .exact absurd d c
 .exact absurd c d
 .rfl
 .exact absurd k j
 .exact absurd c d
 .exact absurd j k
 .obtain⟨n,e⟩:=g;obtain⟨m,t⟩:=h;dsimp only at *;subst s q;rcases jJ n m with h|h|h
  .have l:=p m O O;have f:=o m O O;rw [l,aK (eY m)]at f;have:=cE f;omega
  .rw [h]
  .have l:=p n O O;have f:=o n O O;rw [l,aK (eY n)]at f;have:=cE f.symm;omega
section
variable {a b:List Zl} (hpa:∀g∈a,Gin g) (hpb:∀g∈b,Gin g) (hba:Xl a=true) (hbb:Xl b=true)
include hpa hpb hba hbb
theorem Ydz{D E:Int}(c:0<=E)(d:E<=D)(e:D<=4194304)(h:Ek D 1 1 a b=true):Ek E 1 1 a b=true:=
 Ysv (cvS hpa hpb hba hbb (by unfold dsB;rw [aK O,aK O];rfl)) (cvS hpa hpb hba hbb (by unfold dsB;rw [aK O,aK O];rfl)) c d O3 O3 h
end
def NrS(a b:List Zl)(r:Nat):Prop:=r<=4194304/\(∀k,k<r->Ek ((k:Int)+1) 1 1 a b=true)/\∀k,r<=k->k<4194304->Ek ((k:Int)+1) 1 1 a b=false
def Yqf{a b:List Zl}{j:Nat}(l:i<=j/\j<=4194304)(f:¬i<j)(d:∀k,k<i->Ek ((k:Int)+1) 1 1 a b=true)(e:∀k,j<=k->k<4194304->Ek ((k:Int)+1) 1 1 a b=false):NrS a b i:=
 ⟨O,d,λk n c=>e k O c⟩
theorem nr_end{a b:List Zl}(q:zs.map unP=Mg 0 1 1 a b)(c:¬Iv a b≠0)(o:¬zs.length=0)(h:NrS a b i):NrP a b ((i:Int),0):=by
 obtain⟨r,d,j⟩:=h;refine .inr (.inr ⟨fU.1 c,λe=>o ?_,rfl,O9,O9,λk l n=>?_⟩)
 .rw [<-aP (f:=unP),q,e];rfl
 .obtain⟨m,rfl⟩:∃m:Nat,k=(m:Int)+1:=⟨(k-1).toNat,O⟩;by_cases p:m<i
  .rw [d m p,aK O9]
  .rw [j m O O,aN O9]
theorem ds_in{k:Int}(c:0<=k)(d:k<=4194304):dsB k=true:=by unfold dsB;rw [aK c,aK d];rfl
section
variable {a b:List Zl} (hpa:∀g∈a,Gin g) (hpb:∀g∈b,Gin g) (hba:Xl a=true) (hbb:Xl b=true)
include hpa hpb hba hbb
theorem nrS_t(d:m<4194304)(h:Ek ((m:Int)+1) 1 1 a b=true)(k:Nat)(c:k<m+1):Ek ((k:Int)+1) 1 1 a b=true:=Ydz hpa hpb hba hbb (D:=(m:Int)+1) O O O h
theorem nrS_f(h:Ek ((m:Int)+1) 1 1 a b=false)(k:Nat)(d:m<=k)(c:k<4194304):Ek ((k:Int)+1) 1 1 a b=false:=by
 cases hc:Ek ((k:Int)+1) 1 1 a b with
 | false=>rfl
 | true=>rw [Ydz hpa hpb hba hbb (D:=(k:Int)+1) (E:=(m:Int)+1) O O O hc]at h;cases h
end
theorem Yqe{a b:List Zl}(e:zs.map unP=Mg 0 1 1 a b)(c:¬Iv a b≠0)(d:zs.length=0):NrP a b (0,9):=by refine .inr (.inl ⟨fU.1 c,?_,rfl⟩);rw [<-e,aC d];rfl
theorem nr_is{a b:List Zl}{g:Int×Int}{n:Int}(h:NrP a b g)(j:Iv a b=0)(p:Mg 0 1 1 a b≠[])(s:1<=n/\n<4194304)(k:Ek n 1 1 a b=true)(l:Ek (n+1) 1 1 a b=false):g=(n,0):=by
 rcases h with⟨h,-⟩|⟨-,h,-⟩|⟨-,-,o,q,r,c⟩
 .exact absurd j h
 .exact absurd h p
 .obtain⟨m,e⟩:=g;dsimp only at *;subst o;have d:=c n O O;have f:=c (n+1) O O;rw [k]at d;rw [l]at f;have t:=cE d.symm;have u:=iY f.symm;rw [show m=n by omega]
def Ykw(fr n d e f j c l k:Int)(s:SL×SL×SL):Zl:=((fr,n,1),(s.1,Dt d j k),(s.2.1,Dt e c k),(s.2.2,Dt f l k))
def Aa(s:SL×SL×SL):Zl:=Ykw 0 1000 0 0 0 1000 0 0 1 s
def gv1(s:SL×SL×SL):Zl:=Ykw 0 1000 1000 300 0 0 300 0 1 s
def gv2(s:SL×SL×SL):Zl:=Ykw 500 2000 0 700 0 0 700 0 2 s
def gvL(s:SL×SL×SL):Zl:=Ykw 1000 2000 0 0 0 1000 0 0 1 s
def gf_1:fmZ 300 1 1 1 1 (Dt 0 1000 1) (Dt 0 0 1) (Dt 0 0 1) (Dt 1000 0 1) (Dt 300 300 1) (Dt 0 0 1)=tzl [1,-4,4]:=O5
def gf_2:fmZ 400 1 1 1 1 (Dt 0 1000 1) (Dt 0 0 1) (Dt 0 0 1) (Dt 1000 0 1) (Dt 300 300 1) (Dt 0 0 1)=tzl [93,-400,400]:=O5
def gs_0:Ba 0 1000 1 (Dt 0 1000 1) (Dt 0 0 1) (Dt 0 0 1)=true:=O5
def gs_1:Ba 0 1000 1 (Dt 1000 0 1) (Dt 300 300 1) (Dt 0 0 1)=true:=O5
section
variable (s t:SL×SL×SL)
def Zjv:Xl [Aa s]=true:=O6
def Yfu:Xl [gv1 s]=true:=O6
def gp_2:Xl [gv2 s]=true:=O6
def gp_L:Xl [gvL s]=true:=O6
def Yfy:Iv [Aa s] [gv1 t]=0:=O6
def ge_2:Iv [Aa s] [gv2 t]=0:=O6
def ge_L:Iv [Aa s] [gvL t]=0:=O6
def gz_L:Mg 0 1 1 [Aa s] [gvL t]=[]:=O6
def gz_1:(Mg 0 1 1 [Aa s] [gv1 t]).isEmpty=false:=O6
def gz_2:(Mg 0 1 1 [Aa s] [gv2 t]).isEmpty=false:=O6
def Ylc:Ek 300 1 1 [Aa s] [gv1 t]=true:=O6
def ga_2:Ek 301 1 1 [Aa s] [gv1 t]=false:=O6
def ga_3:Ek 860 1 1 [Aa s] [gv2 t]=true:=O6
def ga_4:Ek 861 1 1 [Aa s] [gv2 t]=false:=O6
def ga_5:Ek 300 1 1 [Aa s] [gv2 t]=true:=O6
def ga_6:Ek 300 1 1 [gv1 s] [gv2 t]=true:=O6
def gz_3:Mg 860 1 1 [Aa s] [gv2 t]=[(500,1000,tzl [1,1250,625])]:=O6
def gf_3:Cb (Mg 301 1 1 [Aa s] [gv1 t])=(0,1000,true):=O6
end
end Go.Sky
namespace Go.Sky
open Go.Proofs.Tryz
open Go.Proofs
set_option synthInstance.maxHeartbeats 0
set_option synthInstance.maxSize 100000
set_option maxRecDepth 20000
set_option linter.unusedSimpArgs false
variable{va vb v u:Value}{ls:List PT}{M0:Nat->Prop}
theorem Zoy(e f:List Zl)(M:Int)(q:∀g∈e,Gin g)(r:∀g∈f,Gin g)(j:Xl e=true)(m:Xl f=true)(B:e.length<=5)(F:f.length<=5)(s:dsB M=true)(P:Iv e f=0)(z:Ek M 1 1 e f=true):Qd prog 43 #[va,vb,.int .i64 M] [Xs 6 Qj qG va e,Xs 6 Qj qG vb f] (.tuple #[.agg #[.bool false,.string ⟨#[]⟩,.bool false,.string ⟨#[]⟩],.int .i64 9]):=by
 refine Zk0 func43 J ntmps43 J K2 ?_;intro y Y H G;have H:=Hw.mk H;simp only [Pa,Xb];refine go 2 ?_;refine Ym (Ya 3) λt _=>Ym (Ya 4) λc _=>go 7 ?_;refine cl 5 [1,2] (Zkc _ _ _ q r j m B F s) λi n=>go 11 ?_;refine kf (aN (λh=>h P))<|go 9 ?_;refine cl 6 [5] Zxt λb _=>go 3 ?_;refine Ycp ([Ky b 50 #[i.1],Xs 3 Gi qGp i.1 i.2]) y (λ(k:Nat) (_:Unit)=>[(0,Yt y (λ_=>False)),(3,box t 82 #[.bool false,.string ⟨#[]⟩,.bool false,.string ⟨#[]⟩]),(4,box c 26 #[.int .i64 0])]) (λk _=>k=0) (λ(_:Unit)=>[(0,Yt y (λ_=>False)),(3,box t 82 #[.bool false,.string ⟨#[]⟩,.bool false,.string ⟨#[]⟩]),(4,box c 26 #[.int .i64 0])]) (λ_=>False) () J (by intro d w;first|exact enters_of func162 O6 rfl d w|exact call162 d w) (Zqe i.1 i.2 b (Zsk q r j m s n)) ?_ (λ_ _=>J) J H.h J J K3 (λ_ _=>⟨J,J⟩) (λ_=>⟨J,J⟩) (λk x V _ Q o l R S=>?_) J (λ_ o D W=>?_) (λ_ I=>?_)
 .intro p N;simp only [bE,dX,iF]at N;rcases N with rfl|rfl
  .exact⟨J,6,J⟩
  .exact⟨J,5,J⟩
 .exact Bool.noConfusion ((Znv n Q).symm.trans z)
 .refine dt (Qv [] J aA (λa w hs=>Ygc))<|go 3 ?_;refine Yd4 λa w hs=>⟨J,[(6,.pointer (some ⟨t,0,none⟩)),(7,.pointer (some ⟨c,0,none⟩))],[(0,Yt y (λ_=>False)),(3,box t 82 #[.bool false,.string ⟨#[]⟩,.bool false,.string ⟨#[]⟩]),(4,box c 26 #[.int .i64 9])],J,⟨⟨_,J,J,λ_ h=>h⟩,⟨_,J,J,λ_ h=>h⟩,⟨_,J,J,λ_ h=>h⟩,aA⟩,hs.weaken ⟨J,J,aA⟩ ⟨J,J,J,J,aA⟩,?_⟩;exact Nx G () results43 J aA Za
 .exact I.elim
theorem Yep(n:Nat)(B:Nat)(P:n<=64):Ygg prog 175 [.pointer (some ⟨B,0,none⟩)] [Ky B 3 #[.int .i64 (n:Int)]] (α:=Nat×Nat) (G:=Unit) (prs n) (λc g=>[.int .i64 (c.1:Int),.int .i64 (c.2:Int)]) (λc g=>[]):=by
 refine Zs2 func175 J ntmps175 J K1 ?_;intro l M y N x Q I o j b s D;simp only [Pa,Xb];have r:=Hw.mk I;refine Yrc<|go 1 ?_;refine Yrd<|go 8 ?_;refine lp (G:=Nat×World) [0,1,5] [1] (λq=>[(6,.int .i64 (q.1:Int))]) (λq=>[(0,Yt q.2 (λ_=>False))]) (λq=>(q.1<=n)/\(y (prU n q.1).length q.2)/\(x.heap.size<=q.2.heap.size)) (λq=>n-q.1) (0,x) ⟨O1,s,aI _⟩ K1 K1 ?_;rintro⟨i,W⟩ ⟨hi,a,d⟩;dsimp only at hi a d;dsimp only;have w:=Yb6 r d;refine go 6 ?_;refine Ze J (λf=>?_) (λf=>?_)
 .refine go 18 ⟨O,?_⟩;refine lp (G:=Nat×World) [0,1,3,5,6] [1] (λq=>[(4,.int .i64 (q.1:Int))]) (λq=>[(0,Yt q.2 (λ_=>False))]) (λq=>(i+1<=q.1)/\(q.1<=n)/\(y ((prU n i).length+(q.1-(i+1))) q.2)/\(x.heap.size<=q.2.heap.size)) (λq=>n-q.1) (i+1,W) ⟨O1,O1,by rw [gE];exact a,d⟩ K1 K1 ?_;rintro⟨k,V⟩ ⟨t,F,a,d⟩;dsimp only at t F a d;dsimp only;have w:=Yb6 r d;refine go 8 ?_;refine Ze J (λh=>?_) (λh=>?_)
  .refine go 5 ?_;refine Yf1<|La (Za1 J J) J<|La (Za1 J J) J<|La (Za1 J J) J<|Zvo [_,_] [_] (i,k) () D (Yjf _ _ _ O O O) a d o J J J J J K2 J J (λp H=>by cases H) K1 K1 (λz e m=>?_) (λz e m=>?_)
   .simp only [Xb];refine La (dF (Xi J J) J) J<|Bc<|go 10 ⟨O,?_⟩;exact Yh (k+1,z) ⟨O1,O1,by rw [show(prU n i).length+(k+1-(i+1))=((prU n i).length+(k-(i+1)))+1 from by omega];exact e,m⟩ O1 K1 K1
   .simp only [Xb];refine La (dT (Xi J J) J) J<|Bc<|go 11 ?_;exact x_ngn<|Zbt (.inr J) J J j b (.inr e)
  .refine go 10 ⟨O,?_⟩;exact Yh (i+1,V) ⟨O1,by rw [pr_len,show n=k by omega];rw [show n=k by omega]at a;exact a,d⟩ O1 K1 K1
 .obtain rfl:i=n:=O;refine go 4 ?_;exact x_ngn<|Zbt (.inr J) J J j b (.inl a)
theorem Yh7(n:Nat):Cal prog 109 #[.int .i64 (n:Int)] [] true (G:=Nat) (λg=>True) (λg=> .func (.func 175) #[] #[.pointer (some ⟨g,0,none⟩)]) (λg=>[Ky g 3 #[.int .i64 (n:Int)]]):=by refine Zh func109 ntmps109 λe d c a=>go 2 ?_;refine Ym (Yr 1) λb _=>go 5 ?_;refine dt (Zwp [] [_] J aA K1)<|go 4 ?_;exact Zs (Zff 1 J J)<|Xo a _ results109 J aA (Ps 1 Za)
theorem Yeq{ps:List Zl}(b:∀g∈ps,Gin g):Qd prog 108 #[v] [Xs 6 Qj qG v ps] (.bool (!Xl ps)):=by refine Zh func108 ntmps108 λe d c a=>go 8 ?_;refine cl 1 [1] (Nn b) λ_ _=>go 5 ?_;exact Xo a () results108 J aA Za
theorem Yky(ls:List PT)(m:∀x∈ls,∀g∈x.2,Gin g):Cal prog 174 #[v,.func (.func 108) #[] #[]] [Xs 1 Zm9 qP v ls] false (G:=Int) (λr=>decide (r>=0)=!Zf1 ls) (λr=> .int .i64 r) (λr=>[]):=by
 refine Zh func174 ntmps174 λp o n d=>?_;refine Pg (Mh (i:=1) J Zc) λf=>go 14 ?_;refine lp (G:=Nat) [0,1,7] [0,1] (λi=>[(8,.int .i64 (i:Int))]) (λi=>[]) (λi=>(i<=ls.length)/\(∀j,j<i->Xl (pth ls j)=true)) (λi=>ls.length-i) 0 ⟨O1,λj h=>absurd h (cI j)⟩ K1 aA ?_;rintro i ⟨hi,l⟩;refine go 6 ?_;refine Ze J (λc=>?_) (λc=>?_)
 .refine go 11 ?_;refine Zg (Ni 1 55 (ls.getD i PT0) J J Zd J)<|go 4 ?_;refine dt (Zv 1 i J J J J Zc Yeb sizeOf38 J)<|dt (Yz 1 PT0 J J J Zc pPq)<|tt (Zz8 1 [] [_] [] (Yeq (m _ Zd)) J J J J K1 call108 (Zk 55 J J J Zn) J n.h) λ_ _=>go 2 ?_;refine Md J (λa=>?_) (λa=>?_)
  .have b:=a;refine go 12 ?_;exact Xo d (i:Int) results174 J (by rw [vidx_t O (Zs4 b)];exact aK (lS i)) Za
  .have b:=a;refine go 7 ⟨O,?_⟩;exact Yh (i+1) ⟨O1,λj h=>by rcases bP.1 h with e|e;exact l j e;subst e;exact Zs5 b⟩ O1 K1 aA
 .obtain rfl:i=ls.length:=O;refine go 11 ?_;exact Xo d (-1) results174 J (by rw [Ygs (aI _) (λk h _=>l k h)];rfl) Za
theorem Ym7(ls:List PT)(c:∀x∈ls,∀g∈x.2,Gin g):Qd prog 107 #[v,.func (.func 108) #[] #[]] [Xs 1 Zm9 qP v ls] (.bool (!Zf1 ls)):=by refine Zh func107 ntmps107 λh f d b=>go 9 ?_;refine cl 1 [1] (Yky ls c) λe a=>go 5 ?_;exact Xo b () results107 (by rw [a]) aA Za
theorem Zui(B:Int)(R:∀x∈ls,∀g∈x.2,Gin g)(S:Zf1 ls=true)(hL:∀x∈ls,x.2.length<=5)(hn:ls.length<=64)(N:dsB B=true):Cal prog 48 #[v,.int .i64 B] [Xs 1 Zm9 qP v ls] false (G:=ClT) (λr=>ClR B 1 1 ls r) (λr=>clE r) (λr=>[]):=by
 refine Zk0 func48 J ntmps48 J K1 ?_;intro w0 sc hw W;have hw:=Hw.mk hw;simp only [Pa,Xb];refine Pg (Mh (i:=1) J Zc) (λa9=>?_);refine Dn (Xe 1 J Zc) (λI a4=>?_);subst a4;refine go 2 ?_;refine Ym (Yr 2) λbx _=>Ym (Yr 3) λt _=>Ym (Ya 4) λc _=>Ym (Ya 5) λd _=>Ym (Ya 6) λe _=>go 7 ?_;refine cl 6 [] Zgd λ_ _=>?_;refine dt (dF (Xi J J) (aH (λb=>Value.bool (!b)) N))<|go 2 ?_;refine De 6 [1] (Ym7 ls R) λ_ _=>?_;refine kf (by rw [S];rfl)<|go 8 ?_;refine kf (aN O)<|go 12 ?_;refine cl 7 [] (Yh7 ls.length) λb _=>go 3 ?_;refine Ycp ([Ky b 3 #[.int .i64 (ls.length:Int)]]) w0 (λ(k:Nat) (_:Unit)=>[(0,Yt w0 (λ_=>False)),(1,Xs 1 Zm9 qP (Xm I) ls),(2,box bx 61 #[Xm I]),(3,box t 3 #[.int .i64 B]),(4,box c 64 #[.int .i64 0,.int .i64 0,.int .i64 0,.int .i64 0]),(5,box d 4 #[.bool false]),(6,box e 26 #[.int .i64 0])]) (λk _=>PrI B ls k) (λ(z:ClT)=>[(0,Yt w0 (λ_=>False)),(4,box c 64 #[.int .i64 z.1.1,.int .i64 z.1.2.1,.int .i64 z.1.2.2.1,.int .i64 z.1.2.2.2]),(5,box d 4 #[.bool z.2.1]),(6,box e 26 #[.int .i64 z.2.2])]) (λz=>ClR B 1 1 ls z) () J (by intro n w;first|exact enters_of func175 O6 rfl n w|exact call175 n w) (Yep ls.length b O) ?_ (λ_ _=>J) J hw.h J (λj p h _=>absurd h (cI j)) K7 (λ_ _=>⟨J,J⟩) (λ_=>⟨J,J⟩) (λk x gi _ hx o l Z Wa=>?_) J (λ_ o D od=>?_) (λz a6=>?_)
 .intro p V;simp only [bE,dX,iF]at V;rcases V with rfl;exact⟨J,7,J⟩
 .refine Zit (env':=[(2,_),(3,_),(4,_),(5,_),(6,_),(29,_),(30,_)]) (H':=[(92,Yt Wa Z),(0,Yt w0 (λ_=>False)),(1,Xs 1 Zm9 qP (Xm I) ls),(2,box bx 61 #[Xm I]),(3,box t 3 #[.int .i64 B]),(4,box c 64 #[.int .i64 0,.int .i64 0,.int .i64 0,.int .i64 0]),(5,box d 4 #[.bool false]),(6,box e 26 #[.int .i64 0])]) (λa w hs=>hs.weaken ⟨J,J,J,J,J,J,J,aA⟩ ⟨J,J,J,J,J,J,J,J,aA⟩)<|Zdf<|Zcg J<|Ym (Ya 8) λF _=>go 1 ?_;refine Zjj (Zxg ?_);refine Zk6<|Zcg J<|Ym (Ya 9) λH _=>go 1 ?_;refine Zjj (Zxg ?_);refine x_ra [(2,_),(3,_),(4,_),(5,_),(6,_),(7,_),(8,_)] [(0,_),(1,_),(2,_),(3,_),(4,_),(5,_),(6,_),(8,_),(9,_)] K7 K10 J (λq h=>by cases h;rfl) ⟨.inr (λb f=>⟨0,_,J,f⟩),.inr (λb f=>⟨1,_,J,f⟩),.inl J,.inl J,.inl J,.inl J,.inl J,.inl J,.inl J,aA⟩ λWb a3=>?_;obtain⟨-,b1,b2⟩:=Zx9 (gL hx);refine Zdg<|Zdf<|Zit (Ni 1 55 (ls.getD x.1 PT0) J J (Zd (show x.1<ls.length by omega)) J)<|Zit (Ni 1 56 (ls.getD x.2 PT0) J J (Zd (show x.2<ls.length by omega)) J)<|Yq9 (λ_=>False) [(0,0),(1,0),(2,0),(3,0),(4,0),(5,0),(6,0),(7,0),(8,0),(9,1),(10,0),(11,0),(12,0),(13,0),(14,3)] O6 J O6<|go 2 ?_;refine Xj J J (Xq (Zv 1 x.1 J J J J Zc Yeb sizeOf38 J))<|Xj J J (Xq (Yz 1 PT0 J J J Zc pPq))<|go 2 ?_;refine Xj J J (Xq (Zv 1 x.2 J J J J Zc Yeb sizeOf38 J))<|Xj J J (Xq (Yz 1 PT0 J J J Zc pPq))<|go 1 ?_;refine Yw (Zm 10 [55,56] (Yam (R _ (Zd (show x.1<ls.length by omega))) (R _ (Zd (show x.2<ls.length by omega))) (Zf0 S (Zd (show x.1<ls.length by omega))) (Zf0 S (Zd (show x.2<ls.length by omega))) (hL _ (Zd (show x.1<ls.length by omega))) (hL _ (Zd (show x.2<ls.length by omega))) N)) λQ M=>go 6 ?_;refine Zk6<|Zdf<|Zdf<|Zcg J<|go 2 ?_;refine Zjj (Zxg ?_);refine Zk6<|Yra J (λy=>?_) (λy=>?_)
  .have h9:=y;refine Zdf<|Zcg J<|dt (Qv [] J aA (λa w hs=>b64_))<|go 4 ?_;refine Zjj (Zxg ?_);refine Zk6<|Ycl<|go 2 ?_;exact x_rr ((0,0,0,0),false,Iv (ls.getD x.1 PT0).2 (ls.getD x.2 PT0).2) (Yp1 o hx h9) ⟨.inr (λb f=>⟨0,_,J,f⟩),.inl J,.inl J,.inl J,aA⟩ K5
  .have h9:=y;refine Ylt<|Zk6<|Zdf<|Zcg J<|go 1 ?_;refine cl 11 [10] Zxt λP _=>?_;refine Zjj (Zxg ?_);refine Zk6<|Zdg<|er_rfi (pre:=[Ky P 50 #[Q.1],Xs 3 Gi qGp Q.1 Q.2]) (w0:=w0) (λ(k2:Nat) (_:Unit)=>[(0,Yt w0 (λ_=>False)),(92,Yt Wb Z),(1,Xs 1 Zm9 qP (Xm I) ls),(2,box bx 61 #[Xm I]),(3,box t 3 #[.int .i64 B]),(4,box c 64 #[.int .i64 0,.int .i64 0,.int .i64 0,.int .i64 0]),(5,box d 4 #[.bool false]),(6,box e 26 #[.int .i64 0]),(8,box F 3 #[.int .i64 (x.1:Int)]),(9,box H 3 #[.int .i64 (x.2:Int)])]) (λk2 _=>k2=0) (λ(m:ClT)=>[(0,Yt w0 (λ_=>False)),(92,Yt Wb Z),(4,box c 64 #[.int .i64 m.1.1,.int .i64 m.1.2.1,.int .i64 m.1.2.2.1,.int .i64 m.1.2.2.2]),(5,box d 4 #[.bool m.2.1]),(6,box e 26 #[.int .i64 m.2.2])]) (λm=>ClR B 1 1 ls m) () a3 J J (by intro n w;first|exact enters_of func162 O6 rfl n w|exact call162 n w) (Zqe Q.1 Q.2 P (Zsk (R _ (Zd (show x.1<ls.length by omega))) (R _ (Zd (show x.2<ls.length by omega))) (Zf0 S (Zd (show x.1<ls.length by omega))) (Zf0 S (Zd (show x.2<ls.length by omega))) N M)) ?_ (λ_ _=>J) J hw.h J J K10 (λ_ _=>⟨J,J⟩) (λ_=>⟨J,J⟩) (λk2 x2 a2 _ a5 s l2 a0 a1=>?_) (λ_ s=>?_) (λm Y=>?_)
   .intro p V;simp only [bE,dX,iF]at V;rcases V with rfl|rfl
    .exact⟨J,11,J⟩
    .exact⟨J,10,J⟩
   .refine Zit (env':=[(4,_),(5,_),(6,_),(7,_),(8,_),(50,_)]) (H':=[(93,Yt a1 a0),(100,fctP (Fnd x2.2.2 (qv (0,1)) (qv (1,1)) a2)),(0,Yt w0 (λ_=>False)),(92,Yt Wb Z),(1,Xs 1 Zm9 qP (Xm I) ls),(2,box bx 61 #[Xm I]),(3,box t 3 #[.int .i64 B]),(4,box c 64 #[.int .i64 0,.int .i64 0,.int .i64 0,.int .i64 0]),(5,box d 4 #[.bool false]),(6,box e 26 #[.int .i64 0]),(8,box F 3 #[.int .i64 (x.1:Int)]),(9,box H 3 #[.int .i64 (x.2:Int)])]) (λa w hs=>hs.weaken ⟨J,J,J,J,J,J,aA⟩ ⟨J,J,J,J,J,J,J,J,J,J,J,J,aA⟩)<|Zcg J<|Ym (Ya 12) λa7 _=>go 1 ?_;refine Zjj (Zxg ?_);refine x_ra [(4,_),(5,_),(6,_),(7,_),(8,_),(11,_)] [(0,_),(92,_),(1,_),(2,_),(3,_),(4,_),(5,_),(6,_),(8,_),(9,_),(100,_),(12,_)] K6 K13 J (λq h=>by cases h;rfl) ⟨.inr (λb f=>⟨0,_,J,f⟩),.inr (λb f=>⟨92,_,J,f⟩),.inr (λb f=>⟨1,_,J,f⟩),.inl J,.inl J,.inl J,.inl J,.inl J,.inl J,.inl J,.inr (λb f=>⟨100,_,J,f⟩),.inl J,aA⟩ λb0 a8=>?_;refine Zdg<|Zdf<|Zcg J<|go 6 ?_;refine dt (Qv [(0,_),(1,_),(2,_),(3,_)] J K8 (λa w hs=>Znx ((Yj J) a w hs) ((Yj J) a w hs) ((Yj J) a w hs) ((Yj J) a w hs)))<|go 3 ?_;refine Zjj (Zxg ?_);refine Zk6<|Ycl<|go 1 ?_;exact x_rr (((x.1:Int),(x.2:Int),x2.1.1,x2.1.2),true,0) (Yp0 o hx h9 M s a5) ⟨.inr (λb f=>⟨0,_,J,f⟩),.inr (λb f=>⟨92,_,J,f⟩),.inl J,.inl J,.inl J,aA⟩ K6
   .refine go 2 ?_;exact xq_rn () (prI_s o hx (Ydt M h9 s)) ⟨.inr (λb f=>⟨0,_,J,f⟩),.inr (λb f=>⟨1,_,J,f⟩),.inl J,.inl J,.inl J,.inl J,.inl J,aA⟩ K8
   .refine go 2 ?_;exact x_rr m Y ⟨.inr (λb f=>⟨0,_,J,f⟩),.inl J,.inl J,.inl J,aA⟩ K5
 .refine dt (Qv [] J aA (λa w hs=>b64_))<|go 4 ?_;refine Yd4 λa w hs=>⟨J,[(4,.pointer (some ⟨c,0,none⟩)),(5,.pointer (some ⟨d,0,none⟩)),(6,.pointer (some ⟨e,0,none⟩))],[(0,Yt w0 (λ_=>False)),(4,box c 64 #[.int .i64 0,.int .i64 0,.int .i64 0,.int .i64 0]),(5,box d 4 #[.bool false]),(6,box e 26 #[.int .i64 0])],J,⟨⟨_,J,J,λ_ h=>h⟩,⟨_,J,J,λ_ h=>h⟩,⟨_,J,J,λ_ h=>h⟩,⟨_,J,J,λ_ h=>h⟩,aA⟩,hs.weaken ⟨J,J,J,aA⟩ ⟨J,J,J,J,J,aA⟩,?_⟩;exact xe3 W ((0,0,0,0),false,0) results48 J (Yp2 o) Za
 .exact xe3 W z results48 J a6 Za
theorem Yh8(va vb:Value)(a b:List Zl)(l m:Nat)(k:Nat)(n:k<4194304)(h:∀g∈a,Gin g)(i:∀g∈b,Gin g)(c:Xl a=true)(d:Xl b=true)(e:a.length<=5)(f:b.length<=5):Qd prog 111 #[.int .i64 (k:Int),.pointer (some ⟨l,0,none⟩),.pointer (some ⟨m,0,none⟩)] [Ky l 38 #[va],Ky m 38 #[vb],Xs 6 Qj qG va a,Xs 6 Qj qG vb b] (.bool (!Ek ((k:Int)+1) 1 1 a b)):=by refine Zh func111 ntmps111 λq p o j=>?_;refine go 11 ⟨O,?_⟩;refine cl 4 [3,4] (Zlt a b ((k:Int)+1) h i c d e f (ds_in O O)) λ_ _=>go 15 ?_;exact Xo j () results111 J aA Za
theorem Yoy(a b:List Zl){s t:Nat}(l:∀g∈a,Gin g)(o:∀g∈b,Gin g)(d:Xl a=true)(e:Xl b=true)(D:a.length<=5)(F:b.length<=5):Cal prog 110 #[.int .i64 4194304,.func (.func 111) #[] #[.pointer (some ⟨s,0,none⟩),.pointer (some ⟨t,0,none⟩)]] [Ky s 38 #[va],Ky t 38 #[vb],Xs 6 Qj qG va a,Xs 6 Qj qG vb b] false (G:=Nat) (λr=>NrS a b r) (λr=> .int .i64 (r:Int)) (λr=>[]):=by
 refine Zh func110 ntmps110 λP N M H=>go 14 ?_;refine lp (G:=Nat×Nat) [1] [0,1,2,3,4] (λq=>[(5,.int .i64 (q.1:Int)),(6,.int .i64 (q.2:Int))]) (λq=>[]) (λq=>(q.1<=q.2/\q.2<=4194304)/\(∀k:Nat,k<q.1->Ek ((k:Int)+1) 1 1 a b=true)/\(∀k:Nat,q.2<=k->k<4194304->Ek ((k:Int)+1) 1 1 a b=false)) (λq=>q.2-q.1) (0,4194304) ⟨⟨bD _,aI _⟩,λk f=>absurd f (cI k),λk f h=>absurd h (Nat.not_lt.2 f)⟩ K2 aA ?_;rintro⟨i,j⟩ ⟨p,w,x⟩;dsimp only at p w x;dsimp only;refine go 8 ?_;refine Ze J (λy=>?_) (λy=>?_)
 .have I:i<j:=O;refine go 7 ?_;refine dt (Xh ( .int .i64 ((i+j:Nat):Int)) (Ymh J J J) (by rw [kB]))<|dt (Zsl J J uT3 Zz2 (by simp only [U];omega))<|dt (Fk 2 (n:=1) J J J J J)<|dt (Za2 J J Zz2 uT3 ⟨O,O⟩)<|go 7 ?_;refine tt (Zz8 4 [] [_] [_,_] (Yh8 va vb a b s t ((i+j)/2) O l o d e D F) J J J J K1 call111 (Zk 1 J J J (Zk 2 J J J (Zk 3 J J J (Zk 4 J J J Zn)))) J M.h) λ_ _=>go 3 ?_;refine Md J (λc=>?_) (λc=>?_)
  .have z:=c;refine go 6 ⟨O,?_⟩;exact Yh (((i+j)/2)+1,j) ⟨⟨O9,O9⟩,λk f=>nrS_t l o d e (m:=((i+j)/2)) O (by simpa using z) k f,x⟩ O9 K2 aA
  .have z:=c;refine go 5 ?_;exact Yh (i,((i+j)/2)) ⟨⟨O9,O9⟩,w,λk f h=>nrS_f l o d e (m:=((i+j)/2)) (by simpa using z) k f h⟩ O9 K2 aA
 .have B:¬i<j:=O;refine go 12 ?_;exact Xo H i results110 J (Yqf p B w x) Za
theorem Zug{c d:List Zl}(e:∀g∈c,Gin g)(f:∀g∈d,Gin g)(k:¬(Xl c=true/\Xl d=true)):Qd prog 50 #[va,vb] [Xs 6 Qj qG va c,Xs 6 Qj qG vb d] (.tuple #[.int .i64 0,.int .i64 2]):=by refine Zh func50 ntmps50 λq p o i=>?_;refine Dn (Xe 1 J Zc) (λl a=>?_);subst a;refine Dn (Xe 2 J Zc) (λm b=>?_);subst b;refine Zg (Qy 98 3 130 Gi)<|Zg (Xn 98 J J pGp)<|go 2 ?_;refine Ym (Yr 3) λn _=>Ym (Yr 4) λj _=>go 8 ?_;refine cl 4 [1,2] (Zuh c d 0 e f (λh=>k ⟨h.1,h.2.1⟩)) λ_ _=>go 12 ?_;refine kt (aK O3)<|go 14 ?_;exact Nx i () results50 J aA Za
theorem Zkb(b c:List Zl)(l:∀g∈b,Gin g)(m:∀g∈c,Gin g)(f:Xl b=true)(h:Xl c=true)(j:b.length<=5)(k:c.length<=5):Cal prog 50 #[va,vb] [Xs 6 Qj qG va b,Xs 6 Qj qG vb c] false (G:=Int×Int) (λg=>NrP b c g) (λg=> .tuple #[.int .i64 g.1,.int .i64 g.2]) (λg=>[]):=by
 refine Zh func50 ntmps50 λF D B d=>?_;refine Dn (Xe 1 J Zc) (λx n=>?_);subst n;refine Dn (Xe 2 J Zc) (λy o=>?_);subst o;refine go 2 ?_;refine Ym (Yr 3) λz _=>Ym (Yr 4) λs _=>go 8 ?_;refine cl 5 [1,2] (Zkc b c 0 l m f h j k O3) λt i=>go 16 ?_;refine Ze J (λa=>?_) (λa=>?_)
 .have p:=a;refine go 10 ?_;exact Nx d (0,Iv b c) results50 J (.inl ⟨p,J⟩) Za
 .have p:=a;refine go 8 ?_;refine Ze J (λe=>?_) (λe=>?_)
  .have q:t.2.length=0:=O;refine go 9 ?_;exact Nx d (0,9) results50 J (Yqe i p q) Za
  .have q:¬t.2.length=0:=O;refine go 5 ?_;refine dt (Zwp [] [_,_] J aA K2)<|cl 5 [3,4,1,2] (Yoy b c l m f h j k) λw r=>go 5 ?_;exact Nx d ((w:Int),0) results50 J (nr_end i p q r) Za
theorem Yo0{ps:List Zl}(h:∀g∈ps,Gin g)(c:Xl ps=true):Qd prog 120 #[v] [Xs 6 Qj qG v ps] (.tuple #[.int .i64 (spF ps),.int .i64 (spL ps),.int .i64 0]):=by refine Zh func120 ntmps120 λl k j a=>?_;refine Pg (Mh (i:=1) J Zc) (λd=>?_);obtain⟨-,e,f⟩:=Nd c;refine go 11 ?_;refine cl 1 [1] (Nn h) λ_ _=>?_;refine dt (dF (Xi J J) (aH (λb=>Value.bool (!b)) c))<|go 6 ?_;refine Qf (λ_=>False) [(0,0),(1,0),(2,0),(3,0),(4,0),(5,0),(6,0),(7,0),(8,0),(9,0),(10,0),(11,0),(12,3),(13,3)]<|go 2 ⟨O,?_⟩;refine Xj J J (Xq (Li 1 J J J Zc Ds J Kv J))<|Xj J J (Xq (Lx 1 G0 J J J Zc iA3 J))<|go 4 ⟨O,?_⟩;refine Xj J J (Xq (Zv 1 (ps.length-1) J J J J Zc Ln Ix))<|Xj J J (Xq (Li 1 J J J Zc Ds J Kv J))<|Xj J J (Xq (Lx 1 G0 J J J Zc iA3 J))<|go 6 ?_;exact xe3 a () results120 J aA Za
open Go.RowKit Below
variable {P:Program} {N:Nat} {sc:Nat->Prop} {env env':Pw} {H H':Hp} {Q Q':Exit->Act->World->Prop} {M:Nat->Prop}
theorem Ye8(h:u.oneCell'=true):u.cells=#[u]:=by cases u<;>simp_all [Value.cells,Value.oneCell']
theorem Zw4{α:Type}{enc:α->Value}{k q j:Nat}(z b:α)(c:∀x,(enc x).cells.size=k)(xs:List α)(a:j<xs.length)(i:q<k)(l:(enc z).cells.toList=(enc (xs.getD j b)).cells.toList.set q u) :
  cellsOf enc (xs.set j z)=(cellsOf enc xs).set (j*k+q) u:=by
 have e:=Cz c xs j (xs.getD j b) a;have hs:xs.set j (xs.getD j b)=xs:=by rw [aE,aM a,fE];exact List.set_getElem_self ..
 rw [hs]at e;have h:(cellsOf enc xs).length=xs.length*k:=Xk c xs;have g:j*k+k<=xs.length*k:=by rw [<-dA];exact aJ k a
 have d:((cellsOf enc xs).take (j*k)).length=j*k:=by rw [aQ,h];omega
 have f:(enc (xs.getD j b)).cells.toList.length=k:=by rw [dI,c]
 rw [Cz c xs j z a,l]
 conv=>rhs;rw [e]
 rw [dB,dB,kM _ _ (by rw [d];omega),d,mN,List.set_append_left _ _ (by rw [f];exact i)]
theorem t_stf (i:Nat) {α:Type} {o:Oper} {x y:Operand} {t ts e:TypeId} {j k q:Nat}  {enc:α->Value} {xs:List α} (z I:α) {w0:World}  (ho:o.op= .store t x y) (hd:o.dst=none)
  (hx:ev env x=some (.pointer (some (eaf v j k q)))) (hy:ev env y=some u) (R:lk H i=some (Oa k e enc v xs)) (B:i≠0) (S:Enc P ts k enc) (m:j<xs.length)
  (D:∀w,(sizeOf t).run P w= .ok 1 w) (W:u.oneCell'=true) (hq:q<k) (hz:(enc z).cells.toList=(enc (xs.getD j I)).cells.toList.set q u)
  (Z:lk H 0=some (Yt w0 M0)) (hw:∀b,w0.heap.size<=b->sc b) :
  T P N sc (λ_=>True) o env H (G:=Unit) (λ_=>True) (λ_=>env) (λ_=>(i,Oa k e enc v (xs.set j z))::H):=λa w hs K Q hK=>by
 have p:w.ownsRow 0 e k v xs.length (cellsOf enc xs):=hs.hold i _ R;rcases p.2 with⟨rfl,hn⟩|⟨g,d,c,rfl,hb,V,n,s,h,f⟩
 .omega
 .have a1:j*k+k<=xs.length*k:=by rw [<-dA];exact aJ k m
  have a0:xs.length*k<=d*k:=aJ k n;have r:=run_storeCells_at P g (j*k+q) e [u] 0 c w V (by rw [h,kN];omega) (λu' F=>by rw [bO.1 F];exact W);simp only [eH,kN]at r;have hr:(execOp a.eval o).run P w= .ok .skip (w.setRow g (c.toList.take (j*k+q) ++ [u] ++ c.toList.drop (j*k+q+1)).toArray):=by simp [execOp,ho,hs.ev hx,hs.ev hy,Instr.storeAt,Instr.sureAddr,storeVar,Ye8 W,D,ead,eaf,Ok,r]
  unfold Oper.wp;rw [hr];show K (a.put o.dst _) _;rw [hd];have l:c.toList.length=d*k:=by rw [dI,h]
  refine hK () _ _ aA ((hs.upd R rfl B (q:=Oa k e enc (.slice (some ⟨g,0,none⟩) xs.length d) (xs.set j z)) (Kx (M:=λk=>(Value.slice (some ⟨g,0,none⟩) xs.length d).ownBlock=some k) rfl) ?_ (λk D=> .inl D) Z hw).put_none undef) (Kx aA);refine⟨by rw [Xk S.cells],.inr ⟨g,d,_,O7,hb,setRow_heap w g c _ e _ V,by simpa using n,s,?_,?_⟩⟩
  .simp only [iE,aS,aQ,eD,kN,l];omega
  .rw [Zw4 z I S.cells xs m hq hz,<-f];simp only [bI];have Y:c.toList.take (j*k+q) ++ [u] ++ c.toList.drop (j*k+q+1)=c.toList.set (j*k+q) u:=by rw [gW,aG O,dB,List.singleton_append]
   rw [Y,List.take_set]
end Go.Sky
namespace Go.Sky
variable{b:Int}{k:Nat}{qs zs:List Zl}{s:SL×SL×SL}{v:Value}{xs:List Int}{gs:List (Int×SL)}
def shG(b:Int)(g:Zl):Zl:=((g.1.1+b,g.1.2.1+b,g.1.2.2),g.2)
def shK(b:Int)(ps:List Zl)(k:Nat):List Zl:=(ps.take k).map (shG b) ++ ps.drop k
theorem shK_0(b:Int)(ps:List Zl):shK b ps 0=ps:=by unfold shK;simp
theorem Om(b:Int)(ps:List Zl)(k:Nat):(shK b ps k).length=ps.length:=by unfold shK;simp;omega
theorem Yo4(b:Int)(ps:List Zl):shK b ps ps.length=ps.map (shG b):=by unfold shK;simp
theorem Zqd{ps:List Zl}(a:k<ps.length):(shK b ps k).getD k G0=ps.getD k G0:=by unfold shK;rw [aE,dC O8,fZ,aE];congr 2;simp;omega
abbrev shA (b:Int) (x:Zl):Zl:=((x.1.1+b,x.1.2.1,x.1.2.2),x.2)
abbrev shB (b:Int) (x:Zl):Zl:=((x.1.1,x.1.2.1+b,x.1.2.2),x.2)
theorem Yh3{ps:List Zl}{z:Zl}(a:k<ps.length):(ps.set k z).getD k G0=z:=by rw [aE,mS a];rfl
theorem shK_s{ps:List Zl}(a:k<ps.length) :
  ((shK b ps k).set k (shA b ((shK b ps k).getD k G0))).set k (shB b (((shK b ps k).set k (shA b ((shK b ps k).getD k G0))).getD k G0))=shK b ps (k+1):=by
 rw [Yh3 (by rw [Om];exact a),List.set_set,Zqd a];unfold shK;have c:((ps.take k).map (shG b)).length=k:=O8;rw [kM _ _ O,c,gE];have d:ps.drop k=ps.getD k G0::ps.drop (k+1):=by rw [eA a,aE,aM a];rfl
 rw [d,lM];have e:ps.take (k+1)=ps.take k ++ [ps.getD k G0]:=by rw [mF,aM a,aE,aM a];rfl
 rw [e,dL,dB];rfl
theorem Yo5{ps:List Zl}(a:k<ps.length):((shK b ps k).set k (shA b ((shK b ps k).getD k G0))).getD k G0=shA b (ps.getD k G0):=by rw [Yh3 (by rw [Om];exact a),Zqd a]
theorem Yqm(b:Int)(ps:List Zl):Nj qG ps=Nj qG (ps.map (shG b)):=by
 unfold Nj;congr 1
 .funext w;exact propext ⟨λ⟨z,a,h⟩=>⟨shG b z,eJ.2 ⟨z,a,rfl⟩,h⟩,λ⟨z,a,h⟩=>by obtain⟨y,c,rfl⟩:=eJ.1 a;exact⟨y,c,h⟩⟩
 .funext w;exact propext ⟨λh z a=>by obtain⟨y,c,rfl⟩:=eJ.1 a;exact h y c,λh z a=>h (shG b z) (eJ.2 ⟨z,a,rfl⟩)⟩
theorem Ygt{ps:List Zl}(h:qs.map Gs=ps.map Gs):qs.length=ps.length:=by have:=aH List.length h;simpa using this
theorem un_gd{ps:List Zl}(h:qs.map Gs=ps.map Gs)(k:Nat):Gs (qs.getD k G0)=Gs (ps.getD k G0):=by have:=aH (λl=>l[k]?) h;simp only [eI]at this;rw [aE,aE];cases h1:qs[k]?<;>cases h2:ps[k]?<;>rw [h1,h2]at this<;>simp_all
theorem un_sh{ps:List Zl}(h:qs.map Gs=ps.map Gs)(b:Int):(qs.map (shG b)).map Gs=(ps.map (shG b)).map Gs:=by
 induction qs generalizing ps with
 | nil=>cases ps with
  | nil=>rfl
  | cons p ps=>cases h
 | cons q qs f=>cases ps with
  | nil=>cases h
  | cons p ps=>
   rw [bZ,bZ]at h;injection h with h1 h2;rw [bZ,bZ,bZ,bZ,f h2];congr 1;unfold Gs at h1 ⊢;unfold shG;simp only [Prod.mk.injEq]at h1 ⊢;obtain⟨a,c,d,e⟩:=h1;exact⟨⟨by rw [a],by rw [a],by rw [a]⟩,c,d,e⟩
theorem sh_bd{ps:List Zl}(f:∀g∈ps,Gin g)(c:Xl ps=true)(h:qs.map Gs=ps.map Gs)(d:k<qs.length):0<=(qs.getD k G0).1.1/\(qs.getD k G0).1.1<(qs.getD k G0).1.2.1/\(qs.getD k G0).1.2.1<=3600000:=by
 have a:k<ps.length:=by rw [<-Ygt h];exact d
 have e:(qs.getD k G0).1=(ps.getD k G0).1:=aH (λu:Zof=>u.1) (un_gd h k);have s:SgG (ps.getD k G0):=Lo (f _ (Zd a)) (Ew ((Nd c).1 _ a));rw [e];exact⟨s.t1,s.t2,s.t3⟩
theorem sp_bd{ps:List Zl}(c:∀g∈ps,Gin g)(a:Xl ps=true):0<=spF ps/\spF ps<=3600000/\0<=spL ps/\spL ps<=3600000:=by have e:=(Nd a).2.1;have s:SgG (ps.getD 0 G0):=Lo (c _ Zd) (Ew ((Nd a).1 _ O));have t:SgG (ps.getD (ps.length-1) G0):=Lo (c _ Zd) (Ew ((Nd a).1 _ O));have d:=s.t1;have f:=s.t2;have h:=s.t3;have t1:=t.t1;have t2:=t.t2;have t3:=t.t3;unfold spF spL;exact⟨d,O,O,t3⟩
theorem Yae(h:qs.map Gs=([Aa s].map (shG 1000)).map Gs):∃t,qs=[gvL t]:=by have c:=aH List.length h;rw [aP,aP,aP]at c;obtain⟨q,rfl⟩:=List.length_eq_one_iff.1 c;have h:[Gs q]=[Gs (shG 1000 (Aa s))]:=h;injection h with h;obtain⟨a,⟨d,e⟩,⟨f,g⟩,⟨i,j⟩⟩:=q;have h:(a,e,g,j)=((0+1000,1000+1000,1),Dt 0 1000 1,Dt 0 0 1,Dt 0 0 1):=h;simp only [Prod.mk.injEq]at h;obtain⟨rfl,rfl,rfl,rfl⟩:=h;exact⟨(d,f,i),rfl⟩
theorem Yrv{ps:List Zl}(h:zs.map Gs=(ps.take k).map Gs)(a:k<ps.length) :
  (zs ++ [(((ps.getD k G0).1,(s.1,(ps.getD k G0).2.1.2),(s.2.1,(ps.getD k G0).2.2.1.2),(s.2.2,(ps.getD k G0).2.2.2.2)):Zl)]).map Gs=(ps.take (k+1)).map Gs:=by
 have c:ps.take (k+1)=ps.take k ++ [ps.getD k G0]:=by rw [mF,aM a,aE,aM a];rfl
 rw [c,dL,dL,h];rfl
def ShR(ps:List Zl)(y:Int)(zs:List Zl)(e:Int):Prop:=(e=3/\(y < -(spF ps)\/y>3600000-spL ps))\/(e=0/\¬y < -(spF ps)/\¬y>3600000-spL ps/\zs.map Gs=(ps.map (shG y)).map Gs)
open Go.Proofs.Tryz
open Go.Proofs
set_option synthInstance.maxHeartbeats 0
set_option synthInstance.maxSize 100000
set_option maxRecDepth 20000
set_option linter.unusedSimpArgs false
theorem Zst(h:xs.length*8<=140737488355328):Yn5 prog 182 #[v] [Yx 1 Yi v xs] (G:=Value) (λr=>True) (λr=>r) (λr=>Oa 1 3 Yi r xs):=by
 refine Zs1 func182 J ntmps182 J K1 ?_;intro l j e f;have e:=Hw.mk e;simp only [Pa,Xb];refine Pg (Ylr (i:=1) J Zr) λd=>go 9 ?_;refine dt (Zsi J J J (i:=1) J Zr Pp)<|go 2 ?_;refine Md J (λc=>?_) (λc=>?_)
 .refine go 7 ?_;obtain rfl:xs=[]:=d (by simpa using c);exact Zs (Qy 9 1 3 Yi)<|Zhw (.inl J) (.slice none 0 0) (λa w hs=>Zb6 hs results182 J) J aA J 9 J J J
 .refine go 4 ?_;refine tt (Yg3 2 (enc:=Yi) J J J Pp pZ J e.h) λv _=>go 1 ?_;refine tt (Px 2 1 8 J J J J J J O3 J Zr Pp ti3 J pZ J J J O8 O3 J e.h) λg _=>go 4 ?_;exact Zhw (.inl J) _ (λa w hs=>Zb6 hs results182 J) J aA J 2 J (by rfl) J
theorem Yo1{ps:List Zl}(I:∀g∈ps,Gin g)(u:Xl ps=true):CalM prog 122 #[v] [Xs 6 Qj qG v ps] (G:=Value×List Zl) (λr=>r.2.map Gs=ps.map Gs) (λr=>r.1) (λr=>Oa 6 35 Qj r.1 r.2) (λr=>Nj qG r.2):=by
 refine Ysh func122 J ntmps122 J K1 ?_;intro W V e n;have e:=Hw.mk e;simp only [Pa,Xb];refine Pg (Mh (i:=1) J Zc) (λx=>?_);have H:=(Nd u).2.2;refine go 19 ?_;refine Zg (Qy 74 6 35 Qj)<|Zg (Yo qG 76)<|lp (G:=Nat×Value×List Zl) [6,7] [0,1] (λq=>[(8,.int .i64 (q.1:Int)),(3,q.2.1)]) (λq=>[(74,Oa 6 35 Qj q.2.1 q.2.2),(76,Nj qG q.2.2)]) (λq=>(q.1<=ps.length)/\(q.2.2.map Gs=(ps.take q.1).map Gs)/\(q.2.2.length=q.1)) (λq=>ps.length-q.1) (0,.slice none 0 0,[]) ⟨O1,rfl,rfl⟩ K2 K2 ?_;rintro⟨k,R,zs⟩ ⟨y,c,m⟩;dsimp only at y c m;dsimp only;refine go 6 ?_;refine Ze J (λl=>?_) (λl=>?_)
 .refine go 5 ?_;refine Zg (Pm (ps.getD k G0) ((ps.getD k G0).2.1) 1 51 J J Zd O7)<|Zg (Pm (ps.getD k G0) ((ps.getD k G0).2.2.1) 1 52 J J Zd O7)<|Zg (Pm (ps.getD k G0) ((ps.getD k G0).2.2.2) 1 53 J J Zd O7) ?_;have d:SgG (ps.getD k G0):=Lo (I _ Zd) (Ew ((Nd u).1 _ O));have B:(ps.getD k G0).2.1.2.length<=6:=(d.lc 0).2;have D:(ps.getD k G0).2.2.1.2.length<=6:=(d.lc 1).2;have F:(ps.getD k G0).2.2.2.2.length<=6:=(d.lc 2).2;refine go 1 ?_;refine dt (Zv 1 k J J J J Zc Ln Ix J)<|dt (Yz 1 G0 J J J Zc pG)<|Ym (Ya 2) λS _=>go 4 ?_;refine Ku (λ_=>False) [10,11,12,13,14]<|Zj 8 [(0,0),(1,0),(3,0),(4,0),(6,0),(7,0),(2,1)]<|go 6 ?_;refine Kr J (Zd3 3 (Zst O) J J J K1 call182 (Zk 51 J J J Zn) J e.h) λv _=>go 1 ?_;refine Zdv (Xn 3 J J pZ)<|Zoe (Xe 3 J Zr) (λf o=>?_);subst o;refine Zj 6 [(9,0),(5,1)]<|go 1 ?_;refine Kr J (Zd3 4 (Zst O) J J J K1 call182 (Zk 52 J J J Zn) J e.h) λM _=>go 1 ?_;refine Zdv (Xn 4 J J pZ)<|Zoe (Xe 4 J Zr) (λh p=>?_);subst p;refine Zj 5 [(8,1)]<|Kr J (Zd3 5 (Zst O) J J J K1 call182 (Zk 53 J J J Zn) J e.h) λN _=>go 1 ?_;refine Zdv (Xn 5 J J pZ)<|Zoe (Xe 5 J Zr) (λj t=>?_);subst t;refine Zj 0 [(10,3),(11,3),(12,3),(13,3),(14,3)]<|go 6 ?_;refine Zt<|go 4 ?_;refine tt (Xv [(0,_)] 6 (enc:=Qj) [((((ps.getD k G0).1,(f,(ps.getD k G0).2.1.2),(h,(ps.getD k G0).2.2.1.2),(j,(ps.getD k G0).2.2.2.2)):Zl))] J J K2 Ln ti35 J J Zir J J pG.cells J J e.h) (λP _=>?_);refine tt (Px 74 6 96 J J J J J J O3 J (Yb pG) Ln ti35 J pG J J J O8 O3 J e.h) (λQ _=>?_);refine go 8 ⟨O,?_⟩;exact Zs (Yo qC 71)<|Zs (Zp (q:=qC) (z:=((((ps.getD k G0).1,(f,(ps.getD k G0).2.1.2),(h,(ps.getD k G0).2.2.1.2),(j,(ps.getD k G0).2.2.2.2)):Zl)).2.1) 71 3 71 J J J J J)<|Zs (Zp (q:=qC) (z:=((((ps.getD k G0).1,(f,(ps.getD k G0).2.1.2),(h,(ps.getD k G0).2.2.1.2),(j,(ps.getD k G0).2.2.2.2)):Zl)).2.2.1) 71 4 71 J J J J J)<|Zs (Zp (q:=qC) (z:=((((ps.getD k G0).1,(f,(ps.getD k G0).2.1.2),(h,(ps.getD k G0).2.2.1.2),(j,(ps.getD k G0).2.2.2.2)):Zl)).2.2.2) 71 5 71 J J J J J)<|Zs (Zp (q:=qG) (z:=((((ps.getD k G0).1,(f,(ps.getD k G0).2.1.2),(h,(ps.getD k G0).2.2.1.2),(j,(ps.getD k G0).2.2.2.2)):Zl))) 76 71 76 J J J J J)<|Yh (k+1,_,zs ++ [((((ps.getD k G0).1,(f,(ps.getD k G0).2.1.2),(h,(ps.getD k G0).2.2.1.2),(j,(ps.getD k G0).2.2.2.2)):Zl))]) ⟨O1,Yrv (s:=(f,h,j)) c O,by rw [aS,m];rfl⟩ O1 K2 K2
 .obtain rfl:k=ps.length:=O;refine go 12 ?_;exact Yn7 (.inl J) n (R,zs) (λa w hs=>Zb6 hs results122 J) J (by rw [bK]at c;exact c) J 74 J J J 76 J J J J
theorem Zt6(ps:List Zl)(a:Int)(h:∀g∈ps,Gin g)(f:Xl ps=true)(o:¬a < -(spF ps))(p:¬a>3600000-spL ps):Cal prog 59 #[v,.int .i64 a] [Xs 6 Qj qG v ps] true (G:=Value×List Zl) (λg=>g.2.map Gs=(ps.map (shG a)).map Gs) (λg=> .tuple #[g.1,.int .i64 0]) (λg=>[Xs 6 Qj qG g.1 g.2]):=by
 refine Zh func59 ntmps59 λH F m l=>?_;obtain⟨y,z,B,D⟩:=sp_bd h f;refine go 9 ?_;refine cl 1 [1] (Yo0 h f) λ_ _=>go 14 ?_;refine kf (aN O3)<|go 8 ?_;refine dt (Ymd J J)<|kf (aN o)<|go 4 ⟨O,?_⟩;refine kfg (aN p)<|go 11 ?_;refine tt (Yop (n:=2) (Yo1 h f) J J J K1 call122 (Zk 1 J J J Zn) J m.h) λc d=>go 12 ?_;refine Zg (Np 2 (q:=Oa 6 35 Qj c.1 (shK a c.2 0)) (by rw [shK_0]) J J) ?_;have u:=Ygt d;have t:=(Nd f).2.2;refine lp (G:=Nat) [1,9,35] [0,1,3] (λk=>[(36,.int .i64 (k:Int))]) (λk=>[(2,Oa 6 35 Qj c.1 (shK a c.2 k))]) (λk=>k<=c.2.length) (λk=>c.2.length-k) 0 O1 K1 K1 ?_;rintro k x;refine go 6 ?_;refine Ze J (λe=>?_) (λe=>?_)
 .refine go 11 ?_;have w:=Om a c.2 k;have r:=sh_bd h f d (k:=k) O;have i:(shK a c.2 k).getD k G0=c.2.getD k G0:=Zqd O;have j:((shK a c.2 k).set k (shA a ((shK a c.2 k).getD k G0))).getD k G0=shA a (c.2.getD k G0):=Yo5 O;refine go 3 ?_;refine dt (Zv 2 k J J J J (Yb pG) Ln Ix J (by first|(rw [bI,Om];omega)|(rw [Om];omega)))<|dt (Li 2 J J J (Yb pG) Ds J Kv J (by first|(rw [bI,Om];omega)|(rw [Om];omega)))<|dt (Lx 2 G0 J J J (Yb pG) iA3 J (by first|(rw [bI,Om];omega)|(rw [Om];omega)))<|go 2 ⟨by rw [i];exact⟨O,O⟩,?_⟩;refine dt (Zv 2 k J J J J (Yb pG) Ln Ix J (by first|(rw [bI,Om];omega)|(rw [Om];omega)))<|dt (Li 2 J J J (Yb pG) Ds J Kv J (by first|(rw [bI,Om];omega)|(rw [Om];omega)))<|tt (t_stf 2 (enc:=Qj) (shA a ((shK a c.2 k).getD k G0)) G0 J J J J J O3 pG (by first|(rw [bI,Om];omega)|(rw [Om];omega)) Kv J O3 J J m.h) λ_ _=>go 5 ?_;refine dt (Zv 2 k J J J J (Yb pG) Ln Ix J (by first|(rw [bI,Om];omega)|(rw [Om];omega)))<|dt (Li 2 J J J (Yb pG) Ds J Kv J (by first|(rw [bI,Om];omega)|(rw [Om];omega)))<|dt (Lx 2 G0 J J J (Yb pG) iA3 J (by first|(rw [bI,Om];omega)|(rw [Om];omega)))<|go 2 ⟨by rw [j];exact⟨O9,O9⟩,?_⟩;refine dt (Zv 2 k J J J J (Yb pG) Ln Ix J (by first|(rw [bI,Om];omega)|(rw [Om];omega)))<|dt (Li 2 J J J (Yb pG) Ds J Kv J (by first|(rw [bI,Om];omega)|(rw [Om];omega)))<|tt (t_stf 2 (enc:=Qj) (shB a (((shK a c.2 k).set k (shA a ((shK a c.2 k).getD k G0))).getD k G0)) G0 J J J J J O3 pG (by first|(rw [bI,Om];omega)|(rw [Om];omega)) Kv J O3 J J m.h) (λ_ _=>?_);refine go 7 ⟨O,?_⟩;exact Yh (k+1) O1 O1 K1 ⟨by rw [shK_s O];rfl,aA⟩
 .obtain rfl:k=c.2.length:=O;refine go 13 ?_;exact Zs (Np 2 (q:=Oa 6 35 Qj c.1 (c.2.map (shG a))) (by rw [Yo4]) J J)<|Zs (Np 3 (q:=Nj qG (c.2.map (shG a))) (Yqm a c.2) J J)<|Zs (Xn 2 J J pG)<|Zs (Xw 2 3 78 J J J J)<|Nx l (c.1,c.2.map (shG a)) results59 J (un_sh d a) (Ps 78 Za)
abbrev S3T:=SL×SL×SL
abbrev GvT:=(S3T×S3T×S3T)×(SL×SL×SL)
def gvs(q:GvT):List PT:=[(q.2.1,[Aa q.1.1]),(q.2.2.1,[gv1 q.1.2.1]),(q.2.2.2,[gv2 q.1.2.2])]
theorem Zkp{fr j d e f h c i k:Int}{s:S3T}(l:Nz fr)(m:Nz j)(n:∀a∈Dt d h k,Nz a)(o:∀a∈Dt e c k,Nz a)(p:∀a∈Dt f i k,Nz a):∀g∈[Ykw fr j d e f h c i k s],Gin g:=λg q=>by rw [bO.1 q];exact⟨l,m,show Nz (1:Int)from⟨O3,O3⟩,n,o,p⟩
def Zjw{s:S3T}:∀g∈[Aa s],Gin g:=Zkp ⟨O3,O3⟩ ⟨O3,O3⟩ (Ow O3) (Ow O3) (Ow O3)
def Yfx{s:S3T}:∀g∈[gv1 s],Gin g:=Zkp ⟨O3,O3⟩ ⟨O3,O3⟩ (Ow O3) (Ow O3) (Ow O3)
def gg_2{s:S3T}:∀g∈[gv2 s],Gin g:=Zkp ⟨O3,O3⟩ ⟨O3,O3⟩ (Ow O3) (Ow O3) (Ow O3)
def gg_L{s:S3T}:∀g∈[gvL s],Gin g:=Zkp ⟨O3,O3⟩ ⟨O3,O3⟩ (Ow O3) (Ow O3) (Ow O3)
theorem Zrv{q:GvT}{x:PT}(h:x∈gvs q):x=(q.2.1,[Aa q.1.1])\/x=(q.2.2.1,[gv1 q.1.2.1])\/x=(q.2.2.2,[gv2 q.1.2.2]):=by unfold gvs at h;simpa using h
theorem gvs_P{q:GvT}:∀x∈gvs q,∀g∈x.2,Gin g:=λx a=>by
 rcases Zrv a with rfl|rfl|rfl
 .exact Zjw
 .exact Yfx
 .exact gg_2
theorem gvs_V{q:GvT}:Zf1 (gvs q)=true:=cP.2 λx a=>by
 rcases Zrv a with rfl|rfl|rfl
 .exact Zjv _
 .exact Yfu _
 .exact gp_2 _
theorem gvs_L{q:GvT}:∀x∈gvs q,x.2.length<=5:=λx a=>by rcases Zrv a with rfl|rfl|rfl<;>exact(by decide:(1:Nat)<=5)
theorem gvs_n{q:GvT}:(gvs q).length<=64:=(by decide:(3:Nat)<=64)
theorem gcl_0(q:GvT):ClR 300 1 1 (gvs q) ((0,0,0,0),false,0):= .inl ⟨rfl,λj k d a e=>by
 have a:k<3:=a;have c:(j=0/\k=1)\/(j=0/\k=2)\/(j=1/\k=2):=O;rcases c with⟨rfl,rfl⟩|⟨rfl,rfl⟩|⟨rfl,rfl⟩
 .exact Ylc _ _
 .exact ga_5 _ _
 .exact ga_6 _ _⟩
theorem gcl_1(q:GvT):ClR 301 1 1 (gvs q) ((0,1,0,1000),true,0):=by refine .inr ⟨0,1,O3,(by decide:(1:Nat)<3),clA_0,clB_0,ga_2 _ _,?_⟩;have a:Cb (Mg 301 1 1 (pth (gvs q) 0) (pth (gvs q) 1))=(0,1000,true):=gf_3 _ _;have c:Iv (pth (gvs q) 0) (pth (gvs q) 1)=0:=Yfy _ _;unfold clV;rw [a,c];rfl
def gnr_L{s t:S3T}:NrP [Aa s] [gvL t] (0,9):= .inr (.inl ⟨ge_L s t,gz_L s t,rfl⟩)
theorem Ykb{α:Type}{l:List α}(h:l.isEmpty=false):l≠[]:=λe=>by rw [e]at h;cases h
def gsp_0(s:S3T):spF [Aa s]=0:=rfl
def gsl_0(s:S3T):spL [Aa s]=1000:=rfl
theorem Yfs{a c:Int}(e:Nz a)(f:Nz b)(g:Nz c):∀x∈[a,b,c],Nz x:=λx d=>by simp only [bE,dX,iF]at d;rcases d with rfl|rfl|rfl<;>assumption
theorem Zz6{l:List Int}(d:∀x∈l,Nz x)(f:l.length<=1000)(a:Zb gs=tzl l):Sz 1000000 (Zb gs)/\gs.length<=1000:=by have c:=aH List.length a;rw [Zi]at c;have e:=Mj l;refine⟨?_,O⟩;rw [a];exact(Sz.tzl (Zj6 d)).mono O
end Go.Sky

