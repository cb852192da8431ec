/- Rules, arithmetic and contracts: part 20. No conditions but those that each theorem names. -/
import Derived.Test.YteikicbnfbgpnaaGreatEb18
set_option linter.all false
set_option maxHeartbeats 4000000
namespace Go.Sky
def lastB(ps:List Zj)(t:Int):Bool:=decide (spF ps<=t) && decide (t<=spL ps)
def exI(ps:List Zj)(t:Int):Nat:=ps.findIdx λg=>decide (t<=g.1.2.1)
def exA(ps:List Zj)(t:Int):Int:=t-(ps.getD (exI ps t) G0).1.1
def exD(ps:List Zj)(t:Int):Int:=(ps.getD (exI ps t) G0).1.2.1-(ps.getD (exI ps t) G0).1.1
def exO(ps:List Zj)(t:Int):Int:=(ps.getD (exI ps t) G0).1.2.2*exD ps t^5/gS (ps.getD (exI ps t) G0).1.2.2 (exA ps t) (exD ps t) (ps.getD (exI ps t) G0).2.1.2 (ps.getD (exI ps t) G0).2.2.1.2 (ps.getD (exI ps t) G0).2.2.2.2 3
def exL(ps:List Zj)(t:Int):List Int:=Zmy ((ps.getD (exI ps t) G0).1.2.2*exD ps t^5) (mk 3 (plC (exA ps t) (exD ps t) (ps.getD (exI ps t) G0).2.1.2 (ps.getD (exI ps t) G0).2.2.1.2 (ps.getD (exI ps t) G0).2.2.2.2))
section
variable {P:Program} {N:Nat} {sc:Nat->Prop} {env:Ph} {H:Hp}
end
end Go.Sky
namespace Go.Sky
def exC(ps:List Zj)(t:Int)(c:List Int):Int:=pl c (exA ps t) (exD ps t)/gS (ps.getD (exI ps t) G0).1.2.2 (exA ps t) (exD ps t) (ps.getD (exI ps t) G0).2.1.2 (ps.getD (exI ps t) G0).2.2.1.2 (ps.getD (exI ps t) G0).2.2.2.2 3
def spX(g:Zj)(i:Nat)(s:Rat):Rat:=Zd (Zo i g.2.1.2 g.2.2.1.2 g.2.2.2.2) s
def exN(ps:List Zj)(t:Int)(i:Nat):Int:=exC ps t (Zo i (ps.getD (exI ps t) G0).2.1.2 (ps.getD (exI ps t) G0).2.2.1.2 (ps.getD (exI ps t) G0).2.2.2.2)
def rdN(ps:List Zj)(t:Int)(i:Nat):Int:=(exN ps t i+exN ps t i+exO ps t)/(exO ps t+exO ps t)
def rdL(ps:List Zj)(t:Int):Nat->List Int
 | 0=>[0,0,0]
 | i+1=>(rdL ps t i).set i (rdN ps t i)
structure AtB (n o:Int):Prop where
 b1:bl n.natAbs<=30000
 b2:bl o.natAbs<=30000
 n2:bl (n+n).natAbs<=30000
 o2:bl (o+o).natAbs<=30000
 s:bl (n+n+o).natAbs<=30000
 z:o+o≠0
 q:((n+n+o)/(o+o)).natAbs<=9223372036854775807
section
variable {P:Program} {N:Nat} {sc:Nat->Prop} {env:Ph} {H:Hp}
end
end Go.Sky
namespace Go.Sky
def SmP(g:Zj)(s:Rat)(h:Zj)(u:Rat):Prop:=∀i,i<3->spX g i s*(h.1.2.2:Rat)=spX h i u*(g.1.2.2:Rat)
def SmP.symm{g h:Zj}{s u:Rat}(e:SmP g s h u):SmP h u g s:=λi hi=>(e i hi).symm
def SmP.trans{g h k:Zj}{s u v:Rat}(a:(h.1.2.2:Rat)≠0)(e:SmP g s h u)(f:SmP h u k v):SmP g s k v:=λi hi=>by
 have b:=e i hi;have c:=f i hi;have:(spX g i s*(k.1.2.2:Rat)-spX k i v*(g.1.2.2:Rat))*(h.1.2.2:Rat)=0:=O4;rcases Rat.mul_eq_zero.1 this with q|q
 .grind
 .exact absurd q a
def sTm(g:Zj)(t:Int):Rat:=((t-g.1.1:Int):Rat)/((g.1.2.1-g.1.1:Int):Rat)
def cvS{D:Int}{a b:List Zj}(e:∀g∈a,Gin g)(f:∀g∈b,Gin g)(c:Xn a=true)(d:Xn b=true)(h:dsB D=true):∀g∈Nl D 1 1 a b,Cvd g.2.2:=Yjs e f c d h (Zsb (Mj a b a)) (Zsb (Mj a b b))
section
variable {D n d:Int} {a b:List Zj} (hpa:∀g∈a,Gin g) (hpb:∀g∈b,Gin g) (hba:Xn a=true) (hbb:Xn b=true) (hz:znB D n d=true)
include hpa hpb hba hbb hz
end
end Go.Sky
namespace Go.Sky
variable{h:Int×Int}{D:Int}{i m:Nat}{zs:List GpT}
def NrP(a b:List Zj)(g:Int×Int):Prop:=
 (Ip a b≠0/\g=(0,Ip a b))\/(Ip a b=0/\Nl 0 1 1 a b=[]/\g=(0,9))\/
  (Ip a b=0/\Nl 0 1 1 a b≠[]/\g.2=0/\0<=g.1/\g.1<=4194304/\∀k,1<=k->k<=4194304->Ba k 1 1 a b=decide (k<=g.1))
theorem Ztz{a b:List Zj}{g:Int×Int}(c:NrP a b g)(r:NrP a b h):g=h:=by
 rcases c with⟨c,rfl⟩|⟨c,k,rfl⟩|⟨c,k,s,w,x,p⟩<;>rcases r with⟨d,rfl⟩|⟨d,j,rfl⟩|⟨d,j,q,u,v,o⟩
 .rfl
 .exact absurd d c
 .exact absurd d c
 .exact absurd c d
 .rfl
 .exact absurd k j
 .exact absurd c d
 .exact absurd j k
 .obtain⟨n,e⟩:=g;obtain⟨m,t⟩:=h;dsimp only at *;subst s q;rcases Int.lt_trichotomy n m with h|h|h
  .have l:=p m O O;have f:=o m O O;rw [l,decide_eq_true (Int.le_refl m)]at f;have:=of_decide_eq_true f;omega
  .rw [h]
  .have l:=p n O O;have f:=o n O O;rw [l,decide_eq_true (Int.le_refl n)]at f;have:=of_decide_eq_true f.symm;omega
section
variable {a b:List Zj} (hpa:∀g∈a,Gin g) (hpb:∀g∈b,Gin g) (hba:Xn a=true) (hbb:Xn b=true)
include hpa hpb hba hbb
theorem ap_dn{E:Int}(c:0<=E)(d:E<=D)(e:D<=4194304)(h:Ba D 1 1 a b=true):Ba E 1 1 a b=true:=
 Ypy (cvS hpa hpb hba hbb (by unfold dsB;rw [decide_eq_true O,decide_eq_true O];rfl)) (cvS hpa hpb hba hbb (by unfold dsB;rw [decide_eq_true O,decide_eq_true O];rfl)) c d O2 O2 h
end
def NrS(a b:List Zj)(r:Nat):Prop:=r<=4194304/\(∀k,k<r->Ba ((k:Int)+1) 1 1 a b=true)/\∀k,r<=k->k<4194304->Ba ((k:Int)+1) 1 1 a b=false
def Ynj{a b:List Zj}{j:Nat}(l:i<=j/\j<=4194304)(f:¬i<j)(d:∀k,k<i->Ba ((k:Int)+1) 1 1 a b=true)(e:∀k,j<=k->k<4194304->Ba ((k:Int)+1) 1 1 a b=false):NrS a b i:=
 ⟨O,d,λk n c=>e k O c⟩
theorem nr_end{a b:List Zj}(q:zs.map unP=Nl 0 1 1 a b)(c:¬Ip a b≠0)(o:¬zs.length=0)(h:NrS a b i):NrP a b ((i:Int),0):=by
 obtain⟨r,d,j⟩:=h;refine .inr (.inr ⟨Decidable.not_not.1 c,λe=>o ?_,rfl,O9,O9,λk l n=>?_⟩)
 .rw [<-List.length_map (f:=unP),q,e];rfl
 .obtain⟨m,rfl⟩:∃m:Nat,k=(m:Int)+1:=⟨(k-1).toNat,O⟩;by_cases p:m<i
  .rw [d m p,decide_eq_true O9]
  .rw [j m O O,decide_eq_false O9]
theorem ds_in{k:Int}(c:0<=k)(d:k<=4194304):dsB k=true:=by unfold dsB;rw [decide_eq_true c,decide_eq_true d];rfl
section
variable {a b:List Zj} (hpa:∀g∈a,Gin g) (hpb:∀g∈b,Gin g) (hba:Xn a=true) (hbb:Xn b=true)
include hpa hpb hba hbb
theorem nrS_t(d:m<4194304)(h:Ba ((m:Int)+1) 1 1 a b=true)(k:Nat)(c:k<m+1):Ba ((k:Int)+1) 1 1 a b=true:=ap_dn hpa hpb hba hbb (D:=(m:Int)+1) O O O h
theorem nrS_f(h:Ba ((m:Int)+1) 1 1 a b=false)(k:Nat)(d:m<=k)(c:k<4194304):Ba ((k:Int)+1) 1 1 a b=false:=by
 cases hc:Ba ((k:Int)+1) 1 1 a b with
 | false=>rfl
 | true=>rw [ap_dn hpa hpb hba hbb (D:=(k:Int)+1) (E:=(m:Int)+1) O O O hc]at h;cases h
end
theorem Yni{a b:List Zj}(e:zs.map unP=Nl 0 1 1 a b)(c:¬Ip a b≠0)(d:zs.length=0):NrP a b (0,9):=by refine .inr (.inl ⟨Decidable.not_not.1 c,?_,rfl⟩);rw [<-e,List.eq_nil_of_length_eq_zero d];rfl
theorem nr_is{a b:List Zj}{g:Int×Int}{n:Int}(h:NrP a b g)(j:Ip a b=0)(p:Nl 0 1 1 a b≠[])(s:1<=n/\n<4194304)(k:Ba n 1 1 a b=true)(l:Ba (n+1) 1 1 a b=false):g=(n,0):=by
 rcases h with⟨h,-⟩|⟨-,h,-⟩|⟨-,-,o,q,r,c⟩
 .exact absurd j h
 .exact absurd h p
 .obtain⟨m,e⟩:=g;dsimp only at *;subst o;have d:=c n O O;have f:=c (n+1) O O;rw [k]at d;rw [l]at f;have t:=of_decide_eq_true d.symm;have u:=of_decide_eq_false f.symm;rw [show m=n by omega]
theorem wt_9{a b:List Zj}{g:R2×Int}(h:WtP D a b g)(c:Ip a b=0)(d:Ba D 1 1 a b=true):g=((0,0),9):=by
 rcases h with⟨h,-⟩|⟨-,-,h⟩|⟨-,h,-⟩
 .exact absurd c h
 .exact h
 .rw [d]at h;cases h
def Yh1(fr n d e f j c l k:Int)(s:SL×SL×SL):Zj:=((fr,n,1),(s.1,Ez d j k),(s.2.1,Ez e c k),(s.2.2,Ez f l k))
def Bg(s:SL×SL×SL):Zj:=Yh1 0 1000 0 0 0 1000 0 0 1 s
def gv1(s:SL×SL×SL):Zj:=Yh1 0 1000 1000 300 0 0 300 0 1 s
def gv2(s:SL×SL×SL):Zj:=Yh1 500 2000 0 700 0 0 700 0 2 s
def gvL(s:SL×SL×SL):Zj:=Yh1 1000 2000 0 0 0 1000 0 0 1 s
def gf_1:fmZ 300 1 1 1 1 (Ez 0 1000 1) (Ez 0 0 1) (Ez 0 0 1) (Ez 1000 0 1) (Ez 300 300 1) (Ez 0 0 1)=tzl [1,-4,4]:=O6
def gf_2:fmZ 400 1 1 1 1 (Ez 0 1000 1) (Ez 0 0 1) (Ez 0 0 1) (Ez 1000 0 1) (Ez 300 300 1) (Ez 0 0 1)=tzl [93,-400,400]:=O6
def gs_0:Ci 0 1000 1 (Ez 0 1000 1) (Ez 0 0 1) (Ez 0 0 1)=true:=O6
def gs_1:Ci 0 1000 1 (Ez 1000 0 1) (Ez 300 300 1) (Ez 0 0 1)=true:=O6
section
variable (s t:SL×SL×SL)
def Ziv:Xn [Bg s]=true:=O5
def Yc9:Xn [gv1 s]=true:=O5
def gp_2:Xn [gv2 s]=true:=O5
def gp_L:Xn [gvL s]=true:=O5
def Ydd:Ip [Bg s] [gv1 t]=0:=O5
def ge_2:Ip [Bg s] [gv2 t]=0:=O5
def ge_L:Ip [Bg s] [gvL t]=0:=O5
def gz_L:Nl 0 1 1 [Bg s] [gvL t]=[]:=O5
def gz_1:(Nl 0 1 1 [Bg s] [gv1 t]).isEmpty=false:=O5
def gz_2:(Nl 0 1 1 [Bg s] [gv2 t]).isEmpty=false:=O5
def Yii:Ba 300 1 1 [Bg s] [gv1 t]=true:=O5
def ga_2:Ba 301 1 1 [Bg s] [gv1 t]=false:=O5
def ga_3:Ba 860 1 1 [Bg s] [gv2 t]=true:=O5
def ga_4:Ba 861 1 1 [Bg s] [gv2 t]=false:=O5
def ga_5:Ba 300 1 1 [Bg s] [gv2 t]=true:=O5
def ga_6:Ba 300 1 1 [gv1 s] [gv2 t]=true:=O5
def gz_3:Nl 860 1 1 [Bg s] [gv2 t]=[(500,1000,tzl [1,1250,625])]:=O5
def gf_3:Zaj (Nl 301 1 1 [Bg s] [gv1 t])=(0,1000,true):=O5
end
end Go.Sky
namespace Go.Sky
open Go.Proofs.Tryz
open Go.Proofs
set_option synthInstance.maxHeartbeats 0
set_option synthInstance.maxSize 100000
set_option maxRecDepth 20000
set_option maxHeartbeats 1000000
set_option linter.unusedSimpArgs false
variable{u:Value}{M0:Nat->Prop}
theorem Ag(x:Int)(b:Ng x):Qf prog 98 #[.int .i64 x,.int .i64 1] [] (.agg #[.bool (decide (x<0)),.string (Qh (x).natAbs),.bool (decide ((1:Int)<0)),.string (Qh ((1:Int)).natAbs)]):=by refine Zg func98 ntmps98 λg f e a=>go 2 ?_;refine Yk (Zy 1) λd _=>go 6 ?_;refine cl 1 [] (Ze4 x 1 b ⟨O2,O2⟩ O2) λ_ _=>go 3 ?_;refine Yk (Zy 2) λc _=>go 11 ?_;exact Xu a () results98 (by rw [(Yfz b).1,(Yfz b).2]) trivial Za
theorem Yfl(va vb:Value)(F H:List Zj)(W:Int)(y:∀g∈F,Gin g)(S:∀g∈H,Gin g)(v:Xn F=true)(R:Xn H=true)(Y:F.length<=5)(Z:H.length<=5)(V:dsB W=true):Cal prog 43 #[va,vb,.int .i64 W] [Xt 6 Qe qG va F,Xt 6 Qe qG vb H] false (G:=R2×Int) (λg=>WtP W F H g) (λg=>wtV g) (λg=>[]):=by
 refine Zjr func43 J ntmps43 J K2 ?_;intro w0 sc hw z;have hw:=Hw.mk hw;simp only [Qs,Yv];refine go 2 ?_;refine Yk (Zy 3) λP _=>Yk (Zy 4) λe _=>go 7 ?_;refine cl 5 [1,2] (Zfn _ _ _ _ _ y S v R Y Z V) λQ d=>go 14 ?_;refine Zc J (λm=>?_) (λm=>?_)
 .have o:=m;refine go 2 ?_;refine dt (Qq (ivs:=[]) J trivial (λa w hs=>Zx2))<|go 7 ?_;exact fk_of<|Nr z ((0,0),Ip F H) results43 J (.inl ⟨o,J⟩) Za
 .have o:=m;refine go 6 ?_;refine cl 6 [5] (Zwc _ _) λb _=>go 3 ?_;refine Yak (pre:=[Kl b 50 #[Q.1],Xt 3 Gm qGp Q.1 Q.2]) (w0:=w0) (λ(k:Nat) (_:Unit)=>[(0,Yo w0 (λ_=>False)),(3,box P 82 #[.bool false,.string ⟨#[]⟩,.bool false,.string ⟨#[]⟩]),(4,box e 26 #[.int .i64 0])]) (λk _=>k=0) (λ(s:R2)=>[(0,Yo w0 (λ_=>False)),(3,box P 82 #[.bool (decide (s.1<0)),.string (Qh (s.1).natAbs),.bool (decide (s.2<0)),.string (Qh (s.2).natAbs)]),(4,box e 26 #[.int .i64 0])]) (λs=>WtP W F H (s,0)) () J (by intro r w;first|exact enters_of func162 O5 rfl r w|exact call162 r w) (Zov Q.1 Q.2 b (Zq7 y S v R V d)) ?_ (λ_ _=>J) J hw.h J J K3 (λ_ _=>⟨J,J⟩) (λ_=>⟨J,J⟩) (λk x c _ B t l Mf Wa=>?_) J (λ_ t D od=>?_) (λs a0=>?_)
  .intro p hp;simp only [List.mem_cons,List.not_mem_nil,or_false]at hp;rcases hp with rfl|rfl
   .exact⟨J,6,J⟩
   .exact⟨J,5,J⟩
  .refine Zew (env':=[(6,_),(7,_),(27,_),(28,_)]) (H':=[(92,Yo Wa Mf),(100,Yiu (Fnd x.2.2 (qv (0,1)) (qv (1,1)) c)),(0,Yo w0 (λ_=>False)),(3,box P 82 #[.bool false,.string ⟨#[]⟩,.bool false,.string ⟨#[]⟩]),(4,box e 26 #[.int .i64 0])]) (λa w hs=>hs.weaken ⟨J,J,J,J,trivial⟩ ⟨J,J,J,J,J,trivial⟩)<|Iq<|Ir J<|Yk (Zy 7) λa2 _=>go 1 ?_;refine Cn (Zeg ?_);refine Hj<|Ir J<|Yk (Zy 8) λa3 _=>go 1 ?_;refine Cn (Zeg ?_);refine x_ra [(6,_),(7,_),(10,_),(11,_)] [(0,_),(3,_),(4,_),(100,_),(7,_),(8,_)] K4 K7 J (λq h=>by cases h;rfl) ⟨.inr (λb j=>⟨0,_,J,j⟩),.inl J,.inl J,.inr (λb j=>⟨100,_,J,j⟩),.inl J,.inl J,trivial⟩ λWb a7=>?_;refine Yoc (f_fct 100 J) (λf=>?_);have a1:=gap_t y v d (List.mem_filter.1 (List.mem_of_getElem? B)).1;obtain⟨I,M,N⟩:=wt_m a1 f;refine Za1<|Iq<|Zgg [7,8] [13] J<|Zh (n:=8) [(0,0),(1,0),(2,0),(3,0),(4,0),(5,0)]<|go 7 ⟨O,?_⟩;refine Qd (n:=7) 6 11 ?_ ?_
   .refine Po (Zi 8 [] (Ag (x.1.2-x.1.1) ⟨O,O⟩)) λ_ _=>?_;refine Qd (n:=6) 7 11 ?_ ?_
    .refine Po (Zi 8 [] (Ki c.1 c.2 (x.1.2-x.1.1) 1 (Nat.le_trans f.b1 O2) (Nat.le_trans f.b2 O2) (Nat.le_trans (Li ⟨O,O⟩) O2) O6 f.lw.1)) λ_ _=>?_;refine Zh (n:=0) [(8,0),(9,0),(10,0),(11,1),(12,1),(13,3)]<|go 3 ?_;refine Yr (Xx 9) λa4 ho=>go 3 ?_;refine Zp<|Hj<|Iq<|Zgg [7] [] J<|Zh (n:=7) [(1,0),(2,0)]<|go 3 ?_;refine Qd (n:=6) 0 3 ?_ ?_
     .refine Gb J (Zam (Yjn (i:=9) J J J isAgg82 sizeOf82 J J J J) J) (λ_ _=>?_);refine Zh (n:=0) [(3,1),(4,1),(5,0),(6,0),(7,0),(8,1)]<|Yr (Zi 9 [] (Ag x.1.1 ⟨O,O⟩)) λ_ _=>Yr (Zi 9 [] (Kj (wtM x c).1 (wtM x c).2 x.1.1 1 (Nat.le_trans I O2) (Nat.le_trans M O2) (Nat.le_trans (Li ⟨O,O⟩) O2) O6 N)) λ_ _=>go 5 ?_;refine Zp<|Hj<|Iq<|Ir J<|go 3 ?_;refine Cn (Zeg ?_);refine Hj<|Ax<|go 1 ?_;exact Zoj (wtT x c) (Zm1 d o B f) ⟨.inr (λb j=>⟨0,_,J,j⟩),.inl J,.inl J,trivial⟩ K4
     .refine Po (Zi 9 [] (Ag x.1.1 ⟨O,O⟩)) λ_ _=>?_;refine Zh (n:=0) [(0,1),(4,1),(5,0),(6,0),(7,0),(8,1)]<|go 1 ?_;refine Yr (Zi 9 [] (Kj (wtM x c).1 (wtM x c).2 x.1.1 1 (Nat.le_trans I O2) (Nat.le_trans M O2) (Nat.le_trans (Li ⟨O,O⟩) O2) O6 N)) λ_ _=>go 5 ?_;refine Zp<|Hj<|Iq<|Ir J<|go 3 ?_;refine Cn (Zeg ?_);refine Hj<|Ax<|go 1 ?_;exact Zoj (wtT x c) (Zm1 d o B f) ⟨.inr (λb j=>⟨0,_,J,j⟩),.inl J,.inl J,trivial⟩ K4
    .refine Po (Xx 10) λa5 a8=>?_;refine Zh (n:=0) [(7,1),(8,0),(9,0),(10,0),(12,1),(13,3)]<|Yr (Zi 10 [] (Ki c.1 c.2 (x.1.2-x.1.1) 1 (Nat.le_trans f.b1 O2) (Nat.le_trans f.b2 O2) (Nat.le_trans (Li ⟨O,O⟩) O2) O6 f.lw.1)) λ_ _=>go 6 ?_;refine Zp<|Hj<|Iq<|Zgg [7] [] J<|Zh (n:=7) [(1,0),(2,0)]<|go 3 ?_;refine Qd (n:=6) 0 3 ?_ ?_
     .refine Gb J (Zam (Yjn (i:=10) J J J isAgg82 sizeOf82 J J J J) J) (λ_ _=>?_);refine Zh (n:=0) [(3,1),(4,1),(5,0),(6,0),(7,0),(8,1)]<|Yr (Zi 10 [] (Ag x.1.1 ⟨O,O⟩)) λ_ _=>Yr (Zi 10 [] (Kj (wtM x c).1 (wtM x c).2 x.1.1 1 (Nat.le_trans I O2) (Nat.le_trans M O2) (Nat.le_trans (Li ⟨O,O⟩) O2) O6 N)) λ_ _=>go 5 ?_;refine Zp<|Hj<|Iq<|Ir J<|go 3 ?_;refine Cn (Zeg ?_);refine Hj<|Ax<|go 1 ?_;exact Zoj (wtT x c) (Zm1 d o B f) ⟨.inr (λb j=>⟨0,_,J,j⟩),.inl J,.inl J,trivial⟩ K4
     .refine Po (Zi 10 [] (Ag x.1.1 ⟨O,O⟩)) λ_ _=>?_;refine Zh (n:=0) [(0,1),(4,1),(5,0),(6,0),(7,0),(8,1)]<|go 1 ?_;refine Yr (Zi 10 [] (Kj (wtM x c).1 (wtM x c).2 x.1.1 1 (Nat.le_trans I O2) (Nat.le_trans M O2) (Nat.le_trans (Li ⟨O,O⟩) O2) O6 N)) λ_ _=>go 5 ?_;refine Zp<|Hj<|Iq<|Ir J<|go 3 ?_;refine Cn (Zeg ?_);refine Hj<|Ax<|go 1 ?_;exact Zoj (wtT x c) (Zm1 d o B f) ⟨.inr (λb j=>⟨0,_,J,j⟩),.inl J,.inl J,trivial⟩ K4
   .refine Po (Xx 11) λa6 a9=>?_;refine Zh (n:=0) [(6,1),(7,1),(8,0),(9,0),(10,0),(12,1),(13,3)]<|Yr (Zi 11 [] (Ag (x.1.2-x.1.1) ⟨O,O⟩)) λ_ _=>Yr (Zi 11 [] (Ki c.1 c.2 (x.1.2-x.1.1) 1 (Nat.le_trans f.b1 O2) (Nat.le_trans f.b2 O2) (Nat.le_trans (Li ⟨O,O⟩) O2) O6 f.lw.1)) λ_ _=>go 6 ?_;refine Zp<|Hj<|Iq<|Zgg [7] [] J<|Zh (n:=7) [(1,0),(2,0)]<|go 3 ?_;refine Qd (n:=6) 0 3 ?_ ?_
    .refine Gb J (Zam (Yjn (i:=11) J J J isAgg82 sizeOf82 J J J J) J) (λ_ _=>?_);refine Zh (n:=0) [(3,1),(4,1),(5,0),(6,0),(7,0),(8,1)]<|Yr (Zi 11 [] (Ag x.1.1 ⟨O,O⟩)) λ_ _=>Yr (Zi 11 [] (Kj (wtM x c).1 (wtM x c).2 x.1.1 1 (Nat.le_trans I O2) (Nat.le_trans M O2) (Nat.le_trans (Li ⟨O,O⟩) O2) O6 N)) λ_ _=>go 5 ?_;refine Zp<|Hj<|Iq<|Ir J<|go 3 ?_;refine Cn (Zeg ?_);refine Hj<|Ax<|go 1 ?_;exact Zoj (wtT x c) (Zm1 d o B f) ⟨.inr (λb j=>⟨0,_,J,j⟩),.inl J,.inl J,trivial⟩ K4
    .refine Po (Zi 11 [] (Ag x.1.1 ⟨O,O⟩)) λ_ _=>?_;refine Zh (n:=0) [(0,1),(4,1),(5,0),(6,0),(7,0),(8,1)]<|go 1 ?_;refine Yr (Zi 11 [] (Kj (wtM x c).1 (wtM x c).2 x.1.1 1 (Nat.le_trans I O2) (Nat.le_trans M O2) (Nat.le_trans (Li ⟨O,O⟩) O2) O6 N)) λ_ _=>go 5 ?_;refine Zp<|Hj<|Iq<|Ir J<|go 3 ?_;refine Cn (Zeg ?_);refine Hj<|Ax<|go 1 ?_;exact Zoj (wtT x c) (Zm1 d o B f) ⟨.inr (λb j=>⟨0,_,J,j⟩),.inl J,.inl J,trivial⟩ K4
  .refine dt (Qq (ivs:=[]) J trivial (λa w hs=>Zx2))<|go 3 ?_;refine Ybs λa w hs=>⟨J,[(6,.pointer (some ⟨P,0,none⟩)),(7,.pointer (some ⟨e,0,none⟩))],[(0,Yo w0 (λ_=>False)),(3,box P 82 #[.bool false,.string ⟨#[]⟩,.bool false,.string ⟨#[]⟩]),(4,box e 26 #[.int .i64 9])],J,⟨⟨_,J,J,λ_ h=>h⟩,⟨_,J,J,λ_ h=>h⟩,⟨_,J,J,λ_ h=>h⟩,trivial⟩,hs.weaken ⟨J,J,trivial⟩ ⟨J,J,J,J,trivial⟩,?_⟩;exact Nr z ((0,0),9) results43 J (wt_no d o t) Za
  .exact Nr z (s,0) results43 J a0 Za
theorem Ycb(n:Nat)(z:Nat)(N:n<=64):Ydu prog 175 [.pointer (some ⟨z,0,none⟩)] [Kl z 3 #[.int .i64 (n:Int)]] (α:=Nat×Nat) (G:=Unit) (prs n) (λc g=>[.int .i64 (c.1:Int),.int .i64 (c.2:Int)]) (λc g=>[]):=by
 refine Zrl func175 J ntmps175 J K1 ?_;intro l M x I w P H o j b s B;simp only [Qs,Yv];have r:=Hw.mk H;refine Yoh<|go 1 ?_;refine Yoi<|go 8 ?_;refine lp (G:=Nat×World) [0,1,5] [1] (λq=>[(6,.int .i64 (q.1:Int))]) (λq=>[(0,Yo q.2 (λ_=>False))]) (λq=>(q.1<=n)/\(x (prU n q.1).length q.2)/\(w.heap.size<=q.2.heap.size)) (λq=>n-q.1) (0,w) ⟨O1,s,Nat.le_refl _⟩ K1 K1 ?_;rintro⟨i,W⟩ ⟨hi,a,d⟩;dsimp only at hi a d;dsimp only;have v:=Zz5 r d;refine go 6 ?_;refine Zc J (λf=>?_) (λf=>?_)
 .refine go 18 ⟨O,?_⟩;refine lp (G:=Nat×World) [0,1,3,5,6] [1] (λq=>[(4,.int .i64 (q.1:Int))]) (λq=>[(0,Yo q.2 (λ_=>False))]) (λq=>(i+1<=q.1)/\(q.1<=n)/\(x ((prU n i).length+(q.1-(i+1))) q.2)/\(w.heap.size<=q.2.heap.size)) (λq=>n-q.1) (i+1,W) ⟨O1,O1,by rw [Nat.sub_self];exact a,d⟩ K1 K1 ?_;rintro⟨k,V⟩ ⟨t,D,a,d⟩;dsimp only at t D a d;dsimp only;have v:=Zz5 r d;refine go 8 ?_;refine Zc J (λh=>?_) (λh=>?_)
  .refine go 5 ?_;refine Ydf<|Mi (Zak J J) J<|Mi (Zak J J) J<|Mi (Zak J J) J<|Zt6 (pre:=[_]) (vs:=[_,_]) _ (i,k) () B (Ygl O O O) a d o J J J J J K2 J J (λp F=>by cases F) K1 K1 (λy e m=>?_) (λy e m=>?_)
   .simp only [Yv];refine Mi (dF (Yw J J) J) J<|Ck<|go 10 ⟨O,?_⟩;exact Yq (k+1,y) ⟨O1,O1,by rw [show(prU n i).length+(k+1-(i+1))=((prU n i).length+(k-(i+1)))+1 from by omega];exact e,m⟩ O1 K1 K1
   .simp only [Yv];refine Mi (dT (Yw J J) J) J<|Ck<|go 11 ?_;exact x_ngn<|Zba (.inr J) J J j b (.inr e)
  .refine go 10 ⟨O,?_⟩;exact Yq (i+1,V) ⟨O1,by rw [pr_len,show n=k by omega];rw [show n=k by omega]at a;exact a,d⟩ O1 K1 K1
 .obtain rfl:i=n:=O;refine go 4 ?_;exact x_ngn<|Zba (.inr J) J J j b (.inl a)
theorem Yfj(n:Nat):Cal prog 109 #[.int .i64 (n:Int)] [] true (G:=Nat) (λg=>True) (λg=> .func (.func 175) #[] #[.pointer (some ⟨g,0,none⟩)]) (λg=>[Kl g 3 #[.int .i64 (n:Int)]]):=by refine Zg func109 ntmps109 λe d c a=>go 2 ?_;refine Yk (Yt 1) λb _=>go 5 ?_;refine dt (Zu5 (vs:=[]) (us:=[_]) J trivial K1)<|go 4 ?_;exact Zv (Zen 1 J J)<|Xu a _ results109 J trivial (Ob 1 Za)
theorem Ycc(v:Value)(ps:List Zj)(b:∀g∈ps,Gin g):Qf prog 108 #[v] [Xt 6 Qe qG v ps] (.bool (!Xn ps)):=by refine Zg func108 ntmps108 λe d c a=>go 8 ?_;refine cl 1 [1] (Ow _ _ b) λ_ _=>go 5 ?_;exact Xu a () results108 J trivial Za
theorem Yh3(v:Value)(b:List PT)(o:∀x∈b,∀g∈x.2,Gin g):Cal prog 174 #[v,.func (.func 108) #[] #[]] [Xt 1 Zlx qP v b] false (G:=Int) (λr=>decide (r>=0)=!Zfa b) (λr=> .int .i64 r) (λr=>[]):=by
 refine Zg func174 ntmps174 λs q p e=>?_;refine Pf (Ln (i:=1) J Zb) λl=>go 14 ?_;refine lp (G:=Nat) [0,1,7] [0,1] (λi=>[(8,.int .i64 (i:Int))]) (λi=>[]) (λi=>(i<=b.length)/\(∀j,j<i->Xn (pth b j)=true)) (λi=>b.length-i) 0 ⟨O1,λj h=>absurd h (Nat.not_lt_zero j)⟩ K1 trivial ?_;rintro i ⟨hi,m⟩;refine go 6 ?_;refine Zc J (λd=>?_) (λd=>?_)
 .refine go 11 ?_;refine Zf (La 1 55 (b.getD i PT0) J J (Ze) J)<|go 4 ?_;refine dt (Zu (ii:=1) (i:=i) J J J J Zb Ybx sizeOf38 J)<|dt (Xf (ii:=1) PT0 J J J Zb pPq)<|tt (Zyh (n:=1) (fs:=[]) (vs:=[_]) (us:=[]) (Ycc _ _ (o _ (Ze))) J J J J K1 call108 (Zl 55 J J J Zs) J p.h) λ_ _=>go 2 ?_;refine Mv J (λa=>?_) (λa=>?_)
  .have c:=a;refine go 12 ?_;exact Xu e (i:Int) results174 J (by rw [vidx_t O (Zrn c)];exact decide_eq_true (Int.natCast_nonneg i)) Za
  .have c:=a;refine go 7 ⟨O,?_⟩;exact Yq (i+1) ⟨O1,λj h=>by rcases Nat.lt_succ_iff_lt_or_eq.1 h with f|f;exact m j f;subst f;exact Zro c⟩ O1 K1 trivial
 .obtain rfl:i=b.length:=O;refine go 11 ?_;exact Xu e (-1) results174 J (by rw [Yd6 (Nat.le_refl _) (λk h _=>m k h)];rfl) Za
theorem Yke(v:Value)(a:List PT)(d:∀x∈a,∀g∈x.2,Gin g):Qf prog 107 #[v,.func (.func 108) #[] #[]] [Xt 1 Zlx qP v a] (.bool (!Zfa a)):=by refine Zg func107 ntmps107 λi h e c=>go 9 ?_;refine cl 1 [1] (Yh3 _ a d) λf b=>go 5 ?_;exact Xu c () results107 (by rw [b]) trivial Za
theorem Zs1(v:Value)(c:List PT)(F:Int)(S:∀x∈c,∀g∈x.2,Gin g)(V:Zfa c=true)(hL:∀x∈c,x.2.length<=5)(hn:c.length<=64)(P:dsB F=true):Cal prog 48 #[v,.int .i64 F] [Xt 1 Zlx qP v c] false (G:=ClT) (λr=>ClR F 1 1 c r) (λr=>clE r) (λr=>[]):=by
 refine Zjr func48 J ntmps48 J K1 ?_;intro w0 sc hw Y;have hw:=Hw.mk hw;simp only [Qs,Yv];refine Pf (Ln (i:=1) J Zb) (λa9=>?_);refine Zbw (Xy 1 J Zb) (λM a4=>?_);subst a4;refine go 2 ?_;refine Yk (Yt 2) λbx _=>Yk (Yt 3) λy _=>Yk (Zy 4) λd _=>Yk (Zy 5) λe _=>Yk (Zy 6) λf _=>go 7 ?_;refine cl 6 [] (Zfm _) λ_ _=>?_;refine dt (dF (Yw J J) (congrArg (λb=>Value.bool (!b)) P))<|go 2 ?_;refine Es 6 [1] (Yke _ c S) λ_ _=>?_;refine kf (by rw [V];rfl)<|go 8 ?_;refine kf (decide_eq_false O)<|go 12 ?_;refine cl 7 [] (Yfj c.length) λb _=>go 3 ?_;refine Yak (pre:=[Kl b 3 #[.int .i64 (c.length:Int)]]) (w0:=w0) (λ(k:Nat) (_:Unit)=>[(0,Yo w0 (λ_=>False)),(1,Xt 1 Zlx qP (Xi M) c),(2,box bx 61 #[Xi M]),(3,box y 3 #[.int .i64 F]),(4,box d 64 #[.int .i64 0,.int .i64 0,.int .i64 0,.int .i64 0]),(5,box e 4 #[.bool false]),(6,box f 26 #[.int .i64 0])]) (λk _=>PrI F c k) (λ(B:ClT)=>[(0,Yo w0 (λ_=>False)),(4,box d 64 #[.int .i64 B.1.1,.int .i64 B.1.2.1,.int .i64 B.1.2.2.1,.int .i64 B.1.2.2.2]),(5,box e 4 #[.bool B.2.1]),(6,box f 26 #[.int .i64 B.2.2])]) (λB=>ClR F 1 1 c B) () J (by intro o w;first|exact enters_of func175 O5 rfl o w|exact call175 o w) (Ycb c.length b O) ?_ (λ_ _=>J) J hw.h J (λj p h _=>absurd h (Nat.not_lt_zero j)) K7 (λ_ _=>⟨J,J⟩) (λ_=>⟨J,J⟩) (λk x gi _ hx s l Mf Wa=>?_) J (λ_ s D od=>?_) (λB a6=>?_)
 .intro p W;simp only [List.mem_cons,List.not_mem_nil,or_false]at W;rcases W with rfl;exact⟨J,7,J⟩
 .refine Zew (env':=[(2,_),(3,_),(4,_),(5,_),(6,_),(29,_),(30,_)]) (H':=[(92,Yo Wa Mf),(0,Yo w0 (λ_=>False)),(1,Xt 1 Zlx qP (Xi M) c),(2,box bx 61 #[Xi M]),(3,box y 3 #[.int .i64 F]),(4,box d 64 #[.int .i64 0,.int .i64 0,.int .i64 0,.int .i64 0]),(5,box e 4 #[.bool false]),(6,box f 26 #[.int .i64 0])]) (λa w hs=>hs.weaken ⟨J,J,J,J,J,J,J,trivial⟩ ⟨J,J,J,J,J,J,J,J,trivial⟩)<|Iq<|Ir J<|Yk (Zy 8) λH _=>go 1 ?_;refine Cn (Zeg ?_);refine Hj<|Ir J<|Yk (Zy 9) λI _=>go 1 ?_;refine Cn (Zeg ?_);refine x_ra [(2,_),(3,_),(4,_),(5,_),(6,_),(7,_),(8,_)] [(0,_),(1,_),(2,_),(3,_),(4,_),(5,_),(6,_),(8,_),(9,_)] K7 K10 J (λq h=>by cases h;rfl) ⟨.inr (λb m=>⟨0,_,J,m⟩),.inr (λb m=>⟨1,_,J,m⟩),.inl J,.inl J,.inl J,.inl J,.inl J,.inl J,.inl J,trivial⟩ λWb a3=>?_;obtain⟨-,b1,b2⟩:=Zwn (List.mem_of_getElem? hx);refine Za1<|Iq<|Zew (La 1 55 (c.getD x.1 PT0) J J (Ze (show x.1<c.length by omega)) J)<|Zew (La 1 56 (c.getD x.2 PT0) J J (Ze (show x.2<c.length by omega)) J)<|Yod (λ_=>False) [(0,0),(1,0),(2,0),(3,0),(4,0),(5,0),(6,0),(7,0),(8,0),(9,1),(10,0),(11,0),(12,0),(13,0),(14,3)] O5 J O5<|go 2 ?_;refine Xj J J (Xl (Zu (ii:=1) (i:=x.1) J J J J Zb Ybx sizeOf38 J))<|Xj J J (Xl (Xf (ii:=1) PT0 J J J Zb pPq))<|go 2 ?_;refine Xj J J (Xl (Zu (ii:=1) (i:=x.2) J J J J Zb Ybx sizeOf38 J))<|Xj J J (Xl (Xf (ii:=1) PT0 J J J Zb pPq))<|go 1 ?_;refine Yr (Zi 10 [55,56] (Zyw _ _ _ _ _ (S _ (Ze (show x.1<c.length by omega))) (S _ (Ze (show x.2<c.length by omega))) (Ze9 V (Ze (show x.1<c.length by omega))) (Ze9 V (Ze (show x.2<c.length by omega))) (hL _ (Ze (show x.1<c.length by omega))) (hL _ (Ze (show x.2<c.length by omega))) P)) λR N=>go 6 ?_;refine Hj<|Iq<|Iq<|Ir J<|go 2 ?_;refine Cn (Zeg ?_);refine Hj<|Yoe J (λz=>?_) (λz=>?_)
  .have h9:=z;refine Iq<|Ir J<|dt (Qq (ivs:=[]) J trivial (λa w hs=>b64_))<|go 4 ?_;refine Cn (Zeg ?_);refine Hj<|Ax<|go 2 ?_;exact Zoj ((0,0,0,0),false,Ip (c.getD x.1 PT0).2 (c.getD x.2 PT0).2) (Ym6 s hx h9) ⟨.inr (λb m=>⟨0,_,J,m⟩),.inl J,.inl J,.inl J,trivial⟩ K5
  .have h9:=z;refine Yi0<|Hj<|Iq<|Ir J<|go 1 ?_;refine cl 11 [10] (Zwc _ _) λQ _=>?_;refine Cn (Zeg ?_);refine Hj<|Za1<|er_rfi (pre:=[Kl Q 50 #[R.1],Xt 3 Gm qGp R.1 R.2]) (w0:=w0) (λ(k2:Nat) (_:Unit)=>[(0,Yo w0 (λ_=>False)),(92,Yo Wb Mf),(1,Xt 1 Zlx qP (Xi M) c),(2,box bx 61 #[Xi M]),(3,box y 3 #[.int .i64 F]),(4,box d 64 #[.int .i64 0,.int .i64 0,.int .i64 0,.int .i64 0]),(5,box e 4 #[.bool false]),(6,box f 26 #[.int .i64 0]),(8,box H 3 #[.int .i64 (x.1:Int)]),(9,box I 3 #[.int .i64 (x.2:Int)])]) (λk2 _=>k2=0) (λ(n:ClT)=>[(0,Yo w0 (λ_=>False)),(92,Yo Wb Mf),(4,box d 64 #[.int .i64 n.1.1,.int .i64 n.1.2.1,.int .i64 n.1.2.2.1,.int .i64 n.1.2.2.2]),(5,box e 4 #[.bool n.2.1]),(6,box f 26 #[.int .i64 n.2.2])]) (λn=>ClR F 1 1 c n) () a3 J J (by intro o w;first|exact enters_of func162 O5 rfl o w|exact call162 o w) (Zov R.1 R.2 Q (Zq7 (S _ (Ze (show x.1<c.length by omega))) (S _ (Ze (show x.2<c.length by omega))) (Ze9 V (Ze (show x.1<c.length by omega))) (Ze9 V (Ze (show x.2<c.length by omega))) P N)) ?_ (λ_ _=>J) J hw.h J J K10 (λ_ _=>⟨J,J⟩) (λ_=>⟨J,J⟩) (λk2 x2 a2 _ a5 t l2 a0 a1=>?_) (λ_ t=>?_) (λn Z=>?_)
   .intro p W;simp only [List.mem_cons,List.not_mem_nil,or_false]at W;rcases W with rfl|rfl
    .exact⟨J,11,J⟩
    .exact⟨J,10,J⟩
   .refine Zew (env':=[(4,_),(5,_),(6,_),(7,_),(8,_),(50,_)]) (H':=[(93,Yo a1 a0),(100,Yiu (Fnd x2.2.2 (qv (0,1)) (qv (1,1)) a2)),(0,Yo w0 (λ_=>False)),(92,Yo Wb Mf),(1,Xt 1 Zlx qP (Xi M) c),(2,box bx 61 #[Xi M]),(3,box y 3 #[.int .i64 F]),(4,box d 64 #[.int .i64 0,.int .i64 0,.int .i64 0,.int .i64 0]),(5,box e 4 #[.bool false]),(6,box f 26 #[.int .i64 0]),(8,box H 3 #[.int .i64 (x.1:Int)]),(9,box I 3 #[.int .i64 (x.2:Int)])]) (λa w hs=>hs.weaken ⟨J,J,J,J,J,J,trivial⟩ ⟨J,J,J,J,J,J,J,J,J,J,J,J,trivial⟩)<|Ir J<|Yk (Zy 12) λa7 _=>go 1 ?_;refine Cn (Zeg ?_);refine x_ra [(4,_),(5,_),(6,_),(7,_),(8,_),(11,_)] [(0,_),(92,_),(1,_),(2,_),(3,_),(4,_),(5,_),(6,_),(8,_),(9,_),(100,_),(12,_)] K6 K13 J (λq h=>by cases h;rfl) ⟨.inr (λb m=>⟨0,_,J,m⟩),.inr (λb m=>⟨92,_,J,m⟩),.inr (λb m=>⟨1,_,J,m⟩),.inl J,.inl J,.inl J,.inl J,.inl J,.inl J,.inl J,.inr (λb m=>⟨100,_,J,m⟩),.inl J,trivial⟩ λb0 a8=>?_;refine Za1<|Iq<|Ir J<|go 6 ?_;refine dt (Qq (ivs:=[(0,_),(1,_),(2,_),(3,_)]) J K8 (λa w hs=>Zmj ((Yf J) a w hs) ((Yf J) a w hs) ((Yf J) a w hs) ((Yf J) a w hs)))<|go 3 ?_;refine Cn (Zeg ?_);refine Hj<|Ax<|go 1 ?_;exact Zoj (((x.1:Int),(x.2:Int),x2.1.1,x2.1.2),true,0) (Ym5 s hx h9 N t a5) ⟨.inr (λb m=>⟨0,_,J,m⟩),.inr (λb m=>⟨92,_,J,m⟩),.inl J,.inl J,.inl J,trivial⟩ K6
   .refine go 2 ?_;exact xq_rn () (prI_s s hx (Zrv N h9 t)) ⟨.inr (λb m=>⟨0,_,J,m⟩),.inr (λb m=>⟨1,_,J,m⟩),.inl J,.inl J,.inl J,.inl J,.inl J,trivial⟩ K8
   .refine go 2 ?_;exact Zoj n Z ⟨.inr (λb m=>⟨0,_,J,m⟩),.inl J,.inl J,.inl J,trivial⟩ K5
 .refine dt (Qq (ivs:=[]) J trivial (λa w hs=>b64_))<|go 4 ?_;refine Ybs λa w hs=>⟨J,[(4,.pointer (some ⟨d,0,none⟩)),(5,.pointer (some ⟨e,0,none⟩)),(6,.pointer (some ⟨f,0,none⟩))],[(0,Yo w0 (λ_=>False)),(4,box d 64 #[.int .i64 0,.int .i64 0,.int .i64 0,.int .i64 0]),(5,box e 4 #[.bool false]),(6,box f 26 #[.int .i64 0])],J,⟨⟨_,J,J,λ_ h=>h⟩,⟨_,J,J,λ_ h=>h⟩,⟨_,J,J,λ_ h=>h⟩,⟨_,J,J,λ_ h=>h⟩,trivial⟩,hs.weaken ⟨J,J,J,trivial⟩ ⟨J,J,J,J,J,trivial⟩,?_⟩;exact xe3 Y ((0,0,0,0),false,0) results48 J (Ym7 s) Za
 .exact xe3 Y B results48 J a6 Za
theorem Yfk(n o:Value)(a b:List Zj)(l m:Nat)(k:Nat)(p:k<4194304)(h:∀g∈a,Gin g)(i:∀g∈b,Gin g)(c:Xn a=true)(d:Xn b=true)(e:a.length<=5)(f:b.length<=5):Qf prog 111 #[.int .i64 (k:Int),.pointer (some ⟨l,0,none⟩),.pointer (some ⟨m,0,none⟩)] [Kl l 38 #[n],Kl m 38 #[o],Xt 6 Qe qG n a,Xt 6 Qe qG o b] (.bool (!Ba ((k:Int)+1) 1 1 a b)):=by refine Zg func111 ntmps111 λs r q j=>?_;refine go 11 ⟨O,?_⟩;refine cl 4 [3,4] (Zkj _ _ a b ((k:Int)+1) h i c d e f (ds_in O O)) λ_ _=>go 15 ?_;exact Xu j () results111 J trivial Za
set_option maxHeartbeats 1000000 in
theorem Yl7(H I:Value)(a b:List Zj)(s t:Nat)(l:∀g∈a,Gin g)(o:∀g∈b,Gin g)(d:Xn a=true)(e:Xn b=true)(B:a.length<=5)(D:b.length<=5):Cal prog 110 #[.int .i64 4194304,.func (.func 111) #[] #[.pointer (some ⟨s,0,none⟩),.pointer (some ⟨t,0,none⟩)]] [Kl s 38 #[H],Kl t 38 #[I],Xt 6 Qe qG H a,Xt 6 Qe qG I b] false (G:=Nat) (λr=>NrS a b r) (λr=> .int .i64 (r:Int)) (λr=>[]):=by
 refine Zg func110 ntmps110 λQ P N F=>go 14 ?_;refine lp (G:=Nat×Nat) [1] [0,1,2,3,4] (λq=>[(5,.int .i64 (q.1:Int)),(6,.int .i64 (q.2:Int))]) (λq=>[]) (λq=>(q.1<=q.2/\q.2<=4194304)/\(∀k:Nat,k<q.1->Ba ((k:Int)+1) 1 1 a b=true)/\(∀k:Nat,q.2<=k->k<4194304->Ba ((k:Int)+1) 1 1 a b=false)) (λq=>q.2-q.1) (0,4194304) ⟨⟨Nat.zero_le _,Nat.le_refl _⟩,λk f=>absurd f (Nat.not_lt_zero k),λk f h=>absurd h (Nat.not_lt.2 f)⟩ K2 trivial ?_;rintro⟨i,j⟩ ⟨p,v,w⟩;dsimp only at p v w;dsimp only;refine go 8 ?_;refine Zc J (λx=>?_) (λx=>?_)
 .have M:i<j:=O;refine go 7 ?_;refine dt (Yz (r':= .int .i64 ((i+j:Nat):Int)) (Yjr J J J) (by rw [Int.natCast_add]))<|dt (Zq8 J J uT3 Zyb (by simp only [U];omega))<|dt (Gx (n:=1) (n':=2) J J J J J)<|dt (Zby J J Zyb uT3 ⟨O,O⟩)<|go 7 ?_;refine tt (Zyh (n:=4) (fs:=[]) (vs:=[_]) (us:=[_,_]) (Yfk H I a b s t ((i+j)/2) O l o d e B D) J J J J K1 call111 (Zl 1 J J J (Zl 2 J J J (Zl 3 J J J (Zl 4 J J J Zs)))) J N.h) λ_ _=>go 3 ?_;refine Mv J (λc=>?_) (λc=>?_)
  .have y:=c;refine go 6 ⟨O,?_⟩;exact Yq (((i+j)/2)+1,j) ⟨⟨O9,O9⟩,λk f=>nrS_t l o d e (m:=((i+j)/2)) O (by simpa using y) k f,w⟩ O9 K2 trivial
  .have y:=c;refine go 5 ?_;exact Yq (i,((i+j)/2)) ⟨⟨O9,O9⟩,v,λk f h=>nrS_f l o d e (m:=((i+j)/2)) (by simpa using y) k f h⟩ O9 K2 trivial
 .have z:¬i<j:=O;refine go 12 ?_;exact Xu F i results110 J (Ynj p z v w) Za
theorem Zow(v w:Value)(b c:List Zj)(l:∀g∈b,Gin g)(m:∀g∈c,Gin g)(f:Xn b=true)(h:Xn c=true)(j:b.length<=5)(k:c.length<=5):Cal prog 50 #[v,w] [Xt 6 Qe qG v b,Xt 6 Qe qG w c] false (G:=Int×Int) (λg=>NrP b c g) (λg=> .tuple #[.int .i64 g.1,.int .i64 g.2]) (λg=>[]):=by
 refine Zg func50 ntmps50 λH F D d=>?_;refine Zbw (Xy 1 J Zb) (λy n=>?_);subst n;refine Zbw (Xy 2 J Zb) (λz o=>?_);subst o;refine go 2 ?_;refine Yk (Yt 3) λB _=>Yk (Yt 4) λs _=>go 8 ?_;refine cl 5 [1,2] (Zfn _ _ b c 0 l m f h j k O2) λt i=>go 16 ?_;refine Zc J (λa=>?_) (λa=>?_)
 .have p:=a;refine go 10 ?_;exact Nr d (0,Ip b c) results50 J (.inl ⟨p,J⟩) Za
 .have p:=a;refine go 8 ?_;refine Zc J (λe=>?_) (λe=>?_)
  .have q:t.2.length=0:=O;refine go 9 ?_;exact Nr d (0,9) results50 J (Yni i p q) Za
  .have q:¬t.2.length=0:=O;refine go 5 ?_;refine dt (Zu5 (vs:=[]) (us:=[_,_]) J trivial K2)<|cl 5 [3,4,1,2] (Yl7 _ _ b c _ _ l m f h j k) λx r=>go 5 ?_;exact Nr d ((x:Int),0) results50 J (nr_end i p q r) Za
theorem Yl9(v:Value)(ps:List Zj)(h:∀g∈ps,Gin g)(c:Xn ps=true):Qf prog 120 #[v] [Xt 6 Qe qG v ps] (.tuple #[.int .i64 (spF ps),.int .i64 (spL ps),.int .i64 0]):=by refine Zg func120 ntmps120 λl k j a=>?_;refine Pf (Ln (i:=1) J Zb) (λd=>?_);obtain⟨-,e,f⟩:=On c;refine go 11 ?_;refine cl 1 [1] (Ow _ _ h) λ_ _=>?_;refine dt (dF (Yw J J) (congrArg (λb=>Value.bool (!b)) c))<|go 6 ?_;refine Xz (λ_=>False) [(0,0),(1,0),(2,0),(3,0),(4,0),(5,0),(6,0),(7,0),(8,0),(9,0),(10,0),(11,0),(12,3),(13,3)]<|go 2 ⟨O,?_⟩;refine Xj J J (Xl (Lh (ii:=1) J J J Zb Ey J Kg J))<|Xj J J (Xl (Lr (ii:=1) G0 J J J Zb Av J))<|go 4 ⟨O,?_⟩;refine Xj J J (Xl (Zu (ii:=1) (i:=(ps.length-1)) J J J J Zb Lf Ig))<|Xj J J (Xl (Lh (ii:=1) J J J Zb Ey J Kg J))<|Xj J J (Xl (Lr (ii:=1) G0 J J J Zb Av J))<|go 6 ?_;exact xe3 a () results120 J trivial Za
open Go.RowKit (Below)
variable {P:Program} {N:Nat} {sc:Nat->Prop} {env env':Ph} {H H':Hp} {Q Q':Exit->Act->World->Prop} {M:Nat->Prop}
theorem Ycp(h:u.oneCell'=true):u.cells=#[u]:=by cases u<;>simp_all [Value.cells,Value.oneCell']
theorem Zvm{α:Type}{enc:α->Value}{k q j:Nat}(z b:α)(c:∀x,(enc x).cells.size=k)(xs:List α)(a:j<xs.length)(i:q<k)(l:(enc z).cells.toList=(enc (xs.getD j b)).cells.toList.set q u) :
  cellsOf enc (xs.set j z)=(cellsOf enc xs).set (j*k+q) u:=by
 have e:=Cg c xs j (xs.getD j b) a;have hs:xs.set j (xs.getD j b)=xs:=by rw [List.getD_eq_getElem?_getD,List.getElem?_eq_getElem a,Option.getD_some];exact List.set_getElem_self ..
 rw [hs]at e;have h:(cellsOf enc xs).length=xs.length*k:=Xc c xs;have g:j*k+k<=xs.length*k:=by rw [<-Nat.succ_mul];exact Nat.mul_le_mul_right k a
 have d:((cellsOf enc xs).take (j*k)).length=j*k:=by rw [List.length_take,h];omega
 have f:(enc (xs.getD j b)).cells.toList.length=k:=by rw [Array.length_toList,c]
 rw [Cg c xs j z a,l]
 conv=>rhs;rw [e]
 rw [List.append_assoc,List.append_assoc,List.set_append_right _ _ (by rw [d];omega),d,Nat.add_sub_cancel_left,List.set_append_left _ _ (by rw [f];exact i)]
theorem t_stf {α:Type} {o:Oper} {x y:Operand} {t ts e:TypeId} {i j k q:Nat} {v:Value} {enc:α->Value} {xs:List α} (z I:α) {w0:World}  (ho:o.op= .store t x y) (hd:o.dst=none)
  (hx:ev env x=some (.pointer (some (eaf v j k q)))) (hy:ev env y=some u) (R:lk H i=some (Oe k e enc v xs)) (B:i≠0) (S:Enc P ts k enc) (m:j<xs.length)
  (D:∀w,(sizeOf t).run P w= .ok 1 w) (W:u.oneCell'=true) (hq:q<k) (hz:(enc z).cells.toList=(enc (xs.getD j I)).cells.toList.set q u)
  (Z:lk H 0=some (Yo w0 M0)) (hw:∀b,w0.heap.size<=b->sc b) :
  T P N sc (λ_=>True) o env H (G:=Unit) (λ_=>True) (λ_=>env) (λ_=>(i,Oe k e enc v (xs.set j z))::H):=λa w hs K Q hK=>by
 have p:w.ownsRow 0 e k v xs.length (cellsOf enc xs):=hs.hold i _ R;rcases p.2 with⟨rfl,hn⟩|⟨g,d,c,rfl,hb,V,n,s,h,f⟩
 .omega
 .have a1:j*k+k<=xs.length*k:=by rw [<-Nat.succ_mul];exact Nat.mul_le_mul_right k m
  have a0:xs.length*k<=d*k:=Nat.mul_le_mul_right k n;have r:=run_storeCells_at P g (j*k+q) e [u] 0 c w V (by rw [h,List.length_singleton];omega) (λu' F=>by rw [List.mem_singleton.1 F];exact W);simp only [Nat.add_zero,List.length_singleton]at r;have hr:(execOp a.eval o).run P w= .ok .skip (w.setRow g (c.toList.take (j*k+q) ++ [u] ++ c.toList.drop (j*k+q+1)).toArray):=by simp [execOp,ho,hs.ev hx,hs.ev hy,Instr.storeAt,Instr.sureAddr,storeVar,Ycp W,D,ead,eaf,Py,r]
  unfold Oper.wp;rw [hr];show K (a.put o.dst _) _;rw [hd];have l:c.toList.length=d*k:=by rw [Array.length_toList,h]
  refine hK () _ _ trivial ((hs.upd R rfl B (q:=Oe k e enc (.slice (some ⟨g,0,none⟩) xs.length d) (xs.set j z)) (Kk (M:=λk=>(Value.slice (some ⟨g,0,none⟩) xs.length d).ownBlock=some k) _ rfl) ?_ (λk D=> .inl D) Z hw).put_none undef) (Kk _ trivial);refine⟨by rw [Xc S.cells],.inr ⟨g,d,_,O7,hb,setRow_heap w g c _ e _ V,by simpa using n,s,?_,?_⟩⟩
  .simp only [List.size_toArray,List.length_append,List.length_take,List.length_drop,List.length_singleton,l];omega
  .rw [Zvm z I S.cells xs m hq hz,<-f];simp only [List.length_set];have Y:c.toList.take (j*k+q) ++ [u] ++ c.toList.drop (j*k+q+1)=c.toList.set (j*k+q) u:=by rw [List.set_eq_take_append_cons_drop,if_pos O,List.append_assoc,List.singleton_append]
   rw [Y,List.take_set]
end Go.Sky
namespace Go.Sky
variable{b:Int}{k:Nat}{qs zs:List Zj}{s:SL×SL×SL}{gs:List (Int×SL)}
def shG(b:Int)(g:Zj):Zj:=((g.1.1+b,g.1.2.1+b,g.1.2.2),g.2)
def shK(b:Int)(ps:List Zj)(k:Nat):List Zj:=(ps.take k).map (shG b) ++ ps.drop k
theorem shK_0(b:Int)(ps:List Zj):shK b ps 0=ps:=by unfold shK;simp
theorem Od(b:Int)(ps:List Zj)(k:Nat):(shK b ps k).length=ps.length:=by unfold shK;simp;omega
theorem Ymd(b:Int)(ps:List Zj):shK b ps ps.length=ps.map (shG b):=by unfold shK;simp
theorem Zou{ps:List Zj}(a:k<ps.length):(shK b ps k).getD k G0=ps.getD k G0:=by unfold shK;rw [List.getD_eq_getElem?_getD,List.getElem?_append_right O8,List.getElem?_drop,List.getD_eq_getElem?_getD];congr 2;simp;omega
abbrev shA (b:Int) (x:Zj):Zj:=((x.1.1+b,x.1.2.1,x.1.2.2),x.2)
abbrev shB (b:Int) (x:Zj):Zj:=((x.1.1,x.1.2.1+b,x.1.2.2),x.2)
theorem Yff{ps:List Zj}(z:Zj)(a:k<ps.length):(ps.set k z).getD k G0=z:=by rw [List.getD_eq_getElem?_getD,List.getElem?_set_self a];rfl
theorem shK_s{ps:List Zj}(a:k<ps.length) :
  ((shK b ps k).set k (shA b ((shK b ps k).getD k G0))).set k (shB b (((shK b ps k).set k (shA b ((shK b ps k).getD k G0))).getD k G0))=shK b ps (k+1):=by
 rw [Yff _ (by rw [Od];exact a),List.set_set,Zou a];unfold shK;have c:((ps.take k).map (shG b)).length=k:=O8;rw [List.set_append_right _ _ O,c,Nat.sub_self];have d:ps.drop k=ps.getD k G0::ps.drop (k+1):=by rw [List.drop_eq_getElem_cons a,List.getD_eq_getElem?_getD,List.getElem?_eq_getElem a];rfl
 rw [d,List.set_cons_zero];have e:ps.take (k+1)=ps.take k ++ [ps.getD k G0]:=by rw [List.take_add_one,List.getElem?_eq_getElem a,List.getD_eq_getElem?_getD,List.getElem?_eq_getElem a];rfl
 rw [e,List.map_append,List.append_assoc];rfl
theorem Yme{ps:List Zj}(a:k<ps.length):((shK b ps k).set k (shA b ((shK b ps k).getD k G0))).getD k G0=shA b (ps.getD k G0):=by rw [Yff _ (by rw [Od];exact a),Zou a]
theorem Ynq(b:Int)(ps:List Zj):Lg qG ps=Lg qG (ps.map (shG b)):=by
 unfold Lg;congr 1
 .funext w;exact propext ⟨λ⟨z,a,h⟩=>⟨shG b z,List.mem_map.2 ⟨z,a,rfl⟩,h⟩,λ⟨z,a,h⟩=>by obtain⟨y,c,rfl⟩:=List.mem_map.1 a;exact⟨y,c,h⟩⟩
 .funext w;exact propext ⟨λh z a=>by obtain⟨y,c,rfl⟩:=List.mem_map.1 a;exact h y c,λh z a=>h (shG b z) (List.mem_map.2 ⟨z,a,rfl⟩)⟩
theorem Yd7{ps:List Zj}(h:qs.map Gn=ps.map Gn):qs.length=ps.length:=by have:=congrArg List.length h;simpa using this
theorem un_gd{ps:List Zj}(h:qs.map Gn=ps.map Gn)(k:Nat):Gn (qs.getD k G0)=Gn (ps.getD k G0):=by have:=congrArg (λl=>l[k]?) h;simp only [List.getElem?_map]at this;rw [List.getD_eq_getElem?_getD,List.getD_eq_getElem?_getD];cases h1:qs[k]?<;>cases h2:ps[k]?<;>rw [h1,h2]at this<;>simp_all
theorem un_sh{ps:List Zj}(h:qs.map Gn=ps.map Gn)(b:Int):(qs.map (shG b)).map Gn=(ps.map (shG b)).map Gn:=by
 induction qs generalizing ps with
 | nil=>cases ps with
  | nil=>rfl
  | cons p ps=>cases h
 | cons q qs f=>cases ps with
  | nil=>cases h
  | cons p ps=>
   rw [List.map_cons,List.map_cons]at h;injection h with h1 h2;rw [List.map_cons,List.map_cons,List.map_cons,List.map_cons,f h2];congr 1;unfold Gn at h1 ⊢;unfold shG;simp only [Prod.mk.injEq]at h1 ⊢;obtain⟨a,c,d,e⟩:=h1;exact⟨⟨by rw [a],by rw [a],by rw [a]⟩,c,d,e⟩
theorem sh_bd{ps:List Zj}(f:∀g∈ps,Gin g)(c:Xn ps=true)(h:qs.map Gn=ps.map Gn)(d:k<qs.length):0<=(qs.getD k G0).1.1/\(qs.getD k G0).1.1<(qs.getD k G0).1.2.1/\(qs.getD k G0).1.2.1<=3600000:=by
 have a:k<ps.length:=by rw [<-Yd7 h];exact d
 have e:(qs.getD k G0).1=(ps.getD k G0).1:=congrArg (λu:Zm0=>u.1) (un_gd h k);have s:SgG (ps.getD k G0):=My (f _ (Ze a)) (Fz ((On c).1 _ a));rw [e];exact⟨s.t1,s.t2,s.t3⟩
theorem sp_bd{ps:List Zj}(c:∀g∈ps,Gin g)(a:Xn ps=true):0<=spF ps/\spF ps<=3600000/\0<=spL ps/\spL ps<=3600000:=by have e:=(On a).2.1;have s:SgG (ps.getD 0 G0):=My (c _ (Ze)) (Fz ((On a).1 _ O));have t:SgG (ps.getD (ps.length-1) G0):=My (c _ (Ze)) (Fz ((On a).1 _ O));have d:=s.t1;have f:=s.t2;have h:=s.t3;have t1:=t.t1;have t2:=t.t2;have t3:=t.t3;unfold spF spL;exact⟨d,O,O,t3⟩
theorem Zyo(h:qs.map Gn=([Bg s].map (shG 1000)).map Gn):∃t,qs=[gvL t]:=by have c:=congrArg List.length h;rw [List.length_map,List.length_map,List.length_map]at c;obtain⟨q,rfl⟩:=List.length_eq_one_iff.1 c;have h:[Gn q]=[Gn (shG 1000 (Bg s))]:=h;injection h with h;obtain⟨a,⟨d,e⟩,⟨f,g⟩,⟨i,j⟩⟩:=q;have h:(a,e,g,j)=((0+1000,1000+1000,1),Ez 0 1000 1,Ez 0 0 1,Ez 0 0 1):=h;simp only [Prod.mk.injEq]at h;obtain⟨rfl,rfl,rfl,rfl⟩:=h;exact⟨(d,f,i),rfl⟩
theorem Yow{ps:List Zj}(h:zs.map Gn=(ps.take k).map Gn)(a:k<ps.length) :
  (zs ++ [(((ps.getD k G0).1,(s.1,(ps.getD k G0).2.1.2),(s.2.1,(ps.getD k G0).2.2.1.2),(s.2.2,(ps.getD k G0).2.2.2.2)):Zj)]).map Gn=(ps.take (k+1)).map Gn:=by
 have c:ps.take (k+1)=ps.take k ++ [ps.getD k G0]:=by rw [List.take_add_one,List.getElem?_eq_getElem a,List.getD_eq_getElem?_getD,List.getElem?_eq_getElem a];rfl
 rw [c,List.map_append,List.map_append,h];rfl
open Go.Proofs.Tryz
open Go.Proofs
set_option synthInstance.maxHeartbeats 0
set_option synthInstance.maxSize 100000
set_option maxRecDepth 20000
set_option maxHeartbeats 1000000
set_option linter.unusedSimpArgs false
theorem Zre(v:Value)(xs:List Int)(h:xs.length*8<=140737488355328):Yld prog 182 #[v] [Ys 1 Yg v xs] (G:=Value) (λr=>True) (λr=>r) (λr=>Oe 1 3 Yg r xs):=by
 refine Zrk func182 J ntmps182 J K1 ?_;intro m l e f;have e:=Hw.mk e;simp only [Qs,Yv];refine Pf (Yiy (i:=1) J Zn) λd=>go 9 ?_;refine dt (Zq5 J J J (i:=1) J Zn Pe)<|go 2 ?_;refine Mv J (λc=>?_) (λc=>?_)
 .refine go 7 ?_;obtain rfl:xs=[]:=d (by simpa using c);exact Zv (Qx 9 1 3 Yg)<|Zgz (.inl J) (.slice none 0 0) _ (λa w hs=>Zbm hs results182 J) J trivial J 9 J J J
 .refine go 4 ?_;refine tt (Yeg (i:=2) (enc:=Yg) J J J Pe pZ J e.h) λv _=>go 1 ?_;refine tt (Pp (i:=2) (j:=1) (by_:=8) J J J J J J O2 J Zn Pe ti3 J pZ J J J O8 O2 J e.h) λg _=>go 4 ?_;exact Zgz (.inl J) _ _ (λa w hs=>Zbm hs results182 J) J trivial J 2 J (by rfl) J
theorem Yma(v:Value)(ps:List Zj)(N:∀g∈ps,Gin g)(y:Xn ps=true):CalM prog 122 #[v] [Xt 6 Qe qG v ps] (G:=Value×List Zj) (λr=>r.2.map Gn=ps.map Gn) (λr=>r.1) (λr=>Oe 6 35 Qe r.1 r.2) (λr=>Lg qG r.2):=by
 refine Ypj func122 J ntmps122 J K1 ?_;intro Z Y e p;have e:=Hw.mk e;simp only [Qs,Yv];refine Pf (Ln (i:=1) J Zb) (λB=>?_);have M:=(On y).2.2;refine go 19 ?_;refine Zf (Qx 74 6 35 Qe)<|Zf (Yn qG 76)<|lp (G:=Nat×Value×List Zj) [6,7] [0,1] (λq=>[(8,.int .i64 (q.1:Int)),(3,q.2.1)]) (λq=>[(74,Oe 6 35 Qe q.2.1 q.2.2),(76,Lg qG q.2.2)]) (λq=>(q.1<=ps.length)/\(q.2.2.map Gn=(ps.take q.1).map Gn)/\(q.2.2.length=q.1)) (λq=>ps.length-q.1) (0,.slice none 0 0,[]) ⟨O1,rfl,rfl⟩ K2 K2 ?_;rintro⟨k,V,zs⟩ ⟨D,c,o⟩;dsimp only at D c o;dsimp only;refine go 6 ?_;refine Zc J (λm=>?_) (λm=>?_)
 .refine go 5 ?_;refine Zf (Qw (g:=(ps.getD k G0)) (z:=(ps.getD k G0).2.1) 1 51 J J (Ze) O7)<|Zf (Qw (g:=(ps.getD k G0)) (z:=(ps.getD k G0).2.2.1) 1 52 J J (Ze) O7)<|Zf (Qw (g:=(ps.getD k G0)) (z:=(ps.getD k G0).2.2.2) 1 53 J J (Ze) O7) ?_;have d:SgG (ps.getD k G0):=My (N _ (Ze)) (Fz ((On y).1 _ O));have F:(ps.getD k G0).2.1.2.length<=6:=(d.lc 0).2;have H:(ps.getD k G0).2.2.1.2.length<=6:=(d.lc 1).2;have I:(ps.getD k G0).2.2.2.2.length<=6:=(d.lc 2).2;refine go 1 ?_;refine dt (Zu (ii:=1) (i:=k) J J J J Zb Lf Ig J)<|dt (Xf (ii:=1) G0 J J J Zb pG)<|Yk (Zy 2) λW _=>go 4 ?_;refine It (λ_=>False) [10,11,12,13,14]<|Zh (n:=8) [(0,0),(1,0),(3,0),(4,0),(6,0),(7,0),(2,1)]<|go 6 ?_;refine Fi J (Zde (n:=3) (Zre _ _ O) J J J K1 call182 (Zl 51 J J J Zs) J e.h) λv _=>go 1 ?_;refine Zmp (Xs 3 J J pZ)<|Yk4 (Xy 3 J Zn) (λf t=>?_);subst t;refine Zh (n:=6) [(9,0),(5,1)]<|go 1 ?_;refine Fi J (Zde (n:=4) (Zre _ _ O) J J J K1 call182 (Zl 52 J J J Zs) J e.h) λP _=>go 1 ?_;refine Zmp (Xs 4 J J pZ)<|Yk4 (Xy 4 J Zn) (λh u=>?_);subst u;refine Zh (n:=5) [(8,1)]<|Fi J (Zde (n:=5) (Zre _ _ O) J J J K1 call182 (Zl 53 J J J Zs) J e.h) λQ _=>go 1 ?_;refine Zmp (Xs 5 J J pZ)<|Yk4 (Xy 5 J Zn) (λl x=>?_);subst x;refine Zh (n:=0) [(10,3),(11,3),(12,3),(13,3),(14,3)]<|go 6 ?_;refine Zp<|go 4 ?_;refine tt (Qb (i:=6) (ivs:=[(0,_)]) (enc:=Qe) [((((ps.getD k G0).1,(f,(ps.getD k G0).2.1.2),(h,(ps.getD k G0).2.2.1.2),(l,(ps.getD k G0).2.2.2.2)):Zj))] J J K2 Lf ti35 J J (Zhr _ _ _ _ _ _ _ _ _ _ _ _) J J pG.cells J J e.h) (λR _=>?_);refine tt (Pp (i:=74) (j:=6) (by_:=96) J J J J J J O2 J (Yb pG) Lf ti35 J pG J J J O8 O2 J e.h) (λS _=>?_);refine go 8 ⟨O,?_⟩;exact Zv (Yn qC 71)<|Zv (Zq (q:=qC) (z:=((((ps.getD k G0).1,(f,(ps.getD k G0).2.1.2),(h,(ps.getD k G0).2.2.1.2),(l,(ps.getD k G0).2.2.2.2)):Zj)).2.1) 71 3 71 J J J J J)<|Zv (Zq (q:=qC) (z:=((((ps.getD k G0).1,(f,(ps.getD k G0).2.1.2),(h,(ps.getD k G0).2.2.1.2),(l,(ps.getD k G0).2.2.2.2)):Zj)).2.2.1) 71 4 71 J J J J J)<|Zv (Zq (q:=qC) (z:=((((ps.getD k G0).1,(f,(ps.getD k G0).2.1.2),(h,(ps.getD k G0).2.2.1.2),(l,(ps.getD k G0).2.2.2.2)):Zj)).2.2.2) 71 5 71 J J J J J)<|Zv (Zq (q:=qG) (z:=((((ps.getD k G0).1,(f,(ps.getD k G0).2.1.2),(h,(ps.getD k G0).2.2.1.2),(l,(ps.getD k G0).2.2.2.2)):Zj))) 76 71 76 J J J J J)<|Yq (k+1,_,zs ++ [((((ps.getD k G0).1,(f,(ps.getD k G0).2.1.2),(h,(ps.getD k G0).2.2.1.2),(l,(ps.getD k G0).2.2.2.2)):Zj))]) ⟨O1,Yow (s:=(f,h,l)) c O,by rw [List.length_append,o];rfl⟩ O1 K2 K2
 .obtain rfl:k=ps.length:=O;refine go 12 ?_;exact Ylf (.inl J) p (V,zs) _ (λa w hs=>Zbm hs results122 J) J (by rw [List.take_length]at c;exact c) J 74 J J J 76 J J J J
theorem Zsq(v:Value)(ps:List Zj)(a:Int)(h:∀g∈ps,Gin g)(f:Xn ps=true)(p:¬a < -(spF ps))(r:¬a>3600000-spL ps):Cal prog 59 #[v,.int .i64 a] [Xt 6 Qe qG v ps] true (G:=Value×List Zj) (λg=>g.2.map Gn=(ps.map (shG a)).map Gn) (λg=> .tuple #[g.1,.int .i64 0]) (λg=>[Xt 6 Qe qG g.1 g.2]):=by
 refine Zg func59 ntmps59 λI H o m=>?_;obtain⟨z,B,D,F⟩:=sp_bd h f;refine go 9 ?_;refine cl 1 [1] (Yl9 _ _ h f) λ_ _=>go 14 ?_;refine kf (decide_eq_false O2)<|go 8 ?_;refine dt (Yjl J J)<|kf (decide_eq_false p)<|go 4 ⟨O,?_⟩;refine kfg (decide_eq_false r)<|go 11 ?_;refine tt (Yly (n:=2) (Yma _ _ h f) J J J K1 call122 (Zl 1 J J J Zs) J o.h) λc d=>go 12 ?_;refine Zf (Ox 2 (q:=Oe 6 35 Qe c.1 (shK a c.2 0)) (by rw [shK_0]) J J) ?_;have w:=Yd7 d;have u:=(On f).2.2;refine lp (G:=Nat) [1,9,35] [0,1,3] (λk=>[(36,.int .i64 (k:Int))]) (λk=>[(2,Oe 6 35 Qe c.1 (shK a c.2 k))]) (λk=>k<=c.2.length) (λk=>c.2.length-k) 0 O1 K1 K1 ?_;rintro k y;refine go 6 ?_;refine Zc J (λe=>?_) (λe=>?_)
 .refine go 11 ?_;have x:=Od a c.2 k;have t:=sh_bd h f d (k:=k) O;have j:(shK a c.2 k).getD k G0=c.2.getD k G0:=Zou O;have l:((shK a c.2 k).set k (shA a ((shK a c.2 k).getD k G0))).getD k G0=shA a (c.2.getD k G0):=Yme O;refine go 3 ?_;refine dt (Zu (ii:=2) (i:=k) J J J J (Yb pG) Lf Ig J (by first|(rw [List.length_set,Od];omega)|(rw [Od];omega)))<|dt (Lh (ii:=2) J J J (Yb pG) Ey J Kg J (by first|(rw [List.length_set,Od];omega)|(rw [Od];omega)))<|dt (Lr (ii:=2) G0 J J J (Yb pG) Av J (by first|(rw [List.length_set,Od];omega)|(rw [Od];omega)))<|go 2 ⟨by rw [j];exact⟨O,O⟩,?_⟩;refine dt (Zu (ii:=2) (i:=k) J J J J (Yb pG) Lf Ig J (by first|(rw [List.length_set,Od];omega)|(rw [Od];omega)))<|dt (Lh (ii:=2) J J J (Yb pG) Ey J Kg J (by first|(rw [List.length_set,Od];omega)|(rw [Od];omega)))<|tt (t_stf (i:=2) (enc:=Qe) (shA a ((shK a c.2 k).getD k G0)) G0 J J J J J O2 pG (by first|(rw [List.length_set,Od];omega)|(rw [Od];omega)) Kg J O2 J J o.h) λ_ _=>go 5 ?_;refine dt (Zu (ii:=2) (i:=k) J J J J (Yb pG) Lf Ig J (by first|(rw [List.length_set,Od];omega)|(rw [Od];omega)))<|dt (Lh (ii:=2) J J J (Yb pG) Ey J Kg J (by first|(rw [List.length_set,Od];omega)|(rw [Od];omega)))<|dt (Lr (ii:=2) G0 J J J (Yb pG) Av J (by first|(rw [List.length_set,Od];omega)|(rw [Od];omega)))<|go 2 ⟨by rw [l];exact⟨O9,O9⟩,?_⟩;refine dt (Zu (ii:=2) (i:=k) J J J J (Yb pG) Lf Ig J (by first|(rw [List.length_set,Od];omega)|(rw [Od];omega)))<|dt (Lh (ii:=2) J J J (Yb pG) Ey J Kg J (by first|(rw [List.length_set,Od];omega)|(rw [Od];omega)))<|tt (t_stf (i:=2) (enc:=Qe) (shB a (((shK a c.2 k).set k (shA a ((shK a c.2 k).getD k G0))).getD k G0)) G0 J J J J J O2 pG (by first|(rw [List.length_set,Od];omega)|(rw [Od];omega)) Kg J O2 J J o.h) (λ_ _=>?_);refine go 7 ⟨O,?_⟩;exact Yq (k+1) O1 O1 K1 ⟨by rw [shK_s O];rfl,trivial⟩
 .obtain rfl:k=c.2.length:=O;refine go 13 ?_;exact Zv (Ox 2 (q:=Oe 6 35 Qe c.1 (c.2.map (shG a))) (by rw [Ymd]) J J)<|Zv (Ox 3 (q:=Lg qG (c.2.map (shG a))) (Ynq a c.2) J J)<|Zv (Xs 2 J J pG)<|Zv (Qm 2 3 78 J J J J)<|Nr m (c.1,c.2.map (shG a)) results59 J (un_sh d a) (Ob 78 Za)
abbrev S3T:=SL×SL×SL
abbrev GvT:=(S3T×S3T×S3T)×(SL×SL×SL)
def gvs(q:GvT):List PT:=[(q.2.1,[Bg q.1.1]),(q.2.2.1,[gv1 q.1.2.1]),(q.2.2.2,[gv2 q.1.2.2])]
theorem Zjh{fr j d e f h c i k:Int}{s:S3T}(l:Ng fr)(m:Ng j)(n:∀a∈Ez d h k,Ng a)(o:∀a∈Ez e c k,Ng a)(p:∀a∈Ez f i k,Ng a):∀g∈[Yh1 fr j d e f h c i k s],Gin g:=λg q=>by rw [List.mem_singleton.1 q];exact⟨l,m,show Ng (1:Int)from⟨O2,O2⟩,n,o,p⟩
def Ziw(s:S3T):∀g∈[Bg s],Gin g:=Zjh ⟨O2,O2⟩ ⟨O2,O2⟩ (Ok O2) (Ok O2) (Ok O2)
def Ydc(s:S3T):∀g∈[gv1 s],Gin g:=Zjh ⟨O2,O2⟩ ⟨O2,O2⟩ (Ok O2) (Ok O2) (Ok O2)
def Yn5(s:S3T):∀g∈[gv2 s],Gin g:=Zjh ⟨O2,O2⟩ ⟨O2,O2⟩ (Ok O2) (Ok O2) (Ok O2)
def gg_L(s:S3T):∀g∈[gvL s],Gin g:=Zjh ⟨O2,O2⟩ ⟨O2,O2⟩ (Ok O2) (Ok O2) (Ok O2)
theorem Zqh{q:GvT}{x:PT}(h:x∈gvs q):x=(q.2.1,[Bg q.1.1])\/x=(q.2.2.1,[gv1 q.1.2.1])\/x=(q.2.2.2,[gv2 q.1.2.2]):=by unfold gvs at h;simpa using h
theorem gvs_P(q:GvT):∀x∈gvs q,∀g∈x.2,Gin g:=λx a=>by
 rcases Zqh a with rfl|rfl|rfl
 .exact Ziw _
 .exact Ydc _
 .exact Yn5 _
theorem gvs_V(q:GvT):Zfa (gvs q)=true:=List.all_eq_true.2 λx a=>by
 rcases Zqh a with rfl|rfl|rfl
 .exact Ziv _
 .exact Yc9 _
 .exact gp_2 _
theorem gvs_L(q:GvT):∀x∈gvs q,x.2.length<=5:=λx a=>by rcases Zqh a with rfl|rfl|rfl<;>exact(by decide:(1:Nat)<=5)
theorem gvs_n(q:GvT):(gvs q).length<=64:=(by decide:(3:Nat)<=64)
theorem gcl_0(q:GvT):ClR 300 1 1 (gvs q) ((0,0,0,0),false,0):= .inl ⟨rfl,λj k d a e=>by
 have a:k<3:=a;have c:(j=0/\k=1)\/(j=0/\k=2)\/(j=1/\k=2):=O;rcases c with⟨rfl,rfl⟩|⟨rfl,rfl⟩|⟨rfl,rfl⟩
 .exact Yii _ _
 .exact ga_5 _ _
 .exact ga_6 _ _⟩
theorem gcl_1(q:GvT):ClR 301 1 1 (gvs q) ((0,1,0,1000),true,0):=by refine .inr ⟨0,1,O2,(by decide:(1:Nat)<3),clA_0,clB_0,ga_2 _ _,?_⟩;have a:Zaj (Nl 301 1 1 (pth (gvs q) 0) (pth (gvs q) 1))=(0,1000,true):=gf_3 _ _;have c:Ip (pth (gvs q) 0) (pth (gvs q) 1)=0:=Ydd _ _;unfold clV;rw [a,c];rfl
def gnr_L(s t:S3T):NrP [Bg s] [gvL t] (0,9):= .inr (.inl ⟨ge_L s t,gz_L s t,rfl⟩)
theorem Yhg{α:Type}{l:List α}(h:l.isEmpty=false):l≠[]:=λe=>by rw [e]at h;cases h
def gsp_0(s:S3T):spF [Bg s]=0:=rfl
def gsl_0(s:S3T):spL [Bg s]=1000:=rfl
theorem Yc7{a c:Int}(e:Ng a)(f:Ng b)(g:Ng c):∀x∈[a,b,c],Ng x:=λx d=>by simp only [List.mem_cons,List.not_mem_nil,or_false]at d;rcases d with rfl|rfl|rfl<;>assumption
theorem Zyf{l:List Int}(d:∀x∈l,Ng x)(f:l.length<=1000)(a:Zr gs=tzl l):Sz 1000000 (Zr gs)/\gs.length<=1000:=by have c:=congrArg List.length a;rw [Xk]at c;have e:=Mx l;refine⟨?_,O⟩;rw [a];exact(Sz.tzl (Zi4 d)).mono O
end Go.Sky

