/- Rules, arithmetic and contracts: part 20. No conditions but those that each theorem names. -/
import Derived.Test.YteikicbnfbgpnaaGreatEa18
set_option linter.all false
set_option maxHeartbeats 4000000
namespace Go.Sky
def lastB(ps:List Zo)(t:Int):Bool:=decide (spF ps<=t) && decide (t<=spL ps)
def exI(ps:List Zo)(t:Int):Nat:=ps.findIdx λg=>decide (t<=g.1.2.1)
def exA(ps:List Zo)(t:Int):Int:=t-(ps.getD (exI ps t) G0).1.1
def exD(ps:List Zo)(t:Int):Int:=(ps.getD (exI ps t) G0).1.2.1-(ps.getD (exI ps t) G0).1.1
def exO(ps:List Zo)(t:Int):Int:=(ps.getD (exI ps t) G0).1.2.2*exD ps t^5/gS (ps.getD (exI ps t) G0).1.2.2 (exA ps t) (exD ps t) (ps.getD (exI ps t) G0).2.1.2 (ps.getD (exI ps t) G0).2.2.1.2 (ps.getD (exI ps t) G0).2.2.2.2 3
def exL(ps:List Zo)(t:Int):List Int:=lowL ((ps.getD (exI ps t) G0).1.2.2*exD ps t^5) (mk 3 (plC (exA ps t) (exD ps t) (ps.getD (exI ps t) G0).2.1.2 (ps.getD (exI ps t) G0).2.2.1.2 (ps.getD (exI ps t) G0).2.2.2.2))
section
variable {P:Program} {N:Nat} {sc:Nat->Prop} {env:Pd} {H:Hp}
end
end Go.Sky
namespace Go.Sky
def exC(ps:List Zo)(t:Int)(c:List Int):Int:=pl c (exA ps t) (exD ps t)/gS (ps.getD (exI ps t) G0).1.2.2 (exA ps t) (exD ps t) (ps.getD (exI ps t) G0).2.1.2 (ps.getD (exI ps t) G0).2.2.1.2 (ps.getD (exI ps t) G0).2.2.2.2 3
def spX(g:Zo)(i:Nat)(s:Rat):Rat:=Zb (Zv i g.2.1.2 g.2.2.1.2 g.2.2.2.2) s
def exN(ps:List Zo)(t:Int)(i:Nat):Int:=exC ps t (Zv i (ps.getD (exI ps t) G0).2.1.2 (ps.getD (exI ps t) G0).2.2.1.2 (ps.getD (exI ps t) G0).2.2.2.2)
def rdN(ps:List Zo)(t:Int)(i:Nat):Int:=(exN ps t i+exN ps t i+exO ps t)/(exO ps t+exO ps t)
def rdL(ps:List Zo)(t:Int):Nat->List Int
 | 0=>[0,0,0]
 | i+1=>(rdL ps t i).set i (rdN ps t i)
structure AtB (n o:Int):Prop where
 b1:bl n.natAbs<=30000
 b2:bl o.natAbs<=30000
 n2:bl (n+n).natAbs<=30000
 o2:bl (o+o).natAbs<=30000
 s:bl (n+n+o).natAbs<=30000
 z:o+o≠0
 q:((n+n+o)/(o+o)).natAbs<=9223372036854775807
section
variable {P:Program} {N:Nat} {sc:Nat->Prop} {env:Pd} {H:Hp}
end
end Go.Sky
namespace Go.Sky
def SmP(g:Zo)(s:Rat)(h:Zo)(u:Rat):Prop:=∀i,i<3->spX g i s*(h.1.2.2:Rat)=spX h i u*(g.1.2.2:Rat)
def SmP.symm{g h:Zo}{s u:Rat}(e:SmP g s h u):SmP h u g s:=λi hi=>(e i hi).symm
def SmP.trans{g h k:Zo}{s u v:Rat}(a:(h.1.2.2:Rat)≠0)(e:SmP g s h u)(f:SmP h u k v):SmP g s k v:=λi hi=>by
 have b:=e i hi;have c:=f i hi;have:(spX g i s*(k.1.2.2:Rat)-spX k i v*(g.1.2.2:Rat))*(h.1.2.2:Rat)=0:=O4;rcases Rat.mul_eq_zero.1 this with q|q
 .grind
 .exact absurd q a
def sTm(g:Zo)(t:Int):Rat:=((t-g.1.1:Int):Rat)/((g.1.2.1-g.1.1:Int):Rat)
def cvS{D:Int}{a b:List Zo}(e:∀g∈a,Gin g)(f:∀g∈b,Gin g)(c:Qa a=true)(d:Qa b=true)(h:dsB D=true):∀g∈Np D 1 1 a b,Cvd g.2.2:=Yhf e f c d h (Zqm (Le a b a)) (Zqm (Le a b b))
section
variable {D n d:Int} {a b:List Zo} (hpa:∀g∈a,Gin g) (hpb:∀g∈b,Gin g) (hba:Qa a=true) (hbb:Qa b=true) (hz:znB D n d=true)
include hpa hpb hba hbb hz
end
end Go.Sky
namespace Go.Sky
variable{h:Int×Int}{D:Int}{i m:Nat}{zs:List Az}
def NrP(a b:List Zo)(g:Int×Int):Prop:=
 (Iq a b≠0/\g=(0,Iq a b))\/(Iq a b=0/\Np 0 1 1 a b=[]/\g=(0,9))\/
  (Iq a b=0/\Np 0 1 1 a b≠[]/\g.2=0/\0<=g.1/\g.1<=4194304/\∀k,1<=k->k<=4194304->Ct k 1 1 a b=decide (k<=g.1))
theorem Zr5{a b:List Zo}{g:Int×Int}(c:NrP a b g)(r:NrP a b h):g=h:=by
 rcases c with⟨c,rfl⟩|⟨c,k,rfl⟩|⟨c,k,s,w,x,p⟩<;>rcases r with⟨d,rfl⟩|⟨d,j,rfl⟩|⟨d,j,q,u,v,o⟩
 .rfl
 .exact absurd d c
 .exact absurd d c
 .exact absurd c d
 .rfl
 .exact absurd k j
 .exact absurd c d
 .exact absurd j k
 .obtain⟨n,e⟩:=g;obtain⟨m,t⟩:=h;dsimp only at *;subst s q;rcases Int.lt_trichotomy n m with h|h|h
  .have l:=p m O O;have f:=o m O O;rw [l,decide_eq_true (Int.le_refl m)]at f;have:=of_decide_eq_true f;omega
  .rw [h]
  .have l:=p n O O;have f:=o n O O;rw [l,decide_eq_true (Int.le_refl n)]at f;have:=of_decide_eq_true f.symm;omega
section
variable {a b:List Zo} (hpa:∀g∈a,Gin g) (hpb:∀g∈b,Gin g) (hba:Qa a=true) (hbb:Qa b=true)
include hpa hpb hba hbb
theorem ap_dn{E:Int}(c:0<=E)(d:E<=D)(e:D<=4194304)(h:Ct D 1 1 a b=true):Ct E 1 1 a b=true:=
 Ynb (cvS hpa hpb hba hbb (by unfold dsB;rw [decide_eq_true O,decide_eq_true O];rfl)) (cvS hpa hpb hba hbb (by unfold dsB;rw [decide_eq_true O,decide_eq_true O];rfl)) c d O3 O3 h
end
def NrS(a b:List Zo)(r:Nat):Prop:=r<=4194304/\(∀k,k<r->Ct ((k:Int)+1) 1 1 a b=true)/\∀k,r<=k->k<4194304->Ct ((k:Int)+1) 1 1 a b=false
def Ykz{a b:List Zo}{j:Nat}(l:i<=j/\j<=4194304)(f:¬i<j)(d:∀k,k<i->Ct ((k:Int)+1) 1 1 a b=true)(e:∀k,j<=k->k<4194304->Ct ((k:Int)+1) 1 1 a b=false):NrS a b i:=
 ⟨O,d,λk n c=>e k O c⟩
theorem nr_end{a b:List Zo}(q:zs.map unP=Np 0 1 1 a b)(c:¬Iq a b≠0)(o:¬zs.length=0)(h:NrS a b i):NrP a b ((i:Int),0):=by
 obtain⟨r,d,j⟩:=h;refine .inr (.inr ⟨Decidable.not_not.1 c,λe=>o ?_,rfl,O9,O9,λk l n=>?_⟩)
 .rw [<-List.length_map (f:=unP),q,e];rfl
 .obtain⟨m,rfl⟩:∃m:Nat,k=(m:Int)+1:=⟨(k-1).toNat,O⟩;by_cases p:m<i
  .rw [d m p,decide_eq_true O9]
  .rw [j m O O,decide_eq_false O9]
theorem ds_in{k:Int}(c:0<=k)(d:k<=4194304):dsB k=true:=by unfold dsB;rw [decide_eq_true c,decide_eq_true d];rfl
section
variable {a b:List Zo} (hpa:∀g∈a,Gin g) (hpb:∀g∈b,Gin g) (hba:Qa a=true) (hbb:Qa b=true)
include hpa hpb hba hbb
theorem nrS_t(d:m<4194304)(h:Ct ((m:Int)+1) 1 1 a b=true)(k:Nat)(c:k<m+1):Ct ((k:Int)+1) 1 1 a b=true:=ap_dn hpa hpb hba hbb (D:=(m:Int)+1) O O O h
theorem nrS_f(h:Ct ((m:Int)+1) 1 1 a b=false)(k:Nat)(d:m<=k)(c:k<4194304):Ct ((k:Int)+1) 1 1 a b=false:=by
 cases hc:Ct ((k:Int)+1) 1 1 a b with
 | false=>rfl
 | true=>rw [ap_dn hpa hpb hba hbb (D:=(k:Int)+1) (E:=(m:Int)+1) O O O hc]at h;cases h
end
theorem Yky{a b:List Zo}(e:zs.map unP=Np 0 1 1 a b)(c:¬Iq a b≠0)(d:zs.length=0):NrP a b (0,9):=by refine .inr (.inl ⟨Decidable.not_not.1 c,?_,rfl⟩);rw [<-e,List.eq_nil_of_length_eq_zero d];rfl
theorem nr_is{a b:List Zo}{g:Int×Int}{n:Int}(h:NrP a b g)(j:Iq a b=0)(p:Np 0 1 1 a b≠[])(s:1<=n/\n<4194304)(k:Ct n 1 1 a b=true)(l:Ct (n+1) 1 1 a b=false):g=(n,0):=by
 rcases h with⟨h,-⟩|⟨-,h,-⟩|⟨-,-,o,q,r,c⟩
 .exact absurd j h
 .exact absurd h p
 .obtain⟨m,e⟩:=g;dsimp only at *;subst o;have d:=c n O O;have f:=c (n+1) O O;rw [k]at d;rw [l]at f;have t:=of_decide_eq_true d.symm;have u:=of_decide_eq_false f.symm;rw [show m=n by omega]
theorem wt_9{a b:List Zo}{g:R2×Int}(h:WtP D a b g)(c:Iq a b=0)(d:Ct D 1 1 a b=true):g=((0,0),9):=by
 rcases h with⟨h,-⟩|⟨-,-,h⟩|⟨-,h,-⟩
 .exact absurd c h
 .exact h
 .rw [d]at h;cases h
def Yft(fr n d e f j c l k:Int)(s:SL×SL×SL):Zo:=((fr,n,1),(s.1,Ej d j k),(s.2.1,Ej e c k),(s.2.2,Ej f l k))
def Cx(s:SL×SL×SL):Zo:=Yft 0 1000 0 0 0 1000 0 0 1 s
def gv1(s:SL×SL×SL):Zo:=Yft 0 1000 1000 300 0 0 300 0 1 s
def gv2(s:SL×SL×SL):Zo:=Yft 500 2000 0 700 0 0 700 0 2 s
def gvL(s:SL×SL×SL):Zo:=Yft 1000 2000 0 0 0 1000 0 0 1 s
def gf_1:fmZ 300 1 1 1 1 (Ej 0 1000 1) (Ej 0 0 1) (Ej 0 0 1) (Ej 1000 0 1) (Ej 300 300 1) (Ej 0 0 1)=tzl [1,-4,4]:=O6
def gf_2:fmZ 400 1 1 1 1 (Ej 0 1000 1) (Ej 0 0 1) (Ej 0 0 1) (Ej 1000 0 1) (Ej 300 300 1) (Ej 0 0 1)=tzl [93,-400,400]:=O6
def gs_0:Hf 0 1000 1 (Ej 0 1000 1) (Ej 0 0 1) (Ej 0 0 1)=true:=O6
def gs_1:Hf 0 1000 1 (Ej 1000 0 1) (Ej 300 300 1) (Ej 0 0 1)=true:=O6
section
variable (s t:SL×SL×SL)
def Zhp:Qa [Cx s]=true:=O5
def Ybd:Qa [gv1 s]=true:=O5
def gp_2:Qa [gv2 s]=true:=O5
def gp_L:Qa [gvL s]=true:=O5
def Ybh:Iq [Cx s] [gv1 t]=0:=O5
def ge_2:Iq [Cx s] [gv2 t]=0:=O5
def ge_L:Iq [Cx s] [gvL t]=0:=O5
def gz_L:Np 0 1 1 [Cx s] [gvL t]=[]:=O5
def gz_1:(Np 0 1 1 [Cx s] [gv1 t]).isEmpty=false:=O5
def gz_2:(Np 0 1 1 [Cx s] [gv2 t]).isEmpty=false:=O5
def Yf7:Ct 300 1 1 [Cx s] [gv1 t]=true:=O5
def ga_2:Ct 301 1 1 [Cx s] [gv1 t]=false:=O5
def ga_3:Ct 860 1 1 [Cx s] [gv2 t]=true:=O5
def ga_4:Ct 861 1 1 [Cx s] [gv2 t]=false:=O5
def ga_5:Ct 300 1 1 [Cx s] [gv2 t]=true:=O5
def ga_6:Ct 300 1 1 [gv1 s] [gv2 t]=true:=O5
def gz_3:Np 860 1 1 [Cx s] [gv2 t]=[(500,1000,tzl [1,1250,625])]:=O5
def gf_3:Ax (Np 301 1 1 [Cx s] [gv1 t])=(0,1000,true):=O5
end
end Go.Sky
namespace Go.Sky
open Go.Proofs.Tryz
open Go.Proofs
set_option synthInstance.maxHeartbeats 0
set_option synthInstance.maxSize 100000
set_option maxRecDepth 20000
set_option maxHeartbeats 1000000
set_option linter.unusedSimpArgs false
variable{u:Value}{M0:Nat->Prop}
theorem Bt(x:Int)(b:Qe x):Qi prog 98 #[.int .i64 x,.int .i64 1] [] (.agg #[.bool (decide (x<0)),.string (Xy (x).natAbs),.bool (decide ((1:Int)<0)),.string (Xy ((1:Int)).natAbs)]):=by refine Zf func98 ntmps98 λg f e a=>go 2 ?_;refine Yp (Zz 1) λd _=>go 6 ?_;refine cl 1 [] (Zeb x 1 b ⟨O3,O3⟩ O3) λ_ _=>go 3 ?_;refine Yp (Zz 2) λc _=>go 11 ?_;exact Xu a () results98 (by rw [(Yd2 b).1,(Yd2 b).2]) trivial Za
theorem Ydp(va vb:Value)(F H:List Zo)(W:Int)(y:∀g∈F,Gin g)(S:∀g∈H,Gin g)(v:Qa F=true)(R:Qa H=true)(Y:F.length<=5)(Z:H.length<=5)(V:dsB W=true):Cal prog 43 #[va,vb,.int .i64 W] [Qq 6 Po qG va F,Qq 6 Po qG vb H] false (G:=R2×Int) (λg=>WtP W F H g) (λg=>wtV g) (λg=>[]):=by
 refine Zil func43 J ntmps43 J K2 ?_;intro w0 sc hw z;have hw:=Hw.mk hw;simp only [Qp,Yu];refine go 2 ?_;refine Yp (Zz 3) λP _=>Yp (Zz 4) λe _=>go 7 ?_;refine cl 5 [1,2] (Zh4 _ _ _ _ _ y S v R Y Z V) λQ d=>go 14 ?_;refine Zc J (λm=>?_) (λm=>?_)
 .have o:=m;refine go 2 ?_;refine dt (Qv (ivs:=[]) J trivial (λa w hs=>Zwc))<|go 7 ?_;exact fk_of<|Me z ((0,0),Iq F H) results43 J (.inl ⟨o,J⟩) Za
 .have o:=m;refine go 6 ?_;refine cl 6 [5] (Zuk _ _) λb _=>go 3 ?_;refine Zyr (pre:=[Kd b 50 #[Q.1],Qq 3 Cd qGp Q.1 Q.2]) (w0:=w0) (λ(k:Nat) (_:Unit)=>[(0,Ym w0 (λ_=>False)),(3,box P 82 #[.bool false,.string ⟨#[]⟩,.bool false,.string ⟨#[]⟩]),(4,box e 26 #[.int .i64 0])]) (λk _=>k=0) (λ(s:R2)=>[(0,Ym w0 (λ_=>False)),(3,box P 82 #[.bool (decide (s.1<0)),.string (Xy (s.1).natAbs),.bool (decide (s.2<0)),.string (Xy (s.2).natAbs)]),(4,box e 26 #[.int .i64 0])]) (λs=>WtP W F H (s,0)) () J (by intro r w;first|exact enters_of func162 O5 rfl r w|exact call162 r w) (Znf Q.1 Q.2 b (Zpm y S v R V d)) ?_ (λ_ _=>J) J hw.h J J K3 (λ_ _=>⟨J,J⟩) (λ_=>⟨J,J⟩) (λk x c _ B t l Mf Wa=>?_) J (λ_ t D od=>?_) (λs a0=>?_)
  .intro p hp;simp only [List.mem_cons,List.not_mem_nil,or_false]at hp;rcases hp with rfl|rfl
   .exact⟨J,6,J⟩
   .exact⟨J,5,J⟩
  .refine Zd4 (env':=[(6,_),(7,_),(27,_),(28,_)]) (H':=[(92,Ym Wa Mf),(100,Ygi (Fnd x.2.2 (qv (0,1)) (qv (1,1)) c)),(0,Ym w0 (λ_=>False)),(3,box P 82 #[.bool false,.string ⟨#[]⟩,.bool false,.string ⟨#[]⟩]),(4,box e 26 #[.int .i64 0])]) (λa w hs=>hs.weaken ⟨J,J,J,J,trivial⟩ ⟨J,J,J,J,J,trivial⟩)<|Ij<|Ik J<|Yp (Zz 7) λa2 _=>go 1 ?_;refine Cc (Zdn ?_);refine Hb<|Ik J<|Yp (Zz 8) λa3 _=>go 1 ?_;refine Cc (Zdn ?_);refine x_ra [(6,_),(7,_),(10,_),(11,_)] [(0,_),(3,_),(4,_),(100,_),(7,_),(8,_)] K4 K7 J (λq h=>by cases h;rfl) ⟨.inr (λb j=>⟨0,_,J,j⟩),.inl J,.inl J,.inr (λb j=>⟨100,_,J,j⟩),.inl J,.inl J,trivial⟩ λWb a7=>?_;refine Ylq (f_fct 100 J) (λf=>?_);have a1:=gap_t y v d (List.mem_filter.1 (List.mem_of_getElem? B)).1;obtain⟨I,M,N⟩:=wt_m a1 f;refine Zao<|Ij<|Zfn [7,8] [13] J<|Ze (n:=8) [(0,0),(1,0),(2,0),(3,0),(4,0),(5,0)]<|go 7 ⟨O,?_⟩;refine Xt (n:=7) 6 11 ?_ ?_
   .refine Oc (Zm 8 [] (Bt (x.1.2-x.1.1) ⟨O,O⟩)) λ_ _=>?_;refine Xt (n:=6) 7 11 ?_ ?_
    .refine Oc (Zm 8 [] (Ka c.1 c.2 (x.1.2-x.1.1) 1 (Nat.le_trans f.b1 O3) (Nat.le_trans f.b2 O3) (Nat.le_trans (Li ⟨O,O⟩) O3) O6 f.lw.1)) λ_ _=>?_;refine Ze (n:=0) [(8,0),(9,0),(10,0),(11,1),(12,1),(13,3)]<|go 3 ?_;refine Yz (Qs 9) λa4 ho=>go 3 ?_;refine Zp<|Hb<|Ij<|Zfn [7] [] J<|Ze (n:=7) [(1,0),(2,0)]<|go 3 ?_;refine Xt (n:=6) 0 3 ?_ ?_
     .refine Og J (Lh (Yha (i:=9) J J J isAgg82 sizeOf82 J J J J) J) (λ_ _=>?_);refine Ze (n:=0) [(3,1),(4,1),(5,0),(6,0),(7,0),(8,1)]<|Yz (Zm 9 [] (Bt x.1.1 ⟨O,O⟩)) λ_ _=>Yz (Zm 9 [] (Kb (wtM x c).1 (wtM x c).2 x.1.1 1 (Nat.le_trans I O3) (Nat.le_trans M O3) (Nat.le_trans (Li ⟨O,O⟩) O3) O6 N)) λ_ _=>go 5 ?_;refine Zp<|Hb<|Ij<|Ik J<|go 3 ?_;refine Cc (Zdn ?_);refine Hb<|Ak<|go 1 ?_;exact Zm3 (wtT x c) (Zlt d o B f) ⟨.inr (λb j=>⟨0,_,J,j⟩),.inl J,.inl J,trivial⟩ K4
     .refine Oc (Zm 9 [] (Bt x.1.1 ⟨O,O⟩)) λ_ _=>?_;refine Ze (n:=0) [(0,1),(4,1),(5,0),(6,0),(7,0),(8,1)]<|go 1 ?_;refine Yz (Zm 9 [] (Kb (wtM x c).1 (wtM x c).2 x.1.1 1 (Nat.le_trans I O3) (Nat.le_trans M O3) (Nat.le_trans (Li ⟨O,O⟩) O3) O6 N)) λ_ _=>go 5 ?_;refine Zp<|Hb<|Ij<|Ik J<|go 3 ?_;refine Cc (Zdn ?_);refine Hb<|Ak<|go 1 ?_;exact Zm3 (wtT x c) (Zlt d o B f) ⟨.inr (λb j=>⟨0,_,J,j⟩),.inl J,.inl J,trivial⟩ K4
    .refine Oc (Qs 10) λa5 a8=>?_;refine Ze (n:=0) [(7,1),(8,0),(9,0),(10,0),(12,1),(13,3)]<|Yz (Zm 10 [] (Ka c.1 c.2 (x.1.2-x.1.1) 1 (Nat.le_trans f.b1 O3) (Nat.le_trans f.b2 O3) (Nat.le_trans (Li ⟨O,O⟩) O3) O6 f.lw.1)) λ_ _=>go 6 ?_;refine Zp<|Hb<|Ij<|Zfn [7] [] J<|Ze (n:=7) [(1,0),(2,0)]<|go 3 ?_;refine Xt (n:=6) 0 3 ?_ ?_
     .refine Og J (Lh (Yha (i:=10) J J J isAgg82 sizeOf82 J J J J) J) (λ_ _=>?_);refine Ze (n:=0) [(3,1),(4,1),(5,0),(6,0),(7,0),(8,1)]<|Yz (Zm 10 [] (Bt x.1.1 ⟨O,O⟩)) λ_ _=>Yz (Zm 10 [] (Kb (wtM x c).1 (wtM x c).2 x.1.1 1 (Nat.le_trans I O3) (Nat.le_trans M O3) (Nat.le_trans (Li ⟨O,O⟩) O3) O6 N)) λ_ _=>go 5 ?_;refine Zp<|Hb<|Ij<|Ik J<|go 3 ?_;refine Cc (Zdn ?_);refine Hb<|Ak<|go 1 ?_;exact Zm3 (wtT x c) (Zlt d o B f) ⟨.inr (λb j=>⟨0,_,J,j⟩),.inl J,.inl J,trivial⟩ K4
     .refine Oc (Zm 10 [] (Bt x.1.1 ⟨O,O⟩)) λ_ _=>?_;refine Ze (n:=0) [(0,1),(4,1),(5,0),(6,0),(7,0),(8,1)]<|go 1 ?_;refine Yz (Zm 10 [] (Kb (wtM x c).1 (wtM x c).2 x.1.1 1 (Nat.le_trans I O3) (Nat.le_trans M O3) (Nat.le_trans (Li ⟨O,O⟩) O3) O6 N)) λ_ _=>go 5 ?_;refine Zp<|Hb<|Ij<|Ik J<|go 3 ?_;refine Cc (Zdn ?_);refine Hb<|Ak<|go 1 ?_;exact Zm3 (wtT x c) (Zlt d o B f) ⟨.inr (λb j=>⟨0,_,J,j⟩),.inl J,.inl J,trivial⟩ K4
   .refine Oc (Qs 11) λa6 a9=>?_;refine Ze (n:=0) [(6,1),(7,1),(8,0),(9,0),(10,0),(12,1),(13,3)]<|Yz (Zm 11 [] (Bt (x.1.2-x.1.1) ⟨O,O⟩)) λ_ _=>Yz (Zm 11 [] (Ka c.1 c.2 (x.1.2-x.1.1) 1 (Nat.le_trans f.b1 O3) (Nat.le_trans f.b2 O3) (Nat.le_trans (Li ⟨O,O⟩) O3) O6 f.lw.1)) λ_ _=>go 6 ?_;refine Zp<|Hb<|Ij<|Zfn [7] [] J<|Ze (n:=7) [(1,0),(2,0)]<|go 3 ?_;refine Xt (n:=6) 0 3 ?_ ?_
    .refine Og J (Lh (Yha (i:=11) J J J isAgg82 sizeOf82 J J J J) J) (λ_ _=>?_);refine Ze (n:=0) [(3,1),(4,1),(5,0),(6,0),(7,0),(8,1)]<|Yz (Zm 11 [] (Bt x.1.1 ⟨O,O⟩)) λ_ _=>Yz (Zm 11 [] (Kb (wtM x c).1 (wtM x c).2 x.1.1 1 (Nat.le_trans I O3) (Nat.le_trans M O3) (Nat.le_trans (Li ⟨O,O⟩) O3) O6 N)) λ_ _=>go 5 ?_;refine Zp<|Hb<|Ij<|Ik J<|go 3 ?_;refine Cc (Zdn ?_);refine Hb<|Ak<|go 1 ?_;exact Zm3 (wtT x c) (Zlt d o B f) ⟨.inr (λb j=>⟨0,_,J,j⟩),.inl J,.inl J,trivial⟩ K4
    .refine Oc (Zm 11 [] (Bt x.1.1 ⟨O,O⟩)) λ_ _=>?_;refine Ze (n:=0) [(0,1),(4,1),(5,0),(6,0),(7,0),(8,1)]<|go 1 ?_;refine Yz (Zm 11 [] (Kb (wtM x c).1 (wtM x c).2 x.1.1 1 (Nat.le_trans I O3) (Nat.le_trans M O3) (Nat.le_trans (Li ⟨O,O⟩) O3) O6 N)) λ_ _=>go 5 ?_;refine Zp<|Hb<|Ij<|Ik J<|go 3 ?_;refine Cc (Zdn ?_);refine Hb<|Ak<|go 1 ?_;exact Zm3 (wtT x c) (Zlt d o B f) ⟨.inr (λb j=>⟨0,_,J,j⟩),.inl J,.inl J,trivial⟩ K4
  .refine dt (Qv (ivs:=[]) J trivial (λa w hs=>Zwc))<|go 3 ?_;refine Zzv λa w hs=>⟨J,[(6,.pointer (some ⟨P,0,none⟩)),(7,.pointer (some ⟨e,0,none⟩))],[(0,Ym w0 (λ_=>False)),(3,box P 82 #[.bool false,.string ⟨#[]⟩,.bool false,.string ⟨#[]⟩]),(4,box e 26 #[.int .i64 9])],J,⟨⟨_,J,J,λ_ h=>h⟩,⟨_,J,J,λ_ h=>h⟩,⟨_,J,J,λ_ h=>h⟩,trivial⟩,hs.weaken ⟨J,J,trivial⟩ ⟨J,J,J,J,trivial⟩,?_⟩;exact Me z ((0,0),9) results43 J (wt_no d o t) Za
  .exact Me z (s,0) results43 J a0 Za
theorem Yae(n:Nat)(z:Nat)(N:n<=64):Ybz prog 175 [.pointer (some ⟨z,0,none⟩)] [Kd z 3 #[.int .i64 (n:Int)]] (α:=Nat×Nat) (G:=Unit) (prs n) (λc g=>[.int .i64 (c.1:Int),.int .i64 (c.2:Int)]) (λc g=>[]):=by
 refine Zpy func175 J ntmps175 J K1 ?_;intro l M x I w P H o j b s B;simp only [Qp,Yu];have r:=Hw.mk H;refine Ylv<|go 1 ?_;refine Ylw<|go 8 ?_;refine lp (G:=Nat×World) [0,1,5] [1] (λq=>[(6,.int .i64 (q.1:Int))]) (λq=>[(0,Ym q.2 (λ_=>False))]) (λq=>(q.1<=n)/\(x (prU n q.1).length q.2)/\(w.heap.size<=q.2.heap.size)) (λq=>n-q.1) (0,w) ⟨O1,s,Nat.le_refl _⟩ K1 K1 ?_;rintro⟨i,W⟩ ⟨hi,a,d⟩;dsimp only at hi a d;dsimp only;have v:=Zyf r d;refine go 6 ?_;refine Zc J (λf=>?_) (λf=>?_)
 .refine go 18 ⟨O,?_⟩;refine lp (G:=Nat×World) [0,1,3,5,6] [1] (λq=>[(4,.int .i64 (q.1:Int))]) (λq=>[(0,Ym q.2 (λ_=>False))]) (λq=>(i+1<=q.1)/\(q.1<=n)/\(x ((prU n i).length+(q.1-(i+1))) q.2)/\(w.heap.size<=q.2.heap.size)) (λq=>n-q.1) (i+1,W) ⟨O1,O1,by rw [Nat.sub_self];exact a,d⟩ K1 K1 ?_;rintro⟨k,V⟩ ⟨t,D,a,d⟩;dsimp only at t D a d;dsimp only;have v:=Zyf r d;refine go 8 ?_;refine Zc J (λh=>?_) (λh=>?_)
  .refine go 5 ?_;refine Ybj<|Mc (Ay J J) J<|Mc (Ay J J) J<|Mc (Ay J J) J<|Zsd (pre:=[_]) (vs:=[_,_]) _ (i,k) () B (Yek O O O) a d o J J J J J K2 J J (λp F=>by cases F) K1 K1 (λy e m=>?_) (λy e m=>?_)
   .simp only [Yu];refine Mc (dF (Xp J J) J) J<|Dz<|go 10 ⟨O,?_⟩;exact Xb (k+1,y) ⟨O1,O1,by rw [show(prU n i).length+(k+1-(i+1))=((prU n i).length+(k-(i+1)))+1 from by omega];exact e,m⟩ O1 K1 K1
   .simp only [Yu];refine Mc (dT (Xp J J) J) J<|Dz<|go 11 ?_;exact x_ngn<|Zax (.inr J) J J j b (.inr e)
  .refine go 10 ⟨O,?_⟩;exact Xb (i+1,V) ⟨O1,by rw [pr_len,show n=k by omega];rw [show n=k by omega]at a;exact a,d⟩ O1 K1 K1
 .obtain rfl:i=n:=O;refine go 4 ?_;exact x_ngn<|Zax (.inr J) J J j b (.inl a)
theorem Ydn(n:Nat):Cal prog 109 #[.int .i64 (n:Int)] [] true (G:=Nat) (λg=>True) (λg=> .func (.func 175) #[] #[.pointer (some ⟨g,0,none⟩)]) (λg=>[Kd g 3 #[.int .i64 (n:Int)]]):=by refine Zf func109 ntmps109 λe d c a=>go 2 ?_;refine Yp (Yt 1) λb _=>go 5 ?_;refine dt (Ztb (vs:=[]) (us:=[_]) J trivial K1)<|go 4 ?_;exact Yd (Zdu 1 J J)<|Xu a _ results109 J trivial (Nb 1 Za)
theorem Yaf(v:Value)(ps:List Zo)(b:∀g∈ps,Gin g):Qi prog 108 #[v] [Qq 6 Po qG v ps] (.bool (!Qa ps)):=by refine Zf func108 ntmps108 λe d c a=>go 8 ?_;refine cl 1 [1] (Ht _ _ b) λ_ _=>go 5 ?_;exact Xu a () results108 J trivial Za
theorem Yfv(v:Value)(b:List PT)(o:∀x∈b,∀g∈x.2,Gin g):Cal prog 174 #[v,.func (.func 108) #[] #[]] [Qq 1 Zkq qP v b] false (G:=Int) (λr=>decide (r>=0)=!Zeh b) (λr=> .int .i64 r) (λr=>[]):=by
 refine Zf func174 ntmps174 λs q p e=>?_;refine Ok (Iw (i:=1) J Zg) λl=>go 14 ?_;refine lp (G:=Nat) [0,1,7] [0,1] (λi=>[(8,.int .i64 (i:Int))]) (λi=>[]) (λi=>(i<=b.length)/\(∀j,j<i->Qa (pth b j)=true)) (λi=>b.length-i) 0 ⟨O1,λj h=>absurd h (Nat.not_lt_zero j)⟩ K1 trivial ?_;rintro i ⟨hi,m⟩;refine go 6 ?_;refine Zc J (λd=>?_) (λd=>?_)
 .refine go 11 ?_;refine Zi (Ie 1 55 (b.getD i PT0) J J (Zj) J)<|go 4 ?_;refine dt (Yh (ii:=1) (i:=i) J J J J Zg Zz0 sizeOf38 J)<|dt (Qt (ii:=1) PT0 J J J Zg pPq)<|tt (Zwv (n:=1) (fs:=[]) (vs:=[_]) (us:=[]) (Yaf _ _ (o _ (Zj))) J J J J K1 call108 (Zh 55 J J J Zn) J p.h) λ_ _=>go 2 ?_;refine My J (λa=>?_) (λa=>?_)
  .have c:=a;refine go 12 ?_;exact Xu e (i:Int) results174 J (by rw [vidx_t O (Zv3 c)];exact decide_eq_true (Int.natCast_nonneg i)) Za
  .have c:=a;refine go 7 ⟨O,?_⟩;exact Xb (i+1) ⟨O1,λj h=>by rcases Nat.lt_succ_iff_lt_or_eq.1 h with f|f;exact m j f;subst f;exact Zv4 c⟩ O1 K1 trivial
 .obtain rfl:i=b.length:=O;refine go 11 ?_;exact Xu e (-1) results174 J (by rw [Yca (Nat.le_refl _) (λk h _=>m k h)];rfl) Za
theorem Yhz(v:Value)(a:List PT)(d:∀x∈a,∀g∈x.2,Gin g):Qi prog 107 #[v,.func (.func 108) #[] #[]] [Qq 1 Zkq qP v a] (.bool (!Zeh a)):=by refine Zf func107 ntmps107 λi h e c=>go 9 ?_;refine cl 1 [1] (Yfv _ a d) λf b=>go 5 ?_;exact Xu c () results107 (by rw [b]) trivial Za
theorem Zra(v:Value)(c:List PT)(F:Int)(S:∀x∈c,∀g∈x.2,Gin g)(V:Zeh c=true)(hL:∀x∈c,x.2.length<=5)(hn:c.length<=64)(P:dsB F=true):Cal prog 48 #[v,.int .i64 F] [Qq 1 Zkq qP v c] false (G:=ClT) (λr=>ClR F 1 1 c r) (λr=>clE r) (λr=>[]):=by
 refine Zil func48 J ntmps48 J K1 ?_;intro w0 sc hw Y;have hw:=Hw.mk hw;simp only [Qp,Yu];refine Ok (Iw (i:=1) J Zg) (λa9=>?_);refine Zgr (Yc 1 J Zg) (λM a4=>?_);subst a4;refine go 2 ?_;refine Yp (Yt 2) λbx _=>Yp (Yt 3) λy _=>Yp (Zz 4) λd _=>Yp (Zz 5) λe _=>Yp (Zz 6) λf _=>go 7 ?_;refine cl 6 [] (Zeu _) λ_ _=>?_;refine dt (dF (Xp J J) (congrArg (λb=>Value.bool (!b)) P))<|go 2 ?_;refine Eh 6 [1] (Yhz _ c S) λ_ _=>?_;refine kf (by rw [V];rfl)<|go 8 ?_;refine kf (decide_eq_false O)<|go 12 ?_;refine cl 7 [] (Ydn c.length) λb _=>go 3 ?_;refine Zyr (pre:=[Kd b 3 #[.int .i64 (c.length:Int)]]) (w0:=w0) (λ(k:Nat) (_:Unit)=>[(0,Ym w0 (λ_=>False)),(1,Qq 1 Zkq qP (Yy M) c),(2,box bx 61 #[Yy M]),(3,box y 3 #[.int .i64 F]),(4,box d 64 #[.int .i64 0,.int .i64 0,.int .i64 0,.int .i64 0]),(5,box e 4 #[.bool false]),(6,box f 26 #[.int .i64 0])]) (λk _=>PrI F c k) (λ(B:ClT)=>[(0,Ym w0 (λ_=>False)),(4,box d 64 #[.int .i64 B.1.1,.int .i64 B.1.2.1,.int .i64 B.1.2.2.1,.int .i64 B.1.2.2.2]),(5,box e 4 #[.bool B.2.1]),(6,box f 26 #[.int .i64 B.2.2])]) (λB=>ClR F 1 1 c B) () J (by intro o w;first|exact enters_of func175 O5 rfl o w|exact call175 o w) (Yae c.length b O) ?_ (λ_ _=>J) J hw.h J (λj p h _=>absurd h (Nat.not_lt_zero j)) K7 (λ_ _=>⟨J,J⟩) (λ_=>⟨J,J⟩) (λk x gi _ hx s l Mf Wa=>?_) J (λ_ s D od=>?_) (λB a6=>?_)
 .intro p W;simp only [List.mem_cons,List.not_mem_nil,or_false]at W;rcases W with rfl;exact⟨J,7,J⟩
 .refine Zd4 (env':=[(2,_),(3,_),(4,_),(5,_),(6,_),(29,_),(30,_)]) (H':=[(92,Ym Wa Mf),(0,Ym w0 (λ_=>False)),(1,Qq 1 Zkq qP (Yy M) c),(2,box bx 61 #[Yy M]),(3,box y 3 #[.int .i64 F]),(4,box d 64 #[.int .i64 0,.int .i64 0,.int .i64 0,.int .i64 0]),(5,box e 4 #[.bool false]),(6,box f 26 #[.int .i64 0])]) (λa w hs=>hs.weaken ⟨J,J,J,J,J,J,J,trivial⟩ ⟨J,J,J,J,J,J,J,J,trivial⟩)<|Ij<|Ik J<|Yp (Zz 8) λH _=>go 1 ?_;refine Cc (Zdn ?_);refine Hb<|Ik J<|Yp (Zz 9) λI _=>go 1 ?_;refine Cc (Zdn ?_);refine x_ra [(2,_),(3,_),(4,_),(5,_),(6,_),(7,_),(8,_)] [(0,_),(1,_),(2,_),(3,_),(4,_),(5,_),(6,_),(8,_),(9,_)] K7 K10 J (λq h=>by cases h;rfl) ⟨.inr (λb m=>⟨0,_,J,m⟩),.inr (λb m=>⟨1,_,J,m⟩),.inl J,.inl J,.inl J,.inl J,.inl J,.inl J,.inl J,trivial⟩ λWb a3=>?_;obtain⟨-,b1,b2⟩:=Zuu (List.mem_of_getElem? hx);refine Zao<|Ij<|Zd4 (Ie 1 55 (c.getD x.1 PT0) J J (Zj (show x.1<c.length by omega)) J)<|Zd4 (Ie 1 56 (c.getD x.2 PT0) J J (Zj (show x.2<c.length by omega)) J)<|Ylr (λ_=>False) [(0,0),(1,0),(2,0),(3,0),(4,0),(5,0),(6,0),(7,0),(8,0),(9,1),(10,0),(11,0),(12,0),(13,0),(14,3)] O5 J O5<|go 2 ?_;refine Qd J J (Qj (Yh (ii:=1) (i:=x.1) J J J J Zg Zz0 sizeOf38 J))<|Qd J J (Qj (Qt (ii:=1) PT0 J J J Zg pPq))<|go 2 ?_;refine Qd J J (Qj (Yh (ii:=1) (i:=x.2) J J J J Zg Zz0 sizeOf38 J))<|Qd J J (Qj (Qt (ii:=1) PT0 J J J Zg pPq))<|go 1 ?_;refine Yz (Zm 10 [55,56] (Zxa _ _ _ _ _ (S _ (Zj (show x.1<c.length by omega))) (S _ (Zj (show x.2<c.length by omega))) (Zeg V (Zj (show x.1<c.length by omega))) (Zeg V (Zj (show x.2<c.length by omega))) (hL _ (Zj (show x.1<c.length by omega))) (hL _ (Zj (show x.2<c.length by omega))) P)) λR N=>go 6 ?_;refine Hb<|Ij<|Ij<|Ik J<|go 2 ?_;refine Cc (Zdn ?_);refine Hb<|Yls J (λz=>?_) (λz=>?_)
  .have h9:=z;refine Ij<|Ik J<|dt (Qv (ivs:=[]) J trivial (λa w hs=>b64_))<|go 4 ?_;refine Cc (Zdn ?_);refine Hb<|Ak<|go 2 ?_;exact Zm3 ((0,0,0,0),false,Iq (c.getD x.1 PT0).2 (c.getD x.2 PT0).2) (Ykm s hx h9) ⟨.inr (λb m=>⟨0,_,J,m⟩),.inl J,.inl J,.inl J,trivial⟩ K5
  .have h9:=z;refine Ygo<|Hb<|Ij<|Ik J<|go 1 ?_;refine cl 11 [10] (Zuk _ _) λQ _=>?_;refine Cc (Zdn ?_);refine Hb<|Zao<|er_rfi (pre:=[Kd Q 50 #[R.1],Qq 3 Cd qGp R.1 R.2]) (w0:=w0) (λ(k2:Nat) (_:Unit)=>[(0,Ym w0 (λ_=>False)),(92,Ym Wb Mf),(1,Qq 1 Zkq qP (Yy M) c),(2,box bx 61 #[Yy M]),(3,box y 3 #[.int .i64 F]),(4,box d 64 #[.int .i64 0,.int .i64 0,.int .i64 0,.int .i64 0]),(5,box e 4 #[.bool false]),(6,box f 26 #[.int .i64 0]),(8,box H 3 #[.int .i64 (x.1:Int)]),(9,box I 3 #[.int .i64 (x.2:Int)])]) (λk2 _=>k2=0) (λ(n:ClT)=>[(0,Ym w0 (λ_=>False)),(92,Ym Wb Mf),(4,box d 64 #[.int .i64 n.1.1,.int .i64 n.1.2.1,.int .i64 n.1.2.2.1,.int .i64 n.1.2.2.2]),(5,box e 4 #[.bool n.2.1]),(6,box f 26 #[.int .i64 n.2.2])]) (λn=>ClR F 1 1 c n) () a3 J J (by intro o w;first|exact enters_of func162 O5 rfl o w|exact call162 o w) (Znf R.1 R.2 Q (Zpm (S _ (Zj (show x.1<c.length by omega))) (S _ (Zj (show x.2<c.length by omega))) (Zeg V (Zj (show x.1<c.length by omega))) (Zeg V (Zj (show x.2<c.length by omega))) P N)) ?_ (λ_ _=>J) J hw.h J J K10 (λ_ _=>⟨J,J⟩) (λ_=>⟨J,J⟩) (λk2 x2 a2 _ a5 t l2 a0 a1=>?_) (λ_ t=>?_) (λn Z=>?_)
   .intro p W;simp only [List.mem_cons,List.not_mem_nil,or_false]at W;rcases W with rfl|rfl
    .exact⟨J,11,J⟩
    .exact⟨J,10,J⟩
   .refine Zd4 (env':=[(4,_),(5,_),(6,_),(7,_),(8,_),(50,_)]) (H':=[(93,Ym a1 a0),(100,Ygi (Fnd x2.2.2 (qv (0,1)) (qv (1,1)) a2)),(0,Ym w0 (λ_=>False)),(92,Ym Wb Mf),(1,Qq 1 Zkq qP (Yy M) c),(2,box bx 61 #[Yy M]),(3,box y 3 #[.int .i64 F]),(4,box d 64 #[.int .i64 0,.int .i64 0,.int .i64 0,.int .i64 0]),(5,box e 4 #[.bool false]),(6,box f 26 #[.int .i64 0]),(8,box H 3 #[.int .i64 (x.1:Int)]),(9,box I 3 #[.int .i64 (x.2:Int)])]) (λa w hs=>hs.weaken ⟨J,J,J,J,J,J,trivial⟩ ⟨J,J,J,J,J,J,J,J,J,J,J,J,trivial⟩)<|Ik J<|Yp (Zz 12) λa7 _=>go 1 ?_;refine Cc (Zdn ?_);refine x_ra [(4,_),(5,_),(6,_),(7,_),(8,_),(11,_)] [(0,_),(92,_),(1,_),(2,_),(3,_),(4,_),(5,_),(6,_),(8,_),(9,_),(100,_),(12,_)] K6 K13 J (λq h=>by cases h;rfl) ⟨.inr (λb m=>⟨0,_,J,m⟩),.inr (λb m=>⟨92,_,J,m⟩),.inr (λb m=>⟨1,_,J,m⟩),.inl J,.inl J,.inl J,.inl J,.inl J,.inl J,.inl J,.inr (λb m=>⟨100,_,J,m⟩),.inl J,trivial⟩ λb0 a8=>?_;refine Zao<|Ij<|Ik J<|go 6 ?_;refine dt (Qv (ivs:=[(0,_),(1,_),(2,_),(3,_)]) J K8 (λa w hs=>Zle ((Yk J) a w hs) ((Yk J) a w hs) ((Yk J) a w hs) ((Yk J) a w hs)))<|go 3 ?_;refine Cc (Zdn ?_);refine Hb<|Ak<|go 1 ?_;exact Zm3 (((x.1:Int),(x.2:Int),x2.1.1,x2.1.2),true,0) (Ykl s hx h9 N t a5) ⟨.inr (λb m=>⟨0,_,J,m⟩),.inr (λb m=>⟨92,_,J,m⟩),.inl J,.inl J,.inl J,trivial⟩ K6
   .refine go 2 ?_;exact xq_rn () (prI_s s hx (Zp5 N h9 t)) ⟨.inr (λb m=>⟨0,_,J,m⟩),.inr (λb m=>⟨1,_,J,m⟩),.inl J,.inl J,.inl J,.inl J,.inl J,trivial⟩ K8
   .refine go 2 ?_;exact Zm3 n Z ⟨.inr (λb m=>⟨0,_,J,m⟩),.inl J,.inl J,.inl J,trivial⟩ K5
 .refine dt (Qv (ivs:=[]) J trivial (λa w hs=>b64_))<|go 4 ?_;refine Zzv λa w hs=>⟨J,[(4,.pointer (some ⟨d,0,none⟩)),(5,.pointer (some ⟨e,0,none⟩)),(6,.pointer (some ⟨f,0,none⟩))],[(0,Ym w0 (λ_=>False)),(4,box d 64 #[.int .i64 0,.int .i64 0,.int .i64 0,.int .i64 0]),(5,box e 4 #[.bool false]),(6,box f 26 #[.int .i64 0])],J,⟨⟨_,J,J,λ_ h=>h⟩,⟨_,J,J,λ_ h=>h⟩,⟨_,J,J,λ_ h=>h⟩,⟨_,J,J,λ_ h=>h⟩,trivial⟩,hs.weaken ⟨J,J,J,trivial⟩ ⟨J,J,J,J,J,trivial⟩,?_⟩;exact xe3 Y ((0,0,0,0),false,0) results48 J (Ykn s) Za
 .exact xe3 Y B results48 J a6 Za
theorem Ydo(n o:Value)(a b:List Zo)(l m:Nat)(k:Nat)(p:k<4194304)(h:∀g∈a,Gin g)(i:∀g∈b,Gin g)(c:Qa a=true)(d:Qa b=true)(e:a.length<=5)(f:b.length<=5):Qi prog 111 #[.int .i64 (k:Int),.pointer (some ⟨l,0,none⟩),.pointer (some ⟨m,0,none⟩)] [Kd l 38 #[n],Kd m 38 #[o],Qq 6 Po qG n a,Qq 6 Po qG o b] (.bool (!Ct ((k:Int)+1) 1 1 a b)):=by refine Zf func111 ntmps111 λs r q j=>?_;refine go 11 ⟨O,?_⟩;refine cl 4 [3,4] (Zjd _ _ a b ((k:Int)+1) h i c d e f (ds_in O O)) λ_ _=>go 15 ?_;exact Xu j () results111 J trivial Za
set_option maxHeartbeats 1000000 in
theorem Yjq(H I:Value)(a b:List Zo)(s t:Nat)(l:∀g∈a,Gin g)(o:∀g∈b,Gin g)(d:Qa a=true)(e:Qa b=true)(B:a.length<=5)(D:b.length<=5):Cal prog 110 #[.int .i64 4194304,.func (.func 111) #[] #[.pointer (some ⟨s,0,none⟩),.pointer (some ⟨t,0,none⟩)]] [Kd s 38 #[H],Kd t 38 #[I],Qq 6 Po qG H a,Qq 6 Po qG I b] false (G:=Nat) (λr=>NrS a b r) (λr=> .int .i64 (r:Int)) (λr=>[]):=by
 refine Zf func110 ntmps110 λQ P N F=>go 14 ?_;refine lp (G:=Nat×Nat) [1] [0,1,2,3,4] (λq=>[(5,.int .i64 (q.1:Int)),(6,.int .i64 (q.2:Int))]) (λq=>[]) (λq=>(q.1<=q.2/\q.2<=4194304)/\(∀k:Nat,k<q.1->Ct ((k:Int)+1) 1 1 a b=true)/\(∀k:Nat,q.2<=k->k<4194304->Ct ((k:Int)+1) 1 1 a b=false)) (λq=>q.2-q.1) (0,4194304) ⟨⟨Nat.zero_le _,Nat.le_refl _⟩,λk f=>absurd f (Nat.not_lt_zero k),λk f h=>absurd h (Nat.not_lt.2 f)⟩ K2 trivial ?_;rintro⟨i,j⟩ ⟨p,v,w⟩;dsimp only at p v w;dsimp only;refine go 8 ?_;refine Zc J (λx=>?_) (λx=>?_)
 .have M:i<j:=O;refine go 7 ?_;refine dt (Xf (r':= .int .i64 ((i+j:Nat):Int)) (Yhe J J J) (by rw [Int.natCast_add]))<|dt (Zpn J J uT3 Zwp (by simp only [U];omega))<|dt (Gr (n:=1) (n':=2) J J J J J)<|dt (Zbf J J Zwp uT3 ⟨O,O⟩)<|go 7 ?_;refine tt (Zwv (n:=4) (fs:=[]) (vs:=[_]) (us:=[_,_]) (Ydo H I a b s t ((i+j)/2) O l o d e B D) J J J J K1 call111 (Zh 1 J J J (Zh 2 J J J (Zh 3 J J J (Zh 4 J J J Zn)))) J N.h) λ_ _=>go 3 ?_;refine My J (λc=>?_) (λc=>?_)
  .have y:=c;refine go 6 ⟨O,?_⟩;exact Xb (((i+j)/2)+1,j) ⟨⟨O9,O9⟩,λk f=>nrS_t l o d e (m:=((i+j)/2)) O (by simpa using y) k f,w⟩ O9 K2 trivial
  .have y:=c;refine go 5 ?_;exact Xb (i,((i+j)/2)) ⟨⟨O9,O9⟩,v,λk f h=>nrS_f l o d e (m:=((i+j)/2)) (by simpa using y) k f h⟩ O9 K2 trivial
 .have z:¬i<j:=O;refine go 12 ?_;exact Xu F i results110 J (Ykz p z v w) Za
theorem Zng(v w:Value)(b c:List Zo)(l:∀g∈b,Gin g)(m:∀g∈c,Gin g)(f:Qa b=true)(h:Qa c=true)(j:b.length<=5)(k:c.length<=5):Cal prog 50 #[v,w] [Qq 6 Po qG v b,Qq 6 Po qG w c] false (G:=Int×Int) (λg=>NrP b c g) (λg=> .tuple #[.int .i64 g.1,.int .i64 g.2]) (λg=>[]):=by
 refine Zf func50 ntmps50 λH F D d=>?_;refine Zgr (Yc 1 J Zg) (λy n=>?_);subst n;refine Zgr (Yc 2 J Zg) (λz o=>?_);subst o;refine go 2 ?_;refine Yp (Yt 3) λB _=>Yp (Yt 4) λs _=>go 8 ?_;refine cl 5 [1,2] (Zh4 _ _ b c 0 l m f h j k O3) λt i=>go 16 ?_;refine Zc J (λa=>?_) (λa=>?_)
 .have p:=a;refine go 10 ?_;exact Me d (0,Iq b c) results50 J (.inl ⟨p,J⟩) Za
 .have p:=a;refine go 8 ?_;refine Zc J (λe=>?_) (λe=>?_)
  .have q:t.2.length=0:=O;refine go 9 ?_;exact Me d (0,9) results50 J (Yky i p q) Za
  .have q:¬t.2.length=0:=O;refine go 5 ?_;refine dt (Ztb (vs:=[]) (us:=[_,_]) J trivial K2)<|cl 5 [3,4,1,2] (Yjq _ _ b c _ _ l m f h j k) λx r=>go 5 ?_;exact Me d ((x:Int),0) results50 J (nr_end i p q r) Za
theorem Yjs(v:Value)(ps:List Zo)(h:∀g∈ps,Gin g)(c:Qa ps=true):Qi prog 120 #[v] [Qq 6 Po qG v ps] (.tuple #[.int .i64 (spF ps),.int .i64 (spL ps),.int .i64 0]):=by refine Zf func120 ntmps120 λl k j a=>?_;refine Ok (Iw (i:=1) J Zg) (λd=>?_);obtain⟨-,e,f⟩:=Mo c;refine go 11 ?_;refine cl 1 [1] (Ht _ _ h) λ_ _=>?_;refine dt (dF (Xp J J) (congrArg (λb=>Value.bool (!b)) c))<|go 6 ?_;refine Qm (λ_=>False) [(0,0),(1,0),(2,0),(3,0),(4,0),(5,0),(6,0),(7,0),(8,0),(9,0),(10,0),(11,0),(12,3),(13,3)]<|go 2 ⟨O,?_⟩;refine Qd J J (Qj (Fv (ii:=1) J J J Zg Zf6 J Ha J))<|Qd J J (Qj (Dt (ii:=1) G0 J J J Zg iA3 J))<|go 4 ⟨O,?_⟩;refine Qd J J (Qj (Yh (ii:=1) (i:=(ps.length-1)) J J J J Zg Di Zbo))<|Qd J J (Qj (Fv (ii:=1) J J J Zg Zf6 J Ha J))<|Qd J J (Qj (Dt (ii:=1) G0 J J J Zg iA3 J))<|go 6 ?_;exact xe3 a () results120 J trivial Za
open Go.RowKit (Below)
variable {P:Program} {N:Nat} {sc:Nat->Prop} {env env':Pd} {H H':Hp} {Q Q':Exit->Act->World->Prop} {M:Nat->Prop}
theorem Yat(h:u.oneCell'=true):u.cells=#[u]:=by cases u<;>simp_all [Value.cells,Value.oneCell']
theorem Ztr{α:Type}{enc:α->Value}{k q j:Nat}(z b:α)(c:∀x,(enc x).cells.size=k)(xs:List α)(a:j<xs.length)(i:q<k)(l:(enc z).cells.toList=(enc (xs.getD j b)).cells.toList.set q u) :
  cellsOf enc (xs.set j z)=(cellsOf enc xs).set (j*k+q) u:=by
 have e:=Du c xs j (xs.getD j b) a;have hs:xs.set j (xs.getD j b)=xs:=by rw [List.getD_eq_getElem?_getD,List.getElem?_eq_getElem a,Option.getD_some];exact List.set_getElem_self ..
 rw [hs]at e;have h:(cellsOf enc xs).length=xs.length*k:=Xd c xs;have g:j*k+k<=xs.length*k:=by rw [<-Nat.succ_mul];exact Nat.mul_le_mul_right k a
 have d:((cellsOf enc xs).take (j*k)).length=j*k:=by rw [List.length_take,h];omega
 have f:(enc (xs.getD j b)).cells.toList.length=k:=by rw [Array.length_toList,c]
 rw [Du c xs j z a,l]
 conv=>rhs;rw [e]
 rw [List.append_assoc,List.append_assoc,List.set_append_right _ _ (by rw [d];omega),d,Nat.add_sub_cancel_left,List.set_append_left _ _ (by rw [f];exact i)]
theorem t_stf {α:Type} {o:Oper} {x y:Operand} {t ts e:TypeId} {i j k q:Nat} {v:Value} {enc:α->Value} {xs:List α} (z I:α) {w0:World}  (ho:o.op= .store t x y) (hd:o.dst=none)
  (hx:ev env x=some (.pointer (some (eaf v j k q)))) (hy:ev env y=some u) (R:lk H i=some (Oj k e enc v xs)) (B:i≠0) (S:Enc P ts k enc) (m:j<xs.length)
  (D:∀w,(sizeOf t).run P w= .ok 1 w) (W:u.oneCell'=true) (hq:q<k) (hz:(enc z).cells.toList=(enc (xs.getD j I)).cells.toList.set q u)
  (Z:lk H 0=some (Ym w0 M0)) (hw:∀b,w0.heap.size<=b->sc b) :
  T P N sc (λ_=>True) o env H (G:=Unit) (λ_=>True) (λ_=>env) (λ_=>(i,Oj k e enc v (xs.set j z))::H):=λa w hs K Q hK=>by
 have p:w.ownsRow 0 e k v xs.length (cellsOf enc xs):=hs.hold i _ R;rcases p.2 with⟨rfl,hn⟩|⟨g,d,c,rfl,hb,V,n,s,h,f⟩
 .omega
 .have a1:j*k+k<=xs.length*k:=by rw [<-Nat.succ_mul];exact Nat.mul_le_mul_right k m
  have a0:xs.length*k<=d*k:=Nat.mul_le_mul_right k n;have r:=run_storeCells_at P g (j*k+q) e [u] 0 c w V (by rw [h,List.length_singleton];omega) (λu' F=>by rw [List.mem_singleton.1 F];exact W);simp only [Nat.add_zero,List.length_singleton]at r;have hr:(execOp a.eval o).run P w= .ok .skip (w.setRow g (c.toList.take (j*k+q) ++ [u] ++ c.toList.drop (j*k+q+1)).toArray):=by simp [execOp,ho,hs.ev hx,hs.ev hy,Instr.storeAt,Instr.sureAddr,storeVar,Yat W,D,ead,eaf,Ob,r]
  unfold Oper.wp;rw [hr];show K (a.put o.dst _) _;rw [hd];have l:c.toList.length=d*k:=by rw [Array.length_toList,h]
  refine hK () _ _ trivial ((hs.upd R rfl B (q:=Oj k e enc (.slice (some ⟨g,0,none⟩) xs.length d) (xs.set j z)) (Kc (M:=λk=>(Value.slice (some ⟨g,0,none⟩) xs.length d).ownBlock=some k) _ rfl) ?_ (λk D=> .inl D) Z hw).put_none undef) (Kc _ trivial);refine⟨by rw [Xd S.cells],.inr ⟨g,d,_,O7,hb,setRow_heap w g c _ e _ V,by simpa using n,s,?_,?_⟩⟩
  .simp only [List.size_toArray,List.length_append,List.length_take,List.length_drop,List.length_singleton,l];omega
  .rw [Ztr z I S.cells xs m hq hz,<-f];simp only [List.length_set];have Y:c.toList.take (j*k+q) ++ [u] ++ c.toList.drop (j*k+q+1)=c.toList.set (j*k+q) u:=by rw [List.set_eq_take_append_cons_drop,if_pos O,List.append_assoc,List.singleton_append]
   rw [Y,List.take_set]
end Go.Sky
namespace Go.Sky
variable{b:Int}{k:Nat}{qs zs:List Zo}{s:SL×SL×SL}
def shG(b:Int)(g:Zo):Zo:=((g.1.1+b,g.1.2.1+b,g.1.2.2),g.2)
def shK(b:Int)(ps:List Zo)(k:Nat):List Zo:=(ps.take k).map (shG b) ++ ps.drop k
theorem shK_0(b:Int)(ps:List Zo):shK b ps 0=ps:=by unfold shK;simp
theorem Pw(b:Int)(ps:List Zo)(k:Nat):(shK b ps k).length=ps.length:=by unfold shK;simp;omega
theorem Yjw(b:Int)(ps:List Zo):shK b ps ps.length=ps.map (shG b):=by unfold shK;simp
theorem Zne{ps:List Zo}(a:k<ps.length):(shK b ps k).getD k G0=ps.getD k G0:=by unfold shK;rw [List.getD_eq_getElem?_getD,List.getElem?_append_right O8,List.getElem?_drop,List.getD_eq_getElem?_getD];congr 2;simp;omega
abbrev shA (b:Int) (x:Zo):Zo:=((x.1.1+b,x.1.2.1,x.1.2.2),x.2)
abbrev shB (b:Int) (x:Zo):Zo:=((x.1.1,x.1.2.1+b,x.1.2.2),x.2)
theorem Ydj{ps:List Zo}(z:Zo)(a:k<ps.length):(ps.set k z).getD k G0=z:=by rw [List.getD_eq_getElem?_getD,List.getElem?_set_self a];rfl
theorem shK_s{ps:List Zo}(a:k<ps.length) :
  ((shK b ps k).set k (shA b ((shK b ps k).getD k G0))).set k (shB b (((shK b ps k).set k (shA b ((shK b ps k).getD k G0))).getD k G0))=shK b ps (k+1):=by
 rw [Ydj _ (by rw [Pw];exact a),List.set_set,Zne a];unfold shK;have c:((ps.take k).map (shG b)).length=k:=O8;rw [List.set_append_right _ _ O,c,Nat.sub_self];have d:ps.drop k=ps.getD k G0::ps.drop (k+1):=by rw [List.drop_eq_getElem_cons a,List.getD_eq_getElem?_getD,List.getElem?_eq_getElem a];rfl
 rw [d,List.set_cons_zero];have e:ps.take (k+1)=ps.take k ++ [ps.getD k G0]:=by rw [List.take_add_one,List.getElem?_eq_getElem a,List.getD_eq_getElem?_getD,List.getElem?_eq_getElem a];rfl
 rw [e,List.map_append,List.append_assoc];rfl
theorem Yjx{ps:List Zo}(a:k<ps.length):((shK b ps k).set k (shA b ((shK b ps k).getD k G0))).getD k G0=shA b (ps.getD k G0):=by rw [Ydj _ (by rw [Pw];exact a),Zne a]
theorem Yk5(b:Int)(ps:List Zo):Ku qG ps=Ku qG (ps.map (shG b)):=by
 unfold Ku;congr 1
 .funext w;exact propext ⟨λ⟨z,a,h⟩=>⟨shG b z,List.mem_map.2 ⟨z,a,rfl⟩,h⟩,λ⟨z,a,h⟩=>by obtain⟨y,c,rfl⟩:=List.mem_map.1 a;exact⟨y,c,h⟩⟩
 .funext w;exact propext ⟨λh z a=>by obtain⟨y,c,rfl⟩:=List.mem_map.1 a;exact h y c,λh z a=>h (shG b z) (List.mem_map.2 ⟨z,a,rfl⟩)⟩
theorem Ycb{ps:List Zo}(h:qs.map Ec=ps.map Ec):qs.length=ps.length:=by have:=congrArg List.length h;simpa using this
theorem un_gd{ps:List Zo}(h:qs.map Ec=ps.map Ec)(k:Nat):Ec (qs.getD k G0)=Ec (ps.getD k G0):=by have:=congrArg (λl=>l[k]?) h;simp only [List.getElem?_map]at this;rw [List.getD_eq_getElem?_getD,List.getD_eq_getElem?_getD];cases h1:qs[k]?<;>cases h2:ps[k]?<;>rw [h1,h2]at this<;>simp_all
theorem un_sh{ps:List Zo}(h:qs.map Ec=ps.map Ec)(b:Int):(qs.map (shG b)).map Ec=(ps.map (shG b)).map Ec:=by
 induction qs generalizing ps with
 | nil=>cases ps with
  | nil=>rfl
  | cons p ps=>cases h
 | cons q qs f=>cases ps with
  | nil=>cases h
  | cons p ps=>
   rw [List.map_cons,List.map_cons]at h;injection h with h1 h2;rw [List.map_cons,List.map_cons,List.map_cons,List.map_cons,f h2];congr 1;unfold Ec at h1 ⊢;unfold shG;simp only [Prod.mk.injEq]at h1 ⊢;obtain⟨a,c,d,e⟩:=h1;exact⟨⟨by rw [a],by rw [a],by rw [a]⟩,c,d,e⟩
theorem sh_bd{ps:List Zo}(f:∀g∈ps,Gin g)(c:Qa ps=true)(h:qs.map Ec=ps.map Ec)(d:k<qs.length):0<=(qs.getD k G0).1.1/\(qs.getD k G0).1.1<(qs.getD k G0).1.2.1/\(qs.getD k G0).1.2.1<=3600000:=by
 have a:k<ps.length:=by rw [<-Ycb h];exact d
 have e:(qs.getD k G0).1=(ps.getD k G0).1:=congrArg (λu:Zls=>u.1) (un_gd h k);have s:SgG (ps.getD k G0):=Gs (f _ (Zj a)) (Ac ((Mo c).1 _ a));rw [e];exact⟨s.t1,s.t2,s.t3⟩
theorem sp_bd{ps:List Zo}(c:∀g∈ps,Gin g)(a:Qa ps=true):0<=spF ps/\spF ps<=3600000/\0<=spL ps/\spL ps<=3600000:=by have e:=(Mo a).2.1;have s:SgG (ps.getD 0 G0):=Gs (c _ (Zj)) (Ac ((Mo a).1 _ O));have t:SgG (ps.getD (ps.length-1) G0):=Gs (c _ (Zj)) (Ac ((Mo a).1 _ O));have d:=s.t1;have f:=s.t2;have h:=s.t3;have t1:=t.t1;have t2:=t.t2;have t3:=t.t3;unfold spF spL;exact⟨d,O,O,t3⟩
theorem Zw2(h:qs.map Ec=([Cx s].map (shG 1000)).map Ec):∃t,qs=[gvL t]:=by have c:=congrArg List.length h;rw [List.length_map,List.length_map,List.length_map]at c;obtain⟨q,rfl⟩:=List.length_eq_one_iff.1 c;have h:[Ec q]=[Ec (shG 1000 (Cx s))]:=h;injection h with h;obtain⟨a,⟨d,e⟩,⟨f,g⟩,⟨i,j⟩⟩:=q;have h:(a,e,g,j)=((0+1000,1000+1000,1),Ej 0 1000 1,Ej 0 0 1,Ej 0 0 1):=h;simp only [Prod.mk.injEq]at h;obtain⟨rfl,rfl,rfl,rfl⟩:=h;exact⟨(d,f,i),rfl⟩
theorem Yl9{ps:List Zo}(h:zs.map Ec=(ps.take k).map Ec)(a:k<ps.length) :
  (zs ++ [(((ps.getD k G0).1,(s.1,(ps.getD k G0).2.1.2),(s.2.1,(ps.getD k G0).2.2.1.2),(s.2.2,(ps.getD k G0).2.2.2.2)):Zo)]).map Ec=(ps.take (k+1)).map Ec:=by
 have c:ps.take (k+1)=ps.take k ++ [ps.getD k G0]:=by rw [List.take_add_one,List.getElem?_eq_getElem a,List.getD_eq_getElem?_getD,List.getElem?_eq_getElem a];rfl
 rw [c,List.map_append,List.map_append,h];rfl
end Go.Sky

