/- Rules, arithmetic and contracts: part 21. No conditions but those that each theorem names. -/
import Derived.Test.YteikicbnfbgpnaaGreatEh19
set_option linter.all false
set_option maxHeartbeats 4000000
namespace Go.Sky
open Go.Proofs
set_option synthInstance.maxHeartbeats 0
set_option synthInstance.maxSize 100000
set_option maxRecDepth 20000
set_option linter.unusedSimpArgs false
variable{v:Value}{xs:List Int}{gs:List (Int×SL)}
theorem Zrb(g:xs.length*8<=140737488355328):Yeb Tryz.prog 182 #[v] [Yw 1 Yq v xs] (G:=Value) (λr=>True) (λr=>r) (λr=>Pz 1 3 Yq r xs):=by
 refine Zjq Tryz.func182 rfl Tryz.ntmps182 rfl ⟨rfl,aA⟩ ?_;intro j h d e;have d:=Hw.mk d;simp only [Qq,Yt];refine Of (Yje (i:=1) rfl Zl) (λc=>?_);refine go 9 ?_;refine dt (Zq0 rfl rfl rfl (i:=1) rfl Zl Tryz.underlying33) ?_;refine go 2 ?_;refine Nh rfl (λb=>?_) (λb=>?_)
 .refine go 7 ?_;obtain rfl:xs=[]:=c (by simpa using b);refine Zv (Pt 9 1 3 Yq) ?_;exact Zd6 (.inl rfl) (.slice none 0 0) (λa w hs=>Za6 hs Tryz.results182 rfl) rfl aA rfl 9 rfl rfl rfl
 .refine go 4 ?_;refine tt (Ye0 2 (enc:=Yq) rfl rfl rfl Tryz.underlying33 pZ rfl d.h) (λv _=>?_);refine go 1 ?_;refine tt (My 2 1 8 rfl rfl rfl rfl rfl rfl O3 rfl Zl Tryz.underlying33 Tryz.ti3 rfl pZ rfl rfl rfl O9 O3 rfl d.h) (λf _=>?_);refine go 4 ?_;exact Zd6 (.inl rfl) _ (λa w hs=>Za6 hs Tryz.results182 rfl) rfl aA rfl 2 rfl (by rfl) rfl
theorem Zsk{ps:List Zf}(H:∀g∈ps,Gin g)(p:Yc ps=true):Yeb Tryz.prog 122 #[v] [Xp 6 Xv qG v ps] (G:=Value×List Zf) (λr=>r.2.map Ns=ps.map Ns) (λr=>r.1) (λr=>opa 3 35 r.1 r.2):=by
 refine Zjq Tryz.func122 rfl Tryz.ntmps122 rfl ⟨rfl,aA⟩ ?_;intro W V d I;have d:=Hw.mk d;simp only [Qq,Yt];refine Of (Ir (i:=1) rfl Zd) (λt=>?_);have F:=(Zp p).2.2;refine go 19 ?_;refine Zh (Pt 74 6 35 Xv) ?_;refine Zh (s_ol0 3 76) ?_;refine lp (G:=Nat×Value×List Zf) [6,7] [0,1] (λq=>[(8,.int .i64 (q.1:Int)),(3,q.2.1)]) (λq=>[(74,Pz 6 35 Xv q.2.1 q.2.2),(76,ol3 3 q.2.2)]) (λq=>(q.1<=ps.length)/\(q.2.2.map Ns=(ps.take q.1).map Ns)/\(q.2.2.length=q.1)) (λq=>ps.length-q.1) (0,.slice none 0 0,[]) ⟨O2,rfl,rfl⟩ ⟨rfl,rfl,aA⟩ ⟨rfl,rfl,aA⟩ ?_;rintro⟨k,R,u⟩ ⟨x,b,f⟩;dsimp only at x b f;dsimp only;refine go 6 ?_;refine Zc rfl (λe=>?_) (λe=>?_)
 .refine go 5 ?_;refine Zh (Pp (ps.getD k G0) ((ps.getD k G0).2.1) 1 51 rfl rfl Ze O8) ?_;refine Zh (Pp (ps.getD k G0) ((ps.getD k G0).2.2.1) 1 52 rfl rfl Ze O8) ?_;refine Zh (Pp (ps.getD k G0) ((ps.getD k G0).2.2.2) 1 53 rfl rfl Ze O8) ?_;have c:Cx (ps.getD k G0):=Qv (H _ Ze) (Qt ((Zp p).1 _ O1));have y:(ps.getD k G0).2.1.2.length<=6:=(c.lc 0).2;have B:(ps.getD k G0).2.2.1.2.length<=6:=(c.lc 1).2;have D:(ps.getD k G0).2.2.2.2.length<=6:=(c.lc 2).2;refine go 1 ?_;refine dt (Zq 1 k rfl rfl rfl rfl Zd Tryz.underlying38 Tryz.sizeOf35 rfl) ?_;refine dt (Xw 1 G0 rfl rfl rfl Zd pG) ?_;refine Yk (Zw 2) λS _=>?_;refine go 4 ?_;refine Lv (λ_=>False) [10,11,12,13,14] ?_;refine Zt 8 [(0,0),(1,0),(3,0),(4,0),(6,0),(7,0),(2,1)] ?_;refine go 6 ?_;refine Dg rfl (Bx 3 (Zrb O1) rfl rfl rfl ⟨rfl,aA⟩ Tryz.call182 (Zk 51 rfl rfl rfl Zr) rfl d.h) (λv _=>?_);refine go 1 ?_;refine Ylg (Qp 3 rfl (Zy pZ)) (λh m=>?_);subst m;refine Zt 6 [(9,0),(5,1)] ?_;refine go 1 ?_;refine Dg rfl (Bx 4 (Zrb O1) rfl rfl rfl ⟨rfl,aA⟩ Tryz.call182 (Zk 52 rfl rfl rfl Zr) rfl d.h) (λM _=>?_);refine go 1 ?_;refine Ylg (Qp 4 rfl (Zy pZ)) (λj n=>?_);subst n;refine Zt 5 [(8,1)] ?_;refine Dg rfl (Bx 5 (Zrb O1) rfl rfl rfl ⟨rfl,aA⟩ Tryz.call182 (Zk 53 rfl rfl rfl Zr) rfl d.h) (λN _=>?_);refine go 1 ?_;refine Ylg (Qp 5 rfl (Zy pZ)) (λl o=>?_);subst o;refine Zt 0 [(10,3),(11,3),(12,3),(13,3),(14,3)] ?_;refine go 6 ?_;refine Yl ?_;refine go 4 ?_;refine tt (Qs [(0,_)] 6 (enc:=Xv) [((((ps.getD k G0).1,(h,(ps.getD k G0).2.1.2),(j,(ps.getD k G0).2.2.1.2),(l,(ps.getD k G0).2.2.2.2)):Zf))] rfl rfl ⟨rfl,rfl,aA⟩ Tryz.underlying38 Tryz.ti35 rfl rfl Zlt rfl rfl pG.cells rfl rfl d.h) (λP _=>?_);refine tt (My 74 6 96 rfl rfl rfl rfl rfl rfl O3 rfl (Zy pG) Tryz.underlying38 Tryz.ti35 rfl pG rfl rfl rfl O9 O3 rfl d.h) (λQ _=>?_);refine go 8 ⟨O1,?_⟩;refine Zv (Ymu (z:=((((ps.getD k G0).1,(h,(ps.getD k G0).2.1.2),(j,(ps.getD k G0).2.2.1.2),(l,(ps.getD k G0).2.2.2.2)):Zf))) 76 3 4 5 rfl rfl rfl rfl rfl) ?_;exact Yu (k+1,_,u ++ [((((ps.getD k G0).1,(h,(ps.getD k G0).2.1.2),(j,(ps.getD k G0).2.2.1.2),(l,(ps.getD k G0).2.2.2.2)):Zf))]) ⟨O2,Yo7 (s:=(h,j,l)) b O1,by rw [aW,f];rfl⟩ O2 ⟨rfl,rfl,aA⟩ ⟨rfl,rfl,aA⟩
 .obtain rfl:k=ps.length:=O1;refine go 12 ?_;refine Zv (s_opa 74 76 rfl rfl rfl) ?_;exact Zd6 (.inl rfl) (R,u) (λa w hs=>Za6 hs Tryz.results122 rfl) rfl (by rw [bO]at b;exact b) rfl 74 rfl rfl rfl
theorem Ch(ps:List Zf)(a:Int)(j:∀g∈ps,Gin g)(i:Yc ps=true):Cal Tryz.prog 59 #[v,.int .i64 a] [Xp 6 Xv qG v ps] true (G:=Value×List Zf×Int) (λg=>ShR ps a g.2.1 g.2.2) (λg=> .tuple #[g.1,.int .i64 g.2.2]) (λg=>[Xp 6 Xv qG g.1 g.2.1]):=by
 refine Zg Tryz.func59 Tryz.ntmps59 λB z n f=>?_;obtain⟨u,w,x,y⟩:=Yfi j i;refine go 9 ?_;refine cl 1 [1] (Zou j i) λ_ _=>?_;refine go 14 ?_;refine kf (aE O3) ?_;refine go 5 ?_;rcases(by omega:a < -(Ep ps)\/¬a < -(Ep ps)/\a>3600000-Bc ps\/¬a < -(Ep ps)/\¬a>3600000-Bc ps)with c|⟨c,d⟩|⟨c,d⟩
 .refine go 3 ?_;refine dt (Zqy rfl rfl) ?_;refine kt (aJ c) ?_;refine go 19 ?_;refine Zv (Pt 78 6 35 Xv) ?_;refine Zv (Qj 78 rfl rfl pG) ?_;refine Zv (Xi qG 77) ?_;refine Zv (Ph 78 77 78 rfl rfl rfl rfl) ?_;exact Ma f (.slice none 0 0,[],3) Tryz.results59 rfl (.inl ⟨rfl,.inl c⟩) (Oi 78 Za)
 .refine go 3 ?_;refine dt (Zqy rfl rfl) ?_;refine kf (aE c) ?_;refine go 4 ⟨O1,?_⟩;refine ktg (aJ d) ?_;refine go 14 ?_;refine Zv (Pt 78 6 35 Xv) ?_;refine Zv (Qj 78 rfl rfl pG) ?_;refine Zv (Xi qG 77) ?_;refine Zv (Ph 78 77 78 rfl rfl rfl rfl) ?_;exact Ma f (.slice none 0 0,[],3) Tryz.results59 rfl (.inl ⟨rfl,.inr d⟩) (Oi 78 Za)
 .refine go 3 ?_;refine dt (Zqy rfl rfl) ?_;refine kf (aE c) ?_;refine go 4 ⟨O1,?_⟩;refine kfg (aE d) ?_;refine go 11 ?_;refine tt (Bx 2 (Zsk j i) rfl rfl rfl ⟨rfl,aA⟩ Tryz.call122 (Zk 1 rfl rfl rfl Zr) rfl n.h) (λb e=>?_);refine go 5 ?_;refine Zh (Zy6 2 79 rfl rfl) ?_;refine go 7 ?_;refine Zh (On 2 (q:=Pz 6 35 Xv b.1 (shK a b.2 0)) (by rw [shK_0]) rfl rfl) ?_;have r:=Cz e;have p:=(Zp i).2.2;refine lp (G:=Nat) [1,9,35] [0,1,79] (λk=>[(36,.int .i64 (k:Int))]) (λk=>[(2,Pz 6 35 Xv b.1 (shK a b.2 k))]) (λk=>k<=b.2.length) (λk=>b.2.length-k) 0 O2 ⟨rfl,aA⟩ ⟨rfl,aA⟩ ?_;rintro k t;refine go 6 ?_;refine Zc rfl (λh=>?_) (λh=>?_)
  .refine go 11 ?_;have s:=Px a b.2 k;have o:=sh_bd j i e (k:=k) O1;have l:(shK a b.2 k).getD k G0=b.2.getD k G0:=Zox O1;have m:((shK a b.2 k).set k (shA a ((shK a b.2 k).getD k G0))).getD k G0=shA a (b.2.getD k G0):=Yml O1;refine go 3 ?_;refine dt (Zq 2 k rfl rfl rfl rfl (Zy pG) Tryz.underlying38 Tryz.sizeOf35 rfl (by first|(rw [aT,Px];omega)|(rw [Px];omega))) ?_;refine dt (Nt 2 rfl rfl rfl (Zy pG) Tryz.underlying35 rfl Tryz.sizeOf3 rfl (by first|(rw [aT,Px];omega)|(rw [Px];omega))) ?_;refine dt (Ms 2 G0 rfl rfl rfl (Zy pG) Tryz.isAgg3 rfl (by first|(rw [aT,Px];omega)|(rw [Px];omega))) ?_;refine go 2 ⟨by rw [l];exact⟨O1,O1⟩,?_⟩;refine dt (Zq 2 k rfl rfl rfl rfl (Zy pG) Tryz.underlying38 Tryz.sizeOf35 rfl (by first|(rw [aT,Px];omega)|(rw [Px];omega))) ?_;refine dt (Nt 2 rfl rfl rfl (Zy pG) Tryz.underlying35 rfl Tryz.sizeOf3 rfl (by first|(rw [aT,Px];omega)|(rw [Px];omega))) ?_;refine tt (t_stf 2 (enc:=Xv) (shA a ((shK a b.2 k).getD k G0)) G0 rfl rfl rfl rfl rfl O3 pG (by first|(rw [aT,Px];omega)|(rw [Px];omega)) Tryz.sizeOf3 rfl O3 rfl rfl n.h) (λ_ _=>?_);refine go 5 ?_;refine dt (Zq 2 k rfl rfl rfl rfl (Zy pG) Tryz.underlying38 Tryz.sizeOf35 rfl (by first|(rw [aT,Px];omega)|(rw [Px];omega))) ?_;refine dt (Nt 2 rfl rfl rfl (Zy pG) Tryz.underlying35 rfl Tryz.sizeOf3 rfl (by first|(rw [aT,Px];omega)|(rw [Px];omega))) ?_;refine dt (Ms 2 G0 rfl rfl rfl (Zy pG) Tryz.isAgg3 rfl (by first|(rw [aT,Px];omega)|(rw [Px];omega))) ?_;refine go 2 ⟨by rw [m];exact⟨O10,O10⟩,?_⟩;refine dt (Zq 2 k rfl rfl rfl rfl (Zy pG) Tryz.underlying38 Tryz.sizeOf35 rfl (by first|(rw [aT,Px];omega)|(rw [Px];omega))) ?_;refine dt (Nt 2 rfl rfl rfl (Zy pG) Tryz.underlying35 rfl Tryz.sizeOf3 rfl (by first|(rw [aT,Px];omega)|(rw [Px];omega))) ?_;refine tt (t_stf 2 (enc:=Xv) (shB a (((shK a b.2 k).set k (shA a ((shK a b.2 k).getD k G0))).getD k G0)) G0 rfl rfl rfl rfl rfl O3 pG (by first|(rw [aT,Px];omega)|(rw [Px];omega)) Tryz.sizeOf3 rfl O3 rfl rfl n.h) (λ_ _=>?_);refine go 7 ⟨O1,?_⟩;exact Yu (k+1) O2 O2 ⟨rfl,aA⟩ ⟨by rw [shK_s O1];rfl,aA⟩
  .obtain rfl:k=b.2.length:=O1;refine go 13 ?_;refine Zv (Yf9 79 rfl rfl pZ) ?_;refine Zv (On 2 (q:=Pz 6 35 Xv b.1 (b.2.map (shG a))) (by rw [Ymk]) rfl rfl) ?_;refine Zv (On 79 (q:=Ib qG (b.2.map (shG a))) (Yn0 a b.2) rfl rfl) ?_;refine Zv (Qj 2 rfl rfl pG) ?_;refine Zv (Ph 2 79 78 rfl rfl rfl rfl) ?_;exact Ma f (b.1,b.2.map (shG a),0) Tryz.results59 rfl (.inr ⟨rfl,c,d,un_sh e a⟩) (Oi 78 Za)
abbrev S3T:=SL×SL×SL
abbrev GvT:=(S3T×S3T×S3T)×(SL×SL×SL)
def gvs(q:GvT):List PT:=[(q.2.1,[Bm q.1.1]),(q.2.2.1,[gv1 q.1.2.1]),(q.2.2.2,[gv2 q.1.2.2])]
theorem Zje{fr i c d e f b h k:Int}{s:S3T}(j:Oc fr)(l:Oc i)(m:∀a∈Em c f k,Oc a)(n:∀a∈Em d b k,Oc a)(o:∀a∈Em e h k,Oc a):∀g∈[Yii fr i c d e f b h k s],Gin g:=λg p=>by rw [bN.1 p];exact⟨j,l,show Oc (1:Int)from⟨O3,O3⟩,m,n,o⟩
def Zit{s:S3T}:∀g∈[Bm s],Gin g:=Zje ⟨O3,O3⟩ ⟨O3,O3⟩ (Oe O3) (Oe O3) (Oe O3)
def Ydq{s:S3T}:∀g∈[gv1 s],Gin g:=Zje ⟨O3,O3⟩ ⟨O3,O3⟩ (Oe O3) (Oe O3) (Oe O3)
def gg_2{s:S3T}:∀g∈[gv2 s],Gin g:=Zje ⟨O3,O3⟩ ⟨O3,O3⟩ (Oe O3) (Oe O3) (Oe O3)
def gg_L{s:S3T}:∀g∈[gvL s],Gin g:=Zje ⟨O3,O3⟩ ⟨O3,O3⟩ (Oe O3) (Oe O3) (Oe O3)
theorem Zqb{q:GvT}{x:PT}(h:x∈gvs q):x=(q.2.1,[Bm q.1.1])\/x=(q.2.2.1,[gv1 q.1.2.1])\/x=(q.2.2.2,[gv2 q.1.2.2]):=by unfold gvs at h;simpa using h
theorem gvs_P{q:GvT}:∀x∈gvs q,∀g∈x.2,Gin g:=λx a=>by
 rcases Zqb a with rfl|rfl|rfl
 .exact Zit
 .exact Ydq
 .exact gg_2
theorem gvs_V{q:GvT}:Ze5 (gvs q)=true:=cI.2 λx a=>by
 rcases Zqb a with rfl|rfl|rfl
 .exact Zis _
 .exact Ydo _
 .exact Zir _
theorem gvs_L{q:GvT}:∀x∈gvs q,x.2.length<=5:=λx a=>by rcases Zqb a with rfl|rfl|rfl<;>exact(by decide:(1:Nat)<=5)
theorem gvs_n{q:GvT}:(gvs q).length<=64:=(by decide:(3:Nat)<=64)
theorem gcl_0(q:GvT):ClR 300 1 1 (gvs q) ((0,0,0,0),false,0):= .inl ⟨rfl,λj k c a d=>by
 have a:k<3:=a;have b:(j=0/\k=1)\/(j=0/\k=2)\/(j=1/\k=2):=O1;rcases b with⟨rfl,rfl⟩|⟨rfl,rfl⟩|⟨rfl,rfl⟩
 .exact Yi0 _ _
 .exact ga_5 _ _
 .exact ga_6 _ _⟩
theorem gcl_1(q:GvT):ClR 301 1 1 (gvs q) ((0,1,0,1000),true,0):=by refine .inr ⟨0,1,O3,(by decide:(1:Nat)<3),clA_0,clB_0,ga_2 _ _,?_⟩;have a:Az (Mi 301 1 1 (pth (gvs q) 0) (pth (gvs q) 1))=(0,1000,true):=gf_3 _ _;have b:Oo (pth (gvs q) 0) (pth (gvs q) 1)=0:=Ydr _ _;unfold clV;rw [a,b];rfl
def gnr_L{s t:S3T}:NrP [Bm s] [gvL t] (0,9):= .inr (.inl ⟨ge_L s t,gz_L s t,rfl⟩)
theorem Yhs{α:Type}{l:List α}(h:l.isEmpty=false):l≠[]:=λe=>by rw [e]at h;cases h
theorem Ydm{a b c:Int}(e:Oc a)(f:Oc b)(g:Oc c):∀x∈[a,b,c],Oc x:=λx d=>by simp only [bB,dL,iD]at d;rcases d with rfl|rfl|rfl<;>assumption
theorem Zyi{l:List Int}(c:∀x∈l,Oc x)(e:l.length<=1000)(a:Xt gs=tzl l):Sz 1000000 (Xt gs)/\gs.length<=1000:=by have b:=aL List.length a;rw [Lf]at b;have d:=Ko l;refine⟨?_,O1⟩;rw [a];exact(Sz.tzl (Zi1 c)).mono O1
def NrL(a b:List Zf)(lo hi:Int):Prop:=0<=lo/\lo<=hi/\hi<=4194304/\(∀k,1<=k->k<=lo->Ho k 1 1 a b=true)/\∀k,hi<k->k<=4194304->Ho k 1 1 a b=false
section
variable {a b:List Zf} (hpa:∀g∈a,Gin g) (hpb:∀g∈b,Gin g) (hba:Yc a=true) (hbb:Yc b=true)
include hpa hpb hba hbb
end
end Go.Sky
namespace Go.Sky
variable{t u:Rat}{k:Nat}{q h:Zf}
def Yai{G:Int} : ∀(l:List Int) (o:Int),G∣o->(∀x∈l,G∣x)->G∣Nq o l
 | [],_,h,_=>h
 | x::r,o,h,hx=>Yai r _ (Int.dvd_coe_gcd h (hx x (bW ..))) λy a=>hx y (bG _ a)
def sR(g:Zf)(t:Rat):Rat:=(t-(g.1.1:Rat))/((g.1.2.1-g.1.1:Int):Rat)
def InG(g:Zf)(t:Rat):Prop:=(g.1.1:Rat)<=t/\t<=(g.1.2.1:Rat)
theorem Yih{g:Zf}(h:Cx g):((g.1.2.1-g.1.1:Int):Rat)≠0:=by have:=h.t2;exact_mod_cast (show g.1.2.1-g.1.1≠0 by omega)
theorem Ygb{g:Zf}(h:Cx g)(t:Rat):sR g t*((g.1.2.1-g.1.1:Int):Rat)=t-(g.1.1:Rat):=by unfold sR;exact eE (Yih h)
theorem Zy3{ps:List Zf}(r:∀g∈ps,Gin g)(a:Yc ps=true){j:Nat}(w:j<k)(b:k<ps.length)(n:InG (ps.getD j G0) t)(o:InG (ps.getD k G0) t) :
  SmP (ps.getD j G0) (sR (ps.getD j G0) t) (ps.getD k G0) (sR (ps.getD k G0) t):=by
 have sg:∀k,k<ps.length->Cx (ps.getD k G0):=λk b=>Qv (r _ (Ze b)) (Qt ((Zp a).1 _ b));have x:(ps.getD k G0).1.1<=(ps.getD j G0).1.2.1:=by exact_mod_cast fH o.1 n.2
 have f:k=j+1:=by refine bI λD=>?_;obtain⟨m,rfl⟩:∃m,k=m+1:=⟨k-1,O1⟩;have c:=Zbi a b;have d:=Zfa r a (k:=j+1) (m:=m) O1 O1;have z:=Zbi a (i:=j) O1;have B:=(sg (j+1) O1).t2;omega
 subst f;have p:=Zbi a (i:=j) O1;have y:meG (ps.getD j G0) (ps.getD (j+1) G0)=true:=by have c:=(Zp a).1 _ b;have d:=Bj (Qt c) (lW _);rw [c]at d;exact d.symm
 have e:t=((ps.getD j G0).1.2.1:Rat):=by refine Rat.le_antisymm n.2 ?_;rw [<-p];exact o.1
 have l:=sg j O1;have s:sR (ps.getD j G0) t=1:=by unfold sR;rw [e,show(((ps.getD j G0).1.2.1:Rat)-((ps.getD j G0).1.1:Rat))=(((ps.getD j G0).1.2.1-(ps.getD j G0).1.1:Int):Rat) by push_cast;rfl,gF];exact kN _ (Yih l)
 have v:sR (ps.getD (j+1) G0) t=0:=by unfold sR;rw [e,p,gF];grind
 rw [s,v];exact SmP_me l (sg _ b) y
theorem Zsv{ps:List Zf}(d:∀g∈ps,Gin g)(c:Yc ps=true){j:Nat}(e:j<ps.length)(f:k<ps.length)(a:InG (ps.getD j G0) t)(b:InG (ps.getD k G0) t) :
  SmP (ps.getD j G0) (sR (ps.getD j G0) t) (ps.getD k G0) (sR (ps.getD k G0) t):=by
 rcases iW j k with h|h|h
 .exact Zy3 d c h f a b
 .subst h;exact λi hi=>rfl
 .exact(Zy3 d c h e b a).symm
theorem Zx7{g:Zf}{G:Int}(a:Cx g)(h:Prt q g G) : SmP q u g (sR g ((q.1.1:Rat)+u*((q.1.2.1-q.1.1:Int):Rat))):=
 Yp7 h (by rw [Ygb a];push_cast;grind)
def Bu(g:Zf)(i:Nat)(s:Rat):Rat:=spX g i s/(g.1.2.2:Rat)
def dQ(g h:Zf)(s u:Rat):Rat:=(Bu g 0 s-Bu h 0 u)*(Bu g 0 s-Bu h 0 u)+(Bu g 1 s-Bu h 1 u)*(Bu g 1 s-Bu h 1 u)+(Bu g 2 s-Bu h 2 u)*(Bu g 2 s-Bu h 2 u)
theorem Zhd{g:Zf}{s:Rat}(j:Cx g)(l:Cx h)(e:SmP g s h u){i:Nat}(hi:i<3):Bu g i s=Bu h i u:=by
 have c:=e i hi;have a:=Ztg j;have b:=Ztg l;have d:Bu g i s*(g.1.2.2:Rat)=spX g i s:=eE a;have f:Bu h i u*(h.1.2.2:Rat)=spX h i u:=eE b;rw [<-d,<-f]at c;have:(Bu g i s-Bu h i u)*((g.1.2.2:Rat)*(h.1.2.2:Rat))=0:=O5;rcases dE.1 this with k|k
 .grind
 .rcases dE.1 k with k|k
  .exact absurd k a
  .exact absurd k b
theorem Yj6{g r:Zf}{s v w:Rat}(a:Cx g)(b:Cx h)(c:Cx q)(d:Cx r)(e:SmP g s q v)(f:SmP h u r w):dQ g h s u=dQ q r v w:=by unfold dQ;rw [Zhd a c e (i:=0) O3,Zhd a c e (i:=1) O3,Zhd a c e (i:=2) O3,Zhd b d f (i:=0) O3,Zhd b d f (i:=1) O3,Zhd b d f (i:=2) O3]
theorem fv_dQ{g:Zf}(s:Cx g)(v:Cx h)(D:Int)(t:Rat):0<=fvE D 1 1 g.1.2.2 h.1.2.2 g.2.1.2 g.2.2.1.2 g.2.2.2.2 h.2.1.2 h.2.2.1.2 h.2.2.2.2 t↔(D:Rat)*D<=dQ g h t t:=by
 have c:=Ztg s;have d:=Ztg v;have a:∀i,spX g i t=Bu g i t*(g.1.2.2:Rat)/\spX h i t=Bu h i t*(h.1.2.2:Rat):=λi=>⟨(eE c).symm,(eE d).symm⟩;have f:Zb g.2.1.2 t=Bu g 0 t*(g.1.2.2:Rat):=(a 0).1;have j:Zb g.2.2.1.2 t=Bu g 1 t*(g.1.2.2:Rat):=(a 1).1;have l:Zb g.2.2.2.2 t=Bu g 2 t*(g.1.2.2:Rat):=(a 2).1;have m:Zb h.2.1.2 t=Bu h 0 t*(h.1.2.2:Rat):=(a 0).2;have n:Zb h.2.2.1.2 t=Bu h 1 t*(h.1.2.2:Rat):=(a 1).2;have o:Zb h.2.2.2.2 t=Bu h 2 t*(h.1.2.2:Rat):=(a 2).2;have w:(g.1.2.2:Rat)*(h.1.2.2:Rat)≠0:=λe=>by
  rcases dE.1 e with k|k
  .exact c k
  .exact d k
 have b:0<((g.1.2.2:Rat)*(h.1.2.2:Rat))*((g.1.2.2:Rat)*(h.1.2.2:Rat)):=by have x:=Yfg ((g.1.2.2:Rat)*(h.1.2.2:Rat));refine nJ.1 λy=>?_;have r:((g.1.2.2:Rat)*(h.1.2.2:Rat))*((g.1.2.2:Rat)*(h.1.2.2:Rat))=0:=O5;rcases dE.1 r with k|k<;>exact w k
 have e:fvE D 1 1 g.1.2.2 h.1.2.2 g.2.1.2 g.2.2.1.2 g.2.2.2.2 h.2.1.2 h.2.2.1.2 h.2.2.2.2 t=((g.1.2.2:Rat)*(h.1.2.2:Rat))*((g.1.2.2:Rat)*(h.1.2.2:Rat))*(dQ g h t t-(D:Rat)*D):=by unfold fvE dfA dQ;rw [f,j,l,m,n,o];push_cast;grind
 rw [e];constructor
 .intro p;refine kD.1 λz=>?_;have:=aV b (show 0<(D:Rat)*D-dQ g h t t by grind);grind
 .intro p;exact aM (dC b) O5
structure Pcs (a b:List Zf) (n:Nat) (T:Nat->Int) (ua ub:Nat->Zc0) (ja jb:Nat->Nat):Prop where
 n1:1<=n
 t0:T 0=Fj a b
 tn:T n=Fi a b
 lt:∀k,k<n->T k<T (k+1)/\Fj a b<=T k/\T (k+1)<=Fi a b
 la:∀k,k<n->ja k<a.length/\(a.getD (ja k) G0).1.1<=T k/\T (k+1)<=(a.getD (ja k) G0).1.2.1
 lb:∀k,k<n->jb k<b.length/\(b.getD (jb k) G0).1.1<=T k/\T (k+1)<=(b.getD (jb k) G0).1.2.1
 pa:∀k,k<n->Cx (mkS (ua k))/\(∃G,Prt (mkS (ua k)) (a.getD (ja k) G0) G)/\(ua k).1.1=T k/\(ua k).1.2.1=T (k+1)
 pb:∀k,k<n->Cx (mkS (ub k))/\(∃G,Prt (mkS (ub k)) (b.getD (jb k) G0) G)/\(ub k).1.1=T k/\(ub k).1.2.1=T (k+1)
 ra:Mx a b a=(List.range n).map ua
 rb:Mx a b b=(List.range n).map ub
theorem Zl2{ts:List Int}{ps:List Zf}{u:Nat->Zc0} : ∀n,(∀k,k<n->Bn (ts.getD k 0) (ts.getD (k+1) 0) ps=[u k])->Zew ts ps n=(List.range n).map u
 | 0,_=>rfl
 | n+1,h=>by show Zew ts ps n ++ Bn (ts.getD n 0) (ts.getD (n+1) 0) ps=_;rw [Zl2 n (λk a=>h k O1),h n O1,List.range_succ,dZ];rfl
theorem pcs{a b:List Zf}(s:∀g∈a,Gin g)(v:∀g∈b,Gin g)(o:Yc a=true)(p:Yc b=true)(W:Fj a b<Fi a b)(z:Oo a b=0):∃n T Z ub l m,Pcs a b n T Z ub l m:=by
 have w:Gc a b=0:=by
  unfold Oo at z;split at z
  .rename_i y;unfold Gc at y;rw [aH O1]at y;split at y<;>cases y
  .exact z
 obtain⟨-,V⟩:=Ykh w;have B:=bks _ _ W;have Y:=B.two;have R:∀ps,Mx a b ps=Zew (Od a b) ps ((Od a b).length-1):=λps=>aK w;have kk:=Zuz V;have S:∀k,k+1<(Od a b).length->∃j,j<a.length/\(a.getD j G0).1.1<=(Od a b).getD k 0/\(Od a b).getD (k+1) 0<=(a.getD j G0).1.2.1:=λk c=>by obtain⟨e,f,i⟩:=B.lt k c;unfold Fj at e;unfold Fi at i;exact Yf3 s o O1 f O1 λg r=>B.no k c g (.inl r)
 have gb:∀k,k+1<(Od a b).length->∃j,j<b.length/\(b.getD j G0).1.1<=(Od a b).getD k 0/\(Od a b).getD (k+1) 0<=(b.getD j G0).1.2.1:=λk c=>by obtain⟨e,f,i⟩:=B.lt k c;unfold Fj at e;unfold Fi at i;exact Yf3 v p O1 f O1 λg r=>B.no k c g (.inr r)
 have x:∃(l m:Nat->Nat),∀k,k+1<(Od a b).length->(l k<a.length/\(a.getD (l k) G0).1.1<=(Od a b).getD k 0/\(Od a b).getD (k+1) 0<=(a.getD (l k) G0).1.2.1)/\(m k<b.length/\(b.getD (m k) G0).1.1<=(Od a b).getD k 0/\(Od a b).getD (k+1) 0<=(b.getD (m k) G0).1.2.1):=by refine⟨λk=>if c:k+1<(Od a b).length then Classical.choose (S k c)else 0,λk=>if c:k+1<(Od a b).length then Classical.choose (gb k c)else 0,λk c=>?_⟩;simp only [c,dif_pos];exact⟨kY (S k c),kY (gb k c)⟩
 obtain⟨l,m,d⟩:=x;have P:∀k,k+1<(Od a b).length->_:=λk c=>by obtain⟨e,f,i⟩:=B.lt k c;unfold Fj at e;unfold Fi at i;exact Ya9 s o O1 f O1 (λg r=>B.no k c g (.inl r)) (kk k O1).1 (d k c).1.1 (d k c).1.2.1 (d k c).1.2.2
 have Q:∀k,k+1<(Od a b).length->_:=λk c=>by obtain⟨e,f,i⟩:=B.lt k c;unfold Fj at e;unfold Fi at i;exact Ya9 v p O1 f O1 (λg r=>B.no k c g (.inr r)) (kk k O1).2 (d k c).2.1 (d k c).2.2.1 (d k c).2.2.2
 refine⟨(Od a b).length-1,λk=>(Od a b).getD k 0,λk=>Zgl ((Od a b).getD k 0) ((Od a b).getD (k+1) 0) (a.getD (l k) G0),λk=>Zgl ((Od a b).getD k 0) ((Od a b).getD (k+1) 0) (b.getD (m k) G0),l,m,O1,B.hd,B.ls,λk c=>?_,λk c=>(d k O1).1,λk c=>(d k O1).2,λk c=>?_,λk c=>?_,?_,?_⟩
 .obtain⟨e,f,i⟩:=B.lt k O1;exact⟨f,e,i⟩
 .obtain⟨-,D,F,G,H⟩:=P k O1;obtain⟨I,M,N⟩:=Zjm (q:=mkS (Zgl ((Od a b).getD k 0) ((Od a b).getD (k+1) 0) (a.getD (l k) G0))) (s _ (Ze (d k O1).1.1)) (Qt ((Zp o).1 _ (d k O1).1.1)) D F rfl;exact⟨Qv I M,⟨_,N⟩,G,H⟩
 .obtain⟨-,D,F,G,H⟩:=Q k O1;obtain⟨I,M,N⟩:=Zjm (q:=mkS (Zgl ((Od a b).getD k 0) ((Od a b).getD (k+1) 0) (b.getD (m k) G0))) (v _ (Ze (d k O1).2.1)) (Qt ((Zp p).1 _ (d k O1).2.1)) D F rfl;exact⟨Qv I M,⟨_,N⟩,G,H⟩
 .rw [R];exact Zl2 _ λk c=>(P k O1).1
 .rw [R];exact Zl2 _ λk c=>(Q k O1).1
theorem btwR{T:Nat->Int}{t:Rat}(d:(T 0:Rat)<=t):∀n,1<=n->t<=(T n:Rat)->∃k,k<n/\(T k:Rat)<=t/\t<=(T (k+1):Rat)
 | 0,h,_=>absurd h O1
 | 1,_,h=>⟨0,O1,d,h⟩
 | n+2,_,h=>by
  rcases Rat.le_total (a:=t) (b:=(T (n+1):Rat))with c|c
  .obtain⟨k,g,e,f⟩:=btwR d (n+1) O1 c;exact⟨k,O1,e,f⟩
  .exact⟨n+1,O1,c,h⟩
section
variable {a b:List Zf} (hpa:∀g∈a,Gin g) (hpb:∀g∈b,Gin g) (hba:Yc a=true) (hbb:Yc b=true)
include hpa hpb hba hbb
theorem pcs_at{n:Nat}{T:Nat->Int}{e f:Nat->Zc0}{m o:Nat->Nat}(P:Pcs a b n T e f m o):∀k,k<n->∀u:Rat,0<=u->u<=1->∀t:Rat,t=(T k:Rat)+u*((T (k+1)-T k:Int):Rat)->InG (a.getD (m k) G0) t/\InG (b.getD (o k) G0) t/\(Fj a b:Rat)<=t/\t<=(Fi a b:Rat)/\dQ (mkS (e k)) (mkS (f k)) u u=dQ (a.getD (m k) G0) (b.getD (o k) G0) (sR (a.getD (m k) G0) t) (sR (b.getD (o k) G0) t):=by
 intro k d u S u1 t l;have i:∀k,k<a.length->Cx (a.getD k G0):=λk d=>Qv (hpa _ (Ze d)) (Qt ((Zp hba).1 _ d));have j:∀k,k<b.length->Cx (b.getD k G0):=λk d=>Qv (hpb _ (Ze d)) (Qt ((Zp hbb).1 _ d));obtain⟨r,V,W⟩:=P.la k d;obtain⟨s,Y,Z⟩:=P.lb k d;obtain⟨Q,⟨G,M⟩,v,w⟩:=P.pa k d;obtain⟨R,⟨K,N⟩,z,B⟩:=P.pb k d;obtain⟨l1,H,l3⟩:=P.lt k d;have p:(0:Rat)<=((T (k+1)-T k:Int):Rat):=by exact_mod_cast (show 0<=T (k+1)-T k by omega)
 have m1:=aM S p;have I:=aM (show(0:Rat)<=1-u by grind) p;have t1:(T k:Rat)<=t:=by rw [l];grind
 have t2:t<=(T (k+1):Rat):=by rw [l];push_cast at I ⊢;grind
 have c:∀{x y:Int},x<=y->(x:Rat)<=(y:Rat):=λh=>by exact_mod_cast h
 have f1:=Zx7 (i _ r) M (u:=u);have f2:=Zx7 (j _ s) N (u:=u);have D:((mkS (e k)).1.1:Rat)+u*(((mkS (e k)).1.2.1-(mkS (e k)).1.1:Int):Rat)=t:=by rw [l,show(mkS (e k)).1.1=T k from v,show(mkS (e k)).1.2.1=T (k+1)from w]
 have F:((mkS (f k)).1.1:Rat)+u*(((mkS (f k)).1.2.1-(mkS (f k)).1.1:Int):Rat)=t:=by rw [l,show(mkS (f k)).1.1=T k from z,show(mkS (f k)).1.2.1=T (k+1)from B]
 rw [D]at f1;rw [F]at f2;exact⟨⟨fH (c V) t1,fH t2 (c W)⟩,⟨fH (c Y) t1,fH t2 (c Z)⟩,fH (c H) t1,fH t2 (c l3),Yj6 Q R (i _ r) (j _ s) f1 f2⟩
theorem Zmj{D:Int}(R:dsB D=true)(r:Fj a b<Fi a b)(w:Oo a b=0) :
  Ho D 1 1 a b=true↔∀t:Rat,(Fj a b:Rat)<=t->t<=(Fi a b:Rat)->∀j k,j<a.length->k<b.length->InG (a.getD j G0) t->InG (b.getD k G0) t->(D:Rat)*D<=dQ (a.getD j G0) (b.getD k G0) (sR (a.getD j G0) t) (sR (b.getD k G0) t):=by
 obtain⟨n,T,G,H,Y,Z,P⟩:=pcs hpa hpb hba hbb r w;have i:∀k,k<a.length->Cx (a.getD k G0):=λk c=>Qv (hpa _ (Ze c)) (Qt ((Zp hba).1 _ c));have l:∀k,k<b.length->Cx (b.getD k G0):=λk c=>Qv (hpb _ (Ze c)) (Qt ((Zp hbb).1 _ c));have F:=pcs_at hpa hpb hba hbb P;have B:(Mx a b a).zip (Mx a b b)=(List.range n).map λk=>(G k,H k):=by rw [P.ra,P.rb,List.zip_map']
 rw [Zmk (cvS hpa hpb hba hbb R)];constructor
 .rintro⟨-,h⟩ t N Q j m x f V W;obtain⟨k,c,k1,k2⟩:=btwR (T:=T) (by rw [P.t0];exact N) n P.n1 (by rw [P.tn];exact Q);obtain⟨l1,-,-⟩:=P.lt k c;have S:((T (k+1)-T k:Int):Rat)≠0:=by exact_mod_cast (show T (k+1)-T k≠0 by omega)
  have y:(0:Rat)<((T (k+1)-T k:Int):Rat):=by exact_mod_cast (show 0<T (k+1)-T k by omega)
  have z:(t-(T k:Rat))/((T (k+1)-T k:Int):Rat)*((T (k+1)-T k:Int):Rat)=t-(T k:Rat):=eE S;generalize (t-(T k:Rat))/((T (k+1)-T k:Int):Rat)=u at z;have o:0<=u:=by refine kD.1 λr=>?_;have:=aV (show 0 < -u by grind) y;grind
  have p:u<=1:=by refine kD.1 λr=>?_;have:=aV (show 0<u-1 by grind) y;push_cast at this z;grind
  obtain⟨s,v,-,-,e⟩:=F k c u o p t O5;have d:=h (G k) (H k) (by rw [B];exact dH.2 ⟨k,fE.2 c,rfl⟩) u o p;have d:=(fv_dQ (P.pa k c).1 (P.pb k c).1 D u).1 d;rw [e]at d;rw [Yj6 (i _ x) (l _ f) (i _ (P.la k c).1) (l _ (P.lb k c).1) (Zsv hpa hba x (P.la k c).1 V s) (Zsv hpb hbb f (P.lb k c).1 W v)];exact d
 .intro h;refine⟨w,λg q f u o p=>?_⟩;rw [B]at f;obtain⟨k,c,e⟩:=dH.1 f;have c:=fE.1 c;cases e;obtain⟨s,v,I,M,e⟩:=F k c u o p _ rfl;have d:=h _ I M _ _ (P.la k c).1 (P.lb k c).1 s v;rw [<-e]at d;exact(fv_dQ (P.pa k c).1 (P.pb k c).1 D u).2 d
end
end Go.Sky
namespace Go.Sky
variable{t s:TypeId}{zs qs:List Zf}{k i:Nat}{sv:SL}{M0:Nat->Prop}{c:List Int}{d:Int}{q:Zf}
section
variable {P:Program} {N:Nat} {sc:Nat->Prop} {env:Qy} {H:Hp} {M:Nat->Prop}
theorem Zfm{e:TypeId}{L:List Int}(a:Enc P t 1 Yq)(b:k<zs.length)(hi:i<3)(f:l3 (zs.getD k G0) i=(sv,L)):Rd (ol3 e zs) 1 Yq (Xx sv) L:=by have:=rd_ol3 (e:=e) a b hi;rw [f]at this;exact this
theorem Yey (ii:Nat)(k:Nat) {o:Oper} {x y:Operand} {e:TypeId} {j:Nat} {u:Int}   {L:List Int} {w0:World}  (r:o.op= .store t x y) (l:o.dst=none)
  (w:ev env x=some (.pointer (some (ead (Xx sv) j 1)))) (z:ev env y=some (.int .i64 u)) (h:lk H ii=some (ol3 e zs)) (a:ii≠0) (p:k<zs.length) (hi:i<3) (f:l3 (zs.getD k G0) i=(sv,L)) (n:j<L.length) (m:Enc P t 1 Yq)
  (g:lk H 0=some (Yo w0 M0)) (v:∀b,w0.heap.size<=b->sc b) :
  T P N sc (λ_=>True) o env H (G:=Unit) (λ_=>True) (λ_=>env) (λ_=>(ii,ol3 e (zs.set k (stL (zs.getD k G0) i j u)))::H):=
 t_sto3 r l (by rw [f];exact w) z h a p hi (by rw [f];exact n) m g v
end
abbrev V3T:=Int×Int×Int
def adL(c:List Int)(d:Int):List Int:=c.set 0 (c.getD 0 0+d)
def mvG(v:V3T)(g:Zf):Zf:=(g.1,(g.2.1.1,adL g.2.1.2 (v.1*g.1.2.2)),(g.2.2.1.1,adL g.2.2.1.2 (v.2.1*g.1.2.2)),(g.2.2.2.1,adL g.2.2.2.2 (v.2.2*g.1.2.2)))
def mv1(v:V3T)(g:Zf):Zf:=(g.1,(g.2.1.1,adL g.2.1.2 (v.1*g.1.2.2)),g.2.2.1,g.2.2.2)
def mv2(v:V3T)(g:Zf):Zf:=(g.1,(g.2.1.1,adL g.2.1.2 (v.1*g.1.2.2)),(g.2.2.1.1,adL g.2.2.1.2 (v.2.1*g.1.2.2)),g.2.2.2)
def mvK(v:V3T)(ps:List Zf)(k:Nat):List Zf:=(ps.take k).map (mvG v) ++ ps.drop k
theorem mvK_0(v:V3T)(ps:List Zf):mvK v ps 0=ps:=by unfold mvK;simp
theorem Kj(v:V3T)(ps:List Zf)(k:Nat):(mvK v ps k).length=ps.length:=by unfold mvK;simp;omega
theorem Ynx(v:V3T)(ps:List Zf):mvK v ps ps.length=ps.map (mvG v):=by unfold mvK;simp
theorem Zz2{v:V3T}{ps:List Zf}(a:k<ps.length):(mvK v ps k).getD k G0=ps.getD k G0:=by unfold mvK;rw [aC,cP O9,fZ,aC];congr 2;simp;omega
theorem Zz1{v:V3T}{ps:List Zf}(a:k<ps.length):l3 ((mvK v ps k).getD k G0) 0=((ps.getD k G0).2.1.1,(ps.getD k G0).2.1.2):=by rw [Zz2 a];rfl
theorem Zz0{v:V3T}{ps:List Zf}(a:k<ps.length):l3 (((mvK v ps k).set k (mv1 v (ps.getD k G0))).getD k G0) 1=((ps.getD k G0).2.2.1.1,(ps.getD k G0).2.2.1.2):=by rw [Zg7 (by rw [Kj];exact a)];rfl
theorem Zzz{v:V3T}{ps:List Zf}(a:k<ps.length):l3 (((mvK v ps k).set k (mv2 v (ps.getD k G0))).getD k G0) 2=((ps.getD k G0).2.2.2.1,(ps.getD k G0).2.2.2.2):=by rw [Zg7 (by rw [Kj];exact a)];rfl
theorem mv_s1{v:V3T}{ps:List Zf}(a:k<ps.length) :
  (mvK v ps k).set k (stL ((mvK v ps k).getD k G0) 0 0 ((ps.getD k G0).2.1.2.getD 0 0+v.1*(ps.getD k G0).1.2.2))=(mvK v ps k).set k (mv1 v (ps.getD k G0)):=by
 rw [Zz2 a];rfl
theorem mv_s2{v:V3T}{ps:List Zf}(a:k<ps.length) :
  ((mvK v ps k).set k (mv1 v (ps.getD k G0))).set k (stL (((mvK v ps k).set k (mv1 v (ps.getD k G0))).getD k G0) 1 0 ((ps.getD k G0).2.2.1.2.getD 0 0+v.2.1*(ps.getD k G0).1.2.2))=(mvK v ps k).set k (mv2 v (ps.getD k G0)):=by
 rw [Zg7 (by rw [Kj];exact a),nH];rfl
theorem mv_s3{v:V3T}{ps:List Zf}(a:k<ps.length) :
  ((mvK v ps k).set k (mv2 v (ps.getD k G0))).set k (stL (((mvK v ps k).set k (mv2 v (ps.getD k G0))).getD k G0) 2 0 ((ps.getD k G0).2.2.2.2.getD 0 0+v.2.2*(ps.getD k G0).1.2.2))=mvK v ps (k+1):=by
 rw [Zg7 (by rw [Kj];exact a),nH];unfold mvK;have b:((ps.take k).map (mvG v)).length=k:=O9;rw [jV _ _ O1,b,iF];have e:ps.drop k=ps.getD k G0::ps.drop (k+1):=by rw [dS a,aC,aD a];rfl
 rw [e,kK];have f:ps.take (k+1)=ps.take k ++ [ps.getD k G0]:=by rw [kX,aD a,aC,aD a];rfl
 rw [f,dZ,cS];rfl
theorem osl_mv{w:Value}{v:V3T}{ps:List Zf}:Pz 6 s Xv w ps=Pz 6 s Xv w (ps.map (mvG v)):=by
 have a:(ps.map (mvG v)).length=ps.length:=aP ..;have b:cellsOf Xv (ps.map (mvG v))=cellsOf Xv ps:=by unfold cellsOf;rw [List.flatMap_map];rfl
 unfold Pz;congr 1;funext w1;rw [a,b]
def vcB(x y z:Int):Bool:=Zwz 16777216 [x,y,z]
theorem vc_b{x y z:Int}(h:vcB x y z=true):(-16777216<=x/\x<=16777216)/\(-16777216<=y/\y<=16777216)/\(-16777216<=z/\z<=16777216):=by unfold vcB Zwz at h;simp only [oM,List.all_nil,oN,aO,cK]at h;exact⟨h.1,h.2.1,h.2.2⟩
theorem Yhx{a:Int}(h:AxC c a)(g:1<=a)(j:a<=4294967296)(f:-16777216<=d/\d<=16777216):Oc (d*a)/\Oc (c.getD 0 0+d*a):=by have b:=h.cg 0;have b:(((c.getD 0 0).natAbs:Nat):Int)<=83886080*a:=b;have e:=mulb (x:=d) (y:=a) (A:=16777216) (B:=4294967296) O1 O1;exact⟨⟨O1,O1⟩,⟨O1,O1⟩⟩
structure MvX (v:V3T) (g:Zf):Prop where
 x:Oc (v.1*g.1.2.2)/\Oc (g.2.1.2.getD 0 0+v.1*g.1.2.2)
 y:Oc (v.2.1*g.1.2.2)/\Oc (g.2.2.1.2.getD 0 0+v.2.1*g.1.2.2)
 z:Oc (v.2.2*g.1.2.2)/\Oc (g.2.2.2.2.getD 0 0+v.2.2*g.1.2.2)
 lx:0<g.2.1.2.length
 ly:0<g.2.2.1.2.length
 lz:0<g.2.2.2.2.length
theorem mvX{v:V3T}{g:Zf}(h:Gin g)(a:seB g=true)(j:vcB v.1 v.2.1 v.2.2=true):MvX v g:=by have s:=Qv h a;obtain⟨b,e,f⟩:=Zkk a;obtain⟨l,m,n⟩:=vc_b j;exact⟨Yhx b s.o1 s.o2 l,Yhx e s.o1 s.o2 m,Yhx f s.o1 s.o2 n,(s.lc 0).1,(s.lc 1).1,(s.lc 2).1⟩
theorem Yip(f:∀a∈c,Oc a)(h:Oc (c.getD 0 0+d)):∀a∈adL c d,Oc a:=λa e=>by
 rcases mG e with b|rfl
 .exact f a b
 .exact h
def mv_gin{v:V3T}{g:Zf}(a:Gin g)(h:MvX v g):Gin (mvG v g):=⟨a.1,a.2,a.3,Yip a.4 h.x.2,Yip a.5 h.y.2,Yip a.6 h.z.2⟩
theorem un_mv{ps:List Zf}(h:qs.map Ns=ps.map Ns)(v:V3T):(qs.map (mvG v)).map Ns=(ps.map (mvG v)).map Ns:=by
 induction qs generalizing ps with
 | nil=>cases ps with
  | nil=>rfl
  | cons p ps=>cases h
 | cons q qs g=>cases ps with
  | nil=>cases h
  | cons p ps=>
   rw [bT,bT]at h;injection h with h1 h2;rw [bT,bT,bT,bT,g h2];congr 1;unfold Ns at h1 ⊢;unfold mvG;simp only [iX]at h1 ⊢;obtain⟨a,b,e,f⟩:=h1;exact⟨a,by rw [a,b],by rw [a,e],by rw [a,f]⟩
theorem Zvp{p:Zf}(h:Ns q=Ns p):seB q=seB p:=by unfold Ns at h;simp only [iX]at h;obtain⟨a,b,e,f⟩:=h;unfold seB;rw [a,b,e,f]
theorem Zvq{p:Zf}(h:Ns q=Ns p)(a:Gin p):Gin q:=by unfold Ns at h;simp only [iX]at h;obtain⟨b,e,f,g⟩:=h;exact⟨by rw [b];exact a.1,by rw [b];exact a.2,by rw [b];exact a.3,by rw [e];exact a.4,by rw [f];exact a.5,by rw [g];exact a.6⟩
theorem un_mem{ps:List Zf}(h:qs.map Ns=ps.map Ns)(b:q∈qs):∃p∈ps,Ns q=Ns p:=by
 have:Ns q∈ps.map Ns:=by rw [<-h];exact dH.2 ⟨q,b,rfl⟩
 obtain⟨p,a,e⟩:=dH.1 this;exact⟨p,a,e.symm⟩
theorem mv_X{ps:List Zf}{v:V3T}(j:∀g∈ps,Gin g)(b:Yc ps=true)(h:zs.map Ns=ps.map Ns)(l:vcB v.1 v.2.1 v.2.2=true)(f:k<zs.length):MvX v (zs.getD k G0):=by
 have a:k<ps.length:=by rw [<-Cz h];exact f
 have e:=Zr5 h k;exact mvX (Zvq e (j _ (Ze a))) (by rw [Zvp e];exact Qt ((Zp b).1 _ a)) l
theorem Zwq{ps:List Zf}{v:V3T}(j:∀g∈ps,Gin g)(o:Yc ps=true)(h:zs.map Ns=ps.map Ns)(u:vcB v.1 v.2.1 v.2.2=true):∀g∈zs.map (mvG v),Gin g:=λg r=>by
 obtain⟨z,l,rfl⟩:=dH.1 r;obtain⟨k,f,e⟩:=cY.1 l;have n:zs.getD k G0=z:=by rw [aC,aD f,<-e];rfl
 have b:=mv_X j o h u f;rw [n]at b;obtain⟨p,a,m⟩:=un_mem h l;exact mv_gin (Zvq m (j p a)) b
end Go.Sky
namespace Go.Sky
variable{p q:Zf}{D:Int}
structure Mvd (y:Int) (v:Nat->Rat) (a c:List Zf):Prop where
 len:c.length=a.length
 t1:∀k,k<a.length->(c.getD k G0).1.1=(a.getD k G0).1.1+y
 t2:∀k,k<a.length->(c.getD k G0).1.2.1=(a.getD k G0).1.2.1+y
 ck:∀k,k<a.length->∀fr to,Ny fr to (a.getD k G0)=true->Cq (fr+y) (to+y) (c.getD k G0)=Cq fr to (a.getD k G0)
 pl:∀k,k<a.length->∀(t:Rat) i,i<3->Bu (c.getD k G0) i (sR (c.getD k G0) (t+(y:Rat)))=Bu (a.getD k G0) i (sR (a.getD k G0) t)+v i
theorem Yh4{ps:List Zf}{p:Zf->Prop} : (∃g∈ps,p g)↔∃k,k<ps.length/\p (ps.getD k G0):=by
 constructor
 .rintro⟨g,b,h⟩;obtain⟨k,a,rfl⟩:=cY.1 b;exact⟨k,a,by rw [aC,aD a];exact h⟩
 .rintro⟨k,a,h⟩;exact⟨_,Ze a,h⟩
theorem Yag(y:Int):∀{l:List Int},Inc l->Inc (l.map (· + y))
 | [],_=>trivial
 | x::l,h=>⟨λz b=>by obtain⟨q,a,rfl⟩:=dH.1 b;have:=h.1 q a;show x+y<q+y;omega,Yag y h.2⟩
theorem Yk8{ps:List Zf}{p q:Zf->Bool} : (ps.filter p).all q=true↔∀k,k<ps.length->p (ps.getD k G0)=true->q (ps.getD k G0)=true:=by
 rw [cI];constructor
 .intro h k a f;exact h _ (fA.2 ⟨Ze a,f⟩)
 .intro h g d;obtain⟨b,c⟩:=fA.1 d;obtain⟨k,a,rfl⟩:=cY.1 b;have e:ps.getD k G0=ps[k]:=by rw [aC,aD a];rfl
  have:=h k a (by rw [e];exact c);rw [e]at this;exact this
section
variable {y:Int} {v w:Nat->Rat} {a b c d:List Zf}
def Mvd.F(h:Mvd y v a c)(e:0<a.length):Ep c=Ep a+y:=h.t1 0 e
theorem Mvd.L(h:Mvd y v a c)(e:0<a.length):Bc c=Bc a+y:=by unfold Bc;rw [h.len];exact h.t2 _ O1
theorem Zzy(h:Mvd y v a c)(g:Mvd y w b d)(n:0<a.length)(m:0<b.length):Fj c d=Fj a b+y/\Fi c d=Fi a b+y/\Od c d=(Od a b).map (· + y):=by
 have l:Fj c d=Fj a b+y:=by unfold Fj;rw [h.F n,g.F m];omega
 have eL:Fi c d=Fi a b+y:=by unfold Fi;rw [h.L n,g.L m];omega
 refine⟨l,eL,Zqa (Bl _) (Yag y (Bl _)) λx=>?_⟩;have hs:∀{a c:List Zf} {v:Nat->Rat},Mvd y v a c->∀z,((∃g∈c,g.1.1=z+y)↔∃g∈a,g.1.1=z):=λ{a c v} h z=>by
  rw [Yh4,Yh4,h.len];constructor
  .rintro⟨k,f,e⟩;exact⟨k,f,by rw [h.t1 k f]at e;omega⟩
  .rintro⟨k,f,e⟩;exact⟨k,f,by rw [h.t1 k f,e]⟩
 have i:∀z,z+y∈Od c d↔z∈Od a b:=λz=>by
  rw [Zdh,Zdh,l,eL,hs h z,hs g z];constructor
  .rintro(q|q|⟨s,t,j⟩)
   .exact .inl O1
   .exact .inr (.inl O1)
   .exact .inr (.inr ⟨O1,O1,j⟩)
  .rintro(q|q|⟨s,t,j⟩)
   .exact .inl O1
   .exact .inr (.inl O1)
   .exact .inr (.inr ⟨O1,O1,j⟩)
 have o:=i (x-y);rw [show x-y+y=x by omega]at o;show x∈Od c d↔x∈(Od a b).map (· + y);rw [o,dH];constructor
 .intro q;exact⟨_,q,O1⟩
 .rintro⟨z,r,e⟩;have:z=x-y:=O1;rw [<-this];exact r
theorem Zzx(h:Mvd y v a c)(fr g:Int):Qh (fr+y) (g+y) c=Qh fr g a:=by
 unfold Qh;rw [lJ,Yk8,Yk8,h.len];have i:∀k,k<a.length->Ny (fr+y) (g+y) (c.getD k G0)=Ny fr g (a.getD k G0):=λk e=>by unfold Ny cA cB;rw [h.t1 k e,h.t2 k e];exact bR.2 O1
 constructor
 .intro q k e f;have:=q k e (by rw [i k e];exact f);rw [h.ck k e _ _ f]at this;exact this
 .intro q k e f;rw [i k e]at f;rw [h.ck k e _ _ f];exact q k e f
theorem Ynv(h:Mvd y v a c)(g:Mvd y w b d)(j:0<a.length)(i:0<b.length):Oo c d=Oo a b:=by
 obtain⟨u,eL,eB⟩:=Zzy h g j i;have r:(Od c d).length=(Od a b).length:=by rw [eB,aP]
 have f:∀k,k<(Od a b).length->(Od c d).getD k 0=(Od a b).getD k 0+y:=λk o=>by rw [eB,aC,dW,aC,aD o];rfl
 have m:∀n,n+1<=(Od a b).length->Kz (Od c d) c d n=Kz (Od a b) a b n:=λn=>by
  induction n with
  | zero=>intro _;rfl
  | succ n s=>
   intro x;show(Kz (Od c d) c d n && (Qh _ _ c && Qh _ _ d))=(Kz (Od a b) a b n && (Qh _ _ a && Qh _ _ b));rw [s O1,f n O1,f (n+1) O1,Zzx h,Zzx g]
 have l:Gc c d=Gc a b:=by
  unfold Gc Zq7;by_cases e:Fj a b>=Fi a b
  .rw [aK e,aK O1]
  .have t:=(bks a b O1).two;rw [aH e,aH O1,r,m _ O1]
 unfold Oo;rw [l]
theorem Yb2{n f:Int}{a b:List Zf}(g:¬Fj a b<Fi a b):Ho D n f a b=true:=by
 have e:Gc a b=9:=by unfold Gc;rw [aK O1]
 unfold Ho;rw [Zw1 (by rw [e];decide),Yiy e];rfl
variable (hpa:∀g∈a,Gin g) (hpb:∀g∈b,Gin g) (hba:Yc a=true) (hbb:Yc b=true) (hpc:∀g∈c,Gin g) (hpd:∀g∈d,Gin g) (hbc:Yc c=true) (hbd:Yc d=true)
include hpa hpb hba hbb hpc hpd hbc hbd
theorem Yhv(h:Mvd y v a c)(g:Mvd y v b d)(z:dsB D=true)(B:Oo a b=0)(r:Ho D 1 1 a b=true):Oo c d=0/\Ho D 1 1 c d=true:=by
 have P:=(Zp hba).2.1;have N:=(Zp hbb).2.1;obtain⟨M,eL,-⟩:=Zzy h g O1 O1;have f:=(Ynv h g O1 O1).trans B;refine⟨f,?_⟩;by_cases F:Fj c d<Fi c d
 .refine(Zmj hpc hpd hbc hbd z F f).2 λt u x j k l m G H=>?_;rw [h.len]at l;rw [g.len]at m;have s:=(Zmj hpa hpb hba hbb z O1 B).1 r (t-(y:Rat)) (by rw [M]at u;push_cast at u;grind) (by rw [eL]at x;push_cast at x;grind) j k l m
   ⟨by have:=G.1;rw [h.t1 j l]at this;push_cast at this;grind,by have:=G.2;rw [h.t2 j l]at this;push_cast at this;grind⟩
   ⟨by have:=H.1;rw [g.t1 k m]at this;push_cast at this;grind,by have:=H.2;rw [g.t2 k m]at this;push_cast at this;grind⟩
  have e:t=t-(y:Rat)+(y:Rat):=O5;have n:=λi hi=>h.pl j l (t-(y:Rat)) i hi;have o:=λi hi=>g.pl k m (t-(y:Rat)) i hi;rw [<-e]at n o;have I:dQ (c.getD j G0) (d.getD k G0) (sR (c.getD j G0) t) (sR (d.getD k G0) t)=dQ (a.getD j G0) (b.getD k G0) (sR (a.getD j G0) (t-(y:Rat))) (sR (b.getD k G0) (t-(y:Rat))):=by unfold dQ;rw [n 0 O3,n 1 O3,n 2 O3,o 0 O3,o 1 O3,o 2 O3];grind
  rw [I];exact s
 .exact Yb2 F
end
theorem Zyd(h:Ns q=Ns p)(fr e:Int):Cq fr e q=Cq fr e p:=by unfold Ns at h;simp only [iX]at h;obtain⟨f,i,j,k⟩:=h;unfold Cq cG cO cX cA cB;rw [f,i,j,k]
theorem Yep(h:Ns q=Ns p)(i:Nat)(s:Rat):Bu q i s=Bu p i s:=by unfold Ns at h;simp only [iX]at h;obtain⟨e,f,j,k⟩:=h;unfold Bu spX;rw [e,f,j,k]
theorem un_sR(h:Ns q=Ns p)(t:Rat):sR q t=sR p t:=by have e:q.1=p.1:=aL (λu:Zc0=>u.1) h;unfold sR;rw [e]
theorem un_me{r s:Zf}(h:Ns q=Ns p)(g:Ns r=Ns s):meG q r=meG p s:=by unfold Ns at h g;simp only [iX]at h g;obtain⟨e,f,i,j⟩:=h;obtain⟨k,l,m,n⟩:=g;unfold meG;rw [e,f,i,j,k,l,m,n]
theorem Ymj(y fr e:Int)(g:Zf):Cq (fr+y) (e+y) (shG y g)=Cq fr e g:=by
 have i:cA (fr+y) (shG y g)-(shG y g).1.1=cA fr g-g.1.1:=by show max (fr+y) (g.1.1+y)-(g.1.1+y)=max fr g.1.1-g.1.1;omega
 have j:cB (e+y) (shG y g)-cA (fr+y) (shG y g)=cB e g-cA fr g:=by show min (e+y) (g.1.2.1+y)-max (fr+y) (g.1.1+y)=min e g.1.2.1-max fr g.1.1;omega
 have h:(shG y g).1.2.1-(shG y g).1.1=g.1.2.1-g.1.1:=by show g.1.2.1+y-(g.1.1+y)=_;omega
 have f:∀c,cX (fr+y) (e+y) (shG y g) c=cX fr e g c:=λc=>by unfold cX;rw [i,j,h]
 have k:cO (shG y g)=cO g:=by unfold cO;rw [h];rfl
 unfold Cq cG;rw [k,f,f,f];rfl
theorem sh_gd{y:Int}{a:List Zf}{k:Nat}(e:k<a.length):(a.map (shG y)).getD k G0=shG y (a.getD k G0):=by rw [aC,dW,aC,aD e];rfl
theorem Yfs{y:Int}{a c:List Zf}(h:c.map Ns=(a.map (shG y)).map Ns):Mvd y (λ_=>0) a c:=by
 have n:c.length=a.length:=by have:=Cz h;rwa [aP]at this
 have j:∀k,k<a.length->Ns (c.getD k G0)=Ns (shG y (a.getD k G0)):=λk f=>by rw [Zr5 h k,sh_gd f]
 have l:∀k,k<a.length->(c.getD k G0).1=(shG y (a.getD k G0)).1:=λk f=>aL (λu:Zc0=>u.1) (j k f);refine⟨n,λk f=>by rw [l k f];rfl,λk f=>by rw [l k f];rfl,λk f fr o _=>by rw [Zyd (j k f),Ymj],λk f t i hi=>?_⟩;rw [Yep (j k f),un_sR (j k f)];have e:sR (shG y (a.getD k G0)) (t+(y:Rat))=sR (a.getD k G0) t:=by
  unfold sR;rw [show(shG y (a.getD k G0)).1.2.1-(shG y (a.getD k G0)).1.1=(a.getD k G0).1.2.1-(a.getD k G0).1.1 by show(a.getD k G0).1.2.1+y-((a.getD k G0).1.1+y)=_;omega];have m:((shG y (a.getD k G0)).1.1:Rat)=((a.getD k G0).1.1:Rat)+(y:Rat):=by show(((a.getD k G0).1.1+y:Int):Rat)=_;push_cast;rfl
  rw [m];congr 1;grind
 rw [e];show Bu (a.getD k G0) i _=_;grind
theorem Zys{y:Int}{a c:List Zf}(hpa:∀g∈a,Gin g)(hba:Yc a=true)(h:c.map Ns=(a.map (shG y)).map Ns)(H:¬y < -(Ep a))(I:¬y>3600000-Bc a):(∀g∈c,Gin g)/\Yc c=true:=by
 have B:c.length=a.length:=by have:=Cz h;rwa [aP]at this
 have r:∀k,k<a.length->Ns (c.getD k G0)=Ns (shG y (a.getD k G0)):=λk f=>by rw [Zr5 h k,sh_gd f]
 have sg:∀k,k<a.length->Cx (a.getD k G0):=λk f=>Qv (hpa _ (Ze f)) (Qt ((Zp hba).1 _ f));have x:∀k,k<a.length->Ep a<=(a.getD k G0).1.1/\(a.getD k G0).1.2.1<=Bc a:=λk f=>by
  refine⟨?_,Zfa hpa hba (k:=k) (m:=a.length-1) O1 O1⟩;rcases aS k with e|e
  .subst e;exact eY _
  .obtain⟨m,rfl⟩:∃m,k=m+1:=⟨k-1,O1⟩;have:=Zbi hba f;have:=Zfa hpa hba (k:=0) (m:=m) O1 O1;have:=(sg 0 O1).t2;unfold Ep;omega
 have n:∀k,k<a.length->seB (c.getD k G0)=true:=λk f=>by rw [Zvp (r k f)];have j:=Qt ((Zp hba).1 _ f);have s:=sg k f;have:=x k f;have t1:=s.t1;have t2:=s.t2;have t3:=s.t3;unfold seB Dq at j ⊢;simp only [aO]at j ⊢;refine⟨⟨⟨⟨?_,j.1.1.1.2⟩,j.1.1.2⟩,j.1.2⟩,j.2⟩;have u:=j.1.1.1.1;unfold Zvt at u ⊢;simp only [aO,cK]at u ⊢;show _;simp only [shG];omega
 have t:∀g∈c,Gin g:=λg t=>by
  obtain⟨k,f,rfl⟩:=cY.1 t;have e:c.getD k G0=c[k]:=by rw [aC,aD f];rfl
  have i:k<a.length:=O1;rw [<-e];refine Zvq (r k i) ?_;have o:=hpa _ (Ze (d:=G0) i);have:=x k i;have s:=sg k i;have t1:=s.t1;have t2:=s.t2;have t3:=s.t3;exact⟨⟨by show _<=(a.getD k G0).1.1+y;omega,by show(a.getD k G0).1.1+y<=_;omega⟩,⟨by show _<=(a.getD k G0).1.2.1+y;omega,by show(a.getD k G0).1.2.1+y<=_;omega⟩,o.3,o.4,o.5,o.6⟩
 refine⟨t,?_⟩;obtain⟨z,F,G⟩:=Zp hba;unfold Yc;rw [B,aJ F,aJ G,oN,oN,cI];intro k f;have f:=fE.1 f;rcases aS k with e|e
 .exact Zpq (n k f) e
 .rw [Bj (n k f) e,un_me (r (k-1) O1) (r k f)];have l:=Bj (Qt (z k f)) e;rw [z k f]at l;unfold meG Zd0 at l ⊢;have l:=l.symm;rw [aO,cK]at l ⊢;exact⟨by show(a.getD (k-1) G0).1.2.1+y=(a.getD k G0).1.1+y;omega,l.2⟩
end Go.Sky
namespace Go.Sky
variable{c p y z:List Int}{G D d o x n2 d2:Int}{a b:List Zf}{v:V3T}{k m:Nat}{r s t:Rat}{f:Nat->Rat}{zs:List (Int×SL)}
theorem Zjc(h:c.length≠0)(d:Int)(t:Rat):Zb (adL c d) t=Zb c t+(d:Rat):=by
 match c,h with
 | x::r,_=>
  show((x+d:Int):Rat)+t*Zb r t=(x:Rat)+t*Zb r t+(d:Rat);push_cast;grind
theorem Yjn : (∀x∈p,G∣x)↔∀i,G∣cf p i:=by
 constructor
 .intro h i;unfold cf;by_cases hi:i<p.length
  .exact h _ (Ze hi)
  .rw [aC,bF O1];exact iU _
 .intro h x g;obtain⟨i,hi,rfl⟩:=cY.1 g;have e:cf p i=p[i]:=by unfold cf;rw [aC,aD hi];rfl
  rw [<-e];exact h i
theorem Zn8{F j a b:Int}(w:D≠0)(h:AxC c F)(q:AxC (adL c d) j)(B:G∣d*D^5):(∀x∈Ot (adL c d) a b D,G∣x)↔∀x∈Ot c a b D,G∣x:=by
 have g:(D:Rat)≠0:=by exact_mod_cast w
 have e:∀i,cf (Ot (adL c d) a b D) i=cf (Ot c a b D) i+cf [d*D^5] i:=λi=>by rw [<-Zjo];refine Om (λu=>?_) i;have n:(((a:Rat)+(b:Rat)*u)/(D:Rat))*(D:Rat)=(a:Rat)+(b:Rat)*u:=eE g;rw [Zfl,Zah h n,Zah q n,Pb,Zjc (by have:=h.l;omega)];push_cast;grind
 have l:∀i,G∣cf [d*D^5] i:=λi=>by
  match i with
  | 0=>exact B
  | i+1=>exact iU _
 rw [Yjn,Yjn];constructor
 .intro k i;have:=Int.dvd_sub (k i) (l i);rwa [e,Int.add_sub_cancel]at this
 .intro k i;rw [e];exact pP (k i) (l i)
theorem Yix{x:List Int} : Gj o x y z∣o/\(∀a∈x,Gj o x y z∣a)/\(∀a∈y,Gj o x y z∣a)/\(∀a∈z,Gj o x y z∣a):=by
 obtain⟨h,e⟩:=Zqd (Nr 3 x y z) o;refine⟨h,λa g=>e a ?_,λa g=>e a ?_,λa g=>e a ?_⟩<;>
 .show a∈(([] ++ x) ++ y) ++ z;simp [g]
theorem Yiw{x:List Int}(g:G∣o)(i:∀a∈x,G∣a)(j:∀a∈y,G∣a)(l:∀a∈z,G∣a):G∣Gj o x y z:=
 Yai _ _ g λa e=>by
  have e:a∈(([] ++ x) ++ y) ++ z:=e;simp only [iN,cQ]at e;rcases e with(h|h)|h
  .exact i a h
  .exact j a h
  .exact l a h
theorem Ynw{g:Zf}(Q:Gin g)(N:seB g=true)(R:seB (mvG v g)=true)(fr i:Int):Cq fr i (mvG v g)=Cq fr i g:=by
 have s:=Qv Q N;have l:g.1.2.1-g.1.1≠0:=by have:=s.t2;omega
 obtain⟨w,B,F⟩:=Zkk N;obtain⟨H,I,M⟩:=Zkk R;have j:∀(d:Int) {G:Int},G∣cO g->G∣d*g.1.2.2*(g.1.2.1-g.1.1)^5:=λd G h=>by rw [fF];exact fC h (nA _ _)
 have e:cG fr i (mvG v g)=cG fr i g:=by
  have P:∀h:Zf,0<=cO h->0<=cG fr i h:=λh n=>Zdn _ _ n;have n:0<=cO g:=eT (by have:=s.o1;omega) (eQ (jG (by have:=s.t2;omega)));obtain⟨q,S,V,W⟩:=Yix (o:=cO g) (x:=cX fr i g g.2.1.2) (y:=cX fr i g g.2.2.1.2) (z:=cX fr i g g.2.2.2.2);obtain⟨u,Y,Z,q3⟩:=Yix (o:=cO (mvG v g)) (x:=cX fr i (mvG v g) (mvG v g).2.1.2) (y:=cX fr i (mvG v g) (mvG v g).2.2.1.2) (z:=cX fr i (mvG v g) (mvG v g).2.2.2.2);refine mZ (P _ n) (P _ n) ?_ ?_
  .exact Yiw u ((Zn8 l w H (j _ u)).1 Y) ((Zn8 l B I (j _ u)).1 Z) ((Zn8 l F M (j _ u)).1 q3)
  .exact Yiw q ((Zn8 l w H (j _ q)).2 S) ((Zn8 l B I (j _ q)).2 V) ((Zn8 l F M (j _ q)).2 W)
 unfold Cq;rw [e];rfl
theorem mg_gd(e:k<a.length):(a.map (mvG v)).getD k G0=mvG v (a.getD k G0):=by rw [aC,dW,aC,aD e];rfl
theorem Yhw{c:List Zf}(n:∀g∈a,Gin g)(P:∀g∈c,Gin g)(w:Yc a=true)(B:Yc c=true)(h:c.map Ns=(a.map (mvG v)).map Ns) :
  Mvd 0 (λi=>((Zo i v.1 v.2.1 v.2.2:Int):Rat)) a c:=by
 have N:c.length=a.length:=by have:=Cz h;rwa [aP]at this
 have q:∀k,k<a.length->Ns (c.getD k G0)=Ns (mvG v (a.getD k G0)):=λk j=>by rw [Zr5 h k,mg_gd j]
 have F:∀k,k<a.length->(c.getD k G0).1=(a.getD k G0).1:=λk j=>aL (λu:Zc0=>u.1) (q k j);have H:∀k,k<a.length->seB (a.getD k G0)=true:=λk j=>Qt ((Zp w).1 _ j);have Q:∀k,k<a.length->seB (mvG v (a.getD k G0))=true:=λk j=>by rw [<-Zvp (q k j)];exact Qt ((Zp B).1 _ O1)
 refine⟨N,λk j=>by rw [F k j];omega,λk j=>by rw [F k j];omega,λk j fr W _=>?_,λk j t i hi=>?_⟩
 .rw [fO,fO,Zyd (q k j),Ynw (n _ (Ze j)) (H k j) (Q k j)]
 .rw [Yep (q k j),un_sR (q k j)];have e:sR (mvG v (a.getD k G0)) (t+((0:Int):Rat))=sR (a.getD k G0) t:=by rw [show t+((0:Int):Rat)=t by push_cast;grind];rfl
  rw [e];have s:=Qv (n _ (Ze j)) (H k j);have o:=Ztg s;have M:∀i<3,spX (mvG v (a.getD k G0)) i (sR (a.getD k G0) t)=spX (a.getD k G0) i (sR (a.getD k G0) t)+((Zo i v.1 v.2.1 v.2.2:Int):Rat)*((a.getD k G0).1.2.2:Rat):=λi hi=>by
   have l:=s.lc i
   match i,hi with
   | 0,_=>show Zb (adL _ _) _=_;rw [Zjc (by have:0<(a.getD k G0).2.1.2.length:=(s.lc 0).1;omega)];push_cast;rfl
   | 1,_=>show Zb (adL _ _) _=_;rw [Zjc (by have:0<(a.getD k G0).2.2.1.2.length:=(s.lc 1).1;omega)];push_cast;rfl
   | 2,_=>show Zb (adL _ _) _=_;rw [Zjc (by have:0<(a.getD k G0).2.2.2.2.length:=(s.lc 2).1;omega)];push_cast;rfl
  unfold Bu;rw [M i hi];show(_+_)/((a.getD k G0).1.2.2:Rat)=_;generalize spX (a.getD k G0) i (sR (a.getD k G0) t)=X;generalize ((Zo i v.1 v.2.1 v.2.2:Int):Rat)=V;generalize ((a.getD k G0).1.2.2:Rat)=O at o;have R:(X+V*O)/O*O=X+V*O:=eE o;have S:X/O*O=X:=eE o;have I:((X+V*O)/O-(X/O+V))*O=0:=O5;rcases dE.1 I with k|k
  .grind
  .exact absurd k o
theorem Zzq(i:∀g∈a,Gin g)(h:Yc a=true)(j:k<a.length):Ep a<=(a.getD k G0).1.1/\(a.getD k G0).1.2.1<=Bc a:=by
 refine⟨?_,Zfa i h (k:=k) (m:=a.length-1) O1 O1⟩;rcases aS k with e|e
 .subst e;exact eY _
 .obtain⟨m,rfl⟩:∃m,k=m+1:=⟨k-1,O1⟩;have:=Zbi h j;have:=Zfa i h (k:=0) (m:=m) O1 O1;have:=(Qv (i _ (Ze (d:=G0) (show 0<a.length by omega))) (Qt ((Zp h).1 _ (show 0<a.length by omega)))).t2;unfold Ep;omega
theorem Zwj{fr n:Int}{c:List Zf}(q:Pat fr n a c){j:Nat}(g:j<c.length):∃i G,i<a.length/\Prt (c.getD j G0) (a.getD i G0) G:=by
 have h:c[j]? = some (c.getD j G0):=by rw [aD g,aC,aD g];rfl
 obtain⟨f,-,u,p⟩:=q.prt j _ h;obtain⟨i,hi,e⟩:=cY.1 u;refine⟨i,cG fr n f,hi,?_⟩;rw [aC (l:=a),aD hi,fG,e];exact p
theorem cut_ap{fr to:Int}{c:List Zf}(q:∀g∈a,Gin g)(F:∀g∈b,Gin g)(n:Yc a=true)(w:Yc b=true)(H:Pat fr to a c)(Z:dsB D=true)(hE:Oo a b=0)(V:Ho D 1 1 a b=true)(S:Oo c b=0):Ho D 1 1 c b=true:=by
 have I:=H.gin;have B:=H.pb;have M:∀k,k<a.length->Cx (a.getD k G0):=λk e=>Qv (q _ (Ze e)) (Qt ((Zp n).1 _ e));have N:∀k,k<b.length->Cx (b.getD k G0):=λk e=>Qv (F _ (Ze e)) (Qt ((Zp w).1 _ e));have P:∀k,k<c.length->Cx (c.getD k G0):=λk e=>Qv (I _ (Ze e)) (Qt ((Zp B).1 _ e));have c0:=(Zp B).2.1;by_cases hc:Fj c b<Fi c b
 .have hF:Ep a<=Ep c:=by obtain⟨i,G,hi,p⟩:=Zwj H (j:=0) O1;have Q:=(Zzq q n hi).1;have R:=p.a0;have h3:Ep c=(c.getD 0 G0).1.1:=rfl;omega
  have hL:Bc c<=Bc a:=by obtain⟨i,G,hi,p⟩:=Zwj H (j:=c.length-1) O1;have Q:=(Zzq q n hi).2;have R:=p.ab;have h3:Bc c=(c.getD (c.length-1) G0).1.2.1:=rfl;omega
  have f1:Fj a b<=Fj c b:=by unfold Fj;omega
  have f2:Fi c b<=Fi a b:=by unfold Fi;omega
  have Y:=(Zmj q F n w Z O1 hE).1 V;have l:∀{x y:Int},x<=y->(x:Rat)<=(y:Rat):=λh=>by exact_mod_cast h
  refine(Zmj I F B w Z hc S).2 λt Q R j k W e ij ik=>?_;obtain⟨i,G,hi,p⟩:=Zwj H W;have l1:(a.getD i G0).1.1<=(c.getD j G0).1.1:=by have:=p.a0;omega
  have l2:(c.getD j G0).1.2.1<=(a.getD i G0).1.2.1:=by have:=p.ab;omega
  have hv:=Y t (fH (l f1) Q) (fH R (l f2)) i k hi e ⟨fH (l l1) ij.1,fH ij.2 (l l2)⟩ ik;have hm:=Zx7 (M i hi) p (u:=sR (c.getD j G0) t);rw [Ygb (P j W),show((c.getD j G0).1.1:Rat)+(t-((c.getD j G0).1.1:Rat))=t by grind]at hm;rw [Yj6 (P j W) (N k e) (M i hi) (N k e) hm (λi hi=>rfl)];exact hv
 .exact Yb2 hc
structure QOK (n d:Int) (r:Rat) (m:Nat):Prop where
 p:0<d
 v:(n:Rat)=r*(d:Rat)
 a:bl n.natAbs<=m
 b:bl d.natAbs<=m
theorem QOK.ne{n:Int}(h:QOK n d r m):d≠0:=by have:=h.p;omega
def QOK.mono{n:Int}(h:QOK n d r m)(e:m<=k):QOK n d r k:=⟨h.p,h.v,aB h.a e,aB h.b e⟩
def QOK.cg{n:Int}(h:QOK n d r m)(e:r=s):QOK n d s m:=e▸h
theorem Zzk{n:Int}(h:QOK n d r m):QOK (n/Xs n d) (d/Xs n d) r m:=by
 refine⟨Zn1 h.p,?_,aB (Pr (gO _ _)) h.a,aB (Pr (gO _ _)) h.b⟩;have e:=Ztu n d;have g:=h.v;have l:(d:Rat)≠0:=by exact_mod_cast h.ne
 generalize n/Xs n d=x at *;generalize d/Xs n d=y at *;have i:(x:Rat)*(d:Rat)=(n:Rat)*(y:Rat):=by exact_mod_cast e
 have j:((x:Rat)-r*(y:Rat))*(d:Rat)=0:=by rw [g]at i;grind
 rcases dE.1 j with k|k
 .grind
 .exact absurd k l
theorem Znq{n:Int}(h:QOK n d r m)(g:QOK n2 d2 s k):QOK (n*n2/Xs (n*n2) (d*d2)) (d*d2/Xs (n*n2) (d*d2)) (r*s) (m+k):=by
 refine Zzk ⟨gE h.p g.p,?_,?_,?_⟩
 .have:=h.v;have:=g.v;push_cast;grind
 .have:=Ya n n2;have:=h.a;have:=g.a;omega
 .have:=Ya d d2;have:=h.b;have:=g.b;omega
theorem q_add{n:Int}(h:QOK n d r m)(g:QOK n2 d2 s k):QOK ((n*d2+n2*d)/Xs (n*d2+n2*d) (d*d2)) (d*d2/Xs (n*d2+n2*d) (d*d2)) (r+s) (m+k+1):=by
 refine Zzk ⟨gE h.p g.p,?_,?_,?_⟩
 .have:=h.v;have:=g.v;push_cast;grind
 .have:=Lx (n*d2) (n2*d);have:=Ya n d2;have:=Ya n2 d;have:=h.a;have:=g.a;have:=h.b;have:=g.b;omega
 .have:=Ya d d2;have:=h.b;have:=g.b;omega
theorem Zzj{n:Int}(h:QOK n d r m)(g:QOK n2 d2 s k):QOK ((n*d2-n2*d)/Xs (n*d2-n2*d) (d*d2)) (d*d2/Xs (n*d2-n2*d) (d*d2)) (r-s) (m+k+1):=by
 refine Zzk ⟨gE h.p g.p,?_,?_,?_⟩
 .have:=h.v;have:=g.v;push_cast;grind
 .have:=Lx (n*d2) (-(n2*d));have:=Ya n d2;have:=Ya n2 d;have:=h.a;have:=g.a;have:=h.b;have:=g.b;rw [eI]at *;rw [fK];omega
 .have:=Ya d d2;have:=h.b;have:=g.b;omega
theorem q_int(h:bl x.natAbs<=m)(e:1<=m):QOK x 1 (x:Rat) m:=⟨O3,by push_cast;grind,h,Nat.le_trans O3 e⟩
theorem q_inv (m:Nat)(g:0<x)(h:bl x.natAbs<=m)(e:1<=m):QOK 1 x (1/(x:Rat)) m:=
 ⟨g,by rw [eE (by exact_mod_cast (show x≠0 by omega))];push_cast;rfl,aB O3 e,h⟩
theorem Ygy{n:Int}(h:QOK n d r m)(g:QOK n2 d2 s k):(n*d2-n2*d).sign<0↔r<s:=by
 have l:(0:Rat)<(d:Rat)*(d2:Rat):=aV (by exact_mod_cast h.p) (by exact_mod_cast g.p);have e:((n*d2-n2*d:Int):Rat)=(r-s)*((d:Rat)*(d2:Rat)):=by push_cast;rw [h.v,g.v];grind
 have q:(n*d2-n2*d).sign<0↔n*d2-n2*d<0:=Int.sign_neg_iff;rw [q];constructor
 .intro j;have i:((n*d2-n2*d:Int):Rat)<0:=by exact_mod_cast j
  rw [e]at i;refine nJ.1 λu=>?_;have:=aM (show 0<=r-s by grind) (Rat.le_of_lt l);grind
 .intro j;have:=aV (show 0<s-r by grind) l;have i:((n*d2-n2*d:Int):Rat)<0:=by rw [e];grind
  exact_mod_cast i
theorem q_val(g:p=tzl c)(l:∀a∈c,Oc a)(n:c.length<=6){y:Int}(h:QOK x y s 5450) :
  QOK (pev p x y/Xs (pev p x y) (y^(p.length-1))) (y^(p.length-1)/Xs (pev p x y) (y^(p.length-1))) (Zb c s) 27500:=by
 have q:p.length<=6:=by rw [g];exact aB (Ko c) n
 have hs:Sz 64 p:=by rw [g];exact(Ylf l).sz O3
 have j:∀k,bl (y^k).natAbs<=k*5450+1:=λk=>Bz h.b k;have u:∀k,bl (x^k).natAbs<=k*5450+1:=λk=>Bz h.a k;refine Zzk ⟨jG h.p,?_,?_,?_⟩
 .have e:(x:Rat)/(y:Rat)=s:=by rw [h.v,Rat.mul_div_cancel (by exact_mod_cast h.ne)]
  rw [Zpl h.p,e,<-Ng c,<-g,Zbp]
 .refine aB (Zrk (K:=27400) (λi hi=>?_) O1) O3;have w:=Ya (cf p i) (x^i*y^(p.length-1-i));have B:=Ya (x^i) (y^(p.length-1-i));have F:=u i;have H:=j (p.length-1-i);have I:bl (cf p i).natAbs<=64:=hs i;omega
 .have:=j (p.length-1);omega
def sq3(f:Nat->Rat):Nat->Rat
 | 0=>0
 | k+1=>sq3 f k+f k*f k
theorem sq3_dQ(g h:Zf)(s u:Rat):sq3 (λi=>Bu g i s-Bu h i u) 3=dQ g h s u:=by unfold dQ;simp only [sq3];grind
theorem sR_q{g:Zf} : (t-(g.1.1:Rat))*(1/((g.1.2.1-g.1.1:Int):Rat))=sR g t:=by unfold sR;rw [gF,gF,mP]
theorem pzQ_q{g:Zf}{i:Nat} : Zb (Zo i g.2.1.2 g.2.2.1.2 g.2.2.2.2) s*(1/(g.1.2.2:Rat))=Bu g i s:=by unfold Bu spX;rw [gF,gF,mP]
abbrev QzT:=(Int×SL)×(Int×SL)
abbrev Zxb (z:QzT):Value:= .agg #[.bool (decide (z.1.1<0)),Xx z.1.2,.bool (decide (z.2.1<0)),Xx z.2.2]
abbrev qq (z:QzT):Pc:=Ib qI [z.1,z.2]
abbrev QZ0:QzT:=((0,none,0,0),(1,none,0,0))
def PlQ(g:Zf)(t:Rat)(zs:List QzT)(k:Nat):Prop:=zs.length=k/\∀i,i<k->QOK (zs.getD i QZ0).1.1 (zs.getD i QZ0).2.1 (Bu g i (sR g t)) 28000
def Plc(ps:List Zf)(t:Rat)(zs:List QzT):Prop:=∃j,j<ps.length/\InG (ps.getD j G0) t/\PlQ (ps.getD j G0) t zs 3
def plQ_0{g:Zf}:PlQ g t [] 0:=⟨rfl,λi h=>absurd h (bZ i)⟩
theorem plQ_s{g:Zf}{zs:List QzT}(h:PlQ g t zs k){z:QzT}(l:QOK z.1.1 z.2.1 (Bu g k (sR g t)) 28000):PlQ g t (zs ++ [z]) (k+1):=by
 refine⟨by rw [aW,h.1];rfl,λi hi=>?_⟩;rcases bC i k with j|j
 .have e:(zs ++ [z]).getD i QZ0=zs.getD i QZ0:=by rw [aC,aC,cM (by rw [h.1];exact j)]
  rw [e];exact h.2 i j
 .obtain rfl:i=k:=O1;have e:(zs ++ [z]).getD i QZ0=z:=by rw [aC,cP (by rw [h.1];exact aI _),h.1,iF];rfl
  rw [e];exact l
theorem sR_ok{g:Zf}(e:Cx g){y:Int}(h:QOK x y t 5400) :
  QOK ((x*1-g.1.1*y)/Xs (x*1-g.1.1*y) (y*1)*1/Xs ((x*1-g.1.1*y)/Xs (x*1-g.1.1*y) (y*1)*1) (y*1/Xs (x*1-g.1.1*y) (y*1)*(g.1.2.1-g.1.1))) (y*1/Xs (x*1-g.1.1*y) (y*1)*(g.1.2.1-g.1.1)/Xs ((x*1-g.1.1*y)/Xs (x*1-g.1.1*y) (y*1)*1) (y*1/Xs (x*1-g.1.1*y) (y*1)*(g.1.2.1-g.1.1))) (sR g t) 5450:=by
 have t1:=e.t1;have t2:=e.t2;have t3:=e.t3;exact((Znq (Zzj h (q_int (x:=g.1.1) (m:=22) (Zcy O1) O3)) (q_inv 22 (x:=g.1.2.1-g.1.1) O1 (Zcy O1) O3)).mono O3).cg sR_q
theorem Ygx{n:Int}(h:QOK n d r m)(g:QOK n2 d2 s k):0<(n*d2-n2*d).sign↔s<r:=by rw [<-Ygy g h,Int.sign_pos_iff,Int.sign_neg_iff];omega
def q_i(h:bl x.natAbs<=22):QOK x 1 (x:Rat) 22:=q_int h O3
theorem sq_0:QOK 0 1 (sq3 f 0) 1:=⟨O3,by show((0:Int):Rat)=0*_;push_cast;grind,O3,O3⟩
def Yp9(a b:List Zf)(D:Int)(t:Rat)(c:Bool):Prop:=∃j k,j<a.length/\k<b.length/\InG (a.getD j G0) t/\InG (b.getD k G0) t/\(c=true↔dQ (a.getD j G0) (b.getD k G0) (sR (a.getD j G0) t) (sR (b.getD k G0) t)<(D:Rat)*(D:Rat))
theorem clo_no(n:∀g∈a,Gin g)(q:∀g∈b,Gin g)(i:Yc a=true)(l:Yc b=true){t:Int}(u:dsB D=true)(w:Oo a b=0)(e:Ho D 1 1 a b=true)(F:Fj a b<Fi a b)(Q:Ep a<=t/\t<=Bc a)(R:Ep b<=t/\t<=Bc b){x:Bool}(M:Yp9 a b D (t:Rat) x):x=false:=pL.2 λB=>by
 obtain⟨j,k,H,I,N,P,h⟩:=M;have h:=h.1 B;have c:∀{x y:Int},x<=y->(x:Rat)<=(y:Rat):=λh=>by exact_mod_cast h
 have:=(Zmj n q i l u F w).1 e (t:Rat) (c (by unfold Fj;omega)) (c (by unfold Fi;omega)) j k H I N P;exact absurd h (kD.2 this)
theorem q_sz(g:p=tzl c)(e:∀a∈c,Oc a):Sz 1000000 p:=by
 have h:Sz 64 p:=by rw [g];exact(Ylf e).sz O3
 exact h.mono O1
theorem q_ln(e:Xt zs=tzl c)(g:c.length<=6):zs.length<=30:=by have:=aL List.length e;rw [Lf]at this;have:=Ko c;omega
theorem q_in{g:Zf}(hi:Gin g)(e:k<3):∀a∈Zo k g.2.1.2 g.2.2.1.2 g.2.2.2.2,Oc a:=by
 match k,e with
 | 0,_=>exact hi.4
 | 1,_=>exact hi.5
 | 2,_=>exact hi.6
theorem Ynh{ps:List Zf}(g:Yc ps=true)(l:(Ep ps:Rat)<=t){j:Nat}(h:j<ps.length)(i:∀m,m<j->¬t<=((ps.getD m G0).1.2.1:Rat)):((ps.getD j G0).1.1:Rat)<=t:=by
 rcases aS j with e|e
 .subst e;exact l
 .obtain⟨m,rfl⟩:∃m,j=m+1:=⟨j-1,O1⟩;rw [Zbi g h];exact dC (nJ.1 (i m O1))
theorem pl_no{ps:List Zf}(e:Yc ps=true)(i:t<=(Bc ps:Rat))(g:∀m,m<ps.length->¬t<=((ps.getD m G0).1.2.1:Rat)):False:=by obtain⟨-,h,-⟩:=Zp e;exact g (ps.length-1) O1 i
section
variable {P:Program} {N:Nat} {sc:Nat->Prop} {env:Qy} {H:Hp}
def Ymx (z:QzT)(y:Int×SL){v:Value}{zs:List QzT}(j n:Nat)(q:lk H j=some (Xp 4 Zxb qq v zs))(e:Nat.beq j 0=false)(i:z∈zs)(g:y∈[z.1,z.2]):∀a w,Sat N sc env H a w->Sat N sc env ((n,Oq (Xx y.2) y.1.natAbs)::H) a w:=
 Zb9 j n q e rfl (λw h=>h.2 z i y g) (λb l=> .inr ⟨z,i,y,g,l⟩) rfl
end
theorem clo_of{j:Nat}(e:j<a.length)(l:k<b.length)(q:InG (a.getD j G0) t)(u:InG (b.getD k G0) t){n:Int}(h:QOK n d (sq3 (λi=>Bu (a.getD j G0) i (sR (a.getD j G0) t)-Bu (b.getD k G0) i (sR (b.getD k G0) t)) 3) m):Yp9 a b D t (decide ((n*1-D*D*d).sign<0)):=by have g:QOK (D*D) 1 ((D:Rat)*(D:Rat)) (bl (D*D).natAbs+1):=⟨O3,by push_cast;grind,O1,Nat.le_trans O3 (Nat.le_add_left 1 _)⟩;refine⟨j,k,e,l,q,u,?_⟩;rw [eV,Ygy h g,sq3_dQ]
def MvR(ps:List Zf)(v:V3T)(zs:List Zf)(e:Int):Prop:=e=2\/e=3\/e=0/\Yc zs=true/\(∀g∈zs,Gin g)/\zs.map Ns=(ps.map (mvG v)).map Ns
end Go.Sky
namespace Go.Sky
open Go.Proofs.Tryz
open Go.Proofs
set_option synthInstance.maxHeartbeats 0
set_option synthInstance.maxSize 100000
set_option maxRecDepth 20000
set_option linter.unusedSimpArgs false
variable{v w:Value}
theorem ve_vc{x y z:Int}:Xy prog 123 #[.agg #[.int .i64 x,.int .i64 y,.int .i64 z]] [] (.bool (vcB x y z)):=by refine Zg func123 ntmps123 λe d b a=>go 2 ?_;refine Yk (Ym 1) λc _=>go 11 ?_;refine tt (Qs [(0,_),(1,_),(2,_)] 2 (enc:=Yq) ([x,y,z]:List Int) J J K6 Pf ti3 J J J J J pZ.cells J J b.h) λv _=>cl 2 [2] (ve_ins [x,y,z] 16777216 ⟨O3,O3⟩) λ_ _=>go 4 ?_;exact Xn a () results123 J aA Za
theorem Zyq{ps:List Zf}{e f h:Int}(r:∀g∈ps,Gin g)(o:Yc ps=true):Cal prog 60 #[v,.agg #[.int .i64 e,.int .i64 f,.int .i64 h]] [Xp 6 Xv qG v ps] true (G:=Value×List Zf×Int) (λg=>MvR ps (e,f,h) g.2.1 g.2.2) (λg=> .tuple #[g.1,.int .i64 g.2.2]) (λg=>[Xp 6 Xv qG g.1 g.2.1]):=by
 refine Zg func60 ntmps60 λF D s m=>go 2 ?_;refine Yk (Ym 2) λz _=>go 8 ?_;refine cl 2 [1] (Lr r) λ_ _=>?_;refine dt (dF (Ye J J) (aL (λb=>Value.bool (!b)) o))<|go 2 ?_;refine Kf 2 [] ve_vc λ_ _=>go 4 ?_;refine Nh J (λi=>?_) (λi=>?_)
 .have t:=i;refine go 8 ?_;exact Zv (Pt 78 6 35 Xv)<|Zv (Qj 78 J J pG)<|Zv (Xi qG 77)<|Zv (Ph 78 77 78 J J J J)<|Ma m (.slice none 0 0,[],2) results60 J (.inl J) (Oi 78 Za)
 .have t:vcB e f h=true:=by simpa using i
  refine go 5 ?_;refine tt (Bx 3 (Zsk r o) J J J K1 call122 (Zk 1 J J J Zr) J s.h) λd l=>go 5 ?_;refine Zh (Zy6 3 79 J J)<|go 7 ?_;have y:=Cz l;have x:=(Zp o).2.2;refine Zh (On 79 (q:=ol3 3 (mvK ((e,f,h):V3T) d.2 0)) (by rw [mvK_0]) J J)<|lp (G:=Nat) [3,6,20] [0,1,2,3] (λk=>[(21,.int .i64 (k:Int))]) (λk=>[(79,ol3 3 (mvK ((e,f,h):V3T) d.2 k))]) (λk=>k<=d.2.length) (λk=>d.2.length-k) 0 O2 K1 K1 ?_;rintro k B;refine go 6 ?_;refine Zc J (λn=>?_) (λn=>?_)
  .refine go 11 ?_;have a:k<d.2.length:=O1;have c:=mv_X (v:=(e,f,h)) r o l t a;refine go 3 ?_;refine dt (Zq 3 k J J J J (Zy pG) Hs Fk J)<|go 4 ?_;refine Lv (λ_=>False) [14,15]<|Zt 0 [(0,0),(1,0),(2,0),(3,0),(4,0),(5,0),(6,0),(7,0),(8,0),(9,0),(10,0),(11,0),(12,0),(13,0),(14,3),(15,3)]<|go 2 ?_;refine Xg J J (Xd (Nt 3 J J J (Zy pG) Dn J Zd5 J))<|Xg J J (Xd (Ms 3 G0 J J J (Zy pG) isAgg33 J))<|Xg J J (Xd (Zq 79 0 J J J J (Zfm pZ (by rw [Kj];exact a) O3 (Zz1 a)) Pf Ly J c.lx))<|Xg J J (Xd (Xw 79 0 J J J (Zfm pZ (by rw [Kj];exact a) O3 (Zz1 a)) pZ c.lx))<|go 4 ?_;refine Xg J J (Xd (Nt 3 J J J (Zy pG) Dn J Ly J))<|Xg J J (Xd (Ms 3 G0 J J J (Zy pG) iA3 J))<|go 2 ⟨c.x.1,c.x.2,?_⟩;refine r3' J (Zac (Zq 79 0 J J J J (Zfm pZ (by rw [Kj];exact a) O3 (Zz1 a)) Pf Ly J c.lx) J) (λ_ _=>?_);refine r3' J (Yey 79 k J J J J J O3 (by rw [Kj];exact a) O3 (Zz1 a) c.lx pZ J s.h) λ_ _=>go 1 ?_;refine Zvh (On 79 (q:=ol3 3 ((mvK ((e,f,h):V3T) d.2 k).set k (mv1 ((e,f,h):V3T) (d.2.getD k G0)))) (aL (ol3 3) (mv_s1 a)) J J)<|Yl<|go 2 ?_;refine Lv (λ_=>False) [14,15]<|Zt 0 [(0,0),(1,0),(2,0),(3,0),(4,0),(5,0),(6,0),(7,0),(8,0),(9,0),(10,0),(11,0),(12,0),(13,0),(14,3),(15,3)]<|go 2 ?_;refine Xg J J (Xd (Nt 3 J J J (Zy pG) Dn J Zd5 J))<|Xg J J (Xd (Ms 3 G0 J J J (Zy pG) isAgg33 J))<|Xg J J (Xd (Zq 79 0 J J J J (Zfm pZ (by rw [aT,Kj];exact a) O3 (Zz0 a)) Pf Ly J c.ly))<|Xg J J (Xd (Xw 79 0 J J J (Zfm pZ (by rw [aT,Kj];exact a) O3 (Zz0 a)) pZ c.ly))<|go 4 ?_;refine Xg J J (Xd (Nt 3 J J J (Zy pG) Dn J Ly J))<|Xg J J (Xd (Ms 3 G0 J J J (Zy pG) iA3 J))<|go 2 ⟨c.y.1,c.y.2,?_⟩;refine r3' J (Zac (Zq 79 0 J J J J (Zfm pZ (by rw [aT,Kj];exact a) O3 (Zz0 a)) Pf Ly J c.ly) J) (λ_ _=>?_);refine r3' J (Yey 79 k J J J J J O3 (by rw [aT,Kj];exact a) O3 (Zz0 a) c.ly pZ J s.h) λ_ _=>go 1 ?_;refine Zvh (On 79 (q:=ol3 3 ((mvK ((e,f,h):V3T) d.2 k).set k (mv2 ((e,f,h):V3T) (d.2.getD k G0)))) (aL (ol3 3) (mv_s2 a)) J J)<|Yl<|go 1 ?_;refine Lv (λ_=>False) [14,15]<|Zt 0 [(0,0),(1,0),(2,0),(3,0),(4,0),(5,0),(6,0),(7,0),(8,0),(9,0),(10,0),(11,0),(12,0),(13,0),(14,3),(15,3)]<|go 2 ?_;refine Xg J J (Xd (Nt 3 J J J (Zy pG) Dn J Zd5 J))<|Xg J J (Xd (Ms 3 G0 J J J (Zy pG) isAgg33 J))<|Xg J J (Xd (Zq 79 0 J J J J (Zfm pZ (by rw [aT,Kj];exact a) O3 (Zzz a)) Pf Ly J c.lz))<|Xg J J (Xd (Xw 79 0 J J J (Zfm pZ (by rw [aT,Kj];exact a) O3 (Zzz a)) pZ c.lz))<|go 4 ?_;refine Xg J J (Xd (Nt 3 J J J (Zy pG) Dn J Ly J))<|Xg J J (Xd (Ms 3 G0 J J J (Zy pG) iA3 J))<|go 2 ⟨c.z.1,c.z.2,?_⟩;refine r3' J (Zac (Zq 79 0 J J J J (Zfm pZ (by rw [aT,Kj];exact a) O3 (Zzz a)) Pf Ly J c.lz) J) (λ_ _=>?_);refine r3' J (Yey 79 k J J J J J O3 (by rw [aT,Kj];exact a) O3 (Zzz a) c.lz pZ J s.h) λ_ _=>go 1 ?_;refine Zvh (On 79 (q:=ol3 3 (mvK ((e,f,h):V3T) d.2 (k+1))) (aL (ol3 3) (mv_s3 a)) J J)<|Yl<|go 6 ⟨O1,?_⟩;exact Yu (k+1) O2 O2 K1 K1
  .obtain rfl:k=d.2.length:=O1;refine go 7 ?_;refine Zh (On 79 (q:=ol3 3 (d.2.map (mvG ((e,f,h):V3T)))) (by rw [Ynx]) J J)<|Zh (Yf9 79 J J pZ)<|Zh (On 3 (q:=Pz 6 35 Xv d.1 (d.2.map (mvG ((e,f,h):V3T)))) osl_mv J J)<|Zh (Qj 3 J J pG)<|Zh (Ph 3 79 77 J J J J) ?_;have p:=Zwq (v:=(e,f,h)) r o l t;refine go 2 ?_;refine cl 3 [77] (Lr p) λ_ _=>go 3 ?_;refine Nh J (λj=>?_) (λj=>?_)
   .have u:=j;refine go 8 ?_;exact Zv (Pt 78 6 35 Xv)<|Zv (Qj 78 J J pG)<|Zv (Xi qG 77)<|Zv (Ph 78 77 78 J J J J)<|Ma m (.slice none 0 0,[],3) results60 J (.inr (.inl J)) (Oi 78 Za)
   .have u:=Bool.not_eq_eq_eq_not.1 j;refine go 10 ?_;exact Ma m (d.1,d.2.map (mvG ((e,f,h):V3T)),0) results60 J (.inr (.inr ⟨J,u,p,un_mv l ((e,f,h):V3T)⟩)) (Oi 77 Za)
theorem Zvz{ps:List Zf}{fr e:Int}(h:∀g∈ps,Gin g)(f:Yc ps=true)(i:¬(Ep ps<=fr/\fr<e/\e<=Bc ps)):Xy prog 58 #[v,.int .i64 fr,.int .i64 e] [Xp 6 Xv qG v ps] (.tuple #[.slice none 0 0,.int .i64 3]):=by
 refine Zg func58 ntmps58 λl k j c=>go 9 ?_;refine cl 1 [1] (Zou h f) λ_ _=>go 14 ?_;refine kf (aE O3)<|go 5 ?_;rcases Ycx i with a|⟨a,b⟩|⟨a,b,d⟩
 .refine go 3 ?_;refine kt (aJ a)<|go 23 ?_;exact Ma c () results58 J aA Za
 .refine go 3 ?_;refine kf (aE a)<|go 3 ?_;refine ktg (aJ b)<|go 19 ?_;exact Ma c () results58 J aA Za
 .refine go 3 ?_;refine kf (aE a)<|go 3 ?_;refine kfg (aE b)<|go 4 ?_;refine ktg (aJ d)<|go 14 ?_;exact Ma c () results58 J aA Za
theorem sm_Cut{ps:List Zf}{fr a:Int}(j:∀g∈ps,Gin g)(e:Yc ps=true)(k:(Ep ps<=fr/\fr<a/\a<=Bc ps))(d:∀g∈ps,Cx g)(f:∀g∈ps,Ny fr a g=true->MdG fr a g):Cal prog 58 #[v,.int .i64 fr,.int .i64 a] [Xp 6 Xv qG v ps] true (G:=Value×List Zf) (λg=>g.2.map Ns=Bn fr a ps) (λg=> .tuple #[g.1,.int .i64 (Zmy fr a ps)]) (λg=>[Xp 6 Xv qG g.1 g.2]):=by refine Zg func58 ntmps58 λn m l c=>?_;obtain⟨-,i,b⟩:=Zp e;refine go 9 ?_;refine cl 1 [1] (Zou j e) λ_ _=>go 14 ?_;refine kf (aE O3)<|go 8 ?_;refine kf (aE O1)<|go 3 ?_;refine kfg (aE O1)<|go 4 ?_;refine kfg (aE O1)<|go 13 ?_;refine cl 2 [1] (Zvx d f b) λg h=>go 7 ?_;exact Ma c _ results58 J h (Oi 2 Za)
def pZq:Enc Tryz.prog 91 4 Zxb:=Enc.agg O3 Tryz.sizeOf91 Tryz.isAgg91 (λx=>⟨[.bool (decide (x.1.1<0)),Xx x.1.2,.bool (decide (x.2.1<0)),Xx x.2.2],rfl,rfl,O11⟩)
@[reducible,instance] def encZqI:EncT Tryz.prog 91 4 Zxb:=⟨pZq⟩
theorem Zwc{i j:Value}(x y c a:Int)(z:bl x.natAbs<=100000000)(B:bl y.natAbs<=100000000)(D:bl c.natAbs<=100000000)(F:bl a.natAbs<=100000000)(e:y≠0)(f:a≠0):Cal prog 102 #[.agg #[.bool (decide (x<0)),v,.bool (decide (y<0)),w],.agg #[.bool (decide (c<0)),i,.bool (decide (a<0)),j]] [Oq v x.natAbs,Oq w y.natAbs,Oq i c.natAbs,Oq j a.natAbs] true (G:=Value×Value) (λr=>True) (λr=> .agg #[.bool (decide ((x*a-c*y)/Xs (x*a-c*y) (y*a)<0)),r.1,.bool (decide ((y*a)/Xs (x*a-c*y) (y*a)<0)),r.2]) (λr=>[Oq r.1 ((x*a-c*y)/Xs (x*a-c*y) (y*a)).natAbs,Oq r.2 ((y*a)/Xs (x*a-c*y) (y*a)).natAbs]):=by refine Zg func102 ntmps102 λM I H d=>?_;have p:=Ya x a;have q:=Ya c y;have s:=Ya y a;have t:=Ya x c;have h:y*a≠0:=bE e f;have u:=Cr (x*a) (c*y);refine go 2 ?_;refine Yk (Ym 5) λb _=>Yk (Ym 6) λk _=>Yk (Zw 7) λl _=>go 3 ?_;refine Xu (λ_=>False) [(0,0),(1,0),(2,0),(3,0),(5,0),(6,0),(7,0),(8,0),(11,0),(12,0),(13,0),(14,0),(4,1),(9,1),(10,1),(15,1),(16,1),(17,3)]<|go 12 ?_;refine Xe (Zj 8 [1,4] (Kr _ _)) λv _=>Xe (Zj 9 [3,2] (Kr _ _)) λm _=>Xe (Zj 10 [8,9] Zfp) λn _=>Xe (Zj 11 [2,4] (Kr _ _)) λo _=>Xe (Zj 12 [10,11] (Zfq h)) λg _=>go 4 ?_;exact Xn d (_,_) results102 J aA (Oi 12 (Oi 13 Za))
theorem Zn2{u:Value}{ps:List Zf}(l f:Int)(T:Rat)(hp:∀g∈ps,Gin g)(V:Yc ps=true)(n:QOK l f T 5400)(a2:(Ep ps:Rat)<=T/\T<=(Bc ps:Rat)):Cal prog 101 #[v,.agg #[.bool (decide (l<0)),w,.bool (decide (f<0)),u]] [Xp 6 Xv qG v ps,Oq w (l).natAbs,Oq u (f).natAbs] true (G:=Value×List QzT) (λg=>Plc ps T g.2) (λg=> .tuple #[g.1,.bool true]) (λg=>[Xp 4 Zxb qq g.1 g.2]):=by
 refine Zg func101 ntmps101 λw0 sc hw a6=>?_;obtain⟨l1,l2⟩:=a2;obtain⟨-,-,c2⟩:=Zp V;have c1:=n.a;have b6:=n.b;have b5:bl (1:Int).natAbs<=22:=O3;refine go 2 ?_;refine Yk (Ym 4) λbx _=>go 11 ?_;refine lp (G:=Nat) [0,3] [0,1,2,3,4] (λj=>[(6,.int .i64 (j:Int))]) (λj=>[]) (λj=>(j<=ps.length)/\(∀m,m<j->¬T<=((ps.getD m G0).1.2.1:Rat))) (λj=>ps.length-j) 0 ⟨O2,λm h=>absurd h (bZ m)⟩ K1 aA ?_;rintro j ⟨hj,hk⟩;refine go 9 ?_;refine Zc J (λD=>?_) (λD=>?_)
 .have r:j<ps.length:=O1;have b:=hp _ (Ze (d:=G0) r);have P:=Ynh V l1 r hk;have B:=Qv b (Qt ((Zp V).1 _ r));have t1:=B.t1;have t2:=B.t2;have t3:=B.t3;have o1:=B.o1;have M:bl ((ps.getD j G0).1.1).natAbs<=22:=Zcy O1;have N:bl ((ps.getD j G0).1.2.1).natAbs<=22:=Zcy O1;have c0:bl ((ps.getD j G0).1.2.1-(ps.getD j G0).1.1).natAbs<=22:=Zcy O1;refine go 4 ?_;refine jn (G:=Value×Value×Value×Value×Nat×Nat) [0,3,6] [0,1,2,3,4] (λq=>[(7,.pointer (some ⟨q.2.2.2.2.1,0,none⟩)),(8,.pointer (some ⟨q.2.2.2.2.2,0,none⟩))]) (λq=>[(80,Oq q.1 ((ps.getD j G0).1.1).natAbs),(81,Oq q.2.1 (1:Int).natAbs),(82,Oq q.2.2.1 ((ps.getD j G0).1.2.1).natAbs),(83,Oq q.2.2.2.1 (1:Int).natAbs),(84,box q.2.2.2.2.1 91 #[.bool (decide ((ps.getD j G0).1.1<0)),q.1,.bool (decide ((1:Int)<0)),q.2.1]),(85,box q.2.2.2.2.2 91 #[.bool (decide ((ps.getD j G0).1.2.1<0)),q.2.2.1,.bool (decide ((1:Int)<0)),q.2.2.2.1])]) (λq=>True) ?_ ?_
  .refine Lb [1] [19]<|Zt 10 [(0,0),(1,0),(2,0),(3,0),(4,0),(8,0),(9,0),(10,0),(11,0),(12,0)]<|go 2 ?_;refine Xg J J (Au (Zq 1 j J J J J Zd Hs Fk J) K1)<|Xg J J (Au (Nt 1 J J J Zd Dn J Ly J) K1)<|Xg J J (Au (Ms 1 G0 J J J Zd iA3 J) K1)<|go 2 ?_;refine Xg J J (Au (Zq 1 j J J J J Zd Hs Fk J) K1)<|Xg J J (Au (Nt 1 J J J Zd Dn J Ly J) K1)<|Xg J J (Au (Ms 1 G0 J J J Zd iA3 J) K1)<|go 1 ?_
   repeat' first|refine bq 5 ?_;refine Lh (Zj 80 [] (Md (ps.getD j G0).1.1 b.1)) λv _=>?_|refine bq 6 ?_;refine Lh (Zj 81 [] (Md 1 ⟨O3,O3⟩)) λc4 _=>?_|refine bq 13 ?_;refine Lh (Zj 82 [] (Md (ps.getD j G0).1.2.1 b.2)) λc5 _=>?_|refine bq 14 ?_;refine Lh (Zj 83 [] (Md 1 ⟨O3,O3⟩)) λc6 _=>?_|refine bq 16 ?_;refine Lh (Lq 84) λa7 ho=>?_|refine bq 17 ?_;refine Lh (Lq 85) λa8 c3=>?_|refine bq 18 ?_;refine Ce rfl rfl (t_stw 84 rfl rfl rfl rfl rfl rfl sizeOf91 rfl rfl ⟨Yi rfl,Ob 80 rfl Zl,Yi rfl,Ob 81 rfl Zl,aA⟩ rfl hw.h ho.h) (λ_ _=>?_)|refine Zx6 5 16 17 O6 ?_ ?_ ?_|refine Br 5 16 O6 ?_ ?_|refine Bw 5 O6 ?_|refine Bw 6 O6 ?_|refine Bw 13 O6 ?_|refine Bw 14 O6 ?_|refine Bw 18 O6 ?_|refine Br 6 16 O6 ?_ ?_|refine Br 13 16 O6 ?_ ?_|refine Br 14 16 O6 ?_ ?_|refine Bw 16 O6 ?_|refine Br 5 17 O6 ?_ ?_|refine Br 6 17 O6 ?_ ?_|refine Br 13 17 O6 ?_ ?_|refine Br 14 17 O6 ?_ ?_|refine Bw 17 O6 ?_|refine Zx6 6 16 17 O6 ?_ ?_ ?_|refine Zx6 13 16 17 O6 ?_ ?_ ?_|refine Zx6 14 16 17 O6 ?_ ?_ ?_|refine Br 16 17 O6 ?_ ?_|refine Zbx 7 0 O6 ?_;refine Xg rfl rfl (Au (Qa [(0,_),(1,_)] rfl ⟨rfl,rfl,rfl,rfl,aA⟩ (λa w hs=>Zbr)) ⟨rfl,aA⟩) ?_;refine go 1 ?_|refine Zbx 15 0 O6 ?_;refine Xg rfl rfl (Au (Qa [(0,_),(1,_)] rfl ⟨rfl,rfl,rfl,rfl,aA⟩ (λa w hs=>Zbr)) ⟨rfl,aA⟩) ?_;refine go 1 ?_|refine Zbx 19 3 O6 ?_;refine go 2 ?_|refine Yl ?_ O6;exact Nb (_,_,_,_,_,_) aA ⟨rfl,rfl,aA⟩ ⟨rfl,rfl,rfl,rfl,rfl,rfl,aA⟩
  .rintro⟨q1,q2,q3,q4,b7,b8⟩ -;dsimp only;refine go 5 ?_;refine cl 4 [2,3,80,81] (Zeg l f (ps.getD j G0).1.1 1) λ_ _=>?_;refine kf (aE (λh=>absurd ((Ygy n (q_i M)).1 h) (kD.2 P)))<|go 3 ?_;refine Kf 4 [2,3,82,83] (Zeg l f (ps.getD j G0).1.2.1 1) λ_ _=>go 4 ?_;refine Zc J (λi=>?_) (λi=>?_)
   .have Z:¬T<=((ps.getD j G0).1.2.1:Rat):=λo=>absurd ((Ygx n (q_i N)).1 i) (kD.2 o);refine go 9 ⟨O1,?_⟩;exact Yu (j+1) ⟨O2,λm h=>by rcases bM.1 h with o|o;exact hk m o;subst o;exact Z⟩ O2 K1 aA
   .have Z:T<=((ps.getD j G0).1.2.1:Rat):=kD.1 λo=>i ((Ygx n (q_i N)).2 o);refine go 2 ?_;refine jn (G:=Value×Value×Int×Int×Nat) [0,6] [0,80,81,82,83,84,85,1,2,3,4] (λq=>[(9,.pointer (some ⟨q.2.2.2.2,0,none⟩))]) (λq=>[(90,Oq q.1 (q.2.2.1).natAbs),(91,Oq q.2.1 (q.2.2.2.1).natAbs),(92,box q.2.2.2.2 91 #[.bool (decide (q.2.2.1<0)),q.1,.bool (decide (q.2.2.2.1<0)),q.2.1])]) (λq=>QOK q.2.2.1 q.2.2.2.1 (sR (ps.getD j G0) T) 5450) ?_ ?_
    .have y:=Zzj n (q_i M);refine Lv (λ_=>False) [19]<|Zt 7 [(0,0),(1,0),(4,0),(5,0),(6,0),(7,0),(8,0),(9,0),(10,0),(11,0),(12,0),(13,0),(14,0)]<|go 4 ?_;refine Xg J J (Xd (Zq 1 j J J J J Zd Hs Fk J))<|Xg J J (Xd (Nt 1 J J J Zd Dn J Ly J))<|Xg J J (Xd (Ms 1 G0 J J J Zd iA3 J))<|go 2 ?_;refine Xg J J (Xd (Zq 1 j J J J J Zd Hs Fk J))<|Xg J J (Xd (Nt 1 J J J Zd Dn J Ly J))<|Xg J J (Xd (Ms 1 G0 J J J Zd iA3 J))<|go 2 ⟨O1,?_⟩
     repeat' first|refine bq 2 ?_;refine Lh (Zj 86 [2,3,80,81] (Zwc l f (ps.getD j G0).1.1 1 O1 O1 O1 O1 n.ne O3)) λg _=>?_|refine bq 3 ?_;refine Lh (Zj 88 [] (Md 1 ⟨O3,O3⟩)) λc7 _=>?_|refine bq 15 ?_;refine Lh (Zj 89 [] (Md ((ps.getD j G0).1.2.1-(ps.getD j G0).1.1))) λc8 _=>?_|refine bq 17 ?_;refine Lh (Zj 90 [86,87,88,89] (Zwd ((l*1-(ps.getD j G0).1.1*f)/Xs (l*1-(ps.getD j G0).1.1*f) (f*1)) (f*1/Xs (l*1-(ps.getD j G0).1.1*f) (f*1)) 1 ((ps.getD j G0).1.2.1-(ps.getD j G0).1.1) (aB y.a O3) (aB y.b O3) y.ne)) λb3 _=>?_|refine bq 18 ?_;refine Lh (Zw 92) λa9 _=>?_|refine Br 2 18 O6 ?_ ?_|refine Bw 2 O6 ?_|refine Bw 3 O6 ?_|refine Bw 15 O6 ?_|refine Bw 17 O6 ?_|refine Br 3 18 O6 ?_ ?_|refine Br 15 18 O6 ?_ ?_|refine Br 17 18 O6 ?_ ?_|refine Bw 18 O6 ?_|refine Zbx 16 0 O6 ?_;refine Xg rfl rfl (Xd (Qa [(0,_),(1,_)] rfl ⟨rfl,rfl,rfl,rfl,aA⟩ (λa w hs=>Zbr))) ?_;refine go 1 ?_|refine Zbx 19 3 O6 ?_;refine go 2 ?_|refine Yl ?_ O6;exact Nb (_,_,_,_,_) (sR_ok B n) ⟨rfl,aA⟩ ⟨rfl,rfl,rfl,aA⟩
    .rintro⟨q5,q6,un,ud,b9⟩ H;dsimp only at H;dsimp only;refine go 12 ?_;refine Zh (Pt 74 4 91 Zxb)<|Zh (Xi qq 76)<|lp (G:=Nat×Value×List QzT) [0,6,9] [0,90,91,92,80,81,82,83,84,85,1,2,3,4] (λq=>[(11,.int .i64 (q.1:Int)),(10,q.2.1)]) (λq=>[(74,Pz 4 91 Zxb q.2.1 q.2.2),(76,Ib qq q.2.2)]) (λq=>(q.1<=3)/\(PlQ (ps.getD j G0) T q.2.2 q.1)) (λq=>3-q.1) (0,.slice none 0 0,[]) ⟨O2,plQ_0⟩ K2 K2 ?_;rintro⟨k,vo,zs⟩ ⟨a1,S⟩;dsimp only at a1 S;dsimp only;refine go 7 ?_;refine Zc J (λF=>?_) (λF=>?_)
     .have p:∀a∈(Zo k (ps.getD j G0).2.1.2 (ps.getD j G0).2.2.1.2 (ps.getD j G0).2.2.2.2),Oc a:=q_in b O1;have Q:=(B.lc k).2;refine go 4 ?_;refine jn (G:=Value×Value×Int×Int×Nat) [0,6,9,10,11] [0,74,76,90,91,92,80,81,82,83,84,85,1,2,3,4] (λq=>[(12,.pointer (some ⟨q.2.2.2.2,0,none⟩))]) (λq=>[(95,Oq q.1 (q.2.2.1).natAbs),(96,Oq q.2.1 (q.2.2.2.1).natAbs),(97,box q.2.2.2.2 91 #[.bool (decide (q.2.2.1<0)),q.1,.bool (decide (q.2.2.2.1<0)),q.2.1])]) (λq=>QOK q.2.2.1 q.2.2.2.1 (Zb (Zo k (ps.getD j G0).2.1.2 (ps.getD j G0).2.2.1.2 (ps.getD j G0).2.2.2.2) (sR (ps.getD j G0) T)) 27500) ?_ ?_
      .refine Zh (Pp (ps.getD j G0) ((ps.getD j G0).2.1) 1 51 J J Ze O8)<|Zh (Pp (ps.getD j G0) ((ps.getD j G0).2.2.1) 1 52 J J Ze O8)<|Zh (Pp (ps.getD j G0) ((ps.getD j G0).2.2.2) 1 53 J J Ze O8)<|Lv (λ_=>False) [12]<|Zt 7 [(0,0),(1,0),(2,0),(3,0),(5,0),(9,0)]<|go 2 ?_;refine Xg J J (Xd (Zq 1 j J J J J Zd Hs Fk J))<|Xg J J (Xd (Xw 1 G0 J J J Zd pG))<|go 3 ?_
       repeat' first|refine bq 4 ?_;refine Lh (Zj 93 [51,52,53] Zei) λc9 _=>?_;refine Zvh (Gd 93 40 ([((ps.getD j G0).2.1.1,(ps.getD j G0).2.1.2),((ps.getD j G0).2.2.1.1,(ps.getD j G0).2.2.1.2),((ps.getD j G0).2.2.2.1,(ps.getD j G0).2.2.2.2)].getD k C0) rfl rfl (Ze (show k<3 by omega)) rfl) ?_;refine Zvh (On 40 (q:=Yw 1 Yq (Xx ([((ps.getD j G0).2.1.1,(ps.getD j G0).2.1.2),((ps.getD j G0).2.2.1.1,(ps.getD j G0).2.2.1.2),((ps.getD j G0).2.2.2.1,(ps.getD j G0).2.2.2.2)].getD k C0).1) (Zo k (ps.getD j G0).2.1.2 (ps.getD j G0).2.2.1.2 (ps.getD j G0).2.2.2.2)) (aL (Yw 1 Yq _) (Zvl O1)) rfl rfl) ?_|refine bq 8 ?_;refine Lh (Zj 94 [40] (Ygu (Zo k (ps.getD j G0).2.1.2 (ps.getD j G0).2.2.1.2 (ps.getD j G0).2.2.2.2) p O1)) λW hg=>?_;have s:Xt W.2=tzl (Zo k (ps.getD j G0).2.1.2 (ps.getD j G0).2.2.1.2 (ps.getD j G0).2.2.2.2):=hg|refine bq 10 ?_;refine Lh (Zj 95 [94,90,91] (Ygg un ud (q_sz s p) (q_ln s Q) (aB H.a O3) (aB H.b O3) H.ne)) λb4 _=>?_|refine bq 11 ?_;refine Lh (Zw 97) λb0 _=>?_|refine Br 4 11 O6 ?_ ?_|refine Bw 4 O6 ?_|refine Bw 8 O6 ?_|refine Bw 10 O6 ?_|refine Br 8 11 O6 ?_ ?_|refine Br 10 11 O6 ?_ ?_|refine Bw 11 O6 ?_|refine Zbx 6 0 O6 ?_;refine Xg rfl rfl (Xd (Zq 93 k rfl rfl rfl rfl Zd Zr7 Zd5 rfl (show k<3 by omega))) ?_;refine go 1 ?_|refine Zbx 7 0 O6 ?_;refine Xg rfl rfl (Xd (Xw 93 C0 rfl rfl rfl Zd pC (show k<3 by omega))) ?_;refine go 1 ?_|refine Zbx 12 3 O6 ?_;refine go 2 ?_|refine Yl ?_ O6;exact Nb (_,_,_,_,_) (q_val s p Q H) ⟨rfl,aA⟩ ⟨rfl,rfl,rfl,aA⟩
      .rintro⟨q7,q8,e,c,ba⟩ I;dsimp only at I;dsimp only;have a0:bl ((ps.getD j G0).1.2.2).natAbs<=64:=Ha b.3;have a3:=((Znq I (q_inv 64 (x:=(ps.getD j G0).1.2.2) O1 a0 O3)).mono (show 27500+64<=28000 by decide)).cg pzQ_q;refine Lb [1,97] [13]<|Zt 3 [(0,0),(1,0),(3,0),(4,0),(5,0),(6,0),(7,0),(2,1),(8,1),(9,0),(10,1)]<|go 4 ?_;refine Xg J J (Au (Zq 1 j J J J J Zd Hs Fk J) K2)<|Xg J J (Au (Nt 1 J J J Zd Dn J Ly J) K2)<|Xg J J (Au (Ms 1 G0 J J J Zd iA3 J) K2)<|Xe (Zj 98 [] (Md 1 ⟨O3,O3⟩)) λd0 _=>Xe (Zj 99 [] (Md (ps.getD j G0).1.2.2 b.3)) λd1 _=>?_;refine Xg J J (Au (Qa [(0,_),(1,_)] J K4 (λa w hs=>Zbr)) K2)<|Xe (Zj 100 [95,96,98,99] (Zwd e c 1 (ps.getD j G0).1.2.2 (aB I.a O3) (aB I.b O3) I.ne)) λY _=>go 1 ?_;obtain⟨ga,gb⟩:=Y;refine Ylg (Qp 100 J Zl) (λs8 a4=>?_);obtain rfl:ga=Xx s8:=a4;refine Ylg (Qp 101 J Zl) (λR a5=>?_);obtain rfl:gb=Xx R:=a5;refine Zt 0 [(11,1),(12,1),(13,3)]<|Dg J (Qs [(0,_)] 102 (enc:=Zxb) [((((e*1/Xs (e*1) (c*(ps.getD j G0).1.2.2)),s8),((c*(ps.getD j G0).1.2.2/Xs (e*1) (c*(ps.getD j G0).1.2.2)),R)):QzT)] J J K2 underlying150 ti91 J J J J J pZq.cells J J hw.h) (λb1 _=>?_);refine Dg J (Yez 74 J J J K2 (λt=>(Zyl 74 102 64 J J J J J J O3 J (Zy pZq) underlying150 ti91 J pZq J J J (by have:=S.1;simp;omega) O3 J hw.h t))) λb2 _=>go 2 ?_;refine Yl<|go 7 ⟨O1,?_⟩;exact Zv (Xi qI 71)<|Zv (Yh (q:=qI) (z:=((e*1/Xs (e*1) (c*(ps.getD j G0).1.2.2)),s8)) 71 100 71 J J J J J)<|Zv (Yh (q:=qI) (z:=((c*(ps.getD j G0).1.2.2/Xs (e*1) (c*(ps.getD j G0).1.2.2)),R)) 71 101 71 J J J J J)<|Zv (Yh (q:=qq) (z:=((((e*1/Xs (e*1) (c*(ps.getD j G0).1.2.2)),s8),((c*(ps.getD j G0).1.2.2/Xs (e*1) (c*(ps.getD j G0).1.2.2)),R)):QzT)) 76 71 76 J J J J J)<|Yu (k+1,_,zs ++ [((((e*1/Xs (e*1) (c*(ps.getD j G0).1.2.2)),s8),((c*(ps.getD j G0).1.2.2/Xs (e*1) (c*(ps.getD j G0).1.2.2)),R)):QzT)]) ⟨O2,plQ_s S a3⟩ O2 K2 K2
     .obtain rfl:k=3:=O1;refine go 18 ?_;exact Zv (Qj 74 J J pZq)<|Zv (Ph 74 76 78 J J J J)<|Ma a6 (vo,zs) results101 J ⟨j,O1,⟨P,Z⟩,S⟩ (Oi 78 Za)
 .exfalso;exact pl_no V l2 (λm hm=>hk m O1)
theorem Zwy{va vb u:Value}(c d:List Zf)(D x t:Int)(T:Rat)(hD:dsB D=true)(Q:∀g∈c,Gin g)(R:∀g∈d,Gin g)(B:Yc c=true)(F:Yc d=true)(Y:QOK x t T 5400)(N:(Ep c:Rat)<=T/\T<=(Bc c:Rat))(P:(Ep d:Rat)<=T/\T<=(Bc d:Rat)):Cal prog 46 #[va,vb,.int .i64 D,.agg #[.bool (decide (x<0)),w,.bool (decide (t<0)),u]] [Xp 6 Xv qG va c,Xp 6 Xv qG vb d,Oq w (x).natAbs,Oq u (t).natAbs] false (G:=Bool) (λn=>Yp9 c d D T n) (λn=> .bool n) (λn=>[]):=by
 refine Zg func46 ntmps46 λw0 sc hw S=>?_;obtain⟨d1,d2⟩:=ds_b hD;have a5:bl D.natAbs<=64:=Ha ⟨O1,O1⟩;have a4:bl (1:Int).natAbs<=22:=O3;have a3:=Ya D D;refine go 2 ?_;refine Yk (Ym 5) λbx _=>go 7 ?_;refine cl 6 [1,3,4] (Zn2 x t T Q B Y N) λj H=>go 8 ?_;obtain⟨y,I,ia,r⟩:=H;refine go 3 ?_;refine cl 7 [2,3,4] (Zn2 x t T R F Y P) λZir m=>go 9 ?_;obtain⟨z,M,ib,s⟩:=m;refine go 14 ?_;refine cl 98 [] (Md 0 ⟨O3,O3⟩) λv _=>cl 99 [] (Md 1 ⟨O3,O3⟩) λa6 _=>?_;refine dt (Qa [(0,_),(1,_)] J K4 (λa w hs=>Zbr))<|Yk (Zw 97) λo _=>go 10 ?_;refine lp (G:=Nat×Value×Value×Int×Int) [2,9,11,13] [0,1,2,3,4,5,6,7] (λq=>[(14,.int .i64 (q.1:Int))]) (λq=>[(98,Oq q.2.1 (q.2.2.2.1).natAbs),(99,Oq q.2.2.1 (q.2.2.2.2).natAbs),(97,box o 91 #[.bool (decide (q.2.2.2.1<0)),q.2.1,.bool (decide (q.2.2.2.2<0)),q.2.2.1])]) (λq=>(q.1<=3)/\(QOK q.2.2.2.1 q.2.2.2.2 (sq3 (λi=>Bu (c.getD y G0) i (sR (c.getD y G0) T)-Bu (d.getD z G0) i (sR (d.getD z G0) T)) q.1) (112100*q.1+1))) (λq=>3-q.1) (0,_,_,0,1) ⟨O2,sq_0⟩ K1 K3 ?_;rintro⟨k,vn,vd,sn,Z⟩ ⟨hk,l⟩;dsimp only at hk l;dsimp only;refine go 7 ?_;refine Zc J (λp=>?_) (λp=>?_)
 .refine go 4 ?_;refine jn (G:=Value×Value×Int×Int×Nat) [2,9,11,13,14] [0,98,99,97,1,2,3,4,5,6,7] (λq=>[(15,.pointer (some ⟨q.2.2.2.2,0,none⟩))]) (λq=>[(80,Oq q.1 (q.2.2.1).natAbs),(81,Oq q.2.1 (q.2.2.2.1).natAbs),(82,box q.2.2.2.2 91 #[.bool (decide (q.2.2.1<0)),q.1,.bool (decide (q.2.2.2.1<0)),q.2.1])]) (λq=>QOK q.2.2.1 q.2.2.2.1 ((λi=>Bu (c.getD y G0) i (sR (c.getD y G0) T)-Bu (d.getD z G0) i (sR (d.getD z G0) T)) k) 56001) ?_ ?_
  .refine Zh (Ymx (j.2.getD k QZ0) ((j.2.getD k QZ0).1) 6 51 J J (Ze (by rw [r.1];omega)) O8)<|Zh (Ymx (j.2.getD k QZ0) ((j.2.getD k QZ0).2) 6 52 J J (Ze (by rw [r.1];omega)) O8) ?_;have e:=r.2 k O1;refine Zh (Ymx (Zir.2.getD k QZ0) ((Zir.2.getD k QZ0).1) 7 53 J J (Ze (by rw [s.1];omega)) O8)<|Zh (Ymx (Zir.2.getD k QZ0) ((Zir.2.getD k QZ0).2) 7 54 J J (Ze (by rw [s.1];omega)) O8) ?_;have f:=s.2 k O1;refine Lv (λ_=>False) [10]<|Zt 3 [(0,0),(1,0),(2,0),(3,0),(4,0),(5,0),(6,0),(7,0)]<|go 2 ?_;refine Xg J J (Xd (Zq 6 k J J J J Zd underlying150 sizeOf91 J (by rw [r.1];omega)))<|Xg J J (Xd (Xw 6 QZ0 J J J Zd pZq (by rw [r.1];omega)))<|go 2 ?_;refine Xg J J (Xd (Zq 7 k J J J J Zd underlying150 sizeOf91 J (by rw [s.1];omega)))<|Xg J J (Xd (Xw 7 QZ0 J J J Zd pZq (by rw [s.1];omega)))<|go 1 ?_;refine Na 2 8 9 ?_ ?_
   .refine Lh (Zj 80 [51,52,53,54] (Zwc ((j.2.getD k QZ0).1.1) ((j.2.getD k QZ0).2.1) ((Zir.2.getD k QZ0).1.1) ((Zir.2.getD k QZ0).2.1) (aB e.a O3) (aB e.b O3) (aB f.a O3) (aB f.b O3) e.ne f.ne)) λg _=>?_;refine Zt 0 [(9,1),(10,3)]<|Xe (Zw 82) λV _=>go 2 ?_;exact Yl<|Nb (_,_,_,_,_) (Zzj e f) K1 K3
   .refine Lh (Zw 82) λW _=>?_;refine Zt 0 [(8,1),(10,3)]<|Xe (Zj 80 [51,52,53,54] (Zwc ((j.2.getD k QZ0).1.1) ((j.2.getD k QZ0).2.1) ((Zir.2.getD k QZ0).1.1) ((Zir.2.getD k QZ0).2.1) (aB e.a O3) (aB e.b O3) (aB f.a O3) (aB f.b O3) e.ne f.ne)) λa0 _=>go 2 ?_;exact Yl<|Nb (_,_,_,_,_) (Zzj e f) K1 K3
  .rintro⟨q1,q2,dn,h,n⟩ b;dsimp only at b;dsimp only;refine Xu (λ_=>False) [(0,0),(1,0),(2,0),(3,1),(4,1),(5,3)]<|go 3 ?_;refine Xe (Zj 83 [80,81,80,81] (Zwd dn h dn h (aB b.a O3) (aB b.b O3) b.ne (aB b.a O3) (aB b.b O3) b.ne)) λa1 _=>Xe (Zj 85 [98,99,83,84] (r_addq sn Z (dn*dn/Xs (dn*dn) (h*h)) (h*h/Xs (dn*dn) (h*h)) (aB l.a O1) (aB l.b O1) (aB (Znq b b).a O3) (aB (Znq b b).b O3) l.ne (Znq b b).ne)) λa2 _=>?_;refine go 9 ⟨O1,?_⟩;exact Zv (Qz 85 98 J J J)<|Zv (Qz 86 99 J J J)<|Yu (k+1,_,_,_,_) ⟨O2,(q_add l (Znq b b)).mono O10⟩ O2 K1 K3
 .obtain rfl:k=3:=O1;refine go 6 ?_;refine Xu (λ_=>False) [(0,0),(1,0),(3,0),(2,1),(4,1),(5,1),(6,1),(7,0),(8,1),(9,0),(10,3)]<|go 3 ?_;refine Xe (Zj 8 [] (Md D)) λa7 _=>Xe (Zj 9 [] (Md D)) λa8 _=>Xe (Zj 10 [8,9] (Kr D D)) λa9 _=>Xe (Zj 11 [] (Md 1 ⟨O3,O3⟩)) λb0 _=>?_;refine Xg J J (Xd (Qa [(0,_),(1,_)] J K4 (λa w hs=>Zbr)))<|Xe (Zj 11 [98,99,10,11] (Zeg sn Z (D*D) 1 (aB l.a O3) (aB l.b O3))) λ_ _=>go 5 ?_;exact Xn S _ results46 J (clo_of I M ia ib l) Za
theorem Zdj{x y z:Int}:Xy prog 160 #[.int .i64 x,.int .i64 y,.int .i64 z] [] (.agg #[.int .i64 x,.int .i64 y,.int .i64 z]):=by refine Zg func160 ntmps160 λf e d b=>go 2 ?_;refine Yk (Zw 1) λc _=>go 7 ?_;refine dt (Qa [(0,_),(1,_),(2,_)] J K6 (λa w hs=>Yp6 ((Yi J) a w hs) ((Yi J) a w hs) ((Yi J) a w hs)))<|go 4 ?_;exact Xn b () results160 J aA Za
theorem Zn3:Cal prog 90 #[] [] true (G:=Value×GvT) (λr=>True) (λr=>r.1) (λr=>[Xp 1 Zlu qP r.1 (gvs r.2)]):=by refine Zg func90 ntmps90 λB y p s=>go 7 ?_;refine cl 0 [] Zdj λ_ _=>cl 0 [] Zdj λ_ _=>cl 1 [] (Zpb 0 0 0 1000 0 0 0 1000 1 ⟨O3,O3⟩ ⟨O3,O3⟩ ⟨O3,O3⟩ ⟨O3,O3⟩ ⟨O3,O3⟩ ⟨O3,O3⟩) λ⟨i,a,b⟩ _=>?_;refine tt (Qs [(0,_)] 4 (enc:=Xv) [Bm (i,a,b)] J J K2 Hs ti35 J J Zlt J J pG.cells J J p.h) (λv _=>?_);refine Xh (Qj 4 J J pG)<|Xh (Xi qC 71)<|Xh (Yh (q:=qC) (z:=(Bm (i,a,b)).2.1) 71 1 71 J J J J J)<|Xh (Yh (q:=qC) (z:=(Bm (i,a,b)).2.2.1) 71 2 71 J J J J J)<|Xh (Yh (q:=qC) (z:=(Bm (i,a,b)).2.2.2) 71 3 71 J J J J J)<|Xh (Xi qG 73)<|Xh (Yh (q:=qG) (z:=(Bm (i,a,b))) 73 71 73 J J J J J)<|Xh (Ph 4 73 81 J J J J)<|Zp8 (Qp 81 J Zd) (λj m=>?_);subst m;refine cl 4 [] Zdj λ_ _=>cl 4 [] Zdj λ_ _=>cl 5 [] (Zpb 1000 300 0 0 300 0 0 1000 1 ⟨O3,O3⟩ ⟨O3,O3⟩ ⟨O3,O3⟩ ⟨O3,O3⟩ ⟨O3,O3⟩ ⟨O3,O3⟩) λ⟨c,d,e⟩ _=>?_;refine tt (Qs [(0,_)] 8 (enc:=Xv) [gv1 (c,d,e)] J J K2 Hs ti35 J J Zlt J J pG.cells J J p.h) (λt _=>?_);refine Xh (Qj 8 J J pG)<|Xh (Xi qC 71)<|Xh (Yh (q:=qC) (z:=(gv1 (c,d,e)).2.1) 71 5 71 J J J J J)<|Xh (Yh (q:=qC) (z:=(gv1 (c,d,e)).2.2.1) 71 6 71 J J J J J)<|Xh (Yh (q:=qC) (z:=(gv1 (c,d,e)).2.2.2) 71 7 71 J J J J J)<|Xh (Xi qG 73)<|Xh (Yh (q:=qG) (z:=(gv1 (c,d,e))) 73 71 73 J J J J J)<|Xh (Ph 8 73 82 J J J J)<|Zp8 (Qp 82 J Zd) (λk n=>?_);subst n;refine cl 8 [] Zdj λ_ _=>cl 8 [] Zdj λ_ _=>cl 9 [] (Zpb 0 700 0 0 700 0 500 2000 2 ⟨O3,O3⟩ ⟨O3,O3⟩ ⟨O3,O3⟩ ⟨O3,O3⟩ ⟨O3,O3⟩ ⟨O3,O3⟩) λ⟨f,g,h⟩ _=>?_;refine tt (Qs [(0,_)] 12 (enc:=Xv) [gv2 (f,g,h)] J J K2 Hs ti35 J J Zlt J J pG.cells J J p.h) (λu _=>?_);refine Xh (Qj 12 J J pG)<|Xh (Xi qC 71)<|Xh (Yh (q:=qC) (z:=(gv2 (f,g,h)).2.1) 71 9 71 J J J J J)<|Xh (Yh (q:=qC) (z:=(gv2 (f,g,h)).2.2.1) 71 10 71 J J J J J)<|Xh (Yh (q:=qC) (z:=(gv2 (f,g,h)).2.2.2) 71 11 71 J J J J J)<|Xh (Xi qG 73)<|Xh (Yh (q:=qG) (z:=(gv2 (f,g,h))) 73 71 73 J J J J J)<|Xh (Ph 12 73 83 J J J J)<|Zp8 (Qp 83 J Zd) (λl o=>?_);subst o;refine tt (Qs [(0,_),(1,_),(2,_)] 13 (enc:=Zlu) ([(j,[Bm (i,a,b)]),(k,[gv1 (c,d,e)]),(l,[gv2 (f,g,h)])]:List PT) J J K6 Ycd ti38 J J J J J pPq.cells J J p.h) λx _=>go 4 ?_;exact Zv (Qj 13 J J pPq)<|Zv (Xi qP 71)<|Zv (Yh (q:=qP) (z:=((j,[Bm (i,a,b)]):PT)) 71 81 71 J J J J J)<|Zv (Yh (q:=qP) (z:=((k,[gv1 (c,d,e)]):PT)) 71 82 71 J J J J J)<|Zv (Yh (q:=qP) (z:=((l,[gv2 (f,g,h)]):PT)) 71 83 71 J J J J J)<|Zv (Ph 13 71 90 J J J J)<|Xn s (_,(((i,a,b),(c,d,e),(f,g,h)),(j,k,l))) results90 J aA (Oi 90 Za)
end Go.Sky

