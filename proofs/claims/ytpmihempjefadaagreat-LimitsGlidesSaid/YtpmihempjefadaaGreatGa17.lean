/- Rules, arithmetic and contracts: part 18. No conditions but those that each theorem names. -/
import Derived.Test.YtpmihempjefadaaGreatGa16
import Derived.RangeFuncNested
set_option linter.all false
set_option maxHeartbeats 4000000
namespace Go.Sky
def exN(ps:List Zl)(t:Int)(i:Nat):Int:=exC ps t (Yg i (ps.getD (exI ps t) G0).2.1.2 (ps.getD (exI ps t) G0).2.2.1.2 (ps.getD (exI ps t) G0).2.2.2.2)
def rdN(ps:List Zl)(t:Int)(i:Nat):Int:=(exN ps t i+exN ps t i+exO ps t)/(exO ps t+exO ps t)
def rdL(ps:List Zl)(t:Int):Nat->List Int
 | 0=>[0,0,0]
 | i+1=>(rdL ps t i).set i (rdN ps t i)
structure AtB (n o:Int):Prop where
 b1:bl n.natAbs<=30000
 b2:bl o.natAbs<=30000
 n2:bl (n+n).natAbs<=30000
 o2:bl (o+o).natAbs<=30000
 s:bl (n+n+o).natAbs<=30000
 z:o+o≠0
 q:((n+n+o)/(o+o)).natAbs<=9223372036854775807
section
variable {P:Program} {N:Nat} {sc:Nat->Prop} {env:Xu} {H:Hp}
end
end Go.Sky
namespace Go.Sky
open Go.Proofs
open Go.Proofs.Tryz
set_option synthInstance.maxHeartbeats 0
set_option synthInstance.maxSize 100000
set_option maxRecDepth 20000
set_option linter.unusedSimpArgs false
open Go.RowKit Below
variable {P:Program} {N:Nat} {sc:Nat->Prop} {env env':Xu} {H H':Hp} {Q Q':Exit->Act->World->Prop} {M:Nat->Prop}
end Go.Sky
namespace Go.Sky
open Go.RowKit Below
variable {P:Program} {N:Nat} {sc:Nat->Prop} {env env':Xu} {H H':Hp} {Q Q':Exit->Act->World->Prop}
end Go.Sky
namespace Go.Sky
open Go.RowKit Below
section
variable {P:Program} {N:Nat} {sc:Nat->Prop} {env:Xu} {H:Hp}
end
abbrev wtM (z:GpT) (u:R2):R2:=(Ie (u.1*(z.1.2-z.1.1)) (u.2*1),Kt (u.1*(z.1.2-z.1.1)) (u.2*1))
abbrev wtT (z:GpT) (u:R2):R2:=(Ie ((wtM z u).1*1+z.1.1*(wtM z u).2) ((wtM z u).2*1),Kt ((wtM z u).1*1+z.1.1*(wtM z u).2) ((wtM z u).2*1))
abbrev wtV (g:R2×Int):Value:= .tuple #[.agg #[.bool (decide (g.1.1<0)),.string (Yw (g.1.1).natAbs),.bool (decide (g.1.2<0)),.string (Yw (g.1.2).natAbs)],.int .i64 g.2]
def WtP(D:Int)(a b:List Zl)(g:R2×Int):Prop:=
 (Zia a b≠0/\g=((0,0),Zia a b))\/(Zia a b=0/\apZ D 1 1 a b=true/\g=((0,0),9))\/
  (Zia a b=0/\apZ D 1 1 a b=false/\g.2=0/\∃z:GpT,unP z∈Zoc D 1 1 a b/\∃u,Fnd z.2.2 (qv (0,1)) (qv (1,1)) u/\g.1=wtT z u)
def prow(n i:Nat):List (Nat×Nat):=(List.range (n-(i+1))).map λj=>(i,i+1+j)
def prU(n:Nat):Nat->List (Nat×Nat)
 | 0=>[]
 | i+1=>prU n i ++ prow n i
abbrev prs (n:Nat):List (Nat×Nat):=prU n n
def lx(p q:Nat×Nat):Prop:=p.1<q.1\/(p.1=q.1/\p.2<q.2)
def PrI(D:Int)(a:List PT)(k:Nat):Prop:=∀j p,j<k->(prs a.length)[j]? = some p->apZ D 1 1 (pth a p.1) (pth a p.2)=true
end Go.Sky
namespace Go.Sky
def SmP(g:Zl)(s:Rat)(h:Zl)(u:Rat):Prop:=∀i,i<3->spX g i s*(h.1.2.2:Rat)=spX h i u*(g.1.2.2:Rat)
def SmP.symm{g h:Zl}{s u:Rat}(e:SmP g s h u):SmP h u g s:=λi hi=>(e i hi).symm
def SmP.trans{g h k:Zl}{s u v:Rat}(a:(h.1.2.2:Rat)≠0)(e:SmP g s h u)(f:SmP h u k v):SmP g s k v:=λi hi=>by
 have b:=e i hi;have c:=f i hi;have:(spX g i s*(k.1.2.2:Rat)-spX k i v*(g.1.2.2:Rat))*(h.1.2.2:Rat)=0:=O4;rcases eG.1 this with q|q
 .grind
 .exact absurd q a
def sTm(g:Zl)(t:Int):Rat:=((t-g.1.1:Int):Rat)/((g.1.2.1-g.1.1:Int):Rat)
section
variable {D n d:Int} {a b:List Zl} (hpa:∀g∈a,Gin g) (hpb:∀g∈b,Gin g) (hba:Ok a=true) (hbb:Ok b=true) (hz:znB D n d=true)
include hpa hpb hba hbb hz
end
end Go.Sky
namespace Go.Sky
def NrP(a b:List Zl)(g:Int×Int):Prop:=
 (Zia a b≠0/\g=(0,Zia a b))\/(Zia a b=0/\Zoc 0 1 1 a b=[]/\g=(0,9))\/
  (Zia a b=0/\Zoc 0 1 1 a b≠[]/\g.2=0/\0<=g.1/\g.1<=4194304/\∀k,1<=k->k<=4194304->apZ k 1 1 a b=decide (k<=g.1))
section
variable {a b:List Zl} (hpa:∀g∈a,Gin g) (hpb:∀g∈b,Gin g) (hba:Ok a=true) (hbb:Ok b=true)
include hpa hpb hba hbb
end
def NrS(a b:List Zl)(r:Nat):Prop:=r<=4194304/\(∀k,k<r->apZ ((k:Int)+1) 1 1 a b=true)/\∀k,r<=k->k<4194304->apZ ((k:Int)+1) 1 1 a b=false
section
variable {a b:List Zl} (hpa:∀g∈a,Gin g) (hpb:∀g∈b,Gin g) (hba:Ok a=true) (hbb:Ok b=true)
include hpa hpb hba hbb
end
def Yd4(fr j d e f h c i k:Int)(s:SL×SL×SL):Zl:=((fr,j,1),(s.1,Mj d h k),(s.2.1,Mj e c k),(s.2.2,Mj f i k))
def gv0(s:SL×SL×SL):Zl:=Yd4 0 1000 0 0 0 1000 0 0 1 s
def gv1(s:SL×SL×SL):Zl:=Yd4 0 1000 1000 300 0 0 300 0 1 s
def gv2(s:SL×SL×SL):Zl:=Yd4 500 2000 0 700 0 0 700 0 2 s
def gvL(s:SL×SL×SL):Zl:=Yd4 1000 2000 0 0 0 1000 0 0 1 s
section
variable (s t:SL×SL×SL)
end
end Go.Sky
namespace Go.Sky
def shG(b:Int)(g:Zl):Zl:=((g.1.1+b,g.1.2.1+b,g.1.2.2),g.2)
def shK(b:Int)(ps:List Zl)(k:Nat):List Zl:=(ps.take k).map (shG b) ++ ps.drop k
abbrev shA (b:Int) (x:Zl):Zl:=((x.1.1+b,x.1.2.1,x.1.2.2),x.2)
abbrev shB (b:Int) (x:Zl):Zl:=((x.1.1,x.1.2.1+b,x.1.2.2),x.2)
def ShR(ps:List Zl)(y:Int)(zs:List Zl)(e:Int):Prop:=(e=3/\(y < -(spF ps)\/y>3600000-spL ps))\/(e=0/\¬y < -(spF ps)/\¬y>3600000-spL ps/\zs.map unS=(ps.map (shG y)).map unS)
open Go.RowKit Below
variable {P:Program} {N:Nat} {sc:Nat->Prop} {env env':Xu} {H H':Hp} {Q Q':Exit->Act->World->Prop} {M:Nat->Prop}
def emp:Pc:=⟨false,λ_=>False,λ_=>True,λ_ _ _ h=>h.elim,λ_ _ _ _=>trivial⟩
def l3(z:Zl)(i:Nat):SL×List Int:=Yg i z.2.1 z.2.2.1 z.2.2.2
abbrev olz (e:TypeId) (p:SL×List Int):Pc:=Nl 1 e Ys (Lh p.1) p.2
def ol3(e:TypeId)(zs:List Zl):Pc:=
 {own:=true
  fp:=λb=>∃k i,k<zs.length/\i<3/\(olz e (l3 (zs.getD k G0) i)).fp b
  holds:=λw=>(∀k i,k<zs.length->i<3->(olz e (l3 (zs.getD k G0) i)).holds w)/\∀k i m j b,k<zs.length->i<3->m<zs.length->j<3->(olz e (l3 (zs.getD k G0) i)).fp b->(olz e (l3 (zs.getD m G0) j)).fp b->k=m/\i=j
  lt:=λw b h ⟨k,i,c,hi,d⟩=>(olz e _).lt w b (h.1 k i c hi) d
  stable:=λw n h a=>⟨λk i c hi=>(olz e _).stable w n (h.1 k i c hi) ⟨a.os,a.tape,a.output,a.size,λb d g=>a.block b d (λf=>g (λl=>f ⟨k,i,c,hi,l⟩))⟩,h.2⟩ }
def opa(e s:TypeId)(v:Value)(zs:List Zl):Pc:=
 {own:=true
  fp:=λb=>v.ownBlock=some b\/(ol3 e zs).fp b
  holds:=λw=>(Nl 6 s Ee v zs).holds w/\(ol3 e zs).holds w/\∀b,v.ownBlock=some b->(ol3 e zs).fp b->False
  lt:=λw b h c=>c.elim (λc=>(Nl 6 s Ee v zs).lt w b h.1 c) (λc=>(ol3 e zs).lt w b h.2.1 c)
  stable:=λw i h a=>⟨(Nl 6 s Ee v zs).stable w i h.1 ⟨a.os,a.tape,a.output,a.size,λb c f=>a.block b c (λd=>f (λg=>d (.inl g)))⟩,(ol3 e zs).stable w i h.2.1 ⟨a.os,a.tape,a.output,a.size,λb c f=>a.block b c (λd=>f (λg=>d (.inr g)))⟩,h.2.2⟩ }
def Sat.drop{a:Act}{w:World}(h:Sat N sc env H a w)(j:Nat):Sat N sc env ((j,emp)::H) a w:=
 h.add j emp aA (λ_ _ _ _ _ _ b=>b.elim) (λ_ b=>b.elim)
def stL(z:Zl)(i j:Nat)(u:Int):Zl:=(z.1,if i=0 then(z.2.1.1,z.2.1.2.set j u)else z.2.1,if i=1 then(z.2.2.1.1,z.2.2.1.2.set j u)else z.2.2.1,if i=2 then(z.2.2.2.1,z.2.2.2.2.set j u)else z.2.2.2)
end Go.Sky
namespace Go.Sky
abbrev S3T:=SL×SL×SL
abbrev GvT:=(S3T×S3T×S3T)×(SL×SL×SL)
def gvs(q:GvT):List PT:=[(q.2.1,[gv0 q.1.1]),(q.2.2.1,[gv1 q.1.2.1]),(q.2.2.2,[gv2 q.1.2.2])]
def NrL(a b:List Zl)(lo hi:Int):Prop:=0<=lo/\lo<=hi/\hi<=4194304/\(∀k,1<=k->k<=lo->apZ k 1 1 a b=true)/\∀k,hi<k->k<=4194304->apZ k 1 1 a b=false
section
variable {a b:List Zl} (hpa:∀g∈a,Gin g) (hpb:∀g∈b,Gin g) (hba:Ok a=true) (hbb:Ok b=true)
include hpa hpb hba hbb
end
end Go.Sky
namespace Go.Sky
def sR(g:Zl)(t:Rat):Rat:=(t-(g.1.1:Rat))/((g.1.2.1-g.1.1:Int):Rat)
def InG(g:Zl)(t:Rat):Prop:=(g.1.1:Rat)<=t/\t<=(g.1.2.1:Rat)
def pzQ(g:Zl)(i:Nat)(s:Rat):Rat:=spX g i s/(g.1.2.2:Rat)
def dQ(g h:Zl)(s u:Rat):Rat:=(pzQ g 0 s-pzQ h 0 u)*(pzQ g 0 s-pzQ h 0 u)+(pzQ g 1 s-pzQ h 1 u)*(pzQ g 1 s-pzQ h 1 u)+(pzQ g 2 s-pzQ h 2 u)*(pzQ g 2 s-pzQ h 2 u)
structure Pcs (a b:List Zl) (n:Nat) (T:Nat->Int) (ua ub:Nat->Zl9) (ja jb:Nat->Nat):Prop where
 n1:1<=n
 t0:T 0=cmF a b
 tn:T n=cmL a b
 lt:∀k,k<n->T k<T (k+1)/\cmF a b<=T k/\T (k+1)<=cmL a b
 la:∀k,k<n->ja k<a.length/\(a.getD (ja k) G0).1.1<=T k/\T (k+1)<=(a.getD (ja k) G0).1.2.1
 lb:∀k,k<n->jb k<b.length/\(b.getD (jb k) G0).1.1<=T k/\T (k+1)<=(b.getD (jb k) G0).1.2.1
 pa:∀k,k<n->SgG (mkS (ua k))/\(∃G,Prt (mkS (ua k)) (a.getD (ja k) G0) G)/\(ua k).1.1=T k/\(ua k).1.2.1=T (k+1)
 pb:∀k,k<n->SgG (mkS (ub k))/\(∃G,Prt (mkS (ub k)) (b.getD (jb k) G0) G)/\(ub k).1.1=T k/\(ub k).1.2.1=T (k+1)
 ra:Ye1 a b a=(List.range n).map ua
 rb:Ye1 a b b=(List.range n).map ub
section
variable {a b:List Zl} (hpa:∀g∈a,Gin g) (hpb:∀g∈b,Gin g) (hba:Ok a=true) (hbb:Ok b=true)
include hpa hpb hba hbb
end
end Go.Sky
namespace Go.Sky
section
variable {P:Program} {N:Nat} {sc:Nat->Prop} {env:Xu} {H:Hp} {M:Nat->Prop}
end
abbrev V3T:=Int×Int×Int
def adL(c:List Int)(d:Int):List Int:=c.set 0 (c.getD 0 0+d)
def mvG(v:V3T)(g:Zl):Zl:=(g.1,(g.2.1.1,adL g.2.1.2 (v.1*g.1.2.2)),(g.2.2.1.1,adL g.2.2.1.2 (v.2.1*g.1.2.2)),(g.2.2.2.1,adL g.2.2.2.2 (v.2.2*g.1.2.2)))
def mv1(v:V3T)(g:Zl):Zl:=(g.1,(g.2.1.1,adL g.2.1.2 (v.1*g.1.2.2)),g.2.2.1,g.2.2.2)
def mv2(v:V3T)(g:Zl):Zl:=(g.1,(g.2.1.1,adL g.2.1.2 (v.1*g.1.2.2)),(g.2.2.1.1,adL g.2.2.1.2 (v.2.1*g.1.2.2)),g.2.2.2)
def mvK(v:V3T)(ps:List Zl)(k:Nat):List Zl:=(ps.take k).map (mvG v) ++ ps.drop k
def vcB(x y z:Int):Bool:=Zky 16777216 [x,y,z]
theorem vc_b{x y z:Int}(h:vcB x y z=true):(-16777216<=x/\x<=16777216)/\(-16777216<=y/\y<=16777216)/\(-16777216<=z/\z<=16777216):=by unfold vcB Zky at h;simp only [kR,List.all_nil,Bool.and_true,aL,dW]at h;exact⟨h.1,h.2.1,h.2.2⟩
structure MvX (v:V3T) (g:Zl):Prop where
 x:Qf (v.1*g.1.2.2)/\Qf (g.2.1.2.getD 0 0+v.1*g.1.2.2)
 y:Qf (v.2.1*g.1.2.2)/\Qf (g.2.2.1.2.getD 0 0+v.2.1*g.1.2.2)
 z:Qf (v.2.2*g.1.2.2)/\Qf (g.2.2.2.2.getD 0 0+v.2.2*g.1.2.2)
 lx:0<g.2.1.2.length
 ly:0<g.2.2.1.2.length
 lz:0<g.2.2.2.2.length
end Go.Sky

