/- Rules, arithmetic and contracts: part 12. No conditions but those that each theorem names. -/
import Derived.Test.YtoaklaecgjlfoaaTm10
set_option linter.all false
namespace Go.Sky
open Go.RowKit Below
variable {P:Program} {N:Nat} {sc:Nat->Prop} {env env':Yd} {H H':Hp} {Q Q':Exit->Act->World->Prop} {M:Nat->Prop}
end Go.Sky
namespace Go.Sky
def fqS(b a:Int)(x y z c d e:List Int)(i:Nat):List Int:=sqP (Xh i x y z) (Xh i c d e) b a
def smS(D b a:Int)(x y z c d e:List Int)(i:Nat):List Int:=smP (ngC [D,b,a] 3) (fqS b a x y z c d e) i
def dsB(D:Int):Bool:=decide (0<=D) && decide (D<=4194304)
structure FsX (D ov ov2:Int) (x y z x2 y2 z2:List Int):Prop where
 X:∀i,FmX (Xh i x y z) (Xh i x2 y2 z2) ov ov2 1
 N:∀i,i<=3->NgX [D,ov,ov2] i
 Q:SmX (ngC [D,ov,ov2] 3) (fqS ov ov2 x y z x2 y2 z2)
section
variable {P:Program} {N:Nat} {sc:Nat->Prop} {env:Yd} {H:Hp}
end
end Go.Sky
namespace Go.Sky
open Go.RowKit Below
variable {P:Program} {N:Nat} {sc:Nat->Prop} {env env':Yd} {H H':Hp} {Q Q':Exit->Act->World->Prop}
def fctP(p:Prop):Pc:={ own:=false,fp:=λ_=>False,holds:=λ_=>p,lt:=λ_ _ _ h=>h.elim,stable:=λ_ _ h _=>h }
end Go.Sky
namespace Go.Sky
def nbF(z:GpT):Bool:=Zg2 z.2.2
open Go.RowKit Below
section
variable {P:Program} {N:Nat} {sc:Nat->Prop} {env:Yd} {H:Hp}
end
abbrev wtM (z:GpT) (u:R2):R2:=(Me (u.1*(z.1.2-z.1.1)) (u.2*1),Nq (u.1*(z.1.2-z.1.1)) (u.2*1))
abbrev wtT (z:GpT) (u:R2):R2:=(Me ((wtM z u).1*1+z.1.1*(wtM z u).2) ((wtM z u).2*1),Nq ((wtM z u).1*1+z.1.1*(wtM z u).2) ((wtM z u).2*1))
abbrev wtV (g:R2×Int):Value:= .tuple #[.agg #[.bool (decide (g.1.1<0)),.string (Og (g.1.1).natAbs),.bool (decide (g.1.2<0)),.string (Og (g.1.2).natAbs)],.int .i64 g.2]
def WtP(D:Int)(a b:List Zk)(g:R2×Int):Prop:=
 (Av a b≠0/\g=((0,0),Av a b))\/(Av a b=0/\apZ D 1 1 a b=true/\g=((0,0),9))\/
  (Av a b=0/\apZ D 1 1 a b=false/\g.2=0/\∃z:GpT,unP z∈Zde D 1 1 a b/\∃u,Fnd z.2.2 (qv (0,1)) (qv (1,1)) u/\g.1=wtT z u)
def prow(n i:Nat):List (Nat×Nat):=(List.range (n-(i+1))).map λj=>(i,i+1+j)
def prU(n:Nat):Nat->List (Nat×Nat)
 | 0=>[]
 | i+1=>prU n i ++ prow n i
abbrev prs (n:Nat):List (Nat×Nat):=prU n n
def lx(p q:Nat×Nat):Prop:=p.1<q.1\/(p.1=q.1/\p.2<q.2)
def PrI(D:Int)(a:List PT)(k:Nat):Prop:=∀j p,j<k->(prs a.length)[j]? = some p->apZ D 1 1 (pth a p.1) (pth a p.2)=true
end Go.Sky
namespace Go.Sky
def dfA(p q:List Int)(b a:Int)(t:Rat):Rat:=Za p t*(a:Rat)-Za q t*(b:Rat)
def fvE(D n d b a:Int)(x y z c e f:List Int)(t:Rat):Rat:=
 ((d:Rat)*dfA x c b a t)*((d:Rat)*dfA x c b a t)+((d:Rat)*dfA y e b a t)*((d:Rat)*dfA y e b a t)+((n:Rat)*dfA z f b a t)*((n:Rat)*dfA z f b a t)
  - ((D:Rat)*(d:Rat)*(b:Rat)*(a:Rat))*((D:Rat)*(d:Rat)*(b:Rat)*(a:Rat))
def fvU(D n d:Int)(g h:Zcd)(t:Rat):Rat:=fvE D n d g.1.2.2 h.1.2.2 g.2.1 g.2.2.1 g.2.2.2 h.2.1 h.2.2.1 h.2.2.2 t
def gZ(o:Int)(l:List Int):Nat->Int
 | 0=>o
 | i+1=>(Int.gcd (gZ o l i) (cf l i):Int)
def plC(a d:Int)(x y z:List Int)(t:Nat):Int:=pl (Xh t x y z) a d
def lowL(o:Int)(l:List Int):List Int:=mk 3 λt=>cf l t/gZ o l 3
def lastB(ps:List Zk)(t:Int):Bool:=decide (spF ps<=t) && decide (t<=spL ps)
def exI(ps:List Zk)(t:Int):Nat:=ps.findIdx λg=>decide (t<=g.1.2.1)
def exA(ps:List Zk)(t:Int):Int:=t-(ps.getD (exI ps t) G0).1.1
def exD(ps:List Zk)(t:Int):Int:=(ps.getD (exI ps t) G0).1.2.1-(ps.getD (exI ps t) G0).1.1
def exO(ps:List Zk)(t:Int):Int:=(ps.getD (exI ps t) G0).1.2.2*exD ps t^5/gS (ps.getD (exI ps t) G0).1.2.2 (exA ps t) (exD ps t) (ps.getD (exI ps t) G0).2.1.2 (ps.getD (exI ps t) G0).2.2.1.2 (ps.getD (exI ps t) G0).2.2.2.2 3
def exL(ps:List Zk)(t:Int):List Int:=lowL ((ps.getD (exI ps t) G0).1.2.2*exD ps t^5) (mk 3 (plC (exA ps t) (exD ps t) (ps.getD (exI ps t) G0).2.1.2 (ps.getD (exI ps t) G0).2.2.1.2 (ps.getD (exI ps t) G0).2.2.2.2))
section
variable {P:Program} {N:Nat} {sc:Nat->Prop} {env:Yd} {H:Hp}
end
end Go.Sky
namespace Go.Sky
def exC(ps:List Zk)(t:Int)(c:List Int):Int:=pl c (exA ps t) (exD ps t)/gS (ps.getD (exI ps t) G0).1.2.2 (exA ps t) (exD ps t) (ps.getD (exI ps t) G0).2.1.2 (ps.getD (exI ps t) G0).2.2.1.2 (ps.getD (exI ps t) G0).2.2.2.2 3
def spX(g:Zk)(i:Nat)(s:Rat):Rat:=Za (Xh i g.2.1.2 g.2.2.1.2 g.2.2.2.2) s
def exN(ps:List Zk)(t:Int)(i:Nat):Int:=exC ps t (Xh i (ps.getD (exI ps t) G0).2.1.2 (ps.getD (exI ps t) G0).2.2.1.2 (ps.getD (exI ps t) G0).2.2.2.2)
def rdN(ps:List Zk)(t:Int)(i:Nat):Int:=(exN ps t i+exN ps t i+exO ps t)/(exO ps t+exO ps t)
def rdL(ps:List Zk)(t:Int):Nat->List Int
 | 0=>[0,0,0]
 | i+1=>(rdL ps t i).set i (rdN ps t i)
structure AtB (n o:Int):Prop where
 b1:bl n.natAbs<=30000
 b2:bl o.natAbs<=30000
 n2:bl (n+n).natAbs<=30000
 o2:bl (o+o).natAbs<=30000
 s:bl (n+n+o).natAbs<=30000
 z:o+o≠0
 q:((n+n+o)/(o+o)).natAbs<=9223372036854775807
section
variable {P:Program} {N:Nat} {sc:Nat->Prop} {env:Yd} {H:Hp}
end
end Go.Sky
namespace Go.Sky
def SmP(g:Zk)(s:Rat)(h:Zk)(u:Rat):Prop:=∀i,i<3->spX g i s*(h.1.2.2:Rat)=spX h i u*(g.1.2.2:Rat)
def SmP.symm{g h:Zk}{s u:Rat}(e:SmP g s h u):SmP h u g s:=λi hi=>(e i hi).symm
def SmP.trans{g h k:Zk}{s u v:Rat}(a:(h.1.2.2:Rat)≠0)(e:SmP g s h u)(f:SmP h u k v):SmP g s k v:=λi hi=>by
 have b:=e i hi;have c:=f i hi;have:(spX g i s*(k.1.2.2:Rat)-spX k i v*(g.1.2.2:Rat))*(h.1.2.2:Rat)=0:=O2;rcases dE.1 this with q|q
 .grind
 .exact absurd q a
def sTm(g:Zk)(t:Int):Rat:=((t-g.1.1:Int):Rat)/((g.1.2.1-g.1.1:Int):Rat)
section
variable {D n d:Int} {a b:List Zk} (hpa:∀g∈a,Gin g) (hpb:∀g∈b,Gin g) (hba:Nt a=true) (hbb:Nt b=true) (hz:znB D n d=true)
include hpa hpb hba hbb hz
end
end Go.Sky
namespace Go.Sky
def NrP(a b:List Zk)(g:Int×Int):Prop:=
 (Av a b≠0/\g=(0,Av a b))\/(Av a b=0/\Zde 0 1 1 a b=[]/\g=(0,9))\/
  (Av a b=0/\Zde 0 1 1 a b≠[]/\g.2=0/\0<=g.1/\g.1<=4194304/\∀k,1<=k->k<=4194304->apZ k 1 1 a b=decide (k<=g.1))
section
variable {a b:List Zk} (hpa:∀g∈a,Gin g) (hpb:∀g∈b,Gin g) (hba:Nt a=true) (hbb:Nt b=true)
include hpa hpb hba hbb
end
def NrS(a b:List Zk)(r:Nat):Prop:=r<=4194304/\(∀k,k<r->apZ ((k:Int)+1) 1 1 a b=true)/\∀k,r<=k->k<4194304->apZ ((k:Int)+1) 1 1 a b=false
section
variable {a b:List Zk} (hpa:∀g∈a,Gin g) (hpb:∀g∈b,Gin g) (hba:Nt a=true) (hbb:Nt b=true)
include hpa hpb hba hbb
end
def Zmj(fr j d e f h c i k:Int)(s:SL×SL×SL):Zk:=((fr,j,1),(s.1,tmL d h k),(s.2.1,tmL e c k),(s.2.2,tmL f i k))
def gv0(s:SL×SL×SL):Zk:=Zmj 0 1000 0 0 0 1000 0 0 1 s
def gv1(s:SL×SL×SL):Zk:=Zmj 0 1000 1000 300 0 0 300 0 1 s
def gv2(s:SL×SL×SL):Zk:=Zmj 500 2000 0 700 0 0 700 0 2 s
def gvL(s:SL×SL×SL):Zk:=Zmj 1000 2000 0 0 0 1000 0 0 1 s
section
variable (s t:SL×SL×SL)
end
end Go.Sky
namespace Go.Sky
def shG(b:Int)(g:Zk):Zk:=((g.1.1+b,g.1.2.1+b,g.1.2.2),g.2)
def shK(b:Int)(ps:List Zk)(k:Nat):List Zk:=(ps.take k).map (shG b) ++ ps.drop k
abbrev shA (b:Int) (x:Zk):Zk:=((x.1.1+b,x.1.2.1,x.1.2.2),x.2)
abbrev shB (b:Int) (x:Zk):Zk:=((x.1.1,x.1.2.1+b,x.1.2.2),x.2)
def ShR(ps:List Zk)(y:Int)(a:List Zk)(e:Int):Prop:=(e=3/\(y < -(spF ps)\/y>3600000-spL ps))\/(e=0/\¬y < -(spF ps)/\¬y>3600000-spL ps/\a.map unS=(ps.map (shG y)).map unS)
open Go.RowKit Below
variable {P:Program} {N:Nat} {sc:Nat->Prop} {env env':Yd} {H H':Hp} {Q Q':Exit->Act->World->Prop} {M:Nat->Prop}
def emp:Pc:=⟨false,λ_=>False,λ_=>True,λ_ _ _ h=>h.elim,λ_ _ _ _=>trivial⟩
def l3(z:Zk)(i:Nat):SL×List Int:=Xh i z.2.1 z.2.2.1 z.2.2.2
abbrev olz (e:TypeId) (p:SL×List Int):Pc:=Yu 1 e Zo (Qu p.1) p.2
def ol3(e:TypeId)(a:List Zk):Pc:=
 {own:=true
  fp:=λb=>∃k i,k<a.length/\i<3/\(olz e (l3 (a.getD k G0) i)).fp b
  holds:=λw=>(∀k i,k<a.length->i<3->(olz e (l3 (a.getD k G0) i)).holds w)/\∀k i m j b,k<a.length->i<3->m<a.length->j<3->(olz e (l3 (a.getD k G0) i)).fp b->(olz e (l3 (a.getD m G0) j)).fp b->k=m/\i=j
  lt:=λw b h ⟨k,i,d,hi,f⟩=>(olz e _).lt w b (h.1 k i d hi) f
  stable:=λw o h c=>⟨λk i d hi=>(olz e _).stable w o (h.1 k i d hi) ⟨c.os,c.tape,c.output,c.size,λb f l=>c.block b f (λg=>l (λn=>g ⟨k,i,d,hi,n⟩))⟩,h.2⟩ }
def opa(e s:TypeId)(v:Value)(d:List Zk):Pc:=
 {own:=true
  fp:=λb=>v.ownBlock=some b\/(ol3 e d).fp b
  holds:=λw=>(Yu 6 s Zmw v d).holds w/\(ol3 e d).holds w/\∀b,v.ownBlock=some b->(ol3 e d).fp b->False
  lt:=λw b h c=>c.elim (λc=>(Yu 6 s Zmw v d).lt w b h.1 c) (λc=>(ol3 e d).lt w b h.2.1 c)
  stable:=λw j h a=>⟨(Yu 6 s Zmw v d).stable w j h.1 ⟨a.os,a.tape,a.output,a.size,λb c g=>a.block b c (λf=>g (λi=>f (.inl i)))⟩,(ol3 e d).stable w j h.2.1 ⟨a.os,a.tape,a.output,a.size,λb c g=>a.block b c (λf=>g (λi=>f (.inr i)))⟩,h.2.2⟩ }
def Sat.drop{a:Act}{w:World}(h:Sat N sc env H a w)(j:Nat):Sat N sc env ((j,emp)::H) a w:=
 h.add j emp aB (λ_ _ _ _ _ _ b=>b.elim) (λ_ b=>b.elim)
def stL(z:Zk)(i j:Nat)(u:Int):Zk:=(z.1,if i=0 then(z.2.1.1,z.2.1.2.set j u)else z.2.1,if i=1 then(z.2.2.1.1,z.2.2.1.2.set j u)else z.2.2.1,if i=2 then(z.2.2.2.1,z.2.2.2.2.set j u)else z.2.2.2)
end Go.Sky
namespace Go.Sky
abbrev S3T:=SL×SL×SL
abbrev GvT:=(S3T×S3T×S3T)×(SL×SL×SL)
def gvs(q:GvT):List PT:=[(q.2.1,[gv0 q.1.1]),(q.2.2.1,[gv1 q.1.2.1]),(q.2.2.2,[gv2 q.1.2.2])]
def NrL(a b:List Zk)(c hi:Int):Prop:=0<=c/\c<=hi/\hi<=4194304/\(∀k,1<=k->k<=c->apZ k 1 1 a b=true)/\∀k,hi<k->k<=4194304->apZ k 1 1 a b=false
section
variable {a b:List Zk} (hpa:∀g∈a,Gin g) (hpb:∀g∈b,Gin g) (hba:Nt a=true) (hbb:Nt b=true)
include hpa hpb hba hbb
end
end Go.Sky
namespace Go.Sky
def sR(g:Zk)(t:Rat):Rat:=(t-(g.1.1:Rat))/((g.1.2.1-g.1.1:Int):Rat)
def InG(g:Zk)(t:Rat):Prop:=(g.1.1:Rat)<=t/\t<=(g.1.2.1:Rat)
def pzQ(g:Zk)(i:Nat)(s:Rat):Rat:=spX g i s/(g.1.2.2:Rat)
def dQ(g h:Zk)(s u:Rat):Rat:=(pzQ g 0 s-pzQ h 0 u)*(pzQ g 0 s-pzQ h 0 u)+(pzQ g 1 s-pzQ h 1 u)*(pzQ g 1 s-pzQ h 1 u)+(pzQ g 2 s-pzQ h 2 u)*(pzQ g 2 s-pzQ h 2 u)
end Go.Sky

