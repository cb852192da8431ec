/- Rules, arithmetic and contracts: part 18. No conditions but those that each theorem names. -/
import Derived.Test.YtlnoheikolgejaaGreatLa16
set_option linter.all false
set_option maxHeartbeats 4000000
namespace Go.Sky
open Go.RowKit Below
section
variable {P:Program} {N:Nat} {sc:Nat->Prop} {env:Xz} {H:Hp}
end
abbrev wtM (z:GpT) (u:R2):R2:=(Hi (u.1*(z.1.2-z.1.1)) (u.2*1),Ij (u.1*(z.1.2-z.1.1)) (u.2*1))
abbrev wtT (z:GpT) (u:R2):R2:=(Hi ((wtM z u).1*1+z.1.1*(wtM z u).2) ((wtM z u).2*1),Ij ((wtM z u).1*1+z.1.1*(wtM z u).2) ((wtM z u).2*1))
abbrev wtV (g:R2×Int):Value:= .tuple #[.agg #[.bool (decide (g.1.1<0)),.string (Xn (g.1.1).natAbs),.bool (decide (g.1.2<0)),.string (Xn (g.1.2).natAbs)],.int .i64 g.2]
def WtP(D:Int)(a b:List Zj)(g:R2×Int):Prop:=
 (Gr a b≠0/\g=((0,0),Gr a b))\/(Gr a b=0/\apZ D 1 1 a b=true/\g=((0,0),9))\/
  (Gr a b=0/\apZ D 1 1 a b=false/\g.2=0/\∃z:GpT,unP z∈Mu D 1 1 a b/\∃u,Fnd z.2.2 (qv (0,1)) (qv (1,1)) u/\g.1=wtT z u)
def prow(n i:Nat):List (Nat×Nat):=(List.range (n-(i+1))).map λj=>(i,i+1+j)
def prU(n:Nat):Nat->List (Nat×Nat)
 | 0=>[]
 | i+1=>prU n i ++ prow n i
abbrev prs (n:Nat):List (Nat×Nat):=prU n n
def lx(p q:Nat×Nat):Prop:=p.1<q.1\/(p.1=q.1/\p.2<q.2)
def PrI(D:Int)(a:List PT)(k:Nat):Prop:=∀j p,j<k->(prs a.length)[j]? = some p->apZ D 1 1 (pth a p.1) (pth a p.2)=true
end Go.Sky
namespace Go.Sky
def SmP(g:Zj)(s:Rat)(h:Zj)(u:Rat):Prop:=∀i,i<3->spX g i s*(h.1.2.2:Rat)=spX h i u*(g.1.2.2:Rat)
def SmP.symm{g h:Zj}{s u:Rat}(e:SmP g s h u):SmP h u g s:=λi hi=>(e i hi).symm
def SmP.trans{g h k:Zj}{s u v:Rat}(a:(h.1.2.2:Rat)≠0)(e:SmP g s h u)(f:SmP h u k v):SmP g s k v:=λi hi=>by
 have b:=e i hi;have c:=f i hi;have:(spX g i s*(k.1.2.2:Rat)-spX k i v*(g.1.2.2:Rat))*(h.1.2.2:Rat)=0:=O4;rcases eV.1 this with q|q
 .grind
 .exact absurd q a
def sTm(g:Zj)(t:Int):Rat:=((t-g.1.1:Int):Rat)/((g.1.2.1-g.1.1:Int):Rat)
section
variable {D n d:Int} {a b:List Zj} (hpa:∀g∈a,Gin g) (hpb:∀g∈b,Gin g) (hba:Xk a=true) (hbb:Xk b=true) (hz:znB D n d=true)
include hpa hpb hba hbb hz
end
end Go.Sky
namespace Go.Sky
def NrP(a b:List Zj)(g:Int×Int):Prop:=
 (Gr a b≠0/\g=(0,Gr a b))\/(Gr a b=0/\Mu 0 1 1 a b=[]/\g=(0,9))\/
  (Gr a b=0/\Mu 0 1 1 a b≠[]/\g.2=0/\0<=g.1/\g.1<=4194304/\∀k,1<=k->k<=4194304->apZ k 1 1 a b=decide (k<=g.1))
section
variable {a b:List Zj} (hpa:∀g∈a,Gin g) (hpb:∀g∈b,Gin g) (hba:Xk a=true) (hbb:Xk b=true)
include hpa hpb hba hbb
end
def NrS(a b:List Zj)(r:Nat):Prop:=r<=4194304/\(∀k,k<r->apZ ((k:Int)+1) 1 1 a b=true)/\∀k,r<=k->k<4194304->apZ ((k:Int)+1) 1 1 a b=false
section
variable {a b:List Zj} (hpa:∀g∈a,Gin g) (hpb:∀g∈b,Gin g) (hba:Xk a=true) (hbb:Xk b=true)
include hpa hpb hba hbb
end
def Yhs(fr j d e f h c i k:Int)(s:SL×SL×SL):Zj:=((fr,j,1),(s.1,tmL d h k),(s.2.1,tmL e c k),(s.2.2,tmL f i k))
def gv0(s:SL×SL×SL):Zj:=Yhs 0 1000 0 0 0 1000 0 0 1 s
def gv1(s:SL×SL×SL):Zj:=Yhs 0 1000 1000 300 0 0 300 0 1 s
def gv2(s:SL×SL×SL):Zj:=Yhs 500 2000 0 700 0 0 700 0 2 s
def gvL(s:SL×SL×SL):Zj:=Yhs 1000 2000 0 0 0 1000 0 0 1 s
section
variable (s t:SL×SL×SL)
end
end Go.Sky
namespace Go.Sky
def shG(b:Int)(g:Zj):Zj:=((g.1.1+b,g.1.2.1+b,g.1.2.2),g.2)
def shK(b:Int)(ps:List Zj)(k:Nat):List Zj:=(ps.take k).map (shG b) ++ ps.drop k
abbrev shA (b:Int) (x:Zj):Zj:=((x.1.1+b,x.1.2.1,x.1.2.2),x.2)
abbrev shB (b:Int) (x:Zj):Zj:=((x.1.1,x.1.2.1+b,x.1.2.2),x.2)
def ShR(ps:List Zj)(y:Int)(zs:List Zj)(e:Int):Prop:=(e=3/\(y < -(spF ps)\/y>3600000-spL ps))\/(e=0/\¬y < -(spF ps)/\¬y>3600000-spL ps/\zs.map Mb=(ps.map (shG y)).map Mb)
open Go.RowKit Below
variable {P:Program} {N:Nat} {sc:Nat->Prop} {env env':Xz} {H H':Hp} {Q Q':Exit->Act->World->Prop} {M:Nat->Prop}
def emp:Pc:=⟨false,λ_=>False,λ_=>True,λ_ _ _ h=>h.elim,λ_ _ _ _=>trivial⟩
def l3(z:Zj)(i:Nat):SL×List Int:=Zt i z.2.1 z.2.2.1 z.2.2.2
abbrev olz (e:TypeId) (p:SL×List Int):Pc:=Pt 1 e Zz (Xw p.1) p.2
def ol3(e:TypeId)(zs:List Zj):Pc:=
 {own:=true
  fp:=λb=>∃k i,k<zs.length/\i<3/\(olz e (l3 (zs.getD k G0) i)).fp b
  holds:=λw=>(∀k i,k<zs.length->i<3->(olz e (l3 (zs.getD k G0) i)).holds w)/\∀k i m j b,k<zs.length->i<3->m<zs.length->j<3->(olz e (l3 (zs.getD k G0) i)).fp b->(olz e (l3 (zs.getD m G0) j)).fp b->k=m/\i=j
  lt:=λw b h ⟨k,i,c,hi,d⟩=>(olz e _).lt w b (h.1 k i c hi) d
  stable:=λw n h a=>⟨λk i c hi=>(olz e _).stable w n (h.1 k i c hi) ⟨a.os,a.tape,a.output,a.size,λb d g=>a.block b d (λf=>g (λl=>f ⟨k,i,c,hi,l⟩))⟩,h.2⟩ }
def opa(e s:TypeId)(v:Value)(zs:List Zj):Pc:=
 {own:=true
  fp:=λb=>v.ownBlock=some b\/(ol3 e zs).fp b
  holds:=λw=>(Pt 6 s Qu v zs).holds w/\(ol3 e zs).holds w/\∀b,v.ownBlock=some b->(ol3 e zs).fp b->False
  lt:=λw b h c=>c.elim (λc=>(Pt 6 s Qu v zs).lt w b h.1 c) (λc=>(ol3 e zs).lt w b h.2.1 c)
  stable:=λw i h a=>⟨(Pt 6 s Qu v zs).stable w i h.1 ⟨a.os,a.tape,a.output,a.size,λb c f=>a.block b c (λd=>f (λg=>d (.inl g)))⟩,(ol3 e zs).stable w i h.2.1 ⟨a.os,a.tape,a.output,a.size,λb c f=>a.block b c (λd=>f (λg=>d (.inr g)))⟩,h.2.2⟩ }
def Sat.drop{a:Act}{w:World}(h:Sat N sc env H a w)(j:Nat):Sat N sc env ((j,emp)::H) a w:=
 h.add j emp aA (λ_ _ _ _ _ _ b=>b.elim) (λ_ b=>b.elim)
def stL(z:Zj)(i j:Nat)(u:Int):Zj:=(z.1,if i=0 then(z.2.1.1,z.2.1.2.set j u)else z.2.1,if i=1 then(z.2.2.1.1,z.2.2.1.2.set j u)else z.2.2.1,if i=2 then(z.2.2.2.1,z.2.2.2.2.set j u)else z.2.2.2)
end Go.Sky
namespace Go.Sky
abbrev S3T:=SL×SL×SL
abbrev GvT:=(S3T×S3T×S3T)×(SL×SL×SL)
def gvs(q:GvT):List PT:=[(q.2.1,[gv0 q.1.1]),(q.2.2.1,[gv1 q.1.2.1]),(q.2.2.2,[gv2 q.1.2.2])]
def NrL(a b:List Zj)(lo hi:Int):Prop:=0<=lo/\lo<=hi/\hi<=4194304/\(∀k,1<=k->k<=lo->apZ k 1 1 a b=true)/\∀k,hi<k->k<=4194304->apZ k 1 1 a b=false
section
variable {a b:List Zj} (hpa:∀g∈a,Gin g) (hpb:∀g∈b,Gin g) (hba:Xk a=true) (hbb:Xk b=true)
include hpa hpb hba hbb
end
end Go.Sky
namespace Go.Sky
def sR(g:Zj)(t:Rat):Rat:=(t-(g.1.1:Rat))/((g.1.2.1-g.1.1:Int):Rat)
def InG(g:Zj)(t:Rat):Prop:=(g.1.1:Rat)<=t/\t<=(g.1.2.1:Rat)
def pzQ(g:Zj)(i:Nat)(s:Rat):Rat:=spX g i s/(g.1.2.2:Rat)
def dQ(g h:Zj)(s u:Rat):Rat:=(pzQ g 0 s-pzQ h 0 u)*(pzQ g 0 s-pzQ h 0 u)+(pzQ g 1 s-pzQ h 1 u)*(pzQ g 1 s-pzQ h 1 u)+(pzQ g 2 s-pzQ h 2 u)*(pzQ g 2 s-pzQ h 2 u)
structure Pcs (a b:List Zj) (n:Nat) (T:Nat->Int) (ua ub:Nat->Ca) (ja jb:Nat->Nat):Prop where
 n1:1<=n
 t0:T 0=cmF a b
 tn:T n=cmL a b
 lt:∀k,k<n->T k<T (k+1)/\cmF a b<=T k/\T (k+1)<=cmL a b
 la:∀k,k<n->ja k<a.length/\(a.getD (ja k) G0).1.1<=T k/\T (k+1)<=(a.getD (ja k) G0).1.2.1
 lb:∀k,k<n->jb k<b.length/\(b.getD (jb k) G0).1.1<=T k/\T (k+1)<=(b.getD (jb k) G0).1.2.1
 pa:∀k,k<n->SgG (mkS (ua k))/\(∃G,Prt (mkS (ua k)) (a.getD (ja k) G0) G)/\(ua k).1.1=T k/\(ua k).1.2.1=T (k+1)
 pb:∀k,k<n->SgG (mkS (ub k))/\(∃G,Prt (mkS (ub k)) (b.getD (jb k) G0) G)/\(ub k).1.1=T k/\(ub k).1.2.1=T (k+1)
 ra:Nw a b a=(List.range n).map ua
 rb:Nw a b b=(List.range n).map ub
section
variable {a b:List Zj} (hpa:∀g∈a,Gin g) (hpb:∀g∈b,Gin g) (hba:Xk a=true) (hbb:Xk b=true)
include hpa hpb hba hbb
end
end Go.Sky
namespace Go.Sky
section
variable {P:Program} {N:Nat} {sc:Nat->Prop} {env:Xz} {H:Hp} {M:Nat->Prop}
end
abbrev V3T:=Int×Int×Int
def adL(c:List Int)(d:Int):List Int:=c.set 0 (c.getD 0 0+d)
def mvG(v:V3T)(g:Zj):Zj:=(g.1,(g.2.1.1,adL g.2.1.2 (v.1*g.1.2.2)),(g.2.2.1.1,adL g.2.2.1.2 (v.2.1*g.1.2.2)),(g.2.2.2.1,adL g.2.2.2.2 (v.2.2*g.1.2.2)))
def mv1(v:V3T)(g:Zj):Zj:=(g.1,(g.2.1.1,adL g.2.1.2 (v.1*g.1.2.2)),g.2.2.1,g.2.2.2)
def mv2(v:V3T)(g:Zj):Zj:=(g.1,(g.2.1.1,adL g.2.1.2 (v.1*g.1.2.2)),(g.2.2.1.1,adL g.2.2.1.2 (v.2.1*g.1.2.2)),g.2.2.2)
def mvK(v:V3T)(ps:List Zj)(k:Nat):List Zj:=(ps.take k).map (mvG v) ++ ps.drop k
def vcB(x y z:Int):Bool:=Zp2 16777216 [x,y,z]
structure MvX (v:V3T) (g:Zj):Prop where
 x:Me (v.1*g.1.2.2)/\Me (g.2.1.2.getD 0 0+v.1*g.1.2.2)
 y:Me (v.2.1*g.1.2.2)/\Me (g.2.2.1.2.getD 0 0+v.2.1*g.1.2.2)
 z:Me (v.2.2*g.1.2.2)/\Me (g.2.2.2.2.getD 0 0+v.2.2*g.1.2.2)
 lx:0<g.2.1.2.length
 ly:0<g.2.2.1.2.length
 lz:0<g.2.2.2.2.length
end Go.Sky
namespace Go.Sky
structure Mvd (y:Int) (v:Nat->Rat) (a c:List Zj):Prop where
 len:c.length=a.length
 t1:∀k,k<a.length->(c.getD k G0).1.1=(a.getD k G0).1.1+y
 t2:∀k,k<a.length->(c.getD k G0).1.2.1=(a.getD k G0).1.2.1+y
 ck:∀k,k<a.length->∀fr to,Kg fr to (a.getD k G0)=true->Zfv (fr+y) (to+y) (c.getD k G0)=Zfv fr to (a.getD k G0)
 pl:∀k,k<a.length->∀(t:Rat) i,i<3->pzQ (c.getD k G0) i (sR (c.getD k G0) (t+(y:Rat)))=pzQ (a.getD k G0) i (sR (a.getD k G0) t)+v i
section
variable {y:Int} {v w:Nat->Rat} {a b c d:List Zj}
def Mvd.F(h:Mvd y v a c)(e:0<a.length):spF c=spF a+y:=h.t1 0 e
theorem Mvd.L(h:Mvd y v a c)(e:0<a.length):spL c=spL a+y:=by unfold spL;rw [h.len];exact h.t2 _ O
variable (hpa:∀g∈a,Gin g) (hpb:∀g∈b,Gin g) (hba:Xk a=true) (hbb:Xk b=true) (hpc:∀g∈c,Gin g) (hpd:∀g∈d,Gin g) (hbc:Xk c=true) (hbd:Xk d=true)
include hpa hpb hba hbb hpc hpd hbc hbd
end
end Go.Sky
namespace Go.Sky
variable{d:Int}{r:Rat}{m:Nat}
structure QOK (n d:Int) (r:Rat) (m:Nat):Prop where
 p:0<d
 v:(n:Rat)=r*(d:Rat)
 a:bl n.natAbs<=m
 b:bl d.natAbs<=m
theorem QOK.ne{n:Int}(h:QOK n d r m):d≠0:=by have:=h.p;omega
def QOK.mono{n:Int}{k:Nat}(h:QOK n d r m)(a:m<=k):QOK n d r k:=⟨h.p,h.v,aB h.a a,aB h.b a⟩
def QOK.cg{n:Int}{s:Rat}(h:QOK n d r m)(e:r=s):QOK n d s m:=e▸h
def sq3(f:Nat->Rat):Nat->Rat
 | 0=>0
 | k+1=>sq3 f k+f k*f k
abbrev QzT:=(Int×SL)×(Int×SL)
abbrev encq (z:QzT):Value:= .agg #[.bool (decide (z.1.1<0)),Xw z.1.2,.bool (decide (z.2.1<0)),Xw z.2.2]
abbrev qq (z:QzT):Pc:=Im qI [z.1,z.2]
abbrev QZ0:QzT:=((0,none,0,0),(1,none,0,0))
def PlQ(g:Zj)(t:Rat)(zs:List QzT)(k:Nat):Prop:=zs.length=k/\∀i,i<k->QOK (zs.getD i QZ0).1.1 (zs.getD i QZ0).2.1 (pzQ g i (sR g t)) 28000
def Plc(ps:List Zj)(t:Rat)(zs:List QzT):Prop:=∃j,j<ps.length/\InG (ps.getD j G0) t/\PlQ (ps.getD j G0) t zs 3
def ClsI(a b:List Zj)(D:Int)(t:Rat)(c:Bool):Prop:=∃j k,j<a.length/\k<b.length/\InG (a.getD j G0) t/\InG (b.getD k G0) t/\(c=true↔dQ (a.getD j G0) (b.getD k G0) (sR (a.getD j G0) t) (sR (b.getD k G0) t)<(D:Rat)*(D:Rat))
section
variable {P:Program} {N:Nat} {sc:Nat->Prop} {env:Xz} {H:Hp}
end
def MvR(ps:List Zj)(v:V3T)(zs:List Zj)(e:Int):Prop:=e=2\/e=3\/e=0/\Xk zs=true/\(∀g∈zs,Gin g)/\zs.map Mb=(ps.map (mvG v)).map Mb
end Go.Sky
namespace Go.Sky
open Go.Proofs.Tryz
open Go.Proofs
set_option synthInstance.maxHeartbeats 0
set_option synthInstance.maxSize 100000
set_option maxRecDepth 20000
set_option linter.unusedSimpArgs false
end Go.Sky

