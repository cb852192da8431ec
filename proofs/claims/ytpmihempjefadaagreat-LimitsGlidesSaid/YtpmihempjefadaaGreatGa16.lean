/- Rules, arithmetic and contracts: part 17. No conditions but those that each theorem names. -/
import Derived.Test.YtpmihempjefadaaGreatGa15
import Derived.MapKept
set_option linter.all false
set_option maxHeartbeats 4000000
namespace Go.Sky
variable{s:SL×SL×SL}
def Mj(a b k:Int):List Int:=if b-a=0\/k=2 then [a]else if k=1 then [a,b-a]else [a,0,0,10*(b-a),-15*(b-a),6*(b-a)]
def tmL_0 (a:Int)(b:Int)(k:Int)(h:b-a=0\/k=2):Mj a b k=[a]:=aG h
def tmL_1{a b k:Int}(h:¬(b-a=0\/k=2))(c:k=1):Mj a b k=[a,b-a]:=(aE h).trans (aG c)
def tmL_2{a b k:Int}(h:¬(b-a=0\/k=2))(c:k≠1):Mj a b k=[a,0,0,10*(b-a),-15*(b-a),6*(b-a)]:=(aE h).trans (aE c)
def Xr(k:Int)(s:SL×SL×SL):Zl:=((0,1000,1),(s.1,Mj 0 300 k),(s.2.1,Mj 0 400 k),(s.2.2,Mj 0 0 k))
def stayG(s:SL×SL×SL):Zl:=((1000,2000,1),(s.1,Mj 0 0 2),(s.2.1,Mj 0 0 2),(s.2.2,Mj 0 0 2))
theorem Kf{l:List Int}(h:l.all (λa=>decide (-9223372036854775808<=a/\a<=9223372036854775807))=true):∀a∈l,Qf a:=λa b=>by have:=bR.1 h a b;simp only [dW]at this;exact this
theorem Ov(k:Int)(b:k=0\/k=1)(s:SL×SL×SL):Gin (Xr k s):=by
 rcases b with rfl|rfl
 .exact⟨show Qf (0:Int)from⟨O3,O3⟩,show Qf (1000:Int)from⟨O3,O3⟩,show Qf (1:Int)from⟨O3,O3⟩,show ∀a∈Mj 0 300 0,Qf a from Kf O3,show ∀a∈Mj 0 400 0,Qf a from Kf O3,show ∀a∈Mj 0 0 0,Qf a from Kf O3⟩
 .exact⟨show Qf (0:Int)from⟨O3,O3⟩,show Qf (1000:Int)from⟨O3,O3⟩,show Qf (1:Int)from⟨O3,O3⟩,show ∀a∈Mj 0 300 1,Qf a from Kf O3,show ∀a∈Mj 0 400 1,Qf a from Kf O3,show ∀a∈Mj 0 0 1,Qf a from Kf O3⟩
def Zaf(s:SL×SL×SL):Gin (stayG s):=⟨show Qf (1000:Int)from⟨O3,O3⟩,show Qf (2000:Int)from⟨O3,O3⟩,show Qf (1:Int)from⟨O3,O3⟩,show ∀a∈Mj 0 0 2,Qf a from Kf O3,show ∀a∈Mj 0 0 2,Qf a from Kf O3,show ∀a∈Mj 0 0 2,Qf a from Kf O3⟩
def Zbl:Ok [Xr 0 s]=true:=O6
def Zg1:Ok [Xr 1 s]=true:=O6
def Zmp:Ea 1000 2000 1 (Mj 0 0 2) (Mj 0 0 2) (Mj 0 0 2)=true:=O5
theorem Dt(k:Int)(a:k=0\/k=1):Ea 0 1000 1 (Mj 0 300 k) (Mj 0 400 k) (Mj 0 0 k)=true:=by rcases a with rfl|rfl<;>decide +kernel
def Zzw(s:SL×SL×SL):fiB [Xr 1 s] 500 1=none:=O6
def Zg2(s:SL×SL×SL):fiB [Xr 0 s] 500 10000=some (0,2):=O6
def Zjc(s:SL×SL×SL):Zca [Xr 1 s]=(500,0,0):=O6
def Zjd(s:SL×SL×SL):Zca [Xr 0 s]=(938,2887,0):=O6
def Zzs:Zn3 0 1000 1 (Mj 0 300 1) (Mj 0 400 1) (Mj 0 0 1) 1000 2000 1 (Mj 0 0 2) (Mj 0 0 2) (Mj 0 0 2)=false:=O5
def Zzt:Zn3 0 1000 1 (Mj 0 300 0) (Mj 0 400 0) (Mj 0 0 0) 1000 2000 1 (Mj 0 0 2) (Mj 0 0 2) (Mj 0 0 2)=true:=O5
def legZ(b c d e a f k:Int)(s:SL×SL×SL):Zl:=((0,1000,1),(s.1,Mj b e k),(s.2.1,Mj c a k),(s.2.2,Mj d f k))
abbrev TzT:=SL×List (Int×SL)
def sqF(b a:Int)(x y z c d e:List Int)(i:Nat):List Int:=sqP (Yg i x y z) (Yg i c d e) b a
def sqR(b a:Int)(x y z c d e:List Int):Nat->List (List Int)
 | 0=>[]
 | i+1=>sqR b a x y z c d e i ++ [sqF b a x y z c d e i]
def ovW(b a:Int):Int:=b*a*(b*a)
def rfL(g f b a:Int)(x y z c d e:List Int):List Int:=Hf (Yc (Hf (sqF b a x y z c d e 0) (sqF b a x y z c d e 1)) (f*f)) (Yc (sqF b a x y z c d e 2) (g*g))
def rfW(b c d a:Int):Int:=b*b*(c*c)*ovW d a
def rfZ(g h c b a:Int)(x y z d e f:List Int):List Int:=Gw (rfL h c b a x y z d e f) (tzl [rfW g c b a])
structure RfX (zd zn ze ov ov2:Int) (x y z x2 y2 z2:List Int):Prop where
 v0:∀i,Vp (sqF ov ov2 x y z x2 y2 z2 i)
 v1:Vp (Hf (sqF ov ov2 x y z x2 y2 z2 0) (sqF ov ov2 x y z x2 y2 z2 1))
 v2:Vp (Yc (Hf (sqF ov ov2 x y z x2 y2 z2 0) (sqF ov ov2 x y z x2 y2 z2 1)) (ze*ze))
 v3:Vp (Yc (sqF ov ov2 x y z x2 y2 z2 2) (zn*zn))
 v4:Vp (rfL zn ze ov ov2 x y z x2 y2 z2)
 v5:Vp (tzl [rfW zd ze ov ov2])
 v6:Vp (rfZ zd zn ze ov ov2 x y z x2 y2 z2)
 wb:bl (rfW zd ze ov ov2).natAbs<=1000000
 ob:bl (ov*ov2).natAbs<=1000
 oW:bl (ovW ov ov2).natAbs<=1000
 eb:bl (ze*ze).natAbs<=1000
 nb:bl (zn*zn).natAbs<=1000
 db:bl (zd*zd).natAbs<=1000
 xb:bl (zd*zd*(ze*ze)).natAbs<=1000
def tpI(n k:Nat):Nat:=n/1000000000^k
def gcR(o:Int)(X Y Z:List Int):Nat->Int
 | 0=>o
 | i+1=>(Int.gcd (gcR o X Y Z i) (Yj (Yg i X Y Z)):Int)
structure Row3 (ws:List TzT) (X Y Z:List Int):Prop where
 l:ws.length=3
 e:∀i,i<3->Gl (ws.getD i T0).2=Yg i X Y Z
def segY(fr a:Int)(g:Zl)(r:SL×SL×SL):Zl:=((cA fr g,cB a g,cO g/cG fr a g),(r.1,dvL (cX fr a g g.2.1.2) (cG fr a g)),(r.2.1,dvL (cX fr a g g.2.2.1.2) (cG fr a g)),(r.2.2,dvL (cX fr a g g.2.2.2.2) (cG fr a g)))
def nxF(t c:Int)(ps:List Zl):Nat->Int
 | 0=>c
 | i+1=>if t<(ps.getD i G0).1.1 then min (nxF t c ps i) (ps.getD i G0).1.1 else nxF t c ps i
def bdI:List GpU->Int
 | []=>-1
 | g::l=>if Gx g.2.2 then 0 else if bdI l<0 then -1 else bdI l+1
open Go Go.MapKept
variable {P:Program} {N:Nat} {sc:Nat->Prop} {env env':Xu} {H H':Hp} {Q Q':Exit->Act->World->Prop} {M:Nat->Prop}
abbrev PT:=SL×List Zl
abbrev PT0:PT:=((none,0,0),[])
abbrev encP (x:PT):Value:=Lh x.1
abbrev qP (x:PT):Pc:=Nv 6 Ee qG (Lh x.1) x.2
def mpc(b:Nat)(a:Array MapEntry)(n:Nat):Pc:=
 {own:=true,fp:=λk=>k=b,holds:=λw=>w.heap[b]? = some (.map a n)
  lt:=λw k h d=>by subst d;exact(aR.1 h).1
  stable:=λw f h c=>by rw [<-h];exact c.block b (aR.1 h).1 (λe=>e rfl) }
def fewsB(m k:Nat)(a:List PT):Bool:=decide (a.length<=m) && a.all λx=>fewB x.2 k
def valsB(a:List PT):Bool:=a.all λx=>Ok x.2
abbrev ClT:=(Int×Int×Int×Int)×Bool×Int
abbrev clE (r:ClT):Value:= .tuple #[.agg #[.int .i64 r.1.1,.int .i64 r.1.2.1,.int .i64 r.1.2.2.1,.int .i64 r.1.2.2.2],.bool r.2.1,.int .i64 r.2.2]
def pth(ps:List PT)(i:Nat):List Zl:=(ps.getD i PT0).2
def clV(D n d:Int)(ps:List PT)(i k:Nat):ClT:=
 (if(Yaj (Zoc D n d (pth ps i) (pth ps k))).2.2=true then((i:Int),(k:Int),(Yaj (Zoc D n d (pth ps i) (pth ps k))).1,(Yaj (Zoc D n d (pth ps i) (pth ps k))).2.1)else(0,0,0,0),(Yaj (Zoc D n d (pth ps i) (pth ps k))).2.2,Zia (pth ps i) (pth ps k))
def ClA(D n d:Int)(ps:List PT)(i:Nat):Prop:=∀j k,j<k->k<ps.length->j<i->apZ D n d (pth ps j) (pth ps k)=true
def ClB(D n d:Int)(ps:List PT)(i m:Nat):Prop:=∀k,i<k->k<m->apZ D n d (pth ps i) (pth ps k)=true
def ClR(D n d:Int)(ps:List PT)(r:ClT):Prop:=
 (r=((0,0,0,0),false,0)/\ClA D n d ps ps.length)\/∃i k,i<k/\k<ps.length/\ClA D n d ps i/\ClB D n d ps i k/\apZ D n d (pth ps i) (pth ps k)=false/\r=clV D n d ps i k
end Go.Sky
namespace Go.Sky
def fqS(b a:Int)(x y z c d e:List Int)(i:Nat):List Int:=sqP (Yg i x y z) (Yg i c d e) b a
def smS(D b a:Int)(x y z c d e:List Int)(i:Nat):List Int:=smP (ngC [D,b,a] 3) (fqS b a x y z c d e) i
def dsB(D:Int):Bool:=decide (0<=D) && decide (D<=4194304)
structure FsX (D ov ov2:Int) (x y z x2 y2 z2:List Int):Prop where
 X:∀i,FmX (Yg i x y z) (Yg i x2 y2 z2) ov ov2 1
 N:∀i,i<=3->NgX [D,ov,ov2] i
 Q:SmX (ngC [D,ov,ov2] 3) (fqS ov ov2 x y z x2 y2 z2)
section
variable {P:Program} {N:Nat} {sc:Nat->Prop} {env:Xu} {H:Hp}
end
end Go.Sky
namespace Go.Sky
open Go.Proofs.Tryz
open Go.Proofs
set_option synthInstance.maxHeartbeats 0
set_option synthInstance.maxSize 100000
set_option maxRecDepth 20000
set_option linter.unusedSimpArgs false
open Go.RowKit Below
variable {P:Program} {N:Nat} {sc:Nat->Prop} {env env':Xu} {H H':Hp} {Q Q':Exit->Act->World->Prop}
def fctP(p:Prop):Pc:={ own:=false,fp:=λ_=>False,holds:=λ_=>p,lt:=λ_ _ _ h=>h.elim,stable:=λ_ _ h _=>h }
end Go.Sky
namespace Go.Sky
open Go.Proofs.Tryz
open Go.Proofs
set_option synthInstance.maxHeartbeats 0
set_option synthInstance.maxSize 100000
set_option maxRecDepth 20000
set_option linter.unusedSimpArgs false
def nbF(z:GpT):Bool:=Gx z.2.2
def dfA(p q:List Int)(b a:Int)(t:Rat):Rat:=Zb p t*(a:Rat)-Zb q t*(b:Rat)
def fvE(D n d b a:Int)(x y z c e f:List Int)(t:Rat):Rat:=
 ((d:Rat)*dfA x c b a t)*((d:Rat)*dfA x c b a t)+((d:Rat)*dfA y e b a t)*((d:Rat)*dfA y e b a t)+((n:Rat)*dfA z f b a t)*((n:Rat)*dfA z f b a t)
  - ((D:Rat)*(d:Rat)*(b:Rat)*(a:Rat))*((D:Rat)*(d:Rat)*(b:Rat)*(a:Rat))
def fvU(D n d:Int)(g h:Zl9)(t:Rat):Rat:=fvE D n d g.1.2.2 h.1.2.2 g.2.1 g.2.2.1 g.2.2.2 h.2.1 h.2.2.1 h.2.2.2 t
def gZ(o:Int)(l:List Int):Nat->Int
 | 0=>o
 | i+1=>(Int.gcd (gZ o l i) (cf l i):Int)
def plC(a d:Int)(x y z:List Int)(t:Nat):Int:=pl (Yg t x y z) a d
def lowL(o:Int)(l:List Int):List Int:=mk 3 λt=>cf l t/gZ o l 3
def lastB(ps:List Zl)(t:Int):Bool:=decide (spF ps<=t) && decide (t<=spL ps)
def exI(ps:List Zl)(t:Int):Nat:=ps.findIdx λg=>decide (t<=g.1.2.1)
def exA(ps:List Zl)(t:Int):Int:=t-(ps.getD (exI ps t) G0).1.1
def exD(ps:List Zl)(t:Int):Int:=(ps.getD (exI ps t) G0).1.2.1-(ps.getD (exI ps t) G0).1.1
def exO(ps:List Zl)(t:Int):Int:=(ps.getD (exI ps t) G0).1.2.2*exD ps t^5/gS (ps.getD (exI ps t) G0).1.2.2 (exA ps t) (exD ps t) (ps.getD (exI ps t) G0).2.1.2 (ps.getD (exI ps t) G0).2.2.1.2 (ps.getD (exI ps t) G0).2.2.2.2 3
def exL(ps:List Zl)(t:Int):List Int:=lowL ((ps.getD (exI ps t) G0).1.2.2*exD ps t^5) (mk 3 (plC (exA ps t) (exD ps t) (ps.getD (exI ps t) G0).2.1.2 (ps.getD (exI ps t) G0).2.2.1.2 (ps.getD (exI ps t) G0).2.2.2.2))
section
variable {P:Program} {N:Nat} {sc:Nat->Prop} {env:Xu} {H:Hp}
end
end Go.Sky
namespace Go.Sky
def exC(ps:List Zl)(t:Int)(c:List Int):Int:=pl c (exA ps t) (exD ps t)/gS (ps.getD (exI ps t) G0).1.2.2 (exA ps t) (exD ps t) (ps.getD (exI ps t) G0).2.1.2 (ps.getD (exI ps t) G0).2.2.1.2 (ps.getD (exI ps t) G0).2.2.2.2 3
open Go.Proofs.Tryz
open Go.Proofs
set_option synthInstance.maxHeartbeats 0
set_option synthInstance.maxSize 100000
set_option maxRecDepth 20000
set_option linter.unusedSimpArgs false
def spX(g:Zl)(i:Nat)(s:Rat):Rat:=Zb (Yg i g.2.1.2 g.2.2.1.2 g.2.2.2.2) s
end Go.Sky

