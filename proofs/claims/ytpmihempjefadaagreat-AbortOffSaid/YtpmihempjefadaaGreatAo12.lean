/- Rules, arithmetic and contracts: part 13. No conditions but those that each theorem names. -/
import Derived.Test.YtpmihempjefadaaGreatAo11
set_option linter.all false
namespace Go.Sky
open Go.RowKit Below
variable {P:Program} {N:Nat} {sc:Nat->Prop} {env env':Qi} {H H':Hp} {Q Q':Exit->Act->World->Prop} {M:Nat->Prop}
def emp:Pc:=⟨false,λ_=>False,λ_=>True,λ_ _ _ h=>h.elim,λ_ _ _ _=>trivial⟩
def l3(z:Ze)(i:Nat):SL×List Int:=Ye i z.2.1 z.2.2.1 z.2.2.2
abbrev olz (e:TypeId) (p:SL×List Int):Pc:=On 1 e Xf (Xp p.1) p.2
def ol3(e:TypeId)(zs:List Ze):Pc:=
 {own:=true
  fp:=λb=>∃k i,k<zs.length/\i<3/\(olz e (l3 (zs.getD k G0) i)).fp b
  holds:=λw=>(∀k i,k<zs.length->i<3->(olz e (l3 (zs.getD k G0) i)).holds w)/\∀k i m j b,k<zs.length->i<3->m<zs.length->j<3->(olz e (l3 (zs.getD k G0) i)).fp b->(olz e (l3 (zs.getD m G0) j)).fp b->k=m/\i=j
  lt:=λw b h ⟨k,i,c,hi,d⟩=>(olz e _).lt w b (h.1 k i c hi) d
  stable:=λw n h a=>⟨λk i c hi=>(olz e _).stable w n (h.1 k i c hi) ⟨a.os,a.tape,a.output,a.size,λb d g=>a.block b d (λf=>g (λl=>f ⟨k,i,c,hi,l⟩))⟩,h.2⟩ }
def opa(e s:TypeId)(v:Value)(zs:List Ze):Pc:=
 {own:=true
  fp:=λb=>v.ownBlock=some b\/(ol3 e zs).fp b
  holds:=λw=>(On 6 s Of v zs).holds w/\(ol3 e zs).holds w/\∀b,v.ownBlock=some b->(ol3 e zs).fp b->False
  lt:=λw b h c=>c.elim (λc=>(On 6 s Of v zs).lt w b h.1 c) (λc=>(ol3 e zs).lt w b h.2.1 c)
  stable:=λw i h a=>⟨(On 6 s Of v zs).stable w i h.1 ⟨a.os,a.tape,a.output,a.size,λb c f=>a.block b c (λd=>f (λg=>d (.inl g)))⟩,(ol3 e zs).stable w i h.2.1 ⟨a.os,a.tape,a.output,a.size,λb c f=>a.block b c (λd=>f (λg=>d (.inr g)))⟩,h.2.2⟩ }
def Sat.drop{a:Act}{w:World}(h:Sat N sc env H a w)(j:Nat):Sat N sc env ((j,emp)::H) a w:=
 h.add j emp aA (λ_ _ _ _ _ _ b=>b.elim) (λ_ b=>b.elim)
def stL(z:Ze)(i j:Nat)(u:Int):Ze:=(z.1,if i=0 then(z.2.1.1,z.2.1.2.set j u)else z.2.1,if i=1 then(z.2.2.1.1,z.2.2.1.2.set j u)else z.2.2.1,if i=2 then(z.2.2.2.1,z.2.2.2.2.set j u)else z.2.2.2)
end Go.Sky
namespace Go.Sky
abbrev S3T:=SL×SL×SL
abbrev GvT:=(S3T×S3T×S3T)×(SL×SL×SL)
def gvs(q:GvT):List PT:=[(q.2.1,[gv0 q.1.1]),(q.2.2.1,[gv1 q.1.2.1]),(q.2.2.2,[gv2 q.1.2.2])]
def NrL(a b:List Ze)(lo hi:Int):Prop:=0<=lo/\lo<=hi/\hi<=4194304/\(∀k,1<=k->k<=lo->apZ k 1 1 a b=true)/\∀k,hi<k->k<=4194304->apZ k 1 1 a b=false
section
variable {a b:List Ze} (hpa:∀g∈a,Gin g) (hpb:∀g∈b,Gin g) (hba:Xn a=true) (hbb:Xn b=true)
include hpa hpb hba hbb
end
end Go.Sky
namespace Go.Sky
def sR(g:Ze)(t:Rat):Rat:=(t-(g.1.1:Rat))/((g.1.2.1-g.1.1:Int):Rat)
def InG(g:Ze)(t:Rat):Prop:=(g.1.1:Rat)<=t/\t<=(g.1.2.1:Rat)
def pzQ(g:Ze)(i:Nat)(s:Rat):Rat:=spX g i s/(g.1.2.2:Rat)
def dQ(g h:Ze)(s u:Rat):Rat:=(pzQ g 0 s-pzQ h 0 u)*(pzQ g 0 s-pzQ h 0 u)+(pzQ g 1 s-pzQ h 1 u)*(pzQ g 1 s-pzQ h 1 u)+(pzQ g 2 s-pzQ h 2 u)*(pzQ g 2 s-pzQ h 2 u)
structure Pcs (a b:List Ze) (n:Nat) (T:Nat->Int) (ua ub:Nat->Zht) (ja jb:Nat->Nat):Prop where
 n1:1<=n
 t0:T 0=cmF a b
 tn:T n=cmL a b
 lt:∀k,k<n->T k<T (k+1)/\cmF a b<=T k/\T (k+1)<=cmL a b
 la:∀k,k<n->ja k<a.length/\(a.getD (ja k) G0).1.1<=T k/\T (k+1)<=(a.getD (ja k) G0).1.2.1
 lb:∀k,k<n->jb k<b.length/\(b.getD (jb k) G0).1.1<=T k/\T (k+1)<=(b.getD (jb k) G0).1.2.1
 pa:∀k,k<n->SgG (mkS (ua k))/\(∃G,Prt (mkS (ua k)) (a.getD (ja k) G0) G)/\(ua k).1.1=T k/\(ua k).1.2.1=T (k+1)
 pb:∀k,k<n->SgG (mkS (ub k))/\(∃G,Prt (mkS (ub k)) (b.getD (jb k) G0) G)/\(ub k).1.1=T k/\(ub k).1.2.1=T (k+1)
 ra:Iu a b a=(List.range n).map ua
 rb:Iu a b b=(List.range n).map ub
section
variable {a b:List Ze} (hpa:∀g∈a,Gin g) (hpb:∀g∈b,Gin g) (hba:Xn a=true) (hbb:Xn b=true)
include hpa hpb hba hbb
end
end Go.Sky
namespace Go.Sky
section
variable {P:Program} {N:Nat} {sc:Nat->Prop} {env:Qi} {H:Hp} {M:Nat->Prop}
end
abbrev V3T:=Int×Int×Int
def adL(c:List Int)(d:Int):List Int:=c.set 0 (c.getD 0 0+d)
def mvG(v:V3T)(g:Ze):Ze:=(g.1,(g.2.1.1,adL g.2.1.2 (v.1*g.1.2.2)),(g.2.2.1.1,adL g.2.2.1.2 (v.2.1*g.1.2.2)),(g.2.2.2.1,adL g.2.2.2.2 (v.2.2*g.1.2.2)))
def mv1(v:V3T)(g:Ze):Ze:=(g.1,(g.2.1.1,adL g.2.1.2 (v.1*g.1.2.2)),g.2.2.1,g.2.2.2)
def mv2(v:V3T)(g:Ze):Ze:=(g.1,(g.2.1.1,adL g.2.1.2 (v.1*g.1.2.2)),(g.2.2.1.1,adL g.2.2.1.2 (v.2.1*g.1.2.2)),g.2.2.2)
def mvK(v:V3T)(ps:List Ze)(k:Nat):List Ze:=(ps.take k).map (mvG v) ++ ps.drop k
def vcB(x y z:Int):Bool:=Zmc 16777216 [x,y,z]
structure MvX (v:V3T) (g:Ze):Prop where
 x:Mw (v.1*g.1.2.2)/\Mw (g.2.1.2.getD 0 0+v.1*g.1.2.2)
 y:Mw (v.2.1*g.1.2.2)/\Mw (g.2.2.1.2.getD 0 0+v.2.1*g.1.2.2)
 z:Mw (v.2.2*g.1.2.2)/\Mw (g.2.2.2.2.getD 0 0+v.2.2*g.1.2.2)
 lx:0<g.2.1.2.length
 ly:0<g.2.2.1.2.length
 lz:0<g.2.2.2.2.length
end Go.Sky
namespace Go.Sky
structure Mvd (y:Int) (v:Nat->Rat) (a c:List Ze):Prop where
 len:c.length=a.length
 t1:∀k,k<a.length->(c.getD k G0).1.1=(a.getD k G0).1.1+y
 t2:∀k,k<a.length->(c.getD k G0).1.2.1=(a.getD k G0).1.2.1+y
 ck:∀k,k<a.length->∀fr to,Lj fr to (a.getD k G0)=true->Zgk (fr+y) (to+y) (c.getD k G0)=Zgk fr to (a.getD k G0)
 pl:∀k,k<a.length->∀(t:Rat) i,i<3->pzQ (c.getD k G0) i (sR (c.getD k G0) (t+(y:Rat)))=pzQ (a.getD k G0) i (sR (a.getD k G0) t)+v i
section
variable {y:Int} {v w:Nat->Rat} {a b c d:List Ze}
def Mvd.F(h:Mvd y v a c)(e:0<a.length):spF c=spF a+y:=h.t1 0 e
theorem Mvd.L(h:Mvd y v a c)(e:0<a.length):spL c=spL a+y:=by unfold spL;rw [h.len];exact h.t2 _ O
variable (hpa:∀g∈a,Gin g) (hpb:∀g∈b,Gin g) (hba:Xn a=true) (hbb:Xn b=true) (hpc:∀g∈c,Gin g) (hpd:∀g∈d,Gin g) (hbc:Xn c=true) (hbd:Xn d=true)
include hpa hpb hba hbb hpc hpd hbc hbd
end
end Go.Sky
namespace Go.Sky
variable{a:List Ze}{k m:Nat}{d:Int}{r:Rat}
theorem Yla(c:∀g∈a,Gin g)(b:Xn a=true)(f:k<a.length):spF a<=(a.getD k G0).1.1/\(a.getD k G0).1.2.1<=spL a:=by
 refine⟨?_,Zxd c b (k:=k) (m:=a.length-1) O O⟩;rcases aV k with e|e
 .subst e;exact fE _
 .obtain⟨m,rfl⟩:∃m,k=m+1:=⟨k-1,O⟩;have:=Yhc b f;have:=Zxd c b (k:=0) (m:=m) O O;have:=(Ig (c _ (Zi (d:=G0) (show 0<a.length by omega))) (Cv ((Oi b).1 _ (show 0<a.length by omega)))).t2;unfold spF;omega
structure QOK (n d:Int) (r:Rat) (m:Nat):Prop where
 p:0<d
 v:(n:Rat)=r*(d:Rat)
 a:bl n.natAbs<=m
 b:bl d.natAbs<=m
theorem QOK.ne{n:Int}(h:QOK n d r m):d≠0:=by have:=h.p;omega
def QOK.mono{n:Int}(h:QOK n d r m)(b:m<=k):QOK n d r k:=⟨h.p,h.v,aB h.a b,aB h.b b⟩
def QOK.cg{n:Int}{s:Rat}(h:QOK n d r m)(e:r=s):QOK n d s m:=e▸h
def sq3(f:Nat->Rat):Nat->Rat
 | 0=>0
 | k+1=>sq3 f k+f k*f k
abbrev QzT:=(Int×SL)×(Int×SL)
abbrev encq (z:QzT):Value:= .agg #[.bool (decide (z.1.1<0)),Xp z.1.2,.bool (decide (z.2.1<0)),Xp z.2.2]
abbrev qq (z:QzT):Pc:=Hf qI [z.1,z.2]
abbrev QZ0:QzT:=((0,none,0,0),(1,none,0,0))
def PlQ(g:Ze)(t:Rat)(zs:List QzT)(k:Nat):Prop:=zs.length=k/\∀i,i<k->QOK (zs.getD i QZ0).1.1 (zs.getD i QZ0).2.1 (pzQ g i (sR g t)) 28000
def Plc(ps:List Ze)(t:Rat)(zs:List QzT):Prop:=∃j,j<ps.length/\InG (ps.getD j G0) t/\PlQ (ps.getD j G0) t zs 3
def ClsI(a b:List Ze)(D:Int)(t:Rat)(c:Bool):Prop:=∃j k,j<a.length/\k<b.length/\InG (a.getD j G0) t/\InG (b.getD k G0) t/\(c=true↔dQ (a.getD j G0) (b.getD k G0) (sR (a.getD j G0) t) (sR (b.getD k G0) t)<(D:Rat)*(D:Rat))
section
variable {P:Program} {N:Nat} {sc:Nat->Prop} {env:Qi} {H:Hp}
end
def MvR(ps:List Ze)(v:V3T)(zs:List Ze)(e:Int):Prop:=e=2\/e=3\/e=0/\Xn zs=true/\(∀g∈zs,Gin g)/\zs.map Ds=(ps.map (mvG v)).map Ds
end Go.Sky
namespace Go.Sky
open Go Go.MapKept
variable{b k a ax ay az bx b2 bz:Int}{es:List (Int×Value)}{v1 v2:Value}
variable {P:Program} {N:Nat} {sc:Nat->Prop} {env env':Qi} {H H':Hp} {Q Q':Exit->Act->World->Prop} {M:Nat->Prop}
def mro(b:Nat)(es:List (Int×Value)):Pc:={ mpi b es with own:=false }
theorem s_pubm{b:Nat}(i:Nat)(hi:lk H i=some (mpi b es))(g:Nat.beq i 0=false):∀a w,Sat N sc env H a w->Sat N sc env ((i,mro b es)::H) a w:=λa w hs=>by
 have h:i≠0:=λe=>by subst e;cases g
 exact hs.add i (mro b es) (show(mpi b es).holds w from hs.hold i _ hi) (λj n l m _ c d f=>hs.sep i j _ n (λe=>l e.symm) hi m rfl c d f) (λc d=>hs.scope i _ h hi c d)
theorem d_mlr {o:Oper} {t kt f:TypeId} {x y:Operand} {i b:Nat}   {r:Value} {j:Nat} (q:o.op= .lookup t x y false)
  (s:ev env x=some (.map (some b))) (u:ev env y=some (.int .i64 k)) (g:lk H i=some (mro b es)) (p:P.underlying t=some (.map kt f)) (e:P.underlying kt=some (.int .i64))
  (m:mfi es k 0=some (j,r)):Ms P N sc o env H r:=λa w hs=>by
 obtain⟨c,n,h,l⟩:∃c n,w.heap[b]? = some (.map c n)/\mpe c es:=hs.hold i _ g;have d:=fn_i k _ _ 0 l;rw [m]at d;simp [execOp,q,hs.ev s,hs.ev u,Instr.lookup,run_underlying p,Go.MapKept.run_getObj_map h,run_checkKey e (show IsKey (.int .i64) (.int .i64 k)from rfl),run_findKey e d]
def rwK(k:Int):List Int:=if k=0 then []else if k=1 then [1]else Zy3
def row3(k:Int)(v1 v2:Value):Value:=if k=0 then .slice none 0 0 else if k=1 then v1 else v2
theorem mf_row(c:k=0\/k=1\/k=2):mfi [(0,.slice none 0 0),(1,v1),(2,v2)] k 0=some (k.toNat,row3 k v1 v2):=by rcases c with rfl|rfl|rfl<;>rfl
theorem s_row(l:k=0\/k=1\/k=2)(f i2 j:Nat)(g:lk H f=some (Yt 1 Xf v1 [1]))(i:lk H i2=some (Yt 1 Xf v2 Zy3))(d:Nat.beq f 0=false)(e:Nat.beq i2 0=false) :
  ∀a w,Sat N sc env H a w->Sat N sc env ((j,Yt 1 Xf (row3 k v1 v2) (rwK k))::H) a w:=λa w hs=>by
 rcases l with rfl|rfl|rfl
 .exact hs.add j (Yt 1 Xf (.slice none 0 0) []) (Bg 1 Xf w) (λ_ _ _ _ _ b c _=>absurd rfl c.1) (λb c=>absurd rfl c.1)
 .exact Zcf f j g d rfl (λw h=>h) (λb c=>c) rfl a w hs
 .exact Zcf i2 j i e rfl (λw h=>h) (λb c=>c) rfl a w hs
theorem Zxt : ∀f∈rwK k,-15<=f/\f<=15:=by
 unfold rwK;split
 .intro f c;cases c
 .split
  .intro f c;rw [bZ.1 c];decide
  .decide
theorem trm_s{c:List Int}{k:Nat}(d:k<c.length):(a::((c.take (k+1)).map λf=>f*(b-a)))=(a::((c.take k).map λf=>f*(b-a))) ++ [c.getD k 0*(b-a)]:=by rw [Ps 0 _ _ d,eE];rfl
theorem trm_e (c:List Int)(h:a=b):Zak a b c=[a]:=by unfold Zak;rw [aF h]
theorem trm_n{c:List Int}{k:Nat}(h:a≠b)(d:c.length<=k):Zak a b c=a::((c.take k).map λf=>f*(b-a)):=by unfold Zak;rw [aD h,cC d]
abbrev numV (p:Nat):Value:= .agg #[.int .u64 ((p/U:Nat):Int),.int .u64 ((p%U:Nat):Int)]
def prN(l:List Nat):Nat:=l.foldl (· * ·) 1
def leL:List Nat->List Nat->Prop
 | [],[]=>True
 | x::xs,y::ys=>x<=y/\leL xs ys
 | _,_=>False
def kpQ(q s t:Nat):Bool:=!decide (prN [64,s,s,t,t]<q)
def kqQ(q a t:Nat):Bool:=!decide (prN [3,a,a,t,t,t,t]<q)
def keepsB(d s a t:Nat):Bool:=kpQ (prN [225,d,1000000]) s t && kqQ (prN [100,d,1000000,1000000]) a t
theorem Zsh (a:Int)(b:Int)(g:-33554432<=a/\a<=33554432)(h:-33554432<=b/\b<=33554432):-1125899906842624<=a*b/\a*b<=1125899906842624:=by have c:=dS (show 0<=33554432-a by omega) (show 0<=33554432-b by omega);have d:=dS (show 0<=33554432+a by omega) (show 0<=33554432+b by omega);have e:=dS (show 0<=33554432-a by omega) (show 0<=33554432+b by omega);have f:=dS (show 0<=33554432+a by omega) (show 0<=33554432-b by omega);simp only [Int.sub_mul,oJ,lT,kM]at c d e f;constructor<;>omega
def Zex(ax ay az bx b2 bz fr c:Int):Bool:=ptB ax ay az && (ptB bx b2 bz && decide (0<=fr/\fr<c/\c<=3600000))
theorem Zs1{fr d:Int}(c:ptB ax ay az=false):Zex ax ay az bx b2 bz fr d=false:=by unfold Zex;rw [c];rfl
theorem Zs0{fr d:Int}(c:ptB bx b2 bz=false):Zex ax ay az bx b2 bz fr d=false:=by unfold Zex;rw [c,kF,dH]
theorem Zsz{fr c:Int}(h:¬(0<=fr/\fr<c/\c<=3600000)):Zex ax ay az bx b2 bz fr c=false:=by unfold Zex;rw [aK h,dH,dH]
theorem Yme{fr c:Int}(h:Zex ax ay az bx b2 bz fr c=true):ptB ax ay az=true/\ptB bx b2 bz=true/\0<=fr/\fr<c/\c<=3600000:=by unfold Zex at h;simp only [aQ,cT]at h;exact⟨h.1,h.2.1,h.2.2⟩
def glG(ax ay az bx b2 bz fr c k:Int)(r:SL×SL×SL):Ze:=((fr,c,1),(r.1,Zak ax bx (rwK k)),(r.2.1,Zak ay b2 (rwK k)),(r.2.2,Zak az bz (rwK k)))
theorem Zu5 : (rwK k).length<=5:=by unfold rwK;split;decide;split<;>decide
theorem Znc{fr c:Int}(d:ptB ax ay az=true)(e:ptB bx b2 bz=true)(f:0<=fr)(g:fr<c):Zex ax ay az bx b2 bz fr c=decide (c<=3600000):=by unfold Zex;rw [d,e,fJ,fJ];exact cF.2 ⟨λh=>h.2.2,λh=>⟨f,g,h⟩⟩
def tmB(ax ay az bx b2 bz d c:Int):Bool:=ptB ax ay az && (ptB bx b2 bz && decide ((1<=d/\d<=10000)/\(1<=c/\c<=10000)))
theorem and_f{a b:Bool}(h:(a && b)=false):a=false\/(a=true/\b=false):=by cases a<;>simp_all
theorem Ycy{x y z:Int}(h:ptB x y z=true):vcB x y z=true:=by obtain⟨c,d,e⟩:=Zan h;unfold vcB Zmc;simp;omega
@[reducible,instance] def roiM {b:Nat} {es:List (Int×Value)} : RoI (mro b es):=⟨rfl⟩
end Go.Sky
namespace Go.Sky
variable{m:Nat}{z:Int}
abbrev Yj:=Int×Int×Int
abbrev Xa (p:Yj):Value:= .agg #[.int .i64 p.1,.int .i64 p.2.1,.int .i64 p.2.2]
abbrev Yr:Yj:=(0,0,0)
abbrev Lq (p:Yj):Bool:=ptB p.1 p.2.1 p.2.2
def sgI(n:Int):Int:=if n<0 then -1 else if n>0 then 1 else 0
theorem sgI_n{n:Int}(h:n<0):sgI n=-1:=by unfold sgI;rw [aF h]
theorem sgI_p{n:Int}(h:n>0):sgI n=1:=by unfold sgI;rw [aD O,aF h]
theorem sgI_0{n:Int}(h:¬n<0)(a:¬n>0):sgI n=0:=by unfold sgI;rw [aD h,aD a]
theorem Zro(n:Int):-1<=sgI n/\sgI n<=1:=by unfold sgI;split;omega;split<;>omega
def crs2(a b c:Yj):Int:=(b.1-a.1)*(c.2.1-a.2.1)-(b.2.1-a.2.1)*(c.1-a.1)
def trn(a b c:Yj):Int:=sgI (crs2 a b c)
def Zmn(a b c:Yj):-1<=trn a b c/\trn a b c<=1:=Zro _
def Ai(a b p:Yj):Bool:=decide (trn a b p=0) && (decide (p.1>=min a.1 b.1) && (decide (p.1<=max a.1 b.1) && (decide (p.2.1>=min a.2.1 b.2.1) && decide (p.2.1<=max a.2.1 b.2.1))))
def mtB(a b c d:Yj):Bool:=decide (trn a b c*trn a b d<0) && decide (trn c d a*trn c d b<0)
def Zha(a b c d:Yj):Bool:=Ai a b c || (Ai a b d || (Ai c d a || (Ai c d b || mtB a b c d)))
theorem Zl0{x y:Int}(a:-1<=x/\x<=1)(b:-1<=y/\y<=1):-1<=x*y/\x*y<=1:=by have:x=-1\/x=0\/x=1:=O;rcases this with rfl|rfl|rfl<;>omega
def flt(p:Yj):Yj:=(p.1,p.2.1,0)
def edg(l:List Yj)(i:Nat):Yj×Yj:=(flt (l.getD i Yr),flt (l.getD ((i+1)%l.length) Yr))
def Pw(l:List Yj):List (Yj×Yj):=(List.range l.length).map (edg l)
theorem Di(l:List Yj):(Pw l).length=l.length:=by simp [Pw]
theorem Zte{l:List Yj}{i:Nat}(h:i<l.length):(Pw l)[i]? = some (edg l i):=by simp [Pw,h]
def okE(l:List Yj)(i:Nat):Bool:=!(decide ((l.getD i Yr).1=(l.getD ((i+1)%l.length) Yr).1) && decide ((l.getD i Yr).2.1=(l.getD ((i+1)%l.length) Yr).2.1))
def Zf9(l:List Yj)(i k:Nat):Bool:=
 if k=i+1/\2<l.length then !Ai (l.getD i Yr) (l.getD ((i+1)%l.length) Yr) (l.getD ((k+1)%l.length) Yr) && !Ai (l.getD k Yr) (l.getD ((k+1)%l.length) Yr) (l.getD i Yr)
 else if(k+1)%l.length=i then !Ai (l.getD i Yr) (l.getD ((i+1)%l.length) Yr) (l.getD k Yr) && !Ai (l.getD k Yr) (l.getD ((k+1)%l.length) Yr) (l.getD ((i+1)%l.length) Yr)
 else !Zha (l.getD i Yr) (l.getD ((i+1)%l.length) Yr) (l.getD k Yr) (l.getD ((k+1)%l.length) Yr)
def Zj6(l:List Yj)(i:Nat):Bool:=okE l i && (List.range l.length).all λk=>decide (k<=i) || Zf9 l i k
def Kz(l:List Yj):Bool:=decide (3<=l.length/\l.length<=64) && (l.all Lq && (List.range l.length).all (Zj6 l))
theorem Zxi{l:List Yj}(h:Kz l=true):(3<=l.length/\l.length<=64)/\∀p∈l,Lq p=true:=by unfold Kz at h;simp only [aQ,cT]at h;exact⟨h.1,bF.1 h.2.1⟩
theorem Ydp{l:List Yj}(h:¬(3<=l.length/\l.length<=64)):Kz l=false:=by unfold Kz;rw [aK h];rfl
theorem Ydo{l:List Yj}(h:l.all Lq=false):Kz l=false:=by unfold Kz;rw [h,kF,dH]
theorem Qc{l:List Yj}{i:Nat}(hi:i<l.length)(h:Zj6 l i=false):Kz l=false:=by unfold Kz;have:(List.range l.length).all (Zj6 l)=false:=eT.2 ⟨i,dA.2 hi,by rw [h];decide⟩;rw [this,dH,dH]
theorem row_o{l:List Yj}{i:Nat}(h:okE l i=false):Zj6 l i=false:=by unfold Zj6;rw [h];rfl
theorem Qg (k:Nat){l:List Yj}{i:Nat}(b:i<k)(a:k<l.length)(h:Zf9 l i k=false):Zj6 l i=false:=by unfold Zj6;have:((List.range l.length).all λk=>decide (k<=i) || Zf9 l i k)=false:=eT.2 ⟨k,dA.2 a,by rw [h,aK O];decide⟩;rw [this,dH]
theorem Zxw{l:List Yj}{i:Nat}(d:l.length<=m)(h:okE l i=true)(a:∀k,i<k->k<m->Zf9 l i k=true):Zj6 l i=true:=by
 unfold Zj6;rw [h,fJ,bF];intro k c;have:=dA.1 c;by_cases b:k<=i
 .rw [aJ b];rfl
 .rw [a k O O,oG]
theorem smp_t{l:List Yj}(d:l.length<=m)(h:3<=l.length/\l.length<=64)(c:l.all Lq=true)(a:∀i,i<m->Zj6 l i=true):Kz l=true:=by unfold Kz;rw [aJ h,c,fJ,fJ,bF];intro k b;exact a k (by have:=dA.1 b;omega)
def Zf{l:List Yj}(h:l.all Lq=true){i:Nat}(hi:i<l.length):Lq (l.getD i Yr)=true:=bF.1 h _ (Zi hi)
def Yc{i n:Nat}(h:i<n):(i+1)%n<n:=bO _ O
theorem Hd{l:List Yj}{i k:Nat}(h:k=i+1/\2<l.length):Zf9 l i k=(!Ai (l.getD i Yr) (l.getD ((i+1)%l.length) Yr) (l.getD ((k+1)%l.length) Yr) && !Ai (l.getD k Yr) (l.getD ((k+1)%l.length) Yr) (l.getD i Yr)):=by unfold Zf9;rw [aF h]
theorem Pm{l:List Yj}{i k:Nat}(h:¬(k=i+1/\2<l.length))(a:(k+1)%l.length=i):Zf9 l i k=(!Ai (l.getD i Yr) (l.getD ((i+1)%l.length) Yr) (l.getD k Yr) && !Ai (l.getD k Yr) (l.getD ((k+1)%l.length) Yr) (l.getD ((i+1)%l.length) Yr)):=by unfold Zf9;rw [aD h,aF a]
theorem Lc{l:List Yj}{i k:Nat}(h:¬(k=i+1/\2<l.length))(a:¬(k+1)%l.length=i):Zf9 l i k=!Zha (l.getD i Yr) (l.getD ((i+1)%l.length) Yr) (l.getD k Yr) (l.getD ((k+1)%l.length) Yr):=by unfold Zf9;rw [aD h,aD a]
def lcE(p:Yj)(e:Yj×Yj):Bool:=decide (trn e.1 e.2 p=0) && (decide (sgI (e.1.1-p.1)*sgI (e.2.1-p.1)<=0) && decide (sgI (e.1.2.1-p.2.1)*sgI (e.2.2.1-p.2.1)<=0))
def lcD(p:Yj)(e:Yj×Yj):Int:=
 if sgI (e.1.2.1-p.2.1)<=0/\sgI (e.2.2.1-p.2.1)>0/\trn e.1 e.2 p>0 then 1 else if sgI (e.1.2.1-p.2.1)>0/\sgI (e.2.2.1-p.2.1)<=0/\trn e.1 e.2 p<0 then -1 else 0
theorem lcD_b(p:Yj)(e:Yj×Yj):-1<=lcD p e/\lcD p e<=1:=by unfold lcD;split;omega;split<;>omega
def lcW(p:Yj)(a:List (Yj×Yj)):Int:=(a.map (lcD p)).foldl (· + ·) 0
theorem lcW_s{p:Yj}{a:List (Yj×Yj)}{k:Nat}{e:Yj×Yj}(h:a[k]? = some e):lcW p (a.take (k+1))=lcW p (a.take k)+lcD p e:=by unfold lcW;rw [jA,h,nT,eE,kC];rfl
theorem lcW_b(p:Yj):∀(a:List (Yj×Yj)) (k:Nat),-(k:Int)<=lcW p (a.take k)/\lcW p (a.take k)<=k
 | a,0=>by simp [lcW]
 | a,k+1=>by
  have b:=lcW_b p a k;cases h:a[k]? with
  | none=>
   have:a.take (k+1)=a.take k:=by rw [jA,h];simp
   rw [this];omega
  | some e=>rw [lcW_s h];have:=lcD_b p e;omega
def atL(l:List Yj)(p:Yj):Int:=if(Pw l).any (lcE p)=true then 0 else if lcW p (Pw l)≠0 then 1 else -1
theorem atL_e{l:List Yj}{p:Yj}{k:Nat}{e:Yj×Yj}(h:(Pw l)[k]? = some e)(a:lcE p e=true):atL l p=0:=by unfold atL;rw [aF (jI.2 ⟨e,dU h,a⟩)]
theorem atL_n{l:List Yj}{p:Yj}(g:l.length<=m)(h:∀k e,k<m->(Pw l)[k]? = some e->lcE p e=false):atL l p=if lcW p ((Pw l).take m)≠0 then 1 else -1:=by
 unfold atL;have:¬(Pw l).any (lcE p)=true:=λc=>by obtain⟨e,d,a⟩:=jI.1 c;obtain⟨k,b⟩:=fI.1 d;have f:=(cI.1 b).1;rw [Di]at f;rw [h k e O b]at a;cases a
 rw [aD this,cC (by rw [Di];exact g)]
theorem Ye9{a b c:Yj}(h:¬trn a b c=0):Ai a b c=false:=by unfold Ai;rw [aK h];rfl
theorem Ye8{a b c:Yj}(h:¬c.1>=min a.1 b.1):Ai a b c=false:=by unfold Ai;rw [aK h];simp
theorem Ye7{a b c:Yj}(h:¬c.1<=max a.1 b.1):Ai a b c=false:=by unfold Ai;rw [aK h];simp
theorem Ye6{a b c:Yj}(h:¬c.2.1>=min a.2.1 b.2.1):Ai a b c=false:=by unfold Ai;rw [aK h];simp
theorem Ye5{a b c:Yj}(d:trn a b c=0)(e:c.1>=min a.1 b.1)(f:c.1<=max a.1 b.1)(g:c.2.1>=min a.2.1 b.2.1):Ai a b c=decide (c.2.1<=max a.2.1 b.2.1):=by unfold Ai;rw [aJ d,aJ e,aJ f,aJ g];rfl
theorem Ybj(a b c d:Yj):Ai a b c=true\/(Ai a b c=false/\Ai a b d=true)\/(Ai a b c=false/\Ai a b d=false/\Ai c d a=true)\/(Ai a b c=false/\Ai a b d=false/\Ai c d a=false/\Ai c d b=true)\/
  (Ai a b c=false/\Ai a b d=false/\Ai c d a=false/\Ai c d b=false/\trn a b c*trn a b d<0)\/(Ai a b c=false/\Ai a b d=false/\Ai c d a=false/\Ai c d b=false/\¬trn a b c*trn a b d<0):=by
 cases Ai a b c<;>cases Ai a b d<;>cases Ai c d a<;>cases Ai c d b<;>simp<;>omega
theorem al_f{l:List Yj}{i:Nat}(hi:i<l.length)(h:Lq (l.getD i Yr)=false):l.all Lq=false:=eT.2 ⟨_,Zi hi,by rw [h];exact bD⟩
theorem al_t{l:List Yj}(h:∀j,j<l.length->Lq (l.getD j Yr)=true):l.all Lq=true:=bF.2 λx b=>by obtain⟨j,a,rfl⟩:=eD.1 b;have:=h j a;rwa [aE,aM a]at this
theorem Nh(i n:Nat):((i:Int)+1)%(n:Int)=(((i+1)%n:Nat):Int):=by rw [Int.natCast_emod];rfl
theorem Ygu{p:Yj}(h:Lq p=true):Lq (flt p)=true:=by obtain⟨a,b,c⟩:=Zan h;show ptB p.1 p.2.1 0=true;unfold ptB Zmc;simp;omega
theorem Zli{l:List Yj}(b:l.all Lq=true){k:Nat}{e:Yj×Yj}(h:(Pw l)[k]? = some e):Lq e.1=true/\Lq e.2=true:=by have a:=(cI.1 h).1;rw [Di]at a;rw [Zte a]at h;obtain rfl:edg l k=e:=Option.some.inj h;exact⟨Ygu (Zf b a),Ygu (Zf b (Yc a))⟩
theorem Zv4{l:List Yj}(j:l.all Lq=true){k:Nat}{e:Yj×Yj}(h:(Pw l)[k]? = some e):((-1048576<=e.1.1/\e.1.1<=1048576)/\(-1048576<=e.1.2.1/\e.1.2.1<=1048576))/\((-1048576<=e.2.1/\e.2.1<=1048576)/\(-1048576<=e.2.2.1/\e.2.2.1<=1048576))/\k<l.length:=by obtain⟨g,i⟩:=Zli j h;obtain⟨b,c,-⟩:=Zan g;obtain⟨d,f,-⟩:=Zan i;have a:=(cI.1 h).1;rw [Di]at a;exact⟨⟨b,c⟩,⟨d,f⟩,a⟩
def arD(e:Yj×Yj):Int:=e.1.1*e.2.2.1-e.1.2.1*e.2.1
def ar2(a:List (Yj×Yj)):Int:=(a.map arD).foldl (· + ·) 0
theorem ar2_s{a:List (Yj×Yj)}{k:Nat}{e:Yj×Yj}(h:a[k]? = some e):ar2 (a.take (k+1))=ar2 (a.take k)+arD e:=by unfold ar2;rw [jA,h,nT,eE,kC];rfl
theorem arD_b{l:List Yj}(a:l.all Lq=true){k:Nat}{e:Yj×Yj}(h:(Pw l)[k]? = some e):-2251799813685248<=arD e/\arD e<=2251799813685248:=by obtain⟨⟨b,c⟩,⟨d,f⟩,-⟩:=Zv4 a h;have g:=Zsh e.1.1 e.2.2.1 ⟨O,O⟩ ⟨O,O⟩;have i:=Zsh e.1.2.1 e.2.1 ⟨O,O⟩ ⟨O,O⟩;unfold arD;omega
theorem ar2_b{l:List Yj}(a:l.all Lq=true):∀k:Nat,-(2251799813685248*(k:Int))<=ar2 ((Pw l).take k)/\ar2 ((Pw l).take k)<=2251799813685248*(k:Int)
 | 0=>by simp [ar2]
 | k+1=>by
  have b:=ar2_b a k;cases h:(Pw l)[k]? with
  | none=>
   have:(Pw l).take (k+1)=(Pw l).take k:=by rw [jA,h];simp
   rw [this];omega
  | some e=>rw [ar2_s h];have:=arD_b a h;omega
theorem lcE_t{p:Yj}{e:Yj×Yj}(a:trn e.1 e.2 p=0)(b:sgI (e.1.1-p.1)*sgI (e.2.1-p.1)<=0)(c:sgI (e.1.2.1-p.2.1)*sgI (e.2.2.1-p.2.1)<=0):lcE p e=true:=by unfold lcE;rw [aJ a,aJ b,aJ c];rfl
theorem Ox{p:Yj}{e:Yj×Yj}(a:¬trn e.1 e.2 p=0):lcE p e=false:=by unfold lcE;rw [aK a];rfl
theorem Ow{p:Yj}{e:Yj×Yj}(a:¬sgI (e.1.1-p.1)*sgI (e.2.1-p.1)<=0):lcE p e=false:=by unfold lcE;rw [aK a];simp
theorem Ov{p:Yj}{e:Yj×Yj}(a:¬sgI (e.1.2.1-p.2.1)*sgI (e.2.2.1-p.2.1)<=0):lcE p e=false:=by unfold lcE;rw [aK a];simp
theorem Yfz{p:Yj}{e:Yj×Yj}(h:sgI (e.1.2.1-p.2.1)<=0/\sgI (e.2.2.1-p.2.1)>0/\trn e.1 e.2 p>0):lcD p e=1:=by unfold lcD;rw [aF h]
theorem Zf6{p:Yj}{e:Yj×Yj}(h:sgI (e.1.2.1-p.2.1)>0/\sgI (e.2.2.1-p.2.1)<=0/\trn e.1 e.2 p<0):lcD p e=-1:=by unfold lcD;rw [aD O,aF h]
theorem Kv{p:Yj}{e:Yj×Yj}(h:¬(sgI (e.1.2.1-p.2.1)<=0/\sgI (e.2.2.1-p.2.1)>0/\trn e.1 e.2 p>0))(a:¬(sgI (e.1.2.1-p.2.1)>0/\sgI (e.2.2.1-p.2.1)<=0/\trn e.1 e.2 p<0)):lcD p e=0:=by unfold lcD;rw [aD h,aD a]
def LcI(l:List Yj)(p:Yj)(k:Nat)(z:Int):Prop:=z=lcW p ((Pw l).take k)/\∀j e,j<k->(Pw l)[j]? = some e->lcE p e=false
def lcI_0{l:List Yj}{p:Yj} : LcI l p 0 0:=⟨rfl,λj e h=>absurd h (cK j)⟩
theorem Ou{l:List Yj}{p:Yj}{k:Nat}{y:Int}{e:Yj×Yj}(h:LcI l p k z)(c:(Pw l)[k]? = some e)(f:lcE p e=false)(i:lcD p e=y):LcI l p (k+1) (z+y):=by
 refine⟨by rw [lcW_s c,h.1,i],λj d g a=>?_⟩;rcases aC.1 g with b|b
 .exact h.2 j d b a
 .subst b;rw [c]at a;cases a;exact f
theorem lcI_e{l:List Yj}{p:Yj}(h:LcI l p (Pw l).length z):atL l p=if z≠0 then 1 else -1:=by rw [atL_n (m:=(Pw l).length) (by rw [Di];exact aI _) h.2,<-h.1]
theorem lcI_b{l:List Yj}{p:Yj}{k:Nat}(h:LcI l p k z):-(k:Int)<=z/\z<=k:=by rw [h.1];exact lcW_b ..
@[reducible,instance] def clIF {f:Fn} {a b:Array Value} : ClI (.func f a b) [.func f a b]:=⟨rfl⟩
abbrev Lm:=SL×List Yj
abbrev qPg (z:Lm):Pc:=Yt 3 Xa (Xp z.1) z.2
abbrev Ia:Lm:=((none,0,0),[])
def nmB(e:Yj×Yj)(a:List Yj):Bool:=(Pw a).all λc=>!Zha e.1 e.2 c.1 c.2
def ekB(o:List Yj)(a:List (List Yj))(e:Yj×Yj):Bool:=decide (0<=atL o e.1) && a.all (nmB e)
def Zaa(o:List Yj)(hs:List Lm)(i:Nat):Bool:=Kz (hs.getD i Ia).2 && (Pw (hs.getD i Ia).2).all (ekB o (o::(hs.take i).map Prod.snd))
def Zih(hs:List Lm)(i k:Nat):Bool:=decide (i=k) || decide (atL (hs.getD k Ia).2 ((hs.getD i Ia).2.getD 0 Yr)<0)
def Cf(o:List Yj)(hs:List Lm)(lo hi:Int):Bool:=
 Kz o && (decide (hs.length<=16/\-1048576<=lo/\hi<=1048576/\lo<=hi) && ((List.range hs.length).all (Zaa o hs) && (List.range hs.length).all λi=>(List.range hs.length).all (Zih hs i)))
section
variable {o:List Yj} {hs:List Lm} {lo hi:Int} {so:SL} {i k:Nat} {e:Yj×Yj}
theorem Zs5(h:Kz o=false):Cf o hs lo hi=false:=by unfold Cf;rw [h];rfl
theorem Zs6(h:¬(hs.length<=16/\-1048576<=lo/\hi<=1048576/\lo<=hi)):Cf o hs lo hi=false:=by unfold Cf;rw [aK h,kF,dH]
theorem Ygs(a:i<hs.length)(h:Zaa o hs i=false):Cf o hs lo hi=false:=by unfold Cf;have:(List.range hs.length).all (Zaa o hs)=false:=eT.2 ⟨i,dA.2 a,by rw [h];exact bD⟩;rw [this,kF,dH,dH]
theorem fnc_f(a:i<hs.length)(c:k<hs.length)(h:Zih hs i k=false):Cf o hs lo hi=false:=by unfold Cf;have b:(List.range hs.length).all (Zih hs i)=false:=eT.2 ⟨k,dA.2 c,by rw [h];exact bD⟩;have:((List.range hs.length).all λi=>(List.range hs.length).all (Zih hs i))=false:=eT.2 ⟨i,dA.2 a,by rw [b];exact bD⟩;rw [this,dH,dH,dH]
theorem fnc_t(a:Kz o=true)(b:hs.length<=16/\-1048576<=lo/\hi<=1048576/\lo<=hi)(c:∀i,i<hs.length->Zaa o hs i=true)(d:∀i,i<hs.length->∀k,k<hs.length->Zih hs i k=true):Cf o hs lo hi=true:=by unfold Cf;rw [a,aJ b,fJ,fJ,aQ,bF,bF];exact⟨λi hi=>c i (dA.1 hi),λi hi=>bF.2 λk f=>d i (dA.1 hi) k (dA.1 f)⟩
theorem Cz(h:Cf o hs lo hi=true):Kz o=true/\(hs.length<=16/\-1048576<=lo/\hi<=1048576/\lo<=hi)/\(∀i,i<hs.length->Zaa o hs i=true)/\∀i,i<hs.length->∀k,k<hs.length->Zih hs i k=true:=by unfold Cf at h;simp only [aQ,cT,bF,dA]at h;exact⟨h.1,h.2.1,h.2.2.1,h.2.2.2⟩
theorem hole_s(h:Kz (hs.getD i Ia).2=false):Zaa o hs i=false:=by unfold Zaa;rw [h];rfl
theorem Yga(a:(Pw (hs.getD i Ia).2)[k]? = some e)(h:ekB o (o::(hs.take i).map Prod.snd) e=false):Zaa o hs i=false:=by unfold Zaa;have:(Pw (hs.getD i Ia).2).all (ekB o (o::(hs.take i).map Prod.snd))=false:=eT.2 ⟨e,dU a,by rw [h];exact bD⟩;rw [this,dH]
def EkI(o:List Yj)(a:List (List Yj))(b:List (Yj×Yj))(k:Nat):Prop:=∀j e,j<k->b[j]? = some e->ekB o a e=true
def ekI_0{a:List (List Yj)}{b:List (Yj×Yj)} : EkI o a b 0:=λj e h=>absurd h (cK j)
theorem ekI_s{b:List (List Yj)}{c:List (Yj×Yj)}(h:EkI o b c k)(l:c[k]? = some e)(g:ekB o b e=true):EkI o b c (k+1):=λj f n a=>by
 rcases aC.1 n with d|d
 .exact h j f d a
 .subst d;rw [l]at a;cases a;exact g
theorem hole_t(b:Kz (hs.getD i Ia).2=true)(h:EkI o (o::(hs.take i).map Prod.snd) (Pw (hs.getD i Ia).2) (Pw (hs.getD i Ia).2).length):Zaa o hs i=true:=by unfold Zaa;rw [b,fJ,bF];intro e c;obtain⟨j,a⟩:=fI.1 c;exact h j e (cI.1 a).1 a
theorem Zbt(h:Zaa o hs i=true):Kz (hs.getD i Ia).2=true:=by unfold Zaa at h;rw [aQ]at h;exact h.1
def Zyo(so:SL)(o:List Yj)(ts:List Lm):o::ts.map Prod.snd=((so,o)::ts).map Prod.snd:=rfl
theorem ek_a{a:List (List Yj)}(h:atL o e.1<0):ekB o a e=false:=by unfold ekB;rw [aK O];rfl
theorem ek_m{ts:List Lm}(a:m<((so,o)::ts).length)(h:nmB e (((so,o)::ts).getD m Ia).2=false):ekB o (o::ts.map Prod.snd) e=false:=by unfold ekB;rw [Zyo so];have:(((so,o)::ts).map Prod.snd).all (nmB e)=false:=eT.2 ⟨_,eV.2 ⟨_,Zi a,rfl⟩,by rw [h];exact bD⟩;rw [this,dH]
theorem ek_t{ts:List Lm}(h:¬atL o e.1<0)(g:((so,o)::ts).length<=m)(c:∀j,j<m->j<((so,o)::ts).length->nmB e (((so,o)::ts).getD j Ia).2=true):ekB o (o::ts.map Prod.snd) e=true:=by unfold ekB;rw [aJ O,fJ,Zyo so,bF];intro a d;obtain⟨z,f,rfl⟩:=eV.1 d;obtain⟨j,b,rfl⟩:=eD.1 f;have:=c j O b;rwa [aE,aM b]at this
theorem nm_f{a:List Yj}{c:Yj×Yj}(b:(Pw a)[k]? = some c)(h:Zha e.1 e.2 c.1 c.2=true):nmB e a=false:=
 eT.2 ⟨c,dU b,by rw [h];exact bD⟩
def NmI(e:Yj×Yj)(a:List (Yj×Yj))(k:Nat):Prop:=∀j c,j<k->a[j]? = some c->Zha e.1 e.2 c.1 c.2=false
def nmI_0{a:List (Yj×Yj)} : NmI e a 0:=λj c h=>absurd h (cK j)
theorem nmI_s{b:List (Yj×Yj)}{c:Yj×Yj}(h:NmI e b k)(l:b[k]? = some c)(g:Zha e.1 e.2 c.1 c.2=false):NmI e b (k+1):=λj f n a=>by
 rcases aC.1 n with d|d
 .exact h j f d a
 .subst d;rw [l]at a;cases a;exact g
theorem nm_t{a:List Yj}(h:NmI e (Pw a) (Pw a).length):nmB e a=true:=bF.2 λc d=>by obtain⟨j,b⟩:=fI.1 d;rw [h j c (cI.1 b).1 b];rfl
theorem Yi3(h:i<hs.length):((so,o)::hs.take i) ++ [hs.getD i Ia]=(so,o)::hs.take (i+1):=by rw [Ps Ia _ _ h];rfl
theorem sms_s{xs:List Lm}{z:Lm}(h:∀y∈xs,Kz y.2=true)(c:Kz z.2=true):∀y∈xs ++ [z],Kz y.2=true:=λy b=>by
 rcases cY.1 b with a|a
 .exact h y a
 .rw [bZ.1 a];exact c
def Cr{l:List Yj}(h:Kz l=true):l.all Lq=true:=bF.2 (Zxi h).2
def Kl{l:List Yj}(h:Kz l=true):3<=l.length/\l.length<=64:=(Zxi h).1
theorem Zzb(h:i=k\/¬atL (hs.getD k Ia).2 ((hs.getD i Ia).2.getD 0 Yr)>=0):Zih hs i k=true:=by
 unfold Zih;rcases h with h|h
 .rw [aJ h];rfl
 .rw [aJ (show atL (hs.getD k Ia).2 ((hs.getD i Ia).2.getD 0 Yr)<0 by omega),oG]
theorem far_f(h:¬i=k)(a:atL (hs.getD k Ia).2 ((hs.getD i Ia).2.getD 0 Yr)>=0):Zih hs i k=false:=by unfold Zih;rw [aK h,aK O];rfl
end
def inB(b:List Yj)(a:List Lm)(q:Yj):Bool:=decide (atL b q>=0) && !(a.any λz=>decide (atL z.2 q>0))
def Zk4(c:List Yj)(b:List Lm)(fl a:Int)(q:Yj):Bool:=decide (q.2.2>=fl) && (decide (q.2.2<=a) && inB c b q)
section
variable {po:List Yj} {ph:List Lm} {fl fu:Int} {q:Yj}
theorem in_0(h:¬atL po q>=0):inB po ph q=false:=by unfold inB;rw [aK h];rfl
theorem in_1(h:atL po q>=0):inB po ph q=!(ph.any λz=>decide (atL z.2 q>0)):=by unfold inB;rw [aJ h];rfl
theorem Zvs(h:¬q.2.2>=fl):Zk4 po ph fl fu q=false:=by unfold Zk4;rw [aK h];rfl
theorem Zvr(h:¬q.2.2<=fu):Zk4 po ph fl fu q=false:=by unfold Zk4;rw [aK h,kF,dH]
theorem Zvq(h:q.2.2>=fl)(a:q.2.2<=fu):Zk4 po ph fl fu q=inB po ph q:=by unfold Zk4;rw [aJ h,aJ a];rfl
def any_i{i:Nat}(hi:i<ph.length)(h:atL (ph.getD i Ia).2 q>0):(ph.any λz=>decide (atL z.2 q>0))=true:=jI.2 ⟨_,Zi hi,aJ h⟩
theorem any_n(c:ph.length<=m)(h:∀j,j<m->¬atL (ph.getD j Ia).2 q>0):(ph.any λz=>decide (atL z.2 q>0))=false:=oH.2 λz b=>by obtain⟨j,a,rfl⟩:=eD.1 b;have:=h j O;rw [aE,aM a]at this;simpa using this
theorem Zi1(h:Cf po ph fl fu=true):∀z∈ph,Kz z.2=true:=λz b=>by obtain⟨j,a,rfl⟩:=eD.1 b;have:=Zbt ((Cz h).2.2.1 j a);rwa [aE,aM a]at this
end
end Go.Sky
namespace Go.Sky
variable{x y:Int}{es:List (Yj×Yj)}{q c:Int×Int}
def Ch(a b p:Yj):Int:=(b.1-a.1)*(p.1-a.1)+(b.2.1-a.2.1)*(p.2.1-a.2.1)
def Ey(a b:Yj):Int:=(b.1-a.1)*(b.1-a.1)+(b.2.1-a.2.1)*(b.2.1-a.2.1)
def dst(a p:Yj):Int:=(p.1-a.1)*(p.1-a.1)+(p.2.1-a.2.1)*(p.2.1-a.2.1)
def crd(a b p:Yj):Int:=(b.1-a.1)*(p.2.1-a.2.1)-(b.2.1-a.2.1)*(p.1-a.1)
abbrev rnP (x y:Int):Int×Int:=(Ho x y,Iq x y)
def dqr(a b p:Yj):Int×Int:=if 0<Ch a b p/\Ch a b p<Ey a b then(crd a b p*crd a b p,Ey a b)else if Ey a b<=Ch a b p then(dst b p,1)else(dst a p,1)
def dqF(a b p:Yj):Int×Int:=rnP (dqr a b p).1 (dqr a b p).2
section
variable {a b p:Yj}
theorem Zb7(g:-2097152<=x/\x<=2097152)(h:-2097152<=y/\y<=2097152):-4398046511104<=x*y/\x*y<=4398046511104:=by
 have d:x.natAbs<=2097152:=O;have e:y.natAbs<=2097152:=O;have f:(x*y).natAbs<=2097152*2097152:=by rw [cH];exact aY d e
 omega
structure D2B (a b p:Yj):Prop where
 x:-2097152<=b.1-a.1/\b.1-a.1<=2097152
 y:-2097152<=b.2.1-a.2.1/\b.2.1-a.2.1<=2097152
 u:-2097152<=p.1-a.1/\p.1-a.1<=2097152
 v:-2097152<=p.2.1-a.2.1/\p.2.1-a.2.1<=2097152
 s:-2097152<=p.1-b.1/\p.1-b.1<=2097152
 t:-2097152<=p.2.1-b.2.1/\p.2.1-b.2.1<=2097152
theorem d2b(d:Lq a=true)(e:Lq b=true)(f:Lq p=true):D2B a b p:=by obtain⟨g,h,-⟩:=Zan d;obtain⟨i,j,-⟩:=Zan e;obtain⟨k,l,-⟩:=Zan f;exact⟨O,O,O,O,O,O⟩
theorem Zms(h:D2B a b p):-8796093022208<=Ey a b/\Ey a b<=8796093022208:=by have d:=Zb7 h.x h.x;have e:=Zb7 h.y h.y;unfold Ey;omega
theorem Zzw(h:D2B a b p):-8796093022208<=crd a b p/\crd a b p<=8796093022208:=by have d:=Zb7 h.x h.v;have e:=Zb7 h.y h.u;unfold crd;omega
theorem dsa_b(h:D2B a b p):-8796093022208<=dst a p/\dst a p<=8796093022208:=by have d:=Zb7 h.u h.u;have e:=Zb7 h.v h.v;unfold dst;omega
theorem dsb_b(h:D2B a b p):-8796093022208<=dst b p/\dst b p<=8796093022208:=by have d:=Zb7 h.s h.s;have e:=Zb7 h.t h.t;unfold dst;omega
theorem Zqn(h:-8796093022208<=x/\x<=8796093022208):bl x.natAbs<=44:=(Qt 44 _).2 (by rw [show(2:Nat)^44=17592186044416 from by decide];omega)
theorem Zib(h:D2B a b p):bl (crd a b p*crd a b p).natAbs<=88:=by have:=Xq (crd a b p) (crd a b p);have d:=Zqn (Zzw h);omega
theorem Zlk(d:0<Ch a b p)(e:Ch a b p<Ey a b):dqF a b p=rnP (crd a b p*crd a b p) (Ey a b):=by unfold dqF dqr;rw [aF ⟨d,e⟩]
theorem Zv6(d:¬(0<Ch a b p/\Ch a b p<Ey a b))(e:Ch a b p>=Ey a b):dqF a b p=rnP (dst b p) 1:=by unfold dqF dqr;rw [aD d,aF e]
theorem Zv7(d:¬(0<Ch a b p/\Ch a b p<Ey a b))(e:¬Ch a b p>=Ey a b):dqF a b p=rnP (dst a p) 1:=by unfold dqF dqr;rw [aD d,aD e]
theorem dqr_b(h:D2B a b p):bl (dqr a b p).1.natAbs<=88/\bl (dqr a b p).2.natAbs<=44/\0<(dqr a b p).2:=by
 have e:=Zib h;have g:=Zqn (dsa_b h);have i:=Zqn (dsb_b h);have f:=Zqn (Zms h);have d:bl (1:Int).natAbs<=44:=O3;unfold dqr;split
 .rename_i j;exact⟨e,f,by show 0<Ey a b;omega⟩
 .split
  .exact⟨by show bl (dst b p).natAbs<=88;omega,d,(by decide:(0:Int)<1)⟩
  .exact⟨by show bl (dst a p).natAbs<=88;omega,d,(by decide:(0:Int)<1)⟩
theorem Yho(h:D2B a b p):bl (dqF a b p).1.natAbs<=88/\bl (dqF a b p).2.natAbs<=44/\0<(dqF a b p).2:=by obtain⟨d,e,f⟩:=dqr_b h;obtain⟨-,g,i,j⟩:=nrf (x:=(dqr a b p).1) (y:=(dqr a b p).2) O O f;exact⟨aB g d,aB i e,j⟩
end
def mnq(b q:Int×Int):Int×Int:=if b.2=0\/q.1*b.2-b.1*q.2<0 then q else b
def d2F(p:Yj)(es:List (Yj×Yj)):Int×Int:=es.foldl (λb e=>mnq b (dqF e.1 e.2 p)) (0,0)
structure QIn (b:Int×Int):Prop where
 n:bl b.1.natAbs<=88
 d:bl b.2.natAbs<=44
 p:0<=b.2
theorem Ztx{p:Yj}{k:Nat}{e:Yj×Yj}(h:es[k]? = some e):d2F p (es.take (k+1))=mnq (d2F p (es.take k)) (dqF e.1 e.2 p):=by have d:=(cI.1 h).1;have f:=(cI.1 h).2;rw [jW d,f];unfold d2F;rw [kC];rfl
def mnq_t{b:Int×Int}(h:b.2=0\/q.1*b.2-b.1*q.2<0):mnq b q=q:=aF h
def mnq_f{b:Int×Int}(h:¬(b.2=0\/q.1*b.2-b.1*q.2<0)):mnq b q=b:=aD h
theorem qin_s{a b p:Yj}(f:QIn c)(h:D2B a b p):QIn (mnq c (dqF a b p)):=by
 obtain⟨d,e,g⟩:=Yho h;unfold mnq;split
 .exact⟨d,e,O⟩
 .exact f
def qin_0:QIn (0,0):=⟨O3,O3,O3⟩
theorem okR_0{b:Bool}{s:ByteArray}(h:y=0):okR b s (decide (y<0)) (Xo y.natAbs)=false:=by subst h;unfold okR;simp [Fk];exact λ_ _=>O3
end Go.Sky

