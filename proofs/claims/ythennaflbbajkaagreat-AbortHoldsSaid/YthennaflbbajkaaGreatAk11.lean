/- Rules, arithmetic and contracts: part 12. No conditions but those that each theorem names. -/
import Derived.Test.YthennaflbbajkaaGreatAk10
set_option linter.all false
namespace Go.Sky
section
variable {P:Program} {N:Nat} {sc:Nat->Prop} {env:Qm} {H:Hp} {M:Nat->Prop}
end
abbrev V3T:=Int×Int×Int
def adL(c:List Int)(d:Int):List Int:=c.set 0 (c.getD 0 0+d)
def mvG(v:V3T)(g:Zd):Zd:=(g.1,(g.2.1.1,adL g.2.1.2 (v.1*g.1.2.2)),(g.2.2.1.1,adL g.2.2.1.2 (v.2.1*g.1.2.2)),(g.2.2.2.1,adL g.2.2.2.2 (v.2.2*g.1.2.2)))
def mv1(v:V3T)(g:Zd):Zd:=(g.1,(g.2.1.1,adL g.2.1.2 (v.1*g.1.2.2)),g.2.2.1,g.2.2.2)
def mv2(v:V3T)(g:Zd):Zd:=(g.1,(g.2.1.1,adL g.2.1.2 (v.1*g.1.2.2)),(g.2.2.1.1,adL g.2.2.1.2 (v.2.1*g.1.2.2)),g.2.2.2)
def mvK(v:V3T)(ps:List Zd)(k:Nat):List Zd:=(ps.take k).map (mvG v) ++ ps.drop k
def vcB(x y z:Int):Bool:=Zjc 16777216 [x,y,z]
theorem vc_b{x y z:Int}(h:vcB x y z=true):(-16777216<=x/\x<=16777216)/\(-16777216<=y/\y<=16777216)/\(-16777216<=z/\z<=16777216):=by unfold vcB Zjc at h;grind
structure MvX (v:V3T) (g:Zd):Prop where
 x:La (v.1*g.1.2.2)/\La (g.2.1.2.getD 0 0+v.1*g.1.2.2)
 y:La (v.2.1*g.1.2.2)/\La (g.2.2.1.2.getD 0 0+v.2.1*g.1.2.2)
 z:La (v.2.2*g.1.2.2)/\La (g.2.2.2.2.getD 0 0+v.2.2*g.1.2.2)
 lx:0<g.2.1.2.length
 ly:0<g.2.2.1.2.length
 lz:0<g.2.2.2.2.length
end Go.Sky
namespace Go.Sky
structure Mvd (y:Int) (v:Nat->Rat) (a c:List Zd):Prop where
 len:c.length=a.length
 t1:∀k,k<a.length->(c.getD k G0).1.1=(a.getD k G0).1.1+y
 t2:∀k,k<a.length->(c.getD k G0).1.2.1=(a.getD k G0).1.2.1+y
 ck:∀k,k<a.length->∀fr to,Nz fr to (a.getD k G0)=true->Zfx (fr+y) (to+y) (c.getD k G0)=Zfx fr to (a.getD k G0)
 pl:∀k,k<a.length->∀(t:Rat) i,i<3->pzQ (c.getD k G0) i (sR (c.getD k G0) (t+(y:Rat)))=pzQ (a.getD k G0) i (sR (a.getD k G0) t)+v i
section
variable {y:Int} {v w:Nat->Rat} {a b c d:List Zd}
def Mvd.F(h:Mvd y v a c)(e:0<a.length):Ac c=Ac a+y:=h.t1 0 e
theorem Mvd.L(h:Mvd y v a c)(e:0<a.length):Bi c=Bi a+y:=by unfold Bi;rw [h.len];exact h.t2 _ O1
variable (hpa:∀g∈a,Gin g) (hpb:∀g∈b,Gin g) (hba:Yg a=true) (hbb:Yg b=true) (hpc:∀g∈c,Gin g) (hpd:∀g∈d,Gin g) (hbc:Yg c=true) (hbd:Yg d=true)
include hpa hpb hba hbb hpc hpd hbc hbd
end
end Go.Sky
namespace Go.Sky
variable{a:List Zd}{k:Nat}{d:Int}{r:Rat}
theorem Zz5(c:∀g∈a,Gin g)(b:Yg a=true)(f:k<a.length):Ac a<=(a.getD k G0).1.1/\(a.getD k G0).1.2.1<=Bi a:=by
 refine⟨?_,Zf7 c b (k:=k) (m:=a.length-1) O1 O1⟩;rcases bB k with e|e
 .subst e;exact eA _
 .obtain⟨m,rfl⟩:∃m,k=m+1:=⟨k-1,O1⟩;have:=Zfr b f;have:=Zf7 c b (k:=0) (m:=m) O1 O1;have:=(Oo (c _ (Zg (d:=G0) (show 0<a.length by omega))) (Om ((Xb b).1 _ (show 0<a.length by omega)))).t2;unfold Ac;omega
structure QOK (n d:Int) (r:Rat) (m:Nat):Prop where
 p:0<d
 v:(n:Rat)=r*(d:Rat)
 a:bl n.natAbs<=m
 b:bl d.natAbs<=m
theorem QOK.ne{n:Int}{m:Nat}(h:QOK n d r m):d≠0:=by have:=h.p;omega
def QOK.mono{n:Int}{m:Nat}(h:QOK n d r m)(b:m<=k):QOK n d r k:=⟨h.p,h.v,aB h.a b,aB h.b b⟩
def QOK.cg{n:Int}{s:Rat}{m:Nat}(h:QOK n d r m)(e:r=s):QOK n d s m:=e▸h
def sq3(f:Nat->Rat):Nat->Rat
 | 0=>0
 | k+1=>sq3 f k+f k*f k
abbrev QzT:=(Int×SL)×(Int×SL)
abbrev encq (z:QzT):Value:= .agg #[.bool (decide (z.1.1<0)),Xa z.1.2,.bool (decide (z.2.1<0)),Xa z.2.2]
abbrev qq (z:QzT):Pc:=Hx qI [z.1,z.2]
abbrev QZ0:QzT:=((0,none,0,0),(1,none,0,0))
def PlQ(g:Zd)(t:Rat)(zs:List QzT)(k:Nat):Prop:=zs.length=k/\∀i,i<k->QOK (zs.getD i QZ0).1.1 (zs.getD i QZ0).2.1 (pzQ g i (sR g t)) 28000
def Plc(ps:List Zd)(t:Rat)(zs:List QzT):Prop:=∃j,j<ps.length/\InG (ps.getD j G0) t/\PlQ (ps.getD j G0) t zs 3
def ClsI(a b:List Zd)(D:Int)(t:Rat)(c:Bool):Prop:=∃j k,j<a.length/\k<b.length/\InG (a.getD j G0) t/\InG (b.getD k G0) t/\(c=true↔dQ (a.getD j G0) (b.getD k G0) (sR (a.getD j G0) t) (sR (b.getD k G0) t)<(D:Rat)*(D:Rat))
section
variable {P:Program} {N:Nat} {sc:Nat->Prop} {env:Qm} {H:Hp}
end
def MvR(ps:List Zd)(v:V3T)(zs:List Zd)(e:Int):Prop:=e=2\/e=3\/e=0/\Yg zs=true/\(∀g∈zs,Gin g)/\zs.map Ei=(ps.map (mvG v)).map Ei
end Go.Sky
namespace Go.Sky
open Go Go.MapKept
variable{b k a ax ay az bx b2 bz:Int}{es:List (Int×Value)}{v1 v2:Value}
variable {P:Program} {N:Nat} {sc:Nat->Prop} {env env':Qm} {H H':Hp} {Q Q':Exit->Act->World->Prop} {M:Nat->Prop}
def mro(b:Nat)(es:List (Int×Value)):Pc:={ mpi b es with own:=false }
theorem s_pubm{b:Nat}(i:Nat)(hi:lk H i=some (mpi b es))(g:Nat.beq i 0=false):∀a w,Sat N sc env H a w->Sat N sc env ((i,mro b es)::H) a w:=λa w hs=>by
 have h:i≠0:=λe=>by subst e;cases g
 exact hs.add i (mro b es) (show(mpi b es).holds w from hs.hold i _ hi) (λj n l m _ c d f=>hs.sep i j _ n (λe=>l e.symm) hi m rfl c d f) (λc d=>hs.scope i _ h hi c d)
theorem d_mlr {o:Oper} {t kt f:TypeId} {x y:Operand} {i b:Nat}   {r:Value} {j:Nat} (q:o.op= .lookup t x y false)
  (s:ev env x=some (.map (some b))) (u:ev env y=some (.int .i64 k)) (g:lk H i=some (mro b es)) (p:P.underlying t=some (.map kt f)) (e:P.underlying kt=some (.int .i64))
  (m:mfi es k 0=some (j,r)):Ld P N sc o env H r:=λa w hs=>by
 obtain⟨c,n,h,l⟩:∃c n,w.heap[b]? = some (.map c n)/\mpe c es:=hs.hold i _ g;have d:=fn_i k _ _ 0 l;rw [m]at d;simp [execOp,q,hs.ev s,hs.ev u,Instr.lookup,run_underlying p,Go.MapKept.run_getObj_map h,run_checkKey e (show IsKey (.int .i64) (.int .i64 k)from rfl),run_findKey e d]
def rwK(k:Int):List Int:=if k=0 then []else if k=1 then [1]else Yay
def row3(k:Int)(v1 v2:Value):Value:=if k=0 then .slice none 0 0 else if k=1 then v1 else v2
theorem mf_row(c:k=0\/k=1\/k=2):mfi [(0,.slice none 0 0),(1,v1),(2,v2)] k 0=some (k.toNat,row3 k v1 v2):=by rcases c with rfl|rfl|rfl<;>rfl
theorem s_row(l:k=0\/k=1\/k=2)(f i2 j:Nat)(g:lk H f=some (Yt 1 Xk v1 [1]))(i:lk H i2=some (Yt 1 Xk v2 Yay))(d:Nat.beq f 0=false)(e:Nat.beq i2 0=false) :
  ∀a w,Sat N sc env H a w->Sat N sc env ((j,Yt 1 Xk (row3 k v1 v2) (rwK k))::H) a w:=λa w hs=>by
 rcases l with rfl|rfl|rfl
 .exact hs.add j (Yt 1 Xk (.slice none 0 0) []) (Cd 1 Xk w) (λ_ _ _ _ _ b c _=>absurd rfl c.1) (λb c=>absurd rfl c.1)
 .exact Zc0 f j g d rfl (λw h=>h) (λb c=>c) rfl a w hs
 .exact Zc0 i2 j i e rfl (λw h=>h) (λb c=>c) rfl a w hs
theorem Zzo : ∀f∈rwK k,-15<=f/\f<=15:=by
 unfold rwK;split
 .intro f c;cases c
 .split
  .intro f c;rw [cE.1 c];decide
  .decide
theorem trm_s{c:List Int}{k:Nat}(d:k<c.length):(a::((c.take (k+1)).map λf=>f*(b-a)))=(a::((c.take k).map λf=>f*(b-a))) ++ [c.getD k 0*(b-a)]:=by rw [Pu 0 _ _ d,dW];rfl
theorem trm_e (c:List Int)(h:a=b):Bl a b c=[a]:=by unfold Bl;rw [aO h]
theorem trm_n{c:List Int}{k:Nat}(h:a≠b)(d:c.length<=k):Bl a b c=a::((c.take k).map λf=>f*(b-a)):=by unfold Bl;rw [aF h,cN d]
abbrev numV (p:Nat):Value:= .agg #[.int .u64 ((p/U:Nat):Int),.int .u64 ((p%U:Nat):Int)]
def prN(l:List Nat):Nat:=l.foldl (· * ·) 1
def leL:List Nat->List Nat->Prop
 | [],[]=>True
 | x::xs,y::ys=>x<=y/\leL xs ys
 | _,_=>False
def kpQ(q s t:Nat):Bool:=!decide (prN [64,s,s,t,t]<q)
def kqQ(q a t:Nat):Bool:=!decide (prN [3,a,a,t,t,t,t]<q)
def keepsB(d s a t:Nat):Bool:=kpQ (prN [225,d,1000000]) s t && kqQ (prN [100,d,1000000,1000000]) a t
theorem Zlv (a:Int)(b:Int)(g:-33554432<=a/\a<=33554432)(h:-33554432<=b/\b<=33554432):-1125899906842624<=a*b/\a*b<=1125899906842624:=by have c:=aS (show 0<=33554432-a by omega) (show 0<=33554432-b by omega);have d:=aS (show 0<=33554432+a by omega) (show 0<=33554432+b by omega);have e:=aS (show 0<=33554432-a by omega) (show 0<=33554432+b by omega);have f:=aS (show 0<=33554432+a by omega) (show 0<=33554432-b by omega);simp only [Int.sub_mul,Int.mul_sub,mD,kR]at c d e f;constructor<;>omega
def Zfn(ax ay az bx b2 bz fr to:Int):Bool:=ptB ax ay az && (ptB bx b2 bz && decide (0<=fr/\fr<to/\to<=3600000))
theorem Zuu{fr to:Int}(c:ptB ax ay az=false):Zfn ax ay az bx b2 bz fr to=false:=by unfold Zfn;rw [c];rfl
theorem Zut{fr to:Int}(c:ptB bx b2 bz=false):Zfn ax ay az bx b2 bz fr to=false:=by unfold Zfn;rw [c,iK,cY]
theorem Zus{fr to:Int}(h:¬(0<=fr/\fr<to/\to<=3600000)):Zfn ax ay az bx b2 bz fr to=false:=by unfold Zfn;rw [aG h,cY,cY]
theorem Ype{fr to:Int}(h:Zfn ax ay az bx b2 bz fr to=true):ptB ax ay az=true/\ptB bx b2 bz=true/\0<=fr/\fr<to/\to<=3600000:=by unfold Zfn at h;simp only [aP,bO]at h;exact⟨h.1,h.2.1,h.2.2⟩
def glG(ax ay az bx b2 bz fr to k:Int)(r:SL×SL×SL):Zd:=((fr,to,1),(r.1,Bl ax bx (rwK k)),(r.2.1,Bl ay b2 (rwK k)),(r.2.2,Bl az bz (rwK k)))
theorem Zwy : (rwK k).length<=5:=by unfold rwK;split;decide;split<;>decide
theorem Zof{fr to:Int}(c:ptB ax ay az=true)(d:ptB bx b2 bz=true)(e:0<=fr)(f:fr<to):Zfn ax ay az bx b2 bz fr to=decide (to<=3600000):=by unfold Zfn;rw [c,d,eV,eV];exact bW.2 ⟨λh=>h.2.2,λh=>⟨e,f,h⟩⟩
def tmB(ax ay az bx b2 bz d c:Int):Bool:=ptB ax ay az && (ptB bx b2 bz && decide ((1<=d/\d<=10000)/\(1<=c/\c<=10000)))
theorem Zss{x y z:Int}(h:ptB x y z=true):vcB x y z=true:=by obtain⟨c,d,e⟩:=Za6 h;unfold vcB Zjc;simp;omega
@[reducible,instance] def roiM {b:Nat} {es:List (Int×Value)} : RoI (mro b es):=⟨rfl⟩
end Go.Sky
namespace Go.Sky
abbrev Zu:=Int×Int×Int
abbrev Yh (p:Zu):Value:= .agg #[.int .i64 p.1,.int .i64 p.2.1,.int .i64 p.2.2]
abbrev Ys:Zu:=(0,0,0)
abbrev Lb (p:Zu):Bool:=ptB p.1 p.2.1 p.2.2
def Bn(n:Int):Int:=if n<0 then -1 else if n>0 then 1 else 0
def sgI_n{n:Int}(h:n<0):Bn n=-1:=by unfold Bn;rw [aO h]
def sgI_p{n:Int}(h:n>0):Bn n=1:=by unfold Bn;rw [aF O1,aO h]
def sgI_0{n:Int}(h:¬n<0)(a:¬n>0):Bn n=0:=by unfold Bn;rw [aF h,aF a]
def Ztd(n:Int):-1<=Bn n/\Bn n<=1:=by unfold Bn;split;omega;split<;>omega
def Oa(a b c:Zu):Int:=(b.1-a.1)*(c.2.1-a.2.1)-(b.2.1-a.2.1)*(c.1-a.1)
def trn(a b c:Zu):Int:=Bn (Oa a b c)
def Znr(a b c:Zu):-1<=trn a b c/\trn a b c<=1:=Ztd _
def onB(a b p:Zu):Bool:=decide (trn a b p=0) && (decide (p.1>=min a.1 b.1) && (decide (p.1<=max a.1 b.1) && (decide (p.2.1>=min a.2.1 b.2.1) && decide (p.2.1<=max a.2.1 b.2.1))))
def mtB(a b c d:Zu):Bool:=decide (trn a b c*trn a b d<0) && decide (trn c d a*trn c d b<0)
def Zh8(a b c d:Zu):Bool:=onB a b c || (onB a b d || (onB c d a || (onB c d b || mtB a b c d)))
def Zm5{x y:Int}(a:-1<=x/\x<=1)(b:-1<=y/\y<=1):-1<=x*y/\x*y<=1:=by have:x=-1\/x=0\/x=1:=O1;rcases this with rfl|rfl|rfl<;>omega
def flt(p:Zu):Zu:=(p.1,p.2.1,0)
def edg(l:List Zu)(i:Nat):Zu×Zu:=(flt (l.getD i Ys),flt (l.getD ((i+1)%l.length) Ys))
def Qh(l:List Zu):List (Zu×Zu):=(List.range l.length).map (edg l)
def Ee(l:List Zu):(Qh l).length=l.length:=by simp [Qh]
def Zmm{l:List Zu}{i:Nat}(h:i<l.length):(Qh l)[i]? = some (edg l i):=by simp [Qh,h]
def Yd7{l:List Zu}{e:Zu×Zu}(h:e∈Qh l):∃i,i<l.length/\e=edg l i:=by simp only [Qh,dP,cF]at h;obtain⟨i,hi,rfl⟩:=h;exact⟨i,hi,rfl⟩
def okE(l:List Zu)(i:Nat):Bool:=!(decide ((l.getD i Ys).1=(l.getD ((i+1)%l.length) Ys).1) && decide ((l.getD i Ys).2.1=(l.getD ((i+1)%l.length) Ys).2.1))
def Zg9(l:List Zu)(i k:Nat):Bool:=
 if k=i+1/\2<l.length then !onB (l.getD i Ys) (l.getD ((i+1)%l.length) Ys) (l.getD ((k+1)%l.length) Ys) && !onB (l.getD k Ys) (l.getD ((k+1)%l.length) Ys) (l.getD i Ys)
 else if(k+1)%l.length=i then !onB (l.getD i Ys) (l.getD ((i+1)%l.length) Ys) (l.getD k Ys) && !onB (l.getD k Ys) (l.getD ((k+1)%l.length) Ys) (l.getD ((i+1)%l.length) Ys)
 else !Zh8 (l.getD i Ys) (l.getD ((i+1)%l.length) Ys) (l.getD k Ys) (l.getD ((k+1)%l.length) Ys)
def Zk6(l:List Zu)(i:Nat):Bool:=okE l i && (List.range l.length).all λk=>decide (k<=i) || Zg9 l i k
def Ij(l:List Zu):Bool:=decide (3<=l.length/\l.length<=64) && (l.all Lb && (List.range l.length).all (Zk6 l))
def Zzc{l:List Zu}(h:Ij l=true):(3<=l.length/\l.length<=64)/\∀p∈l,Lb p=true:=by unfold Ij at h;simp only [aP,bO]at h;exact⟨h.1,bC.1 h.2.1⟩
def Yfx{l:List Zu}(h:¬(3<=l.length/\l.length<=64)):Ij l=false:=by unfold Ij;rw [aG h];rfl
def Yfw{l:List Zu}(h:l.all Lb=false):Ij l=false:=by unfold Ij;rw [h,iK,cY]
def Qf{l:List Zu}{i:Nat}(hi:i<l.length)(h:Zk6 l i=false):Ij l=false:=by unfold Ij;have:(List.range l.length).all (Zk6 l)=false:=eK.2 ⟨i,cF.2 hi,by rw [h];decide⟩;rw [this,cY,cY]
def row_o{l:List Zu}{i:Nat}(h:okE l i=false):Zk6 l i=false:=by unfold Zk6;rw [h];rfl
def Qk (k:Nat){l:List Zu}{i:Nat}(b:i<k)(a:k<l.length)(h:Zg9 l i k=false):Zk6 l i=false:=by unfold Zk6;have:((List.range l.length).all λk=>decide (k<=i) || Zg9 l i k)=false:=eK.2 ⟨k,cF.2 a,by rw [h,aG O1];decide⟩;rw [this,cY]
def Zzr{l:List Zu}{i m:Nat}(d:l.length<=m)(h:okE l i=true)(a:∀k,i<k->k<m->Zg9 l i k=true):Zk6 l i=true:=by
 unfold Zk6;rw [h,eV,bC];intro k c;have:=cF.1 c;by_cases b:k<=i
 .rw [aE b];rfl
 .rw [a k O1 O1,nE]
def smp_t{l:List Zu}{m:Nat}(d:l.length<=m)(h:3<=l.length/\l.length<=64)(c:l.all Lb=true)(a:∀i,i<m->Zk6 l i=true):Ij l=true:=by unfold Ij;rw [aE h,c,eV,eV,bC];intro k b;exact a k (by have:=cF.1 b;omega)
def Zf{l:List Zu}(h:l.all Lb=true){i:Nat}(hi:i<l.length):Lb (l.getD i Ys)=true:=bC.1 h _ (Zg hi)
def Yf{i n:Nat}(h:i<n):(i+1)%n<n:=bK _ O1
def Hu{l:List Zu}{i k:Nat}(h:k=i+1/\2<l.length):Zg9 l i k=(!onB (l.getD i Ys) (l.getD ((i+1)%l.length) Ys) (l.getD ((k+1)%l.length) Ys) && !onB (l.getD k Ys) (l.getD ((k+1)%l.length) Ys) (l.getD i Ys)):=by unfold Zg9;rw [aO h]
def Pm{l:List Zu}{i k:Nat}(h:¬(k=i+1/\2<l.length))(a:(k+1)%l.length=i):Zg9 l i k=(!onB (l.getD i Ys) (l.getD ((i+1)%l.length) Ys) (l.getD k Ys) && !onB (l.getD k Ys) (l.getD ((k+1)%l.length) Ys) (l.getD ((i+1)%l.length) Ys)):=by unfold Zg9;rw [aF h,aO a]
def Lj{l:List Zu}{i k:Nat}(h:¬(k=i+1/\2<l.length))(a:¬(k+1)%l.length=i):Zg9 l i k=!Zh8 (l.getD i Ys) (l.getD ((i+1)%l.length) Ys) (l.getD k Ys) (l.getD ((k+1)%l.length) Ys):=by unfold Zg9;rw [aF h,aF a]
def lcE(p:Zu)(e:Zu×Zu):Bool:=decide (trn e.1 e.2 p=0) && (decide (Bn (e.1.1-p.1)*Bn (e.2.1-p.1)<=0) && decide (Bn (e.1.2.1-p.2.1)*Bn (e.2.2.1-p.2.1)<=0))
def lcD(p:Zu)(e:Zu×Zu):Int:=
 if Bn (e.1.2.1-p.2.1)<=0/\Bn (e.2.2.1-p.2.1)>0/\trn e.1 e.2 p>0 then 1 else if Bn (e.1.2.1-p.2.1)>0/\Bn (e.2.2.1-p.2.1)<=0/\trn e.1 e.2 p<0 then -1 else 0
def lcD_b(p:Zu)(e:Zu×Zu):-1<=lcD p e/\lcD p e<=1:=by unfold lcD;split;omega;split<;>omega
def lcW(p:Zu)(a:List (Zu×Zu)):Int:=(a.map (lcD p)).foldl (· + ·) 0
def Yat{p:Zu}{a:List (Zu×Zu)}{k:Nat}{e:Zu×Zu}(h:a[k]? = some e):lcW p (a.take (k+1))=lcW p (a.take k)+lcD p e:=by unfold lcW;rw [gX,h,mV,dW,kU];rfl
def lcW_b(p:Zu):∀(a:List (Zu×Zu)) (k:Nat),-(k:Int)<=lcW p (a.take k)/\lcW p (a.take k)<=k
 | a,0=>by simp [lcW]
 | a,k+1=>by
  have b:=lcW_b p a k;cases h:a[k]? with
  | none=>
   have:a.take (k+1)=a.take k:=by rw [gX,h];simp
   rw [this];omega
  | some e=>rw [Yat h];have:=lcD_b p e;omega
def atL(l:List Zu)(p:Zu):Int:=if(Qh l).any (lcE p)=true then 0 else if lcW p (Qh l)≠0 then 1 else -1
def atL_e{l:List Zu}{p:Zu}{k:Nat}{e:Zu×Zu}(h:(Qh l)[k]? = some e)(a:lcE p e=true):atL l p=0:=by unfold atL;rw [aO (gJ.2 ⟨e,dD h,a⟩)]
def atL_n{l:List Zu}{p:Zu}{m:Nat}(g:l.length<=m)(h:∀k e,k<m->(Qh l)[k]? = some e->lcE p e=false):atL l p=if lcW p ((Qh l).take m)≠0 then 1 else -1:=by
 unfold atL;have:¬(Qh l).any (lcE p)=true:=λc=>by obtain⟨e,d,a⟩:=gJ.1 c;obtain⟨k,b⟩:=eH.1 d;have f:=(cL.1 b).1;rw [Ee]at f;rw [h k e O1 b]at a;cases a
 rw [aF this,cN (by rw [Ee];exact g)]
def Yhp{a b c:Zu}(h:¬trn a b c=0):onB a b c=false:=by unfold onB;rw [aG h];rfl
def Yho{a b c:Zu}(h:¬c.1>=min a.1 b.1):onB a b c=false:=by unfold onB;rw [aG h];simp
def Yhn{a b c:Zu}(h:¬c.1<=max a.1 b.1):onB a b c=false:=by unfold onB;rw [aG h];simp
def Yhm{a b c:Zu}(h:¬c.2.1>=min a.2.1 b.2.1):onB a b c=false:=by unfold onB;rw [aG h];simp
def Yhl{a b c:Zu}(d:trn a b c=0)(e:c.1>=min a.1 b.1)(f:c.1<=max a.1 b.1)(g:c.2.1>=min a.2.1 b.2.1):onB a b c=decide (c.2.1<=max a.2.1 b.2.1):=by unfold onB;rw [aE d,aE e,aE f,aE g];rfl
def Ydk(a b c d:Zu):onB a b c=true\/(onB a b c=false/\onB a b d=true)\/(onB a b c=false/\onB a b d=false/\onB c d a=true)\/(onB a b c=false/\onB a b d=false/\onB c d a=false/\onB c d b=true)\/
  (onB a b c=false/\onB a b d=false/\onB c d a=false/\onB c d b=false/\trn a b c*trn a b d<0)\/(onB a b c=false/\onB a b d=false/\onB c d a=false/\onB c d b=false/\¬trn a b c*trn a b d<0):=by
 cases onB a b c<;>cases onB a b d<;>cases onB c d a<;>cases onB c d b<;>simp<;>omega
def al_f{l:List Zu}{i:Nat}(hi:i<l.length)(h:Lb (l.getD i Ys)=false):l.all Lb=false:=eK.2 ⟨_,Zg hi,by rw [h];exact bG⟩
def al_t{l:List Zu}(h:∀j,j<l.length->Lb (l.getD j Ys)=true):l.all Lb=true:=bC.2 λx b=>by obtain⟨j,a,rfl⟩:=dI.1 b;have:=h j a;rwa [aJ,aL a]at this
def Nq(i n:Nat):((i:Int)+1)%(n:Int)=(((i+1)%n:Nat):Int):=by rw [Int.natCast_emod];rfl
def Yje{p:Zu}(h:Lb p=true):Lb (flt p)=true:=by obtain⟨a,b,c⟩:=Za6 h;show ptB p.1 p.2.1 0=true;unfold ptB Zjc;simp;omega
def Zmn{l:List Zu}(b:l.all Lb=true){k:Nat}{e:Zu×Zu}(h:(Qh l)[k]? = some e):Lb e.1=true/\Lb e.2=true:=by have a:=(cL.1 h).1;rw [Ee]at a;rw [Zmm a]at h;obtain rfl:edg l k=e:=Option.some.inj h;exact⟨Yje (Zf b a),Yje (Zf b (Yf a))⟩
def Zxy{l:List Zu}(j:l.all Lb=true){k:Nat}{e:Zu×Zu}(h:(Qh l)[k]? = some e):((-1048576<=e.1.1/\e.1.1<=1048576)/\(-1048576<=e.1.2.1/\e.1.2.1<=1048576))/\((-1048576<=e.2.1/\e.2.1<=1048576)/\(-1048576<=e.2.2.1/\e.2.2.1<=1048576))/\k<l.length:=by obtain⟨g,i⟩:=Zmn j h;obtain⟨b,c,-⟩:=Za6 g;obtain⟨d,f,-⟩:=Za6 i;have a:=(cL.1 h).1;rw [Ee]at a;exact⟨⟨b,c⟩,⟨d,f⟩,a⟩
def arD(e:Zu×Zu):Int:=e.1.1*e.2.2.1-e.1.2.1*e.2.1
def ar2(a:List (Zu×Zu)):Int:=(a.map arD).foldl (· + ·) 0
def ar2_s{a:List (Zu×Zu)}{k:Nat}{e:Zu×Zu}(h:a[k]? = some e):ar2 (a.take (k+1))=ar2 (a.take k)+arD e:=by unfold ar2;rw [gX,h,mV,dW,kU];rfl
def arD_b{l:List Zu}(a:l.all Lb=true){k:Nat}{e:Zu×Zu}(h:(Qh l)[k]? = some e):-2251799813685248<=arD e/\arD e<=2251799813685248:=by obtain⟨⟨b,c⟩,⟨d,f⟩,-⟩:=Zxy a h;have g:=Zlv e.1.1 e.2.2.1 ⟨O1,O1⟩ ⟨O1,O1⟩;have i:=Zlv e.1.2.1 e.2.1 ⟨O1,O1⟩ ⟨O1,O1⟩;unfold arD;omega
def ar2_b{l:List Zu}(a:l.all Lb=true):∀k:Nat,-(2251799813685248*(k:Int))<=ar2 ((Qh l).take k)/\ar2 ((Qh l).take k)<=2251799813685248*(k:Int)
 | 0=>by simp [ar2]
 | k+1=>by
  have b:=ar2_b a k;cases h:(Qh l)[k]? with
  | none=>
   have:(Qh l).take (k+1)=(Qh l).take k:=by rw [gX,h];simp
   rw [this];omega
  | some e=>rw [ar2_s h];have:=arD_b a h;omega
def lcE_t{p:Zu}{e:Zu×Zu}(a:trn e.1 e.2 p=0)(b:Bn (e.1.1-p.1)*Bn (e.2.1-p.1)<=0)(c:Bn (e.1.2.1-p.2.1)*Bn (e.2.2.1-p.2.1)<=0):lcE p e=true:=by unfold lcE;rw [aE a,aE b,aE c];rfl
def Nf{p:Zu}{e:Zu×Zu}(a:¬trn e.1 e.2 p=0):lcE p e=false:=by unfold lcE;rw [aG a];rfl
def Nd{p:Zu}{e:Zu×Zu}(a:¬Bn (e.1.1-p.1)*Bn (e.2.1-p.1)<=0):lcE p e=false:=by unfold lcE;rw [aG a];simp
def Nc{p:Zu}{e:Zu×Zu}(a:¬Bn (e.1.2.1-p.2.1)*Bn (e.2.2.1-p.2.1)<=0):lcE p e=false:=by unfold lcE;rw [aG a];simp
def Yim{p:Zu}{e:Zu×Zu}(h:Bn (e.1.2.1-p.2.1)<=0/\Bn (e.2.2.1-p.2.1)>0/\trn e.1 e.2 p>0):lcD p e=1:=by unfold lcD;rw [aO h]
def Zg5{p:Zu}{e:Zu×Zu}(h:Bn (e.1.2.1-p.2.1)>0/\Bn (e.2.2.1-p.2.1)<=0/\trn e.1 e.2 p<0):lcD p e=-1:=by unfold lcD;rw [aF O1,aO h]
def Ib{p:Zu}{e:Zu×Zu}(h:¬(Bn (e.1.2.1-p.2.1)<=0/\Bn (e.2.2.1-p.2.1)>0/\trn e.1 e.2 p>0))(a:¬(Bn (e.1.2.1-p.2.1)>0/\Bn (e.2.2.1-p.2.1)<=0/\trn e.1 e.2 p<0)):lcD p e=0:=by unfold lcD;rw [aF h,aF a]
def LcI(l:List Zu)(p:Zu)(k:Nat)(z:Int):Prop:=z=lcW p ((Qh l).take k)/\∀j e,j<k->(Qh l)[j]? = some e->lcE p e=false
def lcI_0{l:List Zu}{p:Zu} : LcI l p 0 0:=⟨rfl,λj e h=>absurd h (bJ j)⟩
def Nb{l:List Zu}{p:Zu}{k:Nat}{z y:Int}{e:Zu×Zu}(h:LcI l p k z)(c:(Qh l)[k]? = some e)(f:lcE p e=false)(i:lcD p e=y):LcI l p (k+1) (z+y):=by
 refine⟨by rw [Yat c,h.1,i],λj d g a=>?_⟩;rcases aC.1 g with b|b
 .exact h.2 j d b a
 .subst b;rw [c]at a;cases a;exact f
def lcI_e{l:List Zu}{p:Zu}{z:Int}(h:LcI l p (Qh l).length z):atL l p=if z≠0 then 1 else -1:=by rw [atL_n (m:=(Qh l).length) (by rw [Ee];exact aI _) h.2,<-h.1]
def lcI_b{l:List Zu}{p:Zu}{k:Nat}{z:Int}(h:LcI l p k z):-(k:Int)<=z/\z<=k:=by rw [h.1];exact lcW_b ..
@[reducible,instance] def clIF {f:Fn} {a b:Array Value} : ClI (.func f a b) [.func f a b]:=⟨rfl⟩
abbrev Ox:=SL×List Zu
abbrev qPg (z:Ox):Pc:=Yt 3 Yh (Xa z.1) z.2
abbrev Kc:Ox:=((none,0,0),[])
def nmB(e:Zu×Zu)(a:List Zu):Bool:=(Qh a).all λc=>!Zh8 e.1 e.2 c.1 c.2
def ekB(o:List Zu)(a:List (List Zu))(e:Zu×Zu):Bool:=decide (0<=atL o e.1) && a.all (nmB e)
def Zat(o:List Zu)(hs:List Ox)(i:Nat):Bool:=Ij (hs.getD i Kc).2 && (Qh (hs.getD i Kc).2).all (ekB o (o::(hs.take i).map Prod.snd))
def Zje(hs:List Ox)(i k:Nat):Bool:=decide (i=k) || decide (atL (hs.getD k Kc).2 ((hs.getD i Kc).2.getD 0 Ys)<0)
def Gb(o:List Zu)(hs:List Ox)(a hi:Int):Bool:=
 Ij o && (decide (hs.length<=16/\-1048576<=a/\hi<=1048576/\a<=hi) && ((List.range hs.length).all (Zat o hs) && (List.range hs.length).all λi=>(List.range hs.length).all (Zje hs i)))
section
variable {o:List Zu} {hs:List Ox} {lo hi:Int} {so:SL} {i k:Nat} {e:Zu×Zu}
theorem Zux(h:Ij o=false):Gb o hs lo hi=false:=by unfold Gb;rw [h];rfl
theorem Zuy(h:¬(hs.length<=16/\-1048576<=lo/\hi<=1048576/\lo<=hi)):Gb o hs lo hi=false:=by unfold Gb;rw [aG h,iK,cY]
theorem Yjd(a:i<hs.length)(h:Zat o hs i=false):Gb o hs lo hi=false:=by unfold Gb;have:(List.range hs.length).all (Zat o hs)=false:=eK.2 ⟨i,cF.2 a,by rw [h];exact bG⟩;rw [this,iK,cY,cY]
theorem fnc_f(a:i<hs.length)(c:k<hs.length)(h:Zje hs i k=false):Gb o hs lo hi=false:=by unfold Gb;have b:(List.range hs.length).all (Zje hs i)=false:=eK.2 ⟨k,cF.2 c,by rw [h];exact bG⟩;have:((List.range hs.length).all λi=>(List.range hs.length).all (Zje hs i))=false:=eK.2 ⟨i,cF.2 a,by rw [b];exact bG⟩;rw [this,cY,cY,cY]
theorem fnc_t(a:Ij o=true)(b:hs.length<=16/\-1048576<=lo/\hi<=1048576/\lo<=hi)(c:∀i,i<hs.length->Zat o hs i=true)(d:∀i,i<hs.length->∀k,k<hs.length->Zje hs i k=true):Gb o hs lo hi=true:=by unfold Gb;rw [a,aE b,eV,eV,aP,bC,bC];exact⟨λi hi=>c i (cF.1 hi),λi hi=>bC.2 λk f=>d i (cF.1 hi) k (cF.1 f)⟩
theorem Cl(h:Gb o hs lo hi=true):Ij o=true/\(hs.length<=16/\-1048576<=lo/\hi<=1048576/\lo<=hi)/\(∀i,i<hs.length->Zat o hs i=true)/\∀i,i<hs.length->∀k,k<hs.length->Zje hs i k=true:=by unfold Gb at h;simp only [aP,bO,bC,cF]at h;exact⟨h.1,h.2.1,h.2.2.1,h.2.2.2⟩
theorem hole_s(h:Ij (hs.getD i Kc).2=false):Zat o hs i=false:=by unfold Zat;rw [h];rfl
theorem Yiw(a:(Qh (hs.getD i Kc).2)[k]? = some e)(h:ekB o (o::(hs.take i).map Prod.snd) e=false):Zat o hs i=false:=by unfold Zat;have:(Qh (hs.getD i Kc).2).all (ekB o (o::(hs.take i).map Prod.snd))=false:=eK.2 ⟨e,dD a,by rw [h];exact bG⟩;rw [this,cY]
def EkI(o:List Zu)(a:List (List Zu))(b:List (Zu×Zu))(k:Nat):Prop:=∀j e,j<k->b[j]? = some e->ekB o a e=true
def ekI_0{a:List (List Zu)}{b:List (Zu×Zu)} : EkI o a b 0:=λj e h=>absurd h (bJ j)
theorem ekI_s{b:List (List Zu)}{c:List (Zu×Zu)}(h:EkI o b c k)(l:c[k]? = some e)(g:ekB o b e=true):EkI o b c (k+1):=λj f m a=>by
 rcases aC.1 m with d|d
 .exact h j f d a
 .subst d;rw [l]at a;cases a;exact g
theorem hole_t(b:Ij (hs.getD i Kc).2=true)(h:EkI o (o::(hs.take i).map Prod.snd) (Qh (hs.getD i Kc).2) (Qh (hs.getD i Kc).2).length):Zat o hs i=true:=by unfold Zat;rw [b,eV,bC];intro e c;obtain⟨j,a⟩:=eH.1 c;exact h j e (cL.1 a).1 a
theorem Zcb(h:Zat o hs i=true):Ij (hs.getD i Kc).2=true:=by unfold Zat at h;rw [aP]at h;exact h.1
def Yaj(so:SL)(o:List Zu)(a:List Ox):o::a.map Prod.snd=((so,o)::a).map Prod.snd:=rfl
theorem ek_a{a:List (List Zu)}(h:atL o e.1<0):ekB o a e=false:=by unfold ekB;rw [aG O1];rfl
theorem ek_m{a:List Ox}{m:Nat}(b:m<((so,o)::a).length)(h:nmB e (((so,o)::a).getD m Kc).2=false):ekB o (o::a.map Prod.snd) e=false:=by unfold ekB;rw [Yaj so];have:(((so,o)::a).map Prod.snd).all (nmB e)=false:=eK.2 ⟨_,dP.2 ⟨_,Zg b,rfl⟩,by rw [h];exact bG⟩;rw [this,cY]
theorem ek_t{b:List Ox}{m:Nat}(h:¬atL o e.1<0)(l:((so,o)::b).length<=m)(d:∀j,j<m->j<((so,o)::b).length->nmB e (((so,o)::b).getD j Kc).2=true):ekB o (o::b.map Prod.snd) e=true:=by unfold ekB;rw [aE O1,eV,Yaj so,bC];intro a f;obtain⟨z,g,rfl⟩:=dP.1 f;obtain⟨j,c,rfl⟩:=dI.1 g;have:=d j O1 c;rwa [aJ,aL c]at this
theorem nm_f{a:List Zu}{c:Zu×Zu}(b:(Qh a)[k]? = some c)(h:Zh8 e.1 e.2 c.1 c.2=true):nmB e a=false:=
 eK.2 ⟨c,dD b,by rw [h];exact bG⟩
def NmI(e:Zu×Zu)(a:List (Zu×Zu))(k:Nat):Prop:=∀j c,j<k->a[j]? = some c->Zh8 e.1 e.2 c.1 c.2=false
def nmI_0{a:List (Zu×Zu)} : NmI e a 0:=λj c h=>absurd h (bJ j)
theorem nmI_s{b:List (Zu×Zu)}{c:Zu×Zu}(h:NmI e b k)(l:b[k]? = some c)(g:Zh8 e.1 e.2 c.1 c.2=false):NmI e b (k+1):=λj f m a=>by
 rcases aC.1 m with d|d
 .exact h j f d a
 .subst d;rw [l]at a;cases a;exact g
theorem nm_t{a:List Zu}(h:NmI e (Qh a) (Qh a).length):nmB e a=true:=bC.2 λc d=>by obtain⟨j,b⟩:=eH.1 d;rw [h j c (cL.1 b).1 b];rfl
theorem Yly(h:i<hs.length):((so,o)::hs.take i) ++ [hs.getD i Kc]=(so,o)::hs.take (i+1):=by rw [Pu Kc _ _ h];rfl
theorem sms_s{xs:List Ox}{z:Ox}(h:∀y∈xs,Ij y.2=true)(c:Ij z.2=true):∀y∈xs ++ [z],Ij y.2=true:=λy b=>by
 rcases dB.1 b with a|a
 .exact h y a
 .rw [cE.1 a];exact c
def Bm{l:List Zu}(h:Ij l=true):l.all Lb=true:=bC.2 (Zzc h).2
def Kr{l:List Zu}(h:Ij l=true):3<=l.length/\l.length<=64:=(Zzc h).1
theorem Ya6(h:i=k\/¬atL (hs.getD k Kc).2 ((hs.getD i Kc).2.getD 0 Ys)>=0):Zje hs i k=true:=by
 unfold Zje;rcases h with h|h
 .rw [aE h];rfl
 .rw [aE (show atL (hs.getD k Kc).2 ((hs.getD i Kc).2.getD 0 Ys)<0 by omega),nE]
theorem far_f(h:¬i=k)(a:atL (hs.getD k Kc).2 ((hs.getD i Kc).2.getD 0 Ys)>=0):Zje hs i k=false:=by unfold Zje;rw [aG h,aG O1];rfl
end
def inB(b:List Zu)(a:List Ox)(q:Zu):Bool:=decide (atL b q>=0) && !(a.any λz=>decide (atL z.2 q>0))
def Zdd(c:List Zu)(b:List Ox)(fl a:Int)(q:Zu):Bool:=decide (q.2.2>=fl) && (decide (q.2.2<=a) && inB c b q)
section
variable {po:List Zu} {ph:List Ox} {fl fu:Int} {q:Zu}
theorem in_0(h:¬atL po q>=0):inB po ph q=false:=by unfold inB;rw [aG h];rfl
theorem in_1(h:atL po q>=0):inB po ph q=!(ph.any λz=>decide (atL z.2 q>0)):=by unfold inB;rw [aE h];rfl
theorem Zxm(h:¬q.2.2>=fl):Zdd po ph fl fu q=false:=by unfold Zdd;rw [aG h];rfl
theorem Zxl(h:¬q.2.2<=fu):Zdd po ph fl fu q=false:=by unfold Zdd;rw [aG h,iK,cY]
theorem Zxk(h:q.2.2>=fl)(a:q.2.2<=fu):Zdd po ph fl fu q=inB po ph q:=by unfold Zdd;rw [aE h,aE a];rfl
def any_i{i:Nat}(hi:i<ph.length)(h:atL (ph.getD i Kc).2 q>0):(ph.any λz=>decide (atL z.2 q>0))=true:=gJ.2 ⟨_,Zg hi,aE h⟩
theorem any_n{m:Nat}(c:ph.length<=m)(h:∀j,j<m->¬atL (ph.getD j Kc).2 q>0):(ph.any λz=>decide (atL z.2 q>0))=false:=kV.2 λz b=>by obtain⟨j,a,rfl⟩:=dI.1 b;have:=h j O1;rw [aJ,aL a]at this;simpa using this
theorem Zjw(h:Gb po ph fl fu=true):∀z∈ph,Ij z.2=true:=λz b=>by obtain⟨j,a,rfl⟩:=dI.1 b;have:=Zcb ((Cl h).2.2.1 j a);rwa [aJ,aL a]at this
end
end Go.Sky
namespace Go.Sky
variable{x y:Int}{es:List (Zu×Zu)}{q c:Int×Int}
def Iz(a b p:Zu):Int:=(b.1-a.1)*(p.1-a.1)+(b.2.1-a.2.1)*(p.2.1-a.2.1)
def Kq(a b:Zu):Int:=(b.1-a.1)*(b.1-a.1)+(b.2.1-a.2.1)*(b.2.1-a.2.1)
def dst(a p:Zu):Int:=(p.1-a.1)*(p.1-a.1)+(p.2.1-a.2.1)*(p.2.1-a.2.1)
def crd(a b p:Zu):Int:=(b.1-a.1)*(p.2.1-a.2.1)-(b.2.1-a.2.1)*(p.1-a.1)
abbrev rnP (x y:Int):Int×Int:=(Fe x y,Hd x y)
def dqr(a b p:Zu):Int×Int:=if 0<Iz a b p/\Iz a b p<Kq a b then(crd a b p*crd a b p,Kq a b)else if Kq a b<=Iz a b p then(dst b p,1)else(dst a p,1)
def Dn(a b p:Zu):Int×Int:=rnP (dqr a b p).1 (dqr a b p).2
section
variable {a b p:Zu}
theorem Zcr(g:-2097152<=x/\x<=2097152)(h:-2097152<=y/\y<=2097152):-4398046511104<=x*y/\x*y<=4398046511104:=by
 have d:x.natAbs<=2097152:=O1;have e:y.natAbs<=2097152:=O1;have f:(x*y).natAbs<=2097152*2097152:=by rw [bR];exact aU d e
 omega
structure D2B (a b p:Zu):Prop where
 x:-2097152<=b.1-a.1/\b.1-a.1<=2097152
 y:-2097152<=b.2.1-a.2.1/\b.2.1-a.2.1<=2097152
 u:-2097152<=p.1-a.1/\p.1-a.1<=2097152
 v:-2097152<=p.2.1-a.2.1/\p.2.1-a.2.1<=2097152
 s:-2097152<=p.1-b.1/\p.1-b.1<=2097152
 t:-2097152<=p.2.1-b.2.1/\p.2.1-b.2.1<=2097152
theorem d2b(d:Lb a=true)(e:Lb b=true)(f:Lb p=true):D2B a b p:=by obtain⟨g,h,-⟩:=Za6 d;obtain⟨i,j,-⟩:=Za6 e;obtain⟨k,l,-⟩:=Za6 f;exact⟨O1,O1,O1,O1,O1,O1⟩
theorem Znw(h:D2B a b p):-8796093022208<=Kq a b/\Kq a b<=8796093022208:=by have d:=Zcr h.x h.x;have e:=Zcr h.y h.y;unfold Kq;omega
theorem Ybt(h:D2B a b p):-8796093022208<=crd a b p/\crd a b p<=8796093022208:=by have d:=Zcr h.x h.v;have e:=Zcr h.y h.u;unfold crd;omega
theorem dsa_b(h:D2B a b p):-8796093022208<=dst a p/\dst a p<=8796093022208:=by have d:=Zcr h.u h.u;have e:=Zcr h.v h.v;unfold dst;omega
theorem dsb_b(h:D2B a b p):-8796093022208<=dst b p/\dst b p<=8796093022208:=by have d:=Zcr h.s h.s;have e:=Zcr h.t h.t;unfold dst;omega
theorem Zr9(h:-8796093022208<=x/\x<=8796093022208):bl x.natAbs<=44:=(Qs 44 _).2 (by rw [show(2:Nat)^44=17592186044416 from by decide];omega)
theorem Zi9(h:D2B a b p):bl (crd a b p*crd a b p).natAbs<=88:=by have:=Xz (crd a b p) (crd a b p);have d:=Zr9 (Ybt h);omega
theorem Zmo(d:0<Iz a b p)(e:Iz a b p<Kq a b):Dn a b p=rnP (crd a b p*crd a b p) (Kq a b):=by unfold Dn dqr;rw [aO ⟨d,e⟩]
theorem Zx0(d:¬(0<Iz a b p/\Iz a b p<Kq a b))(e:Iz a b p>=Kq a b):Dn a b p=rnP (dst b p) 1:=by unfold Dn dqr;rw [aF d,aO e]
theorem Zx1(d:¬(0<Iz a b p/\Iz a b p<Kq a b))(e:¬Iz a b p>=Kq a b):Dn a b p=rnP (dst a p) 1:=by unfold Dn dqr;rw [aF d,aF e]
theorem dqr_b(h:D2B a b p):bl (dqr a b p).1.natAbs<=88/\bl (dqr a b p).2.natAbs<=44/\0<(dqr a b p).2:=by
 have e:=Zi9 h;have g:=Zr9 (dsa_b h);have i:=Zr9 (dsb_b h);have f:=Zr9 (Znw h);have d:bl (1:Int).natAbs<=44:=O4;unfold dqr;split
 .rename_i j;exact⟨e,f,by show 0<Kq a b;omega⟩
 .split
  .exact⟨by show bl (dst b p).natAbs<=88;omega,d,(by decide:(0:Int)<1)⟩
  .exact⟨by show bl (dst a p).natAbs<=88;omega,d,(by decide:(0:Int)<1)⟩
theorem Ybi(h:D2B a b p):bl (Dn a b p).1.natAbs<=88/\bl (Dn a b p).2.natAbs<=44/\0<(Dn a b p).2:=by obtain⟨d,e,f⟩:=dqr_b h;obtain⟨-,g,i,j⟩:=nrf (x:=(dqr a b p).1) (y:=(dqr a b p).2) O1 O1 f;exact⟨aB g d,aB i e,j⟩
end
def mnq(b q:Int×Int):Int×Int:=if b.2=0\/q.1*b.2-b.1*q.2<0 then q else b
def d2F(p:Zu)(es:List (Zu×Zu)):Int×Int:=es.foldl (λb e=>mnq b (Dn e.1 e.2 p)) (0,0)
structure QIn (b:Int×Int):Prop where
 n:bl b.1.natAbs<=88
 d:bl b.2.natAbs<=44
 p:0<=b.2
theorem Zvo{p:Zu}{k:Nat}{e:Zu×Zu}(h:es[k]? = some e):d2F p (es.take (k+1))=mnq (d2F p (es.take k)) (Dn e.1 e.2 p):=by have d:=(cL.1 h).1;have f:=(cL.1 h).2;rw [List.take_succ_eq_append_getElem d,f];unfold d2F;rw [kU];rfl
def mnq_t{b:Int×Int}(h:b.2=0\/q.1*b.2-b.1*q.2<0):mnq b q=q:=aO h
def mnq_f{b:Int×Int}(h:¬(b.2=0\/q.1*b.2-b.1*q.2<0)):mnq b q=b:=aF h
theorem qin_s{a b p:Zu}(f:QIn c)(h:D2B a b p):QIn (mnq c (Dn a b p)):=by
 obtain⟨d,e,g⟩:=Ybi h;unfold mnq;split
 .exact⟨d,e,O1⟩
 .exact f
def qin_0:QIn (0,0):=⟨O4,O4,O4⟩
theorem okR_0{b:Bool}{s:ByteArray}(h:y=0):okR b s (decide (y<0)) (Xo y.natAbs)=false:=by subst h;unfold okR;simp [Eh];exact λ_ _=>O4
end Go.Sky
namespace Go.Sky
open Go.RowKit Below
variable{f:FuncId}{fn:Func}{lb vs lbv:List Value}{pre:List Pc}{M Mf S:Nat->Prop}{W w W':World}{a:Act}{r d gf i:Nat}{ops:Array Oper}{rest:List Oper}{x:Operand}{ops':List Operand}{tys:Array TypeId}{assign body:Code}{Hn:Hp}{u:Pc}
variable {P:Program} {N:Nat} {sc:Nat->Prop} {env env':Qm} {H H':Hp} {Q Q':Exit->Act->World->Prop} {ds:List Nat}
def kp(W:World)(T:Nat->Prop):Pc:=
 {own:=true,fp:=T,holds:=λw=>(∀b,T b->b<w.heap.size)/\∀b,T b->w.heap[b]? = W.heap[b]?
  lt:=λw b h c=>h.1 b c
  stable:=λw j h e=>⟨λb c=>cZ (h.1 b c) e.size,λb c=>(e.block b (h.1 b c) (λg=>g c)).trans (h.2 b c)⟩ }
def YJK(P:Program)(l:Nat)(M:Nat->Prop)(J:Nat->(Nat->Prop)->World->Prop){α:Type}(xs:List α)(ys:α->List Value):Prop:=
 ∀k x T W,xs[k]? = some x->J k T W->YieldAt Fence.wide 0 P l (ys x).toArray W λe W'=>e= .returned (.bool true)/\Chg (λb=>M b\/T b\/W.heap.size<=b) W W'/\∃c,(∀b,T b->c b)/\(∀b,c b->T b\/W.heap.size<=b)/\J (k+1) c W'
structure StK (n:Nat) (J:Nat->(Nat->Prop)->World->Prop):Prop where
 stay:∀k T W W',J k T W->Chg (λb=>n<=b/\¬T b) W W'->J k T W'
 lt:∀k T W,J k T W->n<=W.heap.size/\∀b,T b->n<=b/\b<W.heap.size
def CalK(P:Program)(f:FuncId)(lb:List Value)(pre:List Pc){α:Type}(xs:List α)(ys:α->List Value):Prop:=
 ∀(l:Nat) (M:Nat->Prop) (J:Nat->(Nat->Prop)->World->Prop) (w:World),
  (∀p∈pre,p.holds w)->(∀p∈pre,∀b,p.fp b->¬M b)->(∀b,M b->b<w.heap.size)->StK w.heap.size J->J 0 (λ_=>False) w->YJK P l M J xs ys->
  Calls P f (.func (.yield l) #[] #[]::lb).toArray w λe c=>(∃v,e= .returned v)/\∃T,J xs.length T c
def Ymf(P:Program)(fn:Func)(n:Nat)(J:Nat->(Nat->Prop)->World->Prop):Exit->Act->World->Prop:=
 bodyPostM Fence.wide 0 P fn λe b=>(∃v,e= .returned v)/\∃T,J n T b
abbrev kO (n:Nat) (M:Nat->Prop) (W:World):Pc:=Zy W (λb=>n<=b\/M b)
abbrev kT (M T:Nat->Prop) (W:World):Pc:=kp W (λb=>M b\/T b)
abbrev noT:Nat->Prop:=λ_=>False
structure HwA:Prop where h:∀{w:World} (b:Nat),w.heap.size<=b->True
def hwA:HwA:=⟨λ_ _=>trivial⟩
theorem Yqx   {c:Code}   {α:Type} {xs:List α} {ys:α->List Value} {N:Nat}
  (hf:P.funcs[f]? = some fn) (g:fn.body=some c) (hN:fn.ntmps=N) (B:Nat.ble (lb.length+1) N=true) (R:AllRo pre)
  (h:∀(l n:Nat) (M:Nat->Prop) (J:Nat->(Nat->Prop)->World->Prop) w0,n=w0.heap.size->(∀b,M b->b<n)->StK n J->J 0 noT w0->YJK P l M J xs ys->
   E P N (λ_=>True) c (Ymf P fn xs.length J) (Ql 0 (.func (.yield l) #[] #[]::lb)) ((0,kO n M w0)::(93,kT M noT w0)::Yn 1 pre)) :
  CalK P f lb pre xs ys:=λl M J w hp hm Y hJ z hY=>by
 refine(callsIn_wide (n:=0)).1 (callsIn_of_wp_marks hf g aA (wpIn_wide.2 (h l _ M J w rfl Y hJ z hY _ w ?_)));have Z:lb.length+1<=N:=by simpa using B
 have s:∀i p,lk ((0,kO w.heap.size M w)::(93,kT M noT w)::Yn 1 pre) i=some p->(i=0/\p=kO w.heap.size M w)\/(i=93/\p=kT M noT w)\/(i≠93/\p∈pre):=λi p hi=>by
  by_cases V:0=i
  .subst V;rw [Zp]at hi;cases hi;exact .inl ⟨rfl,rfl⟩
  .rw [Zh _ _ V]at hi;by_cases y:93=i
   .subst y;rw [Zp]at hi;cases hi;exact .inr (.inl ⟨rfl,rfl⟩)
   .rw [Zh _ _ y]at hi;exact .inr (.inr ⟨λe=>y e.symm,(Na pre 1 i p hi).2⟩)
 refine⟨by simp [hN];omega,rfl,λt v ht=>?_,λi p hi=>?_,λi j p q F hi hj G b g m=>?_,λi p a0 hi b g=>trivial⟩
 .have o:=(Gj (.func (.yield l) #[] #[]::lb) 0 t v ht).2;have o:(Value.func (.yield l) #[] #[]::lb).toArray[t]? = some v:=by simpa using o
  have D:=(aM.1 o).1;rw [bH,dY D,o];rfl
 .rcases s i p hi with⟨rfl,rfl⟩|⟨rfl,rfl⟩|⟨_,k⟩
  .exact Chg.refl _ w
  .exact⟨λb g=>g.elim (Y b) False.elim,λ_ _=>rfl⟩
  .exact hp p k
 .rcases s i p hi with⟨rfl,rfl⟩|⟨rfl,rfl⟩|⟨_,k⟩
  .cases G
  .have g:M b:=g.elim id False.elim;rcases s j q hj with⟨rfl,rfl⟩|⟨rfl,rfl⟩|⟨_,I⟩
   .exact m.2 (.inr g)
   .exact F rfl
   .exact hm q I b m g
  .rw [R.mem p k]at G;cases G
theorem Sat.sinceK{n:Nat}{T:Nat->Prop}(hs:Sat N sc env H a w)(k:lk H 0=some (kO n M W))(c:lk H 93=some (kT M T W)):Chg (λb=>n<=b/\¬T b) W w:=by
 have h:=hs.hold 0 _ k;have e:=hs.hold 93 _ c;refine⟨h.os,h.tape,h.output,h.size,λb l m=>?_⟩;by_cases g:M b
 .exact e.2 b (.inl g)
 .by_cases j:T b
  .exact e.2 b (.inr j)
  .exact h.block b l (λh=>h.elim (λh=>m ⟨h,j⟩) g)
def LR(P:Program)(N:Nat)(sc:Nat->Prop)(r:Nat)(ops:Array Oper)(rest:List Oper)(Q:Exit->Act->World->Prop)(env:Qm)(H:Hp):Prop:=
 ∀a w,Sat N sc env H a w->wpListIn (Fence.wide.inRound r) 0 P ops Q rest a w
def er_lr{id:Nat}{l:List Oper}(h:LR P N sc r l.toArray l Q env H):ER P N sc r (.region id l.toArray false) Q env H:=λa w hs=>
 wpIn_region_lit (h a w hs)
theorem Zqg{o:Oper}{v:Value}(j:Ld P N sc o env H v)(g:o.guard=none)(e:o.dst=some d)(c:Nat.blt d N=true)(b:ndB o=true)(h:LR P N sc r ops rest Q ((d,v)::env) H):LR P N sc r ops (o::rest) Q env H:=λa w hs=>by unfold wpListIn;rw [aO (Zaf g)];refine⟨λ_ _=>trivial,?_⟩;show o.uponIn (Fence.wide.inRound r) 0 P a _ Q ((o.semAt (some r) a.eval).run P w);rw [Oper.semAt_some r _ o (Zd9 (ops:=[o]) (by simp [b]) o (cE.2 rfl)),j a w hs];show wpListIn (Fence.wide.inRound r) 0 P ops Q rest (a.put o.dst v) w;rw [e];exact h _ w (hs.put d v c)
def lr_nil(h:X N sc .normal Q env H):LR P N sc r ops [] Q env H:=λa w hs=>h a w hs
theorem Sat.behK {n:Nat} {T v:Nat->Prop} {y:World}  (hs:Sat N (λ_=>True) env H a y) (z:lk H 0=some (kO n M W)) (Y:lk H 93=some (kT M T W)) (hM:∀b,M b->b<n) (a0:n<=y.heap.size) (hn:n<=W.heap.size)
  (t:Chg (λb=>M b\/T b\/y.heap.size<=b) y W') (hT:∀b,v b->T b\/y.heap.size<=b) (F:∀b,v b->n<=b/\b<W'.heap.size):Sat N (λ_=>True) env ((0,kO n M W')::(93,kT M v W')::H) a W':=by
 have V:∀i p,lk ((0,kO n M W')::(93,kT M v W')::H) i=some p->(i=0/\p=kO n M W')\/(i=93/\p=kT M v W')\/(i≠0/\i≠93/\lk H i=some p):=λi p hi=>by
  by_cases z:0=i
  .subst z;rw [Zp]at hi;cases hi;exact .inl ⟨rfl,rfl⟩
  .rw [Zh _ _ z]at hi;by_cases D:93=i
   .subst D;rw [Zp]at hi;cases hi;exact .inr (.inl ⟨rfl,rfl⟩)
   .rw [Zh _ _ D]at hi;exact .inr (.inr ⟨λe=>z e.symm,λe=>D e.symm,hi⟩)
 have l:∀i p,i≠93->lk H i=some p->∀b,p.fp b->¬M b/\¬T b:=λi p D hi b g=>by have:=hs.sep 93 i _ p (λe=>D e.symm) Y hi rfl b;exact⟨λh=>this (.inl h) g,λh=>this (.inr h) g⟩
 refine⟨hs.size,hs.defers,hs.env,λi p hi=>?_,λi j p q s hi I R b g c=>?_,λi p m hi b g=>trivial⟩
 .rcases V i p hi with⟨rfl,rfl⟩|⟨rfl,rfl⟩|⟨m,o,hi⟩
  .exact Chg.refl _ _
  .exact⟨λb g=>g.elim (λh=>by have:=hM b h;have:=t.size;omega) (λh=>(F b h).2),λ_ _=>rfl⟩
  .refine p.stable _ _ (hs.hold i p hi) ⟨t.os,t.tape,t.output,t.size,λk hk hn=>t.block k hk (λhf=>?_)⟩;have:=l i p o hi k (cJ.1 hn);rcases hf with h|h|h
   .exact this.1 h
   .exact this.2 h
   .omega
 .rcases V i p hi with⟨rfl,rfl⟩|⟨rfl,rfl⟩|⟨m,o,hi⟩<;>rcases V j q I with⟨rfl,rfl⟩|⟨rfl,rfl⟩|⟨a2,Z,I⟩
  .exact s rfl
  .cases R
  .cases R
  .rcases g with h|h
   .exact c.2 (.inr h)
   .exact c.2 (.inl (F b h).1)
  .exact s rfl
  .have B:=l j q Z I b c;have h2:=q.lt _ b (hs.hold j q I) c;rcases g with h|h
   .exact B.1 h
   .rcases hT b h with h|h
    .exact B.2 h
    .omega
  .have:=hs.sep i 0 p _ m hi z R b g;obtain⟨a1,G⟩:=c;refine this ⟨?_,G⟩;have:b<n:=by
    rcases bA b n with h|h
    .exact h
    .exact absurd (.inl h) G
   omega
  .have B:=l i p o hi b g;have h2:=p.lt _ b (hs.hold i p hi) g;rcases c with h|h
   .exact B.1 h
   .rcases hT b h with h|h
    .exact B.2 h
    .omega
  .exact hs.sep i j p q s hi I R b g c
theorem Yif    {o:Oper} {l n:Nat}      {T:Nat->Prop} {J:Nat->(Nat->Prop)->World->Prop} {α:Type} {xs:List α} {ys:α->List Value}
  {k:Nat} (y:α) (hY:YJK P l M J xs ys) (g:StK n J) (hy:xs[k]? = some y) (R:J k T W) (Y:∀b,M b->b<n)
  (V:o.op= .call { callee:= .value x,args:=ops'.toArray,argTypes:=tys }) (hg:o.guard=none) (hd:o.dst=some d) (Z:Nat.blt d N=true) (hx:ev env x=some (.func (.yield l) #[] #[])) (m:EvL env ops' vs) (F:vs=ys y)
  (I:lk H 0=some (kO n M W)) (q:lk H 93=some (kT M T W))
  (ht:∀p W',J (k+1) p W'->LR P N (λ_=>True) r ops rest Q ((d,.bool true)::env) ((0,kO n M W')::(93,kT M p W')::H)):LR P N (λ_=>True) r ops (o::rest) Q env H:=λa w hs=>by
 subst F;have t:=g.stay k T W w R (hs.sinceK I q);obtain⟨fn,z,assign,body,v,j⟩:=hY k y T w hy t;have D:(o.semAt (some r) a.eval).run P w= .ok (.round l fn z assign body) w:=by rw [Oper.semAt_some r _ o (by rw [V];exact λc h=>by cases h)];show(execOp a.eval o).run P w=_;have hm:=m.map hs;have G:=hs.ev hx;simp [execOp,V,resolve,invoke,Deferred.ofValue,hm,G,v,Sem.run_bind]
 unfold wpListIn;rw [aO (Zaf hg)];refine⟨λ_ _=>trivial,?_⟩;show o.uponIn (Fence.wide.inRound r) 0 P a _ Q ((o.semAt (some r) a.eval).run P w);rw [D];refine⟨λh=>(by cases h),j.mono ?_⟩;rintro e W' ⟨rfl,hc,p,a0,B,s⟩;show wpListIn (Fence.wide.inRound r) 0 P ops Q rest (a.put o.dst _) W';rw [hd];exact ht p W' s _ W' ((hs.behK I q Y (g.lt k T w t).1 (g.lt k T W R).1 hc B (g.lt _ p W' s).2).put d _ Z)
theorem Ymk{n m:Nat}{T:Nat->Prop}{J:Nat->(Nat->Prop)->World->Prop}{e:Exit}(B:e= .ret\/e= .normal)(D:fn.results=#[])(c:lk H 91=some (fxs ds))(q:lk H 0=some (kO n M W))(g:lk H 93=some (kT M T W))(j:StK n J)(s:J m T W):XG N sc ds e (Ymf P fn m J) env H:=λa w hs=>by
 have z:(ap ds a).defers=ds.map mrk:=by simp [ap,hs.defers]
 have l:LeavesInM Fence.wide 0 P fn a.tmps (λe p=>(∃v,e= .returned v)/\∃T,J m T p) (ap ds a).defers .returning w:=by
  rw [z];refine Zic ds w (hs.hold 91 _ c) λp F I R V Y=>?_;refine⟨_,Ztp D,⟨_,rfl⟩,T,j.stay m T w p (j.stay m T W w s (hs.sinceK q g)) ⟨I,R,V,Y,λb Z G=>F b λk=>G ⟨?_,?_⟩⟩⟩
  .have t:=hs.sep 91 0 _ _ O4 c q rfl b k;have y:=hs.sep 91 93 _ _ O4 c g rfl b k;rcases bA b n with h|h
   .exact(t ⟨by have:=(j.lt m T W s).1;omega,λo=>o.elim (λo=>O1) (λo=>y (.inl o))⟩).elim
   .exact h
  .exact λh=>hs.sep 91 93 _ _ O4 c g rfl b k (.inr h)
 rcases B with rfl|rfl
 .exact l
 .exact l
theorem eg_rfs {ds:List Nat} {g:Operand}  {ps:List Nat}    {α G:Type} {xs:List α} {ys:α->G->List Value} {I:α->G->List Pc}
  {GG GX:Type} (HH:Nat->GG->Hp) (b5:Nat->GG->Prop) (HX:GX->Hp) (b6:GX->Prop) (c3:GG)
  (hg:ev env g=some (.func (.func gf) #[] lbv.toArray)) (eg:∀args w,(callFunc gf args).run P w= .ok (.enter gf args) w) (hc:Zwh P gf lbv pre xs ys I)
  (hp:∀p∈pre,p.own=false/\∃i,lk H i=some p) (h0:∀x R,(ys x R).length=ps.length) (g9:(ps.all λp=>Nat.blt p N)=true)
  (hw:∀b,sc b)
  (d1:b5 0 c3) (a9:HSub (HH 0 c3) H) (hk:∀k y,(∃q,lk (HH k y) 0=some q/\q.own=false)/\lk (HH k y) 92=none) (e9:∀k y,lk (HH k y) 91=some (fxs ds)) (g5:∀Z,(∃q,lk (HX Z) 0=some q/\q.own=false)/\lk (HX Z) 92=none) (d3:∀Z,lk (HX Z) 91=some (fxs ds))
  (b8:∀k x R y,xs[k]? = some x->b5 k y->∀l Mf Wa a W,Sat N sc (renv ps (ys x R) env) ((92,Zy Wa Mf)::adds 100 (I x R) (HH k y)) a W->
   assign.wpIn (Fence.wide.inRound l) 0 P (RAn 92 P N sc l Mf (adds 100 (I x R) (HH k y)) body (HH (k+1)) (b5 (k+1)) HX b6 Wa) a W)
  (hD:∀y D,b5 xs.length y->XG N sc (D::ds) .normal Q env ((91,fxs (D::ds))::HH xs.length y))
  (hX:∀Z D,b6 Z->XG N sc (D::ds) .ret Q env ((91,fxs (D::ds))::HX Z)) :
  EG P N sc ds (.rangeFunc g ps.toArray assign body) Q env H:=λa w hs=>by
 have Y:∀i p,lk H i=some p->∀b,p.fp b->b<w.heap.size:=λi p hi b B=>p.lt w b (hs.hold i p hi) B;refine(wpIn_wide (n:=0)).1 (wpIn_rangeFunc ?_);have e8:∀(Hn:Hp),lk Hn 91=some (fxs ds)->∀W:World,Kps sc w (w.heap.size+2) (Ds (w.heap.size+2) H) Hn W->W.heap[w.heap.size]? = some (.deferred (some []))->Sat N sc env ((91,fxs (w.heap.size::ds))::Hn) { tmps:=a.tmps,defers:=[] } W:=λHn f4 W p3 V=>by
  have c5:¬Ds (w.heap.size+2) H w.heap.size:=λh=>by
   rcases h with⟨i,q,hq,_,hf⟩|h
   .have:=Y i q hq _ hf;omega
   .omega
  exact Zxo (p3.sat (a:={ tmps:=a.tmps,defers:=[] }) hs.size rfl hs.env) f4 V (λi q hq hf=>by
   cases a8:q.own with
   | true=>exact c5 (p3.mf i q hq a8 _ hf)
   | false=>rcases p3.off i q hq a8 _ hf with h|h<;>omega) (hw _)
 intro d8 g3;obtain⟨c,m⟩:∃c:LoopState->Option Code->Loop,c=λst pe=>{ state:=st,pending:=pe,fn:=d8,tmps:=a.tmps,params:=ps.toArray,assign:=assign,body:=body,defers:=w.heap.size }:=⟨_,rfl⟩;obtain⟨W1,b1⟩:∃W1,(w.alloc (.deferred (some []))).alloc (.loop (c .ready none))=W1:=⟨_,rfl⟩;have f9:W1.heap[w.heap.size+1]? = some (.loop (c .ready none)):=by rw [<-b1];have:=World.alloc_heap_new (w.alloc (.deferred (some []))) (.loop (c .ready none));rwa [World.size_alloc]at this
 have f8:W1.heap[w.heap.size]? = some (.deferred (some [])):=by rw [<-b1];exact(Below.heap_alloc _ _ _ O8).trans (World.alloc_heap_new w _)
 have e5:Below w.heap.size w W1:=by rw [<-b1];exact((Below.refl _ w).alloc (aI _) _).alloc O8 _
 have i2:W1.heap.size=w.heap.size+2:=by rw [<-b1];simp
 have e0:(#[.func (.yield (w.heap.size+1)) #[] #[]] ++ lbv.toArray:Array Value)=(Value.func (.yield (w.heap.size+1)) #[] #[]::lbv).toArray:=O8;refine⟨w.heap.size+1,[{ target:= .collected w.heap.size,args:=#[] }],W1,{ target:= .fn (.func gf) lbv.toArray,args:=#[.func (.yield (w.heap.size+1)) #[] #[]] },W1,gf,
  (Value.func (.yield (w.heap.size+1)) #[] #[]::lbv).toArray,W1,?_,?_,λ_ _=>trivial,?_,λh=>(by cases h),?_⟩
 .rw [<-b1,m];exact run_enterLoop_outer _ _ _ _ _
 .simp only [resolve,Zmj (ds:=ds) hs hg];simp [go_sem]
 .simp [invoke,go_sem,eg]
 have b4:∀(Hn:Hp) (r:Loop),Ze7 λW=>W.heap[w.heap.size+1]? = some (.loop r)/\W.heap[w.heap.size]? = some (.deferred (some []))/\W1.heap.size<=W.heap.size/\Kps sc w (w.heap.size+2) (Ds (w.heap.size+2) H) Hn W:=λHn r W W' ⟨h1,h2,h3,h4⟩ hB=>
  ⟨(hB.block _ (aM.1 h1).1).trans h1,(hB.block _ (aM.1 h2).1).trans h2,aB h3 hB.size,h4.stays hB⟩
 have g7:¬Ds (w.heap.size+2) H (w.heap.size+1):=λh=>by
  rcases h with⟨i,q,hq,_,hf⟩|h
  .have:=Y i q hq _ hf;omega
  .omega
 have c5:¬Ds (w.heap.size+2) H w.heap.size:=λh=>by
  rcases h with⟨i,q,hq,_,hf⟩|h
  .have:=Y i q hq _ hf;omega
  .omega
 have i1:∀(Hn:Hp) (W:World),Kps sc w (w.heap.size+2) (Ds (w.heap.size+2) H) Hn W->∀(o:Obj),Kps sc w (w.heap.size+2) (Ds (w.heap.size+2) H) Hn (W.putObj w.heap.size o):=λHn W h o=>h.put Y ⟨aI _,O1⟩;have b7:∀(Hn:Hp) (W:World),Kps sc w (w.heap.size+2) (Ds (w.heap.size+2) H) Hn W->∀(o:Obj),Kps sc w (w.heap.size+2) (Ds (w.heap.size+2) H) Hn (W.putObj (w.heap.size+1) o):=λHn W h o=>h.put Y ⟨O1,O1⟩;refine callsIn_wide.2 ((hc (w.heap.size+1) (λb=>(∃i q,lk H i=some q/\q.own=true/\q.fp b)\/b=w.heap.size+1)
  (λk W=>∃y,b5 k y/\(W.heap[w.heap.size+1]? = some (.loop (c .ready none))/\W.heap[w.heap.size]? = some (.deferred (some []))/\W1.heap.size<=W.heap.size/\Kps sc w (w.heap.size+2) (Ds (w.heap.size+2) H) (HH k y) W))
  (λW=>∃Z,b6 Z/\(W.heap[w.heap.size+1]? = some (.loop (c .done (some .ret)))/\W.heap[w.heap.size]? = some (.deferred (some []))/\W1.heap.size<=W.heap.size/\Kps sc w (w.heap.size+2) (Ds (w.heap.size+2) H) (HX Z) W)) W1
  ?_ ?_ ?_ ?_ ?_ ?_).mono ?_)
 .intro p F;obtain⟨ho,i,hi⟩:=hp p F;exact p.stable _ _ (hs.hold i p hi) (Chg.of_below e5)
 .rintro p F b B (⟨i,q,hq,a8,h5⟩|rfl)
  .obtain⟨ho,j,hj⟩:=hp p F;exact hs.sep i j q p (λe=>by subst e;rw [hq]at hj;cases hj;rw [ho]at a8;cases a8) hq hj a8 b h5 B
  .obtain⟨ho,j,hj⟩:=hp p F;have:=Y j p hj _ B;omega
 .rintro k W W' ⟨y,c9,h⟩ hB;exact⟨y,c9,b4 _ _ W W' h hB⟩
 .rintro W W' ⟨Z,c9,h⟩ hB;exact⟨Z,c9,b4 _ _ W W' h hB⟩
 .refine⟨c3,d1,f9,f8,aI _,λi it hi=>it.stable _ _ (hs.hold i it (a9.lk i it hi)) (Chg.of_below e5),λi j it jt d5 hi hj=>hs.sep i j it jt d5 (a9.lk i it hi) (a9.lk j jt hj),
   λi it d1 hi=>hs.scope i it d1 (a9.lk i it hi),λi it hi _ b B=> .inl (Y i it (a9.lk i it hi) b B),λi it hi ho b B=> .inl ⟨i,it,a9.lk i it hi,ho,B⟩⟩
 .rintro k x R hx W Wa ⟨y,a0,hl,hd,f3,a7⟩ i3 hB a2;have f1:Wa.heap[w.heap.size+1]? = some (.loop (c .ready none)):=(hB.block _ O1).trans hl;have g1:Wa.heap[w.heap.size]? = some (.deferred (some [])):=(hB.block _ O1).trans hd;have hy:=run_yield (P:=P) (args:=(ys x R).toArray) f1 (by rw [m];simp [h0]);have d2:∀p∈I x R,∀b,p.fp b->w.heap.size+2<=b:=λp hp b B=>by have:=(a2 p hp).2.2 b B;omega
  have s1:Sat N sc env (HH k y) { tmps:=a.tmps,defers:=[] } Wa:=(a7.stays hB).sat hs.size rfl hs.env;have s2:Sat N sc env (adds 100 (I x R) (HH k y)) { tmps:=a.tmps,defers:=[] } Wa:=s1.adds (w1:=Wa) _ _ λp F=>⟨(a2 p F).1,(a2 p F).2.1,λb B=>hw b,λj jt hj ho b B b2=>by have h1:=(a2 p F).2.2 b B;have h2:=jt.lt W b (a7.hold j jt hj) b2;omega⟩
  have b9:∀j q,lk (adds 100 (I x R) (HH k y)) j=some q->(q∈I x R)\/lk (HH k y) j=some q:=λj q h=>Zg0 _ _ _ j q h;have F:∀j q,lk (adds 100 (I x R) (HH k y)) j=some q->∀b,q.fp b->q.own=true->Ds (w.heap.size+2) H b:=λj q hj b B ho=>by
   rcases b9 j q hj with h|h
   .rw [(a2 q h).2.1]at ho;cases ho
   .exact a7.mf j q h ho b B
  have c2:∀j q,lk (adds 100 (I x R) (HH k y)) j=some q->∀b,q.fp b->q.own=false->b<w.heap.size\/w.heap.size+2<=b:=λj q hj b B ho=>by
   rcases b9 j q hj with h|h
   .exact .inr (d2 q h b B)
   .exact a7.off j q h ho b B
  have s3:=s2.rounds ps (ys x R) g9;have s4:Sat N sc (renv ps (ys x R) env) ((92,Zy Wa (Mfs sc (w.heap.size+2) H))::adds 100 (I x R) (HH k y)) _ Wa:=s3.add 92 (Zy Wa (Mfs sc (w.heap.size+2) H)) (Chg.refl _ _) (λj jt d5 hj Ht b B b2=>by
   rcases Ht with h|h
   .cases h
   .exact B.2 (.inl (F j jt hj b b2 h))) (λb B=>cJ.1 λhn=>B.2 (.inr hn))
  have d4:¬Mfs sc (w.heap.size+2) H (w.heap.size+1):=λh=>h.elim g7 (λhn=>hn (hw _));have e1:¬Mfs sc (w.heap.size+2) H w.heap.size:=λh=>h.elim c5 (λhn=>hn (hw _));rw [m]at hy;refine⟨d8,_,assign,body,hy,roundIn_of_wpIn g3 ?_⟩;have hr:=b8 k x R y hx a0 (w.heap.size+1) (Mfs sc (w.heap.size+2) H) Wa _ Wa s4;have e3:(ps.toArray.zip (ys x R).toArray).foldl (λt (p,v)=>t.setIfInBounds p v) a.tmps=(ps.zip (ys x R)).foldl (λt pv=>t.setIfInBounds pv.1 pv.2) a.tmps:=O8;have f2:w.heap.size+2<=Wa.heap.size:=by have:=hB.size;omega
  have g4:∀(Hn:Hp),((∃q,lk Hn 0=some q/\q.own=false)/\lk Hn 92=none)->∀q,lk Hn 0=some q->q.own=false:=λHn h q hq=>by obtain⟨q',h1,h2⟩:=h.1;rw [h1]at hq;cases hq;exact h2
  rw [show(ps.toArray.zip (ys x R).toArray).foldl (λt (x:Nat×Value)=>t.setIfInBounds x.1 x.2) a.tmps=(ps.zip (ys x R)).foldl (λt pv=>t.setIfInBounds pv.1 pv.2) a.tmps from e3];refine wpIn_mono hr ?_;rintro e a1 W2 ⟨rfl,d7,H1,f5,e2,f6,a4,c8⟩;have a5:Chg (Mfs sc (w.heap.size+2) H) Wa W2:=a4.hold 92 _ (Zp _ _ _);have g6:W2.heap[w.heap.size+1]? = some (.loop (c .ready none)):=(a5.block _ O1 d4).trans f1;have g2:W2.heap[w.heap.size]? = some (.deferred (some [])):=(a5.block _ O1 e1).trans g1;have p1:=a4.ps f5 O4 e2 f2 f6 F c2 Y;have h8:Wa.heap.size<=W2.heap.size:=a5.size;obtain⟨s,z⟩:∃s,W2.putObj (w.heap.size+1) (.loop { c .ready none with state:= .busy })=s:=⟨_,rfl⟩;have h7:Sat N sc d7 ((92,Zy s (Mfs sc (w.heap.size+2) H))::H1) a1 s:=by
   have p2:=b7 _ _ p1 (.loop { c .ready none with state:= .busy });rw [z]at p2;refine(p2.sat a4.size a4.defers a4.env).add 92 (Zy s (Mfs sc (w.heap.size+2) H)) (Chg.refl _ _) (λj jt d5 hj Ht b B b2=>?_) (λb B=>cJ.1 λhn=>B.2 (.inr hn));rcases Ht with h|h
   .cases h
   .exact B.2 (.inl (p2.mf j jt hj h b b2))
  have h6:W2.heap.size=s.heap.size:=by rw [<-z];simp
  have c1:s.heap[w.heap.size+1]? = some (.loop { c .ready none with state:= .busy }):=by rw [<-z];exact World.putObj_heap_same O1
  have e7:s.heap[w.heap.size]? = some (.deferred (some [])):=by rw [<-z];exact(World.putObj_heap_other O1).trans g2
  refine⟨s,by rw [<-z];exact run_beginRound g6 (by rw [m]),wpIn_mono (c8 s ⟨⟨_,c1⟩,d4⟩ a1 s h7) ?_⟩;have c0:∀(Hn:Hp) (env':Qm) (a3:Act) (W3:World),((∃q,lk Hn 0=some q/\q.own=false)/\lk Hn 92=none)->FpM Hn (adds 100 (I x R) (HH k y))->Sat N sc env' ((92,Zy s (Mfs sc (w.heap.size+2) H))::Hn) a3 W3->∀(r:Loop),
    W3.heap[w.heap.size+1]? = some (.loop { c .ready none with state:= .busy })/\(((W3.putObj (w.heap.size+1) (.loop r)).heap[w.heap.size+1]? = some (.loop r)/\(W3.putObj (w.heap.size+1) (.loop r)).heap[w.heap.size]? = some (.deferred (some []))/\
     W1.heap.size<=(W3.putObj (w.heap.size+1) (.loop r)).heap.size/\Kps sc w (w.heap.size+2) (Ds (w.heap.size+2) H) Hn (W3.putObj (w.heap.size+1) (.loop r)))/\
     Chg (λb=>((∃i q,lk H i=some q/\q.own=true/\q.fp b)\/b=w.heap.size+1)\/W1.heap.size<=b) Wa (W3.putObj (w.heap.size+1) (.loop r))):=by
   intro Hn env' a3 W3 f0 f7 b0 r;have a6:Chg (Mfs sc (w.heap.size+2) H) s W3:=b0.hold 92 _ (Zp _ _ _);have b3:=(a6.block _ O1 d4).trans c1;have V:=(a6.block _ O1 e1).trans e7;have i0:=a6.size;have p3:=b0.ps f0.2 O4 (g4 Hn f0) O1 f7 F c2 Y;refine⟨b3,⟨World.putObj_heap_same O1,(World.putObj_heap_other O1).trans V,O10,b7 _ _ p3 _⟩,?_⟩;refine⟨?_,?_,?_,O10,λb B hn=>?_⟩
   .exact a6.os.trans ((by rw [<-z];rfl:s.os=W2.os).trans a5.os)
   .exact a6.tape.trans ((by rw [<-z];rfl:s.tape=W2.tape).trans a5.tape)
   .exact a6.output.trans ((by rw [<-z];rfl:s.output=W2.output).trans a5.output)
   .have e6:b≠w.heap.size+1:=λe=>hn (.inl (.inr e));have g0:¬Ds (w.heap.size+2) H b:=λh=>by
     rcases h with h|h
     .exact hn (.inl (.inl h))
     .exact hn (.inr O1)
    refine(World.putObj_heap_other e6).trans ?_;have e4:¬Mfs sc (w.heap.size+2) H b:=λh=>h.elim g0 (λh=>h (hw b));refine(a6.block b O1 e4).trans ?_;have:s.heap[b]? = W2.heap[b]?:=by rw [<-z];exact World.putObj_heap_other e6
    exact this.trans (a5.block b B e4)
  rintro e a3 W3 (⟨rfl,d9,d0,c6,env',b0⟩|⟨rfl,Z,d0,c6,env',b0⟩)
  .obtain⟨b3,c7,c4⟩:=c0 _ env' a3 W3 (hk (k+1) d9) c6 b0 (c .ready none);have:=run_endRound (P:=P) none b3;rw [show({ ({ c .ready none with state:= .busy } : Loop)with state:=if(none:Option Code).isNone then LoopState.ready else .done,pending:=none } : Loop)=c .ready none by rw [m];rfl]at this;exact⟨_,_,this,.inl ⟨rfl,⟨d9,d0,c7⟩,c4⟩⟩
  .obtain⟨b3,c7,c4⟩:=c0 _ env' a3 W3 (g5 Z) c6 b0 (c .done (some .ret));have:=run_endRound (P:=P) (some .ret) b3;rw [show({ ({ c .ready none with state:= .busy } : Loop)with state:=if(some Code.ret).isNone then LoopState.ready else .done,pending:=some .ret } : Loop)=c .done (some .ret) by rw [m];rfl]at this;exact⟨_,_,this,.inr ⟨rfl,⟨Z,d0,c7⟩,c4⟩⟩
 .rintro e W2 ⟨⟨v,rfl⟩,⟨y,a0,hl,hd,f3,d6⟩|⟨Z,a0,hl,hd,f3,d6⟩⟩
  .refine⟨none,_,by have:=run_endLoop (P:=P) hl (by rw [m];simp);rw [m]at this;exact this,?_⟩;have p3:=b7 _ _ d6 (.loop (c .exhausted none));have V:(W2.putObj (w.heap.size+1) (.loop (c .exhausted none))).heap[w.heap.size]? = some (.deferred (some [])):=(World.putObj_heap_other O1).trans hd;rw [m]at p3 V;have h9:=hD y w.heap.size a0 _ _ (e8 _ (e9 _ y) _ p3 V);simpa [ap,hs.defers]using h9
  .refine⟨some .ret,_,by have:=run_endLoop (P:=P) hl (by rw [m];simp);rw [m]at this;exact this,wpIn_ret ?_⟩;have p3:=b7 _ _ d6 (.loop { c .done (some .ret)with state:= .exhausted });have V:(W2.putObj (w.heap.size+1) (.loop { c .done (some .ret)with state:= .exhausted })).heap[w.heap.size]? = some (.deferred (some [])):=(World.putObj_heap_other O1).trans hd;rw [m]at p3 V;have h9:=hX Z w.heap.size a0 _ _ (e8 _ (d3 Z) _ p3 V);simpa [ap,hs.defers]using h9
structure Kpt (sc:Nat->Prop) (w:World) (H:Hp) (T:Nat->Prop) (Hn:Hp) (W:World):Prop where
 hold:∀i it,lk Hn i=some it->it.holds W
 sep:∀i j it jt,i≠j->lk Hn i=some it->lk Hn j=some jt->it.own=true->∀b,it.fp b->jt.fp b->False
 scope:∀i it,i≠0->lk Hn i=some it->∀b,it.fp b->sc b
 off:∀i it,lk Hn i=some it->∀b,it.fp b->b<w.heap.size\/T b
 mf:∀i it,lk Hn i=some it->it.own=true->∀b,it.fp b->(∃i q,lk H i=some q/\q.own=true/\q.fp b)\/T b
theorem Kpt.chg{T:Nat->Prop}(h:Kpt sc w H T Hn W)(c:Chg (λb=>w.heap.size<=b/\¬T b) W W'):Kpt sc w H T Hn W':=
 ⟨λi e hi=>e.stable _ _ (h.hold i e hi) ⟨c.os,c.tape,c.output,c.size,λk j l=>c.block k j (λg=>by
  rcases h.off i e hi k (cJ.1 l)with h|h
  .omega
  .exact g.2 h)⟩,h.sep,h.scope,h.off,h.mf⟩
def Kpt.sat{T:Nat->Prop}(h:Kpt sc w H T Hn W)(b:a.tmps.size=N)(c:a.defers=[])(e:∀t v,lk env t=some v->a.tmps.getD t undef=v):Sat N sc env Hn a W:=⟨b,c,e,h.hold,h.sep,h.scope⟩
def RBk(N:Nat)(sc:Nat->Prop)(Mf S:Nat->Prop){c:Type}(j:c->Hp)(b:c->Prop)(g:World):Exit->Act->World->Prop:=λe a W=>
 e= .normal/\∃h,b h/\∃env',Sat N sc env' ((92,Zy g Mf)::(94,kp g S)::j h) a W
def RAk(P:Program)(N:Nat)(sc:Nat->Prop)(l:Nat)(Mf S:Nat->Prop)(body:Code){j:Type}(m:j->Hp)(h:j->Prop)(k:World):Exit->Act->World->Prop:=λe a W=>
 e= .normal/\∃b c,lk c 92=none/\lk c 94=none/\Sat N sc b ((92,Zy k Mf)::(94,kp k S)::c) a W/\
  ∀g,∀a W,Sat N sc b ((92,Zy g Mf)::(94,kp g S)::c) a W->body.wpIn (Fence.wide.inRound l) 0 P (RBk N sc Mf S m h g) a W
theorem Zl2{p q:Pc}(h:lk ((92,p)::(94,q)::H) i=some u):(i=92/\u=p)\/(i=94/\u=q)\/(i≠92/\i≠94/\lk H i=some u):=by
 rcases lk92 h with h|⟨c,h⟩
 .exact .inl h
 .by_cases b:94=i
  .subst b;rw [Zp]at h;cases h;exact .inr (.inl ⟨rfl,rfl⟩)
  .rw [Zh _ _ b]at h;exact .inr (.inr ⟨c,λe=>b e.symm,h⟩)
theorem Zeb{p q:Pc}(j:lk H 92=none)(g:lk H 94=none)(h:lk H i=some u):i≠92/\i≠94/\lk ((92,p)::(94,q)::H) i=some u:=by
 have b:i≠92:=λe=>by subst e;rw [j]at h;cases h
 have c:i≠94:=λe=>by subst e;rw [g]at h;cases h
 exact⟨b,c,by rw [Zh _ _ (λe=>b e.symm),Zh _ _ (λe=>c e.symm)];exact h⟩
theorem eg_rfk {g:Operand}  {ps:List Nat}    {α:Type} {xs:List α} {ys:α->List Value} {w0:World}
  {GG:Type} (HH:Nat->GG->Hp) (b7:Nat->GG->Prop) (c4:GG)
  (hg:ev env g=some (.func (.func gf) #[] lbv.toArray)) (eg:∀args w,(callFunc gf args).run P w= .ok (.enter gf args) w) (hc:CalK P gf lbv pre xs ys)
  (hp:∀p∈pre,p.own=false/\∃i,lk H i=some p) (g4:∀x,(ys x).length=ps.length) (g3:(ps.all λp=>Nat.blt p N)=true)
  (hw:∀b,w0.heap.size<=b->sc b) (h0:lk H 0=some (Zy w0 (λ_=>False)))
  (Z:b7 0 c4) (b0:HSub (HH 0 c4) H) (hk:∀k R,Zca (HH k R) w0) (e8:∀k R,lk (HH k R) 94=none) (e7:∀k R,lk (HH k R) 91=some (fxs ds))
  (c1:∀k x R,xs[k]? = some x->b7 k R->∀l Mf S F a W,Sat N sc (renv ps (ys x) env) ((92,Zy F Mf)::(94,kp F S)::HH k R) a W->
   assign.wpIn (Fence.wide.inRound l) 0 P (RAk P N sc l Mf S body (HH (k+1)) (b7 (k+1)) F) a W)
  (hD:∀R D,b7 xs.length R->XG N sc (D::ds) .normal Q env ((91,fxs (D::ds))::HH xs.length R)) :
  EG P N sc ds (.rangeFunc g ps.toArray assign body) Q env H:=λa w hs=>by
 have d3:∀i p,lk H i=some p->∀b,p.fp b->b<w.heap.size:=λi p hi b c=>p.lt w b (hs.hold i p hi) c;have g7:w0.heap.size<=w.heap.size:=(hs.hold 0 _ h0).size;refine(wpIn_wide (n:=0)).1 (wpIn_rangeFunc ?_);intro d7 f8;obtain⟨B,I⟩:∃B:LoopState->Option Code->Loop,B=λst pe=>{ state:=st,pending:=pe,fn:=d7,tmps:=a.tmps,params:=ps.toArray,assign:=assign,body:=body,defers:=w.heap.size }:=⟨_,rfl⟩;obtain⟨W1,b2⟩:∃W1,(w.alloc (.deferred (some []))).alloc (.loop (B .ready none))=W1:=⟨_,rfl⟩;have f3:W1.heap[w.heap.size+1]? = some (.loop (B .ready none)):=by rw [<-b2];have:=World.alloc_heap_new (w.alloc (.deferred (some []))) (.loop (B .ready none));rwa [World.size_alloc]at this
 have f2:W1.heap[w.heap.size]? = some (.deferred (some [])):=by rw [<-b2];exact(Below.heap_alloc _ _ _ O8).trans (World.alloc_heap_new w _)
 have e5:Below w.heap.size w W1:=by rw [<-b2];exact((Below.refl _ w).alloc (aI _) _).alloc O8 _
 have i1:W1.heap.size=w.heap.size+2:=by rw [<-b2];simp
 have e0:(#[.func (.yield (w.heap.size+1)) #[] #[]] ++ lbv.toArray:Array Value)=(Value.func (.yield (w.heap.size+1)) #[] #[]::lbv).toArray:=O8;refine⟨w.heap.size+1,[{ target:= .collected w.heap.size,args:=#[] }],W1,{ target:= .fn (.func gf) lbv.toArray,args:=#[.func (.yield (w.heap.size+1)) #[] #[]] },W1,gf,
  (Value.func (.yield (w.heap.size+1)) #[] #[]::lbv).toArray,W1,?_,?_,λ_ _=>trivial,?_,λh=>(by cases h),?_⟩
 .rw [<-b2,I];exact run_enterLoop_outer _ _ _ _ _
 .simp only [resolve,Zmj (ds:=ds) hs hg];simp [go_sem]
 .simp [invoke,go_sem,eg]
 have e3:∀x,(ps.toArray.zip (ys x).toArray).foldl (λt (p,v)=>t.setIfInBounds p v) a.tmps=(ps.zip (ys x)).foldl (λt pv=>t.setIfInBounds pv.1 pv.2) a.tmps:=λx=>O8;have c3:∀(T:Nat->Prop) (Hn:Hp) (W:World) (d:Nat) (o:Obj),(∀b,T b->w.heap.size+2<=b)->w.heap.size<=d->d<w.heap.size+2->Kpt sc w H T Hn W->Kpt sc w H T Hn (W.putObj d o):=λT Hn W d o hT h1 h2 h=>
  h.chg ⟨rfl,rfl,rfl,O8,λk hk hn=>World.putObj_heap_other (λe=>hn ⟨O1,λf6=>by have:=hT k f6;omega⟩)⟩
 refine callsIn_wide.2 ((hc (w.heap.size+1) (λb=>(∃i q,lk H i=some q/\q.own=true/\q.fp b)\/b=w.heap.size+1)
  (λk T W=>∃R,b7 k R/\(W.heap[w.heap.size+1]? = some (.loop (B .ready none))/\W.heap[w.heap.size]? = some (.deferred (some []))/\W1.heap.size<=W.heap.size/\(∀b,T b->W1.heap.size<=b/\b<W.heap.size)/\Kpt sc w H T (HH k R) W)) W1
  ?_ ?_ ?_ ?_ ?_ ?_).mono ?_)
 .intro p c0;obtain⟨ho,i,hi⟩:=hp p c0;exact p.stable _ _ (hs.hold i p hi) (Chg.of_below e5)
 .rintro p c0 b c (⟨i,q,hq,d5,d4⟩|rfl)
  .obtain⟨ho,j,hj⟩:=hp p c0;exact hs.sep i j q p (λe=>by subst e;rw [hq]at hj;cases hj;rw [ho]at d5;cases d5) hq hj d5 b d4 c
  .obtain⟨ho,j,hj⟩:=hp p c0;have:=d3 j p hj _ c;omega
 .rintro b (⟨i,q,hq,-,d4⟩|rfl)
  .have:=d3 i q hq b d4;omega
  .omega
 .refine⟨?_,?_⟩
  .rintro k T W W' ⟨R,e6,h1,h2,h3,h4,h5⟩ hC;refine⟨R,e6,(hC.block _ (aM.1 h1).1 (λh=>O1)).trans h1,(hC.block _ (aM.1 h2).1 (λh=>O1)).trans h2,aB h3 hC.size,λb c=>⟨(h4 b c).1,cZ (h4 b c).2 hC.size⟩,h5.chg ⟨hC.os,hC.tape,hC.output,hC.size,λb c hn=>hC.block b c (λh=>hn ⟨O1,h.2⟩)⟩⟩
  .rintro k T W ⟨R,e6,h1,h2,h3,h4,h5⟩;exact⟨h3,h4⟩
 .refine⟨c4,Z,f3,f2,aI _,λb c=>c.elim,λi m hi=>m.stable _ _ (hs.hold i m (b0.lk i m hi)) (Chg.of_below e5),λi j m jt a0 hi hj=>hs.sep i j m jt a0 (b0.lk i m hi) (b0.lk j jt hj),
   λi m Z hi=>hs.scope i m Z (b0.lk i m hi),λi m hi b c=> .inl (d3 i m (b0.lk i m hi) b c),λi m hi ho b c=> .inl ⟨i,m,b0.lk i m hi,ho,c⟩⟩
 .rintro k x T F hx ⟨R,b6,hl,hd,g5,hT,a8⟩;have hy:=run_yield (P:=P) (args:=(ys x).toArray) hl (by rw [I];simp [g4]);have a9:∀b,T b->w.heap.size+2<=b:=λb c=>by have:=(hT b c).1;omega
  obtain⟨S,hS⟩:∃S:Nat->Prop,S=λb=>w.heap.size<=b/\b<F.heap.size/\¬T b:=⟨_,rfl⟩;obtain⟨Mf,f4⟩:∃Mf:Nat->Prop,Mf=Mfs sc w.heap.size H:=⟨_,rfl⟩;have G:∀b,Mf b↔((∃i q,lk H i=some q/\q.own=true/\q.fp b)\/w.heap.size<=b)\/¬sc b:=λb=>by rw [f4];exact nK
  have V:∀b,S b↔(w.heap.size<=b/\b<F.heap.size/\¬T b):=λb=>by rw [hS]
  have d2:S (w.heap.size+1):=(V _).2 ⟨O1,O1,λh=>by have:=a9 _ h;omega⟩;have d9:S w.heap.size:=(V _).2 ⟨O1,O1,λh=>by have:=a9 _ h;omega⟩;have s1:Sat N sc env (HH k R) { tmps:=a.tmps,defers:=[] } F:=a8.sat hs.size rfl hs.env;have s3:=s1.rounds ps (ys x) g3;have h6:=s3.add 94 (kp F S) ⟨λb c=>((V b).1 c).2.1,λ_ _=>rfl⟩ (λj jt a0 hj Ht b c Y=>by
   have h1:=(V b).1 c;rcases a8.off j jt hj b Y with h|h
   .omega
   .exact h1.2.2 h) (λb c=>hw b (by have:=((V b).1 c).1;omega))
  have s4:=h6.add 92 (Zy F Mf) (Chg.refl _ _) (λj jt a0 hj Ht b c Y=>by
   rcases Ht with h|h
   .cases h
   .refine c.2 ((G b).2 ?_);by_cases a5:94=j
    .subst a5;rw [Zp]at hj;cases hj;exact .inl (.inr ((V b).1 Y).1)
    .rw [Zh _ _ a5]at hj;rcases a8.mf j jt hj h b Y with h|h
     .exact .inl (.inl h)
     .exact .inl (.inr (by have:=a9 b h;omega))) (λb c=>cJ.1 λhn=>c.2 ((G b).2 (.inr hn)))
  rw [I]at hy;refine⟨d7,_,assign,body,hy,roundIn_of_wpIn f8 ?_⟩;have hr:=c1 k x R hx b6 (w.heap.size+1) Mf S F _ F s4;rw [show(ps.toArray.zip (ys x).toArray).foldl (λt (x:Nat×Value)=>t.setIfInBounds x.1 x.2) a.tmps=(ps.zip (ys x)).foldl (λt pv=>t.setIfInBounds pv.1 pv.2) a.tmps from e3 x];refine wpIn_mono hr ?_;rintro e a1 W2 ⟨rfl,d6,H1,b1,a5,s,c7⟩;have b3:Chg Mf F W2:=s.hold 92 _ (Zp _ _ _);have b5:=s.hold 94 _ (by rw [Zh _ _ O4,Zp]);have g0:W2.heap[w.heap.size+1]? = some (.loop (B .ready none)):=(b5.2 _ d2).trans hl;have h7:F.heap.size<=W2.heap.size:=b3.size;obtain⟨y,z⟩:∃y,W2.putObj (w.heap.size+1) (.loop { B .ready none with state:= .busy })=y:=⟨_,rfl⟩;have g6:W2.heap.size=y.heap.size:=by rw [<-z];simp
  have e9:y.heap[w.heap.size+1]? = some (.loop { B .ready none with state:= .busy }):=by rw [<-z];exact World.putObj_heap_same O1
  have a2:∀b,b≠w.heap.size+1->y.heap[b]? = W2.heap[b]?:=λb c=>by rw [<-z];exact World.putObj_heap_other c
  have g9:Sat N sc d6 ((92,Zy y Mf)::(94,kp y S)::H1) a1 y:=by
   have hh:∀i m,lk H1 i=some m->m.holds y:=λi m hi=>by obtain⟨h1,h2,h3⟩:=Zeb (p:=Zy F Mf) (q:=kp F S) b1 a5 hi;refine m.stable _ _ (s.hold i m h3) ⟨by rw [<-z];rfl,by rw [<-z];rfl,by rw [<-z];rfl,O1,λb c hn=>a2 b (λe=>?_)⟩;subst e;exact s.sep 94 i _ m (λe=>h2 e.symm) (by rw [Zh _ _ O4,Zp]) h3 rfl _ d2 (cJ.1 hn)
   refine⟨s.size,s.defers,s.env,λi p hi=>?_,λi j p q a0 hi hj ho b c Y=>?_,λi p Z hi b c=>?_⟩
   .rcases Zl2 hi with⟨rfl,rfl⟩|⟨rfl,rfl⟩|⟨_,_,hi⟩
    .exact Chg.refl _ _
    .exact⟨λb c=>by have:=((V b).1 c).2.1;omega,λ_ _=>rfl⟩
    .exact hh i p hi
   .rcases Zl2 hi with⟨rfl,rfl⟩|⟨rfl,rfl⟩|⟨h1,h2,c8⟩
    .cases ho
    .rcases Zl2 hj with⟨rfl,rfl⟩|⟨rfl,rfl⟩|⟨h3,h4,d0⟩
     .exact Y.2 ((G b).2 (.inl (.inr ((V b).1 c).1)))
     .exact a0 rfl
     .exact s.sep 94 j (kp F S) q a0 (by rw [Zh _ _ O4,Zp]) (Zeb b1 a5 d0).2.2 rfl b c Y
    .have c9:=(Zeb (p:=Zy F Mf) (q:=kp F S) b1 a5 c8).2.2;rcases Zl2 hj with⟨rfl,rfl⟩|⟨rfl,rfl⟩|⟨h3,h4,d0⟩
     .refine Y.2 (cJ.1 λhn=>?_);rcases bA b F.heap.size with h|h
      .exact s.sep i 92 p _ h1 c9 (Zp _ _ _) ho b c ⟨h,hn⟩
      .exact hn ((G b).2 (.inl (.inr O1)))
     .exact s.sep i 94 p (kp F S) h2 c9 (by rw [Zh _ _ O4,Zp]) ho b c Y
     .exact s.sep i j p q a0 c9 (Zeb b1 a5 d0).2.2 ho b c Y
   .rcases Zl2 hi with⟨rfl,rfl⟩|⟨rfl,rfl⟩|⟨h1,h2,c8⟩
    .exact cJ.1 λhn=>c.2 ((G b).2 (.inr hn))
    .exact hw b (by have:=((V b).1 c).1;omega)
    .exact s.scope i p Z (Zeb (p:=Zy F Mf) (q:=kp F S) b1 a5 c8).2.2 b c
  have i0:¬Mf (w.heap.size+1)->False:=λh=>h ((G _).2 (.inl (.inr O1)));refine⟨y,by rw [<-z];exact run_beginRound g0 (by rw [I]),wpIn_mono (c7 y a1 y g9) ?_⟩;rintro e a3 W3 ⟨rfl,a6,f9,env',a4⟩;have b4:Chg Mf y W3:=a4.hold 92 _ (Zp _ _ _);have a7:=a4.hold 94 _ (by rw [Zh _ _ O4,Zp]);have g1:W3.heap[w.heap.size+1]? = some (.loop { B .ready none with state:= .busy }):=(a7.2 _ d2).trans e9;have b9:W3.heap[w.heap.size]? = some (.deferred (some [])):=(a7.2 _ d9).trans ((a2 _ O1).trans ((b5.2 _ d9).trans hd));have h8:=b4.size;have d1:=hk (k+1) a6;have d8:=e8 (k+1) a6;obtain⟨T',f5⟩:∃T':Nat->Prop,T'=λb=>T b\/(F.heap.size<=b/\b<W3.heap.size):=⟨_,rfl⟩;have b8:∀b,T' b↔(T b\/(F.heap.size<=b/\b<W3.heap.size)):=λb=>by rw [f5]
  have p3:Kpt sc w H T' (HH (k+1) a6) W3:=by
   have hl:∀i m,lk (HH (k+1) a6) i=some m->i≠92/\i≠94/\lk ((92,Zy y Mf)::(94,kp y S)::HH (k+1) a6) i=some m:=λi m hi=>Zeb d1.2 d8 hi;have c2:∀i m,lk (HH (k+1) a6) i=some m->∀b,m.fp b->b<w.heap.size\/T' b:=λi m hi b c=>by
    obtain⟨h1,h2,h3⟩:=hl i m hi;have h4:=a4.sep 94 i _ m (λe=>h2 e.symm) (by rw [Zh _ _ O4,Zp]) h3 rfl b;have h5:=m.lt W3 b (a4.hold i m h3) c;rcases bA b w.heap.size with h|h
    .exact .inl h
    .refine .inr ((b8 b).2 ?_);by_cases e2:T b
     .exact .inl e2
     .rcases bA b F.heap.size with h'|h'
      .exact(h4 ((V b).2 ⟨h,h',e2⟩) c).elim
      .exact .inr ⟨h',h5⟩
   refine⟨λi m hi=>a4.hold i m (hl i m hi).2.2,λi j m jt a0 hi hj=>a4.sep i j m jt a0 (hl i m hi).2.2 (hl j jt hj).2.2,λi m Z hi=>a4.scope i m Z (hl i m hi).2.2,c2,λi m hi ho b c=>?_⟩;obtain⟨h1,h2,h3⟩:=hl i m hi;have Z:i≠0:=λe=>by subst e;rw [d1.1]at hi;cases hi;cases ho
   have h4:=a4.sep i 92 m _ h1 h3 (Zp _ _ _) ho b c;rcases c2 i m hi b c with h|h
   .have hM:Mf b:=cJ.1 λhn=>h4 ⟨O1,hn⟩;rcases(G b).1 hM with(h'|h')|h'
    .exact .inl h'
    .omega
    .exact absurd (a4.scope i m Z h3 b c) h'
   .exact .inr h
  have c5:∀b,T' b->w.heap.size+2<=b/\b<W3.heap.size:=λb c=>by
   rcases(b8 b).1 c with h|h
   .have:=hT b h;exact⟨O1,O1⟩
   .exact⟨O1,h.2⟩
  have:=run_endRound (P:=P) none g1;rw [show({ ({ B .ready none with state:= .busy } : Loop)with state:=if(none:Option Code).isNone then LoopState.ready else .done,pending:=none } : Loop)=B .ready none by rw [I];rfl]at this;refine⟨_,_,this,rfl,?_,T',λb c=>(b8 b).2 (.inl c),λb c=>((b8 b).1 c).imp id (λh=>h.1),a6,f9,World.putObj_heap_same O1,(World.putObj_heap_other O1).trans b9,O10,λb c=>⟨by have:=(c5 b c).1;omega,by simp;exact(c5 b c).2⟩,c3 T' _ W3 _ _ (λb c=>(c5 b c).1) O1 O1 p3⟩;have k0:(Zy w0 (λ_=>False)).holds F:=a8.hold 0 _ (hk k R).1;have k3:(Zy w0 (λ_=>False)).holds W3:=p3.hold 0 _ d1.1;refine⟨b4.os.trans ((by rw [<-z];rfl:y.os=W2.os).trans b3.os),b4.tape.trans ((by rw [<-z];rfl:y.tape=W2.tape).trans b3.tape),b4.output.trans ((by rw [<-z];rfl:y.output=W2.output).trans b3.output),O10,λb c hn=>?_⟩;have c6:b≠w.heap.size+1:=λe=>hn (.inl (.inr e));refine(World.putObj_heap_other c6).trans ?_;by_cases f7:w.heap.size<=b
  .have e1:S b:=(V b).2 ⟨f7,c,λh=>hn (.inr (.inl h))⟩;exact(a7.2 b e1).trans ((a2 b c6).trans (b5.2 b e1))
  .by_cases f1:sc b
   .have f0:¬Mf b:=λh=>by
     rcases(G b).1 h with(h|h)|h
     .exact hn (.inl (.inl h))
     .omega
     .exact h f1
    exact(b4.block b O1 f0).trans ((a2 b c6).trans (b3.block b c f0))
   .have e4:b<w0.heap.size:=by
     rcases bA b w0.heap.size with h|h
     .exact h
     .exact absurd (hw b h) f1
    exact(k3.block b e4 (λh=>h)).trans (k0.block b e4 (λh=>h)).symm
 .rintro e W2 ⟨⟨v,rfl⟩,T,R,b6,hl,hd,g5,hT,g2⟩;have a9:∀b,T b->w.heap.size+2<=b:=λb c=>by have:=(hT b c).1;omega
  refine⟨none,_,by have:=run_endLoop (P:=P) hl (by rw [I];simp);rw [I]at this;exact this,?_⟩;have p3:=c3 T _ W2 (w.heap.size+1) (.loop (B .exhausted none)) a9 O1 O1 g2;have b9:(W2.putObj (w.heap.size+1) (.loop (B .exhausted none))).heap[w.heap.size]? = some (.deferred (some [])):=(World.putObj_heap_other O1).trans hd;rw [I]at p3 b9;have h9:=hD R w.heap.size b6 _ _ (Zxo (p3.sat (a:={ tmps:=a.tmps,defers:=[] }) hs.size rfl hs.env) (e7 _ R) b9 (λi q hq hf=>by
   rcases p3.off i q hq _ hf with h|h
   .omega
   .have:=a9 _ h;omega) (hw _ g7))
  simpa [ap,hs.defers]using h9
def Yep{c:Type}{h:c->Hp}{b:c->Prop}{e:World}(g:c)(hi:b g)(j:HSub ((92,Zy e Mf)::(94,kp e S)::h g) H):X N sc .normal (RBk N sc Mf S h b e) env H:=
 λa w hs=>⟨rfl,g,hi,[],hs.weaken aA j⟩
def x_rak {l:Nat}   {k:Type} {m:k->Hp} {g:k->Prop} {h:World} (b:Qm) (c:Hp) (p:Sub b env) (q:HSub ((92,Zy h Mf)::(94,kp h S)::c) H) (n:lk c 92=none) (j:lk c 94=none)
  (o:∀e,ER P N sc l body (RBk N sc Mf S m g e) b ((92,Zy e Mf)::(94,kp e S)::c)):X N sc .normal (RAk P N sc l Mf S body m g h) env H:=
 λa w hs=>⟨rfl,b,c,n,j,hs.weaken p q,λe=>o e⟩
def JnG{G:Type}(N:Nat)(sc:Nat->Prop)(ds:List Nat)(cs:Qm)(e:Hp)(j:G->Qm)(h:G->Hp)(b:G->Prop):Act->World->Prop:=
 λa w=>∃g,b g/\∃c,a=ap ds c/\Sat N sc (j g ++ cs) (h g ++ e) c w
theorem eg_jn {x y:Code} {G:Type} (cs:Qm) (h:Hp) (l:G->Qm) (k:G->Hp) (c:G->Prop) (o:Sub cs env) (n:HSub h H)
  (q:EG P N sc ds x (Exit.then (JnG N sc ds cs h l k c) Q) env H)
  (s:∀g,c g->EG P N sc ds y Q (l g ++ cs) (k g ++ h)):EG P N sc ds (.seq x y) Q env H:=λa w hs=>by
 refine wp_seq (Code.wp_mono (λe a w j=>?_) (q a w hs));cases e with
 | normal=>obtain⟨g,p,m,rfl,b⟩:=j;exact s g p m w b
 | _=>exact j
def xg_jn{G:Type}{cs:Qm}{e:Hp}{j:G->Qm}{h:G->Hp}{c:G->Prop}{g:G}(k:c g)(hs:Sub (j g ++ cs) env)(l:HSub (h g ++ e) H) :
  XG N sc ds .normal (Exit.then (JnG N sc ds cs e j h c) Q) env H:=λa w b=>⟨g,k,a,rfl,b.weaken hs l⟩
def kO_fp{n:Nat}{b:Nat}(e:n<=W.heap.size)(h:(kO n M W').fp b):(kO n M W).fp b:=
 ⟨cZ (Nat.lt_of_not_le λc=>h.2 (.inl c)) e,h.2⟩
end Go.Sky
namespace Go.Sky
variable{t:TypeId}{k i:Nat}{v:Value}{M:Nat->Prop}{kd:IntKind}{xs:List Zu}{rs:List Ox}{b:Int×Int}
section
variable {P:Program} {N:Nat} {sc:Nat->Prop} {env:Qm} {H:Hp}
def rd_osu{α:Type}{e:TypeId}{enc:α->Value}{xs:List α}(a:Enc P t k enc)(n:Nat)(c:n<=xs.length):Rd (Nk k e enc v xs) k enc (Zab v n k) (xs.drop n):=λw h=>Zh1 n c (Yu a w h)
def OwV(v:Value)(n:Nat):Prop:=∃g c,v= .slice (some ⟨g,0,none⟩) n c/\n<=c
theorem Ym8{n m:Nat}(f:OwV v m)(j:n<m):ead (Zab v n k) i k=ead v (i+n) k:=by obtain⟨g,c,rfl,h⟩:=f;have e:c≠n:=O1;by_cases a:i*k=0<;>by_cases d:n*k=0<;>simp [ead,Zab,e,Addr.add,dO,iO,a,d]
theorem f_osv{α:Type}{e:TypeId}{enc:α->Value}{xs:List α}(i:Nat)(hi:lk H i=some (Nk k e enc v xs))(n:0<xs.length):∀a w,Sat N sc env H a w->OwV v xs.length:=λa w hs=>by
 have c:w.ownsRow 0 e k v xs.length (cellsOf enc xs):=hs.hold i _ hi;rcases c.2 with⟨rfl,q⟩|⟨g,d,j,rfl,o,p,f,l,m,h⟩
 .omega
 .exact⟨g,d,rfl,f⟩
def t_evM{o:Oper}{G:Type}{φ:G->Prop}{e':G->Qm}{d:G->Hp}(h:T P N sc (λ_=>True) o env H φ e' d)(m:∀x,M x):T P N sc M o env H φ e' d:=λa w hs K Q l=>
 h a w hs K Q λg e p f j c=>l g e p f j ⟨c.os,c.tape,c.output,c.size,λk q n=>absurd (m k) n⟩
theorem Zor (i:Nat) {o:Oper} {x y:Operand} {e:TypeId}  {n m:Nat}  {j:Int} (B:o.op= .indexAddr t x y) (F:ev env x=some (Zab v n k)) (G:ev env y=some (.int kd j)) (q:OwV v m) (z:n<m)
  (D:P.underlying t=some (.slice e)) (f:∀w,(sizeOf e).run P w= .ok k w) (d:j=(i:Int)) (u:i+n<m):Ld P N sc o env H (.pointer (some (ead v (i+n) k))):=λa w hs=>by
 have r:=Ym8 (k:=k) (i:=i) q z;rw [<-r];obtain⟨g,c,rfl,h⟩:=q;have p:c≠n:=O1;have s:i<m-n:=O1;subst d;have l:a.eval x= .slice (some ((⟨g,0,none⟩:Addr).add (n*k))) (m-n) (c-n):=by rw [hs.ev F];simp [Zab,p]
 simp [execOp,B,l,hs.ev G,Instr.indexAt,asIntOf,run_underlying D,f,s,ead,Zab,p]
instance hwT {w0:World} : Hw w0 (λ_=>True):=⟨λ_ _=>trivial⟩
end
def sw2(l:List Zu)(a b:Nat):List Zu:=(l.set a (l.getD b Ys)).set b (l.getD a Ys)
def Zc2(xs:List Zu):List Zu:=(List.range xs.length).map λp=>xs.getD ((xs.length-p)%xs.length) Ys
structure RvT (xs:List Zu) (i:Nat) (l:List Zu):Prop where
 len:l.length=xs.length
 at':∀p,p<xs.length->l.getD p Ys=if 1<=p/\(p<=i\/xs.length-p<=i)then xs.getD (xs.length-p) Ys else xs.getD p Ys
theorem rvI_0(xs:List Zu):RvT xs 0 xs:=⟨rfl,λp a=>by rw [aF O1]⟩
theorem Zoh{l:List Zu}{a p:Nat}{z:Zu}(c:p<l.length):(l.set a z).getD p Ys=if a=p then z else l.getD p Ys:=by
 rw [aJ,aJ,List.getElem?_set];by_cases h:a=p
 .subst h;simp [c]
 .simp [h]
theorem rvI_s{l:List Zu}(h:RvT xs i l)(hi:i+1<xs.length-1-i):RvT xs (i+1) (sw2 l (i+1) (xs.length-2-i+1)):=by
 have e:=h.len;refine⟨by unfold sw2;rw [cH,cH,e],λp f=>?_⟩;unfold sw2;rw [Zoh (by rw [cH];omega),Zoh O1];by_cases a:xs.length-2-i+1=p
 .rw [aO a,aO O1,h.at' _ O1,aF O1];congr 1;omega
 .rw [aF a];by_cases c:i+1=p
  .rw [aO c,aO O1,h.at' _ O1,aF O1];congr 1;omega
  .rw [aF c,h.at' p f];by_cases d:1<=p/\(p<=i\/xs.length-p<=i)
   .rw [aO d,aO O1]
   .rw [aF d,aF O1]
theorem rvI_e{l:List Zu}(h:RvT xs i l)(hi:¬i+1<xs.length-1-i):l=Zc2 xs:=by
 refine iN (by rw [h.len];simp [Zc2]) λp a f=>?_;have e:p<xs.length:=by rw [<-h.len];exact a
 have:=h.at' p e;rw [aJ,aL a,fA]at this;rw [this];simp only [Zc2,List.getElem_map,List.getElem_range];by_cases d:p=0
 .subst d;rw [aF O1,gP,lH]
 .rw [bE O1];by_cases c:1<=p/\(p<=i\/xs.length-p<=i)
  .rw [aO c]
  .rw [aF c];congr 1;omega
theorem Zgi(xs:List Zu):(Zc2 xs).length=xs.length:=by simp [Zc2]
theorem Yn2(h:xs.all Lb=true):(Zc2 xs).all Lb=true:=by rw [bC]at h ⊢;intro p a;simp only [Zc2,dP,cF]at a;obtain⟨k,c,rfl⟩:=a;exact h _ (Zg (bK _ O1))
def orL(i:Nat)(l:List Zu):List Zu:=if(decide (0<ar2 (Qh l)) != decide ((i:Int)=0))=true then Zc2 l else l
def rgE(rs:List Ox)(i:Nat):List (Zu×Zu):=Qh (orL i (rs.getD i Kc).2)
def Ho(rs:List Ox)(n:Nat):List (Zu×Zu):=(List.range n).flatMap (rgE rs)
theorem Zyu(rs:List Ox)(n:Nat):Ho rs (n+1)=Ho rs n ++ rgE rs n:=by unfold Ho;rw [lI,List.flatMap_append];simp
theorem Zwb(rs:List Ox)(n:Nat):(Ho rs (n+1)).length=(Ho rs n).length+(rgE rs n).length:=by rw [Zyu,cM]
theorem Zwa(rs:List Ox){n:Nat}(h:i<=n):∃t,Ho rs n=Ho rs i ++ t:=by
 induction n with
 | zero=>exact⟨[],by rw [show i=0 by omega];simp⟩
 | succ n d=>
  by_cases a:i=n+1
  .exact⟨[],by rw [a];simp⟩
  .obtain⟨t,c⟩:=d O1;exact⟨t ++ rgE rs n,by rw [Zyu,c,gC]⟩
theorem Yq9{n:Nat}{e:Zu×Zu}(h:i<n)(a:(rgE rs i)[k]? = some e):(Ho rs n)[(Ho rs i).length+k]? = some e:=by obtain⟨t,d⟩:=Zwa rs (show i+1<=n from h);have c:=(cL.1 a).1;rw [d,Zyu,gC,iA O1,Nat.add_sub_cancel_left,fH c,a]
theorem Zz7(i:Nat)(l:List Zu):(orL i l).length=l.length:=by unfold orL;split;exact Zgi l;rfl
theorem orL_pt{l:List Zu}(h:l.all Lb=true):(orL i l).all Lb=true:=by unfold orL;split;exact Yn2 h;exact h
def orL_t{l:List Zu}(h:(decide (0<ar2 (Qh l)) != decide ((i:Int)=0))=true):orL i l=Zc2 l:=aO h
theorem orL_f{l:List Zu}(h:(decide (0<ar2 (Qh l)) != decide ((i:Int)=0))=false):orL i l=l:=aF (by rw [h];exact bG)
theorem Zsf{n:Nat}{e:Zu×Zu}(c:∀z∈rs,Ij z.2=true)(l:n<=rs.length)(h:(Ho rs n)[k]? = some e):Lb e.1=true/\Lb e.2=true:=by have a:=dD h;unfold Ho at a;obtain⟨i,hi,f⟩:=gI.1 a;have hi:=cF.1 hi;obtain⟨j,g⟩:=eH.1 f;exact Zmn (orL_pt (Bm (c _ (Zg (d:=Kc) (show i<rs.length by omega))))) g
theorem Zvp{p:Zu}{rs:List Ox}{n:Nat}(d:Lb p=true)(a:∀z∈rs,Ij z.2=true)(c:n<=rs.length):∀k,QIn (d2F p ((Ho rs n).take k))
 | 0=>qin_0
 | k+1=>by
  cases h:(Ho rs n)[k]? with
  | none=>
   rw [List.getElem?_eq_none_iff]at h;rw [cN O1,<-cN h];exact Zvp d a c k
  | some e=>
   obtain⟨f,g⟩:=Zsf a c h;rw [Zvo h];exact qin_s (Zvp d a c k) (d2b f g d)
theorem qin_c(h:QIn b):b.2=0\/0<b.2:=by have:=h.p;omega
end Go.Sky

