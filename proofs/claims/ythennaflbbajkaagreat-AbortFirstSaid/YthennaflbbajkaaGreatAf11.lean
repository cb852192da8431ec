/- Rules, arithmetic and contracts: part 12. No conditions but those that each theorem names. -/
import Derived.Test.YthennaflbbajkaaGreatAf10
set_option linter.all false
namespace Go.Sky
section
variable {P:Program} {N:Nat} {sc:Nat->Prop} {env:Qk} {H:Hp} {M:Nat->Prop}
end
abbrev V3T:=Int×Int×Int
def adL(c:List Int)(d:Int):List Int:=c.set 0 (c.getD 0 0+d)
def mvG(v:V3T)(g:Ze):Ze:=(g.1,(g.2.1.1,adL g.2.1.2 (v.1*g.1.2.2)),(g.2.2.1.1,adL g.2.2.1.2 (v.2.1*g.1.2.2)),(g.2.2.2.1,adL g.2.2.2.2 (v.2.2*g.1.2.2)))
def mv1(v:V3T)(g:Ze):Ze:=(g.1,(g.2.1.1,adL g.2.1.2 (v.1*g.1.2.2)),g.2.2.1,g.2.2.2)
def mv2(v:V3T)(g:Ze):Ze:=(g.1,(g.2.1.1,adL g.2.1.2 (v.1*g.1.2.2)),(g.2.2.1.1,adL g.2.2.1.2 (v.2.1*g.1.2.2)),g.2.2.2)
def mvK(v:V3T)(ps:List Ze)(k:Nat):List Ze:=(ps.take k).map (mvG v) ++ ps.drop k
def vcB(x y z:Int):Bool:=Zmd 16777216 [x,y,z]
structure MvX (v:V3T) (g:Ze):Prop where
 x:My (v.1*g.1.2.2)/\My (g.2.1.2.getD 0 0+v.1*g.1.2.2)
 y:My (v.2.1*g.1.2.2)/\My (g.2.2.1.2.getD 0 0+v.2.1*g.1.2.2)
 z:My (v.2.2*g.1.2.2)/\My (g.2.2.2.2.getD 0 0+v.2.2*g.1.2.2)
 lx:0<g.2.1.2.length
 ly:0<g.2.2.1.2.length
 lz:0<g.2.2.2.2.length
end Go.Sky
namespace Go.Sky
structure Mvd (y:Int) (v:Nat->Rat) (a c:List Ze):Prop where
 len:c.length=a.length
 t1:∀k,k<a.length->(c.getD k G0).1.1=(a.getD k G0).1.1+y
 t2:∀k,k<a.length->(c.getD k G0).1.2.1=(a.getD k G0).1.2.1+y
 ck:∀k,k<a.length->∀fr to,Lp fr to (a.getD k G0)=true->Zgj (fr+y) (to+y) (c.getD k G0)=Zgj fr to (a.getD k G0)
 pl:∀k,k<a.length->∀(t:Rat) i,i<3->pzQ (c.getD k G0) i (sR (c.getD k G0) (t+(y:Rat)))=pzQ (a.getD k G0) i (sR (a.getD k G0) t)+v i
section
variable {y:Int} {v w:Nat->Rat} {a b c d:List Ze}
def Mvd.F(h:Mvd y v a c)(e:0<a.length):spF c=spF a+y:=h.t1 0 e
theorem Mvd.L(h:Mvd y v a c)(e:0<a.length):spL c=spL a+y:=by unfold spL;rw [h.len];exact h.t2 _ O
variable (hpa:∀g∈a,Gin g) (hpb:∀g∈b,Gin g) (hba:Xc a=true) (hbb:Xc b=true) (hpc:∀g∈c,Gin g) (hpd:∀g∈d,Gin g) (hbc:Xc c=true) (hbd:Xc d=true)
include hpa hpb hba hbb hpc hpd hbc hbd
end
end Go.Sky
namespace Go.Sky
variable{a:List Ze}{k m:Nat}{d:Int}{r:Rat}
theorem Ylt(c:∀g∈a,Gin g)(b:Xc a=true)(f:k<a.length):spF a<=(a.getD k G0).1.1/\(a.getD k G0).1.2.1<=spL a:=by
 refine⟨?_,Zxp c b (k:=k) (m:=a.length-1) O O⟩;rcases aX k with e|e
 .subst e;exact eV _
 .obtain⟨m,rfl⟩:∃m,k=m+1:=⟨k-1,O⟩;have:=Yhu b f;have:=Zxp c b (k:=0) (m:=m) O O;have:=(Ie (c _ (Zk (d:=G0) (show 0<a.length by omega))) (Cz ((Oi b).1 _ (show 0<a.length by omega)))).t2;unfold spF;omega
structure QOK (n d:Int) (r:Rat) (m:Nat):Prop where
 p:0<d
 v:(n:Rat)=r*(d:Rat)
 a:bl n.natAbs<=m
 b:bl d.natAbs<=m
theorem QOK.ne{n:Int}(h:QOK n d r m):d≠0:=by have:=h.p;omega
def QOK.mono{n:Int}(h:QOK n d r m)(b:m<=k):QOK n d r k:=⟨h.p,h.v,aB h.a b,aB h.b b⟩
def QOK.cg{n:Int}{s:Rat}(h:QOK n d r m)(e:r=s):QOK n d s m:=e▸h
def sq3(f:Nat->Rat):Nat->Rat
 | 0=>0
 | k+1=>sq3 f k+f k*f k
abbrev QzT:=(Int×SL)×(Int×SL)
abbrev encq (z:QzT):Value:= .agg #[.bool (decide (z.1.1<0)),Yx z.1.2,.bool (decide (z.2.1<0)),Yx z.2.2]
abbrev qq (z:QzT):Pc:=Hi qI [z.1,z.2]
abbrev QZ0:QzT:=((0,none,0,0),(1,none,0,0))
def PlQ(g:Ze)(t:Rat)(zs:List QzT)(k:Nat):Prop:=zs.length=k/\∀i,i<k->QOK (zs.getD i QZ0).1.1 (zs.getD i QZ0).2.1 (pzQ g i (sR g t)) 28000
def Plc(ps:List Ze)(t:Rat)(zs:List QzT):Prop:=∃j,j<ps.length/\InG (ps.getD j G0) t/\PlQ (ps.getD j G0) t zs 3
def ClsI(a b:List Ze)(D:Int)(t:Rat)(c:Bool):Prop:=∃j k,j<a.length/\k<b.length/\InG (a.getD j G0) t/\InG (b.getD k G0) t/\(c=true↔dQ (a.getD j G0) (b.getD k G0) (sR (a.getD j G0) t) (sR (b.getD k G0) t)<(D:Rat)*(D:Rat))
section
variable {P:Program} {N:Nat} {sc:Nat->Prop} {env:Qk} {H:Hp}
end
def MvR(ps:List Ze)(v:V3T)(zs:List Ze)(e:Int):Prop:=e=2\/e=3\/e=0/\Xc zs=true/\(∀g∈zs,Gin g)/\zs.map Ds=(ps.map (mvG v)).map Ds
end Go.Sky
namespace Go.Sky
open Go Go.MapKept
variable{b k a ax ay az bx b2 bz:Int}{es:List (Int×Value)}{v1 v2:Value}
variable {P:Program} {N:Nat} {sc:Nat->Prop} {env env':Qk} {H H':Hp} {Q Q':Exit->Act->World->Prop} {M:Nat->Prop}
def mro(b:Nat)(es:List (Int×Value)):Pc:={ mpi b es with own:=false }
theorem s_pubm{b:Nat}(i:Nat)(hi:lk H i=some (mpi b es))(g:Nat.beq i 0=false):∀a w,Sat N sc env H a w->Sat N sc env ((i,mro b es)::H) a w:=λa w hs=>by
 have h:i≠0:=λe=>by subst e;cases g
 exact hs.add i (mro b es) (show(mpi b es).holds w from hs.hold i _ hi) (λj n l m _ c d f=>hs.sep i j _ n (λe=>l e.symm) hi m rfl c d f) (λc d=>hs.scope i _ h hi c d)
theorem d_mlr {o:Oper} {t kt f:TypeId} {x y:Operand} {i b:Nat}   {r:Value} {j:Nat} (q:o.op= .lookup t x y false)
  (s:ev env x=some (.map (some b))) (u:ev env y=some (.int .i64 k)) (g:lk H i=some (mro b es)) (p:P.underlying t=some (.map kt f)) (e:P.underlying kt=some (.int .i64))
  (m:mfi es k 0=some (j,r)):Mv P N sc o env H r:=λa w hs=>by
 obtain⟨c,n,h,l⟩:∃c n,w.heap[b]? = some (.map c n)/\mpe c es:=hs.hold i _ g;have d:=fn_i k _ _ 0 l;rw [m]at d;simp [execOp,q,hs.ev s,hs.ev u,Instr.lookup,run_underlying p,Go.MapKept.run_getObj_map h,run_checkKey e (show IsKey (.int .i64) (.int .i64 k)from rfl),run_findKey e d]
def rwK(k:Int):List Int:=if k=0 then []else if k=1 then [1]else Zzg
def row3(k:Int)(v1 v2:Value):Value:=if k=0 then .slice none 0 0 else if k=1 then v1 else v2
theorem mf_row(c:k=0\/k=1\/k=2):mfi [(0,.slice none 0 0),(1,v1),(2,v2)] k 0=some (k.toNat,row3 k v1 v2):=by rcases c with rfl|rfl|rfl<;>rfl
theorem s_row(l:k=0\/k=1\/k=2)(f i2 j:Nat)(g:lk H f=some (Yn 1 Xi v1 [1]))(i:lk H i2=some (Yn 1 Xi v2 Zzg))(d:Nat.beq f 0=false)(e:Nat.beq i2 0=false) :
  ∀a w,Sat N sc env H a w->Sat N sc env ((j,Yn 1 Xi (row3 k v1 v2) (rwK k))::H) a w:=λa w hs=>by
 rcases l with rfl|rfl|rfl
 .exact hs.add j (Yn 1 Xi (.slice none 0 0) []) (Dg 1 Xi w) (λ_ _ _ _ _ b c _=>absurd rfl c.1) (λb c=>absurd rfl c.1)
 .exact Zcb f j g d rfl (λw h=>h) (λb c=>c) rfl a w hs
 .exact Zcb i2 j i e rfl (λw h=>h) (λb c=>c) rfl a w hs
theorem Zx5 : ∀f∈rwK k,-15<=f/\f<=15:=by
 unfold rwK;split
 .intro f c;cases c
 .split
  .intro f c;rw [bZ.1 c];decide
  .decide
theorem trm_s{c:List Int}{k:Nat}(d:k<c.length):(a::((c.take (k+1)).map λf=>f*(b-a)))=(a::((c.take k).map λf=>f*(b-a))) ++ [c.getD k 0*(b-a)]:=by rw [Pr 0 _ _ d,dW];rfl
theorem trm_e (c:List Int)(h:a=b):Zao a b c=[a]:=by unfold Zao;rw [aO h]
theorem trm_n{c:List Int}{k:Nat}(h:a≠b)(d:c.length<=k):Zao a b c=a::((c.take k).map λf=>f*(b-a)):=by unfold Zao;rw [aJ h,cK d]
abbrev numV (p:Nat):Value:= .agg #[.int .u64 ((p/U:Nat):Int),.int .u64 ((p%U:Nat):Int)]
def prN(l:List Nat):Nat:=l.foldl (· * ·) 1
def leL:List Nat->List Nat->Prop
 | [],[]=>True
 | x::xs,y::ys=>x<=y/\leL xs ys
 | _,_=>False
def kpQ(q s t:Nat):Bool:=!decide (prN [64,s,s,t,t]<q)
def kqQ(q a t:Nat):Bool:=!decide (prN [3,a,a,t,t,t,t]<q)
def keepsB(d s a t:Nat):Bool:=kpQ (prN [225,d,1000000]) s t && kqQ (prN [100,d,1000000,1000000]) a t
theorem Zsu (a:Int)(b:Int)(g:-33554432<=a/\a<=33554432)(h:-33554432<=b/\b<=33554432):-1125899906842624<=a*b/\a*b<=1125899906842624:=by have c:=cZ (show 0<=33554432-a by omega) (show 0<=33554432-b by omega);have d:=cZ (show 0<=33554432+a by omega) (show 0<=33554432+b by omega);have e:=cZ (show 0<=33554432-a by omega) (show 0<=33554432+b by omega);have f:=cZ (show 0<=33554432+a by omega) (show 0<=33554432-b by omega);simp only [Int.sub_mul,Int.mul_sub,kY,jW]at c d e f;constructor<;>omega
def Zeu(ax ay az bx b2 bz fr c:Int):Bool:=ptB ax ay az && (ptB bx b2 bz && decide (0<=fr/\fr<c/\c<=3600000))
theorem Ztg{fr d:Int}(c:ptB ax ay az=false):Zeu ax ay az bx b2 bz fr d=false:=by unfold Zeu;rw [c];rfl
theorem Ztf{fr d:Int}(c:ptB bx b2 bz=false):Zeu ax ay az bx b2 bz fr d=false:=by unfold Zeu;rw [c,iR,cN]
theorem Zte{fr c:Int}(h:¬(0<=fr/\fr<c/\c<=3600000)):Zeu ax ay az bx b2 bz fr c=false:=by unfold Zeu;rw [aF h,cN,cN]
theorem Ymv{fr c:Int}(h:Zeu ax ay az bx b2 bz fr c=true):ptB ax ay az=true/\ptB bx b2 bz=true/\0<=fr/\fr<c/\c<=3600000:=by unfold Zeu at h;simp only [aQ,cS]at h;exact⟨h.1,h.2.1,h.2.2⟩
def glG(ax ay az bx b2 bz fr c k:Int)(r:SL×SL×SL):Ze:=((fr,c,1),(r.1,Zao ax bx (rwK k)),(r.2.1,Zao ay b2 (rwK k)),(r.2.2,Zao az bz (rwK k)))
theorem Zvh : (rwK k).length<=5:=by unfold rwK;split;decide;split<;>decide
theorem Zne{fr c:Int}(d:ptB ax ay az=true)(e:ptB bx b2 bz=true)(f:0<=fr)(g:fr<c):Zeu ax ay az bx b2 bz fr c=decide (c<=3600000):=by unfold Zeu;rw [d,e,eP,eP];exact aZ.2 ⟨λh=>h.2.2,λh=>⟨f,g,h⟩⟩
def tmB(ax ay az bx b2 bz d c:Int):Bool:=ptB ax ay az && (ptB bx b2 bz && decide ((1<=d/\d<=10000)/\(1<=c/\c<=10000)))
theorem Yay{a b:Bool}(h:(a && b)=false):a=false\/(a=true/\b=false):=by cases a<;>simp_all
theorem Ydf{x y z:Int}(h:ptB x y z=true):vcB x y z=true:=by obtain⟨c,d,e⟩:=Ai h;unfold vcB Zmd;simp;omega
@[reducible,instance] def roiM {b:Nat} {es:List (Int×Value)} : RoI (mro b es):=⟨rfl⟩
end Go.Sky
namespace Go.Sky
variable{m:Nat}{z:Int}
abbrev Yc:=Int×Int×Int
abbrev Yk (p:Yc):Value:= .agg #[.int .i64 p.1,.int .i64 p.2.1,.int .i64 p.2.2]
abbrev Yq:Yc:=(0,0,0)
abbrev Lo (p:Yc):Bool:=ptB p.1 p.2.1 p.2.2
def sgI(n:Int):Int:=if n<0 then -1 else if n>0 then 1 else 0
theorem sgI_n{n:Int}(h:n<0):sgI n=-1:=by unfold sgI;rw [aO h]
theorem sgI_p{n:Int}(h:n>0):sgI n=1:=by unfold sgI;rw [aJ O,aO h]
theorem sgI_0{n:Int}(h:¬n<0)(a:¬n>0):sgI n=0:=by unfold sgI;rw [aJ h,aJ a]
theorem Zrx(n:Int):-1<=sgI n/\sgI n<=1:=by unfold sgI;split;omega;split<;>omega
def crs2(a b c:Yc):Int:=(b.1-a.1)*(c.2.1-a.2.1)-(b.2.1-a.2.1)*(c.1-a.1)
def trn(a b c:Yc):Int:=sgI (crs2 a b c)
def Zmp(a b c:Yc):-1<=trn a b c/\trn a b c<=1:=Zrx _
def Aj(a b p:Yc):Bool:=decide (trn a b p=0) && (decide (p.1>=min a.1 b.1) && (decide (p.1<=max a.1 b.1) && (decide (p.2.1>=min a.2.1 b.2.1) && decide (p.2.1<=max a.2.1 b.2.1))))
def mtB(a b c d:Yc):Bool:=decide (trn a b c*trn a b d<0) && decide (trn c d a*trn c d b<0)
def Zhb(a b c d:Yc):Bool:=Aj a b c || (Aj a b d || (Aj c d a || (Aj c d b || mtB a b c d)))
theorem Zlz{x y:Int}(a:-1<=x/\x<=1)(b:-1<=y/\y<=1):-1<=x*y/\x*y<=1:=by have:x=-1\/x=0\/x=1:=O;rcases this with rfl|rfl|rfl<;>omega
def flt(p:Yc):Yc:=(p.1,p.2.1,0)
def edg(l:List Yc)(i:Nat):Yc×Yc:=(flt (l.getD i Yq),flt (l.getD ((i+1)%l.length) Yq))
def Px(l:List Yc):List (Yc×Yc):=(List.range l.length).map (edg l)
theorem Dh(l:List Yc):(Px l).length=l.length:=by simp [Px]
theorem Ztu{l:List Yc}{i:Nat}(h:i<l.length):(Px l)[i]? = some (edg l i):=by simp [Px,h]
def okE(l:List Yc)(i:Nat):Bool:=!(decide ((l.getD i Yq).1=(l.getD ((i+1)%l.length) Yq).1) && decide ((l.getD i Yq).2.1=(l.getD ((i+1)%l.length) Yq).2.1))
def Zf8(l:List Yc)(i k:Nat):Bool:=
 if k=i+1/\2<l.length then !Aj (l.getD i Yq) (l.getD ((i+1)%l.length) Yq) (l.getD ((k+1)%l.length) Yq) && !Aj (l.getD k Yq) (l.getD ((k+1)%l.length) Yq) (l.getD i Yq)
 else if(k+1)%l.length=i then !Aj (l.getD i Yq) (l.getD ((i+1)%l.length) Yq) (l.getD k Yq) && !Aj (l.getD k Yq) (l.getD ((k+1)%l.length) Yq) (l.getD ((i+1)%l.length) Yq)
 else !Zhb (l.getD i Yq) (l.getD ((i+1)%l.length) Yq) (l.getD k Yq) (l.getD ((k+1)%l.length) Yq)
def Zj6(l:List Yc)(i:Nat):Bool:=okE l i && (List.range l.length).all λk=>decide (k<=i) || Zf8 l i k
def Kw(l:List Yc):Bool:=decide (3<=l.length/\l.length<=64) && (l.all Lo && (List.range l.length).all (Zj6 l))
theorem Zxu{l:List Yc}(h:Kw l=true):(3<=l.length/\l.length<=64)/\∀p∈l,Lo p=true:=by unfold Kw at h;simp only [aQ,cS]at h;exact⟨h.1,bA.1 h.2.1⟩
theorem Yd6{l:List Yc}(h:¬(3<=l.length/\l.length<=64)):Kw l=false:=by unfold Kw;rw [aF h];rfl
theorem Yd5{l:List Yc}(h:l.all Lo=false):Kw l=false:=by unfold Kw;rw [h,iR,cN]
theorem Qe{l:List Yc}{i:Nat}(hi:i<l.length)(h:Zj6 l i=false):Kw l=false:=by unfold Kw;have:(List.range l.length).all (Zj6 l)=false:=eE.2 ⟨i,cM.2 hi,by rw [h];decide⟩;rw [this,cN,cN]
theorem row_o{l:List Yc}{i:Nat}(h:okE l i=false):Zj6 l i=false:=by unfold Zj6;rw [h];rfl
theorem Qh (k:Nat){l:List Yc}{i:Nat}(b:i<k)(a:k<l.length)(h:Zf8 l i k=false):Zj6 l i=false:=by unfold Zj6;have:((List.range l.length).all λk=>decide (k<=i) || Zf8 l i k)=false:=eE.2 ⟨k,cM.2 a,by rw [h,aF O];decide⟩;rw [this,cN]
theorem Zx8{l:List Yc}{i:Nat}(d:l.length<=m)(h:okE l i=true)(a:∀k,i<k->k<m->Zf8 l i k=true):Zj6 l i=true:=by
 unfold Zj6;rw [h,eP,bA];intro k c;have:=cM.1 c;by_cases b:k<=i
 .rw [aD b];rfl
 .rw [a k O O,mI]
theorem smp_t{l:List Yc}(d:l.length<=m)(h:3<=l.length/\l.length<=64)(c:l.all Lo=true)(a:∀i,i<m->Zj6 l i=true):Kw l=true:=by unfold Kw;rw [aD h,c,eP,eP,bA];intro k b;exact a k (by have:=cM.1 b;omega)
def Zf{l:List Yc}(h:l.all Lo=true){i:Nat}(hi:i<l.length):Lo (l.getD i Yq)=true:=bA.1 h _ (Zk hi)
def Yb{i n:Nat}(h:i<n):(i+1)%n<n:=bI _ O
theorem Hg{l:List Yc}{i k:Nat}(h:k=i+1/\2<l.length):Zf8 l i k=(!Aj (l.getD i Yq) (l.getD ((i+1)%l.length) Yq) (l.getD ((k+1)%l.length) Yq) && !Aj (l.getD k Yq) (l.getD ((k+1)%l.length) Yq) (l.getD i Yq)):=by unfold Zf8;rw [aO h]
theorem Pj{l:List Yc}{i k:Nat}(h:¬(k=i+1/\2<l.length))(a:(k+1)%l.length=i):Zf8 l i k=(!Aj (l.getD i Yq) (l.getD ((i+1)%l.length) Yq) (l.getD k Yq) && !Aj (l.getD k Yq) (l.getD ((k+1)%l.length) Yq) (l.getD ((i+1)%l.length) Yq)):=by unfold Zf8;rw [aJ h,aO a]
theorem Lc{l:List Yc}{i k:Nat}(h:¬(k=i+1/\2<l.length))(a:¬(k+1)%l.length=i):Zf8 l i k=!Zhb (l.getD i Yq) (l.getD ((i+1)%l.length) Yq) (l.getD k Yq) (l.getD ((k+1)%l.length) Yq):=by unfold Zf8;rw [aJ h,aJ a]
def lcE(p:Yc)(e:Yc×Yc):Bool:=decide (trn e.1 e.2 p=0) && (decide (sgI (e.1.1-p.1)*sgI (e.2.1-p.1)<=0) && decide (sgI (e.1.2.1-p.2.1)*sgI (e.2.2.1-p.2.1)<=0))
def lcD(p:Yc)(e:Yc×Yc):Int:=
 if sgI (e.1.2.1-p.2.1)<=0/\sgI (e.2.2.1-p.2.1)>0/\trn e.1 e.2 p>0 then 1 else if sgI (e.1.2.1-p.2.1)>0/\sgI (e.2.2.1-p.2.1)<=0/\trn e.1 e.2 p<0 then -1 else 0
theorem lcD_b(p:Yc)(e:Yc×Yc):-1<=lcD p e/\lcD p e<=1:=by unfold lcD;split;omega;split<;>omega
def lcW(p:Yc)(a:List (Yc×Yc)):Int:=(a.map (lcD p)).foldl (· + ·) 0
theorem lcW_s{p:Yc}{a:List (Yc×Yc)}{k:Nat}{e:Yc×Yc}(h:a[k]? = some e):lcW p (a.take (k+1))=lcW p (a.take k)+lcD p e:=by unfold lcW;rw [gK,h,lW,dW,jX];rfl
theorem lcW_b(p:Yc):∀(a:List (Yc×Yc)) (k:Nat),-(k:Int)<=lcW p (a.take k)/\lcW p (a.take k)<=k
 | a,0=>by simp [lcW]
 | a,k+1=>by
  have b:=lcW_b p a k;cases h:a[k]? with
  | none=>
   have:a.take (k+1)=a.take k:=by rw [gK,h];simp
   rw [this];omega
  | some e=>rw [lcW_s h];have:=lcD_b p e;omega
def atL(l:List Yc)(p:Yc):Int:=if(Px l).any (lcE p)=true then 0 else if lcW p (Px l)≠0 then 1 else -1
theorem atL_e{l:List Yc}{p:Yc}{k:Nat}{e:Yc×Yc}(h:(Px l)[k]? = some e)(a:lcE p e=true):atL l p=0:=by unfold atL;rw [aO (gV.2 ⟨e,dH h,a⟩)]
theorem atL_n{l:List Yc}{p:Yc}(g:l.length<=m)(h:∀k e,k<m->(Px l)[k]? = some e->lcE p e=false):atL l p=if lcW p ((Px l).take m)≠0 then 1 else -1:=by
 unfold atL;have:¬(Px l).any (lcE p)=true:=λc=>by obtain⟨e,d,a⟩:=gV.1 c;obtain⟨k,b⟩:=eO.1 d;have f:=(cJ.1 b).1;rw [Dh]at f;rw [h k e O b]at a;cases a
 rw [aJ this,cK (by rw [Dh];exact g)]
theorem Yft{a b c:Yc}(h:¬trn a b c=0):Aj a b c=false:=by unfold Aj;rw [aF h];rfl
theorem Yfs{a b c:Yc}(h:¬c.1>=min a.1 b.1):Aj a b c=false:=by unfold Aj;rw [aF h];simp
theorem Yfr{a b c:Yc}(h:¬c.1<=max a.1 b.1):Aj a b c=false:=by unfold Aj;rw [aF h];simp
theorem Yfq{a b c:Yc}(h:¬c.2.1>=min a.2.1 b.2.1):Aj a b c=false:=by unfold Aj;rw [aF h];simp
theorem Yfp{a b c:Yc}(d:trn a b c=0)(e:c.1>=min a.1 b.1)(f:c.1<=max a.1 b.1)(g:c.2.1>=min a.2.1 b.2.1):Aj a b c=decide (c.2.1<=max a.2.1 b.2.1):=by unfold Aj;rw [aD d,aD e,aD f,aD g];rfl
theorem Yb0(a b c d:Yc):Aj a b c=true\/(Aj a b c=false/\Aj a b d=true)\/(Aj a b c=false/\Aj a b d=false/\Aj c d a=true)\/(Aj a b c=false/\Aj a b d=false/\Aj c d a=false/\Aj c d b=true)\/
  (Aj a b c=false/\Aj a b d=false/\Aj c d a=false/\Aj c d b=false/\trn a b c*trn a b d<0)\/(Aj a b c=false/\Aj a b d=false/\Aj c d a=false/\Aj c d b=false/\¬trn a b c*trn a b d<0):=by
 cases Aj a b c<;>cases Aj a b d<;>cases Aj c d a<;>cases Aj c d b<;>simp<;>omega
theorem al_f{l:List Yc}{i:Nat}(hi:i<l.length)(h:Lo (l.getD i Yq)=false):l.all Lo=false:=eE.2 ⟨_,Zk hi,by rw [h];exact bF⟩
theorem al_t{l:List Yc}(h:∀j,j<l.length->Lo (l.getD j Yq)=true):l.all Lo=true:=bA.2 λx b=>by obtain⟨j,a,rfl⟩:=dG.1 b;have:=h j a;rwa [aN,aM a]at this
theorem Nh(i n:Nat):((i:Int)+1)%(n:Int)=(((i+1)%n:Nat):Int):=by rw [Int.natCast_emod];rfl
theorem Yhd{p:Yc}(h:Lo p=true):Lo (flt p)=true:=by obtain⟨a,b,c⟩:=Ai h;show ptB p.1 p.2.1 0=true;unfold ptB Zmd;simp;omega
theorem Zli{l:List Yc}(b:l.all Lo=true){k:Nat}{e:Yc×Yc}(h:(Px l)[k]? = some e):Lo e.1=true/\Lo e.2=true:=by have a:=(cJ.1 h).1;rw [Dh]at a;rw [Ztu a]at h;obtain rfl:edg l k=e:=Option.some.inj h;exact⟨Yhd (Zf b a),Yhd (Zf b (Yb a))⟩
theorem Zwh{l:List Yc}(j:l.all Lo=true){k:Nat}{e:Yc×Yc}(h:(Px l)[k]? = some e):((-1048576<=e.1.1/\e.1.1<=1048576)/\(-1048576<=e.1.2.1/\e.1.2.1<=1048576))/\((-1048576<=e.2.1/\e.2.1<=1048576)/\(-1048576<=e.2.2.1/\e.2.2.1<=1048576))/\k<l.length:=by obtain⟨g,i⟩:=Zli j h;obtain⟨b,c,-⟩:=Ai g;obtain⟨d,f,-⟩:=Ai i;have a:=(cJ.1 h).1;rw [Dh]at a;exact⟨⟨b,c⟩,⟨d,f⟩,a⟩
def arD(e:Yc×Yc):Int:=e.1.1*e.2.2.1-e.1.2.1*e.2.1
def ar2(a:List (Yc×Yc)):Int:=(a.map arD).foldl (· + ·) 0
theorem ar2_s{a:List (Yc×Yc)}{k:Nat}{e:Yc×Yc}(h:a[k]? = some e):ar2 (a.take (k+1))=ar2 (a.take k)+arD e:=by unfold ar2;rw [gK,h,lW,dW,jX];rfl
theorem arD_b{l:List Yc}(a:l.all Lo=true){k:Nat}{e:Yc×Yc}(h:(Px l)[k]? = some e):-2251799813685248<=arD e/\arD e<=2251799813685248:=by obtain⟨⟨b,c⟩,⟨d,f⟩,-⟩:=Zwh a h;have g:=Zsu e.1.1 e.2.2.1 ⟨O,O⟩ ⟨O,O⟩;have i:=Zsu e.1.2.1 e.2.1 ⟨O,O⟩ ⟨O,O⟩;unfold arD;omega
theorem ar2_b{l:List Yc}(a:l.all Lo=true):∀k:Nat,-(2251799813685248*(k:Int))<=ar2 ((Px l).take k)/\ar2 ((Px l).take k)<=2251799813685248*(k:Int)
 | 0=>by simp [ar2]
 | k+1=>by
  have b:=ar2_b a k;cases h:(Px l)[k]? with
  | none=>
   have:(Px l).take (k+1)=(Px l).take k:=by rw [gK,h];simp
   rw [this];omega
  | some e=>rw [ar2_s h];have:=arD_b a h;omega
theorem lcE_t{p:Yc}{e:Yc×Yc}(a:trn e.1 e.2 p=0)(b:sgI (e.1.1-p.1)*sgI (e.2.1-p.1)<=0)(c:sgI (e.1.2.1-p.2.1)*sgI (e.2.2.1-p.2.1)<=0):lcE p e=true:=by unfold lcE;rw [aD a,aD b,aD c];rfl
theorem Oy{p:Yc}{e:Yc×Yc}(a:¬trn e.1 e.2 p=0):lcE p e=false:=by unfold lcE;rw [aF a];rfl
theorem Ox{p:Yc}{e:Yc×Yc}(a:¬sgI (e.1.1-p.1)*sgI (e.2.1-p.1)<=0):lcE p e=false:=by unfold lcE;rw [aF a];simp
theorem Ow{p:Yc}{e:Yc×Yc}(a:¬sgI (e.1.2.1-p.2.1)*sgI (e.2.2.1-p.2.1)<=0):lcE p e=false:=by unfold lcE;rw [aF a];simp
theorem Ygj{p:Yc}{e:Yc×Yc}(h:sgI (e.1.2.1-p.2.1)<=0/\sgI (e.2.2.1-p.2.1)>0/\trn e.1 e.2 p>0):lcD p e=1:=by unfold lcD;rw [aO h]
theorem Zf5{p:Yc}{e:Yc×Yc}(h:sgI (e.1.2.1-p.2.1)>0/\sgI (e.2.2.1-p.2.1)<=0/\trn e.1 e.2 p<0):lcD p e=-1:=by unfold lcD;rw [aJ O,aO h]
theorem Ks{p:Yc}{e:Yc×Yc}(h:¬(sgI (e.1.2.1-p.2.1)<=0/\sgI (e.2.2.1-p.2.1)>0/\trn e.1 e.2 p>0))(a:¬(sgI (e.1.2.1-p.2.1)>0/\sgI (e.2.2.1-p.2.1)<=0/\trn e.1 e.2 p<0)):lcD p e=0:=by unfold lcD;rw [aJ h,aJ a]
def LcI(l:List Yc)(p:Yc)(k:Nat)(z:Int):Prop:=z=lcW p ((Px l).take k)/\∀j e,j<k->(Px l)[j]? = some e->lcE p e=false
def lcI_0{l:List Yc}{p:Yc} : LcI l p 0 0:=⟨rfl,λj e h=>absurd h (bK j)⟩
theorem Ov{l:List Yc}{p:Yc}{k:Nat}{y:Int}{e:Yc×Yc}(h:LcI l p k z)(c:(Px l)[k]? = some e)(f:lcE p e=false)(i:lcD p e=y):LcI l p (k+1) (z+y):=by
 refine⟨by rw [lcW_s c,h.1,i],λj d g a=>?_⟩;rcases aC.1 g with b|b
 .exact h.2 j d b a
 .subst b;rw [c]at a;cases a;exact f
theorem lcI_e{l:List Yc}{p:Yc}(h:LcI l p (Px l).length z):atL l p=if z≠0 then 1 else -1:=by rw [atL_n (m:=(Px l).length) (by rw [Dh];exact aI _) h.2,<-h.1]
theorem lcI_b{l:List Yc}{p:Yc}{k:Nat}(h:LcI l p k z):-(k:Int)<=z/\z<=k:=by rw [h.1];exact lcW_b ..
@[reducible,instance] def clIF {f:Fn} {a b:Array Value} : ClI (.func f a b) [.func f a b]:=⟨rfl⟩
abbrev Nn:=SL×List Yc
abbrev Au (z:Nn):Pc:=Yn 3 Yk (Yx z.1) z.2
abbrev Kc:Nn:=((none,0,0),[])
def nmB(e:Yc×Yc)(a:List Yc):Bool:=(Px a).all λc=>!Zhb e.1 e.2 c.1 c.2
def ekB(o:List Yc)(a:List (List Yc))(e:Yc×Yc):Bool:=decide (0<=atL o e.1) && a.all (nmB e)
def Zac(o:List Yc)(hs:List Nn)(i:Nat):Bool:=Kw (hs.getD i Kc).2 && (Px (hs.getD i Kc).2).all (ekB o (o::(hs.take i).map Prod.snd))
def Zif(hs:List Nn)(i k:Nat):Bool:=decide (i=k) || decide (atL (hs.getD k Kc).2 ((hs.getD i Kc).2.getD 0 Yq)<0)
def Ga(o:List Yc)(hs:List Nn)(a hi:Int):Bool:=
 Kw o && (decide (hs.length<=16/\-1048576<=a/\hi<=1048576/\a<=hi) && ((List.range hs.length).all (Zac o hs) && (List.range hs.length).all λi=>(List.range hs.length).all (Zif hs i)))
section
variable {o:List Yc} {hs:List Nn} {lo hi:Int} {so:SL} {i k:Nat} {e:Yc×Yc}
theorem Ztk(h:Kw o=false):Ga o hs lo hi=false:=by unfold Ga;rw [h];rfl
theorem Ztl(h:¬(hs.length<=16/\-1048576<=lo/\hi<=1048576/\lo<=hi)):Ga o hs lo hi=false:=by unfold Ga;rw [aF h,iR,cN]
theorem Yhb(a:i<hs.length)(h:Zac o hs i=false):Ga o hs lo hi=false:=by unfold Ga;have:(List.range hs.length).all (Zac o hs)=false:=eE.2 ⟨i,cM.2 a,by rw [h];exact bF⟩;rw [this,iR,cN,cN]
theorem fnc_f(a:i<hs.length)(c:k<hs.length)(h:Zif hs i k=false):Ga o hs lo hi=false:=by unfold Ga;have b:(List.range hs.length).all (Zif hs i)=false:=eE.2 ⟨k,cM.2 c,by rw [h];exact bF⟩;have:((List.range hs.length).all λi=>(List.range hs.length).all (Zif hs i))=false:=eE.2 ⟨i,cM.2 a,by rw [b];exact bF⟩;rw [this,cN,cN,cN]
theorem fnc_t(a:Kw o=true)(b:hs.length<=16/\-1048576<=lo/\hi<=1048576/\lo<=hi)(c:∀i,i<hs.length->Zac o hs i=true)(d:∀i,i<hs.length->∀k,k<hs.length->Zif hs i k=true):Ga o hs lo hi=true:=by unfold Ga;rw [a,aD b,eP,eP,aQ,bA,bA];exact⟨λi hi=>c i (cM.1 hi),λi hi=>bA.2 λk f=>d i (cM.1 hi) k (cM.1 f)⟩
theorem Du(h:Ga o hs lo hi=true):Kw o=true/\(hs.length<=16/\-1048576<=lo/\hi<=1048576/\lo<=hi)/\(∀i,i<hs.length->Zac o hs i=true)/\∀i,i<hs.length->∀k,k<hs.length->Zif hs i k=true:=by unfold Ga at h;simp only [aQ,cS,bA,cM]at h;exact⟨h.1,h.2.1,h.2.2.1,h.2.2.2⟩
theorem hole_s(h:Kw (hs.getD i Kc).2=false):Zac o hs i=false:=by unfold Zac;rw [h];rfl
theorem Ygu(a:(Px (hs.getD i Kc).2)[k]? = some e)(h:ekB o (o::(hs.take i).map Prod.snd) e=false):Zac o hs i=false:=by unfold Zac;have:(Px (hs.getD i Kc).2).all (ekB o (o::(hs.take i).map Prod.snd))=false:=eE.2 ⟨e,dH a,by rw [h];exact bF⟩;rw [this,cN]
def EkI(o:List Yc)(a:List (List Yc))(b:List (Yc×Yc))(k:Nat):Prop:=∀j e,j<k->b[j]? = some e->ekB o a e=true
def ekI_0{a:List (List Yc)}{b:List (Yc×Yc)} : EkI o a b 0:=λj e h=>absurd h (bK j)
theorem ekI_s{b:List (List Yc)}{c:List (Yc×Yc)}(h:EkI o b c k)(l:c[k]? = some e)(g:ekB o b e=true):EkI o b c (k+1):=λj f n a=>by
 rcases aC.1 n with d|d
 .exact h j f d a
 .subst d;rw [l]at a;cases a;exact g
theorem hole_t(b:Kw (hs.getD i Kc).2=true)(h:EkI o (o::(hs.take i).map Prod.snd) (Px (hs.getD i Kc).2) (Px (hs.getD i Kc).2).length):Zac o hs i=true:=by unfold Zac;rw [b,eP,bA];intro e c;obtain⟨j,a⟩:=eO.1 c;exact h j e (cJ.1 a).1 a
theorem Zbq(h:Zac o hs i=true):Kw (hs.getD i Kc).2=true:=by unfold Zac at h;rw [aQ]at h;exact h.1
def Zy0(so:SL)(o:List Yc)(a:List Nn):o::a.map Prod.snd=((so,o)::a).map Prod.snd:=rfl
theorem ek_a{a:List (List Yc)}(h:atL o e.1<0):ekB o a e=false:=by unfold ekB;rw [aF O];rfl
theorem ek_m{a:List Nn}(b:m<((so,o)::a).length)(h:nmB e (((so,o)::a).getD m Kc).2=false):ekB o (o::a.map Prod.snd) e=false:=by unfold ekB;rw [Zy0 so];have:(((so,o)::a).map Prod.snd).all (nmB e)=false:=eE.2 ⟨_,eJ.2 ⟨_,Zk b,rfl⟩,by rw [h];exact bF⟩;rw [this,cN]
theorem ek_t{b:List Nn}(h:¬atL o e.1<0)(l:((so,o)::b).length<=m)(d:∀j,j<m->j<((so,o)::b).length->nmB e (((so,o)::b).getD j Kc).2=true):ekB o (o::b.map Prod.snd) e=true:=by unfold ekB;rw [aD O,eP,Zy0 so,bA];intro a f;obtain⟨z,g,rfl⟩:=eJ.1 f;obtain⟨j,c,rfl⟩:=dG.1 g;have:=d j O c;rwa [aN,aM c]at this
theorem nm_f{a:List Yc}{c:Yc×Yc}(b:(Px a)[k]? = some c)(h:Zhb e.1 e.2 c.1 c.2=true):nmB e a=false:=
 eE.2 ⟨c,dH b,by rw [h];exact bF⟩
def NmI(e:Yc×Yc)(a:List (Yc×Yc))(k:Nat):Prop:=∀j c,j<k->a[j]? = some c->Zhb e.1 e.2 c.1 c.2=false
def nmI_0{a:List (Yc×Yc)} : NmI e a 0:=λj c h=>absurd h (bK j)
theorem nmI_s{b:List (Yc×Yc)}{c:Yc×Yc}(h:NmI e b k)(l:b[k]? = some c)(g:Zhb e.1 e.2 c.1 c.2=false):NmI e b (k+1):=λj f n a=>by
 rcases aC.1 n with d|d
 .exact h j f d a
 .subst d;rw [l]at a;cases a;exact g
theorem nm_t{a:List Yc}(h:NmI e (Px a) (Px a).length):nmB e a=true:=bA.2 λc d=>by obtain⟨j,b⟩:=eO.1 d;rw [h j c (cJ.1 b).1 b];rfl
theorem Yjm(h:i<hs.length):((so,o)::hs.take i) ++ [hs.getD i Kc]=(so,o)::hs.take (i+1):=by rw [Pr Kc _ _ h];rfl
theorem sms_s{xs:List Nn}{z:Nn}(h:∀y∈xs,Kw y.2=true)(c:Kw z.2=true):∀y∈xs ++ [z],Kw y.2=true:=λy b=>by
 rcases cW.1 b with a|a
 .exact h y a
 .rw [bZ.1 a];exact c
def Cw{l:List Yc}(h:Kw l=true):l.all Lo=true:=bA.2 (Zxu h).2
def Kh{l:List Yc}(h:Kw l=true):3<=l.length/\l.length<=64:=(Zxu h).1
theorem Zzp(h:i=k\/¬atL (hs.getD k Kc).2 ((hs.getD i Kc).2.getD 0 Yq)>=0):Zif hs i k=true:=by
 unfold Zif;rcases h with h|h
 .rw [aD h];rfl
 .rw [aD (show atL (hs.getD k Kc).2 ((hs.getD i Kc).2.getD 0 Yq)<0 by omega),mI]
theorem far_f(h:¬i=k)(a:atL (hs.getD k Kc).2 ((hs.getD i Kc).2.getD 0 Yq)>=0):Zif hs i k=false:=by unfold Zif;rw [aF h,aF O];rfl
end
def inB(po:List Yc)(ph:List Nn)(q:Yc):Bool:=decide (atL po q>=0) && !(ph.any λz=>decide (atL z.2 q>0))
def Zhf(po:List Yc)(ph:List Nn)(fl fu:Int)(q:Yc):Bool:=decide (q.2.2>=fl) && (decide (q.2.2<=fu) && inB po ph q)
section
variable {po:List Yc} {ph:List Nn} {fl fu:Int} {q:Yc}
theorem in_0(h:¬atL po q>=0):inB po ph q=false:=by unfold inB;rw [aF h];rfl
theorem in_1(h:atL po q>=0):inB po ph q=!(ph.any λz=>decide (atL z.2 q>0)):=by unfold inB;rw [aD h];rfl
theorem Zv5(h:¬q.2.2>=fl):Zhf po ph fl fu q=false:=by unfold Zhf;rw [aF h];rfl
theorem Zv4(h:¬q.2.2<=fu):Zhf po ph fl fu q=false:=by unfold Zhf;rw [aF h,iR,cN]
theorem Zv3(h:q.2.2>=fl)(a:q.2.2<=fu):Zhf po ph fl fu q=inB po ph q:=by unfold Zhf;rw [aD h,aD a];rfl
def any_i{i:Nat}(hi:i<ph.length)(h:atL (ph.getD i Kc).2 q>0):(ph.any λz=>decide (atL z.2 q>0))=true:=gV.2 ⟨_,Zk hi,aD h⟩
theorem any_n(c:ph.length<=m)(h:∀j,j<m->¬atL (ph.getD j Kc).2 q>0):(ph.any λz=>decide (atL z.2 q>0))=false:=mJ.2 λz b=>by obtain⟨j,a,rfl⟩:=dG.1 b;have:=h j O;rw [aN,aM a]at this;simpa using this
theorem Zi0(h:Ga po ph fl fu=true):∀z∈ph,Kw z.2=true:=λz b=>by obtain⟨j,a,rfl⟩:=dG.1 b;have:=Zbq ((Du h).2.2.1 j a);rwa [aN,aM a]at this
end
end Go.Sky
namespace Go.Sky
variable{x y:Int}{es:List (Yc×Yc)}{q c:Int×Int}
def Cj(a b p:Yc):Int:=(b.1-a.1)*(p.1-a.1)+(b.2.1-a.2.1)*(p.2.1-a.2.1)
def Ew(a b:Yc):Int:=(b.1-a.1)*(b.1-a.1)+(b.2.1-a.2.1)*(b.2.1-a.2.1)
def dst(a p:Yc):Int:=(p.1-a.1)*(p.1-a.1)+(p.2.1-a.2.1)*(p.2.1-a.2.1)
def crd(a b p:Yc):Int:=(b.1-a.1)*(p.2.1-a.2.1)-(b.2.1-a.2.1)*(p.1-a.1)
abbrev rnP (x y:Int):Int×Int:=(Gn x y,Ir x y)
def dqr(a b p:Yc):Int×Int:=if 0<Cj a b p/\Cj a b p<Ew a b then(crd a b p*crd a b p,Ew a b)else if Ew a b<=Cj a b p then(dst b p,1)else(dst a p,1)
def dqF(a b p:Yc):Int×Int:=rnP (dqr a b p).1 (dqr a b p).2
section
variable {a b p:Yc}
theorem Zb4(g:-2097152<=x/\x<=2097152)(h:-2097152<=y/\y<=2097152):-4398046511104<=x*y/\x*y<=4398046511104:=by
 have d:x.natAbs<=2097152:=O;have e:y.natAbs<=2097152:=O;have f:(x*y).natAbs<=2097152*2097152:=by rw [bQ];exact aS d e
 omega
structure D2B (a b p:Yc):Prop where
 x:-2097152<=b.1-a.1/\b.1-a.1<=2097152
 y:-2097152<=b.2.1-a.2.1/\b.2.1-a.2.1<=2097152
 u:-2097152<=p.1-a.1/\p.1-a.1<=2097152
 v:-2097152<=p.2.1-a.2.1/\p.2.1-a.2.1<=2097152
 s:-2097152<=p.1-b.1/\p.1-b.1<=2097152
 t:-2097152<=p.2.1-b.2.1/\p.2.1-b.2.1<=2097152
theorem d2b(d:Lo a=true)(e:Lo b=true)(f:Lo p=true):D2B a b p:=by obtain⟨g,h,-⟩:=Ai d;obtain⟨i,j,-⟩:=Ai e;obtain⟨k,l,-⟩:=Ai f;exact⟨O,O,O,O,O,O⟩
theorem Zmu(h:D2B a b p):-8796093022208<=Ew a b/\Ew a b<=8796093022208:=by have d:=Zb4 h.x h.x;have e:=Zb4 h.y h.y;unfold Ew;omega
theorem Yad(h:D2B a b p):-8796093022208<=crd a b p/\crd a b p<=8796093022208:=by have d:=Zb4 h.x h.v;have e:=Zb4 h.y h.u;unfold crd;omega
theorem dsa_b(h:D2B a b p):-8796093022208<=dst a p/\dst a p<=8796093022208:=by have d:=Zb4 h.u h.u;have e:=Zb4 h.v h.v;unfold dst;omega
theorem dsb_b(h:D2B a b p):-8796093022208<=dst b p/\dst b p<=8796093022208:=by have d:=Zb4 h.s h.s;have e:=Zb4 h.t h.t;unfold dst;omega
theorem Zqv(h:-8796093022208<=x/\x<=8796093022208):bl x.natAbs<=44:=(Qs 44 _).2 (by rw [show(2:Nat)^44=17592186044416 from by decide];omega)
theorem Zia(h:D2B a b p):bl (crd a b p*crd a b p).natAbs<=88:=by have:=Xx (crd a b p) (crd a b p);have d:=Zqv (Yad h);omega
theorem Zlj(d:0<Cj a b p)(e:Cj a b p<Ew a b):dqF a b p=rnP (crd a b p*crd a b p) (Ew a b):=by unfold dqF dqr;rw [aO ⟨d,e⟩]
theorem Zwj(d:¬(0<Cj a b p/\Cj a b p<Ew a b))(e:Cj a b p>=Ew a b):dqF a b p=rnP (dst b p) 1:=by unfold dqF dqr;rw [aJ d,aO e]
theorem Zwk(d:¬(0<Cj a b p/\Cj a b p<Ew a b))(e:¬Cj a b p>=Ew a b):dqF a b p=rnP (dst a p) 1:=by unfold dqF dqr;rw [aJ d,aJ e]
theorem dqr_b(h:D2B a b p):bl (dqr a b p).1.natAbs<=88/\bl (dqr a b p).2.natAbs<=44/\0<(dqr a b p).2:=by
 have e:=Zia h;have g:=Zqv (dsa_b h);have i:=Zqv (dsb_b h);have f:=Zqv (Zmu h);have d:bl (1:Int).natAbs<=44:=O3;unfold dqr;split
 .rename_i j;exact⟨e,f,by show 0<Ew a b;omega⟩
 .split
  .exact⟨by show bl (dst b p).natAbs<=88;omega,d,(by decide:(0:Int)<1)⟩
  .exact⟨by show bl (dst a p).natAbs<=88;omega,d,(by decide:(0:Int)<1)⟩
theorem Yh5(h:D2B a b p):bl (dqF a b p).1.natAbs<=88/\bl (dqF a b p).2.natAbs<=44/\0<(dqF a b p).2:=by obtain⟨d,e,f⟩:=dqr_b h;obtain⟨-,g,i,j⟩:=nrf (x:=(dqr a b p).1) (y:=(dqr a b p).2) O O f;exact⟨aB g d,aB i e,j⟩
end
def mnq(b q:Int×Int):Int×Int:=if b.2=0\/q.1*b.2-b.1*q.2<0 then q else b
def d2F(p:Yc)(es:List (Yc×Yc)):Int×Int:=es.foldl (λb e=>mnq b (dqF e.1 e.2 p)) (0,0)
structure QIn (b:Int×Int):Prop where
 n:bl b.1.natAbs<=88
 d:bl b.2.natAbs<=44
 p:0<=b.2
theorem Zt9{p:Yc}{k:Nat}{e:Yc×Yc}(h:es[k]? = some e):d2F p (es.take (k+1))=mnq (d2F p (es.take k)) (dqF e.1 e.2 p):=by have d:=(cJ.1 h).1;have f:=(cJ.1 h).2;rw [List.take_succ_eq_append_getElem d,f];unfold d2F;rw [jX];rfl
def mnq_t{b:Int×Int}(h:b.2=0\/q.1*b.2-b.1*q.2<0):mnq b q=q:=aO h
def mnq_f{b:Int×Int}(h:¬(b.2=0\/q.1*b.2-b.1*q.2<0)):mnq b q=b:=aJ h
theorem qin_s{a b p:Yc}(f:QIn c)(h:D2B a b p):QIn (mnq c (dqF a b p)):=by
 obtain⟨d,e,g⟩:=Yh5 h;unfold mnq;split
 .exact⟨d,e,O⟩
 .exact f
def qin_0:QIn (0,0):=⟨O3,O3,O3⟩
theorem okR_0{b:Bool}{s:ByteArray}(h:y=0):okR b s (decide (y<0)) (Xn y.natAbs)=false:=by subst h;unfold okR;simp [Fo];exact λ_ _=>O3
end Go.Sky
namespace Go.Sky
open Go.RowKit Below
variable{f:FuncId}{fn:Func}{lb vs lbv:List Value}{pre:List Pc}{M Mf S:Nat->Prop}{W w W':World}{a:Act}{r d gf i:Nat}{ops:Array Oper}{o:Oper}{rest:List Oper}{x:Operand}{ops':List Operand}{tys:Array TypeId}{assign body:Code}{Hn:Hp}{u:Pc}
variable {P:Program} {N:Nat} {sc:Nat->Prop} {env env':Qk} {H H':Hp} {Q Q':Exit->Act->World->Prop} {ds:List Nat}
def kp(W:World)(T:Nat->Prop):Pc:=
 {own:=true,fp:=T,holds:=λw=>(∀b,T b->b<w.heap.size)/\∀b,T b->w.heap[b]? = W.heap[b]?
  lt:=λw b h c=>h.1 b c
  stable:=λw j h e=>⟨λb c=>dB (h.1 b c) e.size,λb c=>(e.block b (h.1 b c) (λg=>g c)).trans (h.2 b c)⟩ }
def YJK(P:Program)(l:Nat)(M:Nat->Prop)(J:Nat->(Nat->Prop)->World->Prop){α:Type}(xs:List α)(ys:α->List Value):Prop:=
 ∀k x T W,xs[k]? = some x->J k T W->YieldAt Fence.wide 0 P l (ys x).toArray W λe W'=>e= .returned (.bool true)/\Chg (λb=>M b\/T b\/W.heap.size<=b) W W'/\∃c,(∀b,T b->c b)/\(∀b,c b->T b\/W.heap.size<=b)/\J (k+1) c W'
structure StK (n:Nat) (J:Nat->(Nat->Prop)->World->Prop):Prop where
 stay:∀k T W W',J k T W->Chg (λb=>n<=b/\¬T b) W W'->J k T W'
 lt:∀k T W,J k T W->n<=W.heap.size/\∀b,T b->n<=b/\b<W.heap.size
def CalK(P:Program)(f:FuncId)(lb:List Value)(pre:List Pc){α:Type}(xs:List α)(ys:α->List Value):Prop:=
 ∀(l:Nat) (M:Nat->Prop) (J:Nat->(Nat->Prop)->World->Prop) (w:World),
  (∀p∈pre,p.holds w)->(∀p∈pre,∀b,p.fp b->¬M b)->(∀b,M b->b<w.heap.size)->StK w.heap.size J->J 0 (λ_=>False) w->YJK P l M J xs ys->
  Calls P f (.func (.yield l) #[] #[]::lb).toArray w λe c=>(∃v,e= .returned v)/\∃T,J xs.length T c
def Yj3(P:Program)(fn:Func)(n:Nat)(J:Nat->(Nat->Prop)->World->Prop):Exit->Act->World->Prop:=
 bodyPostM Fence.wide 0 P fn λe b=>(∃v,e= .returned v)/\∃T,J n T b
abbrev kO (n:Nat) (M:Nat->Prop) (W:World):Pc:=Zt W (λb=>n<=b\/M b)
abbrev kT (M T:Nat->Prop) (W:World):Pc:=kp W (λb=>M b\/T b)
abbrev noT:Nat->Prop:=λ_=>False
structure HwA:Prop where h:∀{w:World} (b:Nat),w.heap.size<=b->True
def hwA:HwA:=⟨λ_ _=>trivial⟩
theorem Yoa   {c:Code}   {α:Type} {xs:List α} {ys:α->List Value} {N:Nat}
  (hf:P.funcs[f]? = some fn) (g:fn.body=some c) (hN:fn.ntmps=N) (D:Nat.ble (lb.length+1) N=true) (V:AllRo pre)
  (h:∀(l n:Nat) (M:Nat->Prop) (J:Nat->(Nat->Prop)->World->Prop) w0,n=w0.heap.size->(∀b,M b->b<n)->StK n J->J 0 noT w0->YJK P l M J xs ys->
   E P N (λ_=>True) c (Yj3 P fn xs.length J) (Qi 0 (.func (.yield l) #[] #[]::lb)) ((0,kO n M w0)::(93,kT M noT w0)::Yl 1 pre)) :
  CalK P f lb pre xs ys:=λl M J w hp hm Z hJ B hY=>by
 refine(callsIn_wide (n:=0)).1 (callsIn_of_wp_marks hf g aA (wpIn_wide.2 (h l _ M J w rfl Z hJ B hY _ w ?_)));have a0:lb.length+1<=N:=by simpa using D
 have y:∀i p,lk ((0,kO w.heap.size M w)::(93,kT M noT w)::Yl 1 pre) i=some p->(i=0/\p=kO w.heap.size M w)\/(i=93/\p=kT M noT w)\/(i≠93/\p∈pre):=λi p hi=>by
  by_cases Y:0=i
  .subst Y;rw [Zo]at hi;cases hi;exact .inl ⟨rfl,rfl⟩
  .rw [Zh _ _ Y]at hi;by_cases z:93=i
   .subst z;rw [Zo]at hi;cases hi;exact .inr (.inl ⟨rfl,rfl⟩)
   .rw [Zh _ _ z]at hi;exact .inr (.inr ⟨λe=>z e.symm,(Ou pre 1 i p hi).2⟩)
 refine⟨by simp [hN];omega,rfl,λt v ht=>?_,λi p hi=>?_,λi j p q G hi hj I b g m=>?_,λi p a1 hi b g=>trivial⟩
 .have s:=(Hu (.func (.yield l) #[] #[]::lb) 0 t v ht).2;have s:(Value.func (.yield l) #[] #[]::lb).toArray[t]? = some v:=by simpa using s
  have F:=(aK.1 s).1;rw [bE,dP F,s];rfl
 .rcases y i p hi with⟨rfl,rfl⟩|⟨rfl,rfl⟩|⟨_,k⟩
  .exact Chg.refl _ w
  .exact⟨λb g=>g.elim (Z b) False.elim,λ_ _=>rfl⟩
  .exact hp p k
 .rcases y i p hi with⟨rfl,rfl⟩|⟨rfl,rfl⟩|⟨_,k⟩
  .cases I
  .have g:M b:=g.elim id False.elim;rcases y j q hj with⟨rfl,rfl⟩|⟨rfl,rfl⟩|⟨_,R⟩
   .exact m.2 (.inr g)
   .exact G rfl
   .exact hm q R b m g
  .rw [V.mem p k]at I;cases I
theorem Sat.sinceK{n:Nat}{T:Nat->Prop}(hs:Sat N sc env H a w)(k:lk H 0=some (kO n M W))(c:lk H 93=some (kT M T W)):Chg (λb=>n<=b/\¬T b) W w:=by
 have h:=hs.hold 0 _ k;have e:=hs.hold 93 _ c;refine⟨h.os,h.tape,h.output,h.size,λb l m=>?_⟩;by_cases g:M b
 .exact e.2 b (.inl g)
 .by_cases j:T b
  .exact e.2 b (.inr j)
  .exact h.block b l (λh=>h.elim (λh=>m ⟨h,j⟩) g)
def LR(P:Program)(N:Nat)(sc:Nat->Prop)(r:Nat)(ops:Array Oper)(rest:List Oper)(Q:Exit->Act->World->Prop)(env:Qk)(H:Hp):Prop:=
 ∀a w,Sat N sc env H a w->wpListIn (Fence.wide.inRound r) 0 P ops Q rest a w
def er_lr{id:Nat}{l:List Oper}(h:LR P N sc r l.toArray l Q env H):ER P N sc r (.region id l.toArray false) Q env H:=λa w hs=>
 wpIn_region_lit (h a w hs)
theorem Zpd{v:Value}(j:Mv P N sc o env H v)(g:o.guard=none)(e:o.dst=some d)(c:Nat.blt d N=true)(b:ndB o=true)(h:LR P N sc r ops rest Q ((d,v)::env) H):LR P N sc r ops (o::rest) Q env H:=λa w hs=>by unfold wpListIn;rw [aO (Am g)];refine⟨λ_ _=>trivial,?_⟩;show o.uponIn (Fence.wide.inRound r) 0 P a _ Q ((o.semAt (some r) a.eval).run P w);rw [Oper.semAt_some r _ o (Zdi (ops:=[o]) (by simp [b]) o (bZ.2 rfl)),j a w hs];show wpListIn (Fence.wide.inRound r) 0 P ops Q rest (a.put o.dst v) w;rw [e];exact h _ w (hs.put d v c)
def lr_nil(h:X N sc .normal Q env H):LR P N sc r ops [] Q env H:=λa w hs=>h a w hs
theorem Sat.behK {n:Nat} {T y:Nat->Prop} {z:World}  (hs:Sat N (λ_=>True) env H a z) (B:lk H 0=some (kO n M W)) (Z:lk H 93=some (kT M T W)) (hM:∀b,M b->b<n) (a1:n<=z.heap.size) (hn:n<=W.heap.size)
  (v:Chg (λb=>M b\/T b\/z.heap.size<=b) z W') (hT:∀b,y b->T b\/z.heap.size<=b) (G:∀b,y b->n<=b/\b<W'.heap.size):Sat N (λ_=>True) env ((0,kO n M W')::(93,kT M y W')::H) a W':=by
 have Y:∀i p,lk ((0,kO n M W')::(93,kT M y W')::H) i=some p->(i=0/\p=kO n M W')\/(i=93/\p=kT M y W')\/(i≠0/\i≠93/\lk H i=some p):=λi p hi=>by
  by_cases B:0=i
  .subst B;rw [Zo]at hi;cases hi;exact .inl ⟨rfl,rfl⟩
  .rw [Zh _ _ B]at hi;by_cases F:93=i
   .subst F;rw [Zo]at hi;cases hi;exact .inr (.inl ⟨rfl,rfl⟩)
   .rw [Zh _ _ F]at hi;exact .inr (.inr ⟨λe=>B e.symm,λe=>F e.symm,hi⟩)
 have l:∀i p,i≠93->lk H i=some p->∀b,p.fp b->¬M b/\¬T b:=λi p F hi b g=>by have:=hs.sep 93 i _ p (λe=>F e.symm) Z hi rfl b;exact⟨λh=>this (.inl h) g,λh=>this (.inr h) g⟩
 refine⟨hs.size,hs.defers,hs.env,λi p hi=>?_,λi j p q t hi R V b g c=>?_,λi p m hi b g=>trivial⟩
 .rcases Y i p hi with⟨rfl,rfl⟩|⟨rfl,rfl⟩|⟨m,s,hi⟩
  .exact Chg.refl _ _
  .exact⟨λb g=>g.elim (λh=>by have:=hM b h;have:=v.size;omega) (λh=>(G b h).2),λ_ _=>rfl⟩
  .refine p.stable _ _ (hs.hold i p hi) ⟨v.os,v.tape,v.output,v.size,λk hk hn=>v.block k hk (λhf=>?_)⟩;have:=l i p s hi k (cD.1 hn);rcases hf with h|h|h
   .exact this.1 h
   .exact this.2 h
   .omega
 .rcases Y i p hi with⟨rfl,rfl⟩|⟨rfl,rfl⟩|⟨m,s,hi⟩<;>rcases Y j q R with⟨rfl,rfl⟩|⟨rfl,rfl⟩|⟨a3,a0,R⟩
  .exact t rfl
  .cases V
  .cases V
  .rcases g with h|h
   .exact c.2 (.inr h)
   .exact c.2 (.inl (G b h).1)
  .exact t rfl
  .have D:=l j q a0 R b c;have h2:=q.lt _ b (hs.hold j q R) c;rcases g with h|h
   .exact D.1 h
   .rcases hT b h with h|h
    .exact D.2 h
    .omega
  .have:=hs.sep i 0 p _ m hi B V b g;obtain⟨a2,I⟩:=c;refine this ⟨?_,I⟩;have:b<n:=by
    rcases aW b n with h|h
    .exact h
    .exact absurd (.inl h) I
   omega
  .have D:=l i p s hi b g;have h2:=p.lt _ b (hs.hold i p hi) g;rcases c with h|h
   .exact D.1 h
   .rcases hT b h with h|h
    .exact D.2 h
    .omega
  .exact hs.sep i j p q t hi R V b g c
theorem Ygg     {l n:Nat}      {T:Nat->Prop} {J:Nat->(Nat->Prop)->World->Prop} {α:Type} {xs:List α} {ys:α->List Value}
  {k:Nat} (y:α) (hY:YJK P l M J xs ys) (g:StK n J) (hy:xs[k]? = some y) (R:J k T W) (Y:∀b,M b->b<n)
  (V:o.op= .call { callee:= .value x,args:=ops'.toArray,argTypes:=tys }) (hg:o.guard=none) (hd:o.dst=some d) (Z:Nat.blt d N=true) (hx:ev env x=some (.func (.yield l) #[] #[])) (m:EvL env ops' vs) (F:vs=ys y)
  (I:lk H 0=some (kO n M W)) (q:lk H 93=some (kT M T W))
  (ht:∀p W',J (k+1) p W'->LR P N (λ_=>True) r ops rest Q ((d,.bool true)::env) ((0,kO n M W')::(93,kT M p W')::H)):LR P N (λ_=>True) r ops (o::rest) Q env H:=λa w hs=>by
 subst F;have t:=g.stay k T W w R (hs.sinceK I q);obtain⟨fn,z,assign,body,v,j⟩:=hY k y T w hy t;have D:(o.semAt (some r) a.eval).run P w= .ok (.round l fn z assign body) w:=by rw [Oper.semAt_some r _ o (by rw [V];exact λc h=>by cases h)];show(execOp a.eval o).run P w=_;have hm:=m.map hs;have G:=hs.ev hx;simp [execOp,V,resolve,invoke,Deferred.ofValue,hm,G,v,Sem.run_bind]
 unfold wpListIn;rw [aO (Am hg)];refine⟨λ_ _=>trivial,?_⟩;show o.uponIn (Fence.wide.inRound r) 0 P a _ Q ((o.semAt (some r) a.eval).run P w);rw [D];refine⟨λh=>(by cases h),j.mono ?_⟩;rintro e W' ⟨rfl,hc,p,a0,B,s⟩;show wpListIn (Fence.wide.inRound r) 0 P ops Q rest (a.put o.dst _) W';rw [hd];exact ht p W' s _ W' ((hs.behK I q Y (g.lt k T w t).1 (g.lt k T W R).1 hc B (g.lt _ p W' s).2).put d _ Z)
theorem Yj8{n m:Nat}{T:Nat->Prop}{J:Nat->(Nat->Prop)->World->Prop}{e:Exit}(D:e= .ret\/e= .normal)(F:fn.results=#[])(c:lk H 91=some (fxs ds))(s:lk H 0=some (kO n M W))(g:lk H 93=some (kT M T W))(j:StK n J)(t:J m T W):XG N sc ds e (Yj3 P fn m J) env H:=λa w hs=>by
 have B:(ap ds a).defers=ds.map mrk:=by simp [ap,hs.defers]
 have l:LeavesInM Fence.wide 0 P fn a.tmps (λe q=>(∃v,e= .returned v)/\∃T,J m T q) (ap ds a).defers .returning w:=by
  rw [B];refine Zhe ds w (hs.hold 91 _ c) λq G R V Y Z=>?_;refine⟨_,Zsa F,⟨_,rfl⟩,T,j.stay m T w q (j.stay m T W w t (hs.sinceK s g)) ⟨R,V,Y,Z,λb hb I=>G b λk=>I ⟨?_,?_⟩⟩⟩
  .have y:=hs.sep 91 0 _ _ O3 c s rfl b k;have z:=hs.sep 91 93 _ _ O3 c g rfl b k;rcases aW b n with h|h
   .exact(y ⟨by have:=(j.lt m T W t).1;omega,λp=>p.elim (λp=>O) (λp=>z (.inl p))⟩).elim
   .exact h
  .exact λh=>hs.sep 91 93 _ _ O3 c g rfl b k (.inr h)
 rcases D with rfl|rfl
 .exact l
 .exact l
theorem eg_rfs {ds:List Nat} {g:Operand}  {ps:List Nat}    {α G:Type} {xs:List α} {ys:α->G->List Value} {I:α->G->List Pc}
  {GG GX:Type} (HH:Nat->GG->Hp) (b5:Nat->GG->Prop) (HX:GX->Hp) (b6:GX->Prop) (c3:GG)
  (hg:ev env g=some (.func (.func gf) #[] lbv.toArray)) (eg:∀args w,(callFunc gf args).run P w= .ok (.enter gf args) w) (hc:Zu1 P gf lbv pre xs ys I)
  (hp:∀p∈pre,p.own=false/\∃i,lk H i=some p) (h0:∀x R,(ys x R).length=ps.length) (g9:(ps.all λp=>Nat.blt p N)=true)
  (hw:∀b,sc b)
  (d1:b5 0 c3) (a9:HSub (HH 0 c3) H) (hk:∀k y,(∃q,lk (HH k y) 0=some q/\q.own=false)/\lk (HH k y) 92=none) (e9:∀k y,lk (HH k y) 91=some (fxs ds)) (g5:∀Z,(∃q,lk (HX Z) 0=some q/\q.own=false)/\lk (HX Z) 92=none) (d3:∀Z,lk (HX Z) 91=some (fxs ds))
  (b8:∀k x R y,xs[k]? = some x->b5 k y->∀l Mf Wa a W,Sat N sc (renv ps (ys x R) env) ((92,Zt Wa Mf)::adds 100 (I x R) (HH k y)) a W->
   assign.wpIn (Fence.wide.inRound l) 0 P (RAn 92 P N sc l Mf (adds 100 (I x R) (HH k y)) body (HH (k+1)) (b5 (k+1)) HX b6 Wa) a W)
  (hD:∀y D,b5 xs.length y->XG N sc (D::ds) .normal Q env ((91,fxs (D::ds))::HH xs.length y))
  (hX:∀Z D,b6 Z->XG N sc (D::ds) .ret Q env ((91,fxs (D::ds))::HX Z)) :
  EG P N sc ds (.rangeFunc g ps.toArray assign body) Q env H:=λa w hs=>by
 have Y:∀i p,lk H i=some p->∀b,p.fp b->b<w.heap.size:=λi p hi b B=>p.lt w b (hs.hold i p hi) B;refine(wpIn_wide (n:=0)).1 (wpIn_rangeFunc ?_);have e8:∀(Hn:Hp),lk Hn 91=some (fxs ds)->∀W:World,Kps sc w (w.heap.size+2) (Eu (w.heap.size+2) H) Hn W->W.heap[w.heap.size]? = some (.deferred (some []))->Sat N sc env ((91,fxs (w.heap.size::ds))::Hn) { tmps:=a.tmps,defers:=[] } W:=λHn f4 W p3 V=>by
  have c5:¬Eu (w.heap.size+2) H w.heap.size:=λh=>by
   rcases h with⟨i,q,hq,_,hf⟩|h
   .have:=Y i q hq _ hf;omega
   .omega
  exact Zv7 (p3.sat (a:={ tmps:=a.tmps,defers:=[] }) hs.size rfl hs.env) f4 V (λi q hq hf=>by
   cases a8:q.own with
   | true=>exact c5 (p3.mf i q hq a8 _ hf)
   | false=>rcases p3.off i q hq a8 _ hf with h|h<;>omega) (hw _)
 intro d8 g3;obtain⟨c,m⟩:∃c:LoopState->Option Code->Loop,c=λst pe=>{ state:=st,pending:=pe,fn:=d8,tmps:=a.tmps,params:=ps.toArray,assign:=assign,body:=body,defers:=w.heap.size }:=⟨_,rfl⟩;obtain⟨W1,b1⟩:∃W1,(w.alloc (.deferred (some []))).alloc (.loop (c .ready none))=W1:=⟨_,rfl⟩;have f9:W1.heap[w.heap.size+1]? = some (.loop (c .ready none)):=by rw [<-b1];have:=World.alloc_heap_new (w.alloc (.deferred (some []))) (.loop (c .ready none));rwa [World.size_alloc]at this
 have f8:W1.heap[w.heap.size]? = some (.deferred (some [])):=by rw [<-b1];exact(Below.heap_alloc _ _ _ O7).trans (World.alloc_heap_new w _)
 have e5:Below w.heap.size w W1:=by rw [<-b1];exact((Below.refl _ w).alloc (aI _) _).alloc O7 _
 have i2:W1.heap.size=w.heap.size+2:=by rw [<-b1];simp
 have e0:(#[.func (.yield (w.heap.size+1)) #[] #[]] ++ lbv.toArray:Array Value)=(Value.func (.yield (w.heap.size+1)) #[] #[]::lbv).toArray:=O7;refine⟨w.heap.size+1,[{ target:= .collected w.heap.size,args:=#[] }],W1,{ target:= .fn (.func gf) lbv.toArray,args:=#[.func (.yield (w.heap.size+1)) #[] #[]] },W1,gf,
  (Value.func (.yield (w.heap.size+1)) #[] #[]::lbv).toArray,W1,?_,?_,λ_ _=>trivial,?_,λh=>(by cases h),?_⟩
 .rw [<-b1,m];exact run_enterLoop_outer _ _ _ _ _
 .simp only [resolve,Zlf (ds:=ds) hs hg];simp [go_sem]
 .simp [invoke,go_sem,eg]
 have b4:∀(Hn:Hp) (r:Loop),Zef λW=>W.heap[w.heap.size+1]? = some (.loop r)/\W.heap[w.heap.size]? = some (.deferred (some []))/\W1.heap.size<=W.heap.size/\Kps sc w (w.heap.size+2) (Eu (w.heap.size+2) H) Hn W:=λHn r W W' ⟨h1,h2,h3,h4⟩ hB=>
  ⟨(hB.block _ (aK.1 h1).1).trans h1,(hB.block _ (aK.1 h2).1).trans h2,aB h3 hB.size,h4.stays hB⟩
 have g7:¬Eu (w.heap.size+2) H (w.heap.size+1):=λh=>by
  rcases h with⟨i,q,hq,_,hf⟩|h
  .have:=Y i q hq _ hf;omega
  .omega
 have c5:¬Eu (w.heap.size+2) H w.heap.size:=λh=>by
  rcases h with⟨i,q,hq,_,hf⟩|h
  .have:=Y i q hq _ hf;omega
  .omega
 have i1:∀(Hn:Hp) (W:World),Kps sc w (w.heap.size+2) (Eu (w.heap.size+2) H) Hn W->∀(o:Obj),Kps sc w (w.heap.size+2) (Eu (w.heap.size+2) H) Hn (W.putObj w.heap.size o):=λHn W h o=>h.put Y ⟨aI _,O⟩;have b7:∀(Hn:Hp) (W:World),Kps sc w (w.heap.size+2) (Eu (w.heap.size+2) H) Hn W->∀(o:Obj),Kps sc w (w.heap.size+2) (Eu (w.heap.size+2) H) Hn (W.putObj (w.heap.size+1) o):=λHn W h o=>h.put Y ⟨O,O⟩;refine callsIn_wide.2 ((hc (w.heap.size+1) (λb=>(∃i q,lk H i=some q/\q.own=true/\q.fp b)\/b=w.heap.size+1)
  (λk W=>∃y,b5 k y/\(W.heap[w.heap.size+1]? = some (.loop (c .ready none))/\W.heap[w.heap.size]? = some (.deferred (some []))/\W1.heap.size<=W.heap.size/\Kps sc w (w.heap.size+2) (Eu (w.heap.size+2) H) (HH k y) W))
  (λW=>∃Z,b6 Z/\(W.heap[w.heap.size+1]? = some (.loop (c .done (some .ret)))/\W.heap[w.heap.size]? = some (.deferred (some []))/\W1.heap.size<=W.heap.size/\Kps sc w (w.heap.size+2) (Eu (w.heap.size+2) H) (HX Z) W)) W1
  ?_ ?_ ?_ ?_ ?_ ?_).mono ?_)
 .intro p F;obtain⟨ho,i,hi⟩:=hp p F;exact p.stable _ _ (hs.hold i p hi) (Chg.of_below e5)
 .rintro p F b B (⟨i,q,hq,a8,h5⟩|rfl)
  .obtain⟨ho,j,hj⟩:=hp p F;exact hs.sep i j q p (λe=>by subst e;rw [hq]at hj;cases hj;rw [ho]at a8;cases a8) hq hj a8 b h5 B
  .obtain⟨ho,j,hj⟩:=hp p F;have:=Y j p hj _ B;omega
 .rintro k W W' ⟨y,c9,h⟩ hB;exact⟨y,c9,b4 _ _ W W' h hB⟩
 .rintro W W' ⟨Z,c9,h⟩ hB;exact⟨Z,c9,b4 _ _ W W' h hB⟩
 .refine⟨c3,d1,f9,f8,aI _,λi it hi=>it.stable _ _ (hs.hold i it (a9.lk i it hi)) (Chg.of_below e5),λi j it jt d5 hi hj=>hs.sep i j it jt d5 (a9.lk i it hi) (a9.lk j jt hj),
   λi it d1 hi=>hs.scope i it d1 (a9.lk i it hi),λi it hi _ b B=> .inl (Y i it (a9.lk i it hi) b B),λi it hi ho b B=> .inl ⟨i,it,a9.lk i it hi,ho,B⟩⟩
 .rintro k x R hx W Wa ⟨y,a0,hl,hd,f3,a7⟩ i3 hB a2;have f1:Wa.heap[w.heap.size+1]? = some (.loop (c .ready none)):=(hB.block _ O).trans hl;have g1:Wa.heap[w.heap.size]? = some (.deferred (some [])):=(hB.block _ O).trans hd;have hy:=run_yield (P:=P) (args:=(ys x R).toArray) f1 (by rw [m];simp [h0]);have d2:∀p∈I x R,∀b,p.fp b->w.heap.size+2<=b:=λp hp b B=>by have:=(a2 p hp).2.2 b B;omega
  have s1:Sat N sc env (HH k y) { tmps:=a.tmps,defers:=[] } Wa:=(a7.stays hB).sat hs.size rfl hs.env;have s2:Sat N sc env (adds 100 (I x R) (HH k y)) { tmps:=a.tmps,defers:=[] } Wa:=s1.adds (w1:=Wa) _ _ λp F=>⟨(a2 p F).1,(a2 p F).2.1,λb B=>hw b,λj jt hj ho b B b2=>by have h1:=(a2 p F).2.2 b B;have h2:=jt.lt W b (a7.hold j jt hj) b2;omega⟩
  have b9:∀j q,lk (adds 100 (I x R) (HH k y)) j=some q->(q∈I x R)\/lk (HH k y) j=some q:=λj q h=>Zf0 _ _ _ j q h;have F:∀j q,lk (adds 100 (I x R) (HH k y)) j=some q->∀b,q.fp b->q.own=true->Eu (w.heap.size+2) H b:=λj q hj b B ho=>by
   rcases b9 j q hj with h|h
   .rw [(a2 q h).2.1]at ho;cases ho
   .exact a7.mf j q h ho b B
  have c2:∀j q,lk (adds 100 (I x R) (HH k y)) j=some q->∀b,q.fp b->q.own=false->b<w.heap.size\/w.heap.size+2<=b:=λj q hj b B ho=>by
   rcases b9 j q hj with h|h
   .exact .inr (d2 q h b B)
   .exact a7.off j q h ho b B
  have s3:=s2.rounds ps (ys x R) g9;have s4:Sat N sc (renv ps (ys x R) env) ((92,Zt Wa (Ad sc (w.heap.size+2) H))::adds 100 (I x R) (HH k y)) _ Wa:=s3.add 92 (Zt Wa (Ad sc (w.heap.size+2) H)) (Chg.refl _ _) (λj jt d5 hj Hf b B b2=>by
   rcases Hf with h|h
   .cases h
   .exact B.2 (.inl (F j jt hj b b2 h))) (λb B=>cD.1 λhn=>B.2 (.inr hn))
  have d4:¬Ad sc (w.heap.size+2) H (w.heap.size+1):=λh=>h.elim g7 (λhn=>hn (hw _));have e1:¬Ad sc (w.heap.size+2) H w.heap.size:=λh=>h.elim c5 (λhn=>hn (hw _));rw [m]at hy;refine⟨d8,_,assign,body,hy,roundIn_of_wpIn g3 ?_⟩;have hr:=b8 k x R y hx a0 (w.heap.size+1) (Ad sc (w.heap.size+2) H) Wa _ Wa s4;have e3:(ps.toArray.zip (ys x R).toArray).foldl (λt (p,v)=>t.setIfInBounds p v) a.tmps=(ps.zip (ys x R)).foldl (λt pv=>t.setIfInBounds pv.1 pv.2) a.tmps:=O7;have f2:w.heap.size+2<=Wa.heap.size:=by have:=hB.size;omega
  have g4:∀(Hn:Hp),((∃q,lk Hn 0=some q/\q.own=false)/\lk Hn 92=none)->∀q,lk Hn 0=some q->q.own=false:=λHn h q hq=>by obtain⟨q',h1,h2⟩:=h.1;rw [h1]at hq;cases hq;exact h2
  rw [show(ps.toArray.zip (ys x R).toArray).foldl (λt (x:Nat×Value)=>t.setIfInBounds x.1 x.2) a.tmps=(ps.zip (ys x R)).foldl (λt pv=>t.setIfInBounds pv.1 pv.2) a.tmps from e3];refine wpIn_mono hr ?_;rintro e a1 W2 ⟨rfl,d7,H1,f5,e2,f6,a4,c8⟩;have a5:Chg (Ad sc (w.heap.size+2) H) Wa W2:=a4.hold 92 _ (Zo _ _ _);have g6:W2.heap[w.heap.size+1]? = some (.loop (c .ready none)):=(a5.block _ O d4).trans f1;have g2:W2.heap[w.heap.size]? = some (.deferred (some [])):=(a5.block _ O e1).trans g1;have p1:=a4.ps f5 O3 e2 f2 f6 F c2 Y;have h8:Wa.heap.size<=W2.heap.size:=a5.size;obtain⟨s,z⟩:∃s,W2.putObj (w.heap.size+1) (.loop { c .ready none with state:= .busy })=s:=⟨_,rfl⟩;have h7:Sat N sc d7 ((92,Zt s (Ad sc (w.heap.size+2) H))::H1) a1 s:=by
   have p2:=b7 _ _ p1 (.loop { c .ready none with state:= .busy });rw [z]at p2;refine(p2.sat a4.size a4.defers a4.env).add 92 (Zt s (Ad sc (w.heap.size+2) H)) (Chg.refl _ _) (λj jt d5 hj Hf b B b2=>?_) (λb B=>cD.1 λhn=>B.2 (.inr hn));rcases Hf with h|h
   .cases h
   .exact B.2 (.inl (p2.mf j jt hj h b b2))
  have h6:W2.heap.size=s.heap.size:=by rw [<-z];simp
  have c1:s.heap[w.heap.size+1]? = some (.loop { c .ready none with state:= .busy }):=by rw [<-z];exact World.putObj_heap_same O
  have e7:s.heap[w.heap.size]? = some (.deferred (some [])):=by rw [<-z];exact(World.putObj_heap_other O).trans g2
  refine⟨s,by rw [<-z];exact run_beginRound g6 (by rw [m]),wpIn_mono (c8 s ⟨⟨_,c1⟩,d4⟩ a1 s h7) ?_⟩;have c0:∀(Hn:Hp) (env':Qk) (a3:Act) (W3:World),((∃q,lk Hn 0=some q/\q.own=false)/\lk Hn 92=none)->FpM Hn (adds 100 (I x R) (HH k y))->Sat N sc env' ((92,Zt s (Ad sc (w.heap.size+2) H))::Hn) a3 W3->∀(r:Loop),
    W3.heap[w.heap.size+1]? = some (.loop { c .ready none with state:= .busy })/\(((W3.putObj (w.heap.size+1) (.loop r)).heap[w.heap.size+1]? = some (.loop r)/\(W3.putObj (w.heap.size+1) (.loop r)).heap[w.heap.size]? = some (.deferred (some []))/\
     W1.heap.size<=(W3.putObj (w.heap.size+1) (.loop r)).heap.size/\Kps sc w (w.heap.size+2) (Eu (w.heap.size+2) H) Hn (W3.putObj (w.heap.size+1) (.loop r)))/\
     Chg (λb=>((∃i q,lk H i=some q/\q.own=true/\q.fp b)\/b=w.heap.size+1)\/W1.heap.size<=b) Wa (W3.putObj (w.heap.size+1) (.loop r))):=by
   intro Hn env' a3 W3 f0 f7 b0 r;have a6:Chg (Ad sc (w.heap.size+2) H) s W3:=b0.hold 92 _ (Zo _ _ _);have b3:=(a6.block _ O d4).trans c1;have V:=(a6.block _ O e1).trans e7;have i0:=a6.size;have p3:=b0.ps f0.2 O3 (g4 Hn f0) O f7 F c2 Y;refine⟨b3,⟨World.putObj_heap_same O,(World.putObj_heap_other O).trans V,O9,b7 _ _ p3 _⟩,?_⟩;refine⟨?_,?_,?_,O9,λb B hn=>?_⟩
   .exact a6.os.trans ((by rw [<-z];rfl:s.os=W2.os).trans a5.os)
   .exact a6.tape.trans ((by rw [<-z];rfl:s.tape=W2.tape).trans a5.tape)
   .exact a6.output.trans ((by rw [<-z];rfl:s.output=W2.output).trans a5.output)
   .have e6:b≠w.heap.size+1:=λe=>hn (.inl (.inr e));have g0:¬Eu (w.heap.size+2) H b:=λh=>by
     rcases h with h|h
     .exact hn (.inl (.inl h))
     .exact hn (.inr O)
    refine(World.putObj_heap_other e6).trans ?_;have e4:¬Ad sc (w.heap.size+2) H b:=λh=>h.elim g0 (λh=>h (hw b));refine(a6.block b O e4).trans ?_;have:s.heap[b]? = W2.heap[b]?:=by rw [<-z];exact World.putObj_heap_other e6
    exact this.trans (a5.block b B e4)
  rintro e a3 W3 (⟨rfl,d9,d0,c6,env',b0⟩|⟨rfl,Z,d0,c6,env',b0⟩)
  .obtain⟨b3,c7,c4⟩:=c0 _ env' a3 W3 (hk (k+1) d9) c6 b0 (c .ready none);have:=run_endRound (P:=P) none b3;rw [show({ ({ c .ready none with state:= .busy } : Loop)with state:=if(none:Option Code).isNone then LoopState.ready else .done,pending:=none } : Loop)=c .ready none by rw [m];rfl]at this;exact⟨_,_,this,.inl ⟨rfl,⟨d9,d0,c7⟩,c4⟩⟩
  .obtain⟨b3,c7,c4⟩:=c0 _ env' a3 W3 (g5 Z) c6 b0 (c .done (some .ret));have:=run_endRound (P:=P) (some .ret) b3;rw [show({ ({ c .ready none with state:= .busy } : Loop)with state:=if(some Code.ret).isNone then LoopState.ready else .done,pending:=some .ret } : Loop)=c .done (some .ret) by rw [m];rfl]at this;exact⟨_,_,this,.inr ⟨rfl,⟨Z,d0,c7⟩,c4⟩⟩
 .rintro e W2 ⟨⟨v,rfl⟩,⟨y,a0,hl,hd,f3,d6⟩|⟨Z,a0,hl,hd,f3,d6⟩⟩
  .refine⟨none,_,by have:=run_endLoop (P:=P) hl (by rw [m];simp);rw [m]at this;exact this,?_⟩;have p3:=b7 _ _ d6 (.loop (c .exhausted none));have V:(W2.putObj (w.heap.size+1) (.loop (c .exhausted none))).heap[w.heap.size]? = some (.deferred (some [])):=(World.putObj_heap_other O).trans hd;rw [m]at p3 V;have h9:=hD y w.heap.size a0 _ _ (e8 _ (e9 _ y) _ p3 V);simpa [ap,hs.defers]using h9
  .refine⟨some .ret,_,by have:=run_endLoop (P:=P) hl (by rw [m];simp);rw [m]at this;exact this,wpIn_ret ?_⟩;have p3:=b7 _ _ d6 (.loop { c .done (some .ret)with state:= .exhausted });have V:(W2.putObj (w.heap.size+1) (.loop { c .done (some .ret)with state:= .exhausted })).heap[w.heap.size]? = some (.deferred (some [])):=(World.putObj_heap_other O).trans hd;rw [m]at p3 V;have h9:=hX Z w.heap.size a0 _ _ (e8 _ (d3 Z) _ p3 V);simpa [ap,hs.defers]using h9
structure Kpt (sc:Nat->Prop) (w:World) (H:Hp) (T:Nat->Prop) (Hn:Hp) (W:World):Prop where
 hold:∀i it,lk Hn i=some it->it.holds W
 sep:∀i j it jt,i≠j->lk Hn i=some it->lk Hn j=some jt->it.own=true->∀b,it.fp b->jt.fp b->False
 scope:∀i it,i≠0->lk Hn i=some it->∀b,it.fp b->sc b
 off:∀i it,lk Hn i=some it->∀b,it.fp b->b<w.heap.size\/T b
 mf:∀i it,lk Hn i=some it->it.own=true->∀b,it.fp b->(∃i q,lk H i=some q/\q.own=true/\q.fp b)\/T b
theorem Kpt.chg{T:Nat->Prop}(h:Kpt sc w H T Hn W)(c:Chg (λb=>w.heap.size<=b/\¬T b) W W'):Kpt sc w H T Hn W':=
 ⟨λi e hi=>e.stable _ _ (h.hold i e hi) ⟨c.os,c.tape,c.output,c.size,λk j l=>c.block k j (λg=>by
  rcases h.off i e hi k (cD.1 l)with h|h
  .omega
  .exact g.2 h)⟩,h.sep,h.scope,h.off,h.mf⟩
def Kpt.sat{T:Nat->Prop}(h:Kpt sc w H T Hn W)(b:a.tmps.size=N)(c:a.defers=[])(e:∀t v,lk env t=some v->a.tmps.getD t undef=v):Sat N sc env Hn a W:=⟨b,c,e,h.hold,h.sep,h.scope⟩
def RBk(N:Nat)(sc:Nat->Prop)(Mf S:Nat->Prop){c:Type}(j:c->Hp)(b:c->Prop)(g:World):Exit->Act->World->Prop:=λe a W=>
 e= .normal/\∃h,b h/\∃env',Sat N sc env' ((92,Zt g Mf)::(94,kp g S)::j h) a W
def RAk(P:Program)(N:Nat)(sc:Nat->Prop)(l:Nat)(Mf S:Nat->Prop)(body:Code){j:Type}(m:j->Hp)(h:j->Prop)(k:World):Exit->Act->World->Prop:=λe a W=>
 e= .normal/\∃b c,lk c 92=none/\lk c 94=none/\Sat N sc b ((92,Zt k Mf)::(94,kp k S)::c) a W/\
  ∀g,∀a W,Sat N sc b ((92,Zt g Mf)::(94,kp g S)::c) a W->body.wpIn (Fence.wide.inRound l) 0 P (RBk N sc Mf S m h g) a W
theorem Zkz{p q:Pc}(h:lk ((92,p)::(94,q)::H) i=some u):(i=92/\u=p)\/(i=94/\u=q)\/(i≠92/\i≠94/\lk H i=some u):=by
 rcases lk92 h with h|⟨c,h⟩
 .exact .inl h
 .by_cases b:94=i
  .subst b;rw [Zo]at h;cases h;exact .inr (.inl ⟨rfl,rfl⟩)
  .rw [Zh _ _ b]at h;exact .inr (.inr ⟨c,λe=>b e.symm,h⟩)
theorem Zdk{p q:Pc}(j:lk H 92=none)(g:lk H 94=none)(h:lk H i=some u):i≠92/\i≠94/\lk ((92,p)::(94,q)::H) i=some u:=by
 have b:i≠92:=λe=>by subst e;rw [j]at h;cases h
 have c:i≠94:=λe=>by subst e;rw [g]at h;cases h
 exact⟨b,c,by rw [Zh _ _ (λe=>b e.symm),Zh _ _ (λe=>c e.symm)];exact h⟩
theorem eg_rfk {g:Operand}  {ps:List Nat}    {α:Type} {xs:List α} {ys:α->List Value} {w0:World}
  {GG:Type} (HH:Nat->GG->Hp) (b7:Nat->GG->Prop) (c4:GG)
  (hg:ev env g=some (.func (.func gf) #[] lbv.toArray)) (eg:∀args w,(callFunc gf args).run P w= .ok (.enter gf args) w) (hc:CalK P gf lbv pre xs ys)
  (hp:∀p∈pre,p.own=false/\∃i,lk H i=some p) (g4:∀x,(ys x).length=ps.length) (g3:(ps.all λp=>Nat.blt p N)=true)
  (hw:∀b,w0.heap.size<=b->sc b) (h0:lk H 0=some (Zt w0 (λ_=>False)))
  (Z:b7 0 c4) (b0:HSub (HH 0 c4) H) (hk:∀k R,Zbp (HH k R) w0) (e8:∀k R,lk (HH k R) 94=none) (e7:∀k R,lk (HH k R) 91=some (fxs ds))
  (c1:∀k x R,xs[k]? = some x->b7 k R->∀l Mf S F a W,Sat N sc (renv ps (ys x) env) ((92,Zt F Mf)::(94,kp F S)::HH k R) a W->
   assign.wpIn (Fence.wide.inRound l) 0 P (RAk P N sc l Mf S body (HH (k+1)) (b7 (k+1)) F) a W)
  (hD:∀R D,b7 xs.length R->XG N sc (D::ds) .normal Q env ((91,fxs (D::ds))::HH xs.length R)) :
  EG P N sc ds (.rangeFunc g ps.toArray assign body) Q env H:=λa w hs=>by
 have d3:∀i p,lk H i=some p->∀b,p.fp b->b<w.heap.size:=λi p hi b c=>p.lt w b (hs.hold i p hi) c;have g7:w0.heap.size<=w.heap.size:=(hs.hold 0 _ h0).size;refine(wpIn_wide (n:=0)).1 (wpIn_rangeFunc ?_);intro d7 f8;obtain⟨B,I⟩:∃B:LoopState->Option Code->Loop,B=λst pe=>{ state:=st,pending:=pe,fn:=d7,tmps:=a.tmps,params:=ps.toArray,assign:=assign,body:=body,defers:=w.heap.size }:=⟨_,rfl⟩;obtain⟨W1,b2⟩:∃W1,(w.alloc (.deferred (some []))).alloc (.loop (B .ready none))=W1:=⟨_,rfl⟩;have f3:W1.heap[w.heap.size+1]? = some (.loop (B .ready none)):=by rw [<-b2];have:=World.alloc_heap_new (w.alloc (.deferred (some []))) (.loop (B .ready none));rwa [World.size_alloc]at this
 have f2:W1.heap[w.heap.size]? = some (.deferred (some [])):=by rw [<-b2];exact(Below.heap_alloc _ _ _ O7).trans (World.alloc_heap_new w _)
 have e5:Below w.heap.size w W1:=by rw [<-b2];exact((Below.refl _ w).alloc (aI _) _).alloc O7 _
 have i1:W1.heap.size=w.heap.size+2:=by rw [<-b2];simp
 have e0:(#[.func (.yield (w.heap.size+1)) #[] #[]] ++ lbv.toArray:Array Value)=(Value.func (.yield (w.heap.size+1)) #[] #[]::lbv).toArray:=O7;refine⟨w.heap.size+1,[{ target:= .collected w.heap.size,args:=#[] }],W1,{ target:= .fn (.func gf) lbv.toArray,args:=#[.func (.yield (w.heap.size+1)) #[] #[]] },W1,gf,
  (Value.func (.yield (w.heap.size+1)) #[] #[]::lbv).toArray,W1,?_,?_,λ_ _=>trivial,?_,λh=>(by cases h),?_⟩
 .rw [<-b2,I];exact run_enterLoop_outer _ _ _ _ _
 .simp only [resolve,Zlf (ds:=ds) hs hg];simp [go_sem]
 .simp [invoke,go_sem,eg]
 have e3:∀x,(ps.toArray.zip (ys x).toArray).foldl (λt (p,v)=>t.setIfInBounds p v) a.tmps=(ps.zip (ys x)).foldl (λt pv=>t.setIfInBounds pv.1 pv.2) a.tmps:=λx=>O7;have c3:∀(T:Nat->Prop) (Hn:Hp) (W:World) (d:Nat) (o:Obj),(∀b,T b->w.heap.size+2<=b)->w.heap.size<=d->d<w.heap.size+2->Kpt sc w H T Hn W->Kpt sc w H T Hn (W.putObj d o):=λT Hn W d o hT h1 h2 h=>
  h.chg ⟨rfl,rfl,rfl,O7,λk hk hn=>World.putObj_heap_other (λe=>hn ⟨O,λf6=>by have:=hT k f6;omega⟩)⟩
 refine callsIn_wide.2 ((hc (w.heap.size+1) (λb=>(∃i q,lk H i=some q/\q.own=true/\q.fp b)\/b=w.heap.size+1)
  (λk T W=>∃R,b7 k R/\(W.heap[w.heap.size+1]? = some (.loop (B .ready none))/\W.heap[w.heap.size]? = some (.deferred (some []))/\W1.heap.size<=W.heap.size/\(∀b,T b->W1.heap.size<=b/\b<W.heap.size)/\Kpt sc w H T (HH k R) W)) W1
  ?_ ?_ ?_ ?_ ?_ ?_).mono ?_)
 .intro p c0;obtain⟨ho,i,hi⟩:=hp p c0;exact p.stable _ _ (hs.hold i p hi) (Chg.of_below e5)
 .rintro p c0 b c (⟨i,q,hq,d5,d4⟩|rfl)
  .obtain⟨ho,j,hj⟩:=hp p c0;exact hs.sep i j q p (λe=>by subst e;rw [hq]at hj;cases hj;rw [ho]at d5;cases d5) hq hj d5 b d4 c
  .obtain⟨ho,j,hj⟩:=hp p c0;have:=d3 j p hj _ c;omega
 .rintro b (⟨i,q,hq,-,d4⟩|rfl)
  .have:=d3 i q hq b d4;omega
  .omega
 .refine⟨?_,?_⟩
  .rintro k T W W' ⟨R,e6,h1,h2,h3,h4,h5⟩ hC;refine⟨R,e6,(hC.block _ (aK.1 h1).1 (λh=>O)).trans h1,(hC.block _ (aK.1 h2).1 (λh=>O)).trans h2,aB h3 hC.size,λb c=>⟨(h4 b c).1,dB (h4 b c).2 hC.size⟩,h5.chg ⟨hC.os,hC.tape,hC.output,hC.size,λb c hn=>hC.block b c (λh=>hn ⟨O,h.2⟩)⟩⟩
  .rintro k T W ⟨R,e6,h1,h2,h3,h4,h5⟩;exact⟨h3,h4⟩
 .refine⟨c4,Z,f3,f2,aI _,λb c=>c.elim,λi m hi=>m.stable _ _ (hs.hold i m (b0.lk i m hi)) (Chg.of_below e5),λi j m jt a0 hi hj=>hs.sep i j m jt a0 (b0.lk i m hi) (b0.lk j jt hj),
   λi m Z hi=>hs.scope i m Z (b0.lk i m hi),λi m hi b c=> .inl (d3 i m (b0.lk i m hi) b c),λi m hi ho b c=> .inl ⟨i,m,b0.lk i m hi,ho,c⟩⟩
 .rintro k x T F hx ⟨R,b6,hl,hd,g5,hT,a8⟩;have hy:=run_yield (P:=P) (args:=(ys x).toArray) hl (by rw [I];simp [g4]);have a9:∀b,T b->w.heap.size+2<=b:=λb c=>by have:=(hT b c).1;omega
  obtain⟨S,hS⟩:∃S:Nat->Prop,S=λb=>w.heap.size<=b/\b<F.heap.size/\¬T b:=⟨_,rfl⟩;obtain⟨Mf,f4⟩:∃Mf:Nat->Prop,Mf=Ad sc w.heap.size H:=⟨_,rfl⟩;have G:∀b,Mf b↔((∃i q,lk H i=some q/\q.own=true/\q.fp b)\/w.heap.size<=b)\/¬sc b:=λb=>by rw [f4];exact mS
  have V:∀b,S b↔(w.heap.size<=b/\b<F.heap.size/\¬T b):=λb=>by rw [hS]
  have d2:S (w.heap.size+1):=(V _).2 ⟨O,O,λh=>by have:=a9 _ h;omega⟩;have d9:S w.heap.size:=(V _).2 ⟨O,O,λh=>by have:=a9 _ h;omega⟩;have s1:Sat N sc env (HH k R) { tmps:=a.tmps,defers:=[] } F:=a8.sat hs.size rfl hs.env;have s3:=s1.rounds ps (ys x) g3;have h6:=s3.add 94 (kp F S) ⟨λb c=>((V b).1 c).2.1,λ_ _=>rfl⟩ (λj jt a0 hj Hf b c Y=>by
   have h1:=(V b).1 c;rcases a8.off j jt hj b Y with h|h
   .omega
   .exact h1.2.2 h) (λb c=>hw b (by have:=((V b).1 c).1;omega))
  have s4:=h6.add 92 (Zt F Mf) (Chg.refl _ _) (λj jt a0 hj Hf b c Y=>by
   rcases Hf with h|h
   .cases h
   .refine c.2 ((G b).2 ?_);by_cases a5:94=j
    .subst a5;rw [Zo]at hj;cases hj;exact .inl (.inr ((V b).1 Y).1)
    .rw [Zh _ _ a5]at hj;rcases a8.mf j jt hj h b Y with h|h
     .exact .inl (.inl h)
     .exact .inl (.inr (by have:=a9 b h;omega))) (λb c=>cD.1 λhn=>c.2 ((G b).2 (.inr hn)))
  rw [I]at hy;refine⟨d7,_,assign,body,hy,roundIn_of_wpIn f8 ?_⟩;have hr:=c1 k x R hx b6 (w.heap.size+1) Mf S F _ F s4;rw [show(ps.toArray.zip (ys x).toArray).foldl (λt (x:Nat×Value)=>t.setIfInBounds x.1 x.2) a.tmps=(ps.zip (ys x)).foldl (λt pv=>t.setIfInBounds pv.1 pv.2) a.tmps from e3 x];refine wpIn_mono hr ?_;rintro e a1 W2 ⟨rfl,d6,H1,b1,a5,s,c7⟩;have b3:Chg Mf F W2:=s.hold 92 _ (Zo _ _ _);have b5:=s.hold 94 _ (by rw [Zh _ _ O3,Zo]);have g0:W2.heap[w.heap.size+1]? = some (.loop (B .ready none)):=(b5.2 _ d2).trans hl;have h7:F.heap.size<=W2.heap.size:=b3.size;obtain⟨y,z⟩:∃y,W2.putObj (w.heap.size+1) (.loop { B .ready none with state:= .busy })=y:=⟨_,rfl⟩;have g6:W2.heap.size=y.heap.size:=by rw [<-z];simp
  have e9:y.heap[w.heap.size+1]? = some (.loop { B .ready none with state:= .busy }):=by rw [<-z];exact World.putObj_heap_same O
  have a2:∀b,b≠w.heap.size+1->y.heap[b]? = W2.heap[b]?:=λb c=>by rw [<-z];exact World.putObj_heap_other c
  have g9:Sat N sc d6 ((92,Zt y Mf)::(94,kp y S)::H1) a1 y:=by
   have hh:∀i m,lk H1 i=some m->m.holds y:=λi m hi=>by obtain⟨h1,h2,h3⟩:=Zdk (p:=Zt F Mf) (q:=kp F S) b1 a5 hi;refine m.stable _ _ (s.hold i m h3) ⟨by rw [<-z];rfl,by rw [<-z];rfl,by rw [<-z];rfl,O,λb c hn=>a2 b (λe=>?_)⟩;subst e;exact s.sep 94 i _ m (λe=>h2 e.symm) (by rw [Zh _ _ O3,Zo]) h3 rfl _ d2 (cD.1 hn)
   refine⟨s.size,s.defers,s.env,λi p hi=>?_,λi j p q a0 hi hj ho b c Y=>?_,λi p Z hi b c=>?_⟩
   .rcases Zkz hi with⟨rfl,rfl⟩|⟨rfl,rfl⟩|⟨_,_,hi⟩
    .exact Chg.refl _ _
    .exact⟨λb c=>by have:=((V b).1 c).2.1;omega,λ_ _=>rfl⟩
    .exact hh i p hi
   .rcases Zkz hi with⟨rfl,rfl⟩|⟨rfl,rfl⟩|⟨h1,h2,c8⟩
    .cases ho
    .rcases Zkz hj with⟨rfl,rfl⟩|⟨rfl,rfl⟩|⟨h3,h4,d0⟩
     .exact Y.2 ((G b).2 (.inl (.inr ((V b).1 c).1)))
     .exact a0 rfl
     .exact s.sep 94 j (kp F S) q a0 (by rw [Zh _ _ O3,Zo]) (Zdk b1 a5 d0).2.2 rfl b c Y
    .have c9:=(Zdk (p:=Zt F Mf) (q:=kp F S) b1 a5 c8).2.2;rcases Zkz hj with⟨rfl,rfl⟩|⟨rfl,rfl⟩|⟨h3,h4,d0⟩
     .refine Y.2 (cD.1 λhn=>?_);rcases aW b F.heap.size with h|h
      .exact s.sep i 92 p _ h1 c9 (Zo _ _ _) ho b c ⟨h,hn⟩
      .exact hn ((G b).2 (.inl (.inr O)))
     .exact s.sep i 94 p (kp F S) h2 c9 (by rw [Zh _ _ O3,Zo]) ho b c Y
     .exact s.sep i j p q a0 c9 (Zdk b1 a5 d0).2.2 ho b c Y
   .rcases Zkz hi with⟨rfl,rfl⟩|⟨rfl,rfl⟩|⟨h1,h2,c8⟩
    .exact cD.1 λhn=>c.2 ((G b).2 (.inr hn))
    .exact hw b (by have:=((V b).1 c).1;omega)
    .exact s.scope i p Z (Zdk (p:=Zt F Mf) (q:=kp F S) b1 a5 c8).2.2 b c
  have i0:¬Mf (w.heap.size+1)->False:=λh=>h ((G _).2 (.inl (.inr O)));refine⟨y,by rw [<-z];exact run_beginRound g0 (by rw [I]),wpIn_mono (c7 y a1 y g9) ?_⟩;rintro e a3 W3 ⟨rfl,a6,f9,env',a4⟩;have b4:Chg Mf y W3:=a4.hold 92 _ (Zo _ _ _);have a7:=a4.hold 94 _ (by rw [Zh _ _ O3,Zo]);have g1:W3.heap[w.heap.size+1]? = some (.loop { B .ready none with state:= .busy }):=(a7.2 _ d2).trans e9;have b9:W3.heap[w.heap.size]? = some (.deferred (some [])):=(a7.2 _ d9).trans ((a2 _ O).trans ((b5.2 _ d9).trans hd));have h8:=b4.size;have d1:=hk (k+1) a6;have d8:=e8 (k+1) a6;obtain⟨T',f5⟩:∃T':Nat->Prop,T'=λb=>T b\/(F.heap.size<=b/\b<W3.heap.size):=⟨_,rfl⟩;have b8:∀b,T' b↔(T b\/(F.heap.size<=b/\b<W3.heap.size)):=λb=>by rw [f5]
  have p3:Kpt sc w H T' (HH (k+1) a6) W3:=by
   have hl:∀i m,lk (HH (k+1) a6) i=some m->i≠92/\i≠94/\lk ((92,Zt y Mf)::(94,kp y S)::HH (k+1) a6) i=some m:=λi m hi=>Zdk d1.2 d8 hi;have c2:∀i m,lk (HH (k+1) a6) i=some m->∀b,m.fp b->b<w.heap.size\/T' b:=λi m hi b c=>by
    obtain⟨h1,h2,h3⟩:=hl i m hi;have h4:=a4.sep 94 i _ m (λe=>h2 e.symm) (by rw [Zh _ _ O3,Zo]) h3 rfl b;have h5:=m.lt W3 b (a4.hold i m h3) c;rcases aW b w.heap.size with h|h
    .exact .inl h
    .refine .inr ((b8 b).2 ?_);by_cases e2:T b
     .exact .inl e2
     .rcases aW b F.heap.size with h'|h'
      .exact(h4 ((V b).2 ⟨h,h',e2⟩) c).elim
      .exact .inr ⟨h',h5⟩
   refine⟨λi m hi=>a4.hold i m (hl i m hi).2.2,λi j m jt a0 hi hj=>a4.sep i j m jt a0 (hl i m hi).2.2 (hl j jt hj).2.2,λi m Z hi=>a4.scope i m Z (hl i m hi).2.2,c2,λi m hi ho b c=>?_⟩;obtain⟨h1,h2,h3⟩:=hl i m hi;have Z:i≠0:=λe=>by subst e;rw [d1.1]at hi;cases hi;cases ho
   have h4:=a4.sep i 92 m _ h1 h3 (Zo _ _ _) ho b c;rcases c2 i m hi b c with h|h
   .have hM:Mf b:=cD.1 λhn=>h4 ⟨O,hn⟩;rcases(G b).1 hM with(h'|h')|h'
    .exact .inl h'
    .omega
    .exact absurd (a4.scope i m Z h3 b c) h'
   .exact .inr h
  have c5:∀b,T' b->w.heap.size+2<=b/\b<W3.heap.size:=λb c=>by
   rcases(b8 b).1 c with h|h
   .have:=hT b h;exact⟨O,O⟩
   .exact⟨O,h.2⟩
  have:=run_endRound (P:=P) none g1;rw [show({ ({ B .ready none with state:= .busy } : Loop)with state:=if(none:Option Code).isNone then LoopState.ready else .done,pending:=none } : Loop)=B .ready none by rw [I];rfl]at this;refine⟨_,_,this,rfl,?_,T',λb c=>(b8 b).2 (.inl c),λb c=>((b8 b).1 c).imp id (λh=>h.1),a6,f9,World.putObj_heap_same O,(World.putObj_heap_other O).trans b9,O9,λb c=>⟨by have:=(c5 b c).1;omega,by simp;exact(c5 b c).2⟩,c3 T' _ W3 _ _ (λb c=>(c5 b c).1) O O p3⟩;have k0:(Zt w0 (λ_=>False)).holds F:=a8.hold 0 _ (hk k R).1;have k3:(Zt w0 (λ_=>False)).holds W3:=p3.hold 0 _ d1.1;refine⟨b4.os.trans ((by rw [<-z];rfl:y.os=W2.os).trans b3.os),b4.tape.trans ((by rw [<-z];rfl:y.tape=W2.tape).trans b3.tape),b4.output.trans ((by rw [<-z];rfl:y.output=W2.output).trans b3.output),O9,λb c hn=>?_⟩;have c6:b≠w.heap.size+1:=λe=>hn (.inl (.inr e));refine(World.putObj_heap_other c6).trans ?_;by_cases f7:w.heap.size<=b
  .have e1:S b:=(V b).2 ⟨f7,c,λh=>hn (.inr (.inl h))⟩;exact(a7.2 b e1).trans ((a2 b c6).trans (b5.2 b e1))
  .by_cases f1:sc b
   .have f0:¬Mf b:=λh=>by
     rcases(G b).1 h with(h|h)|h
     .exact hn (.inl (.inl h))
     .omega
     .exact h f1
    exact(b4.block b O f0).trans ((a2 b c6).trans (b3.block b c f0))
   .have e4:b<w0.heap.size:=by
     rcases aW b w0.heap.size with h|h
     .exact h
     .exact absurd (hw b h) f1
    exact(k3.block b e4 (λh=>h)).trans (k0.block b e4 (λh=>h)).symm
 .rintro e W2 ⟨⟨v,rfl⟩,T,R,b6,hl,hd,g5,hT,g2⟩;have a9:∀b,T b->w.heap.size+2<=b:=λb c=>by have:=(hT b c).1;omega
  refine⟨none,_,by have:=run_endLoop (P:=P) hl (by rw [I];simp);rw [I]at this;exact this,?_⟩;have p3:=c3 T _ W2 (w.heap.size+1) (.loop (B .exhausted none)) a9 O O g2;have b9:(W2.putObj (w.heap.size+1) (.loop (B .exhausted none))).heap[w.heap.size]? = some (.deferred (some [])):=(World.putObj_heap_other O).trans hd;rw [I]at p3 b9;have h9:=hD R w.heap.size b6 _ _ (Zv7 (p3.sat (a:={ tmps:=a.tmps,defers:=[] }) hs.size rfl hs.env) (e7 _ R) b9 (λi q hq hf=>by
   rcases p3.off i q hq _ hf with h|h
   .omega
   .have:=a9 _ h;omega) (hw _ g7))
  simpa [ap,hs.defers]using h9
def Yc3{c:Type}{h:c->Hp}{b:c->Prop}{e:World}(g:c)(hi:b g)(j:HSub ((92,Zt e Mf)::(94,kp e S)::h g) H):X N sc .normal (RBk N sc Mf S h b e) env H:=
 λa w hs=>⟨rfl,g,hi,[],hs.weaken aA j⟩
def x_rak {l:Nat}   {k:Type} {m:k->Hp} {g:k->Prop} {h:World} (b:Qk) (c:Hp) (q:Sub b env) (s:HSub ((92,Zt h Mf)::(94,kp h S)::c) H) (n:lk c 92=none) (j:lk c 94=none)
  (p:∀e,ER P N sc l body (RBk N sc Mf S m g e) b ((92,Zt e Mf)::(94,kp e S)::c)):X N sc .normal (RAk P N sc l Mf S body m g h) env H:=
 λa w hs=>⟨rfl,b,c,n,j,hs.weaken q s,λe=>p e⟩
def JnG{G:Type}(N:Nat)(sc:Nat->Prop)(ds:List Nat)(cs:Qk)(e:Hp)(j:G->Qk)(h:G->Hp)(b:G->Prop):Act->World->Prop:=
 λa w=>∃g,b g/\∃c,a=ap ds c/\Sat N sc (j g ++ cs) (h g ++ e) c w
theorem eg_jn {x y:Code} {G:Type} (cs:Qk) (h:Hp) (l:G->Qk) (k:G->Hp) (c:G->Prop) (p:Sub cs env) (n:HSub h H)
  (s:EG P N sc ds x (Exit.then (JnG N sc ds cs h l k c) Q) env H)
  (t:∀g,c g->EG P N sc ds y Q (l g ++ cs) (k g ++ h)):EG P N sc ds (.seq x y) Q env H:=λa w hs=>by
 refine wp_seq (Code.wp_mono (λe a w j=>?_) (s a w hs));cases e with
 | normal=>obtain⟨g,q,m,rfl,b⟩:=j;exact t g q m w b
 | _=>exact j
def xg_jn{G:Type}{cs:Qk}{e:Hp}{j:G->Qk}{h:G->Hp}{c:G->Prop}{g:G}(k:c g)(hs:Sub (j g ++ cs) env)(l:HSub (h g ++ e) H) :
  XG N sc ds .normal (Exit.then (JnG N sc ds cs e j h c) Q) env H:=λa w b=>⟨g,k,a,rfl,b.weaken hs l⟩
def kO_fp{n:Nat}{b:Nat}(e:n<=W.heap.size)(h:(kO n M W').fp b):(kO n M W).fp b:=
 ⟨dB (Nat.lt_of_not_le λc=>h.2 (.inl c)) e,h.2⟩
end Go.Sky
namespace Go.Sky
variable{t:TypeId}{k i:Nat}{v:Value}{M:Nat->Prop}{o:Oper}{kd:IntKind}{xs:List Yc}{rs:List Nn}{b:Int×Int}
section
variable {P:Program} {N:Nat} {sc:Nat->Prop} {env:Qk} {H:Hp}
def rd_osu{α:Type}{e:TypeId}{enc:α->Value}{xs:List α}(a:Enc P t k enc)(n:Nat)(c:n<=xs.length):Rd (Nc k e enc v xs) k enc (Ag v n k) (xs.drop n):=λw h=>Zg5 n c (Yi a w h)
def OwV(v:Value)(n:Nat):Prop:=∃g c,v= .slice (some ⟨g,0,none⟩) n c/\n<=c
theorem Ykv{n m:Nat}(f:OwV v m)(j:n<m):ead (Ag v n k) i k=ead v (i+n) k:=by obtain⟨g,c,rfl,h⟩:=f;have e:c≠n:=O;by_cases a:i*k=0<;>by_cases d:n*k=0<;>simp [ead,Ag,e,Addr.add,dK,gW,a,d]
theorem f_osv{α:Type}{e:TypeId}{enc:α->Value}{xs:List α}(i:Nat)(hi:lk H i=some (Nc k e enc v xs))(n:0<xs.length):∀a w,Sat N sc env H a w->OwV v xs.length:=λa w hs=>by
 have c:w.ownsRow 0 e k v xs.length (cellsOf enc xs):=hs.hold i _ hi;rcases c.2 with⟨rfl,r⟩|⟨g,d,j,rfl,p,q,f,l,m,h⟩
 .omega
 .exact⟨g,d,rfl,f⟩
def t_evM{G:Type}{φ:G->Prop}{d:G->Qk}{e:G->Hp}(h:T P N sc (λ_=>True) o env H φ d e)(n:∀x,M x):T P N sc M o env H φ d e:=λa w hs K Q m=>
 h a w hs K Q λg f q j l c=>m g f q j l ⟨c.os,c.tape,c.output,c.size,λk r p=>absurd (n k) p⟩
theorem Znq (i:Nat)  {x y:Operand} {e:TypeId}  {n m:Nat}  {j:Int} (B:o.op= .indexAddr t x y) (F:ev env x=some (Ag v n k)) (G:ev env y=some (.int kd j)) (q:OwV v m) (z:n<m)
  (D:P.underlying t=some (.slice e)) (f:∀w,(sizeOf e).run P w= .ok k w) (d:j=(i:Int)) (u:i+n<m):Mv P N sc o env H (.pointer (some (ead v (i+n) k))):=λa w hs=>by
 have r:=Ykv (k:=k) (i:=i) q z;rw [<-r];obtain⟨g,c,rfl,h⟩:=q;have p:c≠n:=O;have s:i<m-n:=O;subst d;have l:a.eval x= .slice (some ((⟨g,0,none⟩:Addr).add (n*k))) (m-n) (c-n):=by rw [hs.ev F];simp [Ag,p]
 simp [execOp,B,l,hs.ev G,Instr.indexAt,asIntOf,run_underlying D,f,s,ead,Ag,p]
instance hwT {w0:World} : Hw w0 (λ_=>True):=⟨λ_ _=>trivial⟩
end
def sw2(l:List Yc)(a b:Nat):List Yc:=(l.set a (l.getD b Yq)).set b (l.getD a Yq)
def Zmb(xs:List Yc):List Yc:=(List.range xs.length).map λp=>xs.getD ((xs.length-p)%xs.length) Yq
structure RvT (xs:List Yc) (i:Nat) (l:List Yc):Prop where
 len:l.length=xs.length
 at':∀p,p<xs.length->l.getD p Yq=if 1<=p/\(p<=i\/xs.length-p<=i)then xs.getD (xs.length-p) Yq else xs.getD p Yq
theorem rvI_0(xs:List Yc):RvT xs 0 xs:=⟨rfl,λp a=>by rw [aJ O]⟩
theorem Zng{l:List Yc}{a p:Nat}{z:Yc}(c:p<l.length):(l.set a z).getD p Yq=if a=p then z else l.getD p Yq:=by
 rw [aN,aN,List.getElem?_set];by_cases h:a=p
 .subst h;simp [c]
 .simp [h]
theorem rvI_s{l:List Yc}(h:RvT xs i l)(hi:i+1<xs.length-1-i):RvT xs (i+1) (sw2 l (i+1) (xs.length-2-i+1)):=by
 have e:=h.len;refine⟨by unfold sw2;rw [cC,cC,e],λp f=>?_⟩;unfold sw2;rw [Zng (by rw [cC];omega),Zng O];by_cases a:xs.length-2-i+1=p
 .rw [aO a,aO O,h.at' _ O,aJ O];congr 1;omega
 .rw [aJ a];by_cases c:i+1=p
  .rw [aO c,aO O,h.at' _ O,aJ O];congr 1;omega
  .rw [aJ c,h.at' p f];by_cases d:1<=p/\(p<=i\/xs.length-p<=i)
   .rw [aO d,aO O]
   .rw [aJ d,aJ O]
theorem rvI_e{l:List Yc}(h:RvT xs i l)(hi:¬i+1<xs.length-1-i):l=Zmb xs:=by
 refine gU (by rw [h.len];simp [Zmb]) λp a f=>?_;have e:p<xs.length:=by rw [<-h.len];exact a
 have:=h.at' p e;rw [aN,aM a,eY]at this;rw [this];simp only [Zmb,List.getElem_map,List.getElem_range];by_cases d:p=0
 .subst d;rw [aJ O,iP,Nat.mod_self]
 .rw [bG O];by_cases c:1<=p/\(p<=i\/xs.length-p<=i)
  .rw [aO c]
  .rw [aJ c];congr 1;omega
theorem Yez(xs:List Yc):(Zmb xs).length=xs.length:=by simp [Zmb]
theorem Ylm(h:xs.all Lo=true):(Zmb xs).all Lo=true:=by rw [bA]at h ⊢;intro p a;simp only [Zmb,eJ,cM]at a;obtain⟨k,c,rfl⟩:=a;exact h _ (Zk (bI _ O))
def orL(i:Nat)(l:List Yc):List Yc:=if(decide (0<ar2 (Px l)) != decide ((i:Int)=0))=true then Zmb l else l
def rgE(rs:List Nn)(i:Nat):List (Yc×Yc):=Px (orL i (rs.getD i Kc).2)
def Gy(rs:List Nn)(n:Nat):List (Yc×Yc):=(List.range n).flatMap (rgE rs)
theorem Zxe(rs:List Nn)(n:Nat):Gy rs (n+1)=Gy rs n ++ rgE rs n:=by unfold Gy;rw [List.range_succ,List.flatMap_append];simp
theorem Zuv(rs:List Nn)(n:Nat):(Gy rs (n+1)).length=(Gy rs n).length+(rgE rs n).length:=by rw [Zxe,cF]
theorem Zuu(rs:List Nn){n:Nat}(h:i<=n):∃t,Gy rs n=Gy rs i ++ t:=by
 induction n with
 | zero=>exact⟨[],by rw [show i=0 by omega];simp⟩
 | succ n d=>
  by_cases a:i=n+1
  .exact⟨[],by rw [a];simp⟩
  .obtain⟨t,c⟩:=d O;exact⟨t ++ rgE rs n,by rw [Zxe,c,fQ]⟩
theorem Yon{n:Nat}{e:Yc×Yc}(h:i<n)(a:(rgE rs i)[k]? = some e):(Gy rs n)[(Gy rs i).length+k]? = some e:=by obtain⟨t,d⟩:=Zuu rs (show i+1<=n from h);have c:=(cJ.1 a).1;rw [d,Zxe,fQ,gM O,Nat.add_sub_cancel_left,eX c,a]
theorem Zyl(i:Nat)(l:List Yc):(orL i l).length=l.length:=by unfold orL;split;exact Yez l;rfl
theorem orL_pt{l:List Yc}(h:l.all Lo=true):(orL i l).all Lo=true:=by unfold orL;split;exact Ylm h;exact h
def orL_t{l:List Yc}(h:(decide (0<ar2 (Px l)) != decide ((i:Int)=0))=true):orL i l=Zmb l:=aO h
theorem orL_f{l:List Yc}(h:(decide (0<ar2 (Px l)) != decide ((i:Int)=0))=false):orL i l=l:=aJ (by rw [h];exact bF)
theorem Zxf{n:Nat}{e:Yc×Yc}(c:∀z∈rs,Kw z.2=true)(l:n<=rs.length)(h:(Gy rs n)[k]? = some e):Lo e.1=true/\Lo e.2=true:=by have a:=dH h;unfold Gy at a;obtain⟨i,hi,f⟩:=gT.1 a;have hi:=cM.1 hi;obtain⟨j,g⟩:=eO.1 f;exact Zli (orL_pt (Cw (c _ (Zk (d:=Kc) (show i<rs.length by omega))))) g
theorem Zua{p:Yc}{rs:List Nn}{n:Nat}(d:Lo p=true)(a:∀z∈rs,Kw z.2=true)(c:n<=rs.length):∀k,QIn (d2F p ((Gy rs n).take k))
 | 0=>qin_0
 | k+1=>by
  cases h:(Gy rs n)[k]? with
  | none=>
   rw [List.getElem?_eq_none_iff]at h;rw [cK O,<-cK h];exact Zua d a c k
  | some e=>
   obtain⟨f,g⟩:=Zxf a c h;rw [Zt9 h];exact qin_s (Zua d a c k) (d2b f g d)
theorem qin_c(h:QIn b):b.2=0\/0<b.2:=by have:=h.p;omega
end Go.Sky

