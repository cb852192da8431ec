/- Rules, arithmetic and contracts: part 13. No conditions but those that each theorem names. -/
import Derived.Test.YtoaklaecgjlfoaaTm11
set_option linter.all false
namespace Go.Sky
structure Pcs (a b:List Zk) (n:Nat) (T:Nat->Int) (ua ub:Nat->Zcd) (ja jb:Nat->Nat):Prop where
 n1:1<=n
 t0:T 0=cmF a b
 tn:T n=cmL a b
 lt:∀k,k<n->T k<T (k+1)/\cmF a b<=T k/\T (k+1)<=cmL a b
 la:∀k,k<n->ja k<a.length/\(a.getD (ja k) G0).1.1<=T k/\T (k+1)<=(a.getD (ja k) G0).1.2.1
 lb:∀k,k<n->jb k<b.length/\(b.getD (jb k) G0).1.1<=T k/\T (k+1)<=(b.getD (jb k) G0).1.2.1
 pa:∀k,k<n->SgG (mkS (ua k))/\(∃G,Prt (mkS (ua k)) (a.getD (ja k) G0) G)/\(ua k).1.1=T k/\(ua k).1.2.1=T (k+1)
 pb:∀k,k<n->SgG (mkS (ub k))/\(∃G,Prt (mkS (ub k)) (b.getD (jb k) G0) G)/\(ub k).1.1=T k/\(ub k).1.2.1=T (k+1)
 ra:Znb a b a=(List.range n).map ua
 rb:Znb a b b=(List.range n).map ub
section
variable {a b:List Zk} (hpa:∀g∈a,Gin g) (hpb:∀g∈b,Gin g) (hba:Nt a=true) (hbb:Nt b=true)
include hpa hpb hba hbb
end
end Go.Sky
namespace Go.Sky
section
variable {P:Program} {N:Nat} {sc:Nat->Prop} {env:Yd} {H:Hp} {M:Nat->Prop}
end
abbrev V3T:=Int×Int×Int
def adL(c:List Int)(d:Int):List Int:=c.set 0 (c.getD 0 0+d)
def mvG(v:V3T)(g:Zk):Zk:=(g.1,(g.2.1.1,adL g.2.1.2 (v.1*g.1.2.2)),(g.2.2.1.1,adL g.2.2.1.2 (v.2.1*g.1.2.2)),(g.2.2.2.1,adL g.2.2.2.2 (v.2.2*g.1.2.2)))
def mv1(v:V3T)(g:Zk):Zk:=(g.1,(g.2.1.1,adL g.2.1.2 (v.1*g.1.2.2)),g.2.2.1,g.2.2.2)
def mv2(v:V3T)(g:Zk):Zk:=(g.1,(g.2.1.1,adL g.2.1.2 (v.1*g.1.2.2)),(g.2.2.1.1,adL g.2.2.1.2 (v.2.1*g.1.2.2)),g.2.2.2)
def mvK(v:V3T)(ps:List Zk)(k:Nat):List Zk:=(ps.take k).map (mvG v) ++ ps.drop k
def vcB(x y z:Int):Bool:=Zbt 16777216 [x,y,z]
theorem vc_b{x y z:Int}(h:vcB x y z=true):(-16777216<=x/\x<=16777216)/\(-16777216<=y/\y<=16777216)/\(-16777216<=z/\z<=16777216):=by unfold vcB Zbt at h;simp only [kK,List.all_nil,Bool.and_true,bH,cD]at h;exact⟨h.1,h.2.1,h.2.2⟩
structure MvX (v:V3T) (g:Zk):Prop where
 x:Ir (v.1*g.1.2.2)/\Ir (g.2.1.2.getD 0 0+v.1*g.1.2.2)
 y:Ir (v.2.1*g.1.2.2)/\Ir (g.2.2.1.2.getD 0 0+v.2.1*g.1.2.2)
 z:Ir (v.2.2*g.1.2.2)/\Ir (g.2.2.2.2.getD 0 0+v.2.2*g.1.2.2)
 lx:0<g.2.1.2.length
 ly:0<g.2.2.1.2.length
 lz:0<g.2.2.2.2.length
end Go.Sky
namespace Go.Sky
structure Mvd (y:Int) (v:Nat->Rat) (a c:List Zk):Prop where
 len:c.length=a.length
 t1:∀k,k<a.length->(c.getD k G0).1.1=(a.getD k G0).1.1+y
 t2:∀k,k<a.length->(c.getD k G0).1.2.1=(a.getD k G0).1.2.1+y
 ck:∀k,k<a.length->∀fr to,Zew fr to (a.getD k G0)=true->Zm9 (fr+y) (to+y) (c.getD k G0)=Zm9 fr to (a.getD k G0)
 pl:∀k,k<a.length->∀(t:Rat) i,i<3->pzQ (c.getD k G0) i (sR (c.getD k G0) (t+(y:Rat)))=pzQ (a.getD k G0) i (sR (a.getD k G0) t)+v i
section
variable {y:Int} {v w:Nat->Rat} {a b c d:List Zk}
def Mvd.F(h:Mvd y v a c)(e:0<a.length):spF c=spF a+y:=h.t1 0 e
theorem Mvd.L(h:Mvd y v a c)(e:0<a.length):spL c=spL a+y:=by unfold spL;rw [h.len];exact h.t2 _ O
variable (hpa:∀g∈a,Gin g) (hpb:∀g∈b,Gin g) (hba:Nt a=true) (hbb:Nt b=true) (hpc:∀g∈c,Gin g) (hpd:∀g∈d,Gin g) (hbc:Nt c=true) (hbd:Nt d=true)
include hpa hpb hba hbb hpc hpd hbc hbd
end
end Go.Sky
namespace Go.Sky
variable{d:Int}{r:Rat}{m:Nat}
structure QOK (n d:Int) (r:Rat) (m:Nat):Prop where
 p:0<d
 v:(n:Rat)=r*(d:Rat)
 a:bl n.natAbs<=m
 b:bl d.natAbs<=m
theorem QOK.ne{n:Int}(h:QOK n d r m):d≠0:=by have:=h.p;omega
def QOK.mono{n:Int}{k:Nat}(h:QOK n d r m)(a:m<=k):QOK n d r k:=⟨h.p,h.v,aM h.a a,aM h.b a⟩
def QOK.cg{n:Int}{s:Rat}(h:QOK n d r m)(e:r=s):QOK n d s m:=e▸h
def sq3(f:Nat->Rat):Nat->Rat
 | 0=>0
 | k+1=>sq3 f k+f k*f k
abbrev QzT:=(Int×SL)×(Int×SL)
abbrev encq (z:QzT):Value:= .agg #[.bool (decide (z.1.1<0)),Qu z.1.2,.bool (decide (z.2.1<0)),Qu z.2.2]
abbrev qq (z:QzT):Pc:=Gm qI [z.1,z.2]
abbrev QZ0:QzT:=((0,none,0,0),(1,none,0,0))
def PlQ(g:Zk)(t:Rat)(a:List QzT)(k:Nat):Prop:=a.length=k/\∀i,i<k->QOK (a.getD i QZ0).1.1 (a.getD i QZ0).2.1 (pzQ g i (sR g t)) 28000
def Plc(ps:List Zk)(t:Rat)(a:List QzT):Prop:=∃j,j<ps.length/\InG (ps.getD j G0) t/\PlQ (ps.getD j G0) t a 3
def ClsI(a b:List Zk)(D:Int)(t:Rat)(c:Bool):Prop:=∃j k,j<a.length/\k<b.length/\InG (a.getD j G0) t/\InG (b.getD k G0) t/\(c=true↔dQ (a.getD j G0) (b.getD k G0) (sR (a.getD j G0) t) (sR (b.getD k G0) t)<(D:Rat)*(D:Rat))
section
variable {P:Program} {N:Nat} {sc:Nat->Prop} {env:Yd} {H:Hp}
end
def MvR(ps:List Zk)(v:V3T)(a:List Zk)(e:Int):Prop:=e=2\/e=3\/e=0/\Nt a=true/\(∀g∈a,Gin g)/\a.map unS=(ps.map (mvG v)).map unS
end Go.Sky
namespace Go.Sky
open Go Go.MapKept
variable {P:Program} {N:Nat} {sc:Nat->Prop} {env env':Yd} {H H':Hp} {Q Q':Exit->Act->World->Prop} {M:Nat->Prop}
def mro(b:Nat)(a:List (Int×Value)):Pc:={ mpi b a with own:=false }
def rwK(k:Int):List Int:=if k=0 then []else if k=1 then [1]else glRow
def row3(k:Int)(a b:Value):Value:=if k=0 then .slice none 0 0 else if k=1 then a else b
abbrev numV (p:Nat):Value:= .agg #[.int .u64 ((p/U:Nat):Int),.int .u64 ((p%U:Nat):Int)]
def prN(l:List Nat):Nat:=l.foldl (· * ·) 1
def leL:List Nat->List Nat->Prop
 | [],[]=>True
 | x::xs,y::ys=>x<=y/\leL xs ys
 | _,_=>False
def kpQ(q s t:Nat):Bool:=!decide (prN [64,s,s,t,t]<q)
def kqQ(q a t:Nat):Bool:=!decide (prN [3,a,a,t,t,t,t]<q)
def keepsB(d s a t:Nat):Bool:=kpQ (prN [225,d,1000000]) s t && kqQ (prN [100,d,1000000,1000000]) a t
theorem mulB{a b:Int}(g:-33554432<=a/\a<=33554432)(h:-33554432<=b/\b<=33554432):-1125899906842624<=a*b/\a*b<=1125899906842624:=by have c:=cI (show 0<=33554432-a by omega) (show 0<=33554432-b by omega);have d:=cI (show 0<=33554432+a by omega) (show 0<=33554432+b by omega);have e:=cI (show 0<=33554432-a by omega) (show 0<=33554432+b by omega);have f:=cI (show 0<=33554432+a by omega) (show 0<=33554432-b by omega);simp only [Int.sub_mul,Int.mul_sub,gU,iN]at c d e f;constructor<;>omega
def glvB(b c d f e g fr a:Int):Bool:=ptB b c d && (ptB f e g && decide (0<=fr/\fr<a/\a<=3600000))
def glG(a b c e d f fr g k:Int)(r:SL×SL×SL):Zk:=((fr,g,1),(r.1,Zld a e (rwK k)),(r.2.1,Zld b d (rwK k)),(r.2.2,Zld c f (rwK k)))
def tmB(c d e g f h b a:Int):Bool:=ptB c d e && (ptB g f h && decide ((1<=b/\b<=10000)/\(1<=a/\a<=10000)))
theorem Ze4{x y z:Int}(h:ptB x y z=true):vcB x y z=true:=by obtain⟨a,b,c⟩:=pt_b h;unfold vcB Zbt;simp;omega
@[reducible,instance] def roiM {b:Nat} {a:List (Int×Value)} : RoI (mro b a):=⟨rfl⟩
end Go.Sky
namespace Go.Sky
abbrev Yw:=Int×Int×Int
abbrev Qt (p:Yw):Value:= .agg #[.int .i64 p.1,.int .i64 p.2.1,.int .i64 p.2.2]
abbrev Oa:Yw:=(0,0,0)
abbrev ptT (p:Yw):Bool:=ptB p.1 p.2.1 p.2.2
def sgI(n:Int):Int:=if n<0 then -1 else if n>0 then 1 else 0
def crs2(a b c:Yw):Int:=(b.1-a.1)*(c.2.1-a.2.1)-(b.2.1-a.2.1)*(c.1-a.1)
def trn(a b c:Yw):Int:=sgI (crs2 a b c)
def onB(a b p:Yw):Bool:=decide (trn a b p=0) && (decide (p.1>=min a.1 b.1) && (decide (p.1<=max a.1 b.1) && (decide (p.2.1>=min a.2.1 b.2.1) && decide (p.2.1<=max a.2.1 b.2.1))))
def mtB(a b c d:Yw):Bool:=decide (trn a b c*trn a b d<0) && decide (trn c d a*trn c d b<0)
def mtlB(a b c d:Yw):Bool:=onB a b c || (onB a b d || (onB c d a || (onB c d b || mtB a b c d)))
def flt(p:Yw):Yw:=(p.1,p.2.1,0)
def edg(l:List Yw)(i:Nat):Yw×Yw:=(flt (l.getD i Oa),flt (l.getD ((i+1)%l.length) Oa))
def Dl(l:List Yw):List (Yw×Yw):=(List.range l.length).map (edg l)
def okE(l:List Yw)(i:Nat):Bool:=!(decide ((l.getD i Oa).1=(l.getD ((i+1)%l.length) Oa).1) && decide ((l.getD i Oa).2.1=(l.getD ((i+1)%l.length) Oa).2.1))
def finB(l:List Yw)(i k:Nat):Bool:=
 if k=i+1/\2<l.length then !onB (l.getD i Oa) (l.getD ((i+1)%l.length) Oa) (l.getD ((k+1)%l.length) Oa) && !onB (l.getD k Oa) (l.getD ((k+1)%l.length) Oa) (l.getD i Oa)
 else if(k+1)%l.length=i then !onB (l.getD i Oa) (l.getD ((i+1)%l.length) Oa) (l.getD k Oa) && !onB (l.getD k Oa) (l.getD ((k+1)%l.length) Oa) (l.getD ((i+1)%l.length) Oa)
 else !mtlB (l.getD i Oa) (l.getD ((i+1)%l.length) Oa) (l.getD k Oa) (l.getD ((k+1)%l.length) Oa)
def rowS(l:List Yw)(i:Nat):Bool:=okE l i && (List.range l.length).all λk=>decide (k<=i) || finB l i k
def smpB(l:List Yw):Bool:=decide (3<=l.length/\l.length<=64) && (l.all ptT && (List.range l.length).all (rowS l))
def lcE(p:Yw)(e:Yw×Yw):Bool:=decide (trn e.1 e.2 p=0) && (decide (sgI (e.1.1-p.1)*sgI (e.2.1-p.1)<=0) && decide (sgI (e.1.2.1-p.2.1)*sgI (e.2.2.1-p.2.1)<=0))
def lcD(p:Yw)(e:Yw×Yw):Int:=
 if sgI (e.1.2.1-p.2.1)<=0/\sgI (e.2.2.1-p.2.1)>0/\trn e.1 e.2 p>0 then 1 else if sgI (e.1.2.1-p.2.1)>0/\sgI (e.2.2.1-p.2.1)<=0/\trn e.1 e.2 p<0 then -1 else 0
def lcW(p:Yw)(a:List (Yw×Yw)):Int:=(a.map (lcD p)).foldl (· + ·) 0
def atL(l:List Yw)(p:Yw):Int:=if(Dl l).any (lcE p)=true then 0 else if lcW p (Dl l)≠0 then 1 else -1
def al_f{l:List Yw}{i:Nat}(hi:i<l.length)(h:ptT (l.getD i Oa)=false):l.all ptT=false:=List.all_eq_false.2 ⟨_,Ym _ hi,by rw [h];exact eG⟩
def al_t{l:List Yw}(h:∀j,j<l.length->ptT (l.getD j Oa)=true):l.all ptT=true:=dG.2 λx b=>by obtain⟨j,a,rfl⟩:=dV.1 b;have:=h j a;rwa [aA,aF a]at this
def arD(e:Yw×Yw):Int:=e.1.1*e.2.2.1-e.1.2.1*e.2.1
def ar2(a:List (Yw×Yw)):Int:=(a.map arD).foldl (· + ·) 0
def LcI(l:List Yw)(p:Yw)(k:Nat)(z:Int):Prop:=z=lcW p ((Dl l).take k)/\∀j e,j<k->(Dl l)[j]? = some e->lcE p e=false
@[reducible,instance] def clIF {f:Fn} {a b:Array Value} : ClI (.func f a b) [.func f a b]:=⟨rfl⟩
abbrev PgT:=SL×List Yw
abbrev qPg (z:PgT):Pc:=Ou 3 Qt (Qu z.1) z.2
abbrev Pg0:PgT:=((none,0,0),[])
def nmB(e:Yw×Yw)(a:List Yw):Bool:=(Dl a).all λc=>!mtlB e.1 e.2 c.1 c.2
def ekB(o:List Yw)(a:List (List Yw))(e:Yw×Yw):Bool:=decide (0<=atL o e.1) && a.all (nmB e)
def holeB(o:List Yw)(hs:List PgT)(i:Nat):Bool:=smpB (hs.getD i Pg0).2 && (Dl (hs.getD i Pg0).2).all (ekB o (o::(hs.take i).map Prod.snd))
def farB(hs:List PgT)(i k:Nat):Bool:=decide (i=k) || decide (atL (hs.getD k Pg0).2 ((hs.getD i Pg0).2.getD 0 Oa)<0)
def fncB(o:List Yw)(hs:List PgT)(a hi:Int):Bool:=
 smpB o && (decide (hs.length<=16/\-1048576<=a/\hi<=1048576/\a<=hi) && ((List.range hs.length).all (holeB o hs) && (List.range hs.length).all λi=>(List.range hs.length).all (farB hs i)))
section
variable {o:List Yw} {hs:List PgT} {lo hi:Int} {so:SL} {i k:Nat} {e:Yw×Yw}
def EkI(o:List Yw)(a:List (List Yw))(b:List (Yw×Yw))(k:Nat):Prop:=∀j e,j<k->b[j]? = some e->ekB o a e=true
def NmI(e:Yw×Yw)(a:List (Yw×Yw))(k:Nat):Prop:=∀j c,j<k->a[j]? = some c->mtlB e.1 e.2 c.1 c.2=false
end
def inB(b:List Yw)(a:List PgT)(q:Yw):Bool:=decide (atL b q>=0) && !(a.any λz=>decide (atL z.2 q>0))
def insF(c:List Yw)(b:List PgT)(fl a:Int)(q:Yw):Bool:=decide (q.2.2>=fl) && (decide (q.2.2<=a) && inB c b q)
section
variable {po:List Yw} {ph:List PgT} {fl fu:Int} {q:Yw}
end
end Go.Sky
namespace Go.Sky
variable {P:Program} {N:Nat} {sc:Nat->Prop} {env env':Yd} {H H' H0:Hp} {Q Q':Exit->Act->World->Prop} {M:Nat->Prop}
@[reducible] def drp2:Nat->Hp->Hp
 | _,[]=>[]
 | k,(i,p)::r=>match Nat.beq i k with
  | true=>drp2 k r
  | false=>(i,p)::drp2 k r
theorem Zf4:∀(k:Nat) (H:Hp),drp2 k H=drp k H
 | _,[]=>rfl
 | k,(i,p)::r=>by unfold drp2 drp;cases Nat.beq i k<;>simp [Zf4 k r]
@[reducible] def anyb:List Nat->Nat->Bool
 | [],_=>false
 | k::r,i=>match Nat.beq i k with
  | true=>true
  | false=>anyb r i
theorem Zcb:∀(a:List Nat) (i:Nat),anyb a i=a.any (Nat.beq i)
 | [],_=>rfl
 | k::r,i=>by unfold anyb;rw [List.any_cons,<-Zcb r i];cases Nat.beq i k<;>rfl
@[reducible] def rst2 (a:List Nat):Hp->Hp
 | []=>[]
 | (i,p)::r=>match anyb a i with
  | true=>(i,p)::rst2 a r
  | false=>rst2 a r
theorem Zfa(a:List Nat):∀H:Hp,rst2 a H=rst a H
 | []=>rfl
 | (i,p)::r=>by unfold rst2 rst;rw [<-Zcb];cases anyb a i<;>simp [Zfa a r]
class AgI (H0 H:Hp) (ks:List Nat):Prop where h:Agr H0 H ks
instance:AgI H0 H []:=⟨aB⟩
instance {k:Nat} {ks:List Nat} {p:Pc} [h1:Som (lk2 H k) p] [h2:Som (lk2 H0 k) p] [h:AgI H0 H ks]:AgI H0 H (k::ks):=⟨⟨h1.l.trans h2.l.symm,h.h⟩⟩
class StI (P:Program) (N:Nat) (sc:Nat->Prop) (M:Nat->Prop) (op:Go.Op) (env:Yd) (H:Hp) (v:outParam Value) (s:outParam Prop):Prop where
 h:s->∀{d:Option Tmp} {ty:TypeId} {pos:String} {af:Array Edge} {g:Option (Nat×Bool)},Stb P N sc M ⟨d,op,ty,pos,af,g⟩ env H v
section
variable {op:Go.Op} {v:Value} {s:Prop} {k b:Nat} {t:TypeId} {l:List Value} {ks:List Nat}
instance [h:DI P N sc op env H v s]:StI P N sc (λ_=>False) op env H v s:=⟨λhs=>Hy (h.h hs)⟩
instance [hb:BxI H b k t l] [h:DI P N sc op env (drp2 k H) v s]:StI P N sc (λx=>x=b) op env H v s:=⟨λhs=>st1 k hb.h (by rw [<-Zf4];exact h.h hs)⟩
instance [ha:AgI H0 H ks] [h:DI P N sc op env (rst2 ks H) v s]:StI P N sc (Off H0 ks) op env H v s:=⟨λhs=>stf (by rw [<-Zfa];exact h.h hs) ha.h⟩
end
class MI (M:Nat->Prop) (b:Nat):Prop where h:M b
class MS (N:Nat) (sc:Nat->Prop) (M:Nat->Prop) (env:Yd) (H:Hp) (b:Nat):Prop where h:∀a w,Sat N sc env H a w->M b
instance {b:Nat} : MS N sc (λ_=>True) env H b:=⟨λ_ _ _=>trivial⟩
instance {b:Nat} : MS N sc (λx=>x=b) env H b:=⟨λ_ _ _=>rfl⟩
instance {b:Nat} [h:MI M b]:MS N sc M env H b:=⟨λ_ _ _=>h.h⟩
@[reducible] def nin (ks:List Nat) (i:Nat):Bool:=match anyb ks i with
 | true=>false
 | false=>true
instance (priority:=low) {b i:Nat} {t:TypeId} {l:List Value} {ks:List Nat} [hb:BxI H b i t l] [hn:TB (nin ks i)] [ha:AgI H0 H ks]:MS N sc (Off H0 ks) env H b:=⟨λa w hs=>λk hk p hp hf=>by
 rw [<-ha.h.mem k hk]at hp;have hne:i≠k:=λe=>by
  subst e;have h1:=hn.h;unfold nin at h1;rw [Zcb]at h1;cases h2:ks.any (Nat.beq i)with
  | true=>rw [h2]at h1;cases h1
  | false=>
   have:=List.any_eq_false.1 h2 i hk;simp at this
 exact hs.sep i k _ p hne hb.h hp rfl b rfl hf⟩
section
variable {d i j k b e n:Nat} {vs ws l l':List Value} {w0:World} {M0:Nat->Prop} {ty t tb:TypeId} {pos:String} {af:Array Edge} {g:Option (Nat×Bool)} {x y:Operand} {v z:Value} {bb:Bool}
variable {ll:List Oper} {F:Yd->Hp->Prop} {rest:List (Nat×Nat)} {op:Go.Op} {G:Type} {φ:G->Prop} {genv:G->Yd} {gH:G->Hp} {dd:Option Tmp} {q r s:Prop}
def t_stm [hx:Som (ev2 env x) (.pointer (some ⟨b,j,none⟩))] [hy:Som (ev2 env y) v] [hB:BxI H b i tb l] [hi:TB (neb i 0)] [hv:CeI P N sc env H v vs] [hk:Siz P t k] [hl:TB (lenq vs k)] [hf:TB (fits l j vs)] [hr:LEv (lay2 l j vs) l']
  [h0:Som (lk2 H 0) (keep w0 M0)] [hw:Hw w0 sc] [hM:MS N sc M env H b]:T P N sc M ⟨none,.store t x y,ty,pos,af,g⟩ env H (G:=Unit) (λ_=>True) (λ_=>env) (λ_=>(i,box b tb l'.toArray)::H):=λa w hs=>Zhx (hM.h a w hs) a w hs
def r1x(a:T P N sc M ⟨dd,op,ty,pos,af,none⟩ env H φ genv gH)[ho:Som (nth ll i) ⟨dd,op,ty,pos,af,none⟩](h:∀g,φ g->LD P N sc M ll.toArray F rest (genv g) (gH g)):LD P N sc M ll.toArray F ((i,1)::rest) env H:=r1' ho.n a h
def aax{ts:List Nat}{a:Array Bool}(c:T P N sc M ⟨dd,op,ty,pos,af,none⟩ env H φ genv gH)[ho:Som (nth ll i) ⟨dd,op,ty,pos,af,none⟩](h:∀g,φ g->A P N sc M ll.toArray ts Q n (a.setIfInBounds i true) (genv g) (gH g)):Ax P N sc M ll.toArray ts Q n a env H i:=Im ho.n rfl c h
instance [ho:Som (nth ll i) ⟨some d,op,ty,pos,af,none⟩] [h1:StI P N sc M op env H v s] [h2:TB (ltb d N)] [h:Adv n (LD P N sc M ll.toArray F rest ((d,v)::env) H) q] [h3:AndO s q r]:Adv (n+1) (LD P N sc M ll.toArray F ((i,0)::rest) env H) r:=
 ⟨λk=>Kx ho.n rfl (h1.h (h3.h k).1) (h.h (h3.h k).2) rfl (Xe h2.h)⟩
instance [ho:Som (nth ll i) ⟨some d,op,ty,pos,af,some (j,bb)⟩] [hj:Som (dsto ll j) e] [he:Som (lk2 env e) (.bool bb)] [hN:TB (ltb e N)] [h1:StI P N sc M op env H v s] [h2:TB (ltb d N)] [h:Adv n (LD P N sc M ll.toArray F rest ((d,v)::env) H) q] [h3:AndO s q r]:Adv (n+1) (LD P N sc M ll.toArray F ((i,0)::rest) env H) r:=
 ⟨λk=>r0g (h1.h (h3.h k).1) ho.n rfl (Nh hj) he.l (Xe hN.h) rfl (Xe h2.h) (h.h (h3.h k).2)⟩
instance [ho:Som (nth ll i) ⟨some d,op,ty,pos,af,some (j,true)⟩] [hj:Som (dsto ll j) e] [he:Som (lk2 env e) (.bool false)] [hN:TB (ltb e N)] [h2:TB (ltb d N)] [h:Adv n (LD P N sc M ll.toArray F rest ((d,undef)::env) H) q]:Adv (n+1) (LD P N sc M ll.toArray F ((i,2)::rest) env H) q:=
 ⟨λk=>r2 ho.n rfl (Nh hj) he.l rfl (Xe hN.h) rfl (Xe h2.h) (h.h k)⟩
instance [ho:Som (nth ll i) ⟨some d,op,ty,pos,af,some (j,false)⟩] [hj:Som (dsto ll j) e] [he:Som (lk2 env e) (.bool true)] [hN:TB (ltb e N)] [h2:TB (ltb d N)] [h:Adv n (LD P N sc M ll.toArray F rest ((d,undef)::env) H) q]:Adv (n+1) (LD P N sc M ll.toArray F ((i,2)::rest) env H) q:=
 ⟨λk=>r2 ho.n rfl (Nh hj) he.l rfl (Xe hN.h) rfl (Xe h2.h) (h.h k)⟩
instance [ho:Som (nth ll i) ⟨none,.store t x y,ty,pos,af,none⟩] [hx:Som (ev2 env x) (.pointer (some ⟨b,j,none⟩))] [hy:Som (ev2 env y) v] [hB:BxI H b k tb l] [hi:TB (neb k 0)] [hv:CeI P N sc env H v vs] [hk:Siz P t e] [hl:TB (lenq vs e)] [hf:TB (fits l j vs)] [hr:LEv (lay2 l j vs) l']
  [h0:Som (lk2 H 0) (keep w0 M0)] [hw:Hw w0 sc] [h:Adv n (LD P N sc M ll.toArray F rest env ((k,box b tb l'.toArray)::H)) q]:Adv (n+1) (LD P N sc M ll.toArray F ((i,3)::rest) env H) q:=
 ⟨λq=>r3' ho.n (Zhx aB) λ_ _=>h.h q⟩
instance [ho:Som (nth ll i) ⟨none,.store t x y,ty,pos,af,none⟩] [hx:Som (ev2 env x) (.pointer (some ⟨b,j,none⟩))] [hy:Som (ev2 env y) v] [hB:BxI H b k tb l] [hi:TB (neb k 0)] [hM:MS N sc M env H b] [hv:CeI P N sc env H v vs] [hk:Siz P t e] [hl:TB (lenq vs e)] [hf:TB (fits l j vs)] [hr:LEv (lay2 l j vs) l']
  [h0:Som (lk2 H 0) (keep w0 M0)] [hw:Hw w0 sc] [h:Adv n (LD P N sc M ll.toArray F rest env ((k,box b tb l'.toArray)::H)) q]:Adv (n+1) (LD P N sc M ll.toArray F ((i,1)::rest) env H) q:=
 ⟨λq=>r1' ho.n t_stm λ_ _=>h.h q⟩
instance [ho:Som (nth ll i) ⟨some d,op,ty,pos,af,none⟩] [h1:DI P N sc op env H v s] [h2:TB (ltb d N)] [h:Adv n (LD P N sc M ll.toArray F rest ((d,v)::env) H) q] [h3:AndO s q r]:Adv (n+1) (LD P N sc M ll.toArray F ((i,1)::rest) env H) r:=
 ⟨λk=>r1' ho.n (t_det (h1.h (h3.h k).1) rfl (Xe h2.h)) λ_ _=>h.h (h3.h k).2⟩
instance [ho:Som (nth ll i) ⟨some d,op,ty,pos,af,none⟩] [h1:DI P N sc op env H v s] [h2:TB (ltb d N)] [h:Adv n (LD P N sc M ll.toArray F rest ((d,v)::env) H) q] [h3:AndO s q r]:Adv (n+1) (LD P N sc M ll.toArray F ((i,3)::rest) env H) r:=
 ⟨λk=>r3' ho.n (t_det (h1.h (h3.h k).1) rfl (Xe h2.h)) λ_ _=>h.h (h3.h k).2⟩
instance [h:Adv n (F env H) q] {ops:Array Oper} : Adv (n+1) (LD P N sc M ops F [] env H) q:=⟨λk=>r_fin (h.h k)⟩
theorem Da {id:Nat} {l:List Oper} (M:Nat->Prop) (a:List (Nat×Nat)) (h:LD P N sc M l.toArray (X N sc .normal Q) a env H) (c:P.follows .mixedOrders=true:=by kernel_rfl)
  (f:(Region.noSelect l.toArray && Nat.beq a.length l.length && Oj l.toArray (Hb a) a (Array.replicate l.length false) && (Region.ready .any l.toArray (Ns a (Array.replicate l.length false))).isEmpty)=true:=by kernel_rfl) :
  E P N sc (.region id l.toArray true) Q env H:=e_dreg M a c f h
end
end Go.Sky
namespace Go.Sky
open Go.RowKit Below
variable {P:Program} {N:Nat} {sc:Nat->Prop} {env env':Yd} {H H':Hp} {Q Q':Exit->Act->World->Prop} {M:Nat->Prop}
class EnI (vs:List Value) (env:outParam Yd):Prop where h:Pu 0 vs=env
class PnI (vs:List Pc) (H:outParam Hp):Prop where h:Qi 1 vs=H
section
variable {a b c d e f g i j:Value} {p q r s t u v w x y:Pc}
instance:EnI [] []:=⟨rfl⟩
instance:EnI [a] [(0,a)]:=⟨rfl⟩
instance:EnI [a,b] [(0,a),(1,b)]:=⟨rfl⟩
instance:EnI [a,b,c] [(0,a),(1,b),(2,c)]:=⟨rfl⟩
instance:EnI [a,b,c,d] [(0,a),(1,b),(2,c),(3,d)]:=⟨rfl⟩
instance:EnI [a,b,c,d,e] [(0,a),(1,b),(2,c),(3,d),(4,e)]:=⟨rfl⟩
instance:EnI [a,b,c,d,e,f] [(0,a),(1,b),(2,c),(3,d),(4,e),(5,f)]:=⟨rfl⟩
instance:EnI [a,b,c,d,e,f,g] [(0,a),(1,b),(2,c),(3,d),(4,e),(5,f),(6,g)]:=⟨rfl⟩
instance:PnI [] []:=⟨rfl⟩
instance:PnI [p] [(1,p)]:=⟨rfl⟩
instance:PnI [p,q] [(1,p),(2,q)]:=⟨rfl⟩
instance:PnI [p,q,r] [(1,p),(2,q),(3,r)]:=⟨rfl⟩
instance:PnI [p,q,r,s] [(1,p),(2,q),(3,r),(4,s)]:=⟨rfl⟩
instance:PnI [p,q,r,s,t] [(1,p),(2,q),(3,r),(4,s),(5,t)]:=⟨rfl⟩
instance:PnI [p,q,r,s,t,u] [(1,p),(2,q),(3,r),(4,s),(5,t),(6,u)]:=⟨rfl⟩
instance:PnI [p,q,r,s,t,u,v] [(1,p),(2,q),(3,r),(4,s),(5,t),(6,u),(7,v)]:=⟨rfl⟩
instance:PnI [p,q,r,s,t,u,v,w] [(1,p),(2,q),(3,r),(4,s),(5,t),(6,u),(7,v),(8,w)]:=⟨rfl⟩
instance:PnI [p,q,r,s,t,u,v,w,x] [(1,p),(2,q),(3,r),(4,s),(5,t),(6,u),(7,v),(8,w),(9,x)]:=⟨rfl⟩
instance:PnI [p,q,r,s,t,u,v,w,x,y] [(1,p),(2,q),(3,r),(4,s),(5,t),(6,u),(7,v),(8,w),(9,x),(10,y)]:=⟨rfl⟩
end
class RoL (l:List Pc):Prop where h:AllRo l
instance:RoL []:=⟨aB⟩
instance {p:Pc} {r:List Pc} [h:RoI p] [h2:RoL r]:RoL (p::r):=⟨⟨h.h,h2.h⟩⟩
theorem Yf {f:FuncId} {n:Func} {c:Code} {vs:List Value} {k:List Pc} {al:Bool} {G:Type} {φ:G->Prop} {val:G->Value} {m:G->List Pc} {N:Nat} (F:P.funcs[f]? = some n) (B:n.ntmps=N)
  [he:EnI vs env] [hp:PnI k H] [hro:RoL k] (h:∀l (sc:Nat->Prop),Hw l sc->(∀b,sc b->l.heap.size<=b\/∃q∈k,q.fp b)->E P N sc c (Al P n l k al φ val m) env ((0,keep l (λ_=>False))::H))
  (D:n.body=some c:=by rfl) (o:Nat.ble vs.length N=true:=by rfl):Cal P f vs.toArray k al φ val m:=
 cal_in F D B o hro.h λl sc I z=>by rw [he.h,hp.h];exact h l sc ⟨I⟩ z
class RvI (P:Program) (N:Nat) (sc:Nat->Prop) (env:Yd) (H:Hp) (r:ResultVar) (v:outParam Value):Prop where h:RV P N sc env H r v
instance {t:Nat} {v:Value} [h:Som (lk2 env t) v]:RvI P N sc env H (.tmp t) v:=⟨h.l⟩
instance {c b i k:Nat} {t tb:TypeId} {l:List Value} [h:Som (lk2 env c) (.pointer (some ⟨b,0,none⟩))] [h1:Agg P t true] [h2:BxI H b i tb l] [h3:Siz P t k] [h4:TB (lenq l k)]:RvI P N sc env H (.cell c t) (.agg l.toArray):=⟨Zlp h.l h2.h h1.h h3.h (Fq h4.h)⟩
instance {c b i:Nat} {t tb:TypeId} {v:Value} [h:Som (lk2 env c) (.pointer (some ⟨b,0,none⟩))] [h1:Agg P t false] [h2:BxI H b i tb [v]]:RvI P N sc env H (.cell c t) v:=⟨Zia h.l h2.h h1.h⟩
section
variable {fn:Func} {pre:List Pc} {al:Bool} {G:Type} {φ:G->Prop} {val:G->Value} {its:G->List Pc} {w0:World} {r1 r2 r3:ResultVar} {v1 v2 v3:Value}
def Kq(k:∀b,sc b->w0.heap.size<=b\/∃q∈pre,q.fp b)(g:G)(l:fn.results=#[r1])[h1:RvI P N sc env H r1 v1][h0:Som (lk2 H 0) (keep w0 (λ_=>False))](n:val g=v1)(m:φ g)(h:Give H al (its g)) :
  X N sc .ret (Al P fn w0 pre al φ val its) env H:=Zhq (.inl rfl) k g v1 (λa w hs=>Zct hs l h1.h) n m h0.l h
def xe2(k:∀b,sc b->w0.heap.size<=b\/∃q∈pre,q.fp b)(g:G)(l:fn.results=#[r1,r2])[h1:RvI P N sc env H r1 v1][h2:RvI P N sc env H r2 v2][h0:Som (lk2 H 0) (keep w0 (λ_=>False))](n:val g= .tuple #[v1,v2])(m:φ g)(h:Give H al (its g)) :
  X N sc .ret (Al P fn w0 pre al φ val its) env H:=Zhq (.inl rfl) k g (.tuple #[v1,v2]) (λa w hs=>res2 hs l h1.h h2.h) n m h0.l h
def xe3(k:∀b,sc b->w0.heap.size<=b\/∃q∈pre,q.fp b)(g:G)(l:fn.results=#[r1,r2,r3])[h1:RvI P N sc env H r1 v1][h2:RvI P N sc env H r2 v2][h3:RvI P N sc env H r3 v3][h0:Som (lk2 H 0) (keep w0 (λ_=>False))](n:val g= .tuple #[v1,v2,v3])(m:φ g)(h:Give H al (its g)) :
  X N sc .ret (Al P fn w0 pre al φ val its) env H:=Zhq (.inl rfl) k g (.tuple #[v1,v2,v3]) (λa w hs=>res3 hs l h1.h h2.h h3.h) n m h0.l h
end
class EncE {α:Type} (k:Nat) (enc:α->Value):Prop where h:∃(P:Program) (t:TypeId),Enc P t k enc
theorem gsm{p k:Pc}{r:List Pc}(i:Nat)[hi:Som (lk2 H i) k][h0:TB (neb i 0)][ho:RoI k](h:Give H true r)(e:k=p:=by rfl):Give H true (p::r):=e▸Zhd i hi.l (Zgm (Hd h0.h)) ho.h h
section
variable {α:Type} {k i:Nat} {e:TypeId} {enc:α->Value} {v v':Value} {xs ys:List α} {al:Bool} {r:List Pc}
end
section
variable {n:Nat} {x b:Bool} {d e j:Nat} {op:Go.Op} {ty:TypeId} {pos:String} {af:Array Edge} {rest:List Oper} {ops:Array Oper} {ll:List Oper}
def kf [h1:DI P N sc op env H (.bool x) True][h2:TB (ltb d N)](e:x=false)(h:L P N sc ops rest Q ((d,.bool false)::env) H):L P N sc ops (⟨some d,op,ty,pos,af,none⟩::rest) Q env H:=dt (Xa _ (h1.h aB) (aU _ e)) h (Xe h2.h)
def kt [h1:DI P N sc op env H (.bool x) True][h2:TB (ltb d N)](e:x=true)(h:L P N sc ops rest Q ((d,.bool true)::env) H):L P N sc ops (⟨some d,op,ty,pos,af,none⟩::rest) Q env H:=dt (Xa _ (h1.h aB) (aU _ e)) h (Xe h2.h)
def kfg [h1:DI P N sc op env H (.bool x) True][hj:Som (dsto ll j) e][hg:Som (lk2 env e) (.bool b)][h4:TB (ltb e N)][h2:TB (ltb d N)](e:x=false)(h:L P N sc ll.toArray rest Q ((d,.bool false)::env) H):L P N sc ll.toArray (⟨some d,op,ty,pos,af,some (j,b)⟩::rest) Q env H:=gdt (Xa _ (h1.h aB) (aU _ e)) (Nh hj) hg.l h (Xe h4.h) (Xe h2.h)
def ktg [h1:DI P N sc op env H (.bool x) True][hj:Som (dsto ll j) e][hg:Som (lk2 env e) (.bool b)][h4:TB (ltb e N)][h2:TB (ltb d N)](e:x=true)(h:L P N sc ll.toArray rest Q ((d,.bool true)::env) H):L P N sc ll.toArray (⟨some d,op,ty,pos,af,some (j,b)⟩::rest) Q env H:=gdt (Xa _ (h1.h aB) (aU _ e)) (Nh hj) hg.l h (Xe h4.h) (Xe h2.h)
end
section
variable {f:FuncId} {xs:List Operand} {ats:Array TypeId} {d i j e n:Nat} {vs:List Value} {pre:List Pc} {al b:Bool} {G:Type} {φ:G->Prop} {val:G->Value} {its:G->List Pc} {w0:World} {M0:Nat->Prop} {ty:TypeId} {pos:String} {af:Array Edge} {G':G->Hp} {ops:Array Oper} {rest ll:List Oper}
def cl (n:Nat) (l:List Nat) (m:Cal P f vs.toArray pre al φ val its) [hx:EvI env xs vs] [hf:CalF P f] [hp:PreL P H al l pre] [h0:Som (lk2 H 0) (keep w0 M0)] [hN:TB (ltb d N)] [hw:Hw w0 sc] [ha:∀g,AddI n (its g) H (G' g)]
  (h:∀g,φ g->L P N sc ops rest Q ((d,val g)::env) (G' g)):L P N sc ops (⟨some d,.call { callee:= .value (.func f),args:=xs.toArray,argTypes:=ats },ty,pos,af,none⟩::rest) Q env H:=Lg (t_ca n l m) h
def clg (n:Nat) (l:List Nat) (m:Cal P f vs.toArray pre al φ val its) [hx:EvI env xs vs] [hf:CalF P f] [hp:PreL P H al l pre] [h0:Som (lk2 H 0) (keep w0 M0)] [hN:TB (ltb d N)] [hw:Hw w0 sc] [ha:∀g,AddI n (its g) H (G' g)] [hj:Som (dsto ll j) e] [he:Som (lk2 env e) (.bool b)] [hN2:TB (ltb e N)]
  (h:∀g,φ g->L P N sc ll.toArray rest Q ((d,val g)::env) (G' g)):L P N sc ll.toArray (⟨some d,.call { callee:= .value (.func f),args:=xs.toArray,argTypes:=ats },ty,pos,af,some (j,b)⟩::rest) Q env H:=gt' (t_ca n l m) h
end
class SeI (l:List Nat) (env:Yd) (cs:outParam Yd):Prop where h:Sub cs env
instance:SeI [] env []:=⟨aB⟩
instance {t:Nat} {l:List Nat} {v:Value} {cs:Yd} [h:Som (lk2 env t) v] [h2:SeI l env cs]:SeI (t::l) env ((t,v)::cs):=⟨⟨h.l,h2.h⟩⟩
class SeH (l:List Nat) (H:Hp) (ch:outParam Hp):Prop where h:HSub ch H
instance:SeH [] H []:=⟨aB⟩
instance {t:Nat} {l:List Nat} {v:Pc} {cs:Hp} [h:Som (lk2 H t) v] [h2:SeH l H cs]:SeH (t::l) H ((t,v)::cs):=⟨⟨h.l,h2.h⟩⟩
class ApI {α:Type _} (a b:List α) (c:outParam (List α)):Prop where h:a ++ b=c
instance {α:Type _} {b:List α} : ApI [] b b:=⟨rfl⟩
instance {α:Type _} {x:α} {a b c:List α} [h:ApI a b c]:ApI (x::a) b (x::c):=⟨by rw [<-h.h];rfl⟩
class SbI (cs env:Yd):Prop where h:Sub cs env
instance:SbI [] env:=⟨aB⟩
instance {t:Nat} {v:Value} {cs:Yd} [h:Som (lk2 env t) v] [h2:SbI cs env]:SbI ((t,v)::cs) env:=⟨⟨h.l,h2.h⟩⟩
class HbI (ch H:Hp):Prop where h:HSub ch H
instance:HbI [] H:=⟨aB⟩
instance {t:Nat} {v:Pc} {cs:Hp} [h:Som (lk2 H t) v] [h2:HbI cs H]:HbI ((t,v)::cs) H:=⟨⟨h.l,h2.h⟩⟩
def Sub.app:∀{a b e:Yd},Sub a e->Sub b e->Sub (a ++ b) e
 | [],_,_,_,h=>h
 | (_,_)::_,_,_,h1,h=>⟨h1.1,Sub.app h1.2 h⟩
def HSub.app:∀{a b e:Hp},HSub a e->HSub b e->HSub (a ++ b) e
 | [],_,_,_,h=>h
 | (_,_)::_,_,_,h1,h=>⟨h1.1,HSub.app h1.2 h⟩
section
variable {c x y:Code} {G:Type} {cs:Yd} {ch:Hp} {e1:G->Yd} {H1:G->Hp} {ov:G->Yd} {oh:G->Hp} {inv:G->Prop} {μ:G->Nat} {g:G}
theorem lp (l D:List Nat) (ov:G->Yd) (oh:G->Hp) (inv:G->Prop) (μ:G->Nat) (m:G) (B:inv m) (hs:Sub (ov m) env) (z:HSub (oh m) H) [h1:SeI l env cs] [h2:SeH D H ch] [h3:∀g,ApI (ov g) cs (e1 g)] [h4:∀g,ApI (oh g) ch (H1 g)]
  (h:∀g,inv g->E P N sc c (Exit.then (Zn5 N sc cs ch ov oh inv μ g) Q) (e1 g) (H1 g)):E P N sc (.loop c) Q env H:=
 e_lp cs ch ov oh inv μ m B (hs.app h1.h) (z.app h2.h) λg o=>by rw [(h3 g).h,(h4 g).h];exact h g o
def Yr(h:G)(l:inv h)(m:μ h<μ g)(hs:Sub (ov h) env)(o:HSub (oh h) H)[k1:SbI cs env][k2:HbI ch H]:X N sc .normal (Exit.then (Zn5 N sc cs ch ov oh inv μ g) Q) env H:=x_rnd h l m (hs.app k1.h) (o.app k2.h)
theorem jn (l z:List Nat) (ov:G->Yd) (oh:G->Hp) (inv:G->Prop) [h1:SeI l env cs] [h2:SeH z H ch] [h3:∀g,ApI (ov g) cs (e1 g)] [h4:∀g,ApI (oh g) ch (H1 g)]
  (m:E P N sc x (Exit.then (JnK N sc cs ch ov oh inv) Q) env H) (o:∀g,inv g->E P N sc y Q (e1 g) (H1 g)):E P N sc (.seq x y) Q env H:=
 e_jn cs ch ov oh inv h1.h h2.h m λg h=>by rw [(h3 g).h,(h4 g).h];exact o g h
def x_j(h:G)(l:inv h)(hs:Sub (ov h) env)(m:HSub (oh h) H)[k1:SbI cs env][k2:HbI ch H]:X N sc .normal (Exit.then (JnK N sc cs ch ov oh inv) Q) env H:=x_jn h l (hs.app k1.h) (m.app k2.h)
end
end Go.Sky
namespace Go.Sky
open Go.Proofs
set_option linter.all false
set_option synthInstance.maxHeartbeats 0
instance:EncT Try.prog 92 1 Zmu:=⟨pU⟩
instance:EncE 1 Zmu:=⟨_,_,pU⟩
instance:EncT Try.prog 5 1 encB:=⟨pB⟩
instance:EncE 1 encB:=⟨_,_,pB⟩
instance:EncT Try.prog 3 1 Zmv:=⟨pN⟩
instance:EncE 1 Zmv:=⟨_,_,pN⟩
instance:EncT Try.prog 3 1 Zo:=⟨pZ⟩
instance:EncE 1 Zo:=⟨_,_,pZ⟩
instance {α:Type} : EncT Try.prog 24 1 (Qe (α:=α)):=⟨pS⟩
instance {α:Type} : EncE 1 (Qe (α:=α)):=⟨_,_,pS⟩
@[reducible,instance] def iUnd3:=Und.mk Try.underlying3
@[reducible,instance] def iUnd22:=Und.mk Try.underlying22
@[reducible,instance] def iUnd24:=Und.mk Try.underlying24
@[reducible,instance] def iUnd26:=Und.mk Try.underlying26
@[reducible,instance] def iUnd28:=Und.mk Try.underlying28
@[reducible,instance] def iUnd34:=Und.mk Try.underlying34
@[reducible,instance] def iUnd38:=Und.mk Try.underlying38
@[reducible,instance] def iUnd55:=Und.mk Try.underlying55
@[reducible,instance] def iUnd61:=Und.mk Try.underlying61
@[reducible,instance] def iUnd71:=Und.mk Try.underlying71
@[reducible,instance] def iUnd77:=Und.mk Try.underlying77
@[reducible,instance] def iUnd81:=Und.mk Try.underlying81
@[reducible,instance] def iSiz3:=Siz.mk Try.sizeOf3
@[reducible,instance] def iSiz4:=Siz.mk Try.sizeOf4
@[reducible,instance] def iSiz24:=Siz.mk Try.sizeOf24
@[reducible,instance] def iSiz26:=Siz.mk Try.sizeOf26
@[reducible,instance] def iSiz28:=Siz.mk Try.sizeOf28
@[reducible,instance] def iSiz30:=Siz.mk Try.sizeOf30
@[reducible,instance] def iSiz34:=Siz.mk Try.sizeOf34
@[reducible,instance] def iSiz38:=Siz.mk Try.sizeOf38
@[reducible,instance] def iSiz55:=Siz.mk Try.sizeOf55
@[reducible,instance] def iAgg3:=Agg.mk Try.isAgg3
@[reducible,instance] def iAgg24:=Agg.mk Try.isAgg24
@[reducible,instance] def iAgg26:=Agg.mk Try.isAgg26
@[reducible,instance] def iAgg28:=Agg.mk Try.isAgg28
@[reducible,instance] def iAgg30:=Agg.mk Try.isAgg30
@[reducible,instance] def iAgg34:=Agg.mk Try.isAgg34
@[reducible,instance] def iAgg38:=Agg.mk Try.isAgg38
@[reducible,instance] def iAgg55:=Agg.mk Try.isAgg55
@[reducible,instance] def iZer3:=Zer.mk Try.zeroValue3
@[reducible,instance] def iZer26:=Zer.mk Try.zeroValue26
@[reducible,instance] def iZer28:=Zer.mk Try.zeroValue28
@[reducible,instance] def iZer30:=Zer.mk Try.zeroValue30
@[reducible,instance] def iZer38:=Zer.mk Try.zeroValue38
@[reducible,instance] def iZer55:=Zer.mk Try.zeroValue55
@[reducible,instance] def iCalF4:=CalF.mk Try.call4
@[reducible,instance] def iCalF5:=CalF.mk Try.call5
@[reducible,instance] def iCalF6:=CalF.mk Try.call6
@[reducible,instance] def iCalF7:=CalF.mk Try.call7
@[reducible,instance] def iCalF8:=CalF.mk Try.call8
@[reducible,instance] def iCalF9:=CalF.mk Try.call9
@[reducible,instance] def iCalF10:=CalF.mk Try.call10
@[reducible,instance] def iCalF11:=CalF.mk Try.call11
@[reducible,instance] def iCalF12:=CalF.mk Try.call12
@[reducible,instance] def iCalF13:=CalF.mk Try.call13
@[reducible,instance] def iCalF14:=CalF.mk Try.call14
@[reducible,instance] def iCalF15:=CalF.mk Try.call15
@[reducible,instance] def iCalF16:=CalF.mk Try.call16
@[reducible,instance] def iCalF17:=CalF.mk Try.call17
@[reducible,instance] def iCalF18:=CalF.mk Try.call18
@[reducible,instance] def iCalF19:=CalF.mk Try.call19
@[reducible,instance] def iCalF20:=CalF.mk Try.call20
@[reducible,instance] def iCalF21:=CalF.mk Try.call21
@[reducible,instance] def iCalF22:=CalF.mk Try.call22
@[reducible,instance] def iCalF23:=CalF.mk Try.call23
@[reducible,instance] def iCalF24:=CalF.mk Try.call24
@[reducible,instance] def iCalF25:=CalF.mk Try.call25
@[reducible,instance] def iCalF26:=CalF.mk Try.call26
@[reducible,instance] def iCalF27:=CalF.mk Try.call27
@[reducible,instance] def iCalF28:=CalF.mk Try.call28
@[reducible,instance] def iCalF29:=CalF.mk Try.call29
@[reducible,instance] def iCalF30:=CalF.mk Try.call30
@[reducible,instance] def iCalF31:=CalF.mk Try.call31
@[reducible,instance] def iCalF32:=CalF.mk Try.call32
@[reducible,instance] def iCalF33:=CalF.mk Try.call33
@[reducible,instance] def iCalF34:=CalF.mk Try.call34
@[reducible,instance] def iCalF35:=CalF.mk Try.call35
@[reducible,instance] def iCalF36:=CalF.mk Try.call36
@[reducible,instance] def iCalF37:=CalF.mk Try.call37
@[reducible,instance] def iCalF38:=CalF.mk Try.call38
@[reducible,instance] def iCalF42:=CalF.mk Try.call42
@[reducible,instance] def iCalF43:=CalF.mk Try.call43
@[reducible,instance] def iCalF44:=CalF.mk Try.call44
@[reducible,instance] def iCalF45:=CalF.mk Try.call45
@[reducible,instance] def iCalF46:=CalF.mk Try.call46
@[reducible,instance] def iCalF51:=CalF.mk Try.call51
end Go.Sky

