/- Rules, arithmetic and contracts: part 15. No conditions but those that each theorem names. -/
import Derived.Test.YtpmihempjefadaaGreatGa13
set_option linter.all false
set_option maxHeartbeats 4000000
namespace Go.Sky
open Go.Proofs.Tryz
open Go.Proofs
set_option synthInstance.maxHeartbeats 0
set_option synthInstance.maxSize 100000
set_option maxRecDepth 20000
set_option linter.unusedSimpArgs false
abbrev Zl9:=(Int×Int×Int)×List Int×List Int×List Int
def unS(g:Zl):Zl9:=(g.1,g.2.1.2,g.2.2.1.2,g.2.2.2.2)
abbrev cA (fr:Int) (g:Zl):Int:=max fr g.1.1
abbrev cB (a:Int) (g:Zl):Int:=min a g.1.2.1
abbrev cX (fr a:Int) (g:Zl) (c:List Int):List Int:=cmpP c (cA fr g-g.1.1) (cB a g-cA fr g) (g.1.2.1-g.1.1)
abbrev cO (g:Zl):Int:=g.1.2.2*(g.1.2.1-g.1.1)^5
def cG(fr a:Int)(g:Zl):Int:=gcA (cO g) (cX fr a g g.2.1.2) (cX fr a g g.2.2.1.2) (cX fr a g g.2.2.2.2)
def Zq0(fr a:Int)(g:Zl):Bool:=decide (cA fr g<cB a g)
def Yez(fr a:Int)(g:Zl):Bool:=decide (cO g/cG fr a g<=4294967296)
def cutU(fr a:Int)(g:Zl):Zl9:=((cA fr g,cB a g,mdO (cO g) (cG fr a g)),mdL (cO g) (cG fr a g) (cX fr a g g.2.1.2),mdL (cO g) (cG fr a g) (cX fr a g g.2.2.1.2),mdL (cO g) (cG fr a g) (cX fr a g g.2.2.2.2))
def MdG(fr a:Int)(g:Zl):Prop:=Mdh (cO g) (cX fr a g g.2.1.2) (cX fr a g g.2.2.1.2) (cX fr a g g.2.2.2.2)
open Go.RowKit Below
variable {P:Program} {N:Nat} {sc:Nat->Prop} {env env':Xu} {H H':Hp} {Q Q':Exit->Act->World->Prop} {l:Nat}
def ER(P:Program)(N:Nat)(sc:Nat->Prop)(l:Nat)(c:Code)(Q:Exit->Act->World->Prop)(env:Xu)(H:Hp):Prop:=
 ∀a w,Sat N sc env H a w->c.wpIn (Fence.wide.inRound l) 0 P Q a w
def ndB(o:Oper):Bool:=match o.op with
 | .defer _=>false
 | _=>true
end Go.Sky
namespace Go.Sky
def Yaq{g h j k l m a b c d e f:Value}:Instr.fill (λi=>some (i*6,6)) ((List.range (1*6)).map ((Value.agg #[g,h,j,k,l,m]).cells[· % (Value.agg #[g,h,j,k,l,m]).cells.size]!)).toArray [(0,.agg #[a,b,c,d,e,f])]=some #[a,b,c,d,e,f]:=by
 simp [Instr.fill,Value.cells,List.range,List.range.loop]
 try rfl
def Zlm(fr a:Int)(ps:List Zl):Bool:=(ps.filter (Zq0 fr a)).all (Yez fr a)
def cutR(fr a:Int)(ps:List Zl):List Zl9:=if Zlm fr a ps=true then(ps.filter (Zq0 fr a)).map (cutU fr a)else []
def cutE(fr a:Int)(ps:List Zl):Int:=if Zlm fr a ps=true then 0 else 7
def segX(fr a:Int)(x:Zl)(g:SL×SL×SL):Zl:=((cA fr x,cB a x,mdO (cO x) (cG fr a x)),(g.1,mdL (cO x) (cG fr a x) (cX fr a x x.2.1.2)),(g.2.1,mdL (cO x) (cG fr a x) (cX fr a x x.2.2.1.2)),(g.2.2,mdL (cO x) (cG fr a x) (cX fr a x x.2.2.2.2)))
def cutI(fr a:Int)(ps:List Zl)(k:Nat)(zs:List Zl):Prop:=zs.map unS=((ps.filter (Zq0 fr a)).take k).map (cutU fr a)/\((ps.filter (Zq0 fr a)).take k).all (Yez fr a)=true
def spF(ps:List Zl):Int:=(ps.getD 0 G0).1.1
def spL(ps:List Zl):Int:=(ps.getD (ps.length-1) G0).1.2.1
open Go.Proofs.Tryz
open Go.Proofs
set_option synthInstance.maxHeartbeats 0
set_option synthInstance.maxSize 100000
set_option maxRecDepth 20000
set_option linter.unusedSimpArgs false
@[reducible,instance] def encGI:EncT prog 137 6 Ee:=⟨pG⟩
open Go.RowKit Below
variable {P:Program} {N:Nat} {sc:Nat->Prop} {env env':Xu} {H H':Hp} {Q Q':Exit->Act->World->Prop} {M:Nat->Prop}
def wcr(l:List Int)(r:List Value):Array Value:=(l.map (Value.int .i64) ++ r).toArray
end Go.Sky
namespace Go.Sky
variable{x ov:Int}{m c p:List Int}
def Srt(l:List Int)(n:Nat):Prop:=∀p q,p<q->q<n->l.getD p 0<=l.getD q 0
def Sst(l:List Int)(n:Nat):Prop:=∀p q,p<q->q<n->l.getD p 0<l.getD q 0
def SrtX(l:List Int)(i j:Nat):Prop:=∀p q,p<q->q<=i->q≠j->l.getD p 0<=l.getD q 0
def Sam(l m:List Int):Prop:=m.length=l.length/\∀x,x∈m↔x∈l
def swp(l:List Int)(j:Nat):List Int:=(l.set j (l.getD (j-1) 0)).set (j-1) (l.getD j 0)
theorem Zzi{l:List Int} : x∈l↔∃k,k<l.length/\l.getD k 0=x:=by
 constructor
 .intro h;obtain⟨k,a,e⟩:=fV.1 h;exact⟨k,a,by rw [aX,bB a];exact e⟩
 .rintro⟨k,a,rfl⟩;exact Zo a
def Sam.trans{l n:List Int}(h:Sam l m)(a:Sam m n):Sam l n:=⟨a.1.trans h.1,λx=>(a.2 x).trans (h.2 x)⟩
structure Cmp (xs zs:List Int):Prop where
 s:Sst zs zs.length
 m:∀x,x∈zs↔x∈xs
structure Cml (xs l:List Int) (m k:Nat):Prop where
 k1:1<=k
 km:k<m
 ml:m<=xs.length
 ll:l.length=xs.length
 r:∀q,m<=q+1->l.getD q 0=xs.getD q 0
 s:Sst l k
 e:∀x,(∃p,p<k/\l.getD p 0=x)↔∃p,p<m/\xs.getD p 0=x
 z:l.getD (k-1) 0=xs.getD (m-1) 0
def insU(x:Int):List Int->List Int
 | []=>[x]
 | y::l=>if x<y then x::y::l else if x=y then y::l else y::insU x l
def Inc:List Int->Prop
 | []=>True
 | x::l=>(∀y∈l,x<y)/\Inc l
def srtU(l:List Int):List Int:=l.foldr insU []
open Go.Proofs.Tryz
open Go.Proofs
set_option synthInstance.maxHeartbeats 0
set_option synthInstance.maxSize 100000
set_option maxRecDepth 20000
set_option linter.unusedSimpArgs false
def Zp3(f:Nat->Rat):Nat->Rat
 | 0=>0
 | n+1=>Zp3 f n+f n
def Zah(f:Nat->Rat)(n:Nat):Zp3 f (n+1)=Zp3 f n+f n:=rfl
theorem Zgk{f g:Nat->Rat} : ∀n,(∀i,i<n->f i=g i)->Zp3 f n=Zp3 g n
 | 0,_=>rfl
 | n+1,h=>by rw [Zah,Zah,Zgk n λi hi=>h i O,h n O]
theorem chz_0(n:Nat):Nm n 0=1:=by cases n<;>rfl
def Fe(d:Nat)(c:List Int)(j:Nat):Int:=Zp (λi=>cf c i*(Nm (d-i) (j-i):Int)) (j+1)
theorem Zud(a:Int):∀(c:List Int) (i:Nat),cf (c.map λx=>a*x) i=a*cf c i
 | [],i=>by rw [iX,show cf [] i=0 from rfl,dK]
 | x::c,0=>rfl
 | x::c,i+1=>Zud a c i
def dblL:List Int->List Int
 | []=>[]
 | a::p=>a::0::dblL p
theorem Zxi(x:Rat):0<=x*x:=by
 rcases(show 0<=x\/x<=0 by grind)with h|h
 .exact aC h h
 .have:=aC (show 0<=-x by grind) (show 0<=-x by grind);grind
theorem Zr6(f:Nat->Int)(x:Rat):∀n,Zb (mk n f) x=Zp3 (λj=>(f j:Rat)*x^j) n
 | 0=>rfl
 | n+1=>by rw [Zsy,Zgh,Zr6 f x n,Ye,Zah]
def NN(p:List Int):Prop:=∀i,0<=cf p i
theorem NN.smul{c:Int}(b:0<=c)(h:NN p):NN (p.map λa=>c*a):=λi=>by rw [Zud];exact cY b (h i)
theorem NN.add{q:List Int}(a:NN p)(b:NN q):NN (Oq p q):=λi=>by rw [Nh];exact Int.add_nonneg (a i) (b i)
theorem NN.lmul{q:List Int}(a:NN q):∀{p:List Int},NN p->NN (lmul p q)
 | [],_=>λi=>by show 0<=cf [] i;rw [show cf [] i=0 from rfl];exact fG _
 | c::p,h=>NN.add (NN.smul (h 0) a) λi=>by
  match i with
  | 0=>exact fG _
  | i+1=>exact NN.lmul a (p:=p) (λj=>h (j+1)) i
def lpw(l:List Int):Nat->List Int
 | 0=>[1]
 | k+1=>lmul l (lpw l k)
theorem NN.lpw{l:List Int}(h:NN l):∀k,NN (lpw l k)
 | 0=>λi=>by
  show 0<=cf [1] i
  match i with
  | 0=>exact Int.one_nonneg
  | i+1=>exact fG _
 | k+1=>NN.lmul (NN.lpw h k) h
theorem NN.two{a b:Int}(d:0<=a)(e:0<=b):NN [a,b]:=λi=>by
 match i with
 | 0=>exact d
 | 1=>exact e
 | i+2=>exact fG _
def sQ(f:Nat->Int)(W:Nat->List Int):Nat->List Int
 | 0=>[]
 | k+1=>Oq (sQ f W k) ((W k).map λa=>f k*a)
theorem Ybo(d:Int)(n:Nat):((d^n:Int):Rat)=(d:Rat)^n:=by
 induction n with
 | zero=>rw [dE,lC];rfl
 | succ n a=>rw [eR,jZ,<-a];push_cast;rfl
def Wij(a e d:Int)(n i:Nat):List Int:=lmul (lpw [a,e] i) (lpw [d-a,d-e] (n-i))
def Yci:∀n,n<6->∀j,j<n+1->∀k,k<j+1->(Nm n j:Int)*w60 n j k=60*(Nm (n-k) (j-k):Int):=O5
theorem Zbd(f:Nat->Int)(a:Int):∀m,Zp (λk=>a*f k) m=a*Zp f m
 | 0=>by show(0:Int)=a*0;omega
 | m+1=>by rw [Ya,Ya,Zbd f a m,kJ]
theorem Ye0(d:1<=c.length/\c.length<=6){j:Nat}(a:j<c.length):(Nm (c.length-1) j:Int)*ctl c j (j+1)=60*Fe (c.length-1) c j:=by unfold ctl Fe;rw [<-Zbd,<-Zbd];refine Yf λk b=>?_;have:=Yci (c.length-1) O j O k O;show(Nm (c.length-1) j:Int)*(cf c k*w60 (c.length-1) j k)=60*(cf c k*_);rw [kO,this,kO]
theorem Ybg{n j:Nat}(h:j<n+1):(0:Int)<(Nm n j:Int):=by have:=Zlq (n:=n) (k:=j) O;omega
theorem Zui(l:1<=c.length/\c.length<=6) : Zeg c ov=true↔∀j,j<c.length->((Fe (c.length-1) c j).natAbs:Int)<=1048576*ov*(Nm (c.length-1) j:Int):=by
 have b:∀j,j<c.length->((((ctl c j (j+1)).natAbs:Int)<=62914560*ov)↔((Fe (c.length-1) c j).natAbs:Int)<=1048576*ov*(Nm (c.length-1) j:Int)):=λj a=>by
  have i:=Ye0 l a;have e:=Ybg (n:=c.length-1) (j:=j) O;have f:=aP Int.natAbs i;rw [cC,cC,cM]at f;generalize (ctl c j (j+1)).natAbs=x at *;generalize (Fe (c.length-1) c j).natAbs=y at *;generalize Nm (c.length-1) j=q at *;have g:(q:Int)*(x:Int)=60*(y:Int):=by exact_mod_cast f
  constructor
  .intro h;have d:=jO h (iV e);rw [g]at d;have k:(q:Int)*(62914560*ov)=60*(1048576*ov*q):=O4;omega
  .intro h;have d:60*(y:Int)<=(q:Int)*(62914560*ov):=by have k:(q:Int)*(62914560*ov)=60*(1048576*ov*q):=O4;omega
   rw [<-g]at d;exact Int.le_of_mul_le_mul_left d e
 constructor
 .intro h j a;unfold Zeg at h;rw [bR]at h;exact(b j a).1 (cZ (h j (eN.2 a)))
 .intro h;exact Zlw λj a=>(b j a).2 (h j a)
def Pp{b:Int} : ((x.natAbs:Int)<=b)↔(-b<=x/\x<=b):=O
def bre00(c:List Int):Fe 0 c 0=cf c 0*1:=O10
def bre10(c:List Int):Fe 1 c 0=cf c 0*1:=O10
def bre11(c:List Int):Fe 1 c 1=cf c 0*1+cf c 1*1:=O10
def bre20(c:List Int):Fe 2 c 0=cf c 0*1:=O10
def bre21(c:List Int):Fe 2 c 1=cf c 0*2+cf c 1*1:=O10
def bre22(c:List Int):Fe 2 c 2=cf c 0*1+cf c 1*1+cf c 2*1:=O10
def bre30(c:List Int):Fe 3 c 0=cf c 0*1:=O10
def bre31(c:List Int):Fe 3 c 1=cf c 0*3+cf c 1*1:=O10
def bre32(c:List Int):Fe 3 c 2=cf c 0*3+cf c 1*2+cf c 2*1:=O10
def bre33(c:List Int):Fe 3 c 3=cf c 0*1+cf c 1*1+cf c 2*1+cf c 3*1:=O10
def bre40(c:List Int):Fe 4 c 0=cf c 0*1:=O10
def bre41(c:List Int):Fe 4 c 1=cf c 0*4+cf c 1*1:=O10
def bre42(c:List Int):Fe 4 c 2=cf c 0*6+cf c 1*3+cf c 2*1:=O10
def bre43(c:List Int):Fe 4 c 3=cf c 0*4+cf c 1*3+cf c 2*2+cf c 3*1:=O10
def bre44(c:List Int):Fe 4 c 4=cf c 0*1+cf c 1*1+cf c 2*1+cf c 3*1+cf c 4*1:=O10
def bre50(c:List Int):Fe 5 c 0=cf c 0*1:=O10
def bre51(c:List Int):Fe 5 c 1=cf c 0*5+cf c 1*1:=O10
def bre52(c:List Int):Fe 5 c 2=cf c 0*10+cf c 1*4+cf c 2*1:=O10
def bre53(c:List Int):Fe 5 c 3=cf c 0*10+cf c 1*6+cf c 2*3+cf c 3*1:=O10
def bre54(c:List Int):Fe 5 c 4=cf c 0*5+cf c 1*4+cf c 2*3+cf c 3*2+cf c 4*1:=O10
def bre55(c:List Int):Fe 5 c 5=cf c 0*1+cf c 1*1+cf c 2*1+cf c 3*1+cf c 4*1+cf c 5*1:=O10
structure AxC (c:List Int) (ov:Int):Prop where
 l:1<=c.length/\c.length<=6
 t:¬(1<c.length/\c.getD (c.length-1) 0=0)
 b:∀j,j<c.length->((Fe (c.length-1) c j).natAbs:Int)<=1048576*ov*(Nm (c.length-1) j:Int)
theorem AxC.of(h:axB c ov=true):AxC c ov:=by unfold axB at h;simp only [aL,eU,jE,dW,fJ]at h;have d:1<=c.length/\c.length<=6:=⟨h.1.1.1,h.1.1.2⟩;exact⟨d,λb=>by rcases h.1.2 with a|a;exact a b.1;exact a b.2,(Zui d).1 h.2⟩
def AxC.to(h:AxC c ov):axB c ov=true:=Ybz h.l.1 h.l.2 h.t ((Zui h.l).2 h.b)
structure Prt (q g:Zl) (G:Int):Prop where
 g0:0<G
 a0:0<=q.1.1-g.1.1
 b0:0<q.1.2.1-q.1.1
 ab:(q.1.1-g.1.1)+(q.1.2.1-q.1.1)<=g.1.2.1-g.1.1
 o:q.1.2.2*G=g.1.2.2*(g.1.2.1-g.1.1)^5
 x:∀i (t u:Rat),t*((g.1.2.1-g.1.1:Int):Rat)=((q.1.1-g.1.1:Int):Rat)+((q.1.2.1-q.1.1:Int):Rat)*u->Zb (Yg i q.2.1.2 q.2.2.1.2 q.2.2.2.2) u*(G:Rat)=((g.1.2.1-g.1.1:Int):Rat)^5*Zb (Yg i g.2.1.2 g.2.2.1.2 g.2.2.2.2) t
end Go.Sky

