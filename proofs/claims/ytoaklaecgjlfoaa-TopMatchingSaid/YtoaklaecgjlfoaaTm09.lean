/- Rules, arithmetic and contracts: part 10. No conditions but those that each theorem names. -/
import Derived.Test.YtoaklaecgjlfoaaTm08
set_option linter.all false
namespace Go.Sky
variable{p y z:List Int}{a ov:Int}{i:Nat}
theorem Zge(a:Int):∀(c:List Int) (i:Nat),cf (c.map λx=>a*x) i=a*cf c i
 | [],i=>by rw [gF,show cf [] i=0 from rfl,cJ]
 | x::c,0=>rfl
 | x::c,i+1=>Zge a c i
def cmpP(c:List Int)(a b d:Int):List Int:=Ya (Zip (tzl c) a b d) (d^(6-c.length))
def pad3(b:List (SL×List Int)):List (SL×List Int):=b ++ List.replicate (3-b.length) ((none,0,0),[])
def dblL:List Int->List Int
 | []=>[]
 | a::p=>a::0::dblL p
theorem Zfc(f:Nat->Int)(x:Rat):∀n,Za (mk n f) x=Zea (λj=>(f j:Rat)*x^j) n
 | 0=>rfl
 | n+1=>by rw [Zmc,Zcr,Zfc f x n,Yh,Hj]
def NN(p:List Int):Prop:=∀i,0<=cf p i
theorem NN.smul{c:Int}(b:0<=c)(h:NN p):NN (p.map λa=>c*a):=λi=>by rw [Zge];exact cI b (h i)
theorem NN.add{q:List Int}(b:NN p)(c:NN q):NN (Xp p q):=λi=>by rw [Qj];exact Int.add_nonneg (b i) (c i)
theorem NN.lmul{q:List Int}(b:NN q):∀{p:List Int},NN p->NN (lmul p q)
 | [],_=>λi=>by show 0<=cf [] i;rw [show cf [] i=0 from rfl];exact cL _
 | c::p,h=>NN.add (NN.smul (h 0) b) λi=>by
  match i with
  | 0=>exact cL _
  | i+1=>exact NN.lmul b (p:=p) (λj=>h (j+1)) i
def lpw(l:List Int):Nat->List Int
 | 0=>[1]
 | k+1=>lmul l (lpw l k)
theorem NN.lpw{l:List Int}(h:NN l):∀k,NN (lpw l k)
 | 0=>λi=>by
  show 0<=cf [1] i
  match i with
  | 0=>exact Int.one_nonneg
  | i+1=>exact cL _
 | k+1=>NN.lmul (NN.lpw h k) h
theorem NN.two{b:Int}(c:0<=a)(d:0<=b):NN [a,b]:=λi=>by
 match i with
 | 0=>exact c
 | 1=>exact d
 | i+2=>exact cL _
def sQ(f:Nat->Int)(W:Nat->List Int):Nat->List Int
 | 0=>[]
 | k+1=>Xp (sQ f W k) ((W k).map λa=>f k*a)
theorem Zkl(d:Int)(n:Nat):((d^n:Int):Rat)=(d:Rat)^n:=by
 induction n with
 | zero=>rw [eD,lA];rfl
 | succ n b=>rw [gG,lB,<-b];push_cast;rfl
def Wij(a e d:Int)(n i:Nat):List Int:=lmul (lpw [a,e] i) (lpw [d-a,d-e] (n-i))
abbrev Zjm (o:Nat) (m:Int) (g:Zk):List Int:=formP o m g.1.2.2 (g.1.2.1-g.1.1) g.2.1.2 g.2.2.1.2 g.2.2.2.2
def Zjb(o:Nat)(ps:List Zk)(m:Int):Bool:=ps.all λg=>!Zg2 (Zjm o m g)
def Zli(p:Nat->Bool):Nat->Nat->Nat->Nat
 | 0,i,_=>i
 | f+1,i,j=>if i<j then(if p ((i+j)/2)then Zli p f i ((i+j)/2)else Zli p f ((i+j)/2+1) j)else i
def Zlf(o:Nat)(ps:List Zk):Nat:=Zli (λn=>Zjb o ps (n:Int)) 14 0 10001
def joG(g h:Zk):Bool:=joinB g.1.1 g.1.2.1 g.1.2.2 g.2.1.2 g.2.2.1.2 g.2.2.2.2 h.1.1 h.1.2.1 h.1.2.2 h.2.1.2 h.2.2.1.2 h.2.2.2.2
def joAll(ps:List Zk):Bool:=(List.range ps.length).all λi=>decide (i=0) || joG (ps.getD (i-1) G0) (ps.getD i G0)
def topV(ps:List Zk):Int×Int×Int:=
 if 10000<Zlf 1 ps\/10000<Zlf 2 ps then(0,0,3)else if joAll ps then((Zlf 1 ps:Int),(Zlf 2 ps:Int),0)else(0,0,10)
def g8(g:Zk):Bool:=decide (g.2.1.2.length<=8) && decide (g.2.2.1.2.length<=8) && decide (g.2.2.2.2.length<=8)
def fewB(ps:List Zk)(m:Nat):Bool:=(List.range ps.length).all (λi=>decide (m<i) || g8 (ps.getD i G0)) && decide (ps.length<=m)
def axc(c:List Int):Bool:=!(decide (1<=c.length) && decide (c.length<=6) && !(decide (1<c.length) && decide (c.getD (c.length-1) 0=0)))
variable {P:Program} {N:Nat} {sc:Nat->Prop} {env env':Yd} {H H':Hp}
def dvL(c:List Int)(g:Int):List Int:=if c.length=0 then [0]else c.map (· / g)
def mdO(ov g:Int):Int:=if ov/g<=4294967296 then ov/g else 0
def mdL(ov g:Int)(c:List Int):List Int:=if ov/g<=4294967296 then dvL c g else []
def gcA(ov:Int)(x y z:List Int):Int:=Zbu ov (Gp 3 x y z)
structure Mdh (ov:Int) (x y z:List Int):Prop where
 o:0<ov
 b:bl ov.natAbs<=1000
 s:∀i,Sz 1000 (Xh i x y z)
 l:∀i,(Xh i x y z).length<=6
 c:∀i k,(cf (Xh i x y z) k).natAbs<=ov.natAbs*2146435072
def Zfv:∀(l:List Int) (g:Int),0<=g->0<=Zbu g l
 | [],_,h=>h
 | x::l,g,h=>Zfv l _ (iF _)
theorem Zfw:∀(l:List Int) (g:Int),Zbu g l∣g/\∀x∈l,Zbu g l∣x
 | [],g=>⟨Int.dvd_refl _,λx h=>nomatch h⟩
 | x::l,g=>by
  obtain⟨c,d⟩:=Zfw l ((Int.gcd g x:Nat):Int);exact⟨eV c (gP ..),λy b=>by
   rcases dA.1 b with rfl|b
   .exact eV c (fJ ..)
   .exact d y b⟩
theorem Zeg{x:List Int}(hi:i<3)(h:a∈Xh i x y z):a∈Gp 3 x y z:=by
 match i,hi with
 | 0,_=>exact bG.2 (.inl (bG.2 (.inl h)))
 | 1,_=>exact bG.2 (.inl (bG.2 (.inr h)))
 | 2,_=>exact bG.2 (.inr h)
theorem Mdh.g{x:List Int}(h:Mdh ov x y z):0<gcA ov x y z/\gcA ov x y z∣ov/\∀i,i<3->∀a∈Xh i x y z,gcA ov x y z∣a:=by
 obtain⟨b,c⟩:=Zfw (Gp 3 x y z) ov;have d:=Zfv (Gp 3 x y z) ov (jC h.o);have f:=h.o;refine⟨?_,b,λi hi a e=>c a (Zeg hi e)⟩;rcases Int.lt_or_eq_of_le d with q|q
 .exact q
 .exact absurd (Int.zero_dvd.1 (q▸b)) O
theorem Mdh.fc{x:List Int}(h:Mdh ov x y z)(i k:Nat):bl (Zbu (Zbu ov (Gp i x y z)) ((Xh i x y z).take k)).natAbs<=1000:=by
 have d:∀i,∀a∈Xh i x y z,bl a.natAbs<=1000:=λi a b=>by obtain⟨j,l⟩:=List.mem_iff_getElem?.1 b;have:=h.s i j;unfold cf at this;rw [aA,l]at this;exact this
 have g:∀a∈Gp i x y z,bl a.natAbs<=1000:=λa b=>by
  unfold Gp at b;have c:=d 0;have e:=d 1;have f:=d 2;simp only [Xh]at c e f;split at b
  .cases b
  .exact c a b
  .rcases bG.1 b with q|q
   .exact c a q
   .exact e a q
  .rcases bG.1 b with q|q
   .rcases bG.1 q with q|q
    .exact c a q
    .exact e a q
   .exact f a q
 exact Zb9 (λa b=>d i a (eR b)) (Zb9 g h.b)
theorem Mdh.fit{x:List Int}(h:Mdh ov x y z)(hs:ov/gcA ov x y z<=4294967296)(hi:i<3)(k:Nat):((Xh i x y z).getD k 0/gcA ov x y z).natAbs<=9223372036854775807:=by
 obtain⟨f,⟨s,b⟩,j⟩:=h.g;have n:gcA ov x y z∣(Xh i x y z).getD k 0:=by
  rcases bD k (Xh i x y z).length with q|q
  .exact j i hi _ (Ym _ (d:=0) q)
  .rw [aA,bL q];exact fQ _
 obtain⟨t,e⟩:=n;have c:((Xh i x y z).getD k 0).natAbs<=ov.natAbs*2146435072:=h.c i k;generalize gcA ov x y z=g at *;rw [e,iV _ O];rw [b,iV _ O]at hs;rw [e,b,cN,cN,kI]at c;have m:=Nat.le_of_mul_le_mul_left c O;have o:=h.o;have r:0<s:=by
  rw [b]at o;by_cases q:0<s
  .exact q
  .have:=Int.mul_nonpos_of_nonneg_of_nonpos (jC f) (show s<=0 by omega);omega
 have l:s.natAbs*2146435072<=4294967296*2146435072:=bI _ O;exact aM m (aM l O3)
abbrev C6 (a b c:Value) (f:Nat->Value):Array Value:=#[a,b,c,f 0,f 1,f 2]
def upd(f:Nat->Value)(i:Nat)(v:Value)(j:Nat):Value:=if j=i then v else f j
def fz(b:List (SL×List Int))(j:Nat):Value:=Qu (b.getD j ((none,0,0),[])).1
end Go.Sky
namespace Go.Sky
variable{c:List Int}{ov x0 x1 x2 x3:Int}
abbrev Zcd:=(Int×Int×Int)×List Int×List Int×List Int
def unS(g:Zk):Zcd:=(g.1,g.2.1.2,g.2.2.1.2,g.2.2.2.2)
abbrev cA (fr:Int) (g:Zk):Int:=max fr g.1.1
abbrev cB (a:Int) (g:Zk):Int:=min a g.1.2.1
abbrev cX (fr a:Int) (g:Zk) (c:List Int):List Int:=cmpP c (cA fr g-g.1.1) (cB a g-cA fr g) (g.1.2.1-g.1.1)
abbrev cO (g:Zk):Int:=g.1.2.2*(g.1.2.1-g.1.1)^5
def cG(fr a:Int)(g:Zk):Int:=gcA (cO g) (cX fr a g g.2.1.2) (cX fr a g g.2.2.1.2) (cX fr a g g.2.2.2.2)
def Zew(fr a:Int)(g:Zk):Bool:=decide (cA fr g<cB a g)
def Zm9(fr a:Int)(g:Zk):Bool:=decide (cO g/cG fr a g<=4294967296)
def cutU(fr a:Int)(g:Zk):Zcd:=((cA fr g,cB a g,mdO (cO g) (cG fr a g)),mdL (cO g) (cG fr a g) (cX fr a g g.2.1.2),mdL (cO g) (cG fr a g) (cX fr a g g.2.2.1.2),mdL (cO g) (cG fr a g) (cX fr a g g.2.2.2.2))
def MdG(fr a:Int)(g:Zk):Prop:=Mdh (cO g) (cX fr a g g.2.1.2) (cX fr a g g.2.2.1.2) (cX fr a g g.2.2.2.2)
def Zk5:∀n,n<6->∀j,j<n+1->∀k,k<j+1->(Pp n j:Int)*w60 n j k=60*(Pp (n-k) (j-k):Int):=O5
theorem Gh(f:Nat->Int)(a:Int):∀m,Zc (λk=>a*f k) m=a*Zc f m
 | 0=>by show(0:Int)=a*0;omega
 | m+1=>by rw [Zf,Zf,Gh f a m,iN]
theorem Zna(d:1<=c.length/\c.length<=6){j:Nat}(a:j<c.length):(Pp (c.length-1) j:Int)*ctl c j (j+1)=60*Mo (c.length-1) c j:=by unfold ctl Mo;rw [<-Gh,<-Gh];refine Zj λk b=>?_;have:=Zk5 (c.length-1) O j O k O;show(Pp (c.length-1) j:Int)*(cf c k*w60 (c.length-1) j k)=60*(cf c k*_);rw [iO,this,iO]
theorem Zkd{n j:Nat}(h:j<n+1):(0:Int)<(Pp n j:Int):=by have:=Zgd (n:=n) (k:=j) O;omega
theorem Zgk(l:1<=c.length/\c.length<=6) : Zhk c ov=true↔∀j,j<c.length->((Mo (c.length-1) c j).natAbs:Int)<=1048576*ov*(Pp (c.length-1) j:Int):=by
 have b:∀j,j<c.length->((((ctl c j (j+1)).natAbs:Int)<=62914560*ov)↔((Mo (c.length-1) c j).natAbs:Int)<=1048576*ov*(Pp (c.length-1) j:Int)):=λj a=>by
  have i:=Zna l a;have e:=Zkd (n:=c.length-1) (j:=j) O;have f:=aU Int.natAbs i;rw [cN,cN,dD]at f;generalize (ctl c j (j+1)).natAbs=x at *;generalize (Mo (c.length-1) c j).natAbs=y at *;generalize Pp (c.length-1) j=q at *;have g:(q:Int)*(x:Int)=60*(y:Int):=by exact_mod_cast f
  constructor
  .intro h;have d:=gV h (jC e);rw [g]at d;have k:(q:Int)*(62914560*ov)=60*(1048576*ov*q):=O2;omega
  .intro h;have d:60*(y:Int)<=(q:Int)*(62914560*ov):=by have k:(q:Int)*(62914560*ov)=60*(1048576*ov*q):=O2;omega
   rw [<-g]at d;exact Int.le_of_mul_le_mul_left d e
 constructor
 .intro h j a;unfold Zhk at h;rw [dG]at h;exact(b j a).1 (bB (h j (bR.2 a)))
 .intro h;exact bndB_t λj a=>(b j a).2 (h j a)
def Xb{x b:Int} : ((x.natAbs:Int)<=b)↔(-b<=x/\x<=b):=O
def bre00(c:List Int):Mo 0 c 0=cf c 0*1:=O7
def bre10(c:List Int):Mo 1 c 0=cf c 0*1:=O7
def bre11(c:List Int):Mo 1 c 1=cf c 0*1+cf c 1*1:=O7
def bre20(c:List Int):Mo 2 c 0=cf c 0*1:=O7
def bre21(c:List Int):Mo 2 c 1=cf c 0*2+cf c 1*1:=O7
def bre22(c:List Int):Mo 2 c 2=cf c 0*1+cf c 1*1+cf c 2*1:=O7
def bre30(c:List Int):Mo 3 c 0=cf c 0*1:=O7
def bre31(c:List Int):Mo 3 c 1=cf c 0*3+cf c 1*1:=O7
def bre32(c:List Int):Mo 3 c 2=cf c 0*3+cf c 1*2+cf c 2*1:=O7
def bre33(c:List Int):Mo 3 c 3=cf c 0*1+cf c 1*1+cf c 2*1+cf c 3*1:=O7
def bre40(c:List Int):Mo 4 c 0=cf c 0*1:=O7
def bre41(c:List Int):Mo 4 c 1=cf c 0*4+cf c 1*1:=O7
def bre42(c:List Int):Mo 4 c 2=cf c 0*6+cf c 1*3+cf c 2*1:=O7
def bre43(c:List Int):Mo 4 c 3=cf c 0*4+cf c 1*3+cf c 2*2+cf c 3*1:=O7
def bre44(c:List Int):Mo 4 c 4=cf c 0*1+cf c 1*1+cf c 2*1+cf c 3*1+cf c 4*1:=O7
def bre50(c:List Int):Mo 5 c 0=cf c 0*1:=O7
def bre51(c:List Int):Mo 5 c 1=cf c 0*5+cf c 1*1:=O7
def bre52(c:List Int):Mo 5 c 2=cf c 0*10+cf c 1*4+cf c 2*1:=O7
def bre53(c:List Int):Mo 5 c 3=cf c 0*10+cf c 1*6+cf c 2*3+cf c 3*1:=O7
def bre54(c:List Int):Mo 5 c 4=cf c 0*5+cf c 1*4+cf c 2*3+cf c 3*2+cf c 4*1:=O7
def bre55(c:List Int):Mo 5 c 5=cf c 0*1+cf c 1*1+cf c 2*1+cf c 3*1+cf c 4*1+cf c 5*1:=O7
structure AxC (c:List Int) (ov:Int):Prop where
 l:1<=c.length/\c.length<=6
 t:¬(1<c.length/\c.getD (c.length-1) 0=0)
 b:∀j,j<c.length->((Mo (c.length-1) c j).natAbs:Int)<=1048576*ov*(Pp (c.length-1) j:Int)
theorem AxC.of(h:axB c ov=true):AxC c ov:=by unfold axB at h;simp only [bH,gD,jL,cD,jB]at h;have d:1<=c.length/\c.length<=6:=⟨h.1.1.1,h.1.1.2⟩;exact⟨d,λb=>by rcases h.1.2 with a|a;exact a b.1;exact a b.2,(Zgk d).1 h.2⟩
def AxC.to(h:AxC c ov):axB c ov=true:=axB_t h.l.1 h.l.2 h.t ((Zgk h.l).2 h.b)
def Zb2(fr a:Int)(ps:List Zk):Bool:=(ps.filter (Zew fr a)).all (Zm9 fr a)
def cutR(fr a:Int)(ps:List Zk):List Zcd:=if Zb2 fr a ps=true then(ps.filter (Zew fr a)).map (cutU fr a)else []
def cutE(fr a:Int)(ps:List Zk):Int:=if Zb2 fr a ps=true then 0 else 7
def segX(fr a:Int)(x:Zk)(g:SL×SL×SL):Zk:=((cA fr x,cB a x,mdO (cO x) (cG fr a x)),(g.1,mdL (cO x) (cG fr a x) (cX fr a x x.2.1.2)),(g.2.1,mdL (cO x) (cG fr a x) (cX fr a x x.2.2.1.2)),(g.2.2,mdL (cO x) (cG fr a x) (cX fr a x x.2.2.2.2)))
def cutI(fr a:Int)(ps:List Zk)(k:Nat)(b:List Zk):Prop:=b.map unS=((ps.filter (Zew fr a)).take k).map (cutU fr a)/\((ps.filter (Zew fr a)).take k).all (Zm9 fr a)=true
def spF(ps:List Zk):Int:=(ps.getD 0 G0).1.1
def spL(ps:List Zk):Int:=(ps.getD (ps.length-1) G0).1.2.1
structure Prt (q g:Zk) (G:Int):Prop where
 g0:0<G
 a0:0<=q.1.1-g.1.1
 b0:0<q.1.2.1-q.1.1
 ab:(q.1.1-g.1.1)+(q.1.2.1-q.1.1)<=g.1.2.1-g.1.1
 o:q.1.2.2*G=g.1.2.2*(g.1.2.1-g.1.1)^5
 x:∀i (t u:Rat),t*((g.1.2.1-g.1.1:Int):Rat)=((q.1.1-g.1.1:Int):Rat)+((q.1.2.1-q.1.1:Int):Rat)*u->Za (Xh i q.2.1.2 q.2.2.1.2 q.2.2.2.2) u*(G:Rat)=((g.1.2.1-g.1.1:Int):Rat)^5*Za (Xh i g.2.1.2 g.2.2.1.2 g.2.2.2.2) t
def cgb0{M:Int}(b:0<=M)(a:-(M*1)<=(x0*1)/\(x0*1)<=M*1):(-(80*M)<=x0/\x0<=80*M):=O
theorem cgb1{M:Int}(d:0<=M)(a:-(M*1)<=(x0*1)/\(x0*1)<=M*1)(b:-(M*1)<=(x0*1+x1*1)/\(x0*1+x1*1)<=M*1):(-(80*M)<=x0/\x0<=80*M)/\(-(80*M)<=x1/\x1<=80*M):=by refine⟨⟨?_,?_⟩,⟨?_,?_⟩⟩<;>omega
theorem cgb2{M:Int}(e:0<=M)(a:-(M*1)<=(x0*1)/\(x0*1)<=M*1)(b:-(M*2)<=(x0*2+x1*1)/\(x0*2+x1*1)<=M*2)(d:-(M*1)<=(x0*1+x1*1+x2*1)/\(x0*1+x1*1+x2*1)<=M*1):(-(80*M)<=x0/\x0<=80*M)/\(-(80*M)<=x1/\x1<=80*M)/\(-(80*M)<=x2/\x2<=80*M):=by refine⟨⟨?_,?_⟩,⟨?_,?_⟩,⟨?_,?_⟩⟩<;>omega
theorem cgb3{M:Int}(f:0<=M)(a:-(M*1)<=(x0*1)/\(x0*1)<=M*1)(b:-(M*3)<=(x0*3+x1*1)/\(x0*3+x1*1)<=M*3)(d:-(M*3)<=(x0*3+x1*2+x2*1)/\(x0*3+x1*2+x2*1)<=M*3)(e:-(M*1)<=(x0*1+x1*1+x2*1+x3*1)/\(x0*1+x1*1+x2*1+x3*1)<=M*1):(-(80*M)<=x0/\x0<=80*M)/\(-(80*M)<=x1/\x1<=80*M)/\(-(80*M)<=x2/\x2<=80*M)/\(-(80*M)<=x3/\x3<=80*M):=by refine⟨⟨?_,?_⟩,⟨?_,?_⟩,⟨?_,?_⟩,⟨?_,?_⟩⟩<;>omega
theorem cgb4{M a:Int}(h:0<=M)(b:-(M*1)<=(x0*1)/\(x0*1)<=M*1)(d:-(M*4)<=(x0*4+x1*1)/\(x0*4+x1*1)<=M*4)(e:-(M*6)<=(x0*6+x1*3+x2*1)/\(x0*6+x1*3+x2*1)<=M*6)(f:-(M*4)<=(x0*4+x1*3+x2*2+x3*1)/\(x0*4+x1*3+x2*2+x3*1)<=M*4)(g:-(M*1)<=(x0*1+x1*1+x2*1+x3*1+a*1)/\(x0*1+x1*1+x2*1+x3*1+a*1)<=M*1):(-(80*M)<=x0/\x0<=80*M)/\(-(80*M)<=x1/\x1<=80*M)/\(-(80*M)<=x2/\x2<=80*M)/\(-(80*M)<=x3/\x3<=80*M)/\(-(80*M)<=a/\a<=80*M):=by refine⟨⟨?_,?_⟩,⟨?_,?_⟩,⟨?_,?_⟩,⟨?_,?_⟩,⟨?_,?_⟩⟩<;>omega
theorem cgb5{M a b:Int}(j:0<=M)(d:-(M*1)<=(x0*1)/\(x0*1)<=M*1)(e:-(M*5)<=(x0*5+x1*1)/\(x0*5+x1*1)<=M*5)(f:-(M*10)<=(x0*10+x1*4+x2*1)/\(x0*10+x1*4+x2*1)<=M*10)(g:-(M*10)<=(x0*10+x1*6+x2*3+x3*1)/\(x0*10+x1*6+x2*3+x3*1)<=M*10)(h:-(M*5)<=(x0*5+x1*4+x2*3+x3*2+a*1)/\(x0*5+x1*4+x2*3+x3*2+a*1)<=M*5)(i:-(M*1)<=(x0*1+x1*1+x2*1+x3*1+a*1+b*1)/\(x0*1+x1*1+x2*1+x3*1+a*1+b*1)<=M*1):(-(80*M)<=x0/\x0<=80*M)/\(-(80*M)<=x1/\x1<=80*M)/\(-(80*M)<=x2/\x2<=80*M)/\(-(80*M)<=x3/\x3<=80*M)/\(-(80*M)<=a/\a<=80*M)/\(-(80*M)<=b/\b<=80*M):=by refine⟨⟨?_,?_⟩,⟨?_,?_⟩,⟨?_,?_⟩,⟨?_,?_⟩,⟨?_,?_⟩,⟨?_,?_⟩⟩<;>omega
theorem cg_brS{n:Nat}(m:n<6)(p:c.length<=n+1){M:Int}(h:∀j,j<n+1->((Mo n c j).natAbs:Int)<=M*(Pp n j:Int))(k:Nat):((cf c k).natAbs:Int)<=80*M:=by
 have g:0<=M:=by have b:=h 0 O;rw [chz_0]at b;omega
 by_cases o:k<n+1
 .rw [Xb]
  match n,m with
  | 0,_=>
   have b:=Xb.1 (h 0 O3);rw [bre00,show(Pp 0 0:Int)=1 from rfl]at b;have a:=cgb0 g b;obtain rfl:k=0:=O;exact a
  | 1,_=>
   have b:=Xb.1 (h 0 O3);rw [bre10,show(Pp 1 0:Int)=1 from rfl]at b;have d:=Xb.1 (h 1 O3);rw [bre11,show(Pp 1 1:Int)=1 from rfl]at d;have a:=cgb1 g b d;rcases(show k=0\/k=1 by omega)with rfl|rfl
   .exact a.1
   .exact a.2
  | 2,_=>
   have b:=Xb.1 (h 0 O3);rw [bre20,show(Pp 2 0:Int)=1 from rfl]at b;have d:=Xb.1 (h 1 O3);rw [bre21,show(Pp 2 1:Int)=2 from rfl]at d;have e:=Xb.1 (h 2 O3);rw [bre22,show(Pp 2 2:Int)=1 from rfl]at e;have a:=cgb2 g b d e;rcases(show k=0\/k=1\/k=2 by omega)with rfl|rfl|rfl
   .exact a.1
   .exact a.2.1
   .exact a.2.2
  | 3,_=>
   have b:=Xb.1 (h 0 O3);rw [bre30,show(Pp 3 0:Int)=1 from rfl]at b;have d:=Xb.1 (h 1 O3);rw [bre31,show(Pp 3 1:Int)=3 from rfl]at d;have e:=Xb.1 (h 2 O3);rw [bre32,show(Pp 3 2:Int)=3 from rfl]at e;have f:=Xb.1 (h 3 O3);rw [bre33,show(Pp 3 3:Int)=1 from rfl]at f;have a:=cgb3 g b d e f;rcases(show k=0\/k=1\/k=2\/k=3 by omega)with rfl|rfl|rfl|rfl
   .exact a.1
   .exact a.2.1
   .exact a.2.2.1
   .exact a.2.2.2
  | 4,_=>
   have b:=Xb.1 (h 0 O3);rw [bre40,show(Pp 4 0:Int)=1 from rfl]at b;have d:=Xb.1 (h 1 O3);rw [bre41,show(Pp 4 1:Int)=4 from rfl]at d;have e:=Xb.1 (h 2 O3);rw [bre42,show(Pp 4 2:Int)=6 from rfl]at e;have f:=Xb.1 (h 3 O3);rw [bre43,show(Pp 4 3:Int)=4 from rfl]at f;have i:=Xb.1 (h 4 O3);rw [bre44,show(Pp 4 4:Int)=1 from rfl]at i;have a:=cgb4 g b d e f i;rcases(show k=0\/k=1\/k=2\/k=3\/k=4 by omega)with rfl|rfl|rfl|rfl|rfl
   .exact a.1
   .exact a.2.1
   .exact a.2.2.1
   .exact a.2.2.2.1
   .exact a.2.2.2.2
  | 5,_=>
   have b:=Xb.1 (h 0 O3);rw [bre50,show(Pp 5 0:Int)=1 from rfl]at b;have d:=Xb.1 (h 1 O3);rw [bre51,show(Pp 5 1:Int)=5 from rfl]at d;have e:=Xb.1 (h 2 O3);rw [bre52,show(Pp 5 2:Int)=10 from rfl]at e;have f:=Xb.1 (h 3 O3);rw [bre53,show(Pp 5 3:Int)=10 from rfl]at f;have i:=Xb.1 (h 4 O3);rw [bre54,show(Pp 5 4:Int)=5 from rfl]at i;have l:=Xb.1 (h 5 O3);rw [bre55,show(Pp 5 5:Int)=1 from rfl]at l;have a:=cgb5 g b d e f i l;rcases(show k=0\/k=1\/k=2\/k=3\/k=4\/k=5 by omega)with rfl|rfl|rfl|rfl|rfl|rfl
   .exact a.1
   .exact a.2.1
   .exact a.2.2.1
   .exact a.2.2.2.1
   .exact a.2.2.2.2.1
   .exact a.2.2.2.2.2
 .rw [Zr O];simp;omega
theorem AxC.cg(h:AxC c ov)(k:Nat):((cf c k).natAbs:Int)<=83886080*ov:=by have b:=h.l;have:=cg_brS (n:=c.length-1) O (c:=c) O (M:=1048576*ov) (λj a=>h.b j O) k;omega
open Go.RowKit Below
variable {P:Program} {N:Nat} {sc:Nat->Prop} {env env':Yd} {H H':Hp} {Q Q':Exit->Act->World->Prop} {M:Nat->Prop}
def wcr(l:List Int)(r:List Value):Array Value:=(l.map (Value.int .i64) ++ r).toArray
end Go.Sky
namespace Go.Sky
def Srt(l:List Int)(n:Nat):Prop:=∀p q,p<q->q<n->l.getD p 0<=l.getD q 0
def Sst(l:List Int)(n:Nat):Prop:=∀p q,p<q->q<n->l.getD p 0<l.getD q 0
def SrtX(l:List Int)(i j:Nat):Prop:=∀p q,p<q->q<=i->q≠j->l.getD p 0<=l.getD q 0
def Sam(l m:List Int):Prop:=m.length=l.length/\∀x,x∈m↔x∈l
def swp(l:List Int)(j:Nat):List Int:=(l.set j (l.getD (j-1) 0)).set (j-1) (l.getD j 0)
def Zi2{l:List Int}{x:Int} : x∈l↔∃k,k<l.length/\l.getD k 0=x:=by
 constructor
 .intro h;obtain⟨k,a,e⟩:=dV.1 h;exact⟨k,a,by rw [aA,aF a];exact e⟩
 .rintro⟨k,a,rfl⟩;exact Ym _ a
def Sam.trans{l m n:List Int}(h:Sam l m)(a:Sam m n):Sam l n:=⟨a.1.trans h.1,λx=>(a.2 x).trans (h.2 x)⟩
structure Cmp (xs zs:List Int):Prop where
 s:Sst zs zs.length
 m:∀x,x∈zs↔x∈xs
structure Cml (xs l:List Int) (m k:Nat):Prop where
 k1:1<=k
 km:k<m
 ml:m<=xs.length
 ll:l.length=xs.length
 r:∀q,m<=q+1->l.getD q 0=xs.getD q 0
 s:Sst l k
 e:∀x,(∃p,p<k/\l.getD p 0=x)↔∃p,p<m/\xs.getD p 0=x
 z:l.getD (k-1) 0=xs.getD (m-1) 0
def insU(x:Int):List Int->List Int
 | []=>[x]
 | y::l=>if x<y then x::y::l else if x=y then y::l else y::insU x l
def Inc:List Int->Prop
 | []=>True
 | x::l=>(∀y∈l,x<y)/\Inc l
def srtU(l:List Int):List Int:=l.foldr insU []
def Zfl(c:List Int)(a:Int):∀k,plS c a 1 k=Zc (λk=>cf c k*a^k) k
 | 0=>rfl
 | k+1=>by show plS c a 1 k+plT c a 1 k=_;rw [Zf,Zfl c a k];congr 1;show c.getD k 0*(a^k*1^_)=cf c k*a^k;rw [Int.one_pow,lH];rfl
def Zal(f:Nat->Int):∀n,((Zc f n:Int):Rat)=Zea (λi=>(f i:Rat)) n
 | 0=>rfl
 | n+1=>by rw [Zf,Hj,<-Zal f n];push_cast;rfl
def Zil(c:List Int)(a:Int):((pl c a 1:Int):Rat)=Za c (a:Rat):=by
 unfold pl;rw [Zfl,Zal]
 conv=>rhs;rw [<-Zfq c]
 rw [Zfc];exact Ba _ λi hi=>by rw [<-Zkl];push_cast;rfl
def Prt.pl{q g:Zk}{G:Int}(h:Prt q g G){a b:Int}(e:a*(g.1.2.1-g.1.1)=(q.1.1-g.1.1)+(q.1.2.1-q.1.1)*b)(i:Nat) :
  Sky.pl (Xh i q.2.1.2 q.2.2.1.2 q.2.2.2.2) b 1*G=Sky.pl (Xh i g.2.1.2 g.2.2.1.2 g.2.2.2.2) a 1*(g.1.2.1-g.1.1)^5:=by
 have c:=h.x i (a:Rat) (b:Rat) (by exact_mod_cast e);rw [<-Zil,<-Zil,<-Zkl]at c;have d:((Sky.pl (Xh i q.2.1.2 q.2.2.1.2 q.2.2.2.2) b 1*G:Int):Rat)=((Sky.pl (Xh i g.2.1.2 g.2.2.1.2 g.2.2.2.2) a 1*(g.1.2.1-g.1.1)^5:Int):Rat):=by rw [Rat.intCast_mul,Rat.intCast_mul,c,jF]
 exact_mod_cast d
structure Chn (ps:List Zk):Prop where
 lt:∀g∈ps,g.1.1<g.1.2.1
 eq:∀(i:Nat) (g h:Zk),ps[i]? = some g->ps[i+1]? = some h->g.1.2.1=h.1.1
def Chn.tail{g:Zk}{r:List Zk}(h:Chn (g::r)):Chn r:=⟨λx a=>h.lt x (bC _ a),λi x y a b=>h.eq (i+1) x y a b⟩
def getD_some{α:Type}{l:List α}{i:Nat}{x d:α}(h:l[i]? = some x):l.getD i d=x:=by rw [aA,h];rfl
structure Pat (fr to:Int) (ps qs:List Zk):Prop where
 gin:∀q∈qs,Gin q
 pb:Nt qs=true
 len:qs.length=(ps.filter (Zew fr to)).length
 prt:∀(j:Nat) (q:Zk),qs[j]? = some q->∃f:Zk,(ps.filter (Zew fr to))[j]? = some f/\f∈ps/\Prt q f (cG fr to f)
 nxt:∀(j:Nat) (q r:Zk),qs[j]? = some q->qs[j+1]? = some r->∃(i:Nat) (f h:Zk),ps[i]? = some f/\ps[i+1]? = some h/\Prt q f (cG fr to f)/\Prt r h (cG fr to h)/\q.1.2.1=f.1.2.1/\r.1.1=h.1.1
def jqP(fr e d:Int)(x y z:List Int)(a c b:Int)(f g h:List Int)(i:Nat):Prop:=qr (bgS (Xh i f g h)) (Lo [b,c-a])=qr (enS (Xh i x y z)) (Lo [d,e-fr])
def refS(o:Nat)(x y z:List Int):Nat->List Int
 | 0=>[]
 | i+1=>Dw (refS o x y z i) (Yj (dN o (tzl (Xh i x y z))) (dN o (tzl (Xh i x y z))))
def refC(o:Nat)(m a T:Int):Int:=m^2*a^2*T^(2*o)
def refF(o:Nat)(m a T:Int)(x y z:List Int):List Int:=Fh (tzl [refC o m a T]) (Ya (refS o x y z 3) (1000^(2*o)))
def frB(ps:List Zk)(b a:Int)(i:Nat):Int:=
 if 0<i/\joG (ps.getD (i-1) G0) (ps.getD i G0)=false then 1 else if Zg2 (Zjm 1 b (ps.getD i G0))=true then 2 else if Zg2 (Zjm 2 a (ps.getD i G0))=true then 3 else 0
def fiB(ps:List Zk)(b a:Int):Option (Nat×Int):=((List.range ps.length).find? λi=>decide (frB ps b a i≠0)).map λi=>(i,frB ps b a i)
def fiI(o:Option (Nat×Int)):Int:=match o with
 | none=>0
 | some g=>g.1
def fiC(o:Option (Nat×Int)):Int:=match o with
 | none=>0
 | some g=>g.2
abbrev firV (o:Option (Nat×Int)):Value:= .tuple #[.agg #[.int .i64 (fiI o),.int .i64 (fiC o)],.bool o.isSome,.int .i64 0]
end Go.Sky

