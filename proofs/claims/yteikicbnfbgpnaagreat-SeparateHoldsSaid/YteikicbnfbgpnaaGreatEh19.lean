/- Rules, arithmetic and contracts: part 20. No conditions but those that each theorem names. -/
import Derived.Test.YteikicbnfbgpnaaGreatEh18
set_option linter.all false
set_option maxHeartbeats 4000000
namespace Go.Sky
variable{t:Int}{i:Nat}
def Fx(ps:List Zf)(t:Int):Bool:=decide (Ep ps<=t) && decide (t<=Bc ps)
theorem Zeo{ps:List Zf}(h:Fx ps t=true):Ep ps<=t/\t<=Bc ps:=by unfold Fx at h;rw [aO,cK,cK]at h;exact h
def exI(ps:List Zf)(t:Int):Nat:=ps.findIdx λg=>decide (t<=g.1.2.1)
theorem Zbi{ps:List Zf}(b:Yc ps=true)(hi:i+1<ps.length):(ps.getD (i+1) G0).1.1=(ps.getD i G0).1.2.1:=by have h:=(Zp b).1 (i+1) hi;have a:=Bj (Qt h) (lW i);rw [h]at a;refine bI λc=>?_;have:=me_no (g:=ps.getD i G0) (h:=ps.getD (i+1) G0) c;rw [show i+1-1=i from rfl,this]at a;cases a
theorem ex_ok{ps:List Zf}(d:∀g∈ps,Gin g)(b:Yc ps=true)(c:Fx ps t=true)(hi:i<ps.length)(a:∀j,j<i->¬t<=(ps.getD j G0).1.2.1)(h:t<=(ps.getD i G0).1.2.1) :
  Cx (ps.getD i G0)/\(0<=t-(ps.getD i G0).1.1/\t-(ps.getD i G0).1.1<=3600000)/\(1<=(ps.getD i G0).1.2.1-(ps.getD i G0).1.1/\(ps.getD i G0).1.2.1-(ps.getD i G0).1.1<=3600000):=by
 have hs:Cx (ps.getD i G0):=Qv (d _ (Ze hi)) (Qt ((Zp b).1 i hi));have f:=hs.t1;have k:=hs.t2;have l:=hs.t3;have e:(ps.getD i G0).1.1<=t:=by
  match i,hi,a with
  | 0,_,_=>exact(Zeo c).1
  | j+1,hi,a=>
   have:=a j (mY j);rw [Zbi b hi];omega
 exact⟨hs,⟨O1,O1⟩,⟨O1,O1⟩⟩
theorem ex_no{ps:List Zf}(a:Yc ps=true)(c:Fx ps t=true)(b:∀j,j<ps.length->¬t<=(ps.getD j G0).1.2.1):False:=by have d:=(Zp a).2.1;exact b (ps.length-1) O1 (Zeo c).2
def exA(ps:List Zf)(t:Int):Int:=t-(ps.getD (exI ps t) G0).1.1
def exD(ps:List Zf)(t:Int):Int:=(ps.getD (exI ps t) G0).1.2.1-(ps.getD (exI ps t) G0).1.1
def exO(ps:List Zf)(t:Int):Int:=(ps.getD (exI ps t) G0).1.2.2*exD ps t^5/gS (ps.getD (exI ps t) G0).1.2.2 (exA ps t) (exD ps t) (ps.getD (exI ps t) G0).2.1.2 (ps.getD (exI ps t) G0).2.2.1.2 (ps.getD (exI ps t) G0).2.2.2.2 3
def exL(ps:List Zf)(t:Int):List Int:=Zmw ((ps.getD (exI ps t) G0).1.2.2*exD ps t^5) (mk 3 (plC (exA ps t) (exD ps t) (ps.getD (exI ps t) G0).2.1.2 (ps.getD (exI ps t) G0).2.2.1.2 (ps.getD (exI ps t) G0).2.2.2.2))
section
variable {P:Program} {N:Nat} {sc:Nat->Prop} {env:Qy} {H:Hp}
end
end Go.Sky
namespace Go.Sky
variable{t d:Int}{c:List Int}
theorem Zfa{ps:List Zf}(f:∀g∈ps,Gin g)(b:Yc ps=true){k m:Nat}(o:k<=m)(a:m<ps.length):(ps.getD k G0).1.2.1<=(ps.getD m G0).1.2.1:=by
 induction m with
 | zero=>
   obtain rfl:k=0:=O1;exact eY _
 | succ m i=>
  rcases bC m k with h|h
  .obtain rfl:k=m+1:=O1;exact eY _
  .have j:=i h O1;have l:=Zbi b a;have e:Cx (ps.getD (m+1) G0):=Qv (f _ (Ze a)) (Qt ((Zp b).1 _ a));have n:=e.t2;omega
theorem Zw7{ps:List Zf}(b:Yc ps=true)(f:Fx ps t=true):exI ps t<ps.length:=by refine bI λh=>ex_no b f λj e a=>h ?_;exact List.findIdx_lt_length.2 ⟨_,Ze e,aJ a⟩
theorem ex_all{ps:List Zf}(i:∀g∈ps,Gin g)(b:Yc ps=true)(f:Fx ps t=true):Cx (ps.getD (exI ps t) G0)/\(0<=exA ps t/\exA ps t<=3600000)/\(1<=exD ps t/\exD ps t<=3600000):=by
 have h:=Zw7 b f;refine ex_ok i b f h (λj e a=>?_) ?_
 .have:=nL e;rw [aC,aD (jQ e h)]at a;exact kP this a
 .have:=oD (xs:=ps) (p:=λg:Zf=>decide (t<=g.1.2.1)) (w:=h);rw [aC,aD h];exact bH this
def exC(ps:List Zf)(t:Int)(c:List Int):Int:=pl c (exA ps t) (exD ps t)/gS (ps.getD (exI ps t) G0).1.2.2 (exA ps t) (exD ps t) (ps.getD (exI ps t) G0).2.1.2 (ps.getD (exI ps t) G0).2.2.1.2 (ps.getD (exI ps t) G0).2.2.2.2 3
theorem rev_qs(c:List Int)(x:Rat):Zb c x=Ix (λk=>(cf c k:Rat)*x^k) c.length:=by have:=Zfk (cf c) x c.length;rwa [Zbd]at this
theorem plT_q(c:List Int)(a:Int)(f:d≠0):∀n,n<6->((plT c a d n:Int):Rat)=(d:Rat)^5*((cf c n:Rat)*((a:Rat)/(d:Rat))^n):=λn g=>by
 have h:(d:Rat)≠0:=by exact_mod_cast f
 have b:(a:Rat)=((a:Rat)/(d:Rat))*(d:Rat):=by rw [eE h]
 have e:(5-(n:Int)).toNat=5-n:=O1;unfold plT;rw [e];push_cast;rw [show c.getD n 0=cf c n from rfl];generalize (a:Rat)/(d:Rat)=u at b ⊢;rw [b]
 match n,g with
 | 0,_=>simp only [jJ];grind
 | 1,_=>show _*(_^1*(d:Rat)^4)=_;grind
 | 2,_=>show _*(_^2*(d:Rat)^3)=_;grind
 | 3,_=>show _*(_^3*(d:Rat)^2)=_;grind
 | 4,_=>show _*(_^4*(d:Rat)^1)=_;grind
 | 5,_=>show _*(_^5*(d:Rat)^0)=_;grind
theorem pls_q(c:List Int)(a:Int){d:Int}(b:d≠0):∀n,n<=6->((plS c a d n:Int):Rat)=(d:Rat)^5*Ix (λk=>(cf c k:Rat)*((a:Rat)/(d:Rat))^k) n
 | 0,_=>by show((0:Int):Rat)=_*0;grind
 | n+1,e=>by rw [show plS c a d (n+1)=plS c a d n+plT c a d n from rfl,Nc,Rat.mul_add,<-plT_q c a b n O1,<-pls_q c a b n O1];push_cast;rfl
theorem pl_q(b:c.length<=6)(a:Int)(e:d≠0):((pl c a d:Int):Rat)=(d:Rat)^5*Zb c ((a:Rat)/(d:Rat)):=by unfold pl;rw [pls_q c a e _ b,rev_qs]
theorem Zn6(o a d:Int)(x y z:List Int):∀i j,j<=i->gS o a d x y z i∣gS o a d x y z j/\∀k,k<j->gS o a d x y z i∣pl (Zo k x y z) a d
 | 0,j,l=>by obtain rfl:j=0:=O1;exact⟨kV _,λk b=>absurd b (bZ k)⟩
 | i+1,j,l=>by
  have e:gS o a d x y z (i+1)∣gS o a d x y z i:=jD ..;have g:gS o a d x y z (i+1)∣pl (Zo i x y z) a d:=iB ..;rcases bC i j with h|h
  .obtain rfl:j=i+1:=O1;refine⟨kV _,λk b=>?_⟩;rcases bM.1 b with f|f
   .exact fC e ((Zn6 o a d x y z i i (aI _)).2 k f)
   .subst f;exact g
  .exact⟨fC e (Zn6 o a d x y z i j h).1,λk b=>fC e ((Zn6 o a d x y z i j h).2 k b)⟩
def spX(g:Zf)(i:Nat)(s:Rat):Rat:=Zb (Zo i g.2.1.2 g.2.2.1.2 g.2.2.2.2) s
def Yn6{g:Zf}(h:Cx g)(i:Nat):(Zo i g.2.1.2 g.2.2.1.2 g.2.2.2.2).length<=6:=(h.lc i).2
theorem low_q (a:Int)(d:Int){g:Zf}(k:Cx g)(o:0<=a/\a<=3600000)(p:1<=d/\d<=3600000){i:Nat}(hi:i<3) :
  ((pl (Zo i g.2.1.2 g.2.2.1.2 g.2.2.2.2) a d/gS g.1.2.2 a d g.2.1.2 g.2.2.1.2 g.2.2.2.2 3:Int):Rat)*(g.1.2.2:Rat)=((g.1.2.2*d^5/gS g.1.2.2 a d g.2.1.2 g.2.2.1.2 g.2.2.2.2 3:Int):Rat)*spX g i ((a:Rat)/(d:Rat)):=by
 have q:d≠0:=O1;have w:=(Zie k o p 3).1;obtain⟨v,n⟩:=Zn6 g.1.2.2 a d g.2.1.2 g.2.2.1.2 g.2.2.2.2 3 3 (aI _);have m:=(Zn6 g.1.2.2 a d g.2.1.2 g.2.2.1.2 g.2.2.2.2 3 0 O1).1;have j:=gN (n i hi);have f:g.1.2.2*d^5/gS g.1.2.2 a d g.2.1.2 g.2.2.1.2 g.2.2.2.2 3*gS g.1.2.2 a d g.2.1.2 g.2.2.1.2 g.2.2.2.2 3=g.1.2.2*d^5:=gN m;have r:=pl_q (Yn6 k i) a q;unfold spX;generalize pl (Zo i g.2.1.2 g.2.2.1.2 g.2.2.2.2) a d/gS g.1.2.2 a d g.2.1.2 g.2.2.1.2 g.2.2.2.2 3=C at j ⊢;generalize g.1.2.2*d^5/gS g.1.2.2 a d g.2.1.2 g.2.2.1.2 g.2.2.2.2 3=O at f ⊢;generalize gS g.1.2.2 a d g.2.1.2 g.2.2.1.2 g.2.2.2.2 3=b at *;generalize pl (Zo i g.2.1.2 g.2.2.1.2 g.2.2.2.2) a d=u at *;generalize Zb (Zo i g.2.1.2 g.2.2.1.2 g.2.2.2.2) ((a:Rat)/(d:Rat))=R at *;generalize g.1.2.2=l at *;have e:(b:Rat)≠0:=by exact_mod_cast (show b≠0 by omega)
 have x:(O:Rat)*(b:Rat)=(l:Rat)*(d:Rat)^5:=by exact_mod_cast f
 have y:(C:Rat)*(b:Rat)=(d:Rat)^5*R:=by rw [<-r];exact_mod_cast j
 have s:((C:Rat)*(l:Rat)-(O:Rat)*R)*(b:Rat)=0:=O5;rcases dE.1 s with h|h
 .grind
 .exact absurd h e
theorem exD_le{ps:List Zf}(e:Yc ps=true)(f:Fx ps t=true):exA ps t<=exD ps t:=by
 have a:=Zw7 e f;have b:=oD (xs:=ps) (p:=λg:Zf=>decide (t<=g.1.2.1)) (w:=a);have h:t<=(ps.getD (exI ps t) G0).1.2.1:=by rw [aC,aD a];exact bH b
 unfold exA exD;omega
def exN(ps:List Zf)(t:Int)(i:Nat):Int:=exC ps t (Zo i (ps.getD (exI ps t) G0).2.1.2 (ps.getD (exI ps t) G0).2.2.1.2 (ps.getD (exI ps t) G0).2.2.2.2)
def rdN(ps:List Zf)(t:Int)(i:Nat):Int:=(exN ps t i+exN ps t i+exO ps t)/(exO ps t+exO ps t)
def rdL(ps:List Zf)(t:Int):Nat->List Int
 | 0=>[0,0,0]
 | i+1=>(rdL ps t i).set i (rdN ps t i)
structure AtB (n o:Int):Prop where
 b1:bl n.natAbs<=30000
 b2:bl o.natAbs<=30000
 n2:bl (n+n).natAbs<=30000
 o2:bl (o+o).natAbs<=30000
 s:bl (n+n+o).natAbs<=30000
 z:o+o≠0
 q:((n+n+o)/(o+o)).natAbs<=9223372036854775807
section
variable {P:Program} {N:Nat} {sc:Nat->Prop} {env:Qy} {H:Hp}
end
end Go.Sky
namespace Go.Sky
def SmP(g:Zf)(s:Rat)(h:Zf)(u:Rat):Prop:=∀i,i<3->spX g i s*(h.1.2.2:Rat)=spX h i u*(g.1.2.2:Rat)
def SmP.symm{g h:Zf}{s u:Rat}(e:SmP g s h u):SmP h u g s:=λi hi=>(e i hi).symm
def SmP.trans{g h k:Zf}{s u v:Rat}(a:(h.1.2.2:Rat)≠0)(e:SmP g s h u)(f:SmP h u k v):SmP g s k v:=λi hi=>by
 have b:=e i hi;have c:=f i hi;have:(spX g i s*(k.1.2.2:Rat)-spX k i v*(g.1.2.2:Rat))*(h.1.2.2:Rat)=0:=O5;rcases dE.1 this with q|q
 .grind
 .exact absurd q a
def Ztg{g:Zf}(h:Cx g):(g.1.2.2:Rat)≠0:=by have:=h.o1;exact_mod_cast (show g.1.2.2≠0 by omega)
def SmP_me{g h:Zf}(b:Cx g)(m:Cx h)(e:meG g h=true):SmP g 1 h 0:=λi hi=>by
 unfold meG Zd0 Zy4 at e;rw [aO,cK,cK]at e;obtain⟨-,n,o,p,r⟩:=e;have l:=low_q 1 1 b ⟨O3,O3⟩ ⟨O3,O3⟩ hi;have j:=low_q 0 1 m ⟨O3,O3⟩ ⟨O3,O3⟩ hi;have hs:pl (Zo i g.2.1.2 g.2.2.1.2 g.2.2.2.2) 1 1/gS g.1.2.2 1 1 g.2.1.2 g.2.2.1.2 g.2.2.2.2 3=pl (Zo i h.2.1.2 h.2.2.1.2 h.2.2.2.2) 0 1/gS h.1.2.2 0 1 h.2.1.2 h.2.2.1.2 h.2.2.2.2 3:=by
  match i,hi with
  | 0,_=>exact n
  | 1,_=>exact o
  | 2,_=>exact p
 rw [<-hs,<-r]at j;rw [show((1:Int):Rat)/((1:Int):Rat)=1 by decide +kernel]at l;rw [show((0:Int):Rat)/((1:Int):Rat)=0 by decide +kernel]at j;have t:0<g.1.2.2*1^5/gS g.1.2.2 1 1 g.2.1.2 g.2.2.1.2 g.2.2.2.2 3:=by
  have c:=(Zie b (a:=1) (d:=1) ⟨O3,O3⟩ ⟨O3,O3⟩ 3).1;obtain⟨q,f⟩:=(Zn6 g.1.2.2 1 1 g.2.1.2 g.2.2.1.2 g.2.2.2.2 3 0 O1).1;have f:g.1.2.2*1^5=gS g.1.2.2 1 1 g.2.1.2 g.2.2.1.2 g.2.2.2.2 3*q:=f;have k:0<g.1.2.2*1^5:=by have:=b.o1;omega
  rw [f]at k ⊢;rw [fW _ O1];exact Int.pos_of_mul_pos_right k c
 generalize g.1.2.2*1^5/gS g.1.2.2 1 1 g.2.1.2 g.2.2.1.2 g.2.2.2.2 3=O at *;generalize pl (Zo i g.2.1.2 g.2.2.1.2 g.2.2.2.2) 1 1/gS g.1.2.2 1 1 g.2.1.2 g.2.2.1.2 g.2.2.2.2 3=C at *;have s:(O:Rat)≠0:=by exact_mod_cast (show O≠0 by omega)
 have:(spX g i 1*(h.1.2.2:Rat)-spX h i 0*(g.1.2.2:Rat))*(O:Rat)=0:=O5;rcases dE.1 this with q|q
 .grind
 .exact absurd q s
def Yp7{q g:Zf}{G:Int}(h:Prt q g G){t u:Rat}(e:t*((g.1.2.1-g.1.1:Int):Rat)=((q.1.1-g.1.1:Int):Rat)+((q.1.2.1-q.1.1:Int):Rat)*u):SmP q u g t:=λi hi=>by
 have d:=h.x i t u e;have c:(q.1.2.2:Rat)*(G:Rat)=(g.1.2.2:Rat)*((g.1.2.1-g.1.1:Int):Rat)^5:=by exact_mod_cast h.o
 have b:(G:Rat)≠0:=by have:=h.g0;exact_mod_cast (show G≠0 by omega)
 unfold spX;have:(Zb (Zo i q.2.1.2 q.2.2.1.2 q.2.2.2.2) u*(g.1.2.2:Rat)-Zb (Zo i g.2.1.2 g.2.2.1.2 g.2.2.2.2) t*(q.1.2.2:Rat))*(G:Rat)=0:=O5;rcases dE.1 this with a|a
 .grind
 .exact absurd a b
def sTm(g:Zf)(t:Int):Rat:=((t-g.1.1:Int):Rat)/((g.1.2.1-g.1.1:Int):Rat)
def Yf3{ps:List Zf}(v:∀g∈ps,Gin g)(d:Yc ps=true){fr a:Int}(w:Ep ps<=fr)(x:fr<a)(q:a<=Bc ps)(l:∀g∈ps,¬(fr<g.1.1/\g.1.1<a)) :
  ∃j,j<ps.length/\(ps.getD j G0).1.1<=fr/\a<=(ps.getD j G0).1.2.1:=by
 have k:Fx ps a=true:=by unfold Fx;rw [aJ (show Ep ps<=a by omega),aJ q];rfl
 have c:=Zw7 d k;have r:a<=(ps.getD (exI ps a) G0).1.2.1:=by have:=exD_le d k;unfold exA exD at this;omega
 have s:=(ex_all v d k).2.1.1;unfold exA at s;refine⟨exI ps a,c,?_,r⟩;refine Int.not_lt.1 λt=>?_;rcases iG (ps.getD (exI ps a) G0).1.1 a with n|n
 .exact l _ (Ze c) ⟨t,n⟩
 .have e:(ps.getD (exI ps a) G0).1.1=a:=O1;rcases aS (exI ps a)with o|o
  .rw [o]at e;have:Ep ps=a:=e;omega
  .obtain⟨m,u⟩:∃m,exI ps a=m+1:=⟨exI ps a-1,O1⟩;have f:=Zbi d (i:=m) O1;rw [<-u,e]at f;have h:=nL (xs:=ps) (p:=λg:Zf=>decide (a<=g.1.2.1)) (i:=m) (show m<exI ps a by omega);have b:a<=(ps.getD m G0).1.2.1:=O1;rw [aC,aD (show m<ps.length by omega)]at b;exact kP h b
def Ya9{ps:List Zf}(s:∀g∈ps,Gin g)(l:Yc ps=true){fr a:Int}(o:Ep ps<=fr)(i:fr<a)(p:a<=Bc ps)(c:∀g∈ps,¬(fr<g.1.1/\g.1.1<a))(b:Qh fr a ps=true){j:Nat}(q:j<ps.length)(t:(ps.getD j G0).1.1<=fr)(u:a<=(ps.getD j G0).1.2.1) :
  Bn fr a ps=[Zgl fr a (ps.getD j G0)]/\Ny fr a (ps.getD j G0)=true/\Cq fr a (ps.getD j G0)=true/\(Zgl fr a (ps.getD j G0)).1.1=fr/\(Zgl fr a (ps.getD j G0)).1.2.1=a:=by
 have m:=(Zp l).2.1;have f:cA fr (ps.getD j G0)=fr:=by unfold cA;omega
 have h:cB a (ps.getD j G0)=a:=by unfold cB;omega
 have k:Ny fr a (ps.getD j G0)=true:=by unfold Ny;rw [f,h];exact aJ i
 have n:ps.getD j G0∈ps.filter (Ny fr a):=fA.2 ⟨Ze q,k⟩;have r:=Zq4 (Dt s l).1 (λe=>by rw [e]at m;simp at m) o i p c;obtain⟨z,d⟩:=nM.1 r;rw [d]at n;obtain rfl:=bN.1 n;refine⟨?_,k,?_,f,h⟩
 .unfold Bn;rw [aK b,d];rfl
 .unfold Qh at b;rw [d]at b;simpa using b
def Zuz{ts:List Int}{a b:List Zf} : ∀{n:Nat},Kz ts a b n=true->∀k,k<n->Qh (ts.getD k 0) (ts.getD (k+1) 0) a=true/\Qh (ts.getD k 0) (ts.getD (k+1) 0) b=true
 | 0,_,k,d=>absurd d (bZ k)
 | n+1,h,k,d=>by
  have e:Kz ts a b (n+1)=(Kz ts a b n && (Qh (ts.getD n 0) (ts.getD (n+1) 0) a && Qh (ts.getD n 0) (ts.getD (n+1) 0) b)):=rfl;rw [e,aO,aO]at h;rcases bM.1 d with c|c
  .exact Zuz h.1 k c
  .subst c;exact h.2
def cvS{D:Int}{a b:List Zf}(e:∀g∈a,Gin g)(f:∀g∈b,Gin g)(c:Yc a=true)(d:Yc b=true)(h:dsB D=true):∀g∈Mi D 1 1 a b,Cvd g.2.2:=Yj7 e f c d h (Zyc (Mx a b a)) (Zyc (Mx a b b))
section
variable {D n d:Int} {a b:List Zf} (hpa:∀g∈a,Gin g) (hpb:∀g∈b,Gin g) (hba:Yc a=true) (hbb:Yc b=true) (hz:znB D n d=true)
include hpa hpb hba hbb hz
end
theorem Yeu(a b:Bool)(p:Prop):a=false\/(a=true/\b=false)\/(a=true/\b=true/\p)\/(a=true/\b=true/\¬p):=by cases a<;>cases b<;>simp_all [jP]
theorem Yiz{a b:List Zf}(h:Oo a b≠0):Oo a b=7:=by unfold Oo at h ⊢;rcases Zxm a b with e|e|e<;>rw [e]at h ⊢<;>simp_all
end Go.Sky
namespace Go.Sky
variable{h:Int×Int}{i m:Nat}{zs:List GpT}
def NrP(a b:List Zf)(g:Int×Int):Prop:=
 (Oo a b≠0/\g=(0,Oo a b))\/(Oo a b=0/\Mi 0 1 1 a b=[]/\g=(0,9))\/
  (Oo a b=0/\Mi 0 1 1 a b≠[]/\g.2=0/\0<=g.1/\g.1<=4194304/\∀k,1<=k->k<=4194304->Ho k 1 1 a b=decide (k<=g.1))
theorem Ztm{a b:List Zf}{g:Int×Int}(c:NrP a b g)(r:NrP a b h):g=h:=by
 rcases c with⟨c,rfl⟩|⟨c,k,rfl⟩|⟨c,k,s,w,x,p⟩<;>rcases r with⟨d,rfl⟩|⟨d,j,rfl⟩|⟨d,j,q,u,v,o⟩
 .rfl
 .exact absurd d c
 .exact absurd d c
 .exact absurd c d
 .rfl
 .exact absurd k j
 .exact absurd c d
 .exact absurd j k
 .obtain⟨n,e⟩:=g;obtain⟨m,t⟩:=h;dsimp only at *;subst s q;rcases jY n m with h|h|h
  .have l:=p m O1 O1;have f:=o m O1 O1;rw [l,aJ (eY m)]at f;have:=bH f;omega
  .rw [h]
  .have l:=p n O1 O1;have f:=o n O1 O1;rw [l,aJ (eY n)]at f;have:=bH f.symm;omega
section
variable {a b:List Zf} (hpa:∀g∈a,Gin g) (hpb:∀g∈b,Gin g) (hba:Yc a=true) (hbb:Yc b=true)
include hpa hpb hba hbb
theorem ap_dn{D E:Int}(c:0<=E)(d:E<=D)(e:D<=4194304)(h:Ho D 1 1 a b=true):Ho E 1 1 a b=true:=
 Yb3 (cvS hpa hpb hba hbb (by unfold dsB;rw [aJ O1,aJ O1];rfl)) (cvS hpa hpb hba hbb (by unfold dsB;rw [aJ O1,aJ O1];rfl)) c d O3 O3 h
end
def NrS(a b:List Zf)(r:Nat):Prop:=r<=4194304/\(∀k,k<r->Ho ((k:Int)+1) 1 1 a b=true)/\∀k,r<=k->k<4194304->Ho ((k:Int)+1) 1 1 a b=false
def Ynq{a b:List Zf}{j:Nat}(l:i<=j/\j<=4194304)(f:¬i<j)(d:∀k,k<i->Ho ((k:Int)+1) 1 1 a b=true)(e:∀k,j<=k->k<4194304->Ho ((k:Int)+1) 1 1 a b=false):NrS a b i:=
 ⟨O1,d,λk n c=>e k O1 c⟩
theorem nr_end{a b:List Zf}(q:zs.map unP=Mi 0 1 1 a b)(c:¬Oo a b≠0)(o:¬zs.length=0)(h:NrS a b i):NrP a b ((i:Int),0):=by
 obtain⟨r,d,j⟩:=h;refine .inr (.inr ⟨gL.1 c,λe=>o ?_,rfl,O10,O10,λk l n=>?_⟩)
 .rw [<-aP (f:=unP),q,e];rfl
 .obtain⟨m,rfl⟩:∃m:Nat,k=(m:Int)+1:=⟨(k-1).toNat,O1⟩;by_cases p:m<i
  .rw [d m p,aJ O10]
  .rw [j m O1 O1,aE O10]
theorem ds_in{k:Int}(c:0<=k)(d:k<=4194304):dsB k=true:=by unfold dsB;rw [aJ c,aJ d];rfl
section
variable {a b:List Zf} (hpa:∀g∈a,Gin g) (hpb:∀g∈b,Gin g) (hba:Yc a=true) (hbb:Yc b=true)
include hpa hpb hba hbb
theorem nrS_t(d:m<4194304)(h:Ho ((m:Int)+1) 1 1 a b=true)(k:Nat)(c:k<m+1):Ho ((k:Int)+1) 1 1 a b=true:=ap_dn hpa hpb hba hbb (D:=(m:Int)+1) O1 O1 O1 h
theorem nrS_f(h:Ho ((m:Int)+1) 1 1 a b=false)(k:Nat)(d:m<=k)(c:k<4194304):Ho ((k:Int)+1) 1 1 a b=false:=by
 cases hc:Ho ((k:Int)+1) 1 1 a b with
 | false=>rfl
 | true=>rw [ap_dn hpa hpb hba hbb (D:=(k:Int)+1) (E:=(m:Int)+1) O1 O1 O1 hc]at h;cases h
end
theorem Ynp{a b:List Zf}(e:zs.map unP=Mi 0 1 1 a b)(c:¬Oo a b≠0)(d:zs.length=0):NrP a b (0,9):=by refine .inr (.inl ⟨gL.1 c,?_,rfl⟩);rw [<-e,aF d];rfl
theorem nr_is{a b:List Zf}{g:Int×Int}{n:Int}(h:NrP a b g)(j:Oo a b=0)(p:Mi 0 1 1 a b≠[])(s:1<=n/\n<4194304)(k:Ho n 1 1 a b=true)(l:Ho (n+1) 1 1 a b=false):g=(n,0):=by
 rcases h with⟨h,-⟩|⟨-,h,-⟩|⟨-,-,o,q,r,c⟩
 .exact absurd j h
 .exact absurd h p
 .obtain⟨m,e⟩:=g;dsimp only at *;subst o;have d:=c n O1 O1;have f:=c (n+1) O1 O1;rw [k]at d;rw [l]at f;have t:=bH d.symm;have u:=kP f.symm;rw [show m=n by omega]
def Yii(fr n d e f j c l k:Int)(s:SL×SL×SL):Zf:=((fr,n,1),(s.1,Em d j k),(s.2.1,Em e c k),(s.2.2,Em f l k))
def Bm(s:SL×SL×SL):Zf:=Yii 0 1000 0 0 0 1000 0 0 1 s
def gv1(s:SL×SL×SL):Zf:=Yii 0 1000 1000 300 0 0 300 0 1 s
def gv2(s:SL×SL×SL):Zf:=Yii 500 2000 0 700 0 0 700 0 2 s
def gvL(s:SL×SL×SL):Zf:=Yii 1000 2000 0 0 0 1000 0 0 1 s
def gf_1:fmZ 300 1 1 1 1 (Em 0 1000 1) (Em 0 0 1) (Em 0 0 1) (Em 1000 0 1) (Em 300 300 1) (Em 0 0 1)=tzl [1,-4,4]:=O6
def gf_2:fmZ 400 1 1 1 1 (Em 0 1000 1) (Em 0 0 1) (Em 0 0 1) (Em 1000 0 1) (Em 300 300 1) (Em 0 0 1)=tzl [93,-400,400]:=O6
def gs_0:Dq 0 1000 1 (Em 0 1000 1) (Em 0 0 1) (Em 0 0 1)=true:=O6
def gs_1:Dq 0 1000 1 (Em 1000 0 1) (Em 300 300 1) (Em 0 0 1)=true:=O6
section
variable (s t:SL×SL×SL)
def Zis:Yc [Bm s]=true:=O7
def Ydo:Yc [gv1 s]=true:=O7
def Zir:Yc [gv2 s]=true:=O7
def gp_L:Yc [gvL s]=true:=O7
def Ydr:Oo [Bm s] [gv1 t]=0:=O7
def ge_2:Oo [Bm s] [gv2 t]=0:=O7
def ge_L:Oo [Bm s] [gvL t]=0:=O7
def gz_L:Mi 0 1 1 [Bm s] [gvL t]=[]:=O7
def gz_1:(Mi 0 1 1 [Bm s] [gv1 t]).isEmpty=false:=O7
def gz_2:(Mi 0 1 1 [Bm s] [gv2 t]).isEmpty=false:=O7
def Yi0:Ho 300 1 1 [Bm s] [gv1 t]=true:=O7
def ga_2:Ho 301 1 1 [Bm s] [gv1 t]=false:=O7
def ga_3:Ho 860 1 1 [Bm s] [gv2 t]=true:=O7
def ga_4:Ho 861 1 1 [Bm s] [gv2 t]=false:=O7
def ga_5:Ho 300 1 1 [Bm s] [gv2 t]=true:=O7
def ga_6:Ho 300 1 1 [gv1 s] [gv2 t]=true:=O7
def gz_3:Mi 860 1 1 [Bm s] [gv2 t]=[(500,1000,tzl [1,1250,625])]:=O7
def gf_3:Az (Mi 301 1 1 [Bm s] [gv1 t])=(0,1000,true):=O7
end
end Go.Sky
namespace Go.Sky
open Go.Proofs.Tryz
open Go.Proofs
set_option synthInstance.maxHeartbeats 0
set_option synthInstance.maxSize 100000
set_option maxRecDepth 20000
set_option linter.unusedSimpArgs false
variable{va vb v u:Value}{ls:List PT}{M0:Nat->Prop}
theorem Zng(e f:List Zf)(M:Int)(q:∀g∈e,Gin g)(r:∀g∈f,Gin g)(j:Yc e=true)(m:Yc f=true)(B:e.length<=5)(F:f.length<=5)(s:dsB M=true)(P:Oo e f=0)(z:Ho M 1 1 e f=true):Xy prog 43 #[va,vb,.int .i64 M] [Xp 6 Xv qG va e,Xp 6 Xv qG vb f] (.tuple #[.agg #[.bool false,.string ⟨#[]⟩,.bool false,.string ⟨#[]⟩],.int .i64 9]):=by
 refine Zjr func43 J ntmps43 J K2 ?_;intro y Y H G;have H:=Hw.mk H;simp only [Qq,Yt];refine go 2 ?_;refine Yk (Zw 3) λt _=>Yk (Zw 4) λc _=>go 7 ?_;refine cl 5 [1,2] (Zi7 _ _ _ q r j m B F s) λi n=>go 11 ?_;refine kf (aE (λh=>h P))<|go 9 ?_;refine cl 6 [5] Zv5 λb _=>go 3 ?_;refine Yau ([Ka b 50 #[i.1],Xp 3 Cd qGp i.1 i.2]) y (λ(k:Nat) (_:Unit)=>[(0,Yo y (λ_=>False)),(3,box t 82 #[.bool false,.string ⟨#[]⟩,.bool false,.string ⟨#[]⟩]),(4,box c 26 #[.int .i64 0])]) (λk _=>k=0) (λ(_:Unit)=>[(0,Yo y (λ_=>False)),(3,box t 82 #[.bool false,.string ⟨#[]⟩,.bool false,.string ⟨#[]⟩]),(4,box c 26 #[.int .i64 0])]) (λ_=>False) () J (by intro d w;first|exact enters_of func162 O7 rfl d w|exact call162 d w) (Zoy i.1 i.2 b (Zq2 q r j m s n)) ?_ (λ_ _=>J) J H.h J J K3 (λ_ _=>⟨J,J⟩) (λ_=>⟨J,J⟩) (λk x V _ Q o l R S=>?_) J (λ_ o D W=>?_) (λ_ I=>?_)
 .intro p N;simp only [bB,dL,iD]at N;rcases N with rfl|rfl
  .exact⟨J,6,J⟩
  .exact⟨J,5,J⟩
 .exact Bool.noConfusion ((Zmf n Q).symm.trans z)
 .refine dt (Qa [] J aA (λa w hs=>Yd7))<|go 3 ?_;refine Yb8 λa w hs=>⟨J,[(6,.pointer (some ⟨t,0,none⟩)),(7,.pointer (some ⟨c,0,none⟩))],[(0,Yo y (λ_=>False)),(3,box t 82 #[.bool false,.string ⟨#[]⟩,.bool false,.string ⟨#[]⟩]),(4,box c 26 #[.int .i64 9])],J,⟨⟨_,J,J,λ_ h=>h⟩,⟨_,J,J,λ_ h=>h⟩,⟨_,J,J,λ_ h=>h⟩,aA⟩,hs.weaken ⟨J,J,aA⟩ ⟨J,J,J,J,aA⟩,?_⟩;exact Ma G () results43 J aA Za
 .exact I.elim
theorem Ycs(n:Nat)(B:Nat)(P:n<=64):Yec prog 175 [.pointer (some ⟨B,0,none⟩)] [Ka B 3 #[.int .i64 (n:Int)]] (α:=Nat×Nat) (G:=Unit) (prs n) (λc g=>[.int .i64 (c.1:Int),.int .i64 (c.2:Int)]) (λc g=>[]):=by
 refine Zrg func175 J ntmps175 J K1 ?_;intro l M y N x Q I o j b s D;simp only [Qq,Yt];have r:=Hw.mk I;refine You<|go 1 ?_;refine Yov<|go 8 ?_;refine lp (G:=Nat×World) [0,1,5] [1] (λq=>[(6,.int .i64 (q.1:Int))]) (λq=>[(0,Yo q.2 (λ_=>False))]) (λq=>(q.1<=n)/\(y (prU n q.1).length q.2)/\(x.heap.size<=q.2.heap.size)) (λq=>n-q.1) (0,x) ⟨O2,s,aI _⟩ K1 K1 ?_;rintro⟨i,W⟩ ⟨hi,a,d⟩;dsimp only at hi a d;dsimp only;have w:=Yah r d;refine go 6 ?_;refine Zc J (λf=>?_) (λf=>?_)
 .refine go 18 ⟨O1,?_⟩;refine lp (G:=Nat×World) [0,1,3,5,6] [1] (λq=>[(4,.int .i64 (q.1:Int))]) (λq=>[(0,Yo q.2 (λ_=>False))]) (λq=>(i+1<=q.1)/\(q.1<=n)/\(y ((prU n i).length+(q.1-(i+1))) q.2)/\(x.heap.size<=q.2.heap.size)) (λq=>n-q.1) (i+1,W) ⟨O2,O2,by rw [iF];exact a,d⟩ K1 K1 ?_;rintro⟨k,V⟩ ⟨t,F,a,d⟩;dsimp only at t F a d;dsimp only;have w:=Yah r d;refine go 8 ?_;refine Zc J (λh=>?_) (λh=>?_)
  .refine go 5 ?_;refine Ydt<|Mh (Zaa J J) J<|Mh (Zaa J J) J<|Mh (Zaa J J) J<|Ztt [_,_] [_] (i,k) () D (Yg3 _ _ _ O1 O1 O1) a d o J J J J J K2 J J (λp H=>by cases H) K1 K1 (λz e m=>?_) (λz e m=>?_)
   .simp only [Yt];refine Mh (dF (Ye J J) J) J<|Ca<|go 10 ⟨O1,?_⟩;exact Yu (k+1,z) ⟨O2,O2,by rw [show(prU n i).length+(k+1-(i+1))=((prU n i).length+(k-(i+1)))+1 from by omega];exact e,m⟩ O2 K1 K1
   .simp only [Yt];refine Mh (dT (Ye J J) J) J<|Ca<|go 11 ?_;exact x_ngn<|Zay (.inr J) J J j b (.inr e)
  .refine go 10 ⟨O1,?_⟩;exact Yu (i+1,V) ⟨O2,by rw [pr_len,show n=k by omega];rw [show n=k by omega]at a;exact a,d⟩ O2 K1 K1
 .obtain rfl:i=n:=O1;refine go 4 ?_;exact x_ngn<|Zay (.inr J) J J j b (.inl a)
theorem Yf5(n:Nat):Cal prog 109 #[.int .i64 (n:Int)] [] true (G:=Nat) (λg=>True) (λg=> .func (.func 175) #[] #[.pointer (some ⟨g,0,none⟩)]) (λg=>[Ka g 3 #[.int .i64 (n:Int)]]):=by refine Zg func109 ntmps109 λe d c a=>go 2 ?_;refine Yk (Ym 1) λb _=>go 5 ?_;refine dt (Zur [] [_] J aA K1)<|go 4 ?_;exact Zv (Zee 1 J J)<|Xn a _ results109 J aA (Oi 1 Za)
theorem Yct{ps:List Zf}(b:∀g∈ps,Gin g):Xy prog 108 #[v] [Xp 6 Xv qG v ps] (.bool (!Yc ps)):=by refine Zg func108 ntmps108 λe d c a=>go 8 ?_;refine cl 1 [1] (Lr b) λ_ _=>go 5 ?_;exact Xn a () results108 J aA Za
theorem Yik(ls:List PT)(m:∀x∈ls,∀g∈x.2,Gin g):Cal prog 174 #[v,.func (.func 108) #[] #[]] [Xp 1 Zlu qP v ls] false (G:=Int) (λr=>decide (r>=0)=!Ze5 ls) (λr=> .int .i64 r) (λr=>[]):=by
 refine Zg func174 ntmps174 λp o n d=>?_;refine Of (Ir (i:=1) J Zd) λf=>go 14 ?_;refine lp (G:=Nat) [0,1,7] [0,1] (λi=>[(8,.int .i64 (i:Int))]) (λi=>[]) (λi=>(i<=ls.length)/\(∀j,j<i->Yc (pth ls j)=true)) (λi=>ls.length-i) 0 ⟨O2,λj h=>absurd h (bZ j)⟩ K1 aA ?_;rintro i ⟨hi,l⟩;refine go 6 ?_;refine Zc J (λc=>?_) (λc=>?_)
 .refine go 11 ?_;refine Zh (Gd 1 55 (ls.getD i PT0) J J Ze J)<|go 4 ?_;refine dt (Zq 1 i J J J J Zd Ycd sizeOf38 J)<|dt (Xw 1 PT0 J J J Zd pPq)<|tt (Zyk 1 [] [_] [] (Yct (m _ Ze)) J J J J K1 call108 (Zk 55 J J J Zr) J n.h) λ_ _=>go 2 ?_;refine Nh J (λa=>?_) (λa=>?_)
  .have b:=a;refine go 12 ?_;exact Xn d (i:Int) results174 J (by rw [vidx_t O1 (Zri b)];exact aJ (oS i)) Za
  .have b:=a;refine go 7 ⟨O1,?_⟩;exact Yu (i+1) ⟨O2,λj h=>by rcases bM.1 h with e|e;exact l j e;subst e;exact Zrj b⟩ O2 K1 aA
 .obtain rfl:i=ls.length:=O1;refine go 11 ?_;exact Xn d (-1) results174 J (by rw [Yeo (aI _) (λk h _=>l k h)];rfl) Za
theorem Yks(ls:List PT)(c:∀x∈ls,∀g∈x.2,Gin g):Xy prog 107 #[v,.func (.func 108) #[] #[]] [Xp 1 Zlu qP v ls] (.bool (!Ze5 ls)):=by refine Zg func107 ntmps107 λh f d b=>go 9 ?_;refine cl 1 [1] (Yik ls c) λe a=>go 5 ?_;exact Xn b () results107 (by rw [a]) aA Za
theorem Zst(B:Int)(R:∀x∈ls,∀g∈x.2,Gin g)(S:Ze5 ls=true)(hL:∀x∈ls,x.2.length<=5)(hn:ls.length<=64)(N:dsB B=true):Cal prog 48 #[v,.int .i64 B] [Xp 1 Zlu qP v ls] false (G:=ClT) (λr=>ClR B 1 1 ls r) (λr=>clE r) (λr=>[]):=by
 refine Zjr func48 J ntmps48 J K1 ?_;intro w0 sc hw W;have hw:=Hw.mk hw;simp only [Qq,Yt];refine Of (Ir (i:=1) J Zd) (λa9=>?_);refine Zhr (Qp 1 J Zd) (λI a4=>?_);subst a4;refine go 2 ?_;refine Yk (Ym 2) λbx _=>Yk (Ym 3) λt _=>Yk (Zw 4) λc _=>Yk (Zw 5) λd _=>Yk (Zw 6) λe _=>go 7 ?_;refine cl 6 [] Zki λ_ _=>?_;refine dt (dF (Ye J J) (aL (λb=>Value.bool (!b)) N))<|go 2 ?_;refine Kf 6 [1] (Yks ls R) λ_ _=>?_;refine kf (by rw [S];rfl)<|go 8 ?_;refine kf (aE O1)<|go 12 ?_;refine cl 7 [] (Yf5 ls.length) λb _=>go 3 ?_;refine Yau ([Ka b 3 #[.int .i64 (ls.length:Int)]]) w0 (λ(k:Nat) (_:Unit)=>[(0,Yo w0 (λ_=>False)),(1,Xp 1 Zlu qP (Xx I) ls),(2,box bx 61 #[Xx I]),(3,box t 3 #[.int .i64 B]),(4,box c 64 #[.int .i64 0,.int .i64 0,.int .i64 0,.int .i64 0]),(5,box d 4 #[.bool false]),(6,box e 26 #[.int .i64 0])]) (λk _=>PrI B ls k) (λ(z:ClT)=>[(0,Yo w0 (λ_=>False)),(4,box c 64 #[.int .i64 z.1.1,.int .i64 z.1.2.1,.int .i64 z.1.2.2.1,.int .i64 z.1.2.2.2]),(5,box d 4 #[.bool z.2.1]),(6,box e 26 #[.int .i64 z.2.2])]) (λz=>ClR B 1 1 ls z) () J (by intro n w;first|exact enters_of func175 O7 rfl n w|exact call175 n w) (Ycs ls.length b O1) ?_ (λ_ _=>J) J hw.h J (λj p h _=>absurd h (bZ j)) K7 (λ_ _=>⟨J,J⟩) (λ_=>⟨J,J⟩) (λk x gi _ hx o l Z Wa=>?_) J (λ_ o D od=>?_) (λz a6=>?_)
 .intro p V;simp only [bB,dL,iD]at V;rcases V with rfl;exact⟨J,7,J⟩
 .refine Zhq (env':=[(2,_),(3,_),(4,_),(5,_),(6,_),(29,_),(30,_)]) (H':=[(92,Yo Wa Z),(0,Yo w0 (λ_=>False)),(1,Xp 1 Zlu qP (Xx I) ls),(2,box bx 61 #[Xx I]),(3,box t 3 #[.int .i64 B]),(4,box c 64 #[.int .i64 0,.int .i64 0,.int .i64 0,.int .i64 0]),(5,box d 4 #[.bool false]),(6,box e 26 #[.int .i64 0])]) (λa w hs=>hs.weaken ⟨J,J,J,J,J,J,J,aA⟩ ⟨J,J,J,J,J,J,J,J,aA⟩)<|Zcm<|Zbj J<|Yk (Zw 8) λF _=>go 1 ?_;refine Zid (Zvm ?_);refine Zjw<|Zbj J<|Yk (Zw 9) λH _=>go 1 ?_;refine Zid (Zvm ?_);refine x_ra [(2,_),(3,_),(4,_),(5,_),(6,_),(7,_),(8,_)] [(0,_),(1,_),(2,_),(3,_),(4,_),(5,_),(6,_),(8,_),(9,_)] K7 K10 J (λq h=>by cases h;rfl) ⟨.inr (λb f=>⟨0,_,J,f⟩),.inr (λb f=>⟨1,_,J,f⟩),.inl J,.inl J,.inl J,.inl J,.inl J,.inl J,.inl J,aA⟩ λWb a3=>?_;obtain⟨-,b1,b2⟩:=Zwf (eU hx);refine Zcn<|Zcm<|Zhq (Gd 1 55 (ls.getD x.1 PT0) J J (Ze (show x.1<ls.length by omega)) J)<|Zhq (Gd 1 56 (ls.getD x.2 PT0) J J (Ze (show x.2<ls.length by omega)) J)<|Yoq (λ_=>False) [(0,0),(1,0),(2,0),(3,0),(4,0),(5,0),(6,0),(7,0),(8,0),(9,1),(10,0),(11,0),(12,0),(13,0),(14,3)] O7 J O7<|go 2 ?_;refine Xg J J (Xd (Zq 1 x.1 J J J J Zd Ycd sizeOf38 J))<|Xg J J (Xd (Xw 1 PT0 J J J Zd pPq))<|go 2 ?_;refine Xg J J (Xd (Zq 1 x.2 J J J J Zd Ycd sizeOf38 J))<|Xg J J (Xd (Xw 1 PT0 J J J Zd pPq))<|go 1 ?_;refine Xe (Zj 10 [55,56] (Zy0 (R _ (Ze (show x.1<ls.length by omega))) (R _ (Ze (show x.2<ls.length by omega))) (Ze4 S (Ze (show x.1<ls.length by omega))) (Ze4 S (Ze (show x.2<ls.length by omega))) (hL _ (Ze (show x.1<ls.length by omega))) (hL _ (Ze (show x.2<ls.length by omega))) N)) λQ M=>go 6 ?_;refine Zjw<|Zcm<|Zcm<|Zbj J<|go 2 ?_;refine Zid (Zvm ?_);refine Zjw<|Yor J (λy=>?_) (λy=>?_)
  .have h9:=y;refine Zcm<|Zbj J<|dt (Qa [] J aA (λa w hs=>b64_))<|go 4 ?_;refine Zid (Zvm ?_);refine Zjw<|Yar<|go 2 ?_;exact x_rr ((0,0,0,0),false,Oo (ls.getD x.1 PT0).2 (ls.getD x.2 PT0).2) (Yne o hx h9) ⟨.inr (λb f=>⟨0,_,J,f⟩),.inl J,.inl J,.inl J,aA⟩ K5
  .have h9:=y;refine Yjf<|Zjw<|Zcm<|Zbj J<|go 1 ?_;refine cl 11 [10] Zv5 λP _=>?_;refine Zid (Zvm ?_);refine Zjw<|Zcn<|er_rfi (pre:=[Ka P 50 #[Q.1],Xp 3 Cd qGp Q.1 Q.2]) (w0:=w0) (λ(k2:Nat) (_:Unit)=>[(0,Yo w0 (λ_=>False)),(92,Yo Wb Z),(1,Xp 1 Zlu qP (Xx I) ls),(2,box bx 61 #[Xx I]),(3,box t 3 #[.int .i64 B]),(4,box c 64 #[.int .i64 0,.int .i64 0,.int .i64 0,.int .i64 0]),(5,box d 4 #[.bool false]),(6,box e 26 #[.int .i64 0]),(8,box F 3 #[.int .i64 (x.1:Int)]),(9,box H 3 #[.int .i64 (x.2:Int)])]) (λk2 _=>k2=0) (λ(m:ClT)=>[(0,Yo w0 (λ_=>False)),(92,Yo Wb Z),(4,box c 64 #[.int .i64 m.1.1,.int .i64 m.1.2.1,.int .i64 m.1.2.2.1,.int .i64 m.1.2.2.2]),(5,box d 4 #[.bool m.2.1]),(6,box e 26 #[.int .i64 m.2.2])]) (λm=>ClR B 1 1 ls m) () a3 J J (by intro n w;first|exact enters_of func162 O7 rfl n w|exact call162 n w) (Zoy Q.1 Q.2 P (Zq2 (R _ (Ze (show x.1<ls.length by omega))) (R _ (Ze (show x.2<ls.length by omega))) (Ze4 S (Ze (show x.1<ls.length by omega))) (Ze4 S (Ze (show x.2<ls.length by omega))) N M)) ?_ (λ_ _=>J) J hw.h J J K10 (λ_ _=>⟨J,J⟩) (λ_=>⟨J,J⟩) (λk2 x2 a2 _ a5 s l2 a0 a1=>?_) (λ_ s=>?_) (λm Y=>?_)
   .intro p V;simp only [bB,dL,iD]at V;rcases V with rfl|rfl
    .exact⟨J,11,J⟩
    .exact⟨J,10,J⟩
   .refine Zhq (env':=[(4,_),(5,_),(6,_),(7,_),(8,_),(50,_)]) (H':=[(93,Yo a1 a0),(100,fctP (Fnd x2.2.2 (qv (0,1)) (qv (1,1)) a2)),(0,Yo w0 (λ_=>False)),(92,Yo Wb Z),(1,Xp 1 Zlu qP (Xx I) ls),(2,box bx 61 #[Xx I]),(3,box t 3 #[.int .i64 B]),(4,box c 64 #[.int .i64 0,.int .i64 0,.int .i64 0,.int .i64 0]),(5,box d 4 #[.bool false]),(6,box e 26 #[.int .i64 0]),(8,box F 3 #[.int .i64 (x.1:Int)]),(9,box H 3 #[.int .i64 (x.2:Int)])]) (λa w hs=>hs.weaken ⟨J,J,J,J,J,J,aA⟩ ⟨J,J,J,J,J,J,J,J,J,J,J,J,aA⟩)<|Zbj J<|Yk (Zw 12) λa7 _=>go 1 ?_;refine Zid (Zvm ?_);refine x_ra [(4,_),(5,_),(6,_),(7,_),(8,_),(11,_)] [(0,_),(92,_),(1,_),(2,_),(3,_),(4,_),(5,_),(6,_),(8,_),(9,_),(100,_),(12,_)] K6 K13 J (λq h=>by cases h;rfl) ⟨.inr (λb f=>⟨0,_,J,f⟩),.inr (λb f=>⟨92,_,J,f⟩),.inr (λb f=>⟨1,_,J,f⟩),.inl J,.inl J,.inl J,.inl J,.inl J,.inl J,.inl J,.inr (λb f=>⟨100,_,J,f⟩),.inl J,aA⟩ λb0 a8=>?_;refine Zcn<|Zcm<|Zbj J<|go 6 ?_;refine dt (Qa [(0,_),(1,_),(2,_),(3,_)] J K8 (λa w hs=>Zmh ((Yi J) a w hs) ((Yi J) a w hs) ((Yi J) a w hs) ((Yi J) a w hs)))<|go 3 ?_;refine Zid (Zvm ?_);refine Zjw<|Yar<|go 1 ?_;exact x_rr (((x.1:Int),(x.2:Int),x2.1.1,x2.1.2),true,0) (Ynd o hx h9 M s a5) ⟨.inr (λb f=>⟨0,_,J,f⟩),.inr (λb f=>⟨92,_,J,f⟩),.inl J,.inl J,.inl J,aA⟩ K6
   .refine go 2 ?_;exact xq_rn () (prI_s o hx (Ybw M h9 s)) ⟨.inr (λb f=>⟨0,_,J,f⟩),.inr (λb f=>⟨1,_,J,f⟩),.inl J,.inl J,.inl J,.inl J,.inl J,aA⟩ K8
   .refine go 2 ?_;exact x_rr m Y ⟨.inr (λb f=>⟨0,_,J,f⟩),.inl J,.inl J,.inl J,aA⟩ K5
 .refine dt (Qa [] J aA (λa w hs=>b64_))<|go 4 ?_;refine Yb8 λa w hs=>⟨J,[(4,.pointer (some ⟨c,0,none⟩)),(5,.pointer (some ⟨d,0,none⟩)),(6,.pointer (some ⟨e,0,none⟩))],[(0,Yo w0 (λ_=>False)),(4,box c 64 #[.int .i64 0,.int .i64 0,.int .i64 0,.int .i64 0]),(5,box d 4 #[.bool false]),(6,box e 26 #[.int .i64 0])],J,⟨⟨_,J,J,λ_ h=>h⟩,⟨_,J,J,λ_ h=>h⟩,⟨_,J,J,λ_ h=>h⟩,⟨_,J,J,λ_ h=>h⟩,aA⟩,hs.weaken ⟨J,J,J,aA⟩ ⟨J,J,J,J,J,aA⟩,?_⟩;exact xe3 W ((0,0,0,0),false,0) results48 J (Ynf o) Za
 .exact xe3 W z results48 J a6 Za
theorem Yf6(va vb:Value)(a b:List Zf)(l m:Nat)(k:Nat)(n:k<4194304)(h:∀g∈a,Gin g)(i:∀g∈b,Gin g)(c:Yc a=true)(d:Yc b=true)(e:a.length<=5)(f:b.length<=5):Xy prog 111 #[.int .i64 (k:Int),.pointer (some ⟨l,0,none⟩),.pointer (some ⟨m,0,none⟩)] [Ka l 38 #[va],Ka m 38 #[vb],Xp 6 Xv qG va a,Xp 6 Xv qG vb b] (.bool (!Ho ((k:Int)+1) 1 1 a b)):=by refine Zg func111 ntmps111 λq p o j=>?_;refine go 11 ⟨O1,?_⟩;refine cl 4 [3,4] (Kp a b ((k:Int)+1) h i c d e f (ds_in O1 O1)) λ_ _=>go 15 ?_;exact Xn j () results111 J aA Za
theorem Yme(a b:List Zf){s t:Nat}(l:∀g∈a,Gin g)(o:∀g∈b,Gin g)(d:Yc a=true)(e:Yc b=true)(D:a.length<=5)(F:b.length<=5):Cal prog 110 #[.int .i64 4194304,.func (.func 111) #[] #[.pointer (some ⟨s,0,none⟩),.pointer (some ⟨t,0,none⟩)]] [Ka s 38 #[va],Ka t 38 #[vb],Xp 6 Xv qG va a,Xp 6 Xv qG vb b] false (G:=Nat) (λr=>NrS a b r) (λr=> .int .i64 (r:Int)) (λr=>[]):=by
 refine Zg func110 ntmps110 λP N M H=>go 14 ?_;refine lp (G:=Nat×Nat) [1] [0,1,2,3,4] (λq=>[(5,.int .i64 (q.1:Int)),(6,.int .i64 (q.2:Int))]) (λq=>[]) (λq=>(q.1<=q.2/\q.2<=4194304)/\(∀k:Nat,k<q.1->Ho ((k:Int)+1) 1 1 a b=true)/\(∀k:Nat,q.2<=k->k<4194304->Ho ((k:Int)+1) 1 1 a b=false)) (λq=>q.2-q.1) (0,4194304) ⟨⟨bJ _,aI _⟩,λk f=>absurd f (bZ k),λk f h=>absurd h (Nat.not_lt.2 f)⟩ K2 aA ?_;rintro⟨i,j⟩ ⟨p,w,x⟩;dsimp only at p w x;dsimp only;refine go 8 ?_;refine Zc J (λy=>?_) (λy=>?_)
 .have I:i<j:=O1;refine go 7 ?_;refine dt (Ys ( .int .i64 ((i+j:Nat):Int)) (Yj5 J J J) (by rw [kJ]))<|dt (Zq3 J J uT3 Zye (by simp only [U];omega))<|dt (Gq 2 (n:=1) J J J J J)<|dt (Zbn J J Zye uT3 ⟨O1,O1⟩)<|go 7 ?_;refine tt (Zyk 4 [] [_] [_,_] (Yf6 va vb a b s t ((i+j)/2) O1 l o d e D F) J J J J K1 call111 (Zk 1 J J J (Zk 2 J J J (Zk 3 J J J (Zk 4 J J J Zr)))) J M.h) λ_ _=>go 3 ?_;refine Nh J (λc=>?_) (λc=>?_)
  .have z:=c;refine go 6 ⟨O1,?_⟩;exact Yu (((i+j)/2)+1,j) ⟨⟨O10,O10⟩,λk f=>nrS_t l o d e (m:=((i+j)/2)) O1 (by simpa using z) k f,x⟩ O10 K2 aA
  .have z:=c;refine go 5 ?_;exact Yu (i,((i+j)/2)) ⟨⟨O10,O10⟩,w,λk f h=>nrS_f l o d e (m:=((i+j)/2)) (by simpa using z) k f h⟩ O10 K2 aA
 .have B:¬i<j:=O1;refine go 12 ?_;exact Xn H i results110 J (Ynq p B w x) Za
theorem Zoz(b c:List Zf)(l:∀g∈b,Gin g)(m:∀g∈c,Gin g)(f:Yc b=true)(h:Yc c=true)(j:b.length<=5)(k:c.length<=5):Cal prog 50 #[va,vb] [Xp 6 Xv qG va b,Xp 6 Xv qG vb c] false (G:=Int×Int) (λg=>NrP b c g) (λg=> .tuple #[.int .i64 g.1,.int .i64 g.2]) (λg=>[]):=by
 refine Zg func50 ntmps50 λF D B d=>?_;refine Zhr (Qp 1 J Zd) (λx n=>?_);subst n;refine Zhr (Qp 2 J Zd) (λy o=>?_);subst o;refine go 2 ?_;refine Yk (Ym 3) λz _=>Yk (Ym 4) λs _=>go 8 ?_;refine cl 5 [1,2] (Zi7 b c 0 l m f h j k O3) λt i=>go 16 ?_;refine Zc J (λa=>?_) (λa=>?_)
 .have p:=a;refine go 10 ?_;exact Ma d (0,Oo b c) results50 J (.inl ⟨p,J⟩) Za
 .have p:=a;refine go 8 ?_;refine Zc J (λe=>?_) (λe=>?_)
  .have q:t.2.length=0:=O1;refine go 9 ?_;exact Ma d (0,9) results50 J (Ynp i p q) Za
  .have q:¬t.2.length=0:=O1;refine go 5 ?_;refine dt (Zur [] [_,_] J aA K2)<|cl 5 [3,4,1,2] (Yme b c l m f h j k) λw r=>go 5 ?_;exact Ma d ((w:Int),0) results50 J (nr_end i p q r) Za
theorem Es{ps:List Zf}{t:Int}(c:1<=ps.length):Xy prog 52 #[v,.int .i64 t] [Xp 6 Xv qG v ps] (.bool (Fx ps t)):=by
 refine Zg func52 ntmps52 λf e d a=>go 9 ?_;refine cl 1 [1] (Et c) λ_ _=>go 2 ?_;refine Xf 9 J (λb=>?_) (λb=>?_)
 .refine go 2 ?_;refine Kf 1 [1] (Zfr c) λ_ _=>go 6 ?_;exact Xn a () results52 (by unfold Fx;first|(simp_all;done)|(simp_all;omega)) aA Za
 .refine go 9 ?_;exact Xn a () results52 (by unfold Fx;first|(simp_all;done)|(simp_all;omega)) aA Za
theorem Zou{ps:List Zf}(h:∀g∈ps,Gin g)(c:Yc ps=true):Xy prog 120 #[v] [Xp 6 Xv qG v ps] (.tuple #[.int .i64 (Ep ps),.int .i64 (Bc ps),.int .i64 0]):=by refine Zg func120 ntmps120 λl k j a=>?_;refine Of (Ir (i:=1) J Zd) (λd=>?_);obtain⟨-,e,f⟩:=Zp c;refine go 11 ?_;refine cl 1 [1] (Lr h) λ_ _=>?_;refine dt (dF (Ye J J) (aL (λb=>Value.bool (!b)) c))<|go 6 ?_;refine Xu (λ_=>False) [(0,0),(1,0),(2,0),(3,0),(4,0),(5,0),(6,0),(7,0),(8,0),(9,0),(10,0),(11,0),(12,3),(13,3)]<|go 2 ⟨O1,?_⟩;refine Xg J J (Xd (Nt 1 J J J Zd Dn J Ly J))<|Xg J J (Xd (Ms 1 G0 J J J Zd iA3 J))<|go 4 ⟨O1,?_⟩;refine Xg J J (Xd (Zq 1 (ps.length-1) J J J J Zd Hs Fk))<|Xg J J (Xd (Nt 1 J J J Zd Dn J Ly J))<|Xg J J (Xd (Ms 1 G0 J J J Zd iA3 J))<|go 6 ?_;exact xe3 a () results120 J aA Za
open Go.RowKit Below
variable {P:Program} {N:Nat} {sc:Nat->Prop} {env env':Qy} {H H':Hp} {Q Q':Exit->Act->World->Prop} {M:Nat->Prop}
theorem Yc6(h:u.oneCell'=true):u.cells=#[u]:=by cases u<;>simp_all [Value.cells,Value.oneCell']
theorem Zil{α:Type}{enc:α->Value}{k q j:Nat}(z b:α)(c:∀x,(enc x).cells.size=k)(xs:List α)(a:j<xs.length)(i:q<k)(l:(enc z).cells.toList=(enc (xs.getD j b)).cells.toList.set q u) :
  cellsOf enc (xs.set j z)=(cellsOf enc xs).set (j*k+q) u:=by
 have e:=Dx c xs j (xs.getD j b) a;have hs:xs.set j (xs.getD j b)=xs:=by rw [aC,aD a,fG];exact List.set_getElem_self ..
 rw [hs]at e;have h:(cellsOf enc xs).length=xs.length*k:=Yv c xs;have g:j*k+k<=xs.length*k:=by rw [<-eJ];exact aN k a
 have d:((cellsOf enc xs).take (j*k)).length=j*k:=by rw [aR,h];omega
 have f:(enc (xs.getD j b)).cells.toList.length=k:=by rw [dG,c]
 rw [Dx c xs j z a,l]
 conv=>rhs;rw [e]
 rw [cS,cS,jV _ _ (by rw [d];omega),d,nB,List.set_append_left _ _ (by rw [f];exact i)]
theorem t_stf (i:Nat) {α:Type} {o:Oper} {x y:Operand} {t ts e:TypeId} {j k q:Nat}  {enc:α->Value} {xs:List α} (z I:α) {w0:World}  (ho:o.op= .store t x y) (hd:o.dst=none)
  (hx:ev env x=some (.pointer (some (eaf v j k q)))) (hy:ev env y=some u) (R:lk H i=some (Pz k e enc v xs)) (B:i≠0) (S:Enc P ts k enc) (m:j<xs.length)
  (D:∀w,(sizeOf t).run P w= .ok 1 w) (W:u.oneCell'=true) (hq:q<k) (hz:(enc z).cells.toList=(enc (xs.getD j I)).cells.toList.set q u)
  (Z:lk H 0=some (Yo w0 M0)) (hw:∀b,w0.heap.size<=b->sc b) :
  T P N sc (λ_=>True) o env H (G:=Unit) (λ_=>True) (λ_=>env) (λ_=>(i,Pz k e enc v (xs.set j z))::H):=λa w hs K Q hK=>by
 have p:w.ownsRow 0 e k v xs.length (cellsOf enc xs):=hs.hold i _ R;rcases p.2 with⟨rfl,hn⟩|⟨g,d,c,rfl,hb,V,n,s,h,f⟩
 .omega
 .have a1:j*k+k<=xs.length*k:=by rw [<-eJ];exact aN k m
  have a0:xs.length*k<=d*k:=aN k n;have r:=run_storeCells_at P g (j*k+q) e [u] 0 c w V (by rw [h,fV];omega) (λu' F=>by rw [bN.1 F];exact W);simp only [eH,fV]at r;have hr:(execOp a.eval o).run P w= .ok .skip (w.setRow g (c.toList.take (j*k+q) ++ [u] ++ c.toList.drop (j*k+q+1)).toArray):=by simp [execOp,ho,hs.ev hx,hs.ev hy,Instr.storeAt,Instr.sureAddr,storeVar,Yc6 W,D,ead,eaf,Pm,r]
  unfold Oper.wp;rw [hr];show K (a.put o.dst _) _;rw [hd];have l:c.toList.length=d*k:=by rw [dG,h]
  refine hK () _ _ aA ((hs.upd R rfl B (q:=Pz k e enc (.slice (some ⟨g,0,none⟩) xs.length d) (xs.set j z)) (Ow (M:=λk=>(Value.slice (some ⟨g,0,none⟩) xs.length d).ownBlock=some k) rfl) ?_ (λk D=> .inl D) Z hw).put_none undef) (Ow aA);refine⟨by rw [Yv S.cells],.inr ⟨g,d,_,O8,hb,setRow_heap w g c _ e _ V,by simpa using n,s,?_,?_⟩⟩
  .simp only [gY,aW,aR,eC,fV,l];omega
  .rw [Zil z I S.cells xs m hq hz,<-f];simp only [aT];have Y:c.toList.take (j*k+q) ++ [u] ++ c.toList.drop (j*k+q+1)=c.toList.set (j*k+q) u:=by rw [gI,aK O1,cS,nV]
   rw [Y,List.take_set]
end Go.Sky
namespace Go.Sky
variable{b u:Int}{k i:Nat}{z:Zf}{qs zs:List Zf}{s:SL×SL×SL}{v:Value}{t:TypeId}{M0:Nat->Prop}
def shG(b:Int)(g:Zf):Zf:=((g.1.1+b,g.1.2.1+b,g.1.2.2),g.2)
def shK(b:Int)(ps:List Zf)(k:Nat):List Zf:=(ps.take k).map (shG b) ++ ps.drop k
theorem shK_0(b:Int)(ps:List Zf):shK b ps 0=ps:=by unfold shK;simp
theorem Px(b:Int)(ps:List Zf)(k:Nat):(shK b ps k).length=ps.length:=by unfold shK;simp;omega
theorem Ymk(b:Int)(ps:List Zf):shK b ps ps.length=ps.map (shG b):=by unfold shK;simp
theorem Zox{ps:List Zf}(a:k<ps.length):(shK b ps k).getD k G0=ps.getD k G0:=by unfold shK;rw [aC,cP O9,fZ,aC];congr 2;simp;omega
abbrev shA (b:Int) (x:Zf):Zf:=((x.1.1+b,x.1.2.1,x.1.2.2),x.2)
abbrev shB (b:Int) (x:Zf):Zf:=((x.1.1,x.1.2.1+b,x.1.2.2),x.2)
theorem Zg7{ps:List Zf}(a:k<ps.length):(ps.set k z).getD k G0=z:=by rw [aC,nF a];rfl
theorem shK_s{ps:List Zf}(a:k<ps.length) :
  ((shK b ps k).set k (shA b ((shK b ps k).getD k G0))).set k (shB b (((shK b ps k).set k (shA b ((shK b ps k).getD k G0))).getD k G0))=shK b ps (k+1):=by
 rw [Zg7 (by rw [Px];exact a),nH,Zox a];unfold shK;have c:((ps.take k).map (shG b)).length=k:=O9;rw [jV _ _ O1,c,iF];have d:ps.drop k=ps.getD k G0::ps.drop (k+1):=by rw [dS a,aC,aD a];rfl
 rw [d,kK];have e:ps.take (k+1)=ps.take k ++ [ps.getD k G0]:=by rw [kX,aD a,aC,aD a];rfl
 rw [e,dZ,cS];rfl
theorem Yml{ps:List Zf}(a:k<ps.length):((shK b ps k).set k (shA b ((shK b ps k).getD k G0))).getD k G0=shA b (ps.getD k G0):=by rw [Zg7 (by rw [Px];exact a),Zox a]
theorem Yn0(b:Int)(ps:List Zf):Ib qG ps=Ib qG (ps.map (shG b)):=by
 unfold Ib;congr 1
 .funext w;exact propext ⟨λ⟨z,a,h⟩=>⟨shG b z,dH.2 ⟨z,a,rfl⟩,h⟩,λ⟨z,a,h⟩=>by obtain⟨y,c,rfl⟩:=dH.1 a;exact⟨y,c,h⟩⟩
 .funext w;exact propext ⟨λh z a=>by obtain⟨y,c,rfl⟩:=dH.1 a;exact h y c,λh z a=>h (shG b z) (dH.2 ⟨z,a,rfl⟩)⟩
theorem Cz{ps:List Zf}(h:qs.map Ns=ps.map Ns):qs.length=ps.length:=by have:=aL List.length h;simpa using this
theorem Zr5{ps:List Zf}(h:qs.map Ns=ps.map Ns)(k:Nat):Ns (qs.getD k G0)=Ns (ps.getD k G0):=by have:=aL (λl=>l[k]?) h;simp only [dW]at this;rw [aC,aC];cases h1:qs[k]?<;>cases h2:ps[k]?<;>rw [h1,h2]at this<;>simp_all
theorem un_sh{ps:List Zf}(h:qs.map Ns=ps.map Ns)(b:Int):(qs.map (shG b)).map Ns=(ps.map (shG b)).map Ns:=by
 induction qs generalizing ps with
 | nil=>cases ps with
  | nil=>rfl
  | cons p ps=>cases h
 | cons q qs f=>cases ps with
  | nil=>cases h
  | cons p ps=>
   rw [bT,bT]at h;injection h with h1 h2;rw [bT,bT,bT,bT,f h2];congr 1;unfold Ns at h1 ⊢;unfold shG;simp only [iX]at h1 ⊢;obtain⟨a,c,d,e⟩:=h1;exact⟨⟨by rw [a],by rw [a],by rw [a]⟩,c,d,e⟩
theorem sh_bd{ps:List Zf}(f:∀g∈ps,Gin g)(c:Yc ps=true)(h:qs.map Ns=ps.map Ns)(d:k<qs.length):0<=(qs.getD k G0).1.1/\(qs.getD k G0).1.1<(qs.getD k G0).1.2.1/\(qs.getD k G0).1.2.1<=3600000:=by
 have a:k<ps.length:=by rw [<-Cz h];exact d
 have e:(qs.getD k G0).1=(ps.getD k G0).1:=aL (λu:Zc0=>u.1) (Zr5 h k);have s:Cx (ps.getD k G0):=Qv (f _ (Ze a)) (Qt ((Zp c).1 _ a));rw [e];exact⟨s.t1,s.t2,s.t3⟩
theorem Yfi{ps:List Zf}(c:∀g∈ps,Gin g)(a:Yc ps=true):0<=Ep ps/\Ep ps<=3600000/\0<=Bc ps/\Bc ps<=3600000:=by have e:=(Zp a).2.1;have s:Cx (ps.getD 0 G0):=Qv (c _ Ze) (Qt ((Zp a).1 _ O1));have t:Cx (ps.getD (ps.length-1) G0):=Qv (c _ Ze) (Qt ((Zp a).1 _ O1));have d:=s.t1;have f:=s.t2;have h:=s.t3;have t1:=t.t1;have t2:=t.t2;have t3:=t.t3;unfold Ep Bc;exact⟨d,O1,O1,t3⟩
theorem Ymi(h:qs.map Ns=([Bm s].map (shG 1000)).map Ns):∃t,qs=[gvL t]:=by have c:=aL List.length h;rw [aP,aP,aP]at c;obtain⟨q,rfl⟩:=nM.1 c;have h:[Ns q]=[Ns (shG 1000 (Bm s))]:=h;injection h with h;obtain⟨a,⟨d,e⟩,⟨f,g⟩,⟨j,l⟩⟩:=q;have h:(a,e,g,l)=((0+1000,1000+1000,1),Em 0 1000 1,Em 0 0 1,Em 0 0 1):=h;simp only [iX]at h;obtain⟨rfl,rfl,rfl,rfl⟩:=h;exact⟨(d,f,j),rfl⟩
theorem Yo7{ps:List Zf}(h:zs.map Ns=(ps.take k).map Ns)(a:k<ps.length) :
  (zs ++ [(((ps.getD k G0).1,(s.1,(ps.getD k G0).2.1.2),(s.2.1,(ps.getD k G0).2.2.1.2),(s.2.2,(ps.getD k G0).2.2.2.2)):Zf)]).map Ns=(ps.take (k+1)).map Ns:=by
 have c:ps.take (k+1)=ps.take k ++ [ps.getD k G0]:=by rw [kX,aD a,aC,aD a];rfl
 rw [c,dZ,dZ,h];rfl
def ShR(ps:List Zf)(y:Int)(zs:List Zf)(e:Int):Prop:=(e=3/\(y < -(Ep ps)\/y>3600000-Bc ps))\/(e=0/\¬y < -(Ep ps)/\¬y>3600000-Bc ps/\zs.map Ns=(ps.map (shG y)).map Ns)
theorem Zsm{e:Int}(h:ShR [Bm s] 1000 qs e):∃t,qs=[gvL t]:=by
 rcases h with⟨-,h|h⟩|⟨-,-,-,h⟩
 .exact absurd h (by show ¬(1000:Int) < -(0:Int);decide)
 .exact absurd h (by show ¬(1000:Int)>3600000-1000;decide)
 .exact Ymi h
open Go.RowKit Below
variable {P:Program} {N:Nat} {sc:Nat->Prop} {env env':Qy} {H H':Hp} {Q Q':Exit->Act->World->Prop} {M:Nat->Prop}
def emp:Pc:=⟨false,λ_=>False,λ_=>True,λ_ _ _ h=>h.elim,λ_ _ _ _=>trivial⟩
def l3(z:Zf)(i:Nat):SL×List Int:=Zo i z.2.1 z.2.2.1 z.2.2.2
abbrev olz (e:TypeId) (p:SL×List Int):Pc:=Pz 1 e Yq (Xx p.1) p.2
def ol3(e:TypeId)(zs:List Zf):Pc:=
 {own:=true
  fp:=λb=>∃k i,k<zs.length/\i<3/\(olz e (l3 (zs.getD k G0) i)).fp b
  holds:=λw=>(∀k i,k<zs.length->i<3->(olz e (l3 (zs.getD k G0) i)).holds w)/\∀k i m j b,k<zs.length->i<3->m<zs.length->j<3->(olz e (l3 (zs.getD k G0) i)).fp b->(olz e (l3 (zs.getD m G0) j)).fp b->k=m/\i=j
  lt:=λw b h ⟨k,i,c,hi,d⟩=>(olz e _).lt w b (h.1 k i c hi) d
  stable:=λw n h a=>⟨λk i c hi=>(olz e _).stable w n (h.1 k i c hi) ⟨a.os,a.tape,a.output,a.size,λb d g=>a.block b d (λf=>g (λl=>f ⟨k,i,c,hi,l⟩))⟩,h.2⟩ }
def opa(e s:TypeId)(v:Value)(zs:List Zf):Pc:=
 {own:=true
  fp:=λb=>v.ownBlock=some b\/(ol3 e zs).fp b
  holds:=λw=>(Pz 6 s Xv v zs).holds w/\(ol3 e zs).holds w/\∀b,v.ownBlock=some b->(ol3 e zs).fp b->False
  lt:=λw b h c=>c.elim (λc=>(Pz 6 s Xv v zs).lt w b h.1 c) (λc=>(ol3 e zs).lt w b h.2.1 c)
  stable:=λw j h a=>⟨(Pz 6 s Xv v zs).stable w j h.1 ⟨a.os,a.tape,a.output,a.size,λb c f=>a.block b c (λd=>f (λg=>d (.inl g)))⟩,(ol3 e zs).stable w j h.2.1 ⟨a.os,a.tape,a.output,a.size,λb c f=>a.block b c (λd=>f (λg=>d (.inr g)))⟩,h.2.2⟩ }
def s_ol0(e:TypeId)(n:Nat):∀a w,Sat N sc env H a w->Sat N sc env ((n,ol3 e [])::H) a w:=λa w hs=>
 hs.add n _ ⟨λk i c=>absurd c (bZ k),λk i m j b c=>absurd c (bZ k)⟩ (λj d _ _ _ b ⟨k,i,c,_⟩=>absurd c (bZ k)) (λb ⟨k,i,c,_⟩=>absurd c (bZ k))
def Sat.drop{a:Act}{w:World}(h:Sat N sc env H a w)(j:Nat):Sat N sc env ((j,emp)::H) a w:=
 h.add j emp aA (λ_ _ _ _ _ _ c=>c.elim) (λ_ c=>c.elim)
theorem Zp0{j x:Nat}{p:Pc}(h:lk ((j,emp)::H) x=some p):(x=j/\p=emp)\/(x≠j/\lk H x=some p):=by
 by_cases e:j=x
 .subst e;rw [Yd]at h;cases h;exact .inl ⟨rfl,rfl⟩
 .rw [Zn e]at h;exact .inr ⟨λq=>e q.symm,h⟩
theorem Zi4(a:k<(zs ++ [z]).length):(k<zs.length/\(zs ++ [z]).getD k G0=zs.getD k G0)\/(k=zs.length/\(zs ++ [z]).getD k G0=z):=by
 rw [aW,fV]at a;rcases bC k zs.length with h|h
 .exact .inl ⟨h,by rw [aC,aC,cM h]⟩
 .obtain rfl:k=zs.length:=O1;exact .inr ⟨rfl,by rw [aC,cP (aI _),iF];rfl⟩
theorem Ymu {e:TypeId}   (i g l n:Nat) (hi:lk H i=some (ol3 e zs)) (I:lk H g=some (olz e (l3 z 0))) (R:lk H l=some (olz e (l3 z 1))) (S:lk H n=some (olz e (l3 z 2)))
  (hd:(decide (i≠g) && decide (i≠l) && decide (i≠n) && decide (g≠l) && decide (g≠n) && decide (l≠n) && decide (i≠0) && decide (g≠0) && decide (l≠0) && decide (n≠0))=true) :
  ∀a w,Sat N sc env H a w->Sat N sc env ((i,ol3 e (zs ++ [z]))::(g,emp)::(l,emp)::(n,emp)::H) a w:=λa w hs=>by
 simp only [aO,cK]at hd;obtain⟨⟨⟨⟨⟨⟨⟨⟨⟨d1,d2⟩,d3⟩,d4⟩,d5⟩,d6⟩,n0⟩,n1⟩,n2⟩,n3⟩:=hd;have Y:∀q,q<3->∃j,j≠i/\j≠0/\(j=g\/j=l\/j=n)/\lk H j=some (olz e (l3 z q)):=λq c=>by
  match q,c with
  | 0,_=>exact⟨g,λe=>d1 e.symm,n1,.inl rfl,I⟩
  | 1,_=>exact⟨l,λe=>d2 e.symm,n2,.inr (.inl rfl),R⟩
  | 2,_=>exact⟨n,λe=>d3 e.symm,n3,.inr (.inr rfl),S⟩
 have a0:∀p q,p<3->q<3->∀b,(olz e (l3 z p)).fp b->(olz e (l3 z q)).fp b->p=q:=λp q G c b d f=>by
  match p,q,G,c with
  | 0,0,_,_=>rfl
  | 1,1,_,_=>rfl
  | 2,2,_,_=>rfl
  | 0,1,_,_=>exact(hs.sep g l _ _ d4 I R rfl b d f).elim
  | 1,0,_,_=>exact(hs.sep l g _ _ (λe=>d4 e.symm) R I rfl b d f).elim
  | 0,2,_,_=>exact(hs.sep g n _ _ d5 I S rfl b d f).elim
  | 2,0,_,_=>exact(hs.sep n g _ _ (λe=>d5 e.symm) S I rfl b d f).elim
  | 1,2,_,_=>exact(hs.sep l n _ _ d6 R S rfl b d f).elim
  | 2,1,_,_=>exact(hs.sep n l _ _ (λe=>d6 e.symm) S R rfl b d f).elim
 have ho:∀q,q<3->∀b,(olz e (l3 z q)).fp b->(ol3 e zs).fp b->False:=λq c b d f=>by obtain⟨j,ji,-,-,o⟩:=Y q c;exact hs.sep i j _ _ (λe=>ji e.symm) hi o rfl b f d
 have hA:=hs.hold i _ hi;have W:∀b,(ol3 e (zs ++ [z])).fp b->(ol3 e zs).fp b\/∃q,q<3/\(olz e (l3 z q)).fp b:=λb ⟨k,q,V,c,D⟩=>by
  rcases Zi4 V with⟨B,y⟩|⟨B,y⟩
  .rw [y]at D;exact .inl ⟨k,q,B,c,D⟩
  .rw [y]at D;exact .inr ⟨q,c,D⟩
 refine(((hs.drop n).drop l).drop g).add i _ ⟨λk q V c=>?_,λk p m q b V G hm c d f=>?_⟩ (λx xt hx o _ b D r=>?_) (λb D=>?_)
 .rcases Zi4 V with⟨B,y⟩|⟨B,y⟩
  .rw [y];exact hA.1 k q B c
  .rw [y];obtain⟨j,-,-,-,o⟩:=Y q c;exact hs.hold j _ o
 .rcases Zi4 V with⟨B,y⟩|⟨B,y⟩<;>rcases Zi4 hm with⟨m1,m2⟩|⟨m1,m2⟩<;>rw [y]at d<;>rw [m2]at f
  .exact hA.2 k p m q b B G m1 c d f
  .exact(ho q c b f ⟨k,p,B,G,d⟩).elim
  .exact(ho p G b d ⟨m,q,m1,c,f⟩).elim
  .exact⟨O1,a0 p q G c b d f⟩
 .rcases Zp0 o with⟨-,rfl⟩|⟨x0,o⟩
  .exact r
  rcases Zp0 o with⟨-,rfl⟩|⟨x1,o⟩
  .exact r
  rcases Zp0 o with⟨-,rfl⟩|⟨x2,o⟩
  .exact r
  rcases W b D with h|⟨q,c,h⟩
  .exact hs.sep i x _ _ (λe=>hx e.symm) hi o rfl b h r
  .obtain⟨j,-,-,Z,F⟩:=Y q c;exact hs.sep j x _ _ (λe=>by subst e;rcases Z with h|h|h<;>omega) F o rfl b h r
 .rcases W b D with h|⟨q,c,h⟩
  .exact hs.scope i _ n0 hi b h
  .obtain⟨j,-,a1,-,F⟩:=Y q c;exact hs.scope j _ a1 F b h
theorem s_opa{e s:TypeId}(i j:Nat)(hi:lk H i=some (Pz 6 s Xv v zs))(d:lk H j=some (ol3 e zs))(l:(decide (i≠j) && decide (i≠0) && decide (j≠0))=true) :
  ∀a w,Sat N sc env H a w->Sat N sc env ((i,opa e s v zs)::(j,emp)::H) a w:=λa w hs=>by
 simp only [aO,cK]at l;obtain⟨⟨o,q⟩,r⟩:=l;refine(hs.drop j).add i _ ⟨hs.hold i _ hi,hs.hold j _ d,λb m n=>hs.sep i j _ _ o hi d rfl b m n⟩ (λx B p f _ b g c=>?_) (λb g=>?_)
 .rcases Zp0 f with⟨-,rfl⟩|⟨y,f⟩
  .exact c
  rcases g with h|h
  .exact hs.sep i x _ _ (λe=>p e.symm) hi f rfl b h c
  .exact hs.sep j x _ _ (λe=>y e.symm) d f rfl b h c
 .rcases g with h|h
  .exact hs.scope i _ q hi b h
  .exact hs.scope j _ r d b h
theorem Zy6{e s:TypeId}(i j:Nat)(hi:lk H i=some (opa e s v zs))(l:(decide (i≠j) && decide (i≠0) && decide (j≠0))=true) :
  ∀a w,Sat N sc env H a w->Sat N sc env ((j,ol3 e zs)::(i,Pz 6 s Xv v zs)::H) a w:=λa w hs=>by
 simp only [aO,cK]at l;obtain⟨⟨q,n⟩,r⟩:=l;have g:=hs.hold i _ hi;have o:Sat N sc env ((i,Pz 6 s Xv v zs)::H) a w:=hs.add i _ g.1 (λx p m f _ b d c=>hs.sep i x _ _ (λe=>m e.symm) hi f rfl b (.inl d) c) (λb d=>hs.scope i _ n hi b (.inl d));exact o.add j (ol3 e zs) g.2.1 (λx p m f _ b d c=>by
  by_cases h:i=x
  .subst h;rw [Yd]at f;cases f;exact g.2.2 b c d
  .rw [Zn h]at f;exact hs.sep i x _ _ h hi f rfl b (.inr d) c) (λb d=>hs.scope i _ n hi b (.inr d))
def rd_ol3{e:TypeId}(a:Enc P t 1 Yq)(c:k<zs.length)(hi:i<3):Rd (ol3 e zs) 1 Yq (Xx (l3 (zs.getD k G0) i).1) (l3 (zs.getD k G0) i).2:=λw h=>Gt a.cells (h.1 k i c hi)
theorem Yf9{e:TypeId}(i:Nat)(hi:lk H i=some (ol3 e zs))(n:Nat.beq i 0=false)(D:Enc P t 1 Yq):∀a w,Sat N sc env H a w->Sat N sc env ((i,Ib qG zs)::H) a w:=λa w hs=>by
 have r:i≠0:=λe=>by subst e;simp at n
 have B:=hs.hold i _ hi;have p:∀b,(Ib qG zs).fp b->(ol3 e zs).fp b:=λb c=>by
  obtain⟨z,j,y,f,-,c⟩:=c;obtain⟨k,d,rfl⟩:=cY.1 j;have h:zs.getD k G0=zs[k]:=by rw [aC,aD d];rfl
  simp only [bB,dL,iD]at f;rcases f with rfl|rfl|rfl
  .exact⟨k,0,d,O3,by rw [h];exact c⟩
  .exact⟨k,1,d,O3,by rw [h];exact c⟩
  .exact⟨k,2,d,O3,by rw [h];exact c⟩
 have o:∀z∈zs,∀y∈[z.2.1,z.2.2.1,z.2.2.2],(qC y).holds w:=λz j y f=>by
  obtain⟨k,d,rfl⟩:=cY.1 j;have h:zs.getD k G0=zs[k]:=by rw [aC,aD d];rfl
  have g:∀q,q<3->(qC (l3 zs[k] q)).holds w:=λq G=>by have l:=B.1 k q d G;rw [h]at l;exact⟨Gt D.cells l,λb c=>(l.lt b c.2).2⟩
  simp only [bB,dL,iD]at f;rcases f with rfl|rfl|rfl
  .exact g 0 O3
  .exact g 1 O3
  .exact g 2 O3
 refine hs.add i _ (λz j y f=>o z j y f) (λx R I F Kh b c m=>?_) (λb c=>hs.scope i _ r hi b (p b c));exact hs.sep i x _ _ (λe=>I e.symm) hi F rfl b (p b c) m
def stL(z:Zf)(i j:Nat)(u:Int):Zf:=(z.1,if i=0 then(z.2.1.1,z.2.1.2.set j u)else z.2.1,if i=1 then(z.2.2.1.1,z.2.2.1.2.set j u)else z.2.2.1,if i=2 then(z.2.2.2.1,z.2.2.2.2.set j u)else z.2.2.2)
theorem l3_st{j:Nat}(q:Nat)(hi:i<3)(a:q<3):l3 (stL z i j u) q=if q=i then((l3 z i).1,(l3 z i).2.set j u)else l3 z q:=by
 match i,q,hi,a with
 | 0,0,_,_=>rfl
 | 0,1,_,_=>rfl
 | 0,2,_,_=>rfl
 | 1,0,_,_=>rfl
 | 1,1,_,_=>rfl
 | 1,2,_,_=>rfl
 | 2,0,_,_=>rfl
 | 2,1,_,_=>rfl
 | 2,2,_,_=>rfl
theorem Yf0{m:Nat}(a:k<zs.length):(zs.set k z).getD m G0=if m=k then z else zs.getD m G0:=by
 rw [aC,aC,pE];by_cases h:k=m
 .subst h;rw [aK rfl,aK a,aK rfl];rfl
 .rw [aH h,aH (λe=>h e.symm)]
theorem t_sto3 {o:Oper} {x y:Operand} {e:TypeId} {ii j:Nat}   {w0:World}  (ho:o.op= .store t x y) (hd:o.dst=none)
  (hx:ev env x=some (.pointer (some (ead (Xx (l3 (zs.getD k G0) i).1) j 1)))) (hy:ev env y=some (.int .i64 u)) (hH:lk H ii=some (ol3 e zs)) (a2:ii≠0) (R:k<zs.length) (hi:i<3) (hj:j<(l3 (zs.getD k G0) i).2.length) (he:Enc P t 1 Yq)
  (h0:lk H 0=some (Yo w0 M0)) (hw:∀b,w0.heap.size<=b->sc b) :
  T P N sc (λ_=>True) o env H (G:=Unit) (λ_=>True) (λ_=>env) (λ_=>(ii,ol3 e (zs.set k (stL (zs.getD k G0) i j u)))::H):=λa w hs K Q hK=>by
 have I:=hs.hold ii _ hH;have h:=I.1 k i R hi;have h:w.ownsRow 0 e 1 (Xx (l3 (zs.getD k G0) i).1) (l3 (zs.getD k G0) i).2.length (cellsOf Yq (l3 (zs.getD k G0) i).2):=h;rcases h.2 with⟨hv,hn⟩|⟨g,S,c,hv,W,hg,a3,a1,Y,F⟩
 .omega
 .have a0:=run_storeCells_at P g j e [Value.int .i64 u] 0 c w hg (by rw [Y,fV];omega) (λu' a4=>by rw [bN.1 a4];rfl);simp only [eH,fV]at a0;rw [hv]at hx;have hr:(execOp a.eval o).run P w= .ok .skip (w.setRow g (c.toList.take j ++ [Value.int .i64 u] ++ c.toList.drop (j+1)).toArray):=by have hc:(Value.int .i64 u).cells=#[Value.int .i64 u]:=rfl;simp [execOp,ho,hs.ev hx,hs.ev hy,Instr.storeAt,Instr.sureAddr,storeVar,hc,he.size,ead,Pm,a0]
  unfold Oper.wp;rw [hr];show K (a.put o.dst _) _;rw [hd];have r:(olz e (l3 (zs.getD k G0) i)).fp g:=by show(Xx (l3 (zs.getD k G0) i).1).ownBlock=some g;rw [hv];rfl
  have Z:c.toList.length=S*1:=by rw [dG,Y]
  have B:∀m q b,m<zs.length->q<3->((olz e (l3 ((zs.set k (stL (zs.getD k G0) i j u)).getD m G0) q)).fp b↔(olz e (l3 (zs.getD m G0) q)).fp b):=λm q b d f=>by
   rw [Yf0 R];split
   .rename_i l;subst l;rw [l3_st q hi f];split
    .rename_i V;subst V;exact nI
    .exact nI
   .exact nI
  refine hK () _ _ aA ((hs.upd hH rfl a2 (q:=ol3 e (zs.set k (stL (zs.getD k G0) i j u))) (Ow ⟨k,i,R,hi,r⟩) ⟨λm q d f=>?_,λm p n q b d hp hn f b1 b2=>?_⟩ (λb W=> .inl ?_) h0 hw).put_none undef) (Ow aA)
  .rw [aT]at d;rw [Yf0 R];split
   .rename_i l;subst l;rw [l3_st q hi f];split
    .rename_i V;subst V;have D:(w.setRow g (c.toList.take j ++ [Value.int .i64 u] ++ c.toList.drop (j+1)).toArray).ownsRow 0 e 1 (Xx (l3 (zs.getD m G0) q).1) ((l3 (zs.getD m G0) q).2.set j u).length (cellsOf Yq ((l3 (zs.getD m G0) q).2.set j u)):=by
      refine⟨by rw [Yv (k:=1) (λ_=>rfl)],.inr ⟨g,S,_,by rw [hv];simp,W,setRow_heap w g c _ e _ hg,by simpa using a3,a1,?_,?_⟩⟩
      .simp only [gY,aW,aR,eC,fV,Z];omega
      .have:=Zil (enc:=Yq) (k:=1) (q:=0) (u:=Value.int .i64 u) u 0 (λ_=>rfl) (l3 (zs.getD m G0) q).2 hj O3 rfl;rw [this,<-F];simp only [aT];have l:c.toList.take j ++ [Value.int .i64 u] ++ c.toList.drop (j+1)=c.toList.set j (Value.int .i64 u):=by rw [gI,aK O1,cS,nV]
       rw [l,List.take_set];simp only [jF,eH]
     exact D
    .rename_i V;refine(olz e (l3 (zs.getD m G0) q)).stable w _ (I.1 m q d f) (Ow λhf=>?_);exact V (I.2 m q m i g d f R hi hf r).2
   .rename_i l;refine(olz e (l3 (zs.getD m G0) q)).stable w _ (I.1 m q d f) (Ow λhf=>?_);exact l (I.2 m q k i g d f R hi hf r).1
  .rw [aT]at d hn;exact I.2 m p n q b d hp hn f ((B m p b d hp).1 b1) ((B n q b hn f).1 b2)
  .obtain⟨m,q,d,f,W⟩:=W;rw [aT]at d;exact⟨m,q,d,f,(B m q b d f).1 W⟩
end Go.Sky

