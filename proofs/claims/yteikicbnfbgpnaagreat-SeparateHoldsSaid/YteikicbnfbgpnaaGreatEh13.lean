/- Rules, arithmetic and contracts: part 14. No conditions but those that each theorem names. -/
import Derived.Test.YteikicbnfbgpnaaGreatEh12
set_option linter.all false
set_option maxHeartbeats 4000000
namespace Go.Sky
variable{m i:Nat}{x y z c l1 l2:List Int}{d d0:SL×List Int}{a ov:Int}{b v u:Value}{f:Nat->Value}{zs:List (SL×List Int)}{s:SL}{M M0:Nat->Prop}
def joG(g h:Zf):Bool:=joinB g.1.1 g.1.2.1 g.1.2.2 g.2.1.2 g.2.2.1.2 g.2.2.2.2 h.1.1 h.1.2.1 h.1.2.2 h.2.1.2 h.2.2.1.2 h.2.2.2.2
def joAll(ps:List Zf):Bool:=(List.range ps.length).all λi=>decide (i=0) || joG (ps.getD (i-1) G0) (ps.getD i G0)
def topV(ps:List Zf):Int×Int×Int:=
 if 10000<Yl3 1 ps\/10000<Yl3 2 ps then(0,0,3)else if joAll ps then((Yl3 1 ps:Int),(Yl3 2 ps:Int),0)else(0,0,10)
theorem Zzp{ps:List Zf}(l:∀g∈ps,Gin g)(k:Yc ps=true):∀g∈ps,Cx g:=λg j=>by obtain⟨i,hi,e⟩:=cY.1 j;have h:=Qt ((Zp k).1 i hi);rw [aC,aD hi,fG,e]at h;exact Qv (l g j) h
def g8(g:Zf):Bool:=decide (g.2.1.2.length<=8) && decide (g.2.2.1.2.length<=8) && decide (g.2.2.2.2.length<=8)
def Zbh(ps:List Zf)(m:Nat):Bool:=(List.range ps.length).all (λi=>decide (m<i) || g8 (ps.getD i G0)) && decide (ps.length<=m)
theorem g8_t{g:Zf}(e:g.2.1.2.length<=8)(h:g.2.2.1.2.length<=8)(j:g.2.2.2.2.length<=8):g8 g=true:=by unfold g8;rw [aJ e,aJ h,aJ j];rfl
theorem g8_f{g:Zf}(h:¬(g.2.1.2.length<=8/\g.2.2.1.2.length<=8/\g.2.2.2.2.length<=8)):g8 g=false:=by
 cases hb:g8 g with
 | false=>rfl
 | true=>
  unfold g8 at hb;simp only [aO,cK]at hb;exact absurd ⟨hb.1.1,hb.1.2,hb.2⟩ h
theorem Zw4 (i:Nat){ps:List Zf}(hi:i<ps.length)(e:i<=m)(h:g8 (ps.getD i G0)=false):Zbh ps m=false:=by
 cases hb:Zbh ps m with
 | false=>rfl
 | true=>
  unfold Zbh at hb;rw [aO]at hb;have:=cI.1 hb.1 i (fE.2 hi);rw [h,aE O1]at this;cases this
theorem Yja (n:Nat){ps:List Zf}(e:n=ps.length\/m<n)(h:∀k,k<n->g8 (ps.getD k G0)=true):Zbh ps m=decide (ps.length<=m):=by
 unfold Zbh;rw [cI.2 λi hi=>by
  have hi:=fE.1 hi;rcases bC m i with q|q
  .rw [aJ q];rfl
  .rw [h i O1,Bool.or_true]]
 rfl
theorem Ypl:∀n,n<=5->∀i,i<n->(Oa n i:Int)*((n:Int)-(i:Int))/((i:Int)+1)=(Oa n (i+1):Int):=by intro n g i hi;have e:∀n,n<6->∀i,i<n->(Oa n i:Int)*((n:Int)-(i:Int))/((i:Int)+1)=(Oa n (i+1):Int):=O6;exact e n O1 i hi
theorem getD3{α:Type}{a b c d:α}(h:i<3):[a,b,c].getD i d=Zo i a b c:=by
 match i,h with
 | 0,_=>rfl
 | 1,_=>rfl
 | 2,_=>rfl
theorem Yf1{α β:Type}(i:Nat)(a b c:α×β):(Zo i a b c).2=Zo i a.2 b.2 c.2:=by unfold Zo;split<;>rfl
theorem Zvl{e g j:SL}(h:i<3):([(e,x),(g,y),(j,z)].getD i d).2=Zo i x y z:=by rw [getD3 h,Yf1]
theorem Zv1{b:Int} : 0<(a-b).sign↔b<a:=by rw [sgp];omega
theorem Yft{b:Int} : (a-b).sign<0↔a<b:=by rw [sign_neg_iff];omega
def Yo5(t m:Int):m<t\/(¬m<t/\t < -m)\/(¬m<t/\¬t < -m):=O1
def axc(c:List Int):Bool:=!(decide (1<=c.length) && decide (c.length<=6) && !(decide (1<c.length) && decide (c.getD (c.length-1) 0=0)))
theorem axc_f{b:Bool}(h:b=axc c)(e:b=false):1<=c.length/\c.length<=6/\¬(1<c.length/\c.getD (c.length-1) 0=0):=by subst h;unfold axc at e;simp only [Bool.not_eq_false',aO,gJ,jU,cK,iA]at e;exact⟨e.1.1,e.1.2,λh=>by rcases e.2 with q|q;exact q h.1;exact q h.2⟩
theorem axc_t{b:Bool}(h:b=axc c)(e:b=true):axB c ov=false:=by
 cases ha:axB c ov with
 | false=>rfl
 | true=>
  exfalso;unfold axB at ha;rw [aO]at ha;have:axc c=false:=by unfold axc;rw [ha.1];rfl
  rw [h,this]at e;cases e
theorem Yb0(h:¬1<=c.length):true=axc c:=by unfold axc;rw [aE h];rfl
theorem Ybz(h:¬c.length<=6):true=axc c:=by unfold axc;rw [aE h,mE];rfl
theorem Yby(e:1<=c.length)(g:c.length<=6)(h:¬1<c.length):false=axc c:=by unfold axc;rw [aJ e,aJ g,aE h];rfl
theorem Ybx(e:1<=c.length)(g:c.length<=6)(h:1<c.length):decide (c.getD (c.length-1) 0=0)=axc c:=by unfold axc;rw [aJ e,aJ g,aJ h];simp
theorem Yp2(h:bl ov.natAbs<=64):bl (62914560*ov).natAbs<=100:=by have e:=Ya 62914560 ov;have g:bl (62914560:Int).natAbs<=30:=O3;omega
variable {P:Program} {N:Nat} {sc:Nat->Prop} {env env':Qy} {H H':Hp}
def Dy(c:List Int)(g:Int):List Int:=if c.length=0 then [0]else c.map (· / g)
def mdO(ov g:Int):Int:=if ov/g<=4294967296 then ov/g else 0
def mdL(ov g:Int)(c:List Int):List Int:=if ov/g<=4294967296 then Dy c g else []
def Gj(ov:Int)(x y z:List Int):Int:=Nq ov (Nr 3 x y z)
structure Mdh (ov:Int) (x y z:List Int):Prop where
 o:0<ov
 b:bl ov.natAbs<=1000
 s:∀i,Sz 1000 (Zo i x y z)
 l:∀i,(Zo i x y z).length<=6
 c:∀i k,(cf (Zo i x y z) k).natAbs<=ov.natAbs*2146435072
def Zdn:∀(l:List Int) (g:Int),0<=g->0<=Nq g l
 | [],_,h=>h
 | x::l,g,h=>Zdn l _ (oS _)
theorem Zqd:∀(l:List Int) (g:Int),Nq g l∣g/\∀x∈l,Nq g l∣x
 | [],g=>⟨kV _,λx h=>nomatch h⟩
 | x::l,g=>by
  obtain⟨j,k⟩:=Zqd l ((Int.gcd g x:Nat):Int);exact⟨fC j (jD ..),λy e=>by
   rcases bB.1 e with rfl|e
   .exact fC j (iB ..)
   .exact k y e⟩
theorem Zws(hi:i<3)(h:a∈Zo i x y z):a∈Nr 3 x y z:=by
 match i,hi with
 | 0,_=>exact cQ.2 (.inl (cQ.2 (.inl h)))
 | 1,_=>exact cQ.2 (.inl (cQ.2 (.inr h)))
 | 2,_=>exact cQ.2 (.inr h)
theorem Mdh.g(h:Mdh ov x y z):0<Gj ov x y z/\Gj ov x y z∣ov/\∀i,i<3->∀a∈Zo i x y z,Gj ov x y z∣a:=by
 obtain⟨e,g⟩:=Zqd (Nr 3 x y z) ov;have j:=Zdn (Nr 3 x y z) ov (eQ h.o);have l:=h.o;refine⟨?_,e,λi hi a k=>g a (Zws hi k)⟩;rcases Int.lt_or_eq_of_le j with q|q
 .exact q
 .exact absurd (oZ.1 (q▸e)) O1
theorem Mdh.fc(h:Mdh ov x y z)(i k:Nat):bl (Nq (Nq ov (Nr i x y z)) ((Zo i x y z).take k)).natAbs<=1000:=by
 have l:∀i,∀a∈Zo i x y z,bl a.natAbs<=1000:=λi a e=>by obtain⟨j,r⟩:=kZ.1 e;have:=h.s i j;unfold cf at this;rw [aC,r]at this;exact this
 have p:∀a∈Nr i x y z,bl a.natAbs<=1000:=λa e=>by
  unfold Nr at e;have g:=l 0;have n:=l 1;have o:=l 2;simp only [Zo]at g n o;split at e
  .cases e
  .exact g a e
  .rcases cQ.1 e with q|q
   .exact g a q
   .exact n a q
  .rcases cQ.1 e with q|q
   .rcases cQ.1 q with q|q
    .exact g a q
    .exact n a q
   .exact o a q
 exact Zgq (λa e=>l i a (fD e)) (Zgq p h.b)
theorem Mdh.fit(h:Mdh ov x y z)(hs:ov/Gj ov x y z<=4294967296)(hi:i<3)(k:Nat):((Zo i x y z).getD k 0/Gj ov x y z).natAbs<=9223372036854775807:=by
 obtain⟨n,⟨s,e⟩,o⟩:=h.g;have w:Gj ov x y z∣(Zo i x y z).getD k 0:=by
  rcases bC k (Zo i x y z).length with q|q
  .exact o i hi _ (Ze (d:=0) q)
  .rw [aC,bF q];exact iU _
 obtain⟨t,l⟩:=w;have j:((Zo i x y z).getD k 0).natAbs<=ov.natAbs*2146435072:=h.c i k;generalize Gj ov x y z=g at *;rw [l,fW _ O1];rw [e,fW _ O1]at hs;rw [l,e,cL,cL,cZ]at j;have r:=Nat.le_of_mul_le_mul_left j O1;have B:=h.o;have D:0<s:=by
  rw [e]at B;by_cases q:0<s
  .exact q
  .have:=iI (eQ n) (show s<=0 by omega);omega
 have p:s.natAbs*2146435072<=4294967296*2146435072:=aN _ O1;exact aB r (aB p O3)
def mdO_t{g:Int}(h:ov/g<=4294967296):mdO ov g=ov/g:=aK h
def Zn0{g:Int}(h:ov/g<=4294967296):mdL ov g c=Dy c g:=aK h
def mdO_f{g:Int}(h:¬ov/g<=4294967296):mdO ov g=0:=aH h
def Yh5{g:Int}(h:¬ov/g<=4294967296):mdL ov g c=[]:=aH h
def dvL_0{g:Int}(h:c.length=0):Dy c g=[0]:=aK h
def dvL_n{g:Int}(h:c.length≠0):Dy c g=c.map (· / g):=aH h
theorem Yh7{g:Int}{k:Nat}(h:k<c.length):(c.take k).map (· / g) ++ [c.getD k 0/g]=(c.take (k+1)).map (· / g):=by rw [Po 0 _ h,dZ];rfl
abbrev C6 (a b c:Value) (f:Nat->Value):Array Value:=#[a,b,c,f 0,f 1,f 2]
def upd(f:Nat->Value)(i:Nat)(v:Value)(j:Nat):Value:=if j=i then v else f j
theorem c6_get{a c:Value}(h:i<3):(C6 a b c f)[3+i]? = some (f i):=by
 match i,h with
 | 0,_=>rfl
 | 1,_=>rfl
 | 2,_=>rfl
theorem Yku{a c:Value}(h:i<3):(C6 a b c (upd f i v))[3+i]? = some v:=by rw [c6_get h];unfold upd;rw [aK rfl]
theorem c6_lay{a c:Value}(h:i<3):Gi (C6 a b c (upd f i u)) (3+i) [v]=C6 a b c (upd f i v):=by
 match i,h with
 | 0,_=>rfl
 | 1,_=>rfl
 | 2,_=>rfl
theorem Zxs{a c:Value}{g:Nat->Value}(h:∀j,j<3->f j=g j):C6 a b c f=C6 a b c g:=by unfold C6;rw [h 0 O3,h 1 O3,h 2 O3]
theorem p3_sel{b:Nat}(h:i<3):Zo i (Value.pointer (some ⟨b,3,none⟩)) (Value.pointer (some ⟨b,4,none⟩)) (Value.pointer (some ⟨b,5,none⟩))= .pointer (some ⟨b,3+i,none⟩):=by
 match i,h with
 | 0,_=>rfl
 | 1,_=>rfl
 | 2,_=>rfl
theorem c3_get{a c:Value}(h:i<3):(#[a,b,c]:Array Value)[0+i*1]? = some (Zo i a b c):=by
 match i,h with
 | 0,_=>rfl
 | 1,_=>rfl
 | 2,_=>rfl
def fz(zs:List (SL×List Int))(j:Nat):Value:=Xx (zs.getD j ((none,0,0),[])).1
theorem fz_upd(h:zs.length=i)(j:Nat):fz zs j=upd (fz zs) i (.slice none 0 0) j:=by
 unfold upd;split
 .rename_i e;subst e;subst h;unfold fz;rw [aC,bF (aI _)];rfl
 .rfl
theorem Yak(h:zs.length=i)(j:Nat):upd (fz zs) i (Xx s) j=fz (zs ++ [(s,c)]) j:=by
 subst h;unfold upd fz;split
 .rename_i e;subst e;simp
 .rename_i e;rw [aC,aC];rcases bC j zs.length with q|q
  .rw [cM q]
  .rw [bF q,bF O9]
def Ztq{t:Nat}{f:Nat->List Int}(g:zs.length=i)(h:∀t,t<i->(zs.getD t d0).2=f t)(e:c=f i)(j:t<i+1):((zs ++ [(s,c)]).getD t d0).2=f t:=e▸Zu2 g h j
theorem mds_of{g:Int}(l:zs.length=3)(h:∀t,t<3->(zs.getD t d0).2=Dy (Zo t x y z) g):∃n o p:SL,zs=[(n,Dy x g),(o,Dy y g),(p,Dy z g)]:=by
 match zs,l with
 | [q,r,w],_=>
  have e:=h 0 O3;have j:=h 1 O3;have k:=h 2 O3;simp [Zo]at e j k;exact⟨q.1,r.1,w.1,by rw [<-e,<-j,<-k]⟩
theorem Yfu{b:Int} : 0<(a-b).sign↔¬a<=b:=by rw [sgp];omega
theorem t_st6 (i:Nat)(n:Nat)  {o:Oper} {x y:Operand} {t k:TypeId} {b:Nat} {g h j:Value}   {w0:World}  (I:o.op= .store t x y) (B:o.dst=none)
  (R:ev env x=some (.pointer (some ⟨b,3+n,none⟩))) (S:ev env y=some v) (q:lk H i=some (box b k (C6 g h j (upd f n u)))) (e:i≠0) (D:∀w,(sizeOf t).run P w= .ok 1 w) (F:n<3) (p:One N sc env H v)
  (l:lk H 0=some (Yo w0 M0)) (Q:∀b,w0.heap.size<=b->sc b) (r:M b) :
  T P N sc M o env H (G:=Unit) (λ_=>True) (λ_=>env) (λ_=>(i,box b k (C6 g h j (upd f n v)))::H):=by
 have:=t_stp1 (P:=P) (N:=N) (sc:=sc) (M:=M) I B R S q e D (by show Nat.ble (3+n+1) 6=true;simp;omega) p l Q r;rw [c6_lay F]at this;exact this
theorem bl_dlq{b:Int}{n:Nat}(h:bl a.natAbs<=n)(g:0<b)(e:0<=a):bl (a/b).natAbs<=n:=(Qi n _).2 (bD (by have j:=mV b e;have k:=lI e (eQ g);omega) ((Qi n _).1 h))
theorem Yi1{n:Nat}(h:∀z∈zs,∀b,(Xx z.1).ownBlock=some b->n<=b)(e:∀b,(Xx s).ownBlock=some b->n<=b):∀z∈zs ++ [(s,c)],∀b,(Xx z.1).ownBlock=some b->n<=b:=λz g=>by
 rcases cQ.1 g with q|q
 .exact h z q
 .rw [bN.1 q];exact e
theorem fr3{n:Nat}{g j k:SL}{l o q l3:List Int}(h:∀z∈[(g,l),(j,o),(k,q)],∀b,(Xx z.1).ownBlock=some b->n<=b):∀p∈[Yw 1 Yq (Xx g) l1,Yw 1 Yq (Xx j) l2,Yw 1 Yq (Xx k) l3],∀b,p.fp b->n<=b:=λp r b e=>by
 simp only [bB,dL,iD]at r;rcases r with rfl|rfl|rfl
 .exact h (g,l) O8 b e.2
 .exact h (j,o) O8 b e.2
 .exact h (k,q) O8 b e.2
theorem fr0{n:Nat}{l3:List Int} : ∀p∈[Yw 1 Yq (Xx (none,0,0)) l1,Yw 1 Yq (Xx (none,0,0)) l2,Yw 1 Yq (Xx (none,0,0)) l3],∀b,p.fp b->n<=b:=λp e b g=>by simp only [bB,dL,iD]at e;rcases e with rfl|rfl|rfl<;>cases g.2
end Go.Sky
namespace Go.Sky
open Go.RowKit Below
variable{o:Oper}{x:Operand}{k:IntKind}{cs:Array Value}
variable {P:Program} {N:Nat} {sc:Nat->Prop} {env env':Qy} {H H':Hp} {Q Q':Exit->Act->World->Prop} {M:Nat->Prop}
theorem f_new{w0:World}{p:Pc}(i:Nat)(hi:lk H i=some p)(f:p.own=true)(d:lk H 0=some (Yo w0 (λ_=>False)))(c:i≠0:=by decide):∀a w,Sat N sc env H a w->∀b,p.fp b->w0.heap.size<=b:=λa w hs b e=>by
  rcases bC b w0.heap.size with h|h
  . exact(hs.sep i 0 p _ c hi d f b e ⟨h,λh=>h⟩).elim
  . exact h
theorem Yeg {fn:Func} {pre:List Pc} {G:Type} {φ:G->Prop} {Yj:G->Value} {c:G->List Pc} {w0:World} {e:Exit} (B:e= .ret\/e= .normal)
    (g:G) {v:Value} (n:∀p∈c g,∀b,p.fp b->w0.heap.size<=b) (j:∀a w,Sat N sc env H a w->(results fn a.tmps).run P w= .ok v w) (R:Yj g=v) (F:φ g) (t:lk H 0=some (Yo w0 (λ_=>False))) (d:Give H true (c g)) :
    X N sc e (Zby P fn w0 pre false φ Yj c) env H:=λa w hs=>by
  have l : a.defers = [] /\ ∃ v, (results fn a.tmps).run P w = .ok v w /\ (∃ g, Ending.returned v = .returned (Yj g) /\ φ g /\ Below w0.heap.size w0 w /\
        ∀p∈c g,p.holds w/\p.own=false/\∀b,p.fp b->w0.heap.size<=b\/(false=true/\∃q∈pre,q.fp b)):=by
    refine⟨hs.defers,v,j a w hs,g,by rw [R],F,Iw (hs.hold 0 _ t),λp s=>?_⟩;obtain⟨r,h|⟨u,y⟩⟩:=d.mem p s
    case inr=>exact⟨u w,r,λb m=>absurd m (y b)⟩
    obtain⟨i,S,I,hi,f,D,z⟩:=h;exact⟨f w (hs.hold i S hi),r,λb m=> .inl (n p s b m)⟩
  rcases B with rfl|rfl
  . exact l
  . exact l
section
variable {f:FuncId} {xs:List Operand} {ats:Array TypeId} {d:Nat} {vs:List Value} {pre:List Pc} {G:Type} {φ:G->Prop} {Yj:G->Value} {its:G->List Pc} {w0:World} {M0:Nat->Prop} {ty:TypeId} {pos:String} {af:Array Edge} {g:Option (Nat×Bool)}
theorem Yl6  {n:Nat} (Z:Cal P f vs.toArray pre false φ Yj its)
    (ho:o.op= .call { callee:= .value (.func f),args:=xs.toArray,argTypes:=ats }) (hd:o.dst=some d) (Y:Nat.blt d N=true)
    (r:EvL env xs vs) (t:∀args w,(callFunc f args).run P w= .ok (.enter f args) w) (v:PreOk H false pre)
    (R:lk H 0=some (Yo w0 M0)) (hw:∀b,w0.heap.size<=b->sc b) :
    T P N sc M o env H (λg=>φ g/\∀p∈its g,∀b,p.fp b->w0.heap.size<=b) (λg=>(d,Yj g)::env) (λg=>adds n (its g) H):=λa w hs K Q W=>by
  have B:w0.heap.size<=w.heap.size:=(hs.hold 0 _ R).size;have hr:(execOp a.eval o).run P w= .ok (.enter f vs.toArray) w:=by have hm:=r.map hs;simp [execOp,ho,resolve,invoke,Act.eval,Deferred.ofValue,hm,t]
  unfold Oper.wp;rw [hr];refine(Z w (λp l=>by obtain⟨i,it,_,hi,u,_,_⟩:=v.mem p l;exact u w (hs.hold i it hi))).mono ?_
  rintro e I ⟨g,rfl,hg,m,q⟩;show K (a.put o.dst (Yj g)) I;rw [hd];have z:Sat N sc env H a I:=hs.chg0 (Chg.of_below m);have c:∀p∈its g,∀b,p.fp b->w.heap.size<=b:=λp l b s=>by
    rcases(q p l).2.2 b s with h|⟨h,_⟩
    . exact h
    . cases h
  refine W g _ _ ⟨hg,λp l b s=>aB B (c p l b s)⟩ (Sat.put (z.adds (w1:=w) (its g) n ?_) d _ Y) (Chg.of_below m);intro p l;obtain⟨S,V,h3⟩:=q p l;refine⟨S,V,λb s=>hw b (aB B (c p l b s)),λj F hj D b s y=>?_⟩;have:=F.lt w b (hs.hold j F hj) y;have:=c p l b s;omega
def Ycg(n:Nat)(a:List Nat)(e:Cal P f vs.toArray pre false φ Yj its){c:G->Hp}[hx:EvI env xs vs][hf:CalF P f][hp:PreL P H false a pre][h0:Som (lk2 H 0) (Yo w0 M0)][hN:TB (ltb d N)][hw:Hw w0 sc][ha:∀g,AddI n (its g) H (c g)] :
    T P N sc M ⟨some d,.call { callee:= .value (.func f),args:=xs.toArray,argTypes:=ats },ty,pos,af,g⟩ env H (λg=>φ g/\∀p∈its g,∀b,p.fp b->w0.heap.size<=b) (λg=>(d,Yj g)::env) c:=
  (Yl6 (n:=n) e rfl rfl (Oy hN.h) hx.h hf.h hp.h h0.l hw.h).conv λg=>(ha g).h
end
theorem Yah{w0 W:World}(h:Hw w0 sc)(a:w0.heap.size<=W.heap.size):Hw W sc:=⟨λb c=>h.h b (aB a c)⟩
theorem Ya6  {y:Operand} {ats:Array TypeId}  {m n:Int} (b:o.op= .call { callee:= .builtin .min,args:=#[x,y],argTypes:=ats })
    (c:ev env x=some (.int k m)) (e:ev env y=some (.int k n)):Mt P N sc o env H (.int k (min m n)):=λa w hs=>by
  simp [execOp,b,resolve,hs.ev c,hs.ev e,invoke,builtin,Builtin.min_,Builtin.min2];by_cases h:n<m
  . rw [aK h];omega
  . rw [aH h];omega
theorem d_lbw   {t p:TypeId} {i b k:Nat}  (h:o.op= .load t x) (m:ev env x=some (.pointer (some ⟨b,0,none⟩))) (a:lk H i=some (box b p cs)) (j:∀w,(isAgg t).run P w= .ok true w) (c:∀w,(sizeOf t).run P w= .ok k w)
    (e:cs.size=k):Mt P N sc o env H (.agg cs):=by
  have:=Ya7 cs.toList (P:=P) (N:=N) (sc:=sc) h m a j c (by simpa using e) (λn u l=>by rw [cD];simpa using l);simpa using this
end Go.Sky
namespace Go.Sky
open Go.Proofs.Tryz
open Go.Proofs
set_option synthInstance.maxHeartbeats 0
set_option synthInstance.maxSize 100000
set_option maxRecDepth 20000
set_option linter.unusedSimpArgs false
variable{p:Zf->Bool}{i id:Nat}{d:Zf}{ops:List Oper}{y x c:Code}{zs:List Zf}
theorem Zc4(fr N e:Int){vx vy vz:Value}(x y z:List Int)(s:Mdh e x y z):Cal prog 230 #[.int .i64 fr,.int .i64 N,.agg #[vx,vy,vz],wv e] [Yw 2 wv vx x,Yw 2 wv vy y,Yw 2 wv vz z] false (G:=SL×SL×SL) (λg=>True) (λg=> .tuple #[.agg #[.int .i64 fr,.int .i64 N,.int .i64 (mdO e (Gj e x y z)),Xx g.1,Xx g.2.1,Xx g.2.2],.bool (decide (e/(Gj e x y z)<=4294967296))]) (λg=>[Yw 1 Yq (Xx g.1) (mdL e (Gj e x y z) x),Yw 1 Yq (Xx g.2.1) (mdL e (Gj e x y z) y),Yw 1 Yq (Xx g.2.2) (mdL e (Gj e x y z) z)]):=by
 refine Zg func230 ntmps230 λw0 sc hw b0=>?_;have ho:=s.o;have Y:=s.b;obtain⟨V,a7,a8⟩:=s.g;have W:bl (Gj e x y z).natAbs<=1000:=s.fc 3 0;have a9:0<=e/(Gj e x y z):=lI (eQ ho) (eQ V);refine go 2 ?_;refine Yk (Ym 4) λbx _=>Yk (Ym 5) λa2 _=>Yk (Zw 6) λa3 _=>go 6 ?_;refine Yk (Zw 7) λF _=>go 11 ?_;refine lp (G:=Nat) [0,1,6,7,8,10,24] [0,1,2,3,4,5,6] (λi=>[(25,.int .i64 (i:Int))]) (λi=>[(7,box F 80 (wc (Nq e (Nr i x y z))))]) (λi=>i<=3) (λi=>3-i) 0 O2 K1 K1 ?_;rintro i hi;have a0:=s.fc i;have a1:=s.l i;refine go 6 ?_;refine Zc J (λP=>?_) (λP=>?_)
 .refine go 5 ?_;refine Zh (Zg9 i 1 2 3 50 J J J J J J)<|go 1 ?_;refine dt (Zob i J J J underlying210 sizeOf40 isAgg40 J)<|go 11 ?_;refine lp (G:=Nat) [0,1,6,7,8,10,24,25,28,29] [0,1,2,3,4,5,6,50] (λk=>[(30,.int .i64 (k:Int))]) (λk=>[(7,box F 80 (wc (Nq (Nq e (Nr i x y z)) ((Zo i x y z).take k))))]) (λk=>k<=(Zo i x y z).length) (λk=>(Zo i x y z).length-k) 0 O2 K1 K1 ?_;rintro k hk;refine go 6 ?_;refine Zc J (λQ=>?_) (λQ=>?_)
  .refine go 8 ⟨O4,O4,?_⟩;refine Yk (Zw 8) λa4 _=>go 6 ?_;refine cl 8 [] (Zov (Nq (Nq e (Nr i x y z)) ((Zo i x y z).take k)) ((Zo i x y z).getD k 0) (aB (a0 k) O3) (aB (s.s i k) O3)) λ_ _=>?_;refine go 8 ⟨O1,?_⟩;exact Yu (k+1) O2 O2 K1 ⟨by rw [Zaq O1];rfl,aA⟩
  .obtain rfl:k=(Zo i x y z).length:=O1;rw [bO];refine go 10 ⟨O1,?_⟩;exact Yu (i+1) O2 O2 K1 ⟨by rw [Dw x y z O1,Hk];rfl,aA⟩
 .obtain rfl:i=3:=O1;refine go 9 ?_;refine dt (Qa [(0,_),(1,_)] J K4 (λa w hs=>b35_01 ((Yi J) a w hs) ((Yi J) a w hs)))<|Yk (Zw 9) λm _=>go 7 ?_;refine cl 9 [] (Zg6 e (Gj e x y z) (aB Y O3) (aB W O3) O1) λ_ _=>Yk (Zw 10) λa5 _=>go 5 ?_;refine Xu (λ_=>False) [(0,0),(1,1),(2,1),(3,0)]<|go 1 ?_;refine Xe (Zj 10 [] (Zs 4294967296 ⟨O3,O3⟩)) λ_ _=>Xe (Zj 10 [] (Ze2 (e/(Gj e x y z)) 4294967296 (aB (bl_dlq Y V (eQ ho)) O3) O3)) λ_ _=>go 3 ?_;refine Zc J (λo=>?_) (λo=>?_)
  .have l:¬e/(Gj e x y z)<=4294967296:=Yfu.1 o;refine go 9 ?_;exact Yeg (.inl J) ((none,0,0),(none,0,0),(none,0,0)) fr0 (λa w hs=>Ycz hs results230 (Fp 6 J J isAgg35 Fk J) J) (by rw [mdO_f l,aE l]) aA J (Mr (Yh5 l) (Mr (Yh5 l) (Mr (Yh5 l) Za)))
  .have l:e/(Gj e x y z)<=4294967296:=fT.1 λh=>o (Yfu.2 h);refine go 5 ?_;refine cl 10 [] (Zr0 (e/(Gj e x y z)) O1) λ_ _=>go 13 ?_;refine dt (Qa [(0,_),(1,_),(2,_)] J K6 (λa w hs=>Yk3 ((Yi J) a w hs) ((Yi J) a w hs) ((Yi J) a w hs)))<|go 4 ?_;refine Zh (On 9 (q:=box m 35 (C6 (.int .i64 fr) (.int .i64 N) (.int .i64 (e/(Gj e x y z))) (fz []))) (aL (box m 35) (show _=(C6 (.int .i64 fr) (.int .i64 N) (.int .i64 (e/(Gj e x y z))) (fz []))from J)) J J)<|Zh (Xi qC 71)<|lp (G:=Nat×List (SL×List Int)) [6,8,10,15,59] [0,7,1,2,3,4,5,6,10] (λq=>[(60,.int .i64 (q.1:Int))]) (λq=>[(9,box m 35 (C6 (.int .i64 fr) (.int .i64 N) (.int .i64 (e/(Gj e x y z))) (fz q.2))),(71,Ib qC q.2)]) (λq=>(q.1<=3)/\(q.2.length=q.1)/\(∀t,t<q.1->(q.2.getD t Z0).2=Dy (Zo t x y z) (Gj e x y z))/\(∀z∈q.2,∀b,(Xx z.1).ownBlock=some b->w0.heap.size<=b)) (λq=>3-q.1) (0,[]) ⟨O2,rfl,λt Z=>absurd Z (bZ t),λz hz=>nomatch hz⟩ K1 K2 ?_;rintro⟨i,zs⟩ ⟨hi,n,B,u⟩;dsimp only at hi n B u;dsimp only;have a1:=s.l i;refine go 6 ?_;refine Zc J (λR=>?_) (λR=>?_)
   .refine go 7 ?_;refine dt (Ys ( .pointer (some ⟨m,3+i,none⟩)) (Zob i J J J underlying331 sizeOf330 isAgg330 J) (p3_sel O1))<|go 6 ?_;refine Zh (Zg9 i 1 2 3 52 J J J J J J)<|Zh (Pt 60 1 3 Yq)<|go 2 ?_;refine dt (Gk i J J J underlying210 sizeOf40 J)<|dt (Yd0 4 J J J isAgg40 (c3_get O1))<|go 5 ?_;refine lp (G:=Nat×Value) [6,8,10,15,18,59,60,66,67] [0,71,7,1,2,3,4,5,6,10,52] (λq=>[(68,.int .i64 (q.1:Int))]) (λq=>[(9,box m 35 (C6 (.int .i64 fr) (.int .i64 N) (.int .i64 (e/(Gj e x y z))) (upd (fz zs) i q.2))),(60,Pz 1 3 Yq q.2 (((Zo i x y z).take q.1).map (· / (Gj e x y z))))]) (λq=>q.1<=(Zo i x y z).length) (λq=>(Zo i x y z).length-q.1) (0,_) O2 K1 ⟨by rw [Zxs (λj _=>fz_upd n j)];rfl,by rw [fB];rfl,aA⟩ ?_;rintro⟨k,vr⟩ hk;dsimp only at hk;dsimp only;refine go 6 ?_;refine Zc J (λS=>?_) (λS=>?_)
    .refine go 8 ⟨O4,O4,?_⟩;refine Yk (Zw 11) λa6 _=>go 7 ?_;refine cl 11 [] (Zg6 ((Zo i x y z).getD k 0) (Gj e x y z) (aB (s.s i k) O3) (aB W O3) O1) λ_ _=>cl 11 [] (Zr0 ((Zo i x y z).getD k 0/(Gj e x y z)) (s.fit l O1 k)) λ_ _=>go 11 ?_;refine dt (Yd0 9 J J J isAgg33 (Yku O1))<|go 1 ?_;refine tt (Qs [(0,_)] 12 (enc:=Yq) ([(Zo i x y z).getD k 0/(Gj e x y z)]:List Int) J J K2 Pf ti3 J J J J J pZ.cells J J hw.h) (λv _=>?_);refine tt (My 60 12 8 J J J J J J O3 J (Zy pZ) Pf ti3 J pZ J J J O9 O3 J hw.h) λb1 _=>go 1 ?_;refine tt (t_st6 9 i J J J J J O3 Zd5 O1 (Ob 60 J (Zy pZ)) J hw.h aA) (λ_ _=>?_);refine go 7 ⟨O1,?_⟩;exact Yu (k+1,_) O2 O2 K1 ⟨J,by rw [<-Yh7 O1];rfl,aA⟩
    .obtain rfl:k=(Zo i x y z).length:=O1;rw [bO];refine go 9 ?_;refine dt (Yd0 9 J J J isAgg33 (Yku O1))<|go 4 ?_;refine Zc J (λr=>?_) (λr=>?_)
     .have H:(Zo i x y z).length=0:=by simpa using r
      refine go 2 ?_;refine tt (Qs [(0,_)] 13 (enc:=Yq) ([0]:List Int) J J K2 Pf ti3 J J J J J pZ.cells J J hw.h) λb2 _=>go 1 ?_;refine tt (t_st6 9 i J J J J J O3 Zd5 O1 (Ob 13 J (Zy pZ)) J hw.h aA) (λ_ _=>?_);refine go 7 ⟨O1,?_⟩;refine Yee (f_new 13 J J J) (λI=>?_);refine Zv (Qj 13 J J pZ)<|Zrv (Qp 13 J Zl) (λD M=>?_);subst M;exact Zv (On 13 (q:=Yw 1 Yq (Xx D) (Dy (Zo i x y z) (Gj e x y z))) (aL (Yw 1 Yq (Xx D)) (dvL_0 H).symm) J J)<|Zv (Yh (q:=qC) (z:=(D,Dy (Zo i x y z) (Gj e x y z))) 71 13 71 J J J J J)<|Yu (i+1,zs ++ [(D,Dy (Zo i x y z) (Gj e x y z))]) ⟨O2,by rw [aW,n];rfl,λt Z=>Ztq (f:=λt=>Dy (Zo t x y z) (Gj e x y z)) n B rfl Z,Yi1 u I⟩ O2 K1 ⟨by rw [Zxs (λj _=>Yak (c:=Dy (Zo i x y z) (Gj e x y z)) n j)];rfl,rfl,aA⟩
     .have H:(Zo i x y z).length≠0:=by simpa using r
      refine go 7 ⟨O1,?_⟩;refine Yee (f_new 60 J J J) (λI=>?_);refine Zv (Qj 60 J J pZ)<|Zrv (Qp 60 J Zl) (λD M=>?_);subst M;exact Zv (On 60 (q:=Yw 1 Yq (Xx D) (Dy (Zo i x y z) (Gj e x y z))) (aL (Yw 1 Yq (Xx D)) (dvL_n H).symm) J J)<|Zv (Yh (q:=qC) (z:=(D,Dy (Zo i x y z) (Gj e x y z))) 71 60 71 J J J J J)<|Yu (i+1,zs ++ [(D,Dy (Zo i x y z) (Gj e x y z))]) ⟨O2,by rw [aW,n];rfl,λt Z=>Ztq (f:=λt=>Dy (Zo t x y z) (Gj e x y z)) n B rfl Z,Yi1 u I⟩ O2 K1 ⟨by rw [Zxs (λj _=>Yak (c:=Dy (Zo i x y z) (Gj e x y z)) n j)];rfl,rfl,aA⟩
   .obtain rfl:i=3:=O1;refine go 6 ?_;obtain⟨s1,s2,s3,rfl⟩:=mds_of n B;refine Zh (Zef (q:=qC) 71 81 (s1,Dy x (Gj e x y z)) J J O8 J)<|Zh (On 81 (q:=Yw 1 Yq (Xx s1) (mdL e (Gj e x y z) x)) (aL (Yw 1 Yq (Xx s1)) (Zn0 l).symm) J J)<|Zh (Zef (q:=qC) 71 82 (s2,Dy y (Gj e x y z)) J J O8 J)<|Zh (On 82 (q:=Yw 1 Yq (Xx s2) (mdL e (Gj e x y z) y)) (aL (Yw 1 Yq (Xx s2)) (Zn0 l).symm) J J)<|Zh (Zef (q:=qC) 71 83 (s3,Dy z (Gj e x y z)) J J O8 J)<|Zh (On 83 (q:=Yw 1 Yq (Xx s3) (mdL e (Gj e x y z) z)) (aL (Yw 1 Yq (Xx s3)) (Zn0 l).symm) J J)<|Zh (On 9 (q:=box m 35 #[.int .i64 fr,.int .i64 N,.int .i64 (e/(Gj e x y z)),Xx s1,Xx s2,Xx s3]) J J J)<|go 7 ?_;exact Yeg (.inl J) (s1,s2,s3) (fr3 u) (λa w hs=>Ycz hs results230 (Fp 6 J J isAgg35 Fk J) J) (by rw [mdO_t l,aJ l]) aA J (Hz 81 J J J (Hz 82 J J J (Hz 83 J J J Za)))
abbrev Zc0:=(Int×Int×Int)×List Int×List Int×List Int
def Ns(g:Zf):Zc0:=(g.1,g.2.1.2,g.2.2.1.2,g.2.2.2.2)
abbrev cA (fr:Int) (g:Zf):Int:=max fr g.1.1
abbrev cB (a:Int) (g:Zf):Int:=min a g.1.2.1
abbrev cX (fr a:Int) (g:Zf) (c:List Int):List Int:=Ot c (cA fr g-g.1.1) (cB a g-cA fr g) (g.1.2.1-g.1.1)
abbrev cO (g:Zf):Int:=g.1.2.2*(g.1.2.1-g.1.1)^5
def cG(fr a:Int)(g:Zf):Int:=Gj (cO g) (cX fr a g g.2.1.2) (cX fr a g g.2.2.1.2) (cX fr a g g.2.2.2.2)
def Ny(fr a:Int)(g:Zf):Bool:=decide (cA fr g<cB a g)
def Cq(fr a:Int)(g:Zf):Bool:=decide (cO g/cG fr a g<=4294967296)
def Zgl(fr a:Int)(g:Zf):Zc0:=((cA fr g,cB a g,mdO (cO g) (cG fr a g)),mdL (cO g) (cG fr a g) (cX fr a g g.2.1.2),mdL (cO g) (cG fr a g) (cX fr a g g.2.2.1.2),mdL (cO g) (cG fr a g) (cX fr a g g.2.2.2.2))
def MdG(fr a:Int)(g:Zf):Prop:=Mdh (cO g) (cX fr a g g.2.1.2) (cX fr a g g.2.2.1.2) (cX fr a g g.2.2.2.2)
theorem fl_get{ps:List Zf}(hi:i<ps.length)(b:p (ps.getD i d)=true):(ps.filter p)[((ps.take i).filter p).length]? = some (ps.getD i d):=by
 have h:=fU i ps;have a:ps.drop i=ps.getD i d::ps.drop (i+1):=by rw [aC,aD hi,fG];exact dS hi
 conv=>lhs;arg 1;rw [<-h,a]
 rw [gC,eP b];simp
theorem fl_t{ps:List Zf}(hi:i<ps.length)(a:p (ps.getD i d)=true):((ps.take (i+1)).filter p).length=((ps.take i).filter p).length+1:=by rw [Po d _ hi,gC,eP a,aW];rfl
theorem fl_f{ps:List Zf}(hi:i<ps.length)(a:p (ps.getD i d)=false):((ps.take (i+1)).filter p).length=((ps.take i).filter p).length:=by rw [Po d _ hi,gC,gG (by rw [a];exact dJ),aW];rfl
def Znr{d:Int}(h:1<=d/\d<=3600000):bl (d^5).natAbs<=132:=Zog (Zcy O1) 5 (aI _)
theorem Yka{W:Nat}{H:Hp}{j k l:SL}{f g l3:List Int}(h:∀p∈[Yw 1 Yq (Xx j) f,Yw 1 Yq (Xx k) g,Yw 1 Yq (Xx l) l3],∀b,p.fp b->W<=b)(i:Nat)(n:lk H i=some (Yw 1 Yq (Xx j) f))(o:lk H (i+1)=some (Yw 1 Yq (Xx k) g))(q:lk H (i+2)=some (Yw 1 Yq (Xx l) l3)) :
  ∀p∈[Yw 1 Yq (Xx j) f,Yw 1 Yq (Xx k) g,Yw 1 Yq (Xx l) l3],p.own=false/\(∀b,p.fp b->W<=b)/\∃i m,lk H i=some m/\∀w,m.holds w->p.holds w:=λp e=>by
 have a:=h p e;simp only [bB,dL,iD]at e;rcases e with rfl|rfl|rfl
 .exact⟨rfl,a,_,_,n,λ_ h=>h⟩
 .exact⟨rfl,a,_,_,o,λ_ h=>h⟩
 .exact⟨rfl,a,_,_,q,λ_ h=>h⟩
theorem cut_b{fr b:Int}{g:Zf}(a:Cx g)(h:Ny fr b g=true):(cA fr g-g.1.1).natAbs<=3600000/\(cB b g-cA fr g).natAbs<=3600000/\Oc (cA fr g-g.1.1)/\Oc (cB b g-cA fr g):=by have k:=bH h;have e:=a.t1;have f:=a.t2;have j:=a.t3;unfold cA cB at *;exact⟨O1,O1,⟨O1,O1⟩,⟨O1,O1⟩⟩
theorem Ycm(v:Value)(ps:List Zf)(Q R S:Nat)(fr a:Int)(I:∀g∈ps,Cx g)(hM:∀g∈ps,Ny fr a g=true->MdG fr a g):Yec prog 229 [.pointer (some ⟨Q,0,none⟩),.pointer (some ⟨R,0,none⟩),.pointer (some ⟨S,0,none⟩)] [Ka Q 38 #[v],Ka R 3 #[.int .i64 fr],Ka S 3 #[.int .i64 a],Xp 6 Xv qG v ps] (α:=Zf) (G:=SL×SL×SL) (ps.filter (Ny fr a)) (λc g=>[.agg #[.int .i64 (cA fr c),.int .i64 (cB a c),.int .i64 (mdO (cO c) (cG fr a c)),Xx g.1,Xx g.2.1,Xx g.2.2],.bool (Cq fr a c)]) (λc g=>[Yw 1 Yq (Xx g.1) (mdL (cO c) (cG fr a c) (cX fr a c c.2.1.2)),Yw 1 Yq (Xx g.2.1) (mdL (cO c) (cG fr a c) (cX fr a c c.2.2.1.2)),Yw 1 Yq (Xx g.2.2) (mdL (cO c) (cG fr a c) (cX fr a c c.2.2.2.2))]):=by
 refine Zrg func229 J ntmps229 J K4 ?_;intro l M JI Jx w0 sc hw w t k F hY;simp only [Qq,Yt];have N:=Hw.mk hw;refine Of (Ir (i:=4) J Zd) λa3=>go 8 ?_;refine lp (G:=Nat×World) [0,2,3,12,13] [1,2,3,4] (λq=>[(14,.int .i64 (q.1:Int))]) (λq=>[(0,Yo q.2 (λ_=>False))]) (λq=>(q.1<=ps.length)/\(JI ((ps.take q.1).filter (Ny fr a)).length q.2)/\(w0.heap.size<=q.2.heap.size)) (λq=>ps.length-q.1) (0,w0) ⟨O2,F,aI _⟩ K1 K1 ?_;rintro⟨i,W⟩ ⟨hi,r,D⟩;dsimp only at hi r D;dsimp only;have d2:=Yah N D;refine go 6 ?_;refine Zc J (λn=>?_) (λn=>?_)
 .refine go 5 ?_;have f:=I _ (Ze (d:=G0) (show i<ps.length by omega));have c9:=f.t1;have d0:=f.t2;have d1:=f.t3;have c2:=f.o1;have H:=f.o2;refine Zh (Pp (ps.getD i G0) ((ps.getD i G0).2.1) 4 51 J J Ze O8)<|Zh (Pp (ps.getD i G0) ((ps.getD i G0).2.2.1) 4 52 J J Ze O8)<|Zh (Pp (ps.getD i G0) ((ps.getD i G0).2.2.2) 4 53 J J Ze O8)<|go 2 ⟨O4,?_⟩;refine dt (Xw 4 G0 J J J Zd pG O4)<|Yk (Zw 5) λbx _=>go 4 ?_;refine Xu (λ_=>False) [(0,0),(1,0),(2,0),(3,0),(4,0),(5,0),(6,0),(7,0),(8,0),(9,3)]<|go 3 ?_;refine Xg J J (Xd (Zd3 J J J))<|go 3 ?_;refine Xg J J (Xd (Ya6 J J J))<|go 12 ?_;refine Zc J (λo=>?_) (λo=>?_)
  .have j:Ny fr a (ps.getD i G0)=false:=aE (by unfold cA cB;omega);refine go 8 ⟨O1,?_⟩;exact Yu (i+1,W) ⟨O2,by rw [fl_f O1 j];exact r,D⟩ O2 K1 K1
  .have j:Ny fr a (ps.getD i G0)=true:=aJ (by unfold cA cB;omega);have h:=hM _ (Ze (d:=G0) (show i<ps.length by omega)) j;obtain⟨z,B,c7,c8⟩:=cut_b f j;refine go 12 ⟨O1,?_⟩;refine jn (G:=SL×SL×SL×Nat) [0,2,3,12,13,14] [0,1,2,3,4,51,52,53,5] (λq=>[(10,.pointer (some ⟨q.2.2.2,0,none⟩)),(11,.bool (Cq fr a (ps.getD i G0)))]) (λq=>[(90,Yw 1 Yq (Xx q.1) (mdL (cO (ps.getD i G0)) (cG fr a (ps.getD i G0)) (cX fr a (ps.getD i G0) (ps.getD i G0).2.1.2))),(91,Yw 1 Yq (Xx q.2.1) (mdL (cO (ps.getD i G0)) (cG fr a (ps.getD i G0)) (cX fr a (ps.getD i G0) (ps.getD i G0).2.2.1.2))),(92,Yw 1 Yq (Xx q.2.2.1) (mdL (cO (ps.getD i G0)) (cG fr a (ps.getD i G0)) (cX fr a (ps.getD i G0) (ps.getD i G0).2.2.2.2))),(93,box q.2.2.2 35 #[.int .i64 (cA fr (ps.getD i G0)),.int .i64 (cB a (ps.getD i G0)),.int .i64 (mdO (cO (ps.getD i G0)) (cG fr a (ps.getD i G0))),Xx q.1,Xx q.2.1,Xx q.2.2.1])]) (λq=>(∀p∈[Yw 1 Yq (Xx q.1) (mdL (cO (ps.getD i G0)) (cG fr a (ps.getD i G0)) (cX fr a (ps.getD i G0) (ps.getD i G0).2.1.2)),Yw 1 Yq (Xx q.2.1) (mdL (cO (ps.getD i G0)) (cG fr a (ps.getD i G0)) (cX fr a (ps.getD i G0) (ps.getD i G0).2.2.1.2)),Yw 1 Yq (Xx q.2.2.1) (mdL (cO (ps.getD i G0)) (cG fr a (ps.getD i G0)) (cX fr a (ps.getD i G0) (ps.getD i G0).2.2.2.2))],∀b,p.fp b->W.heap.size<=b)) ?_ ?_
   .refine Lb [5] [24]<|Zt 11 [(0,0),(1,0),(2,0),(3,0),(4,0),(5,0),(6,0),(7,0),(8,0),(9,0),(10,0),(12,0),(13,0),(15,0)]<|go 15 ⟨O1,O1,?_⟩;refine Na 10 11 22 ?_ ?_
    .refine Lh (Zj 6 [51,52,53] (Zh4 ((cA fr (ps.getD i G0))-(ps.getD i G0).1.1) ((cB a (ps.getD i G0))-(cA fr (ps.getD i G0))) ((ps.getD i G0).1.2.1-(ps.getD i G0).1.1) f z B ⟨O1,O1⟩)) λ⟨s,d3,d4⟩ _=>?_;refine Na 9 14 22 ?_ ?_
     .refine Lh (Zj 8 [] (Zs (ps.getD i G0).1.2.2)) λ_ _=>?_;refine Na 8 16 22 ?_ ?_
      .refine Lh (Zj 8 [] (Fd ((ps.getD i G0).1.2.1-(ps.getD i G0).1.1) 5 (aB (Zcy O1) O3) O3 O3)) λ_ _=>?_;refine Na 7 17 22 ?_ ?_
       .refine Lh (Zj 8 [] (Bd (ps.getD i G0).1.2.2 (((ps.getD i G0).1.2.1-(ps.getD i G0).1.1)^5) (aB (Ha ⟨O1,O1⟩) O3) (aB (Znr ⟨O1,O1⟩) O3))) λ_ _=>?_;refine Na 6 18 22 ?_ ?_
        .refine Lh (Ycg 90 [6,7,8] (Zc4 (cA fr (ps.getD i G0)) (cB a (ps.getD i G0)) (cO (ps.getD i G0)) (cX fr a (ps.getD i G0) (ps.getD i G0).2.1.2) (cX fr a (ps.getD i G0) (ps.getD i G0).2.2.1.2) (cX fr a (ps.getD i G0) (ps.getD i G0).2.2.2.2) h)) λ⟨d5,d6,d7⟩ ⟨_,e⟩=>?_;refine Zt 0 [(19,0),(20,0),(21,0),(22,1),(23,1),(24,3)]<|go 3 ?_;refine Xe (Lq 93) λV ho=>go 3 ?_;exact Yl<|Nb (_,_,_,_) e K2 K4
        .refine Lh (Lq 93) λY H=>?_;refine Zt 0 [(18,1),(19,0),(20,0),(21,0),(23,1),(24,3)]<|Xe (Ycg 90 [6,7,8] (Zc4 (cA fr (ps.getD i G0)) (cB a (ps.getD i G0)) (cO (ps.getD i G0)) (cX fr a (ps.getD i G0) (ps.getD i G0).2.1.2) (cX fr a (ps.getD i G0) (ps.getD i G0).2.2.1.2) (cX fr a (ps.getD i G0) (ps.getD i G0).2.2.2.2) h)) λ⟨d8,d9,e0⟩ ⟨_,e⟩=>go 6 ?_;exact Yl<|Nb (_,_,_,_) e K2 K4
       .refine Lh (Lq 93) λZ c3=>?_;refine Zt 0 [(17,1),(18,1),(19,0),(20,0),(21,0),(23,1),(24,3)]<|Xe (Zj 8 [] (Bd (ps.getD i G0).1.2.2 (((ps.getD i G0).1.2.1-(ps.getD i G0).1.1)^5) (aB (Ha ⟨O1,O1⟩) O3) (aB (Znr ⟨O1,O1⟩) O3))) λ_ _=>Xe (Ycg 90 [6,7,8] (Zc4 (cA fr (ps.getD i G0)) (cB a (ps.getD i G0)) (cO (ps.getD i G0)) (cX fr a (ps.getD i G0) (ps.getD i G0).2.1.2) (cX fr a (ps.getD i G0) (ps.getD i G0).2.2.1.2) (cX fr a (ps.getD i G0) (ps.getD i G0).2.2.2.2) h)) λ⟨a4,a5,a6⟩ ⟨_,e⟩=>go 6 ?_;exact Yl<|Nb (_,_,_,_) e K2 K4
      .refine Lh (Lq 93) λa0 c4=>?_;refine Zt 0 [(16,1),(17,1),(18,1),(19,0),(20,0),(21,0),(23,1),(24,3)]<|Xe (Zj 8 [] (Fd ((ps.getD i G0).1.2.1-(ps.getD i G0).1.1) 5 (aB (Zcy O1) O3) O3 O3)) λ_ _=>Xe (Zj 8 [] (Bd (ps.getD i G0).1.2.2 (((ps.getD i G0).1.2.1-(ps.getD i G0).1.1)^5) (aB (Ha ⟨O1,O1⟩) O3) (aB (Znr ⟨O1,O1⟩) O3))) λ_ _=>Xe (Ycg 90 [6,7,8] (Zc4 (cA fr (ps.getD i G0)) (cB a (ps.getD i G0)) (cO (ps.getD i G0)) (cX fr a (ps.getD i G0) (ps.getD i G0).2.1.2) (cX fr a (ps.getD i G0) (ps.getD i G0).2.2.1.2) (cX fr a (ps.getD i G0) (ps.getD i G0).2.2.2.2) h)) λ⟨a7,a8,a9⟩ ⟨_,e⟩=>go 6 ?_;exact Yl<|Nb (_,_,_,_) e K2 K4
     .refine Lh (Lq 93) λa1 c5=>?_;refine Zt 0 [(14,1),(16,1),(17,1),(18,1),(19,0),(20,0),(21,0),(23,1),(24,3)]<|Xe (Zj 8 [] (Zs (ps.getD i G0).1.2.2)) λ_ _=>Xe (Zj 8 [] (Fd ((ps.getD i G0).1.2.1-(ps.getD i G0).1.1) 5 (aB (Zcy O1) O3) O3 O3)) λ_ _=>Xe (Zj 8 [] (Bd (ps.getD i G0).1.2.2 (((ps.getD i G0).1.2.1-(ps.getD i G0).1.1)^5) (aB (Ha ⟨O1,O1⟩) O3) (aB (Znr ⟨O1,O1⟩) O3))) λ_ _=>Xe (Ycg 90 [6,7,8] (Zc4 (cA fr (ps.getD i G0)) (cB a (ps.getD i G0)) (cO (ps.getD i G0)) (cX fr a (ps.getD i G0) (ps.getD i G0).2.1.2) (cX fr a (ps.getD i G0) (ps.getD i G0).2.2.1.2) (cX fr a (ps.getD i G0) (ps.getD i G0).2.2.2.2) h)) λ⟨b0,b4,b5⟩ ⟨_,e⟩=>go 6 ?_;exact Yl<|Nb (_,_,_,_) e K2 K4
    .refine Lh (Lq 93) λa2 c6=>?_;refine Zt 0 [(11,1),(14,1),(16,1),(17,1),(18,1),(19,0),(20,0),(21,0),(23,1),(24,3)]<|Xe (Zj 9 [51,52,53] (Zh4 ((cA fr (ps.getD i G0))-(ps.getD i G0).1.1) ((cB a (ps.getD i G0))-(cA fr (ps.getD i G0))) ((ps.getD i G0).1.2.1-(ps.getD i G0).1.1) f z B ⟨O1,O1⟩)) λ⟨b6,b7,b8⟩ _=>Xe (Zj 11 [] (Zs (ps.getD i G0).1.2.2)) λ_ _=>Xe (Zj 11 [] (Fd ((ps.getD i G0).1.2.1-(ps.getD i G0).1.1) 5 (aB (Zcy O1) O3) O3 O3)) λ_ _=>Xe (Zj 11 [] (Bd (ps.getD i G0).1.2.2 (((ps.getD i G0).1.2.1-(ps.getD i G0).1.1)^5) (aB (Ha ⟨O1,O1⟩) O3) (aB (Znr ⟨O1,O1⟩) O3))) λ_ _=>Xe (Ycg 90 [9,10,11] (Zc4 (cA fr (ps.getD i G0)) (cB a (ps.getD i G0)) (cO (ps.getD i G0)) (cX fr a (ps.getD i G0) (ps.getD i G0).2.1.2) (cX fr a (ps.getD i G0) (ps.getD i G0).2.2.1.2) (cX fr a (ps.getD i G0) (ps.getD i G0).2.2.2.2) h)) λ⟨b9,c0,c1⟩ ⟨_,e⟩=>go 6 ?_;exact Yl<|Nb (_,_,_,_) e K2 K4
   .rintro⟨s1,s2,s3,bj⟩ e;dsimp only at e;dsimp only;refine go 1 ?_;refine Ydt<|Mh (Zaa J J) J<|Mh (d_lbw (i:=93) J J J isAgg35 Fk J) J<|Mh (Zaa J J) J<|Ztt [_,_] [_,_,_,_] (ps.getD i G0) (s1,s2,s3) hY (fl_get O1 j) r D w J J J J J K2 J J (Yka e 90 J J J) K4 K4 (λP m u=>?_) (λP m u=>?_)
    .simp only [Yt];refine Mh (dF (Ye J J) J) J<|Ca<|go 9 ⟨O1,?_⟩;exact Yu (i+1,P) ⟨O2,by rw [fl_t O1 j];exact m,u⟩ O2 K1 K1
    .simp only [Yt];refine Mh (dT (Ye J J) J) J<|Ca<|go 7 ?_;exact Zay (.inl J) J J t k (.inr m)
 .obtain rfl:i=ps.length:=O1;rw [bO]at r;refine go 4 ?_;exact Zay (.inr J) J J t k (.inl r)
open Go.RowKit Below
variable {P:Program} {N:Nat} {sc:Nat->Prop} {env env':Qy} {H H':Hp} {Q Q':Exit->Act->World->Prop} {l:Nat}
def ER(P:Program)(N:Nat)(sc:Nat->Prop)(l:Nat)(c:Code)(Q:Exit->Act->World->Prop)(env:Qy)(H:Hp):Prop:=
 ∀a w,Sat N sc env H a w->c.wpIn (Fence.wide.inRound l) 0 P Q a w
def ndB(o:Oper):Bool:=match o.op with
 | .defer _=>false
 | _=>true
theorem Zhh(h:ops.all ndB=true):Zjd ops:=λo b c a=>by have:=cI.1 h o b;unfold ndB at this;rw [a]at this;cases this
def Zqt(b:ops.all ndB=true)(h:L P N sc ops.toArray ops (Gg (Exit.then (λa w=>y.wpIn (Fence.wide.inRound l) 0 P Q a w) Q)) env H):ER P N sc l (.seq (.region id ops.toArray false) y) Q env H:=
 λa w hs=>wpIn_seq (Ygo (Zhh b) h hs)
def Zqs(b:ops.all ndB=true)(h:L P N sc ops.toArray ops (Gg Q) env H):ER P N sc l (.region id ops.toArray false) Q env H:=
 λa w hs=>Ygo (Zhh b) h hs
def Ylp(h:ER P N sc l y Q env H):X N sc .normal (Gg (Exit.then (λa w=>y.wpIn (Fence.wide.inRound l) 0 P Q a w) Q)) env H:=λa w hs=>h a w hs
def Yb8(h:∀a w,Sat N sc env H a w->Q .normal a w):X N sc .normal (Gg Q) env H:=λa w hs=>h a w hs
def Zcm(h:ER P N sc l x (Exit.then (λa w=>y.wpIn (Fence.wide.inRound l) 0 P Q a w) Q) env H):ER P N sc l (.seq x y) Q env H:=λa w hs=>wpIn_seq (h a w hs)
def Zcn(h:ER P N sc l c (Exit.inBlock id Q) env H):ER P N sc l (.block id c) Q env H:=λa w hs=>wpIn_block (h a w hs)
theorem Zug{c:Operand}{b:Bool}(e:ev env c=some (.bool b))(g:b=true->ER P N sc l x Q env H)(f:b=false->ER P N sc l y Q env H):ER P N sc l (.cond c x y) Q env H:=λa w hs=>by
 cases b with
 | true=>exact wpIn_cond_true (hs.ev e) (g rfl a w hs)
 | false=>exact wpIn_cond_false (hs.ev e) (f rfl a w hs)
def Zqr(h:∀a w,Sat N sc env H a w->Q .normal a w):ER P N sc l .skip Q env H:=λa w hs=>wpIn_skip (h a w hs)
def Zxa(h:∀a w,Sat N sc env H a w->Q .ret a w):ER P N sc l .ret Q env H:=λa w hs=>wpIn_ret (h a w hs)
def Zhq(b:∀a w,Sat N sc env H a w->Sat N sc env' H' a w)(h:ER P N sc l c Q env' H'):ER P N sc l c Q env H:=λa w hs=>h a w (b a w hs)
theorem Zfh{β:Type}(i k:Nat)(enc:β->Value)(q:β->Pc):∀a w,Sat N sc env H a w->Sat N sc env ((i,Xp k enc q (.slice none 0 0) [])::H) a w:=λa w hs=>
 hs.add i _ ⟨Zde k enc w,λz f=>by cases f⟩ (λh j _ _ Kh b e g=>by
  rcases e with e|⟨z,f,_⟩
  .exact absurd rfl e.1
  .cases f) (λb e=>by
  rcases e with e|⟨z,f,_⟩
  .exact absurd rfl e.1
  .cases f)
theorem Yi3{a:Hp}{g:Zf}(i j:Nat)(h:lk a i=some (Ib qG zs))(k:lk a j=some (Yw 1 Yq (Xx g.2.1.1) g.2.1.2))(m:lk a (j+1)=some (Yw 1 Yq (Xx g.2.2.1.1) g.2.2.1.2))(n:lk a (j+2)=some (Yw 1 Yq (Xx g.2.2.2.1) g.2.2.2.2)) :
  ∀b,(Ib qG (zs ++ [g])).fp b->∃j q,lk a j=some q/\q.fp b:=λb ⟨z,o,e⟩=>by
 rcases cQ.1 o with q|q
 .exact⟨i,_,h,z,q,e⟩
 .rw [bN.1 q]at e;obtain⟨c,f,e⟩:=e;simp only [bB,dL,iD]at f;rcases f with rfl|rfl|rfl
  .exact⟨j,_,k,e⟩
  .exact⟨j+1,_,m,e⟩
  .exact⟨j+2,_,n,e⟩
end Go.Sky
namespace Go.Sky
variable{k b c off:Nat}{zs:List Zf}{x y:Operand}{a:Act}{v:Value}{r:List Value}{xs:List Int}{w0 w:World}{M0:Nat->Prop}{o:Oper}{t tb:TypeId}{kd:IntKind}{m:Int}
theorem Zlt{l n p q s u d e f g h j:Value}:Instr.fill (λi=>some (i*6,6)) ((List.range (1*6)).map ((Value.agg #[l,n,p,q,s,u]).cells[· % (Value.agg #[l,n,p,q,s,u]).cells.size]!)).toArray [(0,.agg #[d,e,f,g,h,j])]=some #[d,e,f,g,h,j]:=by
 simp [Instr.fill,Value.cells,List.range,List.range.loop]
 try rfl
def Qh(fr d:Int)(ps:List Zf):Bool:=(ps.filter (Ny fr d)).all (Cq fr d)
def Bn(fr d:Int)(ps:List Zf):List Zc0:=if Qh fr d ps=true then(ps.filter (Ny fr d)).map (Zgl fr d)else []
def Zmy(fr d:Int)(ps:List Zf):Int:=if Qh fr d ps=true then 0 else 7
def Zv4(fr d:Int)(x:Zf)(g:SL×SL×SL):Zf:=((cA fr x,cB d x,mdO (cO x) (cG fr d x)),(g.1,mdL (cO x) (cG fr d x) (cX fr d x x.2.1.2)),(g.2.1,mdL (cO x) (cG fr d x) (cX fr d x x.2.2.1.2)),(g.2.2,mdL (cO x) (cG fr d x) (cX fr d x x.2.2.2.2)))
def Yd1(fr d:Int)(ps:List Zf)(k:Nat)(zs:List Zf):Prop:=zs.map Ns=((ps.filter (Ny fr d)).take k).map (Zgl fr d)/\((ps.filter (Ny fr d)).take k).all (Cq fr d)=true
theorem Zos{α:Type}{xs:List α}{x:α}(h:xs[k]? = some x):xs.take (k+1)=xs.take k ++ [x]:=by rw [kX,h];rfl
theorem cutI_0(fr d:Int)(ps:List Zf):Yd1 fr d ps 0 []:=⟨by rw [fB];rfl,by rw [fB];rfl⟩
theorem cutI_s{fr d:Int}{ps:List Zf}{x:Zf}{g:SL×SL×SL}(h:Yd1 fr d ps k zs)(e:(ps.filter (Ny fr d))[k]? = some x)(j:Cq fr d x=true):Yd1 fr d ps (k+1) (zs ++ [Zv4 fr d x g]):=by
 obtain⟨f,i⟩:=h;refine⟨?_,?_⟩
 .rw [Zos e,dZ,dZ,f];rfl
 .rw [Zos e,List.all_append,i];simp [j]
theorem cutI_l{fr d:Int}{ps:List Zf}(h:Yd1 fr d ps k zs)(e:k<=ps.length):zs.length<=ps.length:=by have:=aL List.length h.1;rw [aP,aP,aR]at this;have:=iL (Ny fr d) ps;omega
theorem cut_no{fr d:Int}{ps:List Zf}{x:Zf}(f:(ps.filter (Ny fr d))[k]? = some x)(e:Cq fr d x=false):Qh fr d ps=false:=by
 unfold Qh;cases hb:(ps.filter (Ny fr d)).all (Cq fr d)with
 | false=>rfl
 | true=>
  have:=cI.1 hb x (eU f);rw [e]at this;cases this
theorem cutI_e{fr d:Int}{ps:List Zf}(h:Yd1 fr d ps (ps.filter (Ny fr d)).length zs):zs.map Ns=Bn fr d ps/\Zmy fr d ps=0:=by obtain⟨f,e⟩:=h;rw [bO]at f e;exact⟨by unfold Bn Qh;rw [aK e];exact f,by unfold Zmy Qh;rw [aK e]⟩
theorem cut_f{fr d:Int}{ps:List Zf}(h:Qh fr d ps=false):([]:List Zf).map Ns=Bn fr d ps/\Zmy fr d ps=7:=by unfold Bn Zmy;rw [aH (by rw [h];exact dJ),aH (by rw [h];exact dJ)];exact⟨rfl,rfl⟩
def Ep(ps:List Zf):Int:=(ps.getD 0 G0).1.1
def Bc(ps:List Zf):Int:=(ps.getD (ps.length-1) G0).1.2.1
def Ycx{a b c d:Int}(h:¬(a<=c/\c<d/\d<=b)):c<a\/(¬c<a/\c>=d)\/(¬c<a/\¬c>=d/\d>b):=O1
open Go.Proofs.Tryz
open Go.Proofs
set_option synthInstance.maxHeartbeats 0
set_option synthInstance.maxSize 100000
set_option maxRecDepth 20000
set_option linter.unusedSimpArgs false
theorem Yfk{ps:List Zf}{fr i:Int}:Cal prog 181 #[v,.int .i64 fr,.int .i64 i] [Xp 6 Xv qG v ps] true (G:=Nat×Nat×Nat) (λg=>True) (λg=> .func (.func 229) #[] #[.pointer (some ⟨g.1,0,none⟩),.pointer (some ⟨g.2.1,0,none⟩),.pointer (some ⟨g.2.2,0,none⟩)]) (λg=>[Ka g.1 38 #[v],Ka g.2.1 3 #[.int .i64 fr],Ka g.2.2 3 #[.int .i64 i]]):=by refine Zg func181 ntmps181 λw0 n l d=>?_;refine Zhr (Qp 1 J Zd) (λp e=>?_);subst e;refine go 2 ?_;refine Yk (Ym 2) λj _=>Yk (Ym 3) λf _=>Yk (Ym 4) λh _=>go 5 ?_;refine dt (Zur [] [_,_,_] J aA K3)<|go 4 ?_;exact Zv (Zee 2 J J)<|Zv (Zee 3 J J)<|Zv (Zee 4 J J)<|Xn d (_,_,_) results181 J aA (Oi 2 (Oi 3 (Oi 4 Za)))
@[reducible,instance] def encGI:EncT prog 35 6 Xv:=⟨pG⟩
theorem Zvx{ps:List Zf}{fr d:Int}(V:∀g∈ps,Cx g)(hM:∀g∈ps,Ny fr d g=true->MdG fr d g)(a0:ps.length<=256):Cal prog 121 #[v,.int .i64 fr,.int .i64 d] [Xp 6 Xv qG v ps] true (G:=Value×List Zf) (λg=>g.2.map Ns=Bn fr d ps) (λg=> .tuple #[g.1,.int .i64 (Zmy fr d ps)]) (λg=>[Xp 6 Xv qG g.1 g.2]):=by
 refine Zjr func121 J ntmps121 J K1 ?_;intro w0 sc M I;have M:=Hw.mk M;simp only [Qq,Yt];refine go 2 ?_;refine Yk (Zw 2) λu _=>Yk (Zw 3) λe _=>go 8 ?_;refine cl 4 [1] Yfk λ⟨b,F,H⟩ _=>go 3 ?_;refine Zh (Pt 70 6 35 Xv)<|Zh (Xi qG 73)<|Yau ([Ka b 38 #[v],Ka F 3 #[.int .i64 fr],Ka H 3 #[.int .i64 d],Xp 6 Xv qG v ps]) w0 (λ(_:Nat) (n:Value×List Zf)=>[(0,Yo w0 (λ_=>False)),(1,Xp 6 Xv qG v ps),(2,box u 38 #[n.1]),(3,box e 26 #[.int .i64 0]),(70,Pz 6 35 Xv n.1 n.2),(73,Ib qG n.2)]) (λk n=>Yd1 fr d ps k n.2) (λ(_:Unit)=>[(0,Yo w0 (λ_=>False)),(2,box u 38 #[.slice none 0 0]),(3,box e 26 #[.int .i64 7])]) (λ_=>Qh fr d ps=false) (.slice none 0 0,[]) J (by intro s w;first|exact enters_of func229 O7 rfl s w|exact call229 s w) (Ycm v ps b F H fr d V hM) ?_ (λ_ _=>J) J M.h J (cutI_0 fr d ps) K6 (λ_ _=>⟨J,J⟩) (λ_=>⟨J,J⟩) (λk x f n W j l Mf Wa=>?_) J (λn j D od=>?_) (λ_ N=>?_)
 .intro p Z;simp only [bB,dL,iD]at Z;rcases Z with rfl|rfl|rfl|rfl
  .exact⟨J,4,J⟩
  .exact⟨J,5,J⟩
  .exact⟨J,6,J⟩
  .exact⟨J,1,J⟩
 .obtain⟨B,zs⟩:=n;have S:k<=ps.length:=aB (eK (dP.1 W).1) (iL _ _);have a1:zs.length<=ps.length:=cutI_l j S;refine Zhq (env':=[(15,.bool (Cq fr d x)),(14,.agg #[.int .i64 (cA fr x),.int .i64 (cB d x),.int .i64 (mdO (cO x) (cG fr d x)),Xx f.1,Xx f.2.1,Xx f.2.2]),(6,.pointer (some ⟨u,0,none⟩)),(7,.pointer (some ⟨e,0,none⟩))]) (H':=[(92,Yo Wa Mf),(100,Yw 1 Yq (Xx f.1) (mdL (cO x) (cG fr d x) (cX fr d x x.2.1.2))),(101,Yw 1 Yq (Xx f.2.1) (mdL (cO x) (cG fr d x) (cX fr d x x.2.2.1.2))),(102,Yw 1 Yq (Xx f.2.2) (mdL (cO x) (cG fr d x) (cX fr d x x.2.2.2.2))),(0,Yo w0 (λ_=>False)),(1,Xp 6 Xv qG v ps),(2,box u 38 #[B]),(3,box e 26 #[.int .i64 0]),(70,Pz 6 35 Xv B zs),(73,Ib qG zs)]) (λa w hs=>hs.weaken ⟨J,J,J,J,aA⟩ ⟨J,J,J,J,J,J,J,J,J,J,aA⟩)<|Zqt J<|Yk (Zw 8) λY _=>go 1 ?_;refine go 1 ?_;refine Ylp<|Zqs J<|go 1 ?_;refine go 1 ?_;refine Yb8 λa w hs=>⟨J,[(8,.pointer (some ⟨Y,0,none⟩)),(9,.bool (Cq fr d x)),(6,.pointer (some ⟨u,0,none⟩)),(7,.pointer (some ⟨e,0,none⟩))],[(8,box Y 35 #[.int .i64 (cA fr x),.int .i64 (cB d x),.int .i64 (mdO (cO x) (cG fr d x)),Xx f.1,Xx f.2.1,Xx f.2.2]),(100,Yw 1 Yq (Xx f.1) (mdL (cO x) (cG fr d x) (cX fr d x x.2.1.2))),(101,Yw 1 Yq (Xx f.2.1) (mdL (cO x) (cG fr d x) (cX fr d x x.2.2.1.2))),(102,Yw 1 Yq (Xx f.2.2) (mdL (cO x) (cG fr d x) (cX fr d x x.2.2.2.2))),(0,Yo w0 (λ_=>False)),(1,Xp 6 Xv qG v ps),(2,box u 38 #[B]),(3,box e 26 #[.int .i64 0]),(70,Pz 6 35 Xv B zs),(73,Ib qG zs)],J,(λq h=>by cases h;rfl),⟨.inl J,.inr (λb i=>⟨100,_,J,i⟩),.inr (λb i=>⟨101,_,J,i⟩),.inr (λb i=>⟨102,_,J,i⟩),.inr (λb i=>⟨0,_,J,i⟩),.inr (λb i=>⟨1,_,J,i⟩),.inl J,.inl J,.inl J,.inr (λb i=>⟨73,_,J,i⟩),aA⟩,hs.weaken ⟨J,J,J,J,aA⟩ ⟨J,J,J,J,J,J,J,J,J,J,J,aA⟩,λWb _=>?_⟩;refine Zcn<|Zcm<|Zqt J<|go 2 ?_;refine go 1 ?_;refine Ylp<|Zug J (λR=>?_) (λR=>?_)
  .refine Zqt J<|go 2 ?_;refine go 1 ?_;exact Ylp<|Zxa λa w hs=>Or.inr ⟨J,(),cut_no W (Zri R),⟨.inr (λb i=>⟨0,_,J,i⟩),.inl J,.inl J,aA⟩,[],hs.weaken aA ⟨J,J,J,J,aA⟩⟩
  .refine Zqr<|Zqs J<|go 2 ?_;refine tt (Qs [(0,_)] 12 (enc:=Xv) [(Zv4 fr d x f)] J J K2 Hs ti35 J J Zlt J J pG.cells J J M.h) (λv2 _=>?_);refine tt (My 70 12 96 J J J J J J O3 J (Zy pG) Hs ti35 J pG J J J O9 O3 J M.h) λv3 _=>go 2 ?_;exact Zv (Xi qC 71)<|Zv (Yh (q:=qC) (z:=(Zv4 fr d x f).2.1) 71 100 71 J J J J J)<|Zv (Yh (q:=qC) (z:=(Zv4 fr d x f).2.2.1) 71 101 71 J J J J J)<|Zv (Yh (q:=qC) (z:=(Zv4 fr d x f).2.2.2) 71 102 71 J J J J J)<|Zv (Yh (q:=qG) (z:=(Zv4 fr d x f)) 73 71 73 J J J J J)<|Yb8 λa w hs=>Or.inl ⟨J,(v3,zs ++ [(Zv4 fr d x f)]),cutI_s j W (Zrj R),⟨.inr (λb i=>⟨0,_,J,i⟩),.inr (λb i=>⟨1,_,J,i⟩),.inl J,.inl J,.inl J,.inr (Yi3 73 100 J J J J),aA⟩,[],hs.weaken aA ⟨J,J,J,J,J,J,J,aA⟩⟩
 .obtain⟨B,zs⟩:=n;obtain⟨P,Q⟩:=cutI_e j;refine go 3 ?_;refine go 1 ?_;refine Yb8 λa w hs=>⟨J,[(6,.pointer (some ⟨u,0,none⟩)),(7,.pointer (some ⟨e,0,none⟩))],[(0,Yo w0 (λ_=>False)),(1,Xp 6 Xv qG v ps),(2,box u 38 #[B]),(3,box e 26 #[.int .i64 0]),(70,Pz 6 35 Xv B zs),(73,Ib qG zs)],J,⟨⟨_,J,J,λ_ h=>h⟩,⟨_,J,J,λ_ h=>h⟩,⟨_,J,J,λ_ h=>h⟩,⟨_,J,J,λ_ h=>h⟩,⟨_,J,J,λ_ h=>h⟩,⟨_,J,J,λ_ h=>h⟩,aA⟩,hs.weaken ⟨J,J,aA⟩ ⟨J,J,J,J,J,J,J,aA⟩,?_⟩;exact Zv (Qj 70 J J pG)<|Zv (Ph 70 73 72 J J J J)<|Ma I (B,zs) results121 (by rw [Q]) P (Oi 72 Za)
 .exact Zv (Zfh 72 6 Xv qG)<|Ma I (.slice none 0 0,[]) results121 (by rw [(cut_f N).2]) (cut_f N).1 (Oi 72 Za)
open Go.RowKit Below
variable {P:Program} {N:Nat} {sc:Nat->Prop} {env env':Qy} {H H':Hp} {Q Q':Exit->Act->World->Prop} {M:Nat->Prop}
def wcr(l:List Int)(r:List Value):Array Value:=(l.map (Value.int .i64) ++ r).toArray
theorem Zjy(l:List Int)(r:List Value):(wcr l r).size=l.length+r.length:=by simp [wcr]
theorem Yls{l:List Int}{j:Nat}(h:j<l.length):(wcr l r)[j]? = some (.int .i64 (l.getD j 0)):=by simp [wcr,cM,h,aC]
theorem Ylr{l:List Int}{j:Nat}{v:Int}(h:j<l.length):Gi (wcr l r) j [.int .i64 v]=wcr (l.set j v) r:=by
 unfold Gi wcr;congr 1;rw [gI,aK h,dZ,bT,mS,List.map_drop];have d:j<=(l.map (Value.int .i64)).length:=by rw [aP];omega
 have e:j+1<=(l.map (Value.int .i64)).length:=by rw [aP];omega
 simp only [eA,lK,cD];rw [fR d,gW e];simp
theorem Zxr(l:List Int):cellsOf Yq l=l.map (Value.int .i64):=by
 induction l with
 | nil=>rfl
 | cons x l d=>rw [show cellsOf Yq (x::l)=(Yq x).cells.toList ++ cellsOf Yq l from rfl,d];rfl
theorem f_obox{e:TypeId}(i:Nat)(hi:lk H i=some (Pz 1 e Yq v xs))(z:xs≠[]):∀a w,Sat N sc env H a w->∃y:Nat×Nat×List Value,
  v= .slice (some ⟨y.1,0,none⟩) xs.length y.2.1/\xs.length+y.2.2.length=y.2.1/\y.2.1<=maxLen/\w.heap[y.1]? = some (.cells (wcr xs y.2.2) e (0,0)):=λa w hs=>by
 have l:w.ownsRow 0 e 1 v xs.length (cellsOf Yq xs):=hs.hold i _ hi;rcases l.2 with⟨rfl,s⟩|⟨g,h,d,rfl,B,q,u,n,j,f⟩
 .exact absurd (aF s) z
 .rw [jF]at j f;refine⟨(g,h,d.toList.drop xs.length),rfl,?_,n,?_⟩
  .show xs.length+(d.toList.drop xs.length).length=h;have p:d.toList.length=h:=by rw [dG];exact j
   rw [eC,p];omega
  .show w.heap[g]? = some (.cells (wcr xs (d.toList.drop xs.length)) e (0,0));rw [show wcr xs (d.toList.drop xs.length)=d by unfold wcr;rw [<-Zxr,<-f,fU]]
   exact q
theorem s_obox {e:TypeId}      (i:Nat) (hi:lk H i=some (Pz 1 e Yq (.slice (some ⟨b,0,none⟩) xs.length c) xs)) (d:Nat.beq i 0=false) (f:lk H 0=some (Yo w0 M0)) (j:∀b,w0.heap.size<=b->sc b)
    (hs:Sat N sc env H a w) (g:w.heap[b]? = some (.cells (wcr xs r) e (0,0))):Sat N sc env ((i,box b e (wcr xs r))::H) a w:=
 hs.upd hi rfl (λe=>by subst e;simp at d) (Chg.refl _ w) g (λk h=> .inl (by show some b=some k;rw [show k=b from h])) f j
theorem e_obox {f:Code} {e:TypeId}     (i:Nat) (hi:lk H i=some (Pz 1 e Yq v xs)) (d:Nat.beq i 0=false) (s:xs≠[]) (g:lk H 0=some (Yo w0 M0)) (q:∀b,w0.heap.size<=b->sc b)
  (h:∀(b c:Nat) (r:List Value),v= .slice (some ⟨b,0,none⟩) xs.length c->xs.length+r.length=c->c<=maxLen->E P N sc f Q env ((i,box b e (wcr xs r))::H)):E P N sc f Q env H:=λa w hs=>by
 obtain⟨⟨b,c,r⟩,p,j,l,n⟩:=f_obox i hi s a w hs;subst p;exact h b c r rfl j l a w (s_obox i hi d g q hs n)
theorem Ymt{e:TypeId}(i:Nat)(hi:lk H i=some (box b e (wcr xs r)))(d:Nat.beq i 0=false)(g:xs.length+r.length=c)(l:c<=maxLen)(f:lk H 0=some (Yo w0 M0))(n:∀b,w0.heap.size<=b->sc b) :
  ∀a w,Sat N sc env H a w->Sat N sc env ((i,Pz 1 e Yq (.slice (some ⟨b,0,none⟩) xs.length c) xs)::H) a w:=λa w hs=>by
 have h:w.heap[b]? = some (.cells (wcr xs r) e (0,0)):=hs.hold i _ hi;refine hs.upd hi rfl (λe=>by subst e;simp at d) (Chg.refl _ w) ?_ (λk j=> .inl (by cases j;rfl)) f n;refine⟨by rw [Zxr,aP,jF],.inr ⟨b,c,_,rfl,bJ _,h,O1,l,by rw [Zjy,jF];exact g,?_⟩⟩;rw [Zxr,jF];show((xs.map (Value.int .i64)) ++ r).take xs.length=_;rw [fR (by rw [aP];exact aI _),cE (by rw [aP];exact aI _)]
theorem Am (i:Nat)   {e:TypeId} {n:Nat}   (h:o.op= .indexAddr t x y) (l:ev env x=some (.slice (some ⟨b,off,none⟩) n c)) (p:ev env y=some (.int kd m))
  (j:P.underlying t=some (.slice e)) (g:∀w,(sizeOf e).run P w= .ok 1 w) (d:m=(i:Int)) (f:i<n):Mt P N sc o env H (.pointer (some ⟨b,off+i,none⟩)):=λa w hs=>by
 subst d;simp [execOp,h,hs.ev l,hs.ev p,Instr.indexAt,asIntOf,run_underlying j,g,f,Pm]
theorem Zqz   {e:TypeId} {d:Option Addr} {n:Nat} (f:o.op= .call { callee:= .builtin .len,args:=#[x],argTypes:=#[t] })
  (h:ev env x=some (.slice d n c)) (g:P.underlying t=some (.slice e)):Mt P N sc o env H (.int .i64 (n:Int)):=λa w hs=>by
 simp [execOp,f,resolve,hs.ev h,invoke,builtin,Builtin.len_,run_underlying g,goInt]
def Zcq (i:Nat){j:Nat}{l:List Int}(f:o.op= .load t x)(h:ev env x=some (.pointer (some ⟨b,j,none⟩)))(d:lk H i=some (box b tb (wcr l r)))(g:∀w,(isAgg t).run P w= .ok false w)(e:j<l.length) :
  Mt P N sc o env H (.int .i64 (l.getD j 0)):=Yd0 _ f h d g (Yls e)
theorem Zsb (i:Nat)    {j:Nat} {l:List Int}  {v:Int}   (q:o.op= .store t x y) (h:o.dst=none)
  (B:ev env x=some (.pointer (some ⟨b,j,none⟩))) (D:ev env y=some (.int .i64 v)) (f:lk H i=some (box b tb (wcr l r))) (d:i≠0) (p:∀w,(sizeOf t).run P w= .ok 1 w) (n:j<l.length)
  (e:lk H 0=some (Yo w0 M0)) (z:∀b,w0.heap.size<=b->sc b) (g:M b) :
  T P N sc M o env H (G:=Unit) (λ_=>True) (λ_=>env) (λ_=>(i,box b tb (wcr (l.set j v) r))::H):=by
 rw [<-Ylr n];exact Zh0 [.int .i64 v] q h B D f d rfl p rfl (by rw [Zjy];simp;omega) (λu s=>Yi (by rw [bN.1 s];rfl)) rfl e z g
theorem Yjz (i:Nat)   {e:TypeId} {n:Nat}   (p:o.op= .slice t x (some y) none none) (s:ev env x=some (.slice (some ⟨b,off,none⟩) n c)) (u:ev env y=some (.int kd m))
  (q:P.underlying t=some (.slice e)) (h:∀w,(sizeOf e).run P w= .ok 1 w) (d:m=(i:Int)) (j:i<n) (l:n<=c):Mt P N sc o env H (.slice (some ⟨b,off+i,none⟩) (n-i) (c-i)):=λa w hs=>by
 subst d;have f:i<=n:=O1;have g:i<c:=O1;simp [execOp,p,hs.ev s,hs.ev u,Instr.sliceAt,Instr.slice,Instr.sliceBounds,Instr.sliceBound,asIntOf,run_underlying q,h,f,g,l,Pm];intro z;omega
theorem d_prew   {e:TypeId} {n i:Nat}   (j:o.op= .slice t x none (some y) none) (p:ev env x=some (.slice (some ⟨b,0,none⟩) n c)) (q:ev env y=some (.int kd m))
  (l:P.underlying t=some (.slice e)) (h:∀w,(sizeOf e).run P w= .ok 1 w) (d:m=(i:Int)) (f:i<=n) (s:n<=c):Mt P N sc o env H (.slice (some ⟨b,0,none⟩) i c):=λa w hs=>by
 subst d;have g:i<=c:=O1;simp [execOp,j,hs.ev p,hs.ev q,Instr.sliceAt,Instr.slice,Instr.sliceBounds,Instr.sliceBound,asIntOf,run_underlying l,h,f,g,Pm]
theorem t_clw   {j:TypeId} {i lo n B:Nat} {l:List Int}   
  (V:o.op= .call { callee:= .builtin .clear,args:=#[x],argTypes:=#[t] }) (R:o.dst=none)
  (hx:ev env x=some (.slice (some ⟨b,lo,none⟩) n B))  (p:lk H i=some (box b tb (wcr l r))) (f:i≠0)
  (hn:0<n) (S:lo+n=l.length) (W:P.underlying t=some (.slice j)) (z:∀w,(sizeOf j).run P w= .ok 1 w)
  (hz:∀w,(zeroValue j).run P w= .ok (.int .i64 0) w)
  (D:lk H 0=some (Yo w0 M0)) (Z:∀b,w0.heap.size<=b->sc b) (I:M b) :
  T P N sc M o env H (G:=Unit) (λ_=>True) (λ_=>env) (λ_=>(i,box b tb (wcr (l.take lo) (List.replicate n (Value.int .i64 0) ++ r)))::H):=λa w hs K Q F=>by
 have s:w.heap[b]? = some (.cells (wcr l r) tb (0,0)):=hs.hold i _ p;have h:(Builtin.zeroCells (Value.int .i64 0).cells n).toList=List.replicate n (Value.int .i64 0):=by
  apply iZ
  .simp [Builtin.zeroCells,Value.cells]
  .intro i h2 h3;simp [Builtin.zeroCells,Value.cells,nX]
 have d:=run_storeCells_at P b lo tb (List.replicate n (Value.int .i64 0)) 0 (wcr l r) w s (by rw [Zjy,aX];omega) (λu Y=>by rw [List.eq_of_mem_replicate Y];rfl);simp only [eH,aX]at d;have e:((wcr l r).toList.take lo ++ List.replicate n (Value.int .i64 0) ++ (wcr l r).toList.drop (lo+n)).toArray=wcr (l.take lo) (List.replicate n (Value.int .i64 0) ++ r):=by unfold wcr;congr 1;show((l.map (Value.int .i64) ++ r).take lo ++ _) ++ (l.map (Value.int .i64) ++ r).drop (lo+n)=_;rw [fR (by rw [aP];omega),gW (by rw [aP];omega),kT (by rw [aP];omega),mS,iN,cS]
 rw [e]at d;obtain⟨m,rfl⟩:∃m,n=m+1:=⟨n-1,O1⟩;have g:(execOp a.eval o).run P w= .ok (.value (.tuple #[])) (w.setRow b (wcr (l.take lo) (List.replicate (m+1) (Value.int .i64 0) ++ r))):=by simp only [execOp,V,resolve,invoke,builtin];simp [hs.ev hx,Builtin.clear_,run_underlying W,hz,h,d]
 unfold Oper.wp;rw [g];show K (a.put o.dst _) _;rw [R];exact F () _ _ aA ((hs.upd p rfl f (q:=box b tb (wcr (l.take lo) (List.replicate (m+1) (Value.int .i64 0) ++ r))) (Ow (M:=λk=>k=b) rfl) (setRow_heap w b _ _ tb _ s) (λk z=> .inl z) D Z).put_none _) (Ow I)
theorem res0{fn:Func}(hs:Sat N sc env H a w)(d:fn.results=#[]):(results fn a.tmps).run P w= .ok (.tuple #[]) w:=by simp [results,d]
end Go.Sky
namespace Go.Sky
variable{i m k b:Nat}{x a:Int}{xs p c q:List Int}{r:List Value}
def Srt(l:List Int)(n:Nat):Prop:=∀p q,p<q->q<n->l.getD p 0<=l.getD q 0
def Sst(l:List Int)(n:Nat):Prop:=∀p q,p<q->q<n->l.getD p 0<l.getD q 0
def Ylj(l:List Int)(i j:Nat):Prop:=∀p q,p<q->q<=i->q≠j->l.getD p 0<=l.getD q 0
def Sam(l m:List Int):Prop:=m.length=l.length/\∀x,x∈m↔x∈l
def Sam.rfl'(l:List Int):Sam l l:=⟨rfl,λ_=>nI⟩
def Cn{l:List Int}{j:Nat}{v:Int}(hi:i<l.length):(l.set i v).getD j 0=if j=i then v else l.getD j 0:=Zhm hi
def swp(l:List Int)(j:Nat):List Int:=(l.set j (l.getD (j-1) 0)).set (j-1) (l.getD j 0)
theorem Yab(l:List Int)(j:Nat):(swp l j).length=l.length:=by simp [swp]
theorem Zap{l:List Int}{j:Nat}(d:j<l.length)(e:1<=j)(k:Nat):(swp l j).getD k 0=if k=j-1 then l.getD j 0 else if k=j then l.getD (j-1) 0 else l.getD k 0:=by unfold swp;rw [Cn (by rw [aT];omega),Cn d]
theorem Fv{l:List Int} : x∈l↔∃k,k<l.length/\l.getD k 0=x:=by
 constructor
 .intro h;obtain⟨k,d,e⟩:=cY.1 h;exact⟨k,d,by rw [aC,aD d];exact e⟩
 .rintro⟨k,d,rfl⟩;exact Ze d
theorem Zy5{l:List Int}{j:Nat}(d:j<l.length)(f:1<=j):Sam l (swp l j):=⟨Yab l j,λx=>by
 rw [Fv,Fv,Yab];constructor
 .rintro⟨k,g,e⟩;rw [Zap d f]at e;by_cases a:k=j-1
  .rw [aK a]at e;exact⟨j,d,e⟩
  .rw [aH a]at e;by_cases b:k=j
   .rw [aK b]at e;exact⟨j-1,O1,e⟩
   .rw [aH b]at e;exact⟨k,g,e⟩
 .rintro⟨k,g,e⟩;by_cases a:k=j-1
  .exact⟨j,d,by rw [Zap d f,aH O1,aK rfl,<-a];exact e⟩
  .by_cases b:k=j
   .exact⟨j-1,O1,by rw [Zap d f,aK rfl,<-b];exact e⟩
   .exact⟨k,g,by rw [Zap d f,aH a,aH b];exact e⟩⟩
def Sam.trans{l m n:List Int}(h:Sam l m)(d:Sam m n):Sam l n:=⟨d.1.trans h.1,λx=>(d.2 x).trans (h.2 x)⟩
def srtx_0{l:List Int}(h:Srt l i):Ylj l i i:=λp q d e f=>h p q d O1
theorem Zsh{l:List Int}{j:Nat}(h:Ylj l i j)(f:j<l.length)(e:1<=j)(o:j<=i)(s:l.getD j 0<l.getD (j-1) 0):Ylj (swp l j) i (j-1):=λp q g d n=>by
 rw [Zap f e,Zap f e,aH n];by_cases a:q=j
 .rw [aK a];by_cases b:p=j-1
  .rw [aK b];omega
  .rw [aH b,aH O1];exact h p (j-1) O1 O1 O1
 .rw [aH a];by_cases b:p=j-1
  .rw [aK b];exact h j q O1 d a
  .rw [aH b];by_cases c:p=j
   .rw [aK c];exact h (j-1) q O1 d a
   .rw [aH c];exact h p q g d a
theorem Yfb{l:List Int}{j:Nat}(h:Ylj l i j)(n:j<=i)(f:j=0\/(1<=j/\¬l.getD j 0<l.getD (j-1) 0)):Srt l (i+1):=λp q e g=>by
 by_cases a:q=j
 .rcases f with b|⟨b,c⟩
  .omega
  .subst a;by_cases d:p=q-1
   .subst d;omega
   .have:=h p (q-1) O1 O1 O1;omega
 .exact h p q e O1 a
def srt_1(l:List Int):Srt l 1:=λp q d e=>O1
structure Cmp (xs zs:List Int):Prop where
 s:Sst zs zs.length
 m:∀x,x∈zs↔x∈xs
theorem Yfa{l:List Int}{n:Nat}(h:Srt l n)(f:∀q,1<=q->q<n->l.getD q 0≠l.getD (q-1) 0):Sst l n:=λp q g e=>by
 have j:=f q O1 e;have o:=h (q-1) q O1 e;rcases oT (show p<=q-1 by omega)with d|d
 .have:=h p (q-1) d O1;omega
 .subst d;omega
def Ypi{l:List Int}(h:Srt l l.length)(d:∀q,1<=q->q<l.length->l.getD q 0≠l.getD (q-1) 0):Cmp l l:=⟨Yfa h d,λx=>nI⟩
structure Cml (xs l:List Int) (m k:Nat):Prop where
 k1:1<=k
 km:k<m
 ml:m<=xs.length
 ll:l.length=xs.length
 r:∀q,m<=q+1->l.getD q 0=xs.getD q 0
 s:Sst l k
 e:∀x,(∃p,p<k/\l.getD p 0=x)↔∃p,p<m/\xs.getD p 0=x
 z:l.getD (k-1) 0=xs.getD (m-1) 0
theorem cml_0(hs:Srt xs xs.length)(g:∀q,1<=q->q<k->xs.getD q 0≠xs.getD (q-1) 0)(h:1<=k)(j:k<xs.length)(f:xs.getD k 0=xs.getD (k-1) 0):Cml xs xs (k+1) k:=
 ⟨h,O1,O1,rfl,λq _=>rfl,Yfa (λp q e d=>hs p q e O1) g,λx=>by
  constructor
  .rintro⟨p,e,d⟩;exact⟨p,O1,d⟩
  .rintro⟨p,e,d⟩;by_cases a:p=k
   .subst a;exact⟨p-1,O1,by rw [<-f];exact d⟩
   .exact⟨p,O1,d⟩,by rw [show k+1-1=k by omega];exact f.symm⟩
theorem cml_eq{l:List Int}(h:Cml xs l m k)(s:m<xs.length)(g:l.getD m 0=l.getD (m-1) 0):Cml xs l (m+1) k:=by
 have e:=h.r m O1;have f:=h.r (m-1) (by have:=h.k1;have:=h.km;omega);have n:=h.k1;have o:=h.km;refine⟨h.k1,O1,s,h.ll,λq t=>h.r q O1,h.s,λx=>(h.e x).trans ⟨?_,?_⟩,?_⟩
 .rintro⟨p,j,d⟩;exact⟨p,O1,d⟩
 .rintro⟨p,j,d⟩;by_cases a:p=m
  .subst a;exact⟨p-1,O1,by rw [<-d,<-e,<-f];exact g.symm⟩
  .exact⟨p,O1,d⟩
 .rw [h.z,show m+1-1=m by omega,<-e,<-f];exact g.symm
theorem cml_ne{l:List Int}(hs:Srt xs xs.length)(h:Cml xs l m k)(o:m<xs.length)(y:l.getD m 0≠l.getD (m-1) 0):Cml xs (l.set k (l.getD m 0)) (m+1) (k+1):=by
 have g:=h.r m O1;have s:=h.k1;have t:=h.km;have w:=h.r (m-1) O1;have u:=h.ll;have d:k<l.length:=O1;have v:xs.getD (m-1) 0<xs.getD m 0:=by have:=hs (m-1) m O1 o;omega
 refine⟨O1,O1,o,by rw [aT];exact h.ll,λq z=>?_,λp q j e=>?_,λx=>?_,?_⟩
 .rw [Cn d,aH O1];exact h.r q O1
 .rw [Cn d,Cn d,aH (show p≠k by omega)];by_cases a:q=k
  .rw [aK a,g];have B:=h.z;rcases oT (show p<=k-1 by omega)with f|f
   .have:=h.s p (k-1) f O1;omega
   .subst f;omega
  .rw [aH a];exact h.s p q j O1
 .constructor
  .rintro⟨p,j,e⟩;rw [Cn d]at e;by_cases a:p=k
   .rw [aK a,g]at e;exact⟨m,O1,e⟩
   .rw [aH a]at e;obtain⟨q,f,n⟩:=(h.e x).1 ⟨p,O1,e⟩;exact⟨q,O1,n⟩
  .rintro⟨p,j,e⟩;by_cases a:p=m
   .exact⟨k,O1,by rw [Cn d,aK rfl,g,<-a];exact e⟩
   .obtain⟨q,f,n⟩:=(h.e x).2 ⟨p,O1,e⟩;exact⟨q,O1,by rw [Cn d,aH O1];exact n⟩
 .rw [show k+1-1=k by omega,Cn d,aK rfl,show m+1-1=m by omega];exact g
theorem Zjf{l:List Int}{p:Nat}(h:p<k):(l.take k).getD p 0=l.getD p 0:=by rw [aC,aC,mU h]
theorem cml_e{l:List Int}(h:Cml xs l xs.length k):Cmp xs (l.take k):=by
 have j:=h.km;have g:=h.ll;have f:(l.take k).length=k:=by rw [aR];omega
 refine⟨λp q e d=>?_,λx=>?_⟩
 .rw [f]at d;rw [Zjf O1,Zjf d];exact h.s p q e d
 .rw [Fv,Fv,<-h.e x,f];constructor
  .rintro⟨p,e,d⟩;rw [Zjf e]at d;exact⟨p,e,d⟩
  .rintro⟨p,e,d⟩;exact⟨p,e,by rw [Zjf e];exact d⟩
def Zlj(x:Int):List Int->List Int
 | []=>[x]
 | y::l=>if x<y then x::y::l else if x=y then y::l else y::Zlj x l
def Inc:List Int->Prop
 | []=>True
 | x::l=>(∀y∈l,x<y)/\Inc l
theorem Zla{x z:Int} : ∀{l:List Int},z∈Zlj x l↔z=x\/z∈l
 | []=>by simp [Zlj]
 | y::l=>by
  unfold Zlj;split
  .simp
  .split
   .rename_i h;subst h;simp
   .rw [bB,Zla,bB];constructor
    .rintro(h|h|h)
     .exact .inr (.inl h)
     .exact .inl h
     .exact .inr (.inr h)
    .rintro(h|h|h)
     .exact .inr (.inl h)
     .exact .inl h
     .exact .inr (.inr h)
theorem Zt8{x:Int} : ∀{l:List Int},Inc l->Inc (Zlj x l)
 | [],_=>⟨λy h=>(nomatch h),aA⟩
 | y::l,h=>by
  unfold Zlj;split
  .rename_i e;exact⟨λz d=>by
    rcases bB.1 d with rfl|d
    .exact e
    .have:=h.1 z d;omega,h⟩
  .split
   .exact h
   .refine⟨λz d=>?_,Zt8 h.2⟩;rcases Zla.1 d with rfl|d
    .omega
    .exact h.1 z d
def Zmr(l:List Int):List Int:=l.foldr Zlj []
def Bl:∀(l:List Int),Inc (Zmr l)
 | []=>trivial
 | x::l=>Zt8 (Bl l)
theorem Zcg{z:Int} : ∀{l:List Int},z∈Zmr l↔z∈l
 | []=>nI
 | x::l=>by show z∈Zlj x (Zmr l)↔_;rw [Zla,Zcg,bB]
theorem Zqa:∀{l m:List Int},Inc l->Inc m->(∀x,x∈l↔x∈m)->l=m
 | [],[],_,_,_=>rfl
 | [],y::m,_,_,h=>absurd ((h y).2 (bW ..)) (λh=>nomatch h)
 | x::l,[],_,_,h=>absurd ((h x).1 (bW ..)) (λh=>nomatch h)
 | x::l,y::m,hl,hm,h=>by
  have e:x=y:=by
   have g:=(h x).1 (bW ..);have f:=(h y).2 (bW ..);rcases bB.1 g with d|d
   .exact d
   .rcases bB.1 f with j|j
    .exact j.symm
    .have:=hm.1 x d;have:=hl.1 y j;omega
  subst e;rw [Zqa hl.2 hm.2 λz=>by
   have g:=h z;rw [bB,bB]at g;constructor
   .intro f;rcases g.1 (.inr f)with d|d
    .subst d;have:=hl.1 z f;omega
    .exact d
   .intro f;rcases g.2 (.inr f)with d|d
    .subst d;have:=hm.1 z f;omega
    .exact d]
theorem Yaf:∀{l:List Int},Sst l l.length->Inc l
 | [],_=>trivial
 | x::l,h=>⟨λy d=>by obtain⟨k,g,rfl⟩:=Fv.1 d;exact h 0 (k+1) O1 O9,Yaf λp q e f=>h (p+1) (q+1) O1 O9⟩
theorem Ykj{ys zs:List Int}(e:Sam xs ys)(d:Cmp ys zs):zs=Zmr xs:=
 Zqa (Yaf d.s) (Bl xs) λx=>by rw [d.m,e.2,Zcg]
theorem Zyn:∀{l:List Int},Inc l->Sst l l.length
 | [],_=>λp q _ h=>absurd h (bZ _)
 | x::l,h=>λp q d e=>by
  match p,q,d with
  | 0,q+1,_=>
   show x<l.getD q 0;exact h.1 _ (Ze (by simp at e;omega))
  | p+1,q+1,d=>exact Zyn h.2 p q O1 (by simp at e;omega)
def Yod(j:Nat):j=0\/1<=j:=O1
theorem hd_s(h:∀q,1<=q->q<k->xs.getD q 0≠xs.getD (q-1) 0)(e:¬xs.getD k 0=xs.getD (k-1) 0):∀q,1<=q->q<k+1->xs.getD q 0≠xs.getD (q-1) 0:=λq f g=>by
 rcases bM.1 g with d|d
 .exact h q f d
 .subst d;exact e
open Go.Proofs.Tryz
open Go.Proofs
set_option synthInstance.maxHeartbeats 0
set_option synthInstance.maxSize 100000
set_option maxRecDepth 20000
set_option linter.unusedSimpArgs false
theorem Yph:Xy prog 278 #[.int .i64 x] [] (.bool false):=by refine Zg func278 ntmps278 λg f e d=>go 9 ?_;refine kf (aE (λh=>h J))<|go 4 ?_;exact Xn d () results278 J aA Za
theorem Ykk{y:Int}:Xy prog 247 #[.int .i64 x,.int .i64 y] [] (.bool (decide (x<y))):=by refine Zg func247 ntmps247 λg f e d=>go 8 ?_;refine cl 0 [] Yph λ_ _=>go 14 ?_;exact Xn d () results247 J aA Za
theorem Yd6(x:Nat)(e:x<U):Xy prog 204 #[.int .u64 (x:Int)] [] (.int .i64 (bl x:Int)):=by refine Zg func204 ntmps204 λh g f d=>go 12 ?_;refine cl 0 [] (Zva e) λ_ _=>go 4 ?_;exact Xn d () results204 J aA Za
theorem sl_ins{c:Nat}(H:1<=xs.length)(M:xs.length<=12):Zc1 prog 241 #[.slice (some ⟨b,0,none⟩) xs.length c,.int .i64 0,.int .i64 (xs.length:Int)] [] false b 3 (wcr xs r) (G:=List Int) (λg=>Sam xs g/\Srt g g.length) (λg=> .tuple #[]) (λg=>wcr g r) (λg=>[]):=by
 refine Eg func241 J ntmps241 J aA ?_;intro P N n F;have n:=Hw.mk n;simp only [Qq,Yt];refine go 8 ⟨O1,?_⟩;refine lp (G:=Nat×List Int) [0,1,2] [0] (λq=>[(6,.int .i64 (q.1:Int))]) (λq=>[(1,box b 3 (wcr q.2 r))]) (λq=>(1<=q.1)/\(q.1<=xs.length)/\(Sam xs q.2)/\(Srt q.2 q.1)) (λq=>xs.length-q.1) (1,xs) ⟨O2,O2,Sam.rfl' xs,srt_1 xs⟩ K1 K1 ?_;rintro⟨i,l⟩ ⟨z,B,u,hs⟩;dsimp only at z B u hs;dsimp only;have D:=u.1;refine go 8 ?_;refine Zc J (λv=>?_) (λv=>?_)
 .refine go 11 ?_;refine lp (G:=Nat×List Int) [0,1,2,6] [0] (λq=>[(7,.int .i64 (q.1:Int))]) (λq=>[(1,box b 3 (wcr q.2 r))]) (λq=>(q.1<=i)/\(Sam xs q.2)/\(Ylj q.2 i q.1)) (λq=>q.1) (i,l) ⟨aI _,u,srtx_0 hs⟩ K1 K1 ?_;rintro⟨j,m⟩ ⟨o,d,t⟩;dsimp only at o d t;dsimp only;have I:=d.1;refine go 2 ?_;rcases Yod j with e|e
  .refine Xu (λ_=>False) [(0,0),(1,0),(2,0),(3,0),(4,2),(5,2),(6,2),(7,2),(8,2),(9,2),(10,2),(11,2),(12,2),(13,2),(14,0)]<|go 2 ?_;refine Xg J J (Xd (dF (Zcr J J J) (vB (aE O1))))<|go 26 ⟨O1,?_⟩;exact Yu (i+1,m) ⟨O2,O2,d,Yfb t o (.inl e)⟩ O2 K1 K1
  .refine Xu (λ_=>False) [(0,0),(1,0),(2,0),(3,0),(4,0),(5,0),(6,0),(7,0),(8,0),(9,0),(10,0),(11,0),(12,0),(13,1),(14,0)]<|go 2 ?_;refine Xg J J (Xd (dT (Zcr J J J) (vB (aJ O1))))<|go 3 ?_;refine Fl (Xd (Ys ( .pointer (some ⟨b,j,none⟩)) (Am j J J J Pf Ly O1 O1) (by rw [cD]))) J J J J J<|Fl (Xd (Ys ( .int .i64 (m.getD j 0)) (Zcq 1 J J J iA3 O1) (aL (λq=>Value.int .i64 (m.getD q 0)) O1))) J J J J J<|go 3 ⟨O1,?_⟩;refine Fl (Xd (Ys ( .pointer (some ⟨b,j-1,none⟩)) (Am (j-1) J J J Pf Ly O1 O1) (by rw [cD]))) J J J J J<|Fl (Xd (Ys ( .int .i64 (m.getD (j-1) 0)) (Zcq 1 J J J iA3 O1) (aL (λq=>Value.int .i64 (m.getD q 0)) O1))) J J J J J<|Zeh J J J J J (Pg 1 Ykk J J J K2 call247 Zr J n.h) λ_ _=>go 3 ?_;refine Zc J (λf=>?_) (λf=>?_)
   .have s:=f;refine go 4 ?_;refine Lb [] [17]<|Zt 6 [(0,0),(1,0),(2,0),(3,0),(4,0),(5,0),(6,0),(7,0),(8,0),(10,0),(11,0),(12,0)]<|go 8 ⟨O1,O1,?_⟩;refine Xg J J (Au (Ys ( .pointer (some ⟨b,j-1,none⟩)) (Am (j-1) J J J Pf Ly O1 O1) (by rw [cD])) aA)<|go 2 ?_;refine Xg J J (Au (Ys ( .pointer (some ⟨b,j,none⟩)) (Am j J J J Pf Ly O1 O1) (by rw [cD])) aA)<|go 1 ?_;refine Na 5 9 13 ?_ ?_
    .refine Ce J J (Zac (Ys ( .int .i64 (m.getD (j-1) 0)) (Zcq 1 J J J iA3 O1) (aL (λq=>Value.int .i64 (m.getD q 0)) O1)) J) (λ_ _=>?_);refine Zt 0 [(13,1),(14,0),(15,1),(16,0),(17,3)]<|Dg J (Zac (Ys ( .int .i64 (m.getD j 0)) (Zcq 1 J J J iA3 O1) (aL (λq=>Value.int .i64 (m.getD q 0)) O1)) J) (λ_ _=>?_);refine Xg J J (Au (Ys ( .pointer (some ⟨b,j,none⟩)) (Am j J J J Pf Ly O1 O1) (by rw [cD])) aA)<|Dg J (Zsb 1 J J J J J O3 Ly O1 J n.h (λ_ h=>nomatch h)) (λ_ _=>?_);refine Xg J J (Au (Ys ( .pointer (some ⟨b,j-1,none⟩)) (Am (j-1) J J J Pf Ly O1 O1) (by rw [cD])) aA)<|r3' J (Zsb 1 J J J J J O3 Ly (by rw [aT];omega) J n.h aA) λ_ _=>go 1 ?_;refine Yl<|go 7 ⟨O1,?_⟩;exact Yu (j-1,swp m j) ⟨O2,d.trans (Zy5 O1 O1),Zsh t O1 e o s⟩ O2 ⟨(aL (λq:Int=>some (Value.int .i64 q)) (show(j:Int)-1=((j-1:Nat):Int) by omega)),aA⟩ K1
    .refine Ce J J (Zac (Ys ( .int .i64 (m.getD j 0)) (Zcq 1 J J J iA3 O1) (aL (λq=>Value.int .i64 (m.getD q 0)) O1)) J) (λ_ _=>?_);refine Zt 0 [(9,1),(14,0),(15,1),(16,0),(17,3)]<|Dg J (Zac (Ys ( .int .i64 (m.getD (j-1) 0)) (Zcq 1 J J J iA3 O1) (aL (λq=>Value.int .i64 (m.getD q 0)) O1)) J) (λ_ _=>?_);refine Xg J J (Au (Ys ( .pointer (some ⟨b,j,none⟩)) (Am j J J J Pf Ly O1 O1) (by rw [cD])) aA)<|Dg J (Zsb 1 J J J J J O3 Ly O1 J n.h (λ_ h=>nomatch h)) (λ_ _=>?_);refine Xg J J (Au (Ys ( .pointer (some ⟨b,j-1,none⟩)) (Am (j-1) J J J Pf Ly O1 O1) (by rw [cD])) aA)<|r3' J (Zsb 1 J J J J J O3 Ly (by rw [aT];omega) J n.h aA) λ_ _=>go 1 ?_;refine Yl<|go 7 ⟨O1,?_⟩;exact Yu (j-1,swp m j) ⟨O2,d.trans (Zy5 O1 O1),Zsh t O1 e o s⟩ O2 ⟨(aL (λq:Int=>some (Value.int .i64 q)) (show(j:Int)-1=((j-1:Nat):Int) by omega)),aA⟩ K1
   .have y:=f;refine go 11 ⟨O1,?_⟩;exact Yu (i+1,m) ⟨O2,O2,d,Yfb t o (.inr ⟨e,y⟩)⟩ O2 K1 K1
 .obtain rfl:i=xs.length:=O1;refine go 4 ?_;exact El (.inr J) F l (λa w hs=>res0 hs results241) J ⟨u,by rw [D];exact hs⟩ 1 J J J J Za
theorem sl_pdq{c:Nat}{j:Int}(e:1<=xs.length)(n:xs.length<=12):Zc1 prog 203 #[.slice (some ⟨b,0,none⟩) xs.length c,.int .i64 0,.int .i64 (xs.length:Int),.int .i64 j] [] false b 3 (wcr xs r) (G:=List Int) (λg=>Sam xs g/\Srt g g.length) (λg=> .tuple #[]) (λg=>wcr g r) (λg=>[]):=by refine Eg func203 J ntmps203 J aA ?_;intro s o h f;have h:=Hw.mk h;simp only [Qq,Yt];refine go 11 ?_;refine lp (G:=Nat) [0] [0,1] (λk=>[(1,.int .i64 0),(2,.int .i64 (xs.length:Int))]) (λk=>[]) (λk=>True) (λk=>k) 0 aA K2 aA ?_;rintro k -;refine go 13 ⟨O1,?_⟩;refine kt (aJ O1)<|go 8 ?_;refine tt (Ql 1 1 (sl_ins e n) J J J K3 call241 J O3 Zr J h.h aA) λl d=>go 7 ?_;exact El (.inl J) f l (λa w hs=>res0 hs results203) J d 1 J J J J Za
theorem Ymh{c:Nat}(e:1<=xs.length)(l:xs.length<=12):Zc1 prog 150 #[.slice (some ⟨b,0,none⟩) xs.length c] [] false b 3 (wcr xs r) (G:=List Int) (λg=>Sam xs g/\Srt g g.length) (λg=> .tuple #[]) (λg=>wcr g r) (λg=>[]):=by refine Eg func150 J ntmps150 J aA ?_;intro o n h f;have h:=Hw.mk h;simp only [Qq,Yt];refine go 3 ?_;refine dt (Zqz J J Pf)<|go 7 ?_;refine dt (Ys ( .int .u64 (xs.length:Int)) (Zq3 J J uT3 Zye (by simp only [U];omega)) J)<|cl 1 [] (Yd6 xs.length (by simp only [U];omega)) λ_ _=>?_;refine tt (Ql 1 1 (sl_pdq e l) J J J K4 call203 J O3 Zr J h.h aA) λj d=>go 1 ?_;exact El (.inr J) f j (λa w hs=>res0 hs results150) J d 1 J J J J Za
theorem sl_cmp{c:Nat}(R:2<=xs.length)(W:xs.length<=12)(S:xs.length<=c)(n:Srt xs xs.length):Zc1 prog 151 #[.slice (some ⟨b,0,none⟩) xs.length c] [] false b 3 (wcr xs r) (G:=List Int×List Value) (λg=>Cmp xs g.1/\g.1.length+g.2.length=xs.length+r.length) (λg=> .slice (some ⟨b,0,none⟩) g.1.length c) (λg=>wcr g.1 g.2) (λg=>[]):=by
 refine Eg func151 J ntmps151 J aA ?_;intro Z Y u t;have u:=Hw.mk u;simp only [Qq,Yt];refine go 9 ?_;refine dt (Zqz J J Pf)<|kf (aE O1)<|go 12 ?_;refine lp (G:=Nat) [0] [0,1] (λk=>[(3,.int .i64 (k:Int))]) (λk=>[]) (λk=>(1<=k)/\(k<=xs.length)/\(∀q,1<=q->q<k->xs.getD q 0≠xs.getD (q-1) 0)) (λk=>xs.length-k) 1 ⟨O2,O2,λq F H=>absurd H O1⟩ K1 aA ?_;rintro k ⟨z,M,v⟩;refine go 5 ?_;refine dt (Zqz J J Pf)<|go 3 ?_;refine Zc J (λo=>?_) (λo=>?_)
 .refine go 5 ?_;refine Xu (λ_=>False) [(0,0),(1,0),(2,0),(3,0),(4,0),(5,0),(6,0),(7,0),(8,0),(9,0)]<|go 2 ?_;refine Xg J J (Xd (Ys ( .pointer (some ⟨b,k,none⟩)) (Am k J J J Pf Ly O1 O1) (by rw [cD])))<|Xg J J (Xd (Ys ( .int .i64 (xs.getD k 0)) (Zcq 1 J J J iA3 O1) (aL (λq=>Value.int .i64 (xs.getD q 0)) O1)))<|go 3 ⟨O1,?_⟩;refine Xg J J (Xd (Ys ( .pointer (some ⟨b,k-1,none⟩)) (Am (k-1) J J J Pf Ly O1 O1) (by rw [cD])))<|Xg J J (Xd (Ys ( .int .i64 (xs.getD (k-1) 0)) (Zcq 1 J J J iA3 O1) (aL (λq=>Value.int .i64 (xs.getD q 0)) O1)))<|go 3 ?_;refine Zc J (λd=>?_) (λd=>?_)
  .have I:=d;refine go 4 ?_;refine dt (Ys ( .slice (some ⟨b,k,none⟩) (xs.length-k) (c-k)) (Yjz k J J J Pf Ly J O1 O1) (by rw [cD]))<|go 10 ?_;refine lp (G:=Nat×Nat×List Int) [0,4] [0] (λq=>[(5,.int .i64 (q.1:Int)),(3,.int .i64 (q.2.1:Int))]) (λq=>[(1,box b 3 (wcr q.2.2 r))]) (λq=>(1<=q.1)/\(Cml xs q.2.2 (k+q.1) q.2.1)) (λq=>xs.length-k-q.1) (1,k,xs) ⟨O2,cml_0 n v z O1 I⟩ K2 K1 ?_;rintro⟨j,kk,l⟩ ⟨y,f⟩;dsimp only at y f;dsimp only;have V:=f.ll;have N:=f.k1;have P:=f.km;have Q:=f.ml;refine go 5 ?_;refine dt (Zqz J J Pf)<|go 3 ?_;refine Zc J (λs=>?_) (λs=>?_)
   .refine go 5 ?_;refine Xu (λ_=>False) [(0,0),(1,0),(2,0),(3,0),(4,0),(5,0),(6,0),(7,0),(8,0),(9,0)]<|go 2 ?_;refine Xg J J (Xd (Am j J J J Pf Ly O1 O1))<|Xg J J (Xd (Ys ( .int .i64 (l.getD (k+j) 0)) (Zcq 1 J J J iA3 O1) (aL (λq=>Value.int .i64 (l.getD q 0)) O1)))<|go 3 ⟨O1,?_⟩;refine Xg J J (Xd (Am (j-1) J J J Pf Ly O1 O1))<|Xg J J (Xd (Ys ( .int .i64 (l.getD (k+j-1) 0)) (Zcq 1 J J J iA3 O1) (aL (λq=>Value.int .i64 (l.getD q 0)) O1)))<|go 3 ?_;refine Zc J (λe=>?_) (λe=>?_)
    .have h:=e;refine go 6 ?_;refine dt (Am j J J J Pf Ly O1 O1)<|dt (Ys ( .int .i64 (l.getD (k+j) 0)) (Zcq 1 J J J iA3 O1) (aL (λq=>Value.int .i64 (l.getD q 0)) O1))<|dt (Ys ( .pointer (some ⟨b,kk,none⟩)) (Am kk J J J Pf Ly J O1) (by rw [cD]))<|tt (Zsb 1 J J J J J O3 Ly O1 J u.h aA) (λ_ _=>?_);refine go 14 ⟨O1,O1,?_⟩;exact Yu (j+1,kk+1,l.set kk (l.getD (k+j) 0)) ⟨O2,cml_ne (m:=k+j) n f O1 h⟩ O2 K2 K1
    .have h:=e;refine go 8 ⟨O1,?_⟩;exact Yu (j+1,kk,l) ⟨O2,cml_eq (m:=k+j) f O1 (gL.1 h)⟩ O2 K2 K1
   .obtain B:k+j=xs.length:=O1;rw [B]at f;refine go 9 ?_;refine dt (Ys ( .slice (some ⟨b,kk,none⟩) (xs.length-kk) (c-kk)) (Yjz kk J J J Pf Ly J O1 O1) (by rw [cD]))<|tt (t_clw (i:=1) J J J J O3 O1 O1 Pf Ly (λw=>zeroValue3 w) J u.h aA) λ_ _=>go 6 ?_;refine dt (d_prew (i:=kk) J J J Pf Ly J O1 O1)<|go 9 ?_;exact El (.inl J) t (l.take kk,List.replicate (xs.length-kk) (.int .i64 0) ++ r) (λa w hs=>Za6 hs results151 J) (by rw [aR,dM O1]) ⟨cml_e f,O9⟩ 1 J J J J Za
  .have D:=d;refine go 8 ⟨O1,?_⟩;exact Yu (k+1) ⟨O2,O2,hd_s v D⟩ O2 K1 aA
 .refine go 12 ?_;exact El (.inl J) t (xs,r) (λa w hs=>Za6 hs results151 J) J ⟨Ypi n (λq F H=>v q F O1),J⟩ 1 J J J J Za
def Ix(f:Nat->Rat):Nat->Rat
 | 0=>0
 | n+1=>Ix f n+f n
def Nc(f:Nat->Rat)(n:Nat):Ix f (n+1)=Ix f n+f n:=rfl
theorem Mv{f g:Nat->Rat} : ∀n,(∀i,i<n->f i=g i)->Ix f n=Ix g n
 | 0,_=>rfl
 | n+1,h=>by rw [Nc,Nc,Mv n λi hi=>h i O1,h n O1]
theorem Eu(f:Nat->Rat):∀n,Ix f (n+1)=f 0+Ix (λi=>f (i+1)) n
 | 0=>by show 0+f 0=f 0+0;grind
 | n+1=>by rw [Nc,Eu f n,Nc];grind
theorem Zkv(f g:Nat->Rat):∀n,Ix (λi=>f i+g i) n=Ix f n+Ix g n
 | 0=>by show(0:Rat)=0+0;grind
 | n+1=>by rw [Nc,Nc,Nc,Zkv f g n];grind
theorem Fs(c:Rat)(f:Nat->Rat):∀n,Ix (λi=>c*f i) n=c*Ix f n
 | 0=>by show(0:Rat)=c*0;grind
 | n+1=>by rw [Nc,Nc,Fs c f n];grind
theorem Zl5(n:Nat):Oa n 0=1:=by cases n<;>rfl
def chz_s(n k:Nat):Oa (n+1) (k+1)=Oa n k+Oa n (k+1):=rfl
theorem Ykz{u w:Rat}(h:u+w=1):∀n,Ix (λj=>(Oa n j:Rat)*(u^j*w^(n-j))) (n+1)=1
 | 0=>by rw [Eu];show((Oa 0 0:Nat):Rat)*(u^0*w^0)+0=1;rw [Zl5,eZ,eZ];push_cast;grind
 | n+1=>by
  have d:=Ykz h n;rw [Eu];have e:Ix (λi=>(Oa (n+1) (i+1):Rat)*(u^(i+1)*w^(n+1-(i+1)))) (n+1)=Ix (λi=>u*((Oa n i:Rat)*(u^i*w^(n-i)))) (n+1)+Ix (λi=>(Oa n (i+1):Rat)*(u^(i+1)*w^(n-i))) (n+1):=by rw [<-Zkv];refine Mv _ λi hi=>?_;rw [chz_s,show n+1-(i+1)=n-i by omega,eD];push_cast;grind
  have f:Ix (λi=>(Oa n (i+1):Rat)*(u^(i+1)*w^(n-i))) (n+1)=Ix (λi=>(Oa n (i+1):Rat)*(u^(i+1)*w^(n-i))) n:=by rw [Nc,Zl4 n (n+1) O1];push_cast;grind
  have g:w*Ix (λj=>(Oa n j:Rat)*(u^j*w^(n-j))) (n+1)=w^(n+1)+Ix (λi=>(Oa n (i+1):Rat)*(u^(i+1)*w^(n-i))) n:=by
   rw [<-Fs,Eu,Zl5];congr 1
   .rw [jJ,eZ,eD];push_cast;grind
   .refine Mv _ λi hi=>?_;rw [show n-i=(n-(i+1))+1 by omega,eD w];grind
  rw [e,f,Fs,d];rw [d]at g;rw [Zl5,eZ,jJ];push_cast;grind
def It(d:Nat)(c:List Int)(j:Nat):Int:=Yg (λi=>cf c i*(Oa (d-i) (j-i):Int)) (j+1)
theorem brS_0(d:Nat)(a:Int)(c:List Int):It d (a::c) 0=a:=by unfold It;rw [Yn,He];show 0+a*((Oa (d-0) (0-0):Nat):Int)=a;rw [show 0-0=0 from rfl,Zl5];omega
theorem brS_s(d:Nat)(a:Int)(c:List Int)(j:Nat):It (d+1) (a::c) (j+1)=a*(Oa (d+1) (j+1):Int)+It d c j:=by unfold It;rw [Ld];congr 1;refine Yx λi hi=>?_;rw [show d+1-(i+1)=d-i by omega,show j+1-(i+1)=j-i by omega];rfl
theorem Ypx(d j:Nat):It d [] j=0:=by unfold It;exact(Zg3 (m:=0) (bJ _) λi _ _=>by rw [show cf [] i=0 from rfl,dD]).trans (He _)
theorem bern{u w:Rat}(h:u+w=1):∀(d:Nat) (c:List Int),c.length<=d+1->Ix (λj=>(It d c j:Rat)*(u^j*w^(d-j))) (d+1)=Zb c u
 | d,[],_=>by
  rw [Mv (g:=λ_=>0) (d+1) λi hi=>by rw [Ypx];push_cast;grind];show Ix (λ_=>0) (d+1)=0;have:∀n,Ix (λ_=>0) n=0:=λn=>by
   induction n with
   | zero=>rfl
   | succ n f=>rw [Nc,f];grind
  exact this _
 | 0,[a],_=>by rw [Nc,brS_0];show 0+(a:Rat)*(u^0*w^0)=(a:Rat)+u*0;rw [eZ,eZ];grind
 | 0,a::b::c,hl=>by simp at hl
 | d+1,a::c,hl=>by
  have f:=bern h d c (by simpa using hl);have e:=Ykz h (d+1);rw [Eu]at e;rw [Eu,brS_0];have l:Ix (λi=>(It (d+1) (a::c) (i+1):Rat)*(u^(i+1)*w^(d+1-(i+1)))) (d+1)=(a:Rat)*Ix (λi=>(Oa (d+1) (i+1):Rat)*(u^(i+1)*w^(d+1-(i+1)))) (d+1)+u*Ix (λj=>(It d c j:Rat)*(u^j*w^(d-j))) (d+1):=by rw [<-Fs,<-Fs,<-Zkv];refine Mv _ λi hi=>?_;rw [brS_s,show d+1-(i+1)=d-i by omega,eD];push_cast;grind
  rw [l,f];show _=(a:Rat)+u*Zb c u;rw [Zl5]at e;push_cast at e ⊢;grind
theorem Dj(a:Int):∀(c:List Int) (i:Nat),cf (c.map λx=>a*x) i=a*cf c i
 | [],i=>by rw [jM,show cf [] i=0 from rfl,eG]
 | x::c,0=>rfl
 | x::c,i+1=>Dj a c i
theorem Zwa(c:List Int)(a b e:Int)(u:Rat):Zb (mk (c.length+1) λt=>cf c t*a+(if t=0 then e else cf c (t-1)*b)) u=Zb c u*((a:Rat)+(b:Rat)*u)+(e:Rat):=by
 have h:Zb (mk (c.length+1) λt=>cf c t*a+(if t=0 then e else cf c (t-1)*b)) u=Zb (Nx (c.map λx=>a*x) (e::c.map λx=>b*x)) u:=Oh u _ _ λi=>by
  rw [Nz,Dj,Nk]
  match i with
  | 0=>rw [aK O1,aK rfl];show cf c 0*a+e=a*cf c 0+e;rw [dB]
  | i+1=>
   show _=a*cf c (i+1)+cf (c.map λx=>b*x) i;rw [Dj];by_cases hi:i<c.length
   .rw [aK O1,aH O1,fY,dB,dB (cf c i)]
   .rw [aH O1,Yr (p:=c) (i:=i+1) O1,Yr (p:=c) (i:=i) O1];omega
 rw [h,Xc,Zi];show _+((e:Rat)+u*Zb (c.map λx=>b*x) u)=_;rw [Zi];grind
theorem Zs1(p:List Int)(a b d:Int){t u:Rat}(f:t*(d:Rat)=(a:Rat)+(b:Rat)*u):∀j,j+1<=p.length->Zb (Lc p a b d j) u=(d:Rat)^j*Zb (p.drop (p.length-1-j)) t
 | 0,h=>by
  have e:p.drop (p.length-1-0)=[cf p (p.length-1)]:=by rw [jJ,dS O1,jL O1];congr 1;unfold cf;rw [aC,aD O1];rfl
  rw [Da,e,eZ,Pb,Pb];grind
 | j+1,h=>by
  have g:=Zs1 p a b d f j O1;have e:p.drop (p.length-1-(j+1))=cf p (p.length-2-j)::p.drop (p.length-1-j):=by rw [dS O1,show p.length-1-(j+1)+1=p.length-1-j by omega];congr 1;unfold cf;rw [aC,aD O1];show p[p.length-1-(j+1)]=p[p.length-2-j];congr 1;omega
  rw [Yd3,Zwa,g,e,<-f];show _=(d:Rat)^(j+1)*((cf p (p.length-2-j):Rat)+t*Zb (p.drop (p.length-1-j)) t);rw [eD];push_cast;rw [eD];generalize (d:Rat)^j=D;grind
theorem Zkr(a b d:Int){t u:Rat}(f:t*(d:Rat)=(a:Rat)+(b:Rat)*u)(e:p.length≠0):Zb (Kt p a b d) u=(d:Rat)^(p.length-1)*Zb p t:=by unfold Kt;rw [aH e,Oh u (tzl _) _ (λi=>Il _ i),Zs1 p a b d f (p.length-1) O1,iF,iK]
def Yjy:List Int->List Int
 | []=>[]
 | a::p=>a::0::Yjy p
theorem Zo6(x:Rat):∀p:List Int,Zb (Yjy p) x=Zb p (x*x)
 | []=>rfl
 | a::p=>by show(a:Rat)+x*(((0:Int):Rat)+x*Zb (Yjy p) x)=(a:Rat)+x*x*Zb p (x*x);rw [Zo6 x p];push_cast;grind
theorem Zxq:∀(p:List Int) (i:Nat),cf (Yjy p) (2*i)=cf p i
 | [],i=>rfl
 | a::p,0=>rfl
 | a::p,i+1=>by show cf (0::Yjy p) (2*i+1)=cf p i;exact Zxq p i
theorem Yfg(x:Rat):0<=x*x:=by
 rcases(show 0<=x\/x<=0 by grind)with h|h
 .exact aM h h
 .have:=aM (show 0<=-x by grind) (show 0<=-x by grind);grind
theorem Zs0(h:∀x:Rat,0<=x->Zb p x=Zb q x)(i:Nat):cf p i=cf q i:=by rw [<-Zxq p,<-Zxq q];exact Om (λx=>by rw [Zo6,Zo6];exact h _ (Yfg x)) _
theorem Zfk(f:Nat->Int)(x:Rat):∀n,Zb (mk n f) x=Ix (λj=>(f j:Rat)*x^j) n
 | 0=>rfl
 | n+1=>by rw [Zdg,Zsz,Zfk f x n,Yp,Nc]
def NN(p:List Int):Prop:=∀i,0<=cf p i
theorem NN.smul{c:Int}(d:0<=c)(h:NN p):NN (p.map λa=>c*a):=λi=>by rw [Dj];exact eT d (h i)
theorem NN.add(d:NN p)(e:NN q):NN (Nx p q):=λi=>by rw [Nz];exact Int.add_nonneg (d i) (e i)
theorem NN.lmul{q:List Int}(d:NN q):∀{p:List Int},NN p->NN (lmul p q)
 | [],_=>λi=>by show 0<=cf [] i;rw [show cf [] i=0 from rfl];exact eY _
 | c::p,h=>NN.add (NN.smul (h 0) d) λi=>by
  match i with
  | 0=>exact eY _
  | i+1=>exact NN.lmul d (p:=p) (λj=>h (j+1)) i
def lpw(l:List Int):Nat->List Int
 | 0=>[1]
 | k+1=>lmul l (lpw l k)
theorem Zo3(l:List Int)(x:Rat):∀k,Zb (lpw l k) x=Zb l x^k
 | 0=>by rw [eZ];show((1:Int):Rat)+x*0=1;push_cast;grind
 | k+1=>by rw [show lpw l (k+1)=lmul l (lpw l k)from rfl,Zu,Zo3 l x k,eD,kW]
theorem NN.lpw{l:List Int}(h:NN l):∀k,NN (lpw l k)
 | 0=>λi=>by
  show 0<=cf [1] i
  match i with
  | 0=>exact Int.one_nonneg
  | i+1=>exact eY _
 | k+1=>NN.lmul (NN.lpw h k) h
theorem NN.two{b:Int}(d:0<=a)(e:0<=b):NN [a,b]:=λi=>by
 match i with
 | 0=>exact d
 | 1=>exact e
 | i+2=>exact eY _
def sQ(f:Nat->Int)(W:Nat->List Int):Nat->List Int
 | 0=>[]
 | k+1=>Nx (sQ f W k) ((W k).map λa=>f k*a)
theorem Zv9(f:Nat->Int)(W:Nat->List Int)(x:Rat):∀k,Zb (sQ f W k) x=Ix (λi=>(f i:Rat)*Zb (W i) x) k
 | 0=>rfl
 | k+1=>by rw [show sQ f W (k+1)=Nx (sQ f W k) ((W k).map λa=>f k*a)from rfl,Xc,Zv9 f W x k,Zi,Nc]
theorem sQ_le{f g:Nat->Int}{W:Nat->List Int}{B:Int}(d:∀i,NN (W i)):∀k,(∀i,i<k->((f i).natAbs:Int)<=B*g i)->∀j,((cf (sQ f W k) j).natAbs:Int)<=B*cf (sQ g W k) j
 | 0,_,j=>by show((cf [] j).natAbs:Int)<=B*cf [] j;rw [show cf [] j=0 from rfl];simp
 | k+1,h,j=>by
  have u:=sQ_le d k (λi hi=>h i O1) j;have l:=h k O1;show((cf (Nx (sQ f W k) ((W k).map λa=>f k*a)) j).natAbs:Int)<=B*cf (Nx (sQ g W k) ((W k).map λa=>g k*a)) j;rw [Nz,Nz,Dj,Dj,mJ,<-fF];have n:=d k j;have o:((f k*cf (W k) j).natAbs:Int)<=B*g k*cf (W k) j:=by rw [cL];push_cast;have e:((cf (W k) j).natAbs:Int)=cf (W k) j:=O1;rw [e];exact fP l n
  generalize B*g k*cf (W k) j=t at *;generalize f k*cf (W k) j=s at *;generalize B*cf (sQ g W k) j=r at *;omega
theorem Zk6(a b:Rat):∀n:Nat,(a*b)^n=a^n*b^n
 | 0=>by rw [eZ,eZ,eZ];grind
 | n+1=>by rw [eD,eD,eD,Zk6 a b n];grind
theorem Yb6(a:Rat)(m:Nat):∀n:Nat,a^(m+n)=a^m*a^n
 | 0=>by rw [eH,eZ];grind
 | n+1=>by rw [<-gT,eD,eD,Yb6 a m n];grind
theorem Yk0{U V S:Rat}(h:U+V=S)(n:S≠0){d:Nat}(l:c.length<=d+1):Ix (λj=>(It d c j:Rat)*(U^j*V^(d-j))) (d+1)=S^d*Zb c (U/S):=by
 rw [<-bern (u:=U/S) (w:=V/S) (by rw [<-h];grind) d c l,<-Fs];refine Mv _ λj o=>?_;have e:U^j=S^j*(U/S)^j:=by rw [<-Zk6];congr 1;grind
 have f:V^(d-j)=S^(d-j)*(V/S)^(d-j):=by rw [<-Zk6];congr 1;grind
 have g:S^d=S^j*S^(d-j):=by rw [<-Yb6];congr 1;omega
 rw [e,f,g];grind
theorem Ybv{U V S:Rat}(h:U+V=S)(l:S≠0)(d:Nat):Ix (λj=>(Oa d j:Rat)*(U^j*V^(d-j))) (d+1)=S^d:=by
 have:=Ykz (u:=U/S) (w:=V/S) (by rw [<-h];grind) d;rw [<-Rat.mul_one (S^d),<-this,<-Fs];refine Mv _ λj n=>?_;have e:U^j=S^j*(U/S)^j:=by rw [<-Zk6];congr 1;grind
 have f:V^(d-j)=S^(d-j)*(V/S)^(d-j):=by rw [<-Zk6];congr 1;grind
 have g:S^d=S^j*S^(d-j):=by rw [<-Yb6];congr 1;omega
 rw [e,f,g];grind
theorem Zzb(a b:Int)(x:Rat):Zb [a,b] x=(a:Rat)+(b:Rat)*x:=by show(a:Rat)+x*((b:Rat)+x*0)=_;grind
theorem onepw(n:Nat):(1:Rat)^n=1:=by
 induction n with
 | zero=>rw [eZ]
 | succ n d=>rw [eD,d];grind
theorem Zbp(d:Int)(n:Nat):((d^n:Int):Rat)=(d:Rat)^n:=by
 induction n with
 | zero=>rw [cT,eZ];rfl
 | succ n e=>rw [dU,eD,<-e];push_cast;rfl
def Wij(a e d:Int)(n i:Nat):List Int:=lmul (lpw [a,e] i) (lpw [d-a,d-e] (n-i))
def Wij_nn{e d:Int}(f:0<=a)(g:0<=e)(h:a<=d)(j:e<=d)(n i:Nat):NN (Wij a e d n i):=NN.lmul (NN.lpw (NN.two O1 O1) _) (NN.lpw (NN.two f g) _)
theorem Zzd(a e d:Int)(n i:Nat)(x:Rat):Zb (Wij a e d n i) x=((a:Rat)+(e:Rat)*x)^i*(((d-a:Int):Rat)+((d-e:Int):Rat)*x)^(n-i):=by unfold Wij;rw [Zu,Zo3,Zo3,Zzb,Zzb]
theorem Ypz {X:List Int} {n:Nat} (hl:c.length<=n+1) (hX:X.length<=n+1) {b d B:Int} (ha:0<=a) (hb:0<=b) (G:a+b<=d) (M:0<d) (hr:∀t u:Rat,t*(d:Rat)=(a:Rat)+(b:Rat)*u->Zb X u=(d:Rat)^m*Zb c t)
  (hB:∀j,j<n+1->((It n c j).natAbs:Int)<=B*(Oa n j:Int)):∀j,j<n+1->((It n X j).natAbs:Int)<=B*d^m*(Oa n j:Int):=by
 have Q:(0:Rat)<(d:Rat):=by exact_mod_cast M
 have l:∀x:Rat,0<=x->(x+1)≠0:=λx e h=>O5;have s:∀x:Rat,((a:Rat)+((a+b:Int):Rat)*x)+(((d-a:Int):Rat)+((d-(a+b):Int):Rat)*x)=(d:Rat)*(x+1):=λx=>by push_cast;grind
 have o:∀x:Rat,0<=x->(d:Rat)*(x+1)≠0:=λx e h=>by have:=aV Q (show(0:Rat)<x+1 by grind);grind
 have R:∀x:Rat,0<=x->Zb (sQ (λi=>(Oa n i:Int)) (Wij a (a+b) d n) (n+1)) x=Zb (mk (n+1) λj=>d^n*(Oa n j:Int)) x:=λx e=>by
  rw [Zv9,Zfk];have y:=Ybv (s x) (o x e) n;have z:=Ybv (U:=x) (V:=1) (S:=x+1) rfl (l x e) n;have D:Ix (λi=>(((Oa n i:Nat):Int):Rat)*Zb (Wij a (a+b) d n i) x) (n+1)=((d:Rat)*(x+1))^n:=by rw [<-y];exact Mv _ λj v=>by rw [Zzd];push_cast;rfl
  rw [D,Zk6,<-z,<-Fs];refine Mv _ λj v=>?_;rw [onepw];push_cast;rw [<-Zbp];push_cast;grind
 have Y:∀x:Rat,0<=x->Zb (mk (n+1) λj=>d^n*It n X j) x=Zb ((sQ (It n c) (Wij a (a+b) d n) (n+1)).map λq=>d^m*q) x:=λx e=>by
  rw [Zi,Zv9,Zfk];have y:=Yk0 (s x) (o x e) hl;have z:=Yk0 (U:=x) (V:=1) (S:=x+1) rfl (l x e) hX;have D:Ix (λi=>((It n c i:Int):Rat)*Zb (Wij a (a+b) d n i) x) (n+1)=((d:Rat)*(x+1))^n*Zb c (((a:Rat)+((a+b:Int):Rat)*x)/((d:Rat)*(x+1))):=by rw [<-y];exact Mv _ λj v=>by rw [Zzd]
  have e4:Ix (λj=>((d^n*It n X j:Int):Rat)*x^j) (n+1)=(d:Rat)^n*Ix (λj=>(It n X j:Rat)*(x^j*1^(n-j))) (n+1):=by rw [<-Fs];refine Mv _ λj v=>?_;rw [onepw,<-Zbp];push_cast;grind
  rw [D,e4,z,hr (((a:Rat)+((a+b:Int):Rat)*x)/((d:Rat)*(x+1))) (x/(x+1)) ?_,Zk6,Zbp]
  .grind
  .have F:=l x e;have w:(d:Rat)≠0:=O5;push_cast;grind
 have H:=Zs0 R;have I:=Zs0 Y;intro j v;have F:=H j;have w:=I j;rw [Nk,aK v]at F w;rw [Dj]at w;have Z:=sQ_le (f:=It n c) (g:=λi=>(Oa n i:Int)) (W:=Wij a (a+b) d n) (B:=B) (Wij_nn ha O1 O1 G n) (n+1) hB j;rw [F]at Z;have P:0<d^n:=jG M;have N:0<=d^m:=eQ (jG M);have h4:((d^n*It n X j).natAbs:Int)=d^n*((It n X j).natAbs:Int):=by rw [cL];push_cast;rw [show((d^n).natAbs:Int)=d^n by omega]
 have h5:((d^m*cf (sQ (It n c) (Wij a (a+b) d n) (n+1)) j).natAbs:Int)=d^m*((cf (sQ (It n c) (Wij a (a+b) d n) (n+1)) j).natAbs:Int):=by rw [cL];push_cast;rw [show((d^m).natAbs:Int)=d^m by omega]
 have h6:=jH Z N;rw [<-h5,<-w,h4]at h6;refine mI (a:=d^n) ?_ P;refine Int.le_trans h6 (pH ?_);generalize d^n=p;generalize d^m=q;generalize (Oa n j:Int)=r;grind
end Go.Sky

