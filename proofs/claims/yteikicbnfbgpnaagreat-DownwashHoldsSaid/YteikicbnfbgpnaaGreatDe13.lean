/- Rules, arithmetic and contracts: part 14. No conditions but those that each theorem names. -/
import Derived.Test.YteikicbnfbgpnaaGreatDe12
set_option linter.all false
set_option maxHeartbeats 4000000
namespace Go.Sky
variable{m i:Nat}{x y z c l1 l2 l3:List Int}{d d0:SL×List Int}{a ov:Int}{b v u:Value}{f:Nat->Value}{zs:List (SL×List Int)}{s:SL}{M M0:Nat->Prop}
def joG(g h:Zi):Bool:=joinB g.1.1 g.1.2.1 g.1.2.2 g.2.1.2 g.2.2.1.2 g.2.2.2.2 h.1.1 h.1.2.1 h.1.2.2 h.2.1.2 h.2.2.1.2 h.2.2.2.2
def joAll(ps:List Zi):Bool:=(List.range ps.length).all λi=>decide (i=0) || joG (ps.getD (i-1) G0) (ps.getD i G0)
def topV(ps:List Zi):Int×Int×Int:=
 if 10000<Yi2 1 ps\/10000<Yi2 2 ps then(0,0,3)else if joAll ps then((Yi2 1 ps:Int),(Yi2 2 ps:Int),0)else(0,0,10)
theorem Zxc{ps:List Zi}(l:∀g∈ps,Gin g)(k:Yt ps=true):∀g∈ps,SgG g:=λg j=>by obtain⟨i,hi,e⟩:=eT.1 j;have h:=Lm ((Yz k).1 i hi);rw [aF,aL hi,eZ,e]at h;exact Nx (l g j) h
def g8(g:Zi):Bool:=decide (g.2.1.2.length<=8) && decide (g.2.2.1.2.length<=8) && decide (g.2.2.2.2.length<=8)
def Zaz(ps:List Zi)(m:Nat):Bool:=(List.range ps.length).all (λi=>decide (m<i) || g8 (ps.getD i G0)) && decide (ps.length<=m)
theorem g8_t{g:Zi}(e:g.2.1.2.length<=8)(h:g.2.2.1.2.length<=8)(j:g.2.2.2.2.length<=8):g8 g=true:=by unfold g8;rw [aM e,aM h,aM j];rfl
theorem g8_f{g:Zi}(h:¬(g.2.1.2.length<=8/\g.2.2.1.2.length<=8/\g.2.2.2.2.length<=8)):g8 g=false:=by
 cases hb:g8 g with
 | false=>rfl
 | true=>
  unfold g8 at hb;simp only [aO,cK]at hb;exact absurd ⟨hb.1.1,hb.1.2,hb.2⟩ h
theorem Zu2{ps:List Zi}(hi:i<ps.length)(e:i<=m)(h:g8 (ps.getD i G0)=false):Zaz ps m=false:=by
 cases hb:Zaz ps m with
 | false=>rfl
 | true=>
  unfold Zaz at hb;rw [aO]at hb;have:=cL.1 hb.1 i (gE.2 hi);rw [h,aJ O1]at this;cases this
theorem Yf0{ps:List Zi}{n:Nat}(e:n=ps.length\/m<n)(h:∀k,k<n->g8 (ps.getD k G0)=true):Zaz ps m=decide (ps.length<=m):=by
 unfold Zaz;rw [cL.2 λi hi=>by
  have hi:=gE.1 hi;rcases bC m i with q|q
  .rw [aM q];rfl
  .rw [h i O1,Bool.or_true]]
 rfl
theorem Yl8:∀n,n<=5->∀i,i<n->(Pp n i:Int)*((n:Int)-(i:Int))/((i:Int)+1)=(Pp n (i+1):Int):=by intro n g i hi;have e:∀n,n<6->∀i,i<n->(Pp n i:Int)*((n:Int)-(i:Int))/((i:Int)+1)=(Pp n (i+1):Int):=O8;exact e n O1 i hi
theorem getD3{α:Type}{a b c d:α}(h:i<3):[a,b,c].getD i d=Zk i a b c:=by
 match i,h with
 | 0,_=>rfl
 | 1,_=>rfl
 | 2,_=>rfl
theorem Yc7{α β:Type}(i:Nat)(a b c:α×β):(Zk i a b c).2=Zk i a.2 b.2 c.2:=by unfold Zk;split<;>rfl
theorem Ybo{e g j:SL}(h:i<3):([(e,x),(g,y),(j,z)].getD i d).2=Zk i x y z:=by rw [getD3 h,Yc7]
theorem Zt6{b:Int} : 0<(a-b).sign↔b<a:=by rw [sgp];omega
theorem Yc0{b:Int} : (a-b).sign<0↔a<b:=by rw [Pq];omega
def Ylu(t m:Int):m<t\/(¬m<t/\t < -m)\/(¬m<t/\¬t < -m):=O1
def axc(c:List Int):Bool:=!(decide (1<=c.length) && decide (c.length<=6) && !(decide (1<c.length) && decide (c.getD (c.length-1) 0=0)))
theorem axc_f{b:Bool}(h:b=axc c)(e:b=false):1<=c.length/\c.length<=6/\¬(1<c.length/\c.getD (c.length-1) 0=0):=by subst h;unfold axc at e;simp only [Bool.not_eq_false',aO,fP,jB,cK,gI]at e;exact⟨e.1.1,e.1.2,λh=>by rcases e.2 with q|q;exact q h.1;exact q h.2⟩
theorem axc_t{b:Bool}(h:b=axc c)(e:b=true):axB c ov=false:=by
 cases ha:axB c ov with
 | false=>rfl
 | true=>
  exfalso;unfold axB at ha;rw [aO]at ha;have:axc c=false:=by unfold axc;rw [ha.1];rfl
  rw [h,this]at e;cases e
theorem Zzm(h:¬1<=c.length):true=axc c:=by unfold axc;rw [aJ h];rfl
theorem Zzl(h:¬c.length<=6):true=axc c:=by unfold axc;rw [aJ h,lP];rfl
theorem Zzk(e:1<=c.length)(g:c.length<=6)(h:¬1<c.length):false=axc c:=by unfold axc;rw [aM e,aM g,aJ h];rfl
theorem Zzj(e:1<=c.length)(g:c.length<=6)(h:1<c.length):decide (c.getD (c.length-1) 0=0)=axc c:=by unfold axc;rw [aM e,aM g,aM h];simp
theorem Ymo(h:bl ov.natAbs<=64):bl (62914560*ov).natAbs<=100:=by have e:=Xe 62914560 ov;have g:bl (62914560:Int).natAbs<=30:=O4;omega
variable {P:Program} {N:Nat} {sc:Nat->Prop} {env env':Qt} {H H':Hp}
def Dl(c:List Int)(g:Int):List Int:=if c.length=0 then [0]else c.map (· / g)
def mdO(ov g:Int):Int:=if ov/g<=4294967296 then ov/g else 0
def mdL(ov g:Int)(c:List Int):List Int:=if ov/g<=4294967296 then Dl c g else []
def Fb(ov:Int)(x y z:List Int):Int:=Nt ov (Ma 3 x y z)
structure Mdh (ov:Int) (x y z:List Int):Prop where
 o:0<ov
 b:bl ov.natAbs<=1000
 s:∀i,Sz 1000 (Zk i x y z)
 l:∀i,(Zk i x y z).length<=6
 c:∀i k,(cf (Zk i x y z) k).natAbs<=ov.natAbs*2146435072
def Zfv:∀(l:List Int) (g:Int),0<=g->0<=Nt g l
 | [],_,h=>h
 | x::l,g,h=>Zfv l _ (Int.natCast_nonneg _)
theorem Zxv:∀(l:List Int) (g:Int),Nt g l∣g/\∀x∈l,Nt g l∣x
 | [],g=>⟨mP _,λx h=>nomatch h⟩
 | x::l,g=>by
  obtain⟨j,k⟩:=Zxv l ((Int.gcd g x:Nat):Int);exact⟨fO j (jL ..),λy e=>by
   rcases bJ.1 e with rfl|e
   .exact fO j (iE ..)
   .exact k y e⟩
theorem Zur(hi:i<3)(h:a∈Zk i x y z):a∈Ma 3 x y z:=by
 match i,hi with
 | 0,_=>exact cQ.2 (.inl (cQ.2 (.inl h)))
 | 1,_=>exact cQ.2 (.inl (cQ.2 (.inr h)))
 | 2,_=>exact cQ.2 (.inr h)
theorem Mdh.g(h:Mdh ov x y z):0<Fb ov x y z/\Fb ov x y z∣ov/\∀i,i<3->∀a∈Zk i x y z,Fb ov x y z∣a:=by
 obtain⟨e,g⟩:=Zxv (Ma 3 x y z) ov;have j:=Zfv (Ma 3 x y z) ov (dY h.o);have l:=h.o;refine⟨?_,e,λi hi a k=>g a (Zur hi k)⟩;rcases Int.lt_or_eq_of_le j with q|q
 .exact q
 .exact absurd (oF.1 (q▸e)) O1
theorem Mdh.fc(h:Mdh ov x y z)(i k:Nat):bl (Nt (Nt ov (Ma i x y z)) ((Zk i x y z).take k)).natAbs<=1000:=by
 have l:∀i,∀a∈Zk i x y z,bl a.natAbs<=1000:=λi a e=>by obtain⟨j,r⟩:=nD.1 e;have:=h.s i j;unfold cf at this;rw [aF,r]at this;exact this
 have p:∀a∈Ma i x y z,bl a.natAbs<=1000:=λa e=>by
  unfold Ma at e;have g:=l 0;have n:=l 1;have o:=l 2;simp only [Zk]at g n o;split at e
  .cases e
  .exact g a e
  .rcases cQ.1 e with q|q
   .exact g a q
   .exact n a q
  .rcases cQ.1 e with q|q
   .rcases cQ.1 q with q|q
    .exact g a q
    .exact n a q
   .exact o a q
 exact Zgb (λa e=>l i a (eJ e)) (Zgb p h.b)
theorem Mdh.fit(h:Mdh ov x y z)(hs:ov/Fb ov x y z<=4294967296)(hi:i<3)(k:Nat):((Zk i x y z).getD k 0/Fb ov x y z).natAbs<=9223372036854775807:=by
 obtain⟨n,⟨s,e⟩,o⟩:=h.g;have w:Fb ov x y z∣(Zk i x y z).getD k 0:=by
  rcases bC k (Zk i x y z).length with q|q
  .exact o i hi _ (Ze (d:=0) q)
  .rw [aF,bD q];exact jM _
 obtain⟨t,l⟩:=w;have j:((Zk i x y z).getD k 0).natAbs<=ov.natAbs*2146435072:=h.c i k;generalize Fb ov x y z=g at *;rw [l,fZ _ O1];rw [e,fZ _ O1]at hs;rw [l,e,cF,cF,cN]at j;have r:=Nat.le_of_mul_le_mul_left j O1;have B:=h.o;have D:0<s:=by
  rw [e]at B;by_cases q:0<s
  .exact q
  .have:=gR (dY n) (show s<=0 by omega);omega
 have p:s.natAbs*2146435072<=4294967296*2146435072:=aN _ O1;exact aB r (aB p O4)
def mdO_t{g:Int}(h:ov/g<=4294967296):mdO ov g=ov/g:=aH h
def Zm6{g:Int}(h:ov/g<=4294967296):mdL ov g c=Dl c g:=aH h
def mdO_f{g:Int}(h:¬ov/g<=4294967296):mdO ov g=0:=aE h
def Yev{g:Int}(h:¬ov/g<=4294967296):mdL ov g c=[]:=aE h
def dvL_0{g:Int}(h:c.length=0):Dl c g=[0]:=aH h
def dvL_n{g:Int}(h:c.length≠0):Dl c g=c.map (· / g):=aE h
theorem Yex{g:Int}{k:Nat}(h:k<c.length):(c.take k).map (· / g) ++ [c.getD k 0/g]=(c.take (k+1)).map (· / g):=by rw [Ph 0 _ _ h,eK];rfl
abbrev C6 (a b c:Value) (f:Nat->Value):Array Value:=#[a,b,c,f 0,f 1,f 2]
def upd(f:Nat->Value)(i:Nat)(v:Value)(j:Nat):Value:=if j=i then v else f j
theorem c6_get{a c:Value}(h:i<3):(C6 a b c f)[3+i]? = some (f i):=by
 match i,h with
 | 0,_=>rfl
 | 1,_=>rfl
 | 2,_=>rfl
theorem Yhq{a c:Value}(h:i<3):(C6 a b c (upd f i v))[3+i]? = some v:=by rw [c6_get h];unfold upd;rw [aH rfl]
theorem c6_lay{a c:Value}(h:i<3):Gx (C6 a b c (upd f i u)) (3+i) [v]=C6 a b c (upd f i v):=by
 match i,h with
 | 0,_=>rfl
 | 1,_=>rfl
 | 2,_=>rfl
theorem Zvp{a c:Value}{g:Nat->Value}(h:∀j,j<3->f j=g j):C6 a b c f=C6 a b c g:=by unfold C6;rw [h 0 O4,h 1 O4,h 2 O4]
theorem p3_sel{b:Nat}(h:i<3):Zk i (Value.pointer (some ⟨b,3,none⟩)) (Value.pointer (some ⟨b,4,none⟩)) (Value.pointer (some ⟨b,5,none⟩))= .pointer (some ⟨b,3+i,none⟩):=by
 match i,h with
 | 0,_=>rfl
 | 1,_=>rfl
 | 2,_=>rfl
theorem c3_get{a c:Value}(h:i<3):(#[a,b,c]:Array Value)[0+i*1]? = some (Zk i a b c):=by
 match i,h with
 | 0,_=>rfl
 | 1,_=>rfl
 | 2,_=>rfl
def fz(zs:List (SL×List Int))(j:Nat):Value:=Qi (zs.getD j ((none,0,0),[])).1
theorem fz_upd(h:zs.length=i)(j:Nat):fz zs j=upd (fz zs) i (.slice none 0 0) j:=by
 unfold upd;split
 .rename_i e;subst e;subst h;unfold fz;rw [aF,bD (aI _)];rfl
 .rfl
theorem Zxx(h:zs.length=i)(j:Nat):upd (fz zs) i (Qi s) j=fz (zs ++ [(s,c)]) j:=by
 subst h;unfold upd fz;split
 .rename_i e;subst e;simp
 .rename_i e;rw [aF,aF];rcases bC j zs.length with q|q
  .rw [dA q]
  .rw [bD q,bD O9]
def Zr8{t:Nat}{f:Nat->List Int}(g:zs.length=i)(h:∀t,t<i->(zs.getD t d0).2=f t)(e:c=f i)(j:t<i+1):((zs ++ [(s,c)]).getD t d0).2=f t:=e▸Ztg g h j
theorem mds_of{g:Int}(l:zs.length=3)(h:∀t,t<3->(zs.getD t d0).2=Dl (Zk t x y z) g):∃n o p:SL,zs=[(n,Dl x g),(o,Dl y g),(p,Dl z g)]:=by
 match zs,l with
 | [q,r,w],_=>
  have e:=h 0 O4;have j:=h 1 O4;have k:=h 2 O4;simp [Zk]at e j k;exact⟨q.1,r.1,w.1,by rw [<-e,<-j,<-k]⟩
theorem Yc1{b:Int} : 0<(a-b).sign↔¬a<=b:=by rw [sgp];omega
theorem t_st6  {o:Oper} {x y:Operand} {t k:TypeId} {b n:Nat} {g h j:Value}   {w0:World}  (I:o.op= .store t x y) (B:o.dst=none)
  (R:ev env x=some (.pointer (some ⟨b,3+n,none⟩))) (S:ev env y=some v) (q:lk H i=some (box b k (C6 g h j (upd f n u)))) (e:i≠0) (D:∀w,(sizeOf t).run P w= .ok 1 w) (F:n<3) (p:One N sc env H v)
  (l:lk H 0=some (Xd w0 M0)) (Q:∀b,w0.heap.size<=b->sc b) (r:M b) :
  T P N sc M o env H (G:=Unit) (λ_=>True) (λ_=>env) (λ_=>(i,box b k (C6 g h j (upd f n v)))::H):=by
 have:=t_stp1 (P:=P) (N:=N) (sc:=sc) (M:=M) I B R S q e D (by show Nat.ble (3+n+1) 6=true;simp;omega) p l Q r;rw [c6_lay F]at this;exact this
theorem bl_dlq{b:Int}{n:Nat}(h:bl a.natAbs<=n)(g:0<b)(e:0<=a):bl (a/b).natAbs<=n:=(Xz n _).2 (aZ (by have j:=mI b e;have k:=jV e (dY g);omega) ((Xz n _).1 h))
theorem Yfq{n:Nat}(h:∀z∈zs,∀b,(Qi z.1).ownBlock=some b->n<=b)(e:∀b,(Qi s).ownBlock=some b->n<=b):∀z∈zs ++ [(s,c)],∀b,(Qi z.1).ownBlock=some b->n<=b:=λz g=>by
 rcases cQ.1 g with q|q
 .exact h z q
 .rw [aY.1 q];exact e
theorem fr3{n:Nat}{g j k:SL}{l o q:List Int}(h:∀z∈[(g,l),(j,o),(k,q)],∀b,(Qi z.1).ownBlock=some b->n<=b):∀p∈[Ym 1 Yo (Qi g) l1,Ym 1 Yo (Qi j) l2,Ym 1 Yo (Qi k) l3],∀b,p.fp b->n<=b:=λp r b e=>by
 simp only [bJ,fN,kR]at r;rcases r with rfl|rfl|rfl
 .exact h (g,l) O7 b e.2
 .exact h (j,o) O7 b e.2
 .exact h (k,q) O7 b e.2
theorem fr0{n:Nat} : ∀p∈[Ym 1 Yo (Qi (none,0,0)) l1,Ym 1 Yo (Qi (none,0,0)) l2,Ym 1 Yo (Qi (none,0,0)) l3],∀b,p.fp b->n<=b:=λp e b g=>by simp only [bJ,fN,kR]at e;rcases e with rfl|rfl|rfl<;>cases g.2
end Go.Sky
namespace Go.Sky
open Go.RowKit (Below)
variable{o:Oper}{x:Operand}{k:IntKind}{cs:Array Value}
variable {P:Program} {N:Nat} {sc:Nat->Prop} {env env':Qt} {H H':Hp} {Q Q':Exit->Act->World->Prop} {M:Nat->Prop}
theorem f_new{w0:World}{p:Pc}(i:Nat)(hi:lk H i=some p)(f:p.own=true)(d:lk H 0=some (Xd w0 (λ_=>False)))(c:i≠0:=by decide):∀a w,Sat N sc env H a w->∀b,p.fp b->w0.heap.size<=b:=λa w hs b e=>by
  rcases bC b w0.heap.size with h|h
  . exact(hs.sep i 0 p _ c hi d f b e ⟨h,λh=>h⟩).elim
  . exact h
theorem Ybr {fn:Func} {pre:List Pc} {G:Type} {φ:G->Prop} {Ye:G->Value} {c:G->List Pc} {w0:World} {e:Exit} (B:e= .ret\/e= .normal)
    (g:G) (v:Value) (n:∀p∈c g,∀b,p.fp b->w0.heap.size<=b) (j:∀a w,Sat N sc env H a w->(results fn a.tmps).run P w= .ok v w) (R:Ye g=v) (F:φ g) (t:lk H 0=some (Xd w0 (λ_=>False))) (d:Give H true (c g)) :
    X N sc e (Zbc P fn w0 pre false φ Ye c) env H:=λa w hs=>by
  have l : a.defers = [] /\ ∃ v, (results fn a.tmps).run P w = .ok v w /\ (∃ g, Ending.returned v = .returned (Ye g) /\ φ g /\ Below w0.heap.size w0 w /\
        ∀p∈c g,p.holds w/\p.own=false/\∀b,p.fp b->w0.heap.size<=b\/(false=true/\∃q∈pre,q.fp b)):=by
    refine⟨hs.defers,v,j a w hs,g,by rw [R],F,Il (hs.hold 0 _ t),λp s=>?_⟩;obtain⟨r,h|⟨u,y⟩⟩:=d.mem p s
    case inr=>exact⟨u w,r,λb m=>absurd m (y b)⟩
    obtain⟨i,S,I,hi,f,D,z⟩:=h;exact⟨f w (hs.hold i S hi),r,λb m=> .inl (n p s b m)⟩
  rcases B with rfl|rfl
  . exact l
  . exact l
section
variable {f:FuncId} {xs:List Operand} {ats:Array TypeId} {d:Nat} {vs:List Value} {pre:List Pc} {G:Type} {φ:G->Prop} {Ye:G->Value} {its:G->List Pc} {w0:World} {M0:Nat->Prop} {ty:TypeId} {pos:String} {af:Array Edge} {g:Option (Nat×Bool)}
theorem Yi6  {n:Nat} (Z:Cal P f vs.toArray pre false φ Ye its)
    (ho:o.op= .call { callee:= .value (.func f),args:=xs.toArray,argTypes:=ats }) (hd:o.dst=some d) (Y:Nat.blt d N=true)
    (r:EvL env xs vs) (t:∀args w,(callFunc f args).run P w= .ok (.enter f args) w) (v:PreOk H false pre)
    (R:lk H 0=some (Xd w0 M0)) (hw:∀b,w0.heap.size<=b->sc b) :
    T P N sc M o env H (λg=>φ g/\∀p∈its g,∀b,p.fp b->w0.heap.size<=b) (λg=>(d,Ye g)::env) (λg=>adds n (its g) H):=λa w hs K Q W=>by
  have B:w0.heap.size<=w.heap.size:=(hs.hold 0 _ R).size;have hr:(execOp a.eval o).run P w= .ok (.enter f vs.toArray) w:=by have hm:=r.map hs;simp [execOp,ho,resolve,invoke,Act.eval,Deferred.ofValue,hm,t]
  unfold Oper.wp;rw [hr];refine(Z w (λp l=>by obtain⟨i,it,_,hi,u,_,_⟩:=v.mem p l;exact u w (hs.hold i it hi))).mono ?_
  rintro e I ⟨g,rfl,hg,m,q⟩;show K (a.put o.dst (Ye g)) I;rw [hd];have z:Sat N sc env H a I:=hs.chg0 (Chg.of_below m);have c:∀p∈its g,∀b,p.fp b->w.heap.size<=b:=λp l b s=>by
    rcases(q p l).2.2 b s with h|⟨h,_⟩
    . exact h
    . cases h
  refine W g _ _ ⟨hg,λp l b s=>aB B (c p l b s)⟩ (Sat.put (z.adds (w1:=w) (its g) n ?_) d _ Y) (Chg.of_below m);intro p l;obtain⟨S,V,h3⟩:=q p l;refine⟨S,V,λb s=>hw b (aB B (c p l b s)),λj F hj D b s y=>?_⟩;have:=F.lt w b (hs.hold j F hj) y;have:=c p l b s;omega
def Zzx(n:Nat)(a:List Nat)(e:Cal P f vs.toArray pre false φ Ye its){c:G->Hp}[hx:EvI env xs vs][hf:CalF P f][hp:PreL P H false a pre][h0:Som (lk2 H 0) (Xd w0 M0)][hN:TB (ltb d N)][hw:Hw w0 sc][ha:∀g,AddI n (its g) H (c g)] :
    T P N sc M ⟨some d,.call { callee:= .value (.func f),args:=xs.toArray,argTypes:=ats },ty,pos,af,g⟩ env H (λg=>φ g/\∀p∈its g,∀b,p.fp b->w0.heap.size<=b) (λg=>(d,Ye g)::env) c:=
  (Yi6 (n:=n) e rfl rfl (Ou hN.h) hx.h hf.h hp.h h0.l hw.h).conv λg=>(ha g).h
end
theorem hw_up{w0 W:World}(h:Hw w0 sc)(a:w0.heap.size<=W.heap.size):Hw W sc:=⟨λb c=>h.h b (aB a c)⟩
theorem Zym  {y:Operand} {ats:Array TypeId}  {m n:Int} (b:o.op= .call { callee:= .builtin .min,args:=#[x,y],argTypes:=ats })
    (c:ev env x=some (.int k m)) (e:ev env y=some (.int k n)):Nv P N sc o env H (.int k (min m n)):=λa w hs=>by
  simp [execOp,b,resolve,hs.ev c,hs.ev e,invoke,builtin,Builtin.min_,Builtin.min2];by_cases h:n<m
  . rw [aH h];omega
  . rw [aE h];omega
theorem d_lbw   {t p:TypeId} {i b k:Nat}  (h:o.op= .load t x) (m:ev env x=some (.pointer (some ⟨b,0,none⟩))) (a:lk H i=some (box b p cs)) (j:∀w,(isAgg t).run P w= .ok true w) (c:∀w,(sizeOf t).run P w= .ok k w)
    (e:cs.size=k):Nv P N sc o env H (.agg cs):=by
  have:=Zyn (P:=P) (N:=N) (sc:=sc) (vs:=cs.toList) h m a j c (by simpa using e) (λn u l=>by rw [bW];simpa using l);simpa using this
end Go.Sky
namespace Go.Sky
open Go.Proofs.Tryz
open Go.Proofs
set_option synthInstance.maxHeartbeats 0
set_option synthInstance.maxSize 100000
set_option maxRecDepth 20000
set_option maxHeartbeats 1000000
set_option linter.unusedSimpArgs false
variable{p:Zi->Bool}{i id:Nat}{d:Zi}{ops:List Oper}{y x c:Code}{zs:List Zi}
theorem Zcp(fr P e:Int)(vx vy vz:Value)(x y z:List Int)(u:Mdh e x y z):Cal prog 230 #[.int .i64 fr,.int .i64 P,.agg #[vx,vy,vz],wv e] [Ym 2 wv vx x,Ym 2 wv vy y,Ym 2 wv vz z] false (G:=SL×SL×SL) (λg=>True) (λg=> .tuple #[.agg #[.int .i64 fr,.int .i64 P,.int .i64 (mdO e (Fb e x y z)),Qi g.1,Qi g.2.1,Qi g.2.2],.bool (decide (e/(Fb e x y z)<=4294967296))]) (λg=>[Ym 1 Yo (Qi g.1) (mdL e (Fb e x y z) x),Ym 1 Yo (Qi g.2.1) (mdL e (Fb e x y z) y),Ym 1 Yo (Qi g.2.2) (mdL e (Fb e x y z) z)]):=by
 refine Zf func230 ntmps230 λw0 sc hw b0=>?_;have ho:=u.o;have Z:=u.b;obtain⟨W,a7,a8⟩:=u.g;have Y:bl (Fb e x y z).natAbs<=1000:=u.fc 3 0;have a9:0<=e/(Fb e x y z):=jV (dY ho) (dY W);refine go 2 ?_;refine Yh (Yi 4) λbx _=>Yh (Yi 5) λa2 _=>Yh (Zw 6) λa3 _=>go 6 ?_;refine Yh (Zw 7) λH _=>go 11 ?_;refine lp (G:=Nat) [0,1,6,7,8,10,24] [0,1,2,3,4,5,6] (λi=>[(25,.int .i64 (i:Int))]) (λi=>[(7,box H 80 (wc (Nt e (Ma i x y z))))]) (λi=>i<=3) (λi=>3-i) 0 O2 K1 K1 ?_;rintro i hi;have a0:=u.fc i;have a1:=u.l i;refine go 6 ?_;refine Zc J (λQ=>?_) (λQ=>?_)
 .refine go 5 ?_;refine Zg (Zbn i 1 2 3 50 J J J J J J)<|go 1 ?_;refine dt (Znc (i:=i) J J J underlying210 sizeOf40 isAgg40 J)<|go 11 ?_;refine lp (G:=Nat) [0,1,6,7,8,10,24,25,28,29] [0,1,2,3,4,5,6,50] (λk=>[(30,.int .i64 (k:Int))]) (λk=>[(7,box H 80 (wc (Nt (Nt e (Ma i x y z)) ((Zk i x y z).take k))))]) (λk=>k<=(Zk i x y z).length) (λk=>(Zk i x y z).length-k) 0 O2 K1 K1 ?_;rintro k hk;refine go 6 ?_;refine Zc J (λR=>?_) (λR=>?_)
  .refine go 8 ⟨O3,O3,?_⟩;refine Yh (Zw 8) λa4 _=>go 6 ?_;refine cl 8 [] (Znx (Nt (Nt e (Ma i x y z)) ((Zk i x y z).take k)) ((Zk i x y z).getD k 0) (aB (a0 k) O4) (aB (u.s i k) O4)) λ_ _=>?_;refine go 8 ⟨O1,?_⟩;exact Yq (k+1) O2 O2 K1 ⟨by rw [Zac _ O1];rfl,aA⟩
  .obtain rfl:k=(Zk i x y z).length:=O1;rw [bP];refine go 10 ⟨O1,?_⟩;exact Yq (i+1) O2 O2 K1 ⟨by rw [Dk x y z O1,Hd];rfl,aA⟩
 .obtain rfl:i=3:=O1;refine go 9 ?_;refine dt (Qa (ivs:=[(0,_),(1,_)]) J K4 (λa w hs=>b35_01 ((Zr J) a w hs) ((Zr J) a w hs)))<|Yh (Zw 9) λm _=>go 7 ?_;refine cl 9 [] (Zd5 e (Fb e x y z) (aB Z O4) (aB Y O4) O1) λ_ _=>Yh (Zw 10) λa5 _=>go 5 ?_;refine Xw (λ_=>False) [(0,0),(1,1),(2,1),(3,0)]<|go 1 ?_;refine Yv (Zj 10 [] (Zn 4294967296 ⟨O4,O4⟩)) λ_ _=>Yv (Zj 10 [] (Zes (e/(Fb e x y z)) 4294967296 (aB (bl_dlq Z W (dY ho)) O4) O4)) λ_ _=>go 3 ?_;refine Zc J (λr=>?_) (λr=>?_)
  .have l:¬e/(Fb e x y z)<=4294967296:=Yc1.1 r;refine go 9 ?_;exact Ybr (.inl J) ((none,0,0),(none,0,0),(none,0,0)) _ fr0 (λa w hs=>Yad hs results230 (Fh (i:=6) J J isAgg35 Ir J) J) (by rw [mdO_f l,aJ l]) aA J (Mx (Yev l) (Mx (Yev l) (Mx (Yev l) Za)))
  .have l:e/(Fb e x y z)<=4294967296:=gJ.1 λh=>r (Yc1.2 h);refine go 5 ?_;refine cl 10 [] (Zi2 (e/(Fb e x y z)) O1) λ_ _=>go 13 ?_;refine dt (Qa (ivs:=[(0,_),(1,_),(2,_)]) J K6 (λa w hs=>Yh3 ((Zr J) a w hs) ((Zr J) a w hs) ((Zr J) a w hs)))<|go 4 ?_;refine Zg (Om 9 (q:=box m 35 (C6 (.int .i64 fr) (.int .i64 P) (.int .i64 (e/(Fb e x y z))) (fz []))) (aK (box m 35) (show _=(C6 (.int .i64 fr) (.int .i64 P) (.int .i64 (e/(Fb e x y z))) (fz []))from J)) J J)<|Zg (Qk qC 71)<|lp (G:=Nat×List (SL×List Int)) [6,8,10,15,59] [0,7,1,2,3,4,5,6,10] (λq=>[(60,.int .i64 (q.1:Int))]) (λq=>[(9,box m 35 (C6 (.int .i64 fr) (.int .i64 P) (.int .i64 (e/(Fb e x y z))) (fz q.2))),(71,Gf qC q.2)]) (λq=>(q.1<=3)/\(q.2.length=q.1)/\(∀t,t<q.1->(q.2.getD t Z0).2=Dl (Zk t x y z) (Fb e x y z))/\(∀z∈q.2,∀b,(Qi z.1).ownBlock=some b->w0.heap.size<=b)) (λq=>3-q.1) (0,[]) ⟨O2,rfl,λt ht=>absurd ht (cI t),λz hz=>nomatch hz⟩ K1 K2 ?_;rintro⟨i,zs⟩ ⟨hi,o,D,B⟩;dsimp only at hi o D B;dsimp only;have a1:=u.l i;refine go 6 ?_;refine Zc J (λS=>?_) (λS=>?_)
   .refine go 7 ?_;refine dt (Xq (r':= .pointer (some ⟨m,3+i,none⟩)) (Znc (i:=i) J J J underlying331 sizeOf330 isAgg330 J) (p3_sel O1))<|go 6 ?_;refine Zg (Zbn i 1 2 3 52 J J J J J J)<|Zg (Oy 60 1 3 Yo)<|go 2 ?_;refine dt (Ii (i:=i) J J J underlying210 sizeOf40 J)<|dt (Ybc (i:=4) J J J isAgg40 (c3_get O1))<|go 5 ?_;refine lp (G:=Nat×Value) [6,8,10,15,18,59,60,66,67] [0,71,7,1,2,3,4,5,6,10,52] (λq=>[(68,.int .i64 (q.1:Int))]) (λq=>[(9,box m 35 (C6 (.int .i64 fr) (.int .i64 P) (.int .i64 (e/(Fb e x y z))) (upd (fz zs) i q.2))),(60,Ox 1 3 Yo q.2 (((Zk i x y z).take q.1).map (· / (Fb e x y z))))]) (λq=>q.1<=(Zk i x y z).length) (λq=>(Zk i x y z).length-q.1) (0,_) O2 K1 ⟨by rw [Zvp (λj _=>fz_upd o j)];rfl,by rw [eH];rfl,aA⟩ ?_;rintro⟨k,vr⟩ hk;dsimp only at hk;dsimp only;refine go 6 ?_;refine Zc J (λV=>?_) (λV=>?_)
    .refine go 8 ⟨O3,O3,?_⟩;refine Yh (Zw 11) λa6 _=>go 7 ?_;refine cl 11 [] (Zd5 ((Zk i x y z).getD k 0) (Fb e x y z) (aB (u.s i k) O4) (aB Y O4) O1) λ_ _=>cl 11 [] (Zi2 ((Zk i x y z).getD k 0/(Fb e x y z)) (u.fit l O1 k)) λ_ _=>go 11 ?_;refine dt (Ybc (i:=9) J J J isAgg33 (Yhq O1))<|go 1 ?_;refine tt (Qr (i:=12) (ivs:=[(0,_)]) (enc:=Yo) ([(Zk i x y z).getD k 0/(Fb e x y z)]:List Int) J J K2 Pj ti3 J J J J J pZ.cells J J hw.h) (λv _=>?_);refine tt (Lp (i:=60) (j:=12) (by_:=8) J J J J J J O4 J (Yn pZ) Pj ti3 J pZ J J J O9 O4 J hw.h) λb1 _=>go 1 ?_;refine tt (t_st6 (i:=9) (n:=i) J J J J J O4 Zi0 O1 (Pg (i:=60) J (Yn pZ)) J hw.h aA) (λ_ _=>?_);refine go 7 ⟨O1,?_⟩;exact Yq (k+1,_) O2 O2 K1 ⟨J,by rw [<-Yex O1];rfl,aA⟩
    .obtain rfl:k=(Zk i x y z).length:=O1;rw [bP];refine go 9 ?_;refine dt (Ybc (i:=9) J J J isAgg33 (Yhq O1))<|go 4 ?_;refine Zc J (λs=>?_) (λs=>?_)
     .have I:(Zk i x y z).length=0:=by simpa using s
      refine go 2 ?_;refine tt (Qr (i:=13) (ivs:=[(0,_)]) (enc:=Yo) ([0]:List Int) J J K2 Pj ti3 J J J J J pZ.cells J J hw.h) λb2 _=>go 1 ?_;refine tt (t_st6 (i:=9) (n:=i) J J J J J O4 Zi0 O1 (Pg (i:=13) J (Yn pZ)) J hw.h aA) (λ_ _=>?_);refine go 7 ⟨O1,?_⟩;refine Ybp (f_new 13 J J J) (λM=>?_);refine Yg (Qx 13 J J pZ)<|Znk (Oh 13 J Zo) (λF N=>?_);subst N;exact Yg (Om 13 (q:=Ym 1 Yo (Qi F) (Dl (Zk i x y z) (Fb e x y z))) (aK (Ym 1 Yo (Qi F)) (dvL_0 I).symm) J J)<|Yg (Xb (q:=qC) (z:=(F,Dl (Zk i x y z) (Fb e x y z))) 71 13 71 J J J J J)<|Yq (i+1,zs ++ [(F,Dl (Zk i x y z) (Fb e x y z))]) ⟨O2,by rw [bA,o];rfl,λt ht=>Zr8 (f:=λt=>Dl (Zk t x y z) (Fb e x y z)) o D rfl ht,Yfq B M⟩ O2 K1 ⟨by rw [Zvp (λj _=>Zxx (c:=Dl (Zk i x y z) (Fb e x y z)) o j)];rfl,rfl,aA⟩
     .have I:(Zk i x y z).length≠0:=by simpa using s
      refine go 7 ⟨O1,?_⟩;refine Ybp (f_new 60 J J J) (λM=>?_);refine Yg (Qx 60 J J pZ)<|Znk (Oh 60 J Zo) (λF N=>?_);subst N;exact Yg (Om 60 (q:=Ym 1 Yo (Qi F) (Dl (Zk i x y z) (Fb e x y z))) (aK (Ym 1 Yo (Qi F)) (dvL_n I).symm) J J)<|Yg (Xb (q:=qC) (z:=(F,Dl (Zk i x y z) (Fb e x y z))) 71 60 71 J J J J J)<|Yq (i+1,zs ++ [(F,Dl (Zk i x y z) (Fb e x y z))]) ⟨O2,by rw [bA,o];rfl,λt ht=>Zr8 (f:=λt=>Dl (Zk t x y z) (Fb e x y z)) o D rfl ht,Yfq B M⟩ O2 K1 ⟨by rw [Zvp (λj _=>Zxx (c:=Dl (Zk i x y z) (Fb e x y z)) o j)];rfl,rfl,aA⟩
   .obtain rfl:i=3:=O1;refine go 6 ?_;obtain⟨s1,s2,s3,rfl⟩:=mds_of o D;refine Zg (Zd7 (q:=qC) 71 81 (s1,Dl x (Fb e x y z)) J J O7 J)<|Zg (Om 81 (q:=Ym 1 Yo (Qi s1) (mdL e (Fb e x y z) x)) (aK (Ym 1 Yo (Qi s1)) (Zm6 l).symm) J J)<|Zg (Zd7 (q:=qC) 71 82 (s2,Dl y (Fb e x y z)) J J O7 J)<|Zg (Om 82 (q:=Ym 1 Yo (Qi s2) (mdL e (Fb e x y z) y)) (aK (Ym 1 Yo (Qi s2)) (Zm6 l).symm) J J)<|Zg (Zd7 (q:=qC) 71 83 (s3,Dl z (Fb e x y z)) J J O7 J)<|Zg (Om 83 (q:=Ym 1 Yo (Qi s3) (mdL e (Fb e x y z) z)) (aK (Ym 1 Yo (Qi s3)) (Zm6 l).symm) J J)<|Zg (Om 9 (q:=box m 35 #[.int .i64 fr,.int .i64 P,.int .i64 (e/(Fb e x y z)),Qi s1,Qi s2,Qi s3]) J J J)<|go 7 ?_;exact Ybr (.inl J) (s1,s2,s3) _ (fr3 B) (λa w hs=>Yad hs results230 (Fh (i:=6) J J isAgg35 Ir J) J) (by rw [mdO_t l,aM l]) aA J (Hm 81 J J J (Hm 82 J J J (Hm 83 J J J Za)))
abbrev Zl8:=(Int×Int×Int)×List Int×List Int×List Int
def unS(g:Zi):Zl8:=(g.1,g.2.1.2,g.2.2.1.2,g.2.2.2.2)
abbrev cA (fr:Int) (g:Zi):Int:=max fr g.1.1
abbrev cB (a:Int) (g:Zi):Int:=min a g.1.2.1
abbrev cX (fr a:Int) (g:Zi) (c:List Int):List Int:=Nf c (cA fr g-g.1.1) (cB a g-cA fr g) (g.1.2.1-g.1.1)
abbrev cO (g:Zi):Int:=g.1.2.2*(g.1.2.1-g.1.1)^5
def cG(fr a:Int)(g:Zi):Int:=Fb (cO g) (cX fr a g g.2.1.2) (cX fr a g g.2.2.1.2) (cX fr a g g.2.2.2.2)
def Ko(fr a:Int)(g:Zi):Bool:=decide (cA fr g<cB a g)
def Zh6(fr a:Int)(g:Zi):Bool:=decide (cO g/cG fr a g<=4294967296)
def Zh5(fr a:Int)(g:Zi):Zl8:=((cA fr g,cB a g,mdO (cO g) (cG fr a g)),mdL (cO g) (cG fr a g) (cX fr a g g.2.1.2),mdL (cO g) (cG fr a g) (cX fr a g g.2.2.1.2),mdL (cO g) (cG fr a g) (cX fr a g g.2.2.2.2))
def MdG(fr a:Int)(g:Zi):Prop:=Mdh (cO g) (cX fr a g g.2.1.2) (cX fr a g g.2.2.1.2) (cX fr a g g.2.2.2.2)
theorem fl_get{ps:List Zi}(hi:i<ps.length)(b:p (ps.getD i d)=true):(ps.filter p)[((ps.take i).filter p).length]? = some (ps.getD i d):=by
 have h:=fG i ps;have a:ps.drop i=ps.getD i d::ps.drop (i+1):=by rw [aF,aL hi,eZ];exact dW hi
 conv=>lhs;arg 1;rw [<-h,a]
 rw [fM,eI b];simp
theorem fl_t{ps:List Zi}(hi:i<ps.length)(a:p (ps.getD i d)=true):((ps.take (i+1)).filter p).length=((ps.take i).filter p).length+1:=by rw [Ph d _ _ hi,fM,eI a,bA];rfl
theorem fl_f{ps:List Zi}(hi:i<ps.length)(a:p (ps.getD i d)=false):((ps.take (i+1)).filter p).length=((ps.take i).filter p).length:=by rw [Ph d _ _ hi,fM,gK (by rw [a];exact dH),bA];rfl
def Zmw{d:Int}(h:1<=d/\d<=3600000):bl (d^5).natAbs<=132:=Znh (Zln O1) 5 (aI _)
theorem Yg8{W:Nat}{H:Hp}{k l m:SL}{f g j:List Int}(h:∀p∈[Ym 1 Yo (Qi k) f,Ym 1 Yo (Qi l) g,Ym 1 Yo (Qi m) j],∀b,p.fp b->W<=b)(i:Nat)(o:lk H i=some (Ym 1 Yo (Qi k) f))(q:lk H (i+1)=some (Ym 1 Yo (Qi l) g))(r:lk H (i+2)=some (Ym 1 Yo (Qi m) j)) :
  ∀p∈[Ym 1 Yo (Qi k) f,Ym 1 Yo (Qi l) g,Ym 1 Yo (Qi m) j],p.own=false/\(∀b,p.fp b->W<=b)/\∃i n,lk H i=some n/\∀w,n.holds w->p.holds w:=λp e=>by
 have a:=h p e;simp only [bJ,fN,kR]at e;rcases e with rfl|rfl|rfl
 .exact⟨rfl,a,_,_,o,λ_ h=>h⟩
 .exact⟨rfl,a,_,_,q,λ_ h=>h⟩
 .exact⟨rfl,a,_,_,r,λ_ h=>h⟩
theorem cut_b{fr b:Int}{g:Zi}(a:SgG g)(h:Ko fr b g=true):(cA fr g-g.1.1).natAbs<=3600000/\(cB b g-cA fr g).natAbs<=3600000/\Oz (cA fr g-g.1.1)/\Oz (cB b g-cA fr g):=by have k:=bL h;have e:=a.t1;have f:=a.t2;have j:=a.t3;unfold cA cB at *;exact⟨O1,O1,⟨O1,O1⟩,⟨O1,O1⟩⟩
theorem Zz3(v:Value)(ps:List Zi)(S V Y:Nat)(fr a:Int)(P:∀g∈ps,SgG g)(hM:∀g∈ps,Ko fr a g=true->MdG fr a g):Ymy prog 229 [.pointer (some ⟨S,0,none⟩),.pointer (some ⟨V,0,none⟩),.pointer (some ⟨Y,0,none⟩)] [Ie S 38 #[v],Ie V 3 #[.int .i64 fr],Ie Y 3 #[.int .i64 a],Qc 6 Pd qG v ps] (α:=Zi) (G:=SL×SL×SL) (ps.filter (Ko fr a)) (λc g=>[.agg #[.int .i64 (cA fr c),.int .i64 (cB a c),.int .i64 (mdO (cO c) (cG fr a c)),Qi g.1,Qi g.2.1,Qi g.2.2],.bool (Zh6 fr a c)]) (λc g=>[Ym 1 Yo (Qi g.1) (mdL (cO c) (cG fr a c) (cX fr a c c.2.1.2)),Ym 1 Yo (Qi g.2.1) (mdL (cO c) (cG fr a c) (cX fr a c c.2.2.1.2)),Ym 1 Yo (Qi g.2.2) (mdL (cO c) (cG fr a c) (cX fr a c c.2.2.2.2))]):=by
 refine Zy7 func229 J ntmps229 J K4 ?_;intro l M JI Jx w0 sc hw B u k I hY;simp only [Qv,Yy];have Q:=Hw.mk hw;refine Oi (Ip (i:=4) J Zd) λa5=>go 8 ?_;refine lp (G:=Nat×World) [0,2,3,12,13] [1,2,3,4] (λq=>[(14,.int .i64 (q.1:Int))]) (λq=>[(0,Xd q.2 (λ_=>False))]) (λq=>(q.1<=ps.length)/\(JI ((ps.take q.1).filter (Ko fr a)).length q.2)/\(w0.heap.size<=q.2.heap.size)) (λq=>ps.length-q.1) (0,w0) ⟨O2,I,aI _⟩ K1 K1 ?_;rintro⟨i,W⟩ ⟨hi,t,H⟩;dsimp only at hi t H;dsimp only;have d4:=hw_up Q H;refine go 6 ?_;refine Zc J (λo=>?_) (λo=>?_)
 .refine go 5 ?_;have f:=P _ (Ze (d:=G0) (show i<ps.length by omega));have d1:=f.t1;have d2:=f.t2;have d3:=f.t3;have c4:=f.o1;have N:=f.o2;refine Zg (Qe (g:=(ps.getD i G0)) (z:=(ps.getD i G0).2.1) 4 51 J J (Ze) O7)<|Zg (Qe (g:=(ps.getD i G0)) (z:=(ps.getD i G0).2.2.1) 4 52 J J (Ze) O7)<|Zg (Qe (g:=(ps.getD i G0)) (z:=(ps.getD i G0).2.2.2) 4 53 J J (Ze) O7)<|go 2 ⟨O3,?_⟩;refine dt (Pe (ii:=4) G0 J J J Zd pG O3)<|Yh (Zw 5) λbx _=>go 4 ?_;refine Xw (λ_=>False) [(0,0),(1,0),(2,0),(3,0),(4,0),(5,0),(6,0),(7,0),(8,0),(9,3)]<|go 3 ?_;refine Xn J J (Xr (Zdu J J J))<|go 3 ?_;refine Xn J J (Xr (Zym J J J))<|go 12 ?_;refine Zc J (λr=>?_) (λr=>?_)
  .have j:Ko fr a (ps.getD i G0)=false:=aJ (by unfold cA cB;omega);refine go 8 ⟨O1,?_⟩;exact Yq (i+1,W) ⟨O2,by rw [fl_f O1 j];exact t,H⟩ O2 K1 K1
  .have j:Ko fr a (ps.getD i G0)=true:=aM (by unfold cA cB;omega);have h:=hM _ (Ze (d:=G0) (show i<ps.length by omega)) j;obtain⟨D,F,c9,d0⟩:=cut_b f j;refine go 12 ⟨O1,?_⟩;refine jn (G:=SL×SL×SL×Nat) [0,2,3,12,13,14] [0,1,2,3,4,51,52,53,5] (λq=>[(10,.pointer (some ⟨q.2.2.2,0,none⟩)),(11,.bool (Zh6 fr a (ps.getD i G0)))]) (λq=>[(90,Ym 1 Yo (Qi q.1) (mdL (cO (ps.getD i G0)) (cG fr a (ps.getD i G0)) (cX fr a (ps.getD i G0) (ps.getD i G0).2.1.2))),(91,Ym 1 Yo (Qi q.2.1) (mdL (cO (ps.getD i G0)) (cG fr a (ps.getD i G0)) (cX fr a (ps.getD i G0) (ps.getD i G0).2.2.1.2))),(92,Ym 1 Yo (Qi q.2.2.1) (mdL (cO (ps.getD i G0)) (cG fr a (ps.getD i G0)) (cX fr a (ps.getD i G0) (ps.getD i G0).2.2.2.2))),(93,box q.2.2.2 35 #[.int .i64 (cA fr (ps.getD i G0)),.int .i64 (cB a (ps.getD i G0)),.int .i64 (mdO (cO (ps.getD i G0)) (cG fr a (ps.getD i G0))),Qi q.1,Qi q.2.1,Qi q.2.2.1])]) (λq=>(∀p∈[Ym 1 Yo (Qi q.1) (mdL (cO (ps.getD i G0)) (cG fr a (ps.getD i G0)) (cX fr a (ps.getD i G0) (ps.getD i G0).2.1.2)),Ym 1 Yo (Qi q.2.1) (mdL (cO (ps.getD i G0)) (cG fr a (ps.getD i G0)) (cX fr a (ps.getD i G0) (ps.getD i G0).2.2.1.2)),Ym 1 Yo (Qi q.2.2.1) (mdL (cO (ps.getD i G0)) (cG fr a (ps.getD i G0)) (cX fr a (ps.getD i G0) (ps.getD i G0).2.2.2.2))],∀b,p.fp b->W.heap.size<=b)) ?_ ?_
   .refine Ld [5] [24]<|Zm (n:=11) [(0,0),(1,0),(2,0),(3,0),(4,0),(5,0),(6,0),(7,0),(8,0),(9,0),(10,0),(12,0),(13,0),(15,0)]<|go 15 ⟨O1,O1,?_⟩;refine Qs (n:=10) 11 22 ?_ ?_
    .refine Nm (Zj 6 [51,52,53] (Zhj _ _ _ _ _ _ _ _ _ ((cA fr (ps.getD i G0))-(ps.getD i G0).1.1) ((cB a (ps.getD i G0))-(cA fr (ps.getD i G0))) ((ps.getD i G0).1.2.1-(ps.getD i G0).1.1) f D F ⟨O1,O1⟩)) λ⟨s,d5,d6⟩ _=>?_;refine Qs (n:=9) 14 22 ?_ ?_
     .refine Nm (Zj 8 [] (Zn (ps.getD i G0).1.2.2)) λ_ _=>?_;refine Qs (n:=8) 16 22 ?_ ?_
      .refine Nm (Zj 8 [] (Gu ((ps.getD i G0).1.2.1-(ps.getD i G0).1.1) 5 (aB (Zln O1) O4) O4 O4)) λ_ _=>?_;refine Qs (n:=7) 17 22 ?_ ?_
       .refine Nm (Zj 8 [] (Cr (ps.getD i G0).1.2.2 (((ps.getD i G0).1.2.1-(ps.getD i G0).1.1)^5) (aB (Hy ⟨O1,O1⟩) O4) (aB (Zmw ⟨O1,O1⟩) O4))) λ_ _=>?_;refine Qs (n:=6) 18 22 ?_ ?_
        .refine Nm (Zzx 90 [6,7,8] (Zcp (cA fr (ps.getD i G0)) (cB a (ps.getD i G0)) (cO (ps.getD i G0)) _ _ _ (cX fr a (ps.getD i G0) (ps.getD i G0).2.1.2) (cX fr a (ps.getD i G0) (ps.getD i G0).2.2.1.2) (cX fr a (ps.getD i G0) (ps.getD i G0).2.2.2.2) h)) λ⟨d7,d8,d9⟩ ⟨_,e⟩=>?_;refine Zm (n:=0) [(19,0),(20,0),(21,0),(22,1),(23,1),(24,3)]<|go 3 ?_;refine Yv (Pv 93) λZ ho=>go 3 ?_;exact Zz<|Oj (_,_,_,_) (e) K2 K4
        .refine Nm (Pv 93) λa0 N=>?_;refine Zm (n:=0) [(18,1),(19,0),(20,0),(21,0),(23,1),(24,3)]<|Yv (Zzx 90 [6,7,8] (Zcp (cA fr (ps.getD i G0)) (cB a (ps.getD i G0)) (cO (ps.getD i G0)) _ _ _ (cX fr a (ps.getD i G0) (ps.getD i G0).2.1.2) (cX fr a (ps.getD i G0) (ps.getD i G0).2.2.1.2) (cX fr a (ps.getD i G0) (ps.getD i G0).2.2.2.2) h)) λ⟨e0,e1,e2⟩ ⟨_,e⟩=>go 6 ?_;exact Zz<|Oj (_,_,_,_) (e) K2 K4
       .refine Nm (Pv 93) λa1 c5=>?_;refine Zm (n:=0) [(17,1),(18,1),(19,0),(20,0),(21,0),(23,1),(24,3)]<|Yv (Zj 8 [] (Cr (ps.getD i G0).1.2.2 (((ps.getD i G0).1.2.1-(ps.getD i G0).1.1)^5) (aB (Hy ⟨O1,O1⟩) O4) (aB (Zmw ⟨O1,O1⟩) O4))) λ_ _=>Yv (Zzx 90 [6,7,8] (Zcp (cA fr (ps.getD i G0)) (cB a (ps.getD i G0)) (cO (ps.getD i G0)) _ _ _ (cX fr a (ps.getD i G0) (ps.getD i G0).2.1.2) (cX fr a (ps.getD i G0) (ps.getD i G0).2.2.1.2) (cX fr a (ps.getD i G0) (ps.getD i G0).2.2.2.2) h)) λ⟨a6,a7,a8⟩ ⟨_,e⟩=>go 6 ?_;exact Zz<|Oj (_,_,_,_) (e) K2 K4
      .refine Nm (Pv 93) λa2 c6=>?_;refine Zm (n:=0) [(16,1),(17,1),(18,1),(19,0),(20,0),(21,0),(23,1),(24,3)]<|Yv (Zj 8 [] (Gu ((ps.getD i G0).1.2.1-(ps.getD i G0).1.1) 5 (aB (Zln O1) O4) O4 O4)) λ_ _=>Yv (Zj 8 [] (Cr (ps.getD i G0).1.2.2 (((ps.getD i G0).1.2.1-(ps.getD i G0).1.1)^5) (aB (Hy ⟨O1,O1⟩) O4) (aB (Zmw ⟨O1,O1⟩) O4))) λ_ _=>Yv (Zzx 90 [6,7,8] (Zcp (cA fr (ps.getD i G0)) (cB a (ps.getD i G0)) (cO (ps.getD i G0)) _ _ _ (cX fr a (ps.getD i G0) (ps.getD i G0).2.1.2) (cX fr a (ps.getD i G0) (ps.getD i G0).2.2.1.2) (cX fr a (ps.getD i G0) (ps.getD i G0).2.2.2.2) h)) λ⟨a9,b0,b4⟩ ⟨_,e⟩=>go 6 ?_;exact Zz<|Oj (_,_,_,_) (e) K2 K4
     .refine Nm (Pv 93) λa3 c7=>?_;refine Zm (n:=0) [(14,1),(16,1),(17,1),(18,1),(19,0),(20,0),(21,0),(23,1),(24,3)]<|Yv (Zj 8 [] (Zn (ps.getD i G0).1.2.2)) λ_ _=>Yv (Zj 8 [] (Gu ((ps.getD i G0).1.2.1-(ps.getD i G0).1.1) 5 (aB (Zln O1) O4) O4 O4)) λ_ _=>Yv (Zj 8 [] (Cr (ps.getD i G0).1.2.2 (((ps.getD i G0).1.2.1-(ps.getD i G0).1.1)^5) (aB (Hy ⟨O1,O1⟩) O4) (aB (Zmw ⟨O1,O1⟩) O4))) λ_ _=>Yv (Zzx 90 [6,7,8] (Zcp (cA fr (ps.getD i G0)) (cB a (ps.getD i G0)) (cO (ps.getD i G0)) _ _ _ (cX fr a (ps.getD i G0) (ps.getD i G0).2.1.2) (cX fr a (ps.getD i G0) (ps.getD i G0).2.2.1.2) (cX fr a (ps.getD i G0) (ps.getD i G0).2.2.2.2) h)) λ⟨b5,b6,b7⟩ ⟨_,e⟩=>go 6 ?_;exact Zz<|Oj (_,_,_,_) (e) K2 K4
    .refine Nm (Pv 93) λa4 c8=>?_;refine Zm (n:=0) [(11,1),(14,1),(16,1),(17,1),(18,1),(19,0),(20,0),(21,0),(23,1),(24,3)]<|Yv (Zj 9 [51,52,53] (Zhj _ _ _ _ _ _ _ _ _ ((cA fr (ps.getD i G0))-(ps.getD i G0).1.1) ((cB a (ps.getD i G0))-(cA fr (ps.getD i G0))) ((ps.getD i G0).1.2.1-(ps.getD i G0).1.1) f D F ⟨O1,O1⟩)) λ⟨b8,b9,c0⟩ _=>Yv (Zj 11 [] (Zn (ps.getD i G0).1.2.2)) λ_ _=>Yv (Zj 11 [] (Gu ((ps.getD i G0).1.2.1-(ps.getD i G0).1.1) 5 (aB (Zln O1) O4) O4 O4)) λ_ _=>Yv (Zj 11 [] (Cr (ps.getD i G0).1.2.2 (((ps.getD i G0).1.2.1-(ps.getD i G0).1.1)^5) (aB (Hy ⟨O1,O1⟩) O4) (aB (Zmw ⟨O1,O1⟩) O4))) λ_ _=>Yv (Zzx 90 [9,10,11] (Zcp (cA fr (ps.getD i G0)) (cB a (ps.getD i G0)) (cO (ps.getD i G0)) _ _ _ (cX fr a (ps.getD i G0) (ps.getD i G0).2.1.2) (cX fr a (ps.getD i G0) (ps.getD i G0).2.2.1.2) (cX fr a (ps.getD i G0) (ps.getD i G0).2.2.2.2) h)) λ⟨c1,c2,c3⟩ ⟨_,e⟩=>go 6 ?_;exact Zz<|Oj (_,_,_,_) (e) K2 K4
   .rintro⟨s1,s2,s3,bj⟩ e;dsimp only at e;dsimp only;refine go 1 ?_;refine Ygg<|Lt (Zel J J) J<|Lt (d_lbw (i:=93) J J J isAgg35 Ir J) J<|Lt (Zel J J) J<|Ye7 (pre:=[_,_,_,_]) (vs:=[_,_]) _ (ps.getD i G0) (s1,s2,s3) hY (fl_get O1 j) t H B J J J J J K2 J J (Yg8 e 90 J J J) K4 K4 (λR m w=>?_) (λR m w=>?_)
    .simp only [Yy];refine Lt (dF (Yb J J) J) J<|Ai<|go 9 ⟨O1,?_⟩;exact Yq (i+1,R) ⟨O2,by rw [fl_t O1 j];exact m,w⟩ O2 K1 K1
    .simp only [Yy];refine Lt (dT (Yb J J) J) J<|Ai<|go 7 ?_;exact Zdx (.inl J) J J u k (.inr m)
 .obtain rfl:i=ps.length:=O1;rw [bP]at t;refine go 4 ?_;exact Zdx (.inr J) J J u k (.inl t)
open Go.RowKit (Below)
variable {P:Program} {N:Nat} {sc:Nat->Prop} {env env':Qt} {H H':Hp} {Q Q':Exit->Act->World->Prop} {l:Nat}
def ER(P:Program)(N:Nat)(sc:Nat->Prop)(l:Nat)(c:Code)(Q:Exit->Act->World->Prop)(env:Qt)(H:Hp):Prop:=
 ∀a w,Sat N sc env H a w->c.wpIn (Fence.wide.inRound l) 0 P Q a w
def ndB(o:Oper):Bool:=match o.op with
 | .defer _=>false
 | _=>true
theorem Zm2(h:ops.all ndB=true):Zos ops:=λo b c a=>by have:=cL.1 h o b;unfold ndB at this;rw [a]at this;cases this
def Zpm(b:ops.all ndB=true)(h:L P N sc ops.toArray ops (Eb (Exit.then (λa w=>y.wpIn (Fence.wide.inRound l) 0 P Q a w) Q)) env H):ER P N sc l (.seq (.region id ops.toArray false) y) Q env H:=
 λa w hs=>wpIn_seq (Ydq (Zm2 b) h hs)
def Zx7(b:ops.all ndB=true)(h:L P N sc ops.toArray ops (Eb Q) env H):ER P N sc l (.region id ops.toArray false) Q env H:=
 λa w hs=>Ydq (Zm2 b) h hs
def Yin(h:ER P N sc l y Q env H):X N sc .normal (Eb (Exit.then (λa w=>y.wpIn (Fence.wide.inRound l) 0 P Q a w) Q)) env H:=λa w hs=>h a w hs
def Yio(h:∀a w,Sat N sc env H a w->Q .normal a w):X N sc .normal (Eb Q) env H:=λa w hs=>h a w hs
def er_seq(h:ER P N sc l x (Exit.then (λa w=>y.wpIn (Fence.wide.inRound l) 0 P Q a w) Q) env H):ER P N sc l (.seq x y) Q env H:=λa w hs=>wpIn_seq (h a w hs)
def Zsu(h:ER P N sc l c (Exit.inBlock id Q) env H):ER P N sc l (.block id c) Q env H:=λa w hs=>wpIn_block (h a w hs)
theorem Yga{c:Operand}{b:Bool}(e:ev env c=some (.bool b))(g:b=true->ER P N sc l x Q env H)(f:b=false->ER P N sc l y Q env H):ER P N sc l (.cond c x y) Q env H:=λa w hs=>by
 cases b with
 | true=>exact wpIn_cond_true (hs.ev e) (g rfl a w hs)
 | false=>exact wpIn_cond_false (hs.ev e) (f rfl a w hs)
def Zx6(h:∀a w,Sat N sc env H a w->Q .normal a w):ER P N sc l .skip Q env H:=λa w hs=>wpIn_skip (h a w hs)
def Yf8(h:∀a w,Sat N sc env H a w->Q .ret a w):ER P N sc l .ret Q env H:=λa w hs=>wpIn_ret (h a w hs)
def Yf9(b:∀a w,Sat N sc env H a w->Sat N sc env' H' a w)(h:ER P N sc l c Q env' H'):ER P N sc l c Q env H:=λa w hs=>h a w (b a w hs)
theorem Zcq{β:Type}(i k:Nat)(enc:β->Value)(q:β->Pc):∀a w,Sat N sc env H a w->Sat N sc env ((i,Qc k enc q (.slice none 0 0) [])::H) a w:=λa w hs=>
 hs.add i _ ⟨Zc1 k enc w,λz f=>by cases f⟩ (λh j _ _ Kn b e g=>by
  rcases e with e|⟨z,f,_⟩
  .exact absurd rfl e.1
  .cases f) (λb e=>by
  rcases e with e|⟨z,f,_⟩
  .exact absurd rfl e.1
  .cases f)
theorem Yft{a:Hp}{g:Zi}(i j:Nat)(h:lk a i=some (Gf qG zs))(k:lk a j=some (Ym 1 Yo (Qi g.2.1.1) g.2.1.2))(m:lk a (j+1)=some (Ym 1 Yo (Qi g.2.2.1.1) g.2.2.1.2))(n:lk a (j+2)=some (Ym 1 Yo (Qi g.2.2.2.1) g.2.2.2.2)) :
  ∀b,(Gf qG (zs ++ [g])).fp b->∃j q,lk a j=some q/\q.fp b:=λb ⟨z,o,e⟩=>by
 rcases cQ.1 o with q|q
 .exact⟨i,_,h,z,q,e⟩
 .rw [aY.1 q]at e;obtain⟨c,f,e⟩:=e;simp only [bJ,fN,kR]at f;rcases f with rfl|rfl|rfl
  .exact⟨j,_,k,e⟩
  .exact⟨j+1,_,m,e⟩
  .exact⟨j+2,_,n,e⟩
end Go.Sky
namespace Go.Sky
variable{k b c i:Nat}{zs:List Zi}{x y:Operand}{r:List Value}{v:Value}{xs:List Int}{w0 w:World}{M0:Nat->Prop}{a:Act}{o:Oper}{t tb:TypeId}{kd:IntKind}{m:Int}
theorem Zu1(l n p q s u d e f g h j:Value):Instr.fill (λi=>some (i*6,6)) ((List.range (1*6)).map ((Value.agg #[l,n,p,q,s,u]).cells[· % (Value.agg #[l,n,p,q,s,u]).cells.size]!)).toArray [(0,.agg #[d,e,f,g,h,j])]=some #[d,e,f,g,h,j]:=by
 simp [Instr.fill,Value.cells,List.range,List.range.loop]
 try rfl
def Pb(fr d:Int)(ps:List Zi):Bool:=(ps.filter (Ko fr d)).all (Zh6 fr d)
def Zaf(fr d:Int)(ps:List Zi):List Zl8:=if Pb fr d ps=true then(ps.filter (Ko fr d)).map (Zh5 fr d)else []
def Zvg(fr d:Int)(ps:List Zi):Int:=if Pb fr d ps=true then 0 else 7
def Zt9(fr d:Int)(x:Zi)(g:SL×SL×SL):Zi:=((cA fr x,cB d x,mdO (cO x) (cG fr d x)),(g.1,mdL (cO x) (cG fr d x) (cX fr d x x.2.1.2)),(g.2.1,mdL (cO x) (cG fr d x) (cX fr d x x.2.2.1.2)),(g.2.2,mdL (cO x) (cG fr d x) (cX fr d x x.2.2.2.2)))
def Ybd(fr d:Int)(ps:List Zi)(k:Nat)(zs:List Zi):Prop:=zs.map unS=((ps.filter (Ko fr d)).take k).map (Zh5 fr d)/\((ps.filter (Ko fr d)).take k).all (Zh6 fr d)=true
theorem Zns{α:Type}{xs:List α}{x:α}(h:xs[k]? = some x):xs.take (k+1)=xs.take k ++ [x]:=by rw [List.take_add_one,h];rfl
theorem cutI_0(fr d:Int)(ps:List Zi):Ybd fr d ps 0 []:=⟨by rw [eH];rfl,by rw [eH];rfl⟩
theorem cutI_s{fr d:Int}{ps:List Zi}{x:Zi}{g:SL×SL×SL}(h:Ybd fr d ps k zs)(e:(ps.filter (Ko fr d))[k]? = some x)(l:Zh6 fr d x=true):Ybd fr d ps (k+1) (zs ++ [Zt9 fr d x g]):=by
 obtain⟨f,j⟩:=h;refine⟨?_,?_⟩
 .rw [Zns e,eK,eK,f];rfl
 .rw [Zns e,List.all_append,j];simp [l]
theorem cutI_l{fr d:Int}{ps:List Zi}(h:Ybd fr d ps k zs)(e:k<=ps.length):zs.length<=ps.length:=by have:=aK List.length h.1;rw [aW,aW,aR]at this;have:=kM (Ko fr d) ps;omega
theorem cut_no{fr d:Int}{ps:List Zi}{x:Zi}(f:(ps.filter (Ko fr d))[k]? = some x)(e:Zh6 fr d x=false):Pb fr d ps=false:=by
 unfold Pb;cases hb:(ps.filter (Ko fr d)).all (Zh6 fr d)with
 | false=>rfl
 | true=>
  have:=cL.1 hb x (kW f);rw [e]at this;cases this
theorem cutI_e{fr d:Int}{ps:List Zi}(h:Ybd fr d ps (ps.filter (Ko fr d)).length zs):zs.map unS=Zaf fr d ps/\Zvg fr d ps=0:=by obtain⟨f,e⟩:=h;rw [bP]at f e;exact⟨by unfold Zaf Pb;rw [aH e];exact f,by unfold Zvg Pb;rw [aH e]⟩
theorem cut_f{fr d:Int}{ps:List Zi}(h:Pb fr d ps=false):([]:List Zi).map unS=Zaf fr d ps/\Zvg fr d ps=7:=by unfold Zaf Zvg;rw [aE (by rw [h];exact dH),aE (by rw [h];exact dH)];exact⟨rfl,rfl⟩
def spF(ps:List Zi):Int:=(ps.getD 0 G0).1.1
def spL(ps:List Zi):Int:=(ps.getD (ps.length-1) G0).1.2.1
open Go.Proofs.Tryz
open Go.Proofs
set_option synthInstance.maxHeartbeats 0
set_option synthInstance.maxSize 100000
set_option maxRecDepth 20000
set_option maxHeartbeats 1000000
set_option linter.unusedSimpArgs false
theorem Ycr(v:Value)(ps:List Zi)(fr j:Int):Cal prog 181 #[v,.int .i64 fr,.int .i64 j] [Qc 6 Pd qG v ps] true (G:=Nat×Nat×Nat) (λg=>True) (λg=> .func (.func 229) #[] #[.pointer (some ⟨g.1,0,none⟩),.pointer (some ⟨g.2.1,0,none⟩),.pointer (some ⟨g.2.2,0,none⟩)]) (λg=>[Ie g.1 38 #[v],Ie g.2.1 3 #[.int .i64 fr],Ie g.2.2 3 #[.int .i64 j]]):=by refine Zf func181 ntmps181 λw0 p n d=>?_;refine Zk7 (Oh 1 J Zd) (λq e=>?_);subst e;refine go 2 ?_;refine Yh (Yi 2) λl _=>Yh (Yi 3) λf _=>Yh (Yi 4) λh _=>go 5 ?_;refine dt (Zyl (vs:=[]) (us:=[_,_,_]) J aA K3)<|go 4 ?_;exact Yg (Zgq 2 J J)<|Yg (Zgq 3 J J)<|Yg (Zgq 4 J J)<|Xj d (_,_,_) results181 J aA (Ns 2 (Ns 3 (Ns 4 Za)))
@[reducible,instance] def encGI:EncT prog 35 6 Pd:=⟨pG⟩
theorem Ycu(v:Value)(ps:List Zi)(fr d:Int)(Y:∀g∈ps,SgG g)(hM:∀g∈ps,Ko fr d g=true->MdG fr d g)(a0:ps.length<=256):Cal prog 121 #[v,.int .i64 fr,.int .i64 d] [Qc 6 Pd qG v ps] true (G:=Value×List Zi) (λg=>g.2.map unS=Zaf fr d ps) (λg=> .tuple #[g.1,.int .i64 (Zvg fr d ps)]) (λg=>[Qc 6 Pd qG g.1 g.2]):=by
 refine Zy8 func121 J ntmps121 J K1 ?_;intro w0 sc P N;have P:=Hw.mk P;simp only [Qv,Yy];refine go 2 ?_;refine Yh (Zw 2) λF _=>Yh (Zw 3) λe _=>go 8 ?_;refine cl 4 [1] (Ycr _ _ _ _) λ⟨b,I,M⟩ _=>go 3 ?_;refine Zg (Oy 70 6 35 Pd)<|Zg (Qk qG 73)<|e_rfi (pre:=[Ie b 38 #[v],Ie I 3 #[.int .i64 fr],Ie M 3 #[.int .i64 d],Qc 6 Pd qG v ps]) (w0:=w0) (λ(_:Nat) (u:Value×List Zi)=>[(0,Xd w0 (λ_=>False)),(1,Qc 6 Pd qG v ps),(2,box F 38 #[u.1]),(3,box e 26 #[.int .i64 0]),(70,Ox 6 35 Pd u.1 u.2),(73,Gf qG u.2)]) (λk u=>Ybd fr d ps k u.2) (λ(_:Unit)=>[(0,Xd w0 (λ_=>False)),(2,box F 38 #[.slice none 0 0]),(3,box e 26 #[.int .i64 7])]) (λ_=>Pb fr d ps=false) (.slice none 0 0,[]) J (by intro B w;first|exact enters_of func229 O6 rfl B w|exact call229 B w) (Zz3 v ps b I M fr d Y hM) ?_ (λ_ _=>J) J P.h J (cutI_0 fr d ps) K6 (λ_ _=>⟨J,J⟩) (λ_=>⟨J,J⟩) (λk x f u Z s l Mf Wa=>?_) J (λu s D od=>?_) (λ_ Q=>?_)
 .intro p hp;simp only [bJ,fN,kR]at hp;rcases hp with rfl|rfl|rfl|rfl
  .exact⟨J,4,J⟩
  .exact⟨J,5,J⟩
  .exact⟨J,6,J⟩
  .exact⟨J,1,J⟩
 .obtain⟨H,zs⟩:=u;have W:k<=ps.length:=aB (dS (fB.1 Z).1) (kM _ _);have a1:zs.length<=ps.length:=cutI_l s W;refine Yf9 (env':=[(15,.bool (Zh6 fr d x)),(14,.agg #[.int .i64 (cA fr x),.int .i64 (cB d x),.int .i64 (mdO (cO x) (cG fr d x)),Qi f.1,Qi f.2.1,Qi f.2.2]),(6,.pointer (some ⟨F,0,none⟩)),(7,.pointer (some ⟨e,0,none⟩))]) (H':=[(92,Xd Wa Mf),(100,Ym 1 Yo (Qi f.1) (mdL (cO x) (cG fr d x) (cX fr d x x.2.1.2))),(101,Ym 1 Yo (Qi f.2.1) (mdL (cO x) (cG fr d x) (cX fr d x x.2.2.1.2))),(102,Ym 1 Yo (Qi f.2.2) (mdL (cO x) (cG fr d x) (cX fr d x x.2.2.2.2))),(0,Xd w0 (λ_=>False)),(1,Qc 6 Pd qG v ps),(2,box F 38 #[H]),(3,box e 26 #[.int .i64 0]),(70,Ox 6 35 Pd H zs),(73,Gf qG zs)]) (λa w hs=>hs.weaken ⟨J,J,J,J,aA⟩ ⟨J,J,J,J,J,J,J,J,J,J,aA⟩)<|Zpm J<|Yh (Zw 8) λb8 _=>go 1 ?_;refine go 1 ?_;refine Yin<|Zx7 J<|go 1 ?_;refine go 1 ?_;refine Yio λa w hs=>⟨J,[(8,.pointer (some ⟨b8,0,none⟩)),(9,.bool (Zh6 fr d x)),(6,.pointer (some ⟨F,0,none⟩)),(7,.pointer (some ⟨e,0,none⟩))],[(8,box b8 35 #[.int .i64 (cA fr x),.int .i64 (cB d x),.int .i64 (mdO (cO x) (cG fr d x)),Qi f.1,Qi f.2.1,Qi f.2.2]),(100,Ym 1 Yo (Qi f.1) (mdL (cO x) (cG fr d x) (cX fr d x x.2.1.2))),(101,Ym 1 Yo (Qi f.2.1) (mdL (cO x) (cG fr d x) (cX fr d x x.2.2.1.2))),(102,Ym 1 Yo (Qi f.2.2) (mdL (cO x) (cG fr d x) (cX fr d x x.2.2.2.2))),(0,Xd w0 (λ_=>False)),(1,Qc 6 Pd qG v ps),(2,box F 38 #[H]),(3,box e 26 #[.int .i64 0]),(70,Ox 6 35 Pd H zs),(73,Gf qG zs)],J,(λq h=>by cases h;rfl),⟨.inl J,.inr (λb n=>⟨100,_,J,n⟩),.inr (λb n=>⟨101,_,J,n⟩),.inr (λb n=>⟨102,_,J,n⟩),.inr (λb n=>⟨0,_,J,n⟩),.inr (λb n=>⟨1,_,J,n⟩),.inl J,.inl J,.inl J,.inr (λb n=>⟨73,_,J,n⟩),aA⟩,hs.weaken ⟨J,J,J,J,aA⟩ ⟨J,J,J,J,J,J,J,J,J,J,J,aA⟩,λWb=>?_⟩;refine Zsu<|er_seq<|Zpm J<|go 2 ?_;refine go 1 ?_;refine Yin<|Yga J (λV=>?_) (λV=>?_)
  .refine Zpm J<|go 2 ?_;refine go 1 ?_;exact Yin<|Yf8 λa w hs=>Or.inr ⟨J,(),cut_no Z (Zvq V),⟨.inr (λb n=>⟨0,_,J,n⟩),.inl J,.inl J,aA⟩,[],hs.weaken aA ⟨J,J,J,J,aA⟩⟩
  .refine Zx6<|Zx7 J<|go 2 ?_;refine tt (Qr (i:=12) (ivs:=[(0,_)]) (enc:=Pd) [(Zt9 fr d x f)] J J K2 Ia ti35 J J (Zu1 _ _ _ _ _ _ _ _ _ _ _ _) J J pG.cells J J P.h) (λv2 _=>?_);refine tt (Lp (i:=70) (j:=12) (by_:=96) J J J J J J O4 J (Yn pG) Ia ti35 J pG J J J O9 O4 J P.h) λv3 _=>go 2 ?_;exact Yg (Qk qC 71)<|Yg (Xb (q:=qC) (z:=(Zt9 fr d x f).2.1) 71 100 71 J J J J J)<|Yg (Xb (q:=qC) (z:=(Zt9 fr d x f).2.2.1) 71 101 71 J J J J J)<|Yg (Xb (q:=qC) (z:=(Zt9 fr d x f).2.2.2) 71 102 71 J J J J J)<|Yg (Xb (q:=qG) (z:=(Zt9 fr d x f)) 73 71 73 J J J J J)<|Yio λa w hs=>Or.inl ⟨J,(v3,zs ++ [(Zt9 fr d x f)]),cutI_s s Z (Zvr V),⟨.inr (λb n=>⟨0,_,J,n⟩),.inr (λb n=>⟨1,_,J,n⟩),.inl J,.inl J,.inl J,.inr (Yft 73 100 J J J J),aA⟩,[],hs.weaken aA ⟨J,J,J,J,J,J,J,aA⟩⟩
 .obtain⟨H,zs⟩:=u;obtain⟨R,S⟩:=cutI_e s;refine go 3 ?_;refine go 1 ?_;refine Yio λa w hs=>⟨J,[(6,.pointer (some ⟨F,0,none⟩)),(7,.pointer (some ⟨e,0,none⟩))],[(0,Xd w0 (λ_=>False)),(1,Qc 6 Pd qG v ps),(2,box F 38 #[H]),(3,box e 26 #[.int .i64 0]),(70,Ox 6 35 Pd H zs),(73,Gf qG zs)],J,⟨⟨_,J,J,λ_ h=>h⟩,⟨_,J,J,λ_ h=>h⟩,⟨_,J,J,λ_ h=>h⟩,⟨_,J,J,λ_ h=>h⟩,⟨_,J,J,λ_ h=>h⟩,⟨_,J,J,λ_ h=>h⟩,aA⟩,hs.weaken ⟨J,J,aA⟩ ⟨J,J,J,J,J,J,J,aA⟩,?_⟩;exact Yg (Qx 70 J J pG)<|Yg (La 70 73 72 J J J J)<|Mn N (H,zs) results121 (by rw [S]) R (Ns 72 Za)
 .exact Yg (Zcq 72 6 Pd qG)<|Mn N (.slice none 0 0,[]) results121 (by rw [(cut_f Q).2]) (cut_f Q).1 (Ns 72 Za)
open Go.RowKit (Below)
variable {P:Program} {N:Nat} {sc:Nat->Prop} {env env':Qt} {H H':Hp} {Q Q':Exit->Act->World->Prop} {M:Nat->Prop}
def wcr(l:List Int)(r:List Value):Array Value:=(l.map (Value.int .i64) ++ r).toArray
theorem Zi3(l:List Int)(r:List Value):(wcr l r).size=l.length+r.length:=by simp [wcr]
theorem Yir{l:List Int}{j:Nat}(h:j<l.length):(wcr l r)[j]? = some (.int .i64 (l.getD j 0)):=by simp [wcr,dA,h,aF]
theorem Yiq{l:List Int}{j:Nat}{v:Int}(h:j<l.length):Gx (wcr l r) j [.int .i64 v]=wcr (l.set j v) r:=by
 unfold Gx wcr;congr 1;rw [kE,aH h,eK,cP,mD,List.map_drop];have d:j<=(l.map (Value.int .i64)).length:=by rw [aW];omega
 have e:j+1<=(l.map (Value.int .i64)).length:=by rw [aW];omega
 simp only [dG,kZ,bW];rw [fE d,gF e];simp
theorem Zvo(l:List Int):cellsOf Yo l=l.map (Value.int .i64):=by
 induction l with
 | nil=>rfl
 | cons x l d=>rw [show cellsOf Yo (x::l)=(Yo x).cells.toList ++ cellsOf Yo l from rfl,d];rfl
theorem f_obox{e:TypeId}(i:Nat)(hi:lk H i=some (Ox 1 e Yo v xs))(z:xs≠[]):∀a w,Sat N sc env H a w->∃y:Nat×Nat×List Value,
  v= .slice (some ⟨y.1,0,none⟩) xs.length y.2.1/\xs.length+y.2.2.length=y.2.1/\y.2.1<=maxLen/\w.heap[y.1]? = some (.cells (wcr xs y.2.2) e (0,0)):=λa w hs=>by
 have l:w.ownsRow 0 e 1 v xs.length (cellsOf Yo xs):=hs.hold i _ hi;rcases l.2 with⟨rfl,s⟩|⟨g,h,d,rfl,B,q,u,n,j,f⟩
 .exact absurd (aD s) z
 .rw [iP]at j f;refine⟨(g,h,d.toList.drop xs.length),rfl,?_,n,?_⟩
  .show xs.length+(d.toList.drop xs.length).length=h;have p:d.toList.length=h:=by rw [dV];exact j
   rw [dX,p];omega
  .show w.heap[g]? = some (.cells (wcr xs (d.toList.drop xs.length)) e (0,0));rw [show wcr xs (d.toList.drop xs.length)=d by unfold wcr;rw [<-Zvo,<-f,fG]]
   exact q
theorem s_obox {e:TypeId}      (i:Nat) (hi:lk H i=some (Ox 1 e Yo (.slice (some ⟨b,0,none⟩) xs.length c) xs)) (d:Nat.beq i 0=false) (f:lk H 0=some (Xd w0 M0)) (j:∀b,w0.heap.size<=b->sc b)
    (hs:Sat N sc env H a w) (g:w.heap[b]? = some (.cells (wcr xs r) e (0,0))):Sat N sc env ((i,box b e (wcr xs r))::H) a w:=
 hs.upd hi rfl (λe=>by subst e;simp at d) (Chg.refl _ w) g (λk h=> .inl (by show some b=some k;rw [show k=b from h])) f j
theorem e_obox {f:Code} {e:TypeId}     (i:Nat) (hi:lk H i=some (Ox 1 e Yo v xs)) (d:Nat.beq i 0=false) (s:xs≠[]) (g:lk H 0=some (Xd w0 M0)) (q:∀b,w0.heap.size<=b->sc b)
  (h:∀(b c:Nat) (r:List Value),v= .slice (some ⟨b,0,none⟩) xs.length c->xs.length+r.length=c->c<=maxLen->E P N sc f Q env ((i,box b e (wcr xs r))::H)):E P N sc f Q env H:=λa w hs=>by
 obtain⟨⟨b,c,r⟩,p,j,l,n⟩:=f_obox i hi s a w hs;subst p;exact h b c r rfl j l a w (s_obox i hi d g q hs n)
theorem Yjt{e:TypeId}(i:Nat)(hi:lk H i=some (box b e (wcr xs r)))(d:Nat.beq i 0=false)(g:xs.length+r.length=c)(l:c<=maxLen)(f:lk H 0=some (Xd w0 M0))(n:∀b,w0.heap.size<=b->sc b) :
  ∀a w,Sat N sc env H a w->Sat N sc env ((i,Ox 1 e Yo (.slice (some ⟨b,0,none⟩) xs.length c) xs)::H) a w:=λa w hs=>by
 have h:w.heap[b]? = some (.cells (wcr xs r) e (0,0)):=hs.hold i _ hi;refine hs.upd hi rfl (λe=>by subst e;simp at d) (Chg.refl _ w) ?_ (λk j=> .inl (by cases j;rfl)) f n;refine⟨by rw [Zvo,aW,iP],.inr ⟨b,c,_,rfl,bG _,h,O1,l,by rw [Zi3,iP];exact g,?_⟩⟩;rw [Zvo,iP];show((xs.map (Value.int .i64)) ++ r).take xs.length=_;rw [fE (by rw [aW];exact aI _),bZ (by rw [aW];exact aI _)]
theorem Bt   {e:TypeId} {d n:Nat}   (j:o.op= .indexAddr t x y) (p:ev env x=some (.slice (some ⟨b,d,none⟩) n c)) (q:ev env y=some (.int kd m))
  (l:P.underlying t=some (.slice e)) (h:∀w,(sizeOf e).run P w= .ok 1 w) (f:m=(i:Int)) (g:i<n):Nv P N sc o env H (.pointer (some ⟨b,d+i,none⟩)):=λa w hs=>by
 subst f;simp [execOp,j,hs.ev p,hs.ev q,Instr.indexAt,asIntOf,run_underlying l,h,g,Ps]
theorem Zps   {e:TypeId} {d:Option Addr} {n:Nat} (f:o.op= .call { callee:= .builtin .len,args:=#[x],argTypes:=#[t] })
  (h:ev env x=some (.slice d n c)) (g:P.underlying t=some (.slice e)):Nv P N sc o env H (.int .i64 (n:Int)):=λa w hs=>by
 simp [execOp,f,resolve,hs.ev h,invoke,builtin,Builtin.len_,run_underlying g,goInt]
def Zb9{j:Nat}{l:List Int}(f:o.op= .load t x)(h:ev env x=some (.pointer (some ⟨b,j,none⟩)))(d:lk H i=some (box b tb (wcr l r)))(g:∀w,(isAgg t).run P w= .ok false w)(e:j<l.length) :
  Nv P N sc o env H (.int .i64 (l.getD j 0)):=Ybc f h d g (Yir e)
theorem Zqy    {j:Nat} {l:List Int}  {v:Int}   (q:o.op= .store t x y) (h:o.dst=none)
  (B:ev env x=some (.pointer (some ⟨b,j,none⟩))) (D:ev env y=some (.int .i64 v)) (f:lk H i=some (box b tb (wcr l r))) (d:i≠0) (p:∀w,(sizeOf t).run P w= .ok 1 w) (n:j<l.length)
  (e:lk H 0=some (Xd w0 M0)) (z:∀b,w0.heap.size<=b->sc b) (g:M b) :
  T P N sc M o env H (G:=Unit) (λ_=>True) (λ_=>env) (λ_=>(i,box b tb (wcr (l.set j v) r))::H):=by
 rw [<-Yiq n];exact Zje (vs:=[.int .i64 v]) q h B D f d rfl p rfl (by rw [Zi3];simp;omega) (λu s=>Zr (by rw [aY.1 s];rfl)) rfl e z g
theorem Ygw   {e:TypeId} {d n:Nat}   (q:o.op= .slice t x (some y) none none) (u:ev env x=some (.slice (some ⟨b,d,none⟩) n c)) (z:ev env y=some (.int kd m))
  (s:P.underlying t=some (.slice e)) (j:∀w,(sizeOf e).run P w= .ok 1 w) (f:m=(i:Int)) (l:i<n) (p:n<=c):Nv P N sc o env H (.slice (some ⟨b,d+i,none⟩) (n-i) (c-i)):=λa w hs=>by
 subst f;have g:i<=n:=O1;have h:i<c:=O1;simp [execOp,q,hs.ev u,hs.ev z,Instr.sliceAt,Instr.slice,Instr.sliceBounds,Instr.sliceBound,asIntOf,run_underlying s,j,g,h,p,Ps];intro B;omega
theorem d_prew   {e:TypeId} {n:Nat}   (j:o.op= .slice t x none (some y) none) (p:ev env x=some (.slice (some ⟨b,0,none⟩) n c)) (q:ev env y=some (.int kd m))
  (l:P.underlying t=some (.slice e)) (h:∀w,(sizeOf e).run P w= .ok 1 w) (d:m=(i:Int)) (f:i<=n) (s:n<=c):Nv P N sc o env H (.slice (some ⟨b,0,none⟩) i c):=λa w hs=>by
 subst d;have g:i<=c:=O1;simp [execOp,j,hs.ev p,hs.ev q,Instr.sliceAt,Instr.slice,Instr.sliceBounds,Instr.sliceBound,asIntOf,run_underlying l,h,f,g,Ps]
theorem t_clw   {j:TypeId} {lo n B:Nat} {l:List Int}   
  (V:o.op= .call { callee:= .builtin .clear,args:=#[x],argTypes:=#[t] }) (R:o.dst=none)
  (hx:ev env x=some (.slice (some ⟨b,lo,none⟩) n B))  (p:lk H i=some (box b tb (wcr l r))) (f:i≠0)
  (hn:0<n) (S:lo+n=l.length) (W:P.underlying t=some (.slice j)) (z:∀w,(sizeOf j).run P w= .ok 1 w)
  (hz:∀w,(zeroValue j).run P w= .ok (.int .i64 0) w)
  (D:lk H 0=some (Xd w0 M0)) (Z:∀b,w0.heap.size<=b->sc b) (I:M b) :
  T P N sc M o env H (G:=Unit) (λ_=>True) (λ_=>env) (λ_=>(i,box b tb (wcr (l.take lo) (List.replicate n (Value.int .i64 0) ++ r)))::H):=λa w hs K Q F=>by
 have s:w.heap[b]? = some (.cells (wcr l r) tb (0,0)):=hs.hold i _ p;have h:(Builtin.zeroCells (Value.int .i64 0).cells n).toList=List.replicate n (Value.int .i64 0):=by
  apply iK
  .simp [Builtin.zeroCells,Value.cells]
  .intro i h2 h3;simp [Builtin.zeroCells,Value.cells,nF]
 have d:=run_storeCells_at P b lo tb (List.replicate n (Value.int .i64 0)) 0 (wcr l r) w s (by rw [Zi3,aV];omega) (λu Y=>by rw [List.eq_of_mem_replicate Y];rfl);simp only [eE,aV]at d;have e:((wcr l r).toList.take lo ++ List.replicate n (Value.int .i64 0) ++ (wcr l r).toList.drop (lo+n)).toArray=wcr (l.take lo) (List.replicate n (Value.int .i64 0) ++ r):=by unfold wcr;congr 1;show((l.map (Value.int .i64) ++ r).take lo ++ _) ++ (l.map (Value.int .i64) ++ r).drop (lo+n)=_;rw [fE (by rw [aW];omega),gF (by rw [aW];omega),kI (by rw [aW];omega),mD,iW,dZ]
 rw [e]at d;obtain⟨m,rfl⟩:∃m,n=m+1:=⟨n-1,O1⟩;have g:(execOp a.eval o).run P w= .ok (.value (.tuple #[])) (w.setRow b (wcr (l.take lo) (List.replicate (m+1) (Value.int .i64 0) ++ r))):=by simp only [execOp,V,resolve,invoke,builtin];simp [hs.ev hx,Builtin.clear_,run_underlying W,hz,h,d]
 unfold Oper.wp;rw [g];show K (a.put o.dst _) _;rw [R];exact F () _ _ aA ((hs.upd p rfl f (q:=box b tb (wcr (l.take lo) (List.replicate (m+1) (Value.int .i64 0) ++ r))) (Ix (M:=λk=>k=b) _ rfl) (setRow_heap w b _ _ tb _ s) (λk z=> .inl z) D Z).put_none _) (Ix _ I)
theorem res0{fn:Func}(hs:Sat N sc env H a w)(d:fn.results=#[]):(results fn a.tmps).run P w= .ok (.tuple #[]) w:=by simp [results,d]
end Go.Sky
namespace Go.Sky
variable{i m k d:Nat}{xs p c q:List Int}{u:Rat}{a:Int}
def Srt(l:List Int)(n:Nat):Prop:=∀p q,p<q->q<n->l.getD p 0<=l.getD q 0
def Sst(l:List Int)(n:Nat):Prop:=∀p q,p<q->q<n->l.getD p 0<l.getD q 0
def Yih(l:List Int)(i j:Nat):Prop:=∀p q,p<q->q<=i->q≠j->l.getD p 0<=l.getD q 0
def Sam(l m:List Int):Prop:=m.length=l.length/\∀x,x∈m↔x∈l
def Sam.rfl'(l:List Int):Sam l l:=⟨rfl,λ_=>oK⟩
def Cf{l:List Int}{j:Nat}{v:Int}(hi:i<l.length):(l.set i v).getD j 0=if j=i then v else l.getD j 0:=Zg3 hi
def swp(l:List Int)(j:Nat):List Int:=(l.set j (l.getD (j-1) 0)).set (j-1) (l.getD j 0)
theorem Zxo(l:List Int)(j:Nat):(swp l j).length=l.length:=by simp [swp]
theorem Zab{l:List Int}{j:Nat}(b:j<l.length)(e:1<=j)(k:Nat):(swp l j).getD k 0=if k=j-1 then l.getD j 0 else if k=j then l.getD (j-1) 0 else l.getD k 0:=by unfold swp;rw [Cf (by rw [cH];omega),Cf b]
theorem Fm{l:List Int}{x:Int} : x∈l↔∃k,k<l.length/\l.getD k 0=x:=by
 constructor
 .intro h;obtain⟨k,b,e⟩:=eT.1 h;exact⟨k,b,by rw [aF,aL b];exact e⟩
 .rintro⟨k,b,rfl⟩;exact Ze b
theorem Zwt{l:List Int}{j:Nat}(f:j<l.length)(g:1<=j):Sam l (swp l j):=⟨Zxo l j,λx=>by
 rw [Fm,Fm,Zxo];constructor
 .rintro⟨k,h,e⟩;rw [Zab f g]at e;by_cases a:k=j-1
  .rw [aH a]at e;exact⟨j,f,e⟩
  .rw [aE a]at e;by_cases b:k=j
   .rw [aH b]at e;exact⟨j-1,O1,e⟩
   .rw [aE b]at e;exact⟨k,h,e⟩
 .rintro⟨k,h,e⟩;by_cases a:k=j-1
  .exact⟨j,f,by rw [Zab f g,aE O1,aH rfl,<-a];exact e⟩
  .by_cases b:k=j
   .exact⟨j-1,O1,by rw [Zab f g,aH rfl,<-b];exact e⟩
   .exact⟨k,h,by rw [Zab f g,aE a,aE b];exact e⟩⟩
def Sam.trans{l m n:List Int}(h:Sam l m)(b:Sam m n):Sam l n:=⟨b.1.trans h.1,λx=>(b.2 x).trans (h.2 x)⟩
def srtx_0{l:List Int}(h:Srt l i):Yih l i i:=λp q b e f=>h p q b O1
theorem Zq5{l:List Int}{j:Nat}(h:Yih l i j)(g:j<l.length)(f:1<=j)(r:j<=i)(s:l.getD j 0<l.getD (j-1) 0):Yih (swp l j) i (j-1):=λp q n e o=>by
 rw [Zab g f,Zab g f,aE o];by_cases a:q=j
 .rw [aH a];by_cases b:p=j-1
  .rw [aH b];omega
  .rw [aE b,aE O1];exact h p (j-1) O1 O1 O1
 .rw [aE a];by_cases b:p=j-1
  .rw [aH b];exact h j q O1 e a
  .rw [aE b];by_cases c:p=j
   .rw [aH c];exact h (j-1) q O1 e a
   .rw [aE c];exact h p q n e a
theorem Ycj{l:List Int}{j:Nat}(h:Yih l i j)(n:j<=i)(f:j=0\/(1<=j/\¬l.getD j 0<l.getD (j-1) 0)):Srt l (i+1):=λp q e g=>by
 by_cases a:q=j
 .rcases f with b|⟨b,c⟩
  .omega
  .subst a;by_cases d:p=q-1
   .subst d;omega
   .have:=h p (q-1) O1 O1 O1;omega
 .exact h p q e O1 a
def srt_1(l:List Int):Srt l 1:=λp q b e=>O1
structure Cmp (xs zs:List Int):Prop where
 s:Sst zs zs.length
 m:∀x,x∈zs↔x∈xs
theorem Yci{l:List Int}{n:Nat}(h:Srt l n)(f:∀q,1<=q->q<n->l.getD q 0≠l.getD (q-1) 0):Sst l n:=λp q g e=>by
 have j:=f q O1 e;have o:=h (q-1) q O1 e;rcases oA (show p<=q-1 by omega)with b|b
 .have:=h p (q-1) b O1;omega
 .subst b;omega
def Yl5{l:List Int}(h:Srt l l.length)(b:∀q,1<=q->q<l.length->l.getD q 0≠l.getD (q-1) 0):Cmp l l:=⟨Yci h b,λx=>oK⟩
structure Cml (xs l:List Int) (m k:Nat):Prop where
 k1:1<=k
 km:k<m
 ml:m<=xs.length
 ll:l.length=xs.length
 r:∀q,m<=q+1->l.getD q 0=xs.getD q 0
 s:Sst l k
 e:∀x,(∃p,p<k/\l.getD p 0=x)↔∃p,p<m/\xs.getD p 0=x
 z:l.getD (k-1) 0=xs.getD (m-1) 0
theorem cml_0(hs:Srt xs xs.length)(g:∀q,1<=q->q<k->xs.getD q 0≠xs.getD (q-1) 0)(h:1<=k)(j:k<xs.length)(f:xs.getD k 0=xs.getD (k-1) 0):Cml xs xs (k+1) k:=
 ⟨h,O1,O1,rfl,λq _=>rfl,Yci (λp q e b=>hs p q e O1) g,λx=>by
  constructor
  .rintro⟨p,e,b⟩;exact⟨p,O1,b⟩
  .rintro⟨p,e,b⟩;by_cases a:p=k
   .subst a;exact⟨p-1,O1,by rw [<-f];exact b⟩
   .exact⟨p,O1,b⟩,by rw [show k+1-1=k by omega];exact f.symm⟩
theorem cml_eq{l:List Int}(h:Cml xs l m k)(r:m<xs.length)(g:l.getD m 0=l.getD (m-1) 0):Cml xs l (m+1) k:=by
 have e:=h.r m O1;have f:=h.r (m-1) (by have:=h.k1;have:=h.km;omega);have n:=h.k1;have o:=h.km;refine⟨h.k1,O1,r,h.ll,λq s=>h.r q O1,h.s,λx=>(h.e x).trans ⟨?_,?_⟩,?_⟩
 .rintro⟨p,j,b⟩;exact⟨p,O1,b⟩
 .rintro⟨p,j,b⟩;by_cases a:p=m
  .subst a;exact⟨p-1,O1,by rw [<-b,<-e,<-f];exact g.symm⟩
  .exact⟨p,O1,b⟩
 .rw [h.z,show m+1-1=m by omega,<-e,<-f];exact g.symm
theorem cml_ne{l:List Int}(hs:Srt xs xs.length)(h:Cml xs l m k)(o:m<xs.length)(y:l.getD m 0≠l.getD (m-1) 0):Cml xs (l.set k (l.getD m 0)) (m+1) (k+1):=by
 have g:=h.r m O1;have r:=h.k1;have s:=h.km;have w:=h.r (m-1) O1;have t:=h.ll;have b:k<l.length:=O1;have v:xs.getD (m-1) 0<xs.getD m 0:=by have:=hs (m-1) m O1 o;omega
 refine⟨O1,O1,o,by rw [cH];exact h.ll,λq z=>?_,λp q j e=>?_,λx=>?_,?_⟩
 .rw [Cf b,aE O1];exact h.r q O1
 .rw [Cf b,Cf b,aE (show p≠k by omega)];by_cases a:q=k
  .rw [aH a,g];have B:=h.z;rcases oA (show p<=k-1 by omega)with f|f
   .have:=h.s p (k-1) f O1;omega
   .subst f;omega
  .rw [aE a];exact h.s p q j O1
 .constructor
  .rintro⟨p,j,e⟩;rw [Cf b]at e;by_cases a:p=k
   .rw [aH a,g]at e;exact⟨m,O1,e⟩
   .rw [aE a]at e;obtain⟨q,f,n⟩:=(h.e x).1 ⟨p,O1,e⟩;exact⟨q,O1,n⟩
  .rintro⟨p,j,e⟩;by_cases a:p=m
   .exact⟨k,O1,by rw [Cf b,aH rfl,g,<-a];exact e⟩
   .obtain⟨q,f,n⟩:=(h.e x).2 ⟨p,O1,e⟩;exact⟨q,O1,by rw [Cf b,aE O1];exact n⟩
 .rw [show k+1-1=k by omega,Cf b,aH rfl,show m+1-1=m by omega];exact g
theorem Zim{l:List Int}{p:Nat}(h:p<k):(l.take k).getD p 0=l.getD p 0:=by rw [aF,aF,mF h]
theorem cml_e{l:List Int}(h:Cml xs l xs.length k):Cmp xs (l.take k):=by
 have j:=h.km;have g:=h.ll;have f:(l.take k).length=k:=by rw [aR];omega
 refine⟨λp q e b=>?_,λx=>?_⟩
 .rw [f]at b;rw [Zim O1,Zim b];exact h.s p q e b
 .rw [Fm,Fm,<-h.e x,f];constructor
  .rintro⟨p,e,b⟩;rw [Zim e]at b;exact⟨p,e,b⟩
  .rintro⟨p,e,b⟩;exact⟨p,e,by rw [Zim e];exact b⟩
def Zkv(x:Int):List Int->List Int
 | []=>[x]
 | y::l=>if x<y then x::y::l else if x=y then y::l else y::Zkv x l
def Inc:List Int->Prop
 | []=>True
 | x::l=>(∀y∈l,x<y)/\Inc l
theorem Zkl{x z:Int} : ∀{l:List Int},z∈Zkv x l↔z=x\/z∈l
 | []=>by simp [Zkv]
 | y::l=>by
  unfold Zkv;split
  .simp
  .split
   .rename_i h;subst h;simp
   .rw [bJ,Zkl,bJ];constructor
    .rintro(h|h|h)
     .exact .inr (.inl h)
     .exact .inl h
     .exact .inr (.inr h)
    .rintro(h|h|h)
     .exact .inr (.inl h)
     .exact .inl h
     .exact .inr (.inr h)
theorem Zsm{x:Int} : ∀{l:List Int},Inc l->Inc (Zkv x l)
 | [],_=>⟨λy h=>(nomatch h),aA⟩
 | y::l,h=>by
  unfold Zkv;split
  .rename_i e;exact⟨λz b=>by
    rcases bJ.1 b with rfl|b
    .exact e
    .have:=h.1 z b;omega,h⟩
  .split
   .exact h
   .refine⟨λz b=>?_,Zsm h.2⟩;rcases Zkl.1 b with rfl|b
    .omega
    .exact h.1 z b
def Zl1(l:List Int):List Int:=l.foldr Zkv []
def Zb2:∀(l:List Int),Inc (Zl1 l)
 | []=>trivial
 | x::l=>Zsm (Zb2 l)
theorem Zbw{z:Int} : ∀{l:List Int},z∈Zl1 l↔z∈l
 | []=>oK
 | x::l=>by show z∈Zkv x (Zl1 l)↔_;rw [Zkl,Zbw,bJ]
theorem Zuy:∀{l m:List Int},Inc l->Inc m->(∀x,x∈l↔x∈m)->l=m
 | [],[],_,_,_=>rfl
 | [],y::m,_,_,h=>absurd ((h y).2 (bT ..)) (λh=>nomatch h)
 | x::l,[],_,_,h=>absurd ((h x).1 (bT ..)) (λh=>nomatch h)
 | x::l,y::m,hl,hm,h=>by
  have e:x=y:=by
   have g:=(h x).1 (bT ..);have f:=(h y).2 (bT ..);rcases bJ.1 g with b|b
   .exact b
   .rcases bJ.1 f with j|j
    .exact j.symm
    .have:=hm.1 x b;have:=hl.1 y j;omega
  subst e;rw [Zuy hl.2 hm.2 λz=>by
   have g:=h z;rw [bJ,bJ]at g;constructor
   .intro f;rcases g.1 (.inr f)with b|b
    .subst b;have:=hl.1 z f;omega
    .exact b
   .intro f;rcases g.2 (.inr f)with b|b
    .subst b;have:=hm.1 z f;omega
    .exact b]
theorem Zxt:∀{l:List Int},Sst l l.length->Inc l
 | [],_=>trivial
 | x::l,h=>⟨λy b=>by obtain⟨k,g,rfl⟩:=Fm.1 b;exact h 0 (k+1) O1 O9,Zxt λp q e f=>h (p+1) (q+1) O1 O9⟩
theorem Yhh{ys zs:List Int}(e:Sam xs ys)(b:Cmp ys zs):zs=Zl1 xs:=
 Zuy (Zxt b.s) (Zb2 xs) λx=>by rw [b.m,e.2,Zbw]
theorem Zwg:∀{l:List Int},Inc l->Sst l l.length
 | [],_=>λp q _ h=>absurd h (cI _)
 | x::l,h=>λp q b e=>by
  match p,q,b with
  | 0,q+1,_=>
   show x<l.getD q 0;exact h.1 _ (Ze (by simp at e;omega))
  | p+1,q+1,b=>exact Zwg h.2 p q O1 (by simp at e;omega)
def Yk2(j:Nat):j=0\/1<=j:=O1
theorem hd_s(h:∀q,1<=q->q<k->xs.getD q 0≠xs.getD (q-1) 0)(e:¬xs.getD k 0=xs.getD (k-1) 0):∀q,1<=q->q<k+1->xs.getD q 0≠xs.getD (q-1) 0:=λq f g=>by
 rcases bM.1 g with b|b
 .exact h q f b
 .subst b;exact e
open Go.Proofs.Tryz
open Go.Proofs
set_option synthInstance.maxHeartbeats 0
set_option synthInstance.maxSize 100000
set_option maxRecDepth 20000
set_option maxHeartbeats 1000000
set_option linter.unusedSimpArgs false
theorem Yl4(x:Int):Xo prog 278 #[.int .i64 x] [] (.bool false):=by refine Zf func278 ntmps278 λg f e b=>go 9 ?_;refine kf (aJ (λh=>h J))<|go 4 ?_;exact Xj b () results278 J aA Za
theorem Yhi(x y:Int):Xo prog 247 #[.int .i64 x,.int .i64 y] [] (.bool (decide (x<y))):=by refine Zf func247 ntmps247 λg f e b=>go 8 ?_;refine cl 0 [] (Yl4 _) λ_ _=>go 14 ?_;exact Xj b () results247 J aA Za
theorem Ybi(x:Nat)(e:x<U):Xo prog 204 #[.int .u64 (x:Int)] [] (.int .i64 (bl x:Int)):=by refine Zf func204 ntmps204 λh g f b=>go 12 ?_;refine cl 0 [] (Ztn _ e) λ_ _=>go 4 ?_;exact Xj b () results204 J aA Za
set_option maxHeartbeats 1000000 in
theorem sl_ins(b c:Nat)(xs:List Int)(r:List Value)(M:1<=xs.length)(P:xs.length<=12):Zcl prog 241 #[.slice (some ⟨b,0,none⟩) xs.length c,.int .i64 0,.int .i64 (xs.length:Int)] [] false b 3 (wcr xs r) (G:=List Int) (λg=>Sam xs g/\Srt g g.length) (λg=> .tuple #[]) (λg=>wcr g r) (λg=>[]):=by
 refine Fv func241 J ntmps241 J aA ?_;intro R Q s I;have s:=Hw.mk s;simp only [Qv,Yy];refine go 8 ⟨O1,?_⟩;refine lp (G:=Nat×List Int) [0,1,2] [0] (λq=>[(6,.int .i64 (q.1:Int))]) (λq=>[(1,box b 3 (wcr q.2 r))]) (λq=>(1<=q.1)/\(q.1<=xs.length)/\(Sam xs q.2)/\(Srt q.2 q.1)) (λq=>xs.length-q.1) (1,xs) ⟨O2,O2,Sam.rfl' xs,srt_1 xs⟩ K1 K1 ?_;rintro⟨i,l⟩ ⟨D,F,y,hs⟩;dsimp only at D F y hs;dsimp only;have H:=y.1;refine go 8 ?_;refine Zc J (λz=>?_) (λz=>?_)
 .refine go 11 ?_;refine lp (G:=Nat×List Int) [0,1,2,6] [0] (λq=>[(7,.int .i64 (q.1:Int))]) (λq=>[(1,box b 3 (wcr q.2 r))]) (λq=>(q.1<=i)/\(Sam xs q.2)/\(Yih q.2 i q.1)) (λq=>q.1) (i,l) ⟨aI _,y,srtx_0 hs⟩ K1 K1 ?_;rintro⟨j,m⟩ ⟨t,e,x⟩;dsimp only at t e x;dsimp only;have N:=e.1;refine go 2 ?_;rcases Yk2 j with f|f
  .refine Xw (λ_=>False) [(0,0),(1,0),(2,0),(3,0),(4,2),(5,2),(6,2),(7,2),(8,2),(9,2),(10,2),(11,2),(12,2),(13,2),(14,0)]<|go 2 ?_;refine Xn J J (Xr (dF (Zca J J J) (vB (aJ O1))))<|go 26 ⟨O1,?_⟩;exact Yq (i+1,m) ⟨O2,O2,e,Ycj x t (.inl f)⟩ O2 K1 K1
  .refine Xw (λ_=>False) [(0,0),(1,0),(2,0),(3,0),(4,0),(5,0),(6,0),(7,0),(8,0),(9,0),(10,0),(11,0),(12,0),(13,1),(14,0)]<|go 2 ?_;refine Xn J J (Xr (dT (Zca J J J) (vB (aM O1))))<|go 3 ?_;refine r0g (Xr (Xq (r':= .pointer (some ⟨b,j,none⟩)) (Bt (i:=j) J J J Pj Km O1 O1) (by rw [bW]))) J J J J J<|r0g (Xr (Xq (r':= .int .i64 (m.getD j 0)) (Zb9 (i:=1) J J J iA3 O1) (aK (λq=>Value.int .i64 (m.getD q 0)) O1))) J J J J J<|go 3 ⟨O1,?_⟩;refine r0g (Xr (Xq (r':= .pointer (some ⟨b,j-1,none⟩)) (Bt (i:=(j-1)) J J J Pj Km O1 O1) (by rw [bW]))) J J J J J<|r0g (Xr (Xq (r':= .int .i64 (m.getD (j-1) 0)) (Zb9 (i:=1) J J J iA3 O1) (aK (λq=>Value.int .i64 (m.getD q 0)) O1))) J J J J J<|Zj0 J J J J J (Pt (n:=1) (Yhi _ _) J J J K2 call247 Zx J s.h) λ_ _=>go 3 ?_;refine Zc J (λo=>?_) (λo=>?_)
   .have v:=o;refine go 4 ?_;refine Ld [] [17]<|Zm (n:=6) [(0,0),(1,0),(2,0),(3,0),(4,0),(5,0),(6,0),(7,0),(8,0),(10,0),(11,0),(12,0)]<|go 8 ⟨O1,O1,?_⟩;refine Xn J J (An (Xq (r':= .pointer (some ⟨b,j-1,none⟩)) (Bt (i:=(j-1)) J J J Pj Km O1 O1) (by rw [bW])) aA)<|go 2 ?_;refine Xn J J (An (Xq (r':= .pointer (some ⟨b,j,none⟩)) (Bt (i:=j) J J J Pj Km O1 O1) (by rw [bW])) aA)<|go 1 ?_;refine Qs (n:=5) 9 13 ?_ ?_
    .refine Aa J (Zdi (Xq (r':= .int .i64 (m.getD (j-1) 0)) (Zb9 (i:=1) J J J iA3 O1) (aK (λq=>Value.int .i64 (m.getD q 0)) O1)) J J) (λ_ _=>?_);refine Zm (n:=0) [(13,1),(14,0),(15,1),(16,0),(17,3)]<|Dn J (Zdi (Xq (r':= .int .i64 (m.getD j 0)) (Zb9 (i:=1) J J J iA3 O1) (aK (λq=>Value.int .i64 (m.getD q 0)) O1)) J J) (λ_ _=>?_);refine Xn J J (An (Xq (r':= .pointer (some ⟨b,j,none⟩)) (Bt (i:=j) J J J Pj Km O1 O1) (by rw [bW])) aA)<|Dn J (Zqy (i:=1) J J J J J O4 Km O1 J s.h (λ_ h=>nomatch h)) (λ_ _=>?_);refine Xn J J (An (Xq (r':= .pointer (some ⟨b,j-1,none⟩)) (Bt (i:=(j-1)) J J J Pj Km O1 O1) (by rw [bW])) aA)<|r3' J (Zqy (i:=1) J J J J J O4 Km (by rw [cH];omega) J s.h aA) λ_ _=>go 1 ?_;refine Zz<|go 7 ⟨O1,?_⟩;exact Yq (j-1,swp m j) ⟨O2,e.trans (Zwt O1 O1),Zq5 x O1 f t v⟩ O2 ⟨(aK (λq:Int=>some (Value.int .i64 q)) (show(j:Int)-1=((j-1:Nat):Int) by omega)),aA⟩ K1
    .refine Aa J (Zdi (Xq (r':= .int .i64 (m.getD j 0)) (Zb9 (i:=1) J J J iA3 O1) (aK (λq=>Value.int .i64 (m.getD q 0)) O1)) J J) (λ_ _=>?_);refine Zm (n:=0) [(9,1),(14,0),(15,1),(16,0),(17,3)]<|Dn J (Zdi (Xq (r':= .int .i64 (m.getD (j-1) 0)) (Zb9 (i:=1) J J J iA3 O1) (aK (λq=>Value.int .i64 (m.getD q 0)) O1)) J J) (λ_ _=>?_);refine Xn J J (An (Xq (r':= .pointer (some ⟨b,j,none⟩)) (Bt (i:=j) J J J Pj Km O1 O1) (by rw [bW])) aA)<|Dn J (Zqy (i:=1) J J J J J O4 Km O1 J s.h (λ_ h=>nomatch h)) (λ_ _=>?_);refine Xn J J (An (Xq (r':= .pointer (some ⟨b,j-1,none⟩)) (Bt (i:=(j-1)) J J J Pj Km O1 O1) (by rw [bW])) aA)<|r3' J (Zqy (i:=1) J J J J J O4 Km (by rw [cH];omega) J s.h aA) λ_ _=>go 1 ?_;refine Zz<|go 7 ⟨O1,?_⟩;exact Yq (j-1,swp m j) ⟨O2,e.trans (Zwt O1 O1),Zq5 x O1 f t v⟩ O2 ⟨(aK (λq:Int=>some (Value.int .i64 q)) (show(j:Int)-1=((j-1:Nat):Int) by omega)),aA⟩ K1
   .have B:=o;refine go 11 ⟨O1,?_⟩;exact Yq (i+1,m) ⟨O2,O2,e,Ycj x t (.inr ⟨f,B⟩)⟩ O2 K1 K1
 .obtain rfl:i=xs.length:=O1;refine go 4 ?_;exact Ec (.inr J) I l _ (λa w hs=>res0 hs results241) J ⟨y,by rw [H];exact hs⟩ 1 J J J J Za
set_option maxHeartbeats 1000000 in
theorem sl_pdq(b c:Nat)(xs:List Int)(r:List Value)(l:Int)(f:1<=xs.length)(s:xs.length<=12):Zcl prog 203 #[.slice (some ⟨b,0,none⟩) xs.length c,.int .i64 0,.int .i64 (xs.length:Int),.int .i64 l] [] false b 3 (wcr xs r) (G:=List Int) (λg=>Sam xs g/\Srt g g.length) (λg=> .tuple #[]) (λg=>wcr g r) (λg=>[]):=by refine Fv func203 J ntmps203 J aA ?_;intro v t j h;have j:=Hw.mk j;simp only [Qv,Yy];refine go 11 ?_;refine lp (G:=Nat) [0] [0,1] (λk=>[(1,.int .i64 0),(2,.int .i64 (xs.length:Int))]) (λk=>[]) (λk=>True) (λk=>k) 0 aA K2 aA ?_;rintro k -;refine go 13 ⟨O1,?_⟩;refine kt (aM O1)<|go 8 ?_;refine tt (Qd (n:=1) (i:=1) (sl_ins _ _ _ _ f s) J J J K3 call241 J O4 Zx J j.h aA) λo e=>go 7 ?_;exact Ec (.inl J) h o _ (λa w hs=>res0 hs results203) J e 1 J J J J Za
set_option maxHeartbeats 1000000 in
theorem Yji(b c:Nat)(xs:List Int)(r:List Value)(f:1<=xs.length)(o:xs.length<=12):Zcl prog 150 #[.slice (some ⟨b,0,none⟩) xs.length c] [] false b 3 (wcr xs r) (G:=List Int) (λg=>Sam xs g/\Srt g g.length) (λg=> .tuple #[]) (λg=>wcr g r) (λg=>[]):=by refine Fv func150 J ntmps150 J aA ?_;intro t s j h;have j:=Hw.mk j;simp only [Qv,Yy];refine go 3 ?_;refine dt (Zps J J Pj)<|go 7 ?_;refine dt (Xq (r':= .int .u64 (xs.length:Int)) (Zpu J J uT3 underlying230 (by simp only [U];omega)) J)<|cl 1 [] (Ybi xs.length (by simp only [U];omega)) λ_ _=>?_;refine tt (Qd (n:=1) (i:=1) (sl_pdq _ _ _ _ _ f o) J J J K4 call203 J O4 Zx J j.h aA) λl e=>go 1 ?_;exact Ec (.inr J) h l _ (λa w hs=>res0 hs results150) J e 1 J J J J Za
set_option maxHeartbeats 1000000 in
theorem sl_cmp(b c:Nat)(xs:List Int)(r:List Value)(S:2<=xs.length)(Y:xs.length<=12)(V:xs.length<=c)(o:Srt xs xs.length):Zcl prog 151 #[.slice (some ⟨b,0,none⟩) xs.length c] [] false b 3 (wcr xs r) (G:=List Int×List Value) (λg=>Cmp xs g.1/\g.1.length+g.2.length=xs.length+r.length) (λg=> .slice (some ⟨b,0,none⟩) g.1.length c) (λg=>wcr g.1 g.2) (λg=>[]):=by
 refine Fv func151 J ntmps151 J aA ?_;intro w0 Z x v;have x:=Hw.mk x;simp only [Qv,Yy];refine go 9 ?_;refine dt (Zps J J Pj)<|kf (aJ O1)<|go 12 ?_;refine lp (G:=Nat) [0] [0,1] (λk=>[(3,.int .i64 (k:Int))]) (λk=>[]) (λk=>(1<=k)/\(k<=xs.length)/\(∀q,1<=q->q<k->xs.getD q 0≠xs.getD (q-1) 0)) (λk=>xs.length-k) 1 ⟨O2,O2,λq H I=>absurd I O1⟩ K1 aA ?_;rintro k ⟨B,N,y⟩;refine go 5 ?_;refine dt (Zps J J Pj)<|go 3 ?_;refine Zc J (λs=>?_) (λs=>?_)
 .refine go 5 ?_;refine Xw (λ_=>False) [(0,0),(1,0),(2,0),(3,0),(4,0),(5,0),(6,0),(7,0),(8,0),(9,0)]<|go 2 ?_;refine Xn J J (Xr (Xq (r':= .pointer (some ⟨b,k,none⟩)) (Bt (i:=k) J J J Pj Km O1 O1) (by rw [bW])))<|Xn J J (Xr (Xq (r':= .int .i64 (xs.getD k 0)) (Zb9 (i:=1) J J J iA3 O1) (aK (λq=>Value.int .i64 (xs.getD q 0)) O1)))<|go 3 ⟨O1,?_⟩;refine Xn J J (Xr (Xq (r':= .pointer (some ⟨b,k-1,none⟩)) (Bt (i:=(k-1)) J J J Pj Km O1 O1) (by rw [bW])))<|Xn J J (Xr (Xq (r':= .int .i64 (xs.getD (k-1) 0)) (Zb9 (i:=1) J J J iA3 O1) (aK (λq=>Value.int .i64 (xs.getD q 0)) O1)))<|go 3 ?_;refine Zc J (λe=>?_) (λe=>?_)
  .have M:=e;refine go 4 ?_;refine dt (Xq (r':= .slice (some ⟨b,k,none⟩) (xs.length-k) (c-k)) (Ygw (i:=k) J J J Pj Km J O1 O1) (by rw [bW]))<|go 10 ?_;refine lp (G:=Nat×Nat×List Int) [0,4] [0] (λq=>[(5,.int .i64 (q.1:Int)),(3,.int .i64 (q.2.1:Int))]) (λq=>[(1,box b 3 (wcr q.2.2 r))]) (λq=>(1<=q.1)/\(Cml xs q.2.2 (k+q.1) q.2.1)) (λq=>xs.length-k-q.1) (1,k,xs) ⟨O2,cml_0 o y B O1 M⟩ K2 K1 ?_;rintro⟨j,kk,l⟩ ⟨z,h⟩;dsimp only at z h;dsimp only;have W:=h.ll;have P:=h.k1;have Q:=h.km;have R:=h.ml;refine go 5 ?_;refine dt (Zps J J Pj)<|go 3 ?_;refine Zc J (λt=>?_) (λt=>?_)
   .refine go 5 ?_;refine Xw (λ_=>False) [(0,0),(1,0),(2,0),(3,0),(4,0),(5,0),(6,0),(7,0),(8,0),(9,0)]<|go 2 ?_;refine Xn J J (Xr (Bt (i:=j) J J J Pj Km O1 O1))<|Xn J J (Xr (Xq (r':= .int .i64 (l.getD (k+j) 0)) (Zb9 (i:=1) J J J iA3 O1) (aK (λq=>Value.int .i64 (l.getD q 0)) O1)))<|go 3 ⟨O1,?_⟩;refine Xn J J (Xr (Bt (i:=(j-1)) J J J Pj Km O1 O1))<|Xn J J (Xr (Xq (r':= .int .i64 (l.getD (k+j-1) 0)) (Zb9 (i:=1) J J J iA3 O1) (aK (λq=>Value.int .i64 (l.getD q 0)) O1)))<|go 3 ?_;refine Zc J (λf=>?_) (λf=>?_)
    .have n:=f;refine go 6 ?_;refine dt (Bt (i:=j) J J J Pj Km O1 O1)<|dt (Xq (r':= .int .i64 (l.getD (k+j) 0)) (Zb9 (i:=1) J J J iA3 O1) (aK (λq=>Value.int .i64 (l.getD q 0)) O1))<|dt (Xq (r':= .pointer (some ⟨b,kk,none⟩)) (Bt (i:=kk) J J J Pj Km J O1) (by rw [bW]))<|tt (Zqy (i:=1) J J J J J O4 Km O1 J x.h aA) (λ_ _=>?_);refine go 14 ⟨O1,O1,?_⟩;exact Yq (j+1,kk+1,l.set kk (l.getD (k+j) 0)) ⟨O2,cml_ne (m:=k+j) o h O1 n⟩ O2 K2 K1
    .have n:=f;refine go 8 ⟨O1,?_⟩;exact Yq (j+1,kk,l) ⟨O2,cml_eq (m:=k+j) h O1 (jG.1 n)⟩ O2 K2 K1
   .obtain D:k+j=xs.length:=O1;rw [D]at h;refine go 9 ?_;refine dt (Xq (r':= .slice (some ⟨b,kk,none⟩) (xs.length-kk) (c-kk)) (Ygw (i:=kk) J J J Pj Km J O1 O1) (by rw [bW]))<|tt (t_clw (i:=1) J J J J O4 O1 O1 Pj Km (λw=>zeroValue3 w) J x.h aA) λ_ _=>go 6 ?_;refine dt (d_prew (i:=kk) J J J Pj Km J O1 O1)<|go 9 ?_;exact Ec (.inl J) v (l.take kk,List.replicate (xs.length-kk) (.int .i64 0) ++ r) _ (λa w hs=>Zde hs results151 J) (by rw [aR,dD O1]) ⟨cml_e h,O9⟩ 1 J J J J Za
  .have F:=e;refine go 8 ⟨O1,?_⟩;exact Yq (k+1) ⟨O2,O2,hd_s y F⟩ O2 K1 aA
 .refine go 12 ?_;exact Ec (.inl J) v (xs,r) _ (λa w hs=>Zde hs results151 J) J ⟨Yl5 o (λq H I=>y q H O1),J⟩ 1 J J J J Za
def Ig(f:Nat->Rat):Nat->Rat
 | 0=>0
 | n+1=>Ig f n+f n
def Od(f:Nat->Rat)(n:Nat):Ig f (n+1)=Ig f n+f n:=rfl
theorem Mj{f g:Nat->Rat} : ∀n,(∀i,i<n->f i=g i)->Ig f n=Ig g n
 | 0,_=>rfl
 | n+1,h=>by rw [Od,Od,Mj n λi hi=>h i O1,h n O1]
theorem Ej(f:Nat->Rat):∀n,Ig f (n+1)=f 0+Ig (λi=>f (i+1)) n
 | 0=>by show 0+f 0=f 0+0;grind
 | n+1=>by rw [Od,Ej f n,Od];grind
theorem Zj3(f g:Nat->Rat):∀n,Ig (λi=>f i+g i) n=Ig f n+Ig g n
 | 0=>by show(0:Rat)=0+0;grind
 | n+1=>by rw [Od,Od,Od,Zj3 f g n];grind
theorem Fk(c:Rat)(f:Nat->Rat):∀n,Ig (λi=>c*f i) n=c*Ig f n
 | 0=>by show(0:Rat)=c*0;grind
 | n+1=>by rw [Od,Od,Fk c f n];grind
theorem Zhp(f:Nat->Rat):∀n,(∀i,i<n->0<=f i)->0<=Ig f n
 | 0,_=>iH
 | n+1,h=>by have b:=Zhp f n λi hi=>h i O1;have e:=h n O1;rw [Od];grind
theorem Zhx(n:Nat):Pp n 0=1:=by cases n<;>rfl
def chz_s(n k:Nat):Pp (n+1) (k+1)=Pp n k+Pp n (k+1):=rfl
theorem Yhy{u w:Rat}(h:u+w=1):∀n,Ig (λj=>(Pp n j:Rat)*(u^j*w^(n-j))) (n+1)=1
 | 0=>by rw [Ej];show((Pp 0 0:Nat):Rat)*(u^0*w^0)+0=1;rw [Zhx,eG,eG];push_cast;grind
 | n+1=>by
  have b:=Yhy h n;rw [Ej];have e:Ig (λi=>(Pp (n+1) (i+1):Rat)*(u^(i+1)*w^(n+1-(i+1)))) (n+1)=Ig (λi=>u*((Pp n i:Rat)*(u^i*w^(n-i)))) (n+1)+Ig (λi=>(Pp n (i+1):Rat)*(u^(i+1)*w^(n-i))) (n+1):=by rw [<-Zj3];refine Mj _ λi hi=>?_;rw [chz_s,show n+1-(i+1)=n-i by omega,dL];push_cast;grind
  have f:Ig (λi=>(Pp n (i+1):Rat)*(u^(i+1)*w^(n-i))) (n+1)=Ig (λi=>(Pp n (i+1):Rat)*(u^(i+1)*w^(n-i))) n:=by rw [Od,Zlf n (n+1) O1];push_cast;grind
  have g:w*Ig (λj=>(Pp n j:Rat)*(u^j*w^(n-j))) (n+1)=w^(n+1)+Ig (λi=>(Pp n (i+1):Rat)*(u^(i+1)*w^(n-i))) n:=by
   rw [<-Fk,Ej,Zhx];congr 1
   .rw [iR,eG,dL];push_cast;grind
   .refine Mj _ λi hi=>?_;rw [show n-i=(n-(i+1))+1 by omega,dL w];grind
  rw [e,f,Fk,b];rw [b]at g;rw [Zhx,eG,iR];push_cast;grind
def Ln(d:Nat)(c:List Int)(j:Nat):Int:=Yd (λi=>cf c i*(Pp (d-i) (j-i):Int)) (j+1)
theorem Yht(d:Nat)(a:Int)(c:List Int):Ln d (a::c) 0=a:=by unfold Ln;rw [Yf,Mz];show 0+a*((Pp (d-0) (0-0):Nat):Int)=a;rw [show 0-0=0 from rfl,Zhx];omega
theorem brS_s(d:Nat)(a:Int)(c:List Int)(j:Nat):Ln (d+1) (a::c) (j+1)=a*(Pp (d+1) (j+1):Int)+Ln d c j:=by unfold Ln;rw [Mt];congr 1;refine Yp λi hi=>?_;rw [show d+1-(i+1)=d-i by omega,show j+1-(i+1)=j-i by omega];rfl
theorem Zp8(d j:Nat):Ln d [] j=0:=by unfold Ln;exact(Zco (m:=0) (bG _) λi _ _=>by rw [show cf [] i=0 from rfl,dB]).trans (Mz _)
theorem bern{u w:Rat}(h:u+w=1):∀(d:Nat) (c:List Int),c.length<=d+1->Ig (λj=>(Ln d c j:Rat)*(u^j*w^(d-j))) (d+1)=Zb c u
 | d,[],_=>by
  rw [Mj (g:=λ_=>0) (d+1) λi hi=>by rw [Zp8];push_cast;grind];show Ig (λ_=>0) (d+1)=0;have:∀n,Ig (λ_=>0) n=0:=λn=>by
   induction n with
   | zero=>rfl
   | succ n f=>rw [Od,f];grind
  exact this _
 | 0,[a],_=>by rw [Od,Yht];show 0+(a:Rat)*(u^0*w^0)=(a:Rat)+u*0;rw [eG,eG];grind
 | 0,a::b::c,hl=>by simp at hl
 | d+1,a::c,hl=>by
  have f:=bern h d c (by simpa using hl);have e:=Yhy h (d+1);rw [Ej]at e;rw [Ej,Yht];have l:Ig (λi=>(Ln (d+1) (a::c) (i+1):Rat)*(u^(i+1)*w^(d+1-(i+1)))) (d+1)=(a:Rat)*Ig (λi=>(Pp (d+1) (i+1):Rat)*(u^(i+1)*w^(d+1-(i+1)))) (d+1)+u*Ig (λj=>(Ln d c j:Rat)*(u^j*w^(d-j))) (d+1):=by rw [<-Fk,<-Fk,<-Zj3];refine Mj _ λi hi=>?_;rw [brS_s,show d+1-(i+1)=d-i by omega,dL];push_cast;grind
  rw [l,f];show _=(a:Rat)+u*Zb c u;rw [Zhx]at e;push_cast at e ⊢;grind
theorem Zj5(c:List Int)(d j:Nat):Yj9 c d j (min (j+1) c.length)=Ln d c j:=by unfold Yj9 Ln;refine(Zco (Nat.min_le_left _ _) λi b e=>?_).symm;rw [Yk O1,dB]
theorem Ztp(l:c.length<=d+1)(hs:∀j,j<d+1->0<=Yj9 c d j (min (j+1) c.length))(e:0<=u)(n:u<=1):0<=Zb c u:=by
 rw [<-bern (u:=u) (w:=1-u) O5 d c l];refine Zhp _ _ λi hi=>?_;have b:=hs i hi;rw [Zj5]at b;have f:(0:Rat)<=((Ln d c i:Int):Rat):=by exact_mod_cast b
 have g:(0:Rat)<=u^i:=Rat.pow_nonneg e;have h:(0:Rat)<=(1-u)^(d-i):=Rat.pow_nonneg O5;exact aG f (aG g h)
theorem Da(a:Int):∀(c:List Int) (i:Nat),cf (c.map λx=>a*x) i=a*cf c i
 | [],i=>by rw [iT,show cf [] i=0 from rfl,dP]
 | x::c,0=>rfl
 | x::c,i+1=>Da a c i
theorem Zue(c:List Int)(a b e:Int)(u:Rat):Zb (mk (c.length+1) λt=>cf c t*a+(if t=0 then e else cf c (t-1)*b)) u=Zb c u*((a:Rat)+(b:Rat)*u)+(e:Rat):=by
 have h:Zb (mk (c.length+1) λt=>cf c t*a+(if t=0 then e else cf c (t-1)*b)) u=Zb (Nr (c.map λx=>a*x) (e::c.map λx=>b*x)) u:=Oa u _ _ λi=>by
  rw [Nu,Da,Ng]
  match i with
  | 0=>rw [aH O1,aH rfl];show cf c 0*a+e=a*cf c 0+e;rw [cY]
  | i+1=>
   show _=a*cf c (i+1)+cf (c.map λx=>b*x) i;rw [Da];by_cases hi:i<c.length
   .rw [aH O1,aE O1,fJ,cY,cY (cf c i)]
   .rw [aE O1,Yk (p:=c) (i:=i+1) O1,Yk (p:=c) (i:=i) O1];omega
 rw [h,Yx,Zh];show _+((e:Rat)+u*Zb (c.map λx=>b*x) u)=_;rw [Zh];grind
theorem Zrk(p:List Int)(a b d:Int){t u:Rat}(f:t*(d:Rat)=(a:Rat)+(b:Rat)*u):∀j,j+1<=p.length->Zb (Ms p a b d j) u=(d:Rat)^j*Zb (p.drop (p.length-1-j)) t
 | 0,h=>by
  have e:p.drop (p.length-1-0)=[cf p (p.length-1)]:=by rw [iR,dW O1,kF O1];congr 1;unfold cf;rw [aF,aL O1];rfl
  rw [Er,e,eG,Qu,Qu];grind
 | j+1,h=>by
  have g:=Zrk p a b d f j O1;have e:p.drop (p.length-1-(j+1))=cf p (p.length-2-j)::p.drop (p.length-1-j):=by rw [dW O1,show p.length-1-(j+1)+1=p.length-1-j by omega];congr 1;unfold cf;rw [aF,aL O1];show p[p.length-1-(j+1)]=p[p.length-2-j];congr 1;omega
  rw [Ybf,Zue,g,e,<-f];show _=(d:Rat)^(j+1)*((cf p (p.length-2-j):Rat)+t*Zb (p.drop (p.length-1-j)) t);rw [dL];push_cast;rw [dL];generalize (d:Rat)^j=D;grind
theorem Zjx(a b d:Int){t:Rat}(f:t*(d:Rat)=(a:Rat)+(b:Rat)*u)(e:p.length≠0):Zb (Ke p a b d) u=(d:Rat)^(p.length-1)*Zb p t:=by unfold Ke;rw [aE e,Oa u (tzl _) _ (λi=>Ky _ i),Zrk p a b d f (p.length-1) O1,lF,gU]
def Ygv:List Int->List Int
 | []=>[]
 | a::p=>a::0::Ygv p
theorem Zn6(x:Rat):∀p:List Int,Zb (Ygv p) x=Zb p (x*x)
 | []=>rfl
 | a::p=>by show(a:Rat)+x*(((0:Int):Rat)+x*Zb (Ygv p) x)=(a:Rat)+x*x*Zb p (x*x);rw [Zn6 x p];push_cast;grind
theorem Zvn:∀(p:List Int) (i:Nat),cf (Ygv p) (2*i)=cf p i
 | [],i=>rfl
 | a::p,0=>rfl
 | a::p,i+1=>by show cf (0::Ygv p) (2*i+1)=cf p i;exact Zvn p i
theorem Yco(x:Rat):0<=x*x:=by
 rcases(show 0<=x\/x<=0 by grind)with h|h
 .exact aG h h
 .have:=aG (show 0<=-x by grind) (show 0<=-x by grind);grind
theorem Zrj(h:∀x:Rat,0<=x->Zb p x=Zb q x)(i:Nat):cf p i=cf q i:=by rw [<-Zvn p,<-Zvn q];exact On (λx=>by rw [Zn6,Zn6];exact h _ (Yco x)) _
theorem Ze9(f:Nat->Int)(x:Rat):∀n,Zb (mk n f) x=Ig (λj=>(f j:Rat)*x^j) n
 | 0=>rfl
 | n+1=>by rw [Zfr,Zri,Ze9 f x n,Yj,Od]
def NN(p:List Int):Prop:=∀i,0<=cf p i
theorem NN.smul{c:Int}(b:0<=c)(h:NN p):NN (p.map λa=>c*a):=λi=>by rw [Da];exact eA b (h i)
theorem NN.add(b:NN p)(e:NN q):NN (Nr p q):=λi=>by rw [Nu];exact Int.add_nonneg (b i) (e i)
theorem NN.lmul{q:List Int}(b:NN q):∀{p:List Int},NN p->NN (lmul p q)
 | [],_=>λi=>by show 0<=cf [] i;rw [show cf [] i=0 from rfl];exact eO _
 | c::p,h=>NN.add (NN.smul (h 0) b) λi=>by
  match i with
  | 0=>exact eO _
  | i+1=>exact NN.lmul b (p:=p) (λj=>h (j+1)) i
def lpw(l:List Int):Nat->List Int
 | 0=>[1]
 | k+1=>lmul l (lpw l k)
theorem Zn3(l:List Int)(x:Rat):∀k,Zb (lpw l k) x=Zb l x^k
 | 0=>by rw [eG];show((1:Int):Rat)+x*0=1;push_cast;grind
 | k+1=>by rw [show lpw l (k+1)=lmul l (lpw l k)from rfl,Zs,Zn3 l x k,dL,jN]
theorem NN.lpw{l:List Int}(h:NN l):∀k,NN (lpw l k)
 | 0=>λi=>by
  show 0<=cf [1] i
  match i with
  | 0=>exact Int.one_nonneg
  | i+1=>exact eO _
 | k+1=>NN.lmul (NN.lpw h k) h
theorem NN.two{b:Int}(e:0<=a)(f:0<=b):NN [a,b]:=λi=>by
 match i with
 | 0=>exact e
 | 1=>exact f
 | i+2=>exact eO _
def sQ(f:Nat->Int)(W:Nat->List Int):Nat->List Int
 | 0=>[]
 | k+1=>Nr (sQ f W k) ((W k).map λa=>f k*a)
theorem Zud(f:Nat->Int)(W:Nat->List Int)(x:Rat):∀k,Zb (sQ f W k) x=Ig (λi=>(f i:Rat)*Zb (W i) x) k
 | 0=>rfl
 | k+1=>by rw [show sQ f W (k+1)=Nr (sQ f W k) ((W k).map λa=>f k*a)from rfl,Yx,Zud f W x k,Zh,Od]
theorem sQ_le{f g:Nat->Int}{W:Nat->List Int}{B:Int}(b:∀i,NN (W i)):∀k,(∀i,i<k->((f i).natAbs:Int)<=B*g i)->∀j,((cf (sQ f W k) j).natAbs:Int)<=B*cf (sQ g W k) j
 | 0,_,j=>by show((cf [] j).natAbs:Int)<=B*cf [] j;rw [show cf [] j=0 from rfl];simp
 | k+1,h,j=>by
  have v:=sQ_le b k (λi hi=>h i O1) j;have l:=h k O1;show((cf (Nr (sQ f W k) ((W k).map λa=>f k*a)) j).natAbs:Int)<=B*cf (Nr (sQ g W k) ((W k).map λa=>g k*a)) j;rw [Nu,Nu,Da,Da,lW,<-eU];have n:=b k j;have o:((f k*cf (W k) j).natAbs:Int)<=B*g k*cf (W k) j:=by rw [cF];push_cast;have e:((cf (W k) j).natAbs:Int)=cf (W k) j:=O1;rw [e];exact fA l n
  generalize B*g k*cf (W k) j=t at *;generalize f k*cf (W k) j=s at *;generalize B*cf (sQ g W k) j=r at *;omega
theorem Zkh(a b:Rat):∀n:Nat,(a*b)^n=a^n*b^n
 | 0=>by rw [eG,eG,eG];grind
 | n+1=>by rw [dL,dL,dL,Zkh a b n];grind
theorem Zzq(a:Rat)(m:Nat):∀n:Nat,a^(m+n)=a^m*a^n
 | 0=>by rw [eE,eG];grind
 | n+1=>by rw [<-fX,dL,dL,Zzq a m n];grind
theorem Yhz{U V S:Rat}(h:U+V=S)(l:S≠0)(g:c.length<=d+1):Ig (λj=>(Ln d c j:Rat)*(U^j*V^(d-j))) (d+1)=S^d*Zb c (U/S):=by
 rw [<-bern (u:=U/S) (w:=V/S) (by rw [<-h];grind) d c g,<-Fk];refine Mj _ λj n=>?_;have b:U^j=S^j*(U/S)^j:=by rw [<-Zkh];congr 1;grind
 have e:V^(d-j)=S^(d-j)*(V/S)^(d-j):=by rw [<-Zkh];congr 1;grind
 have f:S^d=S^j*S^(d-j):=by rw [<-Zzq];congr 1;omega
 rw [b,e,f];grind
theorem Zzh{U V S:Rat}(h:U+V=S)(g:S≠0)(d:Nat):Ig (λj=>(Pp d j:Rat)*(U^j*V^(d-j))) (d+1)=S^d:=by
 have:=Yhy (u:=U/S) (w:=V/S) (by rw [<-h];grind) d;rw [<-Rat.mul_one (S^d),<-this,<-Fk];refine Mj _ λj l=>?_;have b:U^j=S^j*(U/S)^j:=by rw [<-Zkh];congr 1;grind
 have e:V^(d-j)=S^(d-j)*(V/S)^(d-j):=by rw [<-Zkh];congr 1;grind
 have f:S^d=S^j*S^(d-j):=by rw [<-Zzq];congr 1;omega
 rw [b,e,f];grind
theorem Zww(a b:Int)(x:Rat):Zb [a,b] x=(a:Rat)+(b:Rat)*x:=by show(a:Rat)+x*((b:Rat)+x*0)=_;grind
theorem onepw(n:Nat):(1:Rat)^n=1:=by
 induction n with
 | zero=>rw [eG]
 | succ n b=>rw [dL,b];grind
theorem Zcg(d:Int)(n:Nat):((d^n:Int):Rat)=(d:Rat)^n:=by
 induction n with
 | zero=>rw [cT,eG];rfl
 | succ n b=>rw [dK,dL,<-b];push_cast;rfl
def Wij(a e d:Int)(n i:Nat):List Int:=lmul (lpw [a,e] i) (lpw [d-a,d-e] (n-i))
def Wij_nn{e d:Int}(b:0<=a)(f:0<=e)(g:a<=d)(h:e<=d)(n i:Nat):NN (Wij a e d n i):=NN.lmul (NN.lpw (NN.two O1 O1) _) (NN.lpw (NN.two b f) _)
theorem Zwz(a e d:Int)(n i:Nat)(x:Rat):Zb (Wij a e d n i) x=((a:Rat)+(e:Rat)*x)^i*(((d-a:Int):Rat)+((d-e:Int):Rat)*x)^(n-i):=by unfold Wij;rw [Zs,Zn3,Zn3,Zww,Zww]
theorem Yml {X:List Int} {n:Nat} (hl:c.length<=n+1) (hX:X.length<=n+1) {b d B:Int} (ha:0<=a) (hb:0<=b) (G:a+b<=d) (M:0<d) (hr:∀t u:Rat,t*(d:Rat)=(a:Rat)+(b:Rat)*u->Zb X u=(d:Rat)^m*Zb c t)
  (hB:∀j,j<n+1->((Ln n c j).natAbs:Int)<=B*(Pp n j:Int)):∀j,j<n+1->((Ln n X j).natAbs:Int)<=B*d^m*(Pp n j:Int):=by
 have Q:(0:Rat)<(d:Rat):=by exact_mod_cast M
 have l:∀x:Rat,0<=x->(x+1)≠0:=λx e h=>O5;have s:∀x:Rat,((a:Rat)+((a+b:Int):Rat)*x)+(((d-a:Int):Rat)+((d-(a+b):Int):Rat)*x)=(d:Rat)*(x+1):=λx=>by push_cast;grind
 have o:∀x:Rat,0<=x->(d:Rat)*(x+1)≠0:=λx e h=>by have:=aT Q (show(0:Rat)<x+1 by grind);grind
 have R:∀x:Rat,0<=x->Zb (sQ (λi=>(Pp n i:Int)) (Wij a (a+b) d n) (n+1)) x=Zb (mk (n+1) λj=>d^n*(Pp n j:Int)) x:=λx e=>by
  rw [Zud,Ze9];have y:=Zzh (s x) (o x e) n;have z:=Zzh (U:=x) (V:=1) (S:=x+1) rfl (l x e) n;have D:Ig (λi=>(((Pp n i:Nat):Int):Rat)*Zb (Wij a (a+b) d n i) x) (n+1)=((d:Rat)*(x+1))^n:=by rw [<-y];exact Mj _ λj v=>by rw [Zwz];push_cast;rfl
  rw [D,Zkh,<-z,<-Fk];refine Mj _ λj v=>?_;rw [onepw];push_cast;rw [<-Zcg];push_cast;grind
 have Y:∀x:Rat,0<=x->Zb (mk (n+1) λj=>d^n*Ln n X j) x=Zb ((sQ (Ln n c) (Wij a (a+b) d n) (n+1)).map λq=>d^m*q) x:=λx e=>by
  rw [Zh,Zud,Ze9];have y:=Yhz (s x) (o x e) hl;have z:=Yhz (U:=x) (V:=1) (S:=x+1) rfl (l x e) hX;have D:Ig (λi=>((Ln n c i:Int):Rat)*Zb (Wij a (a+b) d n i) x) (n+1)=((d:Rat)*(x+1))^n*Zb c (((a:Rat)+((a+b:Int):Rat)*x)/((d:Rat)*(x+1))):=by rw [<-y];exact Mj _ λj v=>by rw [Zwz]
  have e4:Ig (λj=>((d^n*Ln n X j:Int):Rat)*x^j) (n+1)=(d:Rat)^n*Ig (λj=>(Ln n X j:Rat)*(x^j*1^(n-j))) (n+1):=by rw [<-Fk];refine Mj _ λj v=>?_;rw [onepw,<-Zcg];push_cast;grind
  rw [D,e4,z,hr (((a:Rat)+((a+b:Int):Rat)*x)/((d:Rat)*(x+1))) (x/(x+1)) ?_,Zkh,Zcg]
  .grind
  .have F:=l x e;have w:(d:Rat)≠0:=O5;push_cast;grind
 have H:=Zrj R;have I:=Zrj Y;intro j v;have F:=H j;have w:=I j;rw [Ng,aH v]at F w;rw [Da]at w;have Z:=sQ_le (f:=Ln n c) (g:=λi=>(Pp n i:Int)) (W:=Wij a (a+b) d n) (B:=B) (Wij_nn ha O1 O1 G n) (n+1) hB j;rw [F]at Z;have P:0<d^n:=kD M;have N:0<=d^m:=dY (kD M);have h4:((d^n*Ln n X j).natAbs:Int)=d^n*((Ln n X j).natAbs:Int):=by rw [cF];push_cast;rw [show((d^n).natAbs:Int)=d^n by omega]
 have h5:((d^m*cf (sQ (Ln n c) (Wij a (a+b) d n) (n+1)) j).natAbs:Int)=d^m*((cf (sQ (Ln n c) (Wij a (a+b) d n) (n+1)) j).natAbs:Int):=by rw [cF];push_cast;rw [show((d^m).natAbs:Int)=d^m by omega]
 have h6:=iQ Z N;rw [<-h5,<-w,h4]at h6;refine lS (a:=d^n) ?_ P;refine mR h6 (oJ ?_);generalize d^n=p;generalize d^m=q;generalize (Pp n j:Int)=r;grind
end Go.Sky

