/- Rules, arithmetic and contracts: part 14. No conditions but those that each theorem names. -/
import Derived.Test.YteikicbnfbgpnaaGreatEn12
set_option linter.all false
set_option maxHeartbeats 4000000
namespace Go.Sky
variable{m i:Nat}{x y z c l1 l2 l3:List Int}{d d0:SL×List Int}{a ov:Int}{b v u:Value}{f:Nat->Value}{zs:List (SL×List Int)}{s:SL}{M M0:Nat->Prop}
def joG(g h:Zl):Bool:=joinB g.1.1 g.1.2.1 g.1.2.2 g.2.1.2 g.2.2.1.2 g.2.2.2.2 h.1.1 h.1.2.1 h.1.2.2 h.2.1.2 h.2.2.1.2 h.2.2.2.2
def joAll(ps:List Zl):Bool:=(List.range ps.length).all λi=>decide (i=0) || joG (ps.getD (i-1) G0) (ps.getD i G0)
def topV(ps:List Zl):Int×Int×Int:=
 if 10000<Yom 1 ps\/10000<Yom 2 ps then(0,0,3)else if joAll ps then((Yom 1 ps:Int),(Yom 2 ps:Int),0)else(0,0,10)
theorem Zq9{ps:List Zl}(l:∀g∈ps,Gin g)(k:Xl ps=true):∀g∈ps,SgG g:=λg j=>by obtain⟨i,hi,e⟩:=eK.1 j;have h:=Ew ((Nd k).1 i hi);rw [aE,aM hi,fE,e]at h;exact Lo (l g j) h
def g8(g:Zl):Bool:=decide (g.2.1.2.length<=8) && decide (g.2.2.1.2.length<=8) && decide (g.2.2.2.2.length<=8)
def Zde(ps:List Zl)(m:Nat):Bool:=(List.range ps.length).all (λi=>decide (m<i) || g8 (ps.getD i G0)) && decide (ps.length<=m)
theorem g8_t{g:Zl}(e:g.2.1.2.length<=8)(h:g.2.2.1.2.length<=8)(j:g.2.2.2.2.length<=8):g8 g=true:=by unfold g8;rw [aK e,aK h,aK j];rfl
theorem g8_f{g:Zl}(h:¬(g.2.1.2.length<=8/\g.2.2.1.2.length<=8/\g.2.2.2.2.length<=8)):g8 g=false:=by
 cases hb:g8 g with
 | false=>rfl
 | true=>
  unfold g8 at hb;simp only [aR,dO]at hb;exact absurd ⟨hb.1.1,hb.1.2,hb.2⟩ h
theorem Zyv (i:Nat){ps:List Zl}(hi:i<ps.length)(e:i<=m)(h:g8 (ps.getD i G0)=false):Zde ps m=false:=by
 cases hb:Zde ps m with
 | false=>rfl
 | true=>
  unfold Zde at hb;rw [aR]at hb;have:=cP.1 hb.1 i (fR.2 hi);rw [h,aN O]at this;cases this
theorem Yln (n:Nat){ps:List Zl}(e:n=ps.length\/m<n)(h:∀k,k<n->g8 (ps.getD k G0)=true):Zde ps m=decide (ps.length<=m):=by
 unfold Zde;rw [cP.2 λi hi=>by
  have hi:=fR.1 hi;rcases aZ m i with q|q
  .rw [aK q];rfl
  .rw [h i O,Bool.or_true]]
 rfl
theorem Yr7:∀n,n<=5->∀i,i<n->(Oq n i:Int)*((n:Int)-(i:Int))/((i:Int)+1)=(Oq n (i+1):Int):=by intro n g i hi;have e:∀n,n<6->∀i,i<n->(Oq n i:Int)*((n:Int)-(i:Int))/((i:Int)+1)=(Oq n (i+1):Int):=O5;exact e n O i hi
theorem getD3{α:Type}{a b c d:α}(h:i<3):[a,b,c].getD i d=Zu i a b c:=by
 match i,h with
 | 0,_=>rfl
 | 1,_=>rfl
 | 2,_=>rfl
theorem Yh4{α β:Type}(i:Nat)(a b c:α×β):(Zu i a b c).2=Zu i a.2 b.2 c.2:=by unfold Zu;split<;>rfl
theorem Zhv{e g j:SL}(h:i<3):([(e,x),(g,y),(j,z)].getD i d).2=Zu i x y z:=by rw [getD3 h,Yh4]
theorem Zxp{b:Int} : 0<(a-b).sign↔b<a:=by rw [sgp];omega
theorem Yhw{b:Int} : (a-b).sign<0↔a<b:=by rw [Pf];omega
def Yrs(t m:Int):m<t\/(¬m<t/\t < -m)\/(¬m<t/\¬t < -m):=O
def axc(c:List Int):Bool:=!(decide (1<=c.length) && decide (c.length<=6) && !(decide (1<c.length) && decide (c.getD (c.length-1) 0=0)))
theorem axc_f{b:Bool}(h:b=axc c)(e:b=false):1<=c.length/\c.length<=6/\¬(1<c.length/\c.getD (c.length-1) 0=0):=by subst h;unfold axc at e;simp only [Bool.not_eq_false',aR,fS,jF,dO,gM]at e;exact⟨e.1.1,e.1.2,λh=>by rcases e.2 with q|q;exact q h.1;exact q h.2⟩
theorem axc_t{b:Bool}(h:b=axc c)(e:b=true):axB c ov=false:=by
 cases ha:axB c ov with
 | false=>rfl
 | true=>
  exfalso;unfold axB at ha;rw [aR]at ha;have:axc c=false:=by unfold axc;rw [ha.1];rfl
  rw [h,this]at e;cases e
theorem Ydx(h:¬1<=c.length):true=axc c:=by unfold axc;rw [aN h];rfl
theorem Ydw(h:¬c.length<=6):true=axc c:=by unfold axc;rw [aN h,lQ];rfl
theorem Ydv(e:1<=c.length)(g:c.length<=6)(h:¬1<c.length):false=axc c:=by unfold axc;rw [aK e,aK g,aN h];rfl
theorem Ydu(e:1<=c.length)(g:c.length<=6)(h:1<c.length):decide (c.getD (c.length-1) 0=0)=axc c:=by unfold axc;rw [aK e,aK g,aK h];simp
theorem Ysq(h:bl ov.natAbs<=64):bl (62914560*ov).natAbs<=100:=by have e:=Yq 62914560 ov;have g:bl (62914560:Int).natAbs<=30:=O3;omega
variable {P:Program} {N:Nat} {sc:Nat->Prop} {env env':Pw} {H H':Hp}
def Hu(c:List Int)(g:Int):List Int:=if c.length=0 then [0]else c.map (· / g)
def mdO(ov g:Int):Int:=if ov/g<=4294967296 then ov/g else 0
def mdL(ov g:Int)(c:List Int):List Int:=if ov/g<=4294967296 then Hu c g else []
def Kt(ov:Int)(x y z:List Int):Int:=Me ov (Mn 3 x y z)
structure Mdh (ov:Int) (x y z:List Int):Prop where
 o:0<ov
 b:bl ov.natAbs<=1000
 s:∀i,Sz 1000 (Zu i x y z)
 l:∀i,(Zu i x y z).length<=6
 c:∀i k,(cf (Zu i x y z) k).natAbs<=ov.natAbs*2146435072
def Zg7:∀(l:List Int) (g:Int),0<=g->0<=Me g l
 | [],_,h=>h
 | x::l,g,h=>Zg7 l _ (lS _)
theorem Yb9:∀(l:List Int) (g:Int),Me g l∣g/\∀x∈l,Me g l∣x
 | [],g=>⟨Int.dvd_refl _,λx h=>nomatch h⟩
 | x::l,g=>by
  obtain⟨j,k⟩:=Yb9 l ((Int.gcd g x:Nat):Int);exact⟨iK j (kQ ..),λy e=>by
   rcases bE.1 e with rfl|e
   .exact iK j (jK ..)
   .exact k y e⟩
theorem Zyj(hi:i<3)(h:a∈Zu i x y z):a∈Mn 3 x y z:=by
 match i,hi with
 | 0,_=>exact cZ.2 (.inl (cZ.2 (.inl h)))
 | 1,_=>exact cZ.2 (.inl (cZ.2 (.inr h)))
 | 2,_=>exact cZ.2 (.inr h)
theorem Mdh.g(h:Mdh ov x y z):0<Kt ov x y z/\Kt ov x y z∣ov/\∀i,i<3->∀a∈Zu i x y z,Kt ov x y z∣a:=by
 obtain⟨e,g⟩:=Yb9 (Mn 3 x y z) ov;have j:=Zg7 (Mn 3 x y z) ov (eG h.o);have l:=h.o;refine⟨?_,e,λi hi a k=>g a (Zyj hi k)⟩;rcases Int.lt_or_eq_of_le j with q|q
 .exact q
 .exact absurd (oG.1 (q▸e)) O
theorem Mdh.fc(h:Mdh ov x y z)(i k:Nat):bl (Me (Me ov (Mn i x y z)) ((Zu i x y z).take k)).natAbs<=1000:=by
 have l:∀i,∀a∈Zu i x y z,bl a.natAbs<=1000:=λi a e=>by obtain⟨j,r⟩:=nG.1 e;have:=h.s i j;unfold cf at this;rw [aE,r]at this;exact this
 have p:∀a∈Mn i x y z,bl a.natAbs<=1000:=λa e=>by
  unfold Mn at e;have g:=l 0;have n:=l 1;have o:=l 2;simp only [Zu]at g n o;split at e
  .cases e
  .exact g a e
  .rcases cZ.1 e with q|q
   .exact g a q
   .exact n a q
  .rcases cZ.1 e with q|q
   .rcases cZ.1 q with q|q
    .exact g a q
    .exact n a q
   .exact o a q
 exact Zhr (λa e=>l i a (eV e)) (Zhr p h.b)
theorem Mdh.fit(h:Mdh ov x y z)(hs:ov/Kt ov x y z<=4294967296)(hi:i<3)(k:Nat):((Zu i x y z).getD k 0/Kt ov x y z).natAbs<=9223372036854775807:=by
 obtain⟨n,⟨s,e⟩,o⟩:=h.g;have w:Kt ov x y z∣(Zu i x y z).getD k 0:=by
  rcases aZ k (Zu i x y z).length with q|q
  .exact o i hi _ (Zd (d:=0) q)
  .rw [aE,bF q];exact jT _
 obtain⟨t,l⟩:=w;have j:((Zu i x y z).getD k 0).natAbs<=ov.natAbs*2146435072:=h.c i k;generalize Kt ov x y z=g at *;rw [l,jY _ O];rw [e,jY _ O]at hs;rw [l,e,cJ,cJ,cY]at j;have r:=Nat.le_of_mul_le_mul_left j O;have B:=h.o;have D:0<s:=by
  rw [e]at B;by_cases q:0<s
  .exact q
  .have:=gT (eG n) (show s<=0 by omega);omega
 have p:s.natAbs*2146435072<=4294967296*2146435072:=aJ _ O;exact aB r (aB p O3)
def mdO_t{g:Int}(h:ov/g<=4294967296):mdO ov g=ov/g:=aG h
def Zg0{g:Int}(h:ov/g<=4294967296):mdL ov g c=Hu c g:=aG h
def mdO_f{g:Int}(h:¬ov/g<=4294967296):mdO ov g=0:=aD h
def Ykl{g:Int}(h:¬ov/g<=4294967296):mdL ov g c=[]:=aD h
def dvL_0{g:Int}(h:c.length=0):Hu c g=[0]:=aG h
def dvL_n{g:Int}(h:c.length≠0):Hu c g=c.map (· / g):=aD h
theorem Zvl{g:Int}{k:Nat}(h:k<c.length):(c.take k).map (· / g) ++ [c.getD k 0/g]=(c.take (k+1)).map (· / g):=by rw [Pq 0 _ _ h,dL];rfl
abbrev C6 (a b c:Value) (f:Nat->Value):Array Value:=#[a,b,c,f 0,f 1,f 2]
def upd(f:Nat->Value)(i:Nat)(v:Value)(j:Nat):Value:=if j=i then v else f j
theorem c6_get{a c:Value}(h:i<3):(C6 a b c f)[3+i]? = some (f i):=by
 match i,h with
 | 0,_=>rfl
 | 1,_=>rfl
 | 2,_=>rfl
theorem Ym9{a c:Value}(h:i<3):(C6 a b c (upd f i v))[3+i]? = some v:=by rw [c6_get h];unfold upd;rw [aG rfl]
theorem c6_lay{a c:Value}(h:i<3):Fd (C6 a b c (upd f i u)) (3+i) [v]=C6 a b c (upd f i v):=by
 match i,h with
 | 0,_=>rfl
 | 1,_=>rfl
 | 2,_=>rfl
theorem Zzj{a c:Value}{g:Nat->Value}(h:∀j,j<3->f j=g j):C6 a b c f=C6 a b c g:=by unfold C6;rw [h 0 O3,h 1 O3,h 2 O3]
theorem p3_sel{b:Nat}(h:i<3):Zu i (Value.pointer (some ⟨b,3,none⟩)) (Value.pointer (some ⟨b,4,none⟩)) (Value.pointer (some ⟨b,5,none⟩))= .pointer (some ⟨b,3+i,none⟩):=by
 match i,h with
 | 0,_=>rfl
 | 1,_=>rfl
 | 2,_=>rfl
theorem c3_get{a c:Value}(h:i<3):(#[a,b,c]:Array Value)[0+i*1]? = some (Zu i a b c):=by
 match i,h with
 | 0,_=>rfl
 | 1,_=>rfl
 | 2,_=>rfl
def fz(zs:List (SL×List Int))(j:Nat):Value:=Xm (zs.getD j ((none,0,0),[])).1
theorem fz_upd(h:zs.length=i)(j:Nat):fz zs j=upd (fz zs) i (.slice none 0 0) j:=by
 unfold upd;split
 .rename_i e;subst e;subst h;unfold fz;rw [aE,bF (aI _)];rfl
 .rfl
theorem Ycb(h:zs.length=i)(j:Nat):upd (fz zs) i (Xm s) j=fz (zs ++ [(s,c)]) j:=by
 subst h;unfold upd fz;split
 .rename_i e;subst e;simp
 .rename_i e;rw [aE,aE];rcases aZ j zs.length with q|q
  .rw [cS q]
  .rw [bF q,bF O8]
def Zgz (f:Nat->List Int){t:Nat}(g:zs.length=i)(h:∀t,t<i->(zs.getD t d0).2=f t)(e:c=f i)(j:t<i+1):((zs ++ [(s,c)]).getD t d0).2=f t:=e▸Zw0 g h j
theorem Ykk{g:Int}(l:zs.length=3)(h:∀t,t<3->(zs.getD t d0).2=Hu (Zu t x y z) g):∃n o p:SL,zs=[(n,Hu x g),(o,Hu y g),(p,Hu z g)]:=by
 match zs,l with
 | [q,r,w],_=>
  have e:=h 0 O3;have j:=h 1 O3;have k:=h 2 O3;simp [Zu]at e j k;exact⟨q.1,r.1,w.1,by rw [<-e,<-j,<-k]⟩
theorem Yhx{b:Int} : 0<(a-b).sign↔¬a<=b:=by rw [sgp];omega
theorem t_st6 (i:Nat)(n:Nat)  {o:Oper} {x y:Operand} {t k:TypeId} {b:Nat} {g h j:Value}   {w0:World}  (I:o.op= .store t x y) (B:o.dst=none)
  (R:ev env x=some (.pointer (some ⟨b,3+n,none⟩))) (S:ev env y=some v) (q:lk H i=some (box b k (C6 g h j (upd f n u)))) (e:i≠0) (D:∀w,(sizeOf t).run P w= .ok 1 w) (F:n<3) (p:One N sc env H v)
  (l:lk H 0=some (Yt w0 M0)) (Q:∀b,w0.heap.size<=b->sc b) (r:M b) :
  T P N sc M o env H (G:=Unit) (λ_=>True) (λ_=>env) (λ_=>(i,box b k (C6 g h j (upd f n v)))::H):=by
 have:=t_stp1 (P:=P) (N:=N) (sc:=sc) (M:=M) I B R S q e D (by show Nat.ble (3+n+1) 6=true;simp;omega) p l Q r;rw [c6_lay F]at this;exact this
theorem bl_dlq{b:Int}{n:Nat}(h:bl a.natAbs<=n)(g:0<b)(e:0<=a):bl (a/b).natAbs<=n:=(Qo n _).2 (bA (by have j:=mL b e;have k:=jA e (eG g);omega) ((Qo n _).1 h))
theorem Yld{n:Nat}(h:∀z∈zs,∀b,(Xm z.1).ownBlock=some b->n<=b)(e:∀b,(Xm s).ownBlock=some b->n<=b):∀z∈zs ++ [(s,c)],∀b,(Xm z.1).ownBlock=some b->n<=b:=λz g=>by
 rcases cZ.1 g with q|q
 .exact h z q
 .rw [bO.1 q];exact e
theorem fr3{n:Nat}{g j k:SL}{l o q:List Int}(h:∀z∈[(g,l),(j,o),(k,q)],∀b,(Xm z.1).ownBlock=some b->n<=b):∀p∈[Yx 1 Yi (Xm g) l1,Yx 1 Yi (Xm j) l2,Yx 1 Yi (Xm k) l3],∀b,p.fp b->n<=b:=λp r b e=>by
 simp only [bE,dX,iF]at r;rcases r with rfl|rfl|rfl
 .exact h (g,l) O7 b e.2
 .exact h (j,o) O7 b e.2
 .exact h (k,q) O7 b e.2
theorem fr0{n:Nat} : ∀p∈[Yx 1 Yi (Xm (none,0,0)) l1,Yx 1 Yi (Xm (none,0,0)) l2,Yx 1 Yi (Xm (none,0,0)) l3],∀b,p.fp b->n<=b:=λp e b g=>by simp only [bE,dX,iF]at e;rcases e with rfl|rfl|rfl<;>cases g.2
end Go.Sky
namespace Go.Sky
open Go.RowKit Below
variable{o:Oper}{x:Operand}{k:IntKind}{cs:Array Value}
variable {P:Program} {N:Nat} {sc:Nat->Prop} {env env':Pw} {H H':Hp} {Q Q':Exit->Act->World->Prop} {M:Nat->Prop}
theorem f_new{w0:World}{p:Pc}(i:Nat)(hi:lk H i=some p)(f:p.own=true)(d:lk H 0=some (Yt w0 (λ_=>False)))(c:i≠0:=by decide):∀a w,Sat N sc env H a w->∀b,p.fp b->w0.heap.size<=b:=λa w hs b e=>by
  rcases aZ b w0.heap.size with h|h
  . exact(hs.sep i 0 p _ c hi d f b e ⟨h,λh=>h⟩).elim
  . exact h
theorem Ygk {fn:Func} {pre:List Pc} {G:Type} {φ:G->Prop} {Yn:G->Value} {c:G->List Pc} {w0:World} {e:Exit} (B:e= .ret\/e= .normal)
    (g:G) {v:Value} (n:∀p∈c g,∀b,p.fp b->w0.heap.size<=b) (j:∀a w,Sat N sc env H a w->(results fn a.tmps).run P w= .ok v w) (R:Yn g=v) (F:φ g) (t:lk H 0=some (Yt w0 (λ_=>False))) (d:Give H true (c g)) :
    X N sc e (Zcr P fn w0 pre false φ Yn c) env H:=λa w hs=>by
  have l : a.defers = [] /\ ∃ v, (results fn a.tmps).run P w = .ok v w /\ (∃ g, Ending.returned v = .returned (Yn g) /\ φ g /\ Below w0.heap.size w0 w /\
        ∀p∈c g,p.holds w/\p.own=false/\∀b,p.fp b->w0.heap.size<=b\/(false=true/\∃q∈pre,q.fp b)):=by
    refine⟨hs.defers,v,j a w hs,g,by rw [R],F,Ie (hs.hold 0 _ t),λp s=>?_⟩;obtain⟨r,h|⟨u,y⟩⟩:=d.mem p s
    case inr=>exact⟨u w,r,λb m=>absurd m (y b)⟩
    obtain⟨i,S,I,hi,f,D,z⟩:=h;exact⟨f w (hs.hold i S hi),r,λb m=> .inl (n p s b m)⟩
  rcases B with rfl|rfl
  . exact l
  . exact l
section
variable {f:FuncId} {xs:List Operand} {ats:Array TypeId} {d:Nat} {vs:List Value} {pre:List Pc} {G:Type} {φ:G->Prop} {Yn:G->Value} {its:G->List Pc} {w0:World} {M0:Nat->Prop} {ty:TypeId} {pos:String} {af:Array Edge} {g:Option (Nat×Bool)}
theorem Yoq  {n:Nat} (Z:Cal P f vs.toArray pre false φ Yn its)
    (ho:o.op= .call { callee:= .value (.func f),args:=xs.toArray,argTypes:=ats }) (hd:o.dst=some d) (Y:Nat.blt d N=true)
    (r:EvL env xs vs) (t:∀args w,(callFunc f args).run P w= .ok (.enter f args) w) (v:PreOk H false pre)
    (R:lk H 0=some (Yt w0 M0)) (hw:∀b,w0.heap.size<=b->sc b) :
    T P N sc M o env H (λg=>φ g/\∀p∈its g,∀b,p.fp b->w0.heap.size<=b) (λg=>(d,Yn g)::env) (λg=>adds n (its g) H):=λa w hs K Q W=>by
  have B:w0.heap.size<=w.heap.size:=(hs.hold 0 _ R).size;have hr:(execOp a.eval o).run P w= .ok (.enter f vs.toArray) w:=by have hm:=r.map hs;simp [execOp,ho,resolve,invoke,Act.eval,Deferred.ofValue,hm,t]
  unfold Oper.wp;rw [hr];refine(Z w (λp l=>by obtain⟨i,it,_,hi,u,_,_⟩:=v.mem p l;exact u w (hs.hold i it hi))).mono ?_
  rintro e I ⟨g,rfl,hg,m,q⟩;show K (a.put o.dst (Yn g)) I;rw [hd];have z:Sat N sc env H a I:=hs.chg0 (Chg.of_below m);have c:∀p∈its g,∀b,p.fp b->w.heap.size<=b:=λp l b s=>by
    rcases(q p l).2.2 b s with h|⟨h,_⟩
    . exact h
    . cases h
  refine W g _ _ ⟨hg,λp l b s=>aB B (c p l b s)⟩ (Sat.put (z.adds (w1:=w) (its g) n ?_) d _ Y) (Chg.of_below m);intro p l;obtain⟨S,V,h3⟩:=q p l;refine⟨S,V,λb s=>hw b (aB B (c p l b s)),λj F hj D b s y=>?_⟩;have:=F.lt w b (hs.hold j F hj) y;have:=c p l b s;omega
def Yed(n:Nat)(a:List Nat)(e:Cal P f vs.toArray pre false φ Yn its){c:G->Hp}[hx:EvI env xs vs][hf:CalF P f][hp:PreL P H false a pre][h0:Som (lk2 H 0) (Yt w0 M0)][hN:TB (ltb d N)][hw:Hw w0 sc][ha:∀g,AddI n (its g) H (c g)] :
    T P N sc M ⟨some d,.call { callee:= .value (.func f),args:=xs.toArray,argTypes:=ats },ty,pos,af,g⟩ env H (λg=>φ g/\∀p∈its g,∀b,p.fp b->w0.heap.size<=b) (λg=>(d,Yn g)::env) c:=
  (Yoq (n:=n) e rfl rfl (Ns hN.h) hx.h hf.h hp.h h0.l hw.h).conv λg=>(ha g).h
end
theorem Yb6{w0 W:World}(h:Hw w0 sc)(a:w0.heap.size<=W.heap.size):Hw W sc:=⟨λb c=>h.h b (aB a c)⟩
theorem Zpr  {y:Operand} {ats:Array TypeId}  {m n:Int} (b:o.op= .call { callee:= .builtin .min,args:=#[x,y],argTypes:=ats })
    (c:ev env x=some (.int k m)) (e:ev env y=some (.int k n)):Lj P N sc o env H (.int k (min m n)):=λa w hs=>by
  simp [execOp,b,resolve,hs.ev c,hs.ev e,invoke,builtin,Builtin.min_,Builtin.min2];by_cases h:n<m
  . rw [aG h];omega
  . rw [aD h];omega
theorem d_lbw   {t p:TypeId} {i b k:Nat}  (h:o.op= .load t x) (m:ev env x=some (.pointer (some ⟨b,0,none⟩))) (a:lk H i=some (box b p cs)) (j:∀w,(isAgg t).run P w= .ok true w) (c:∀w,(sizeOf t).run P w= .ok k w)
    (e:cs.size=k):Lj P N sc o env H (.agg cs):=by
  have:=Ycy cs.toList (P:=P) (N:=N) (sc:=sc) h m a j c (by simpa using e) (λn u l=>by rw [cC];simpa using l);simpa using this
end Go.Sky
namespace Go.Sky
open Go.Proofs.Tryz
open Go.Proofs
set_option synthInstance.maxHeartbeats 0
set_option synthInstance.maxSize 100000
set_option maxRecDepth 20000
set_option linter.unusedSimpArgs false
variable{p:Zl->Bool}{i id:Nat}{d:Zl}{ops:List Oper}{y x c:Code}{zs:List Zl}
theorem Zd5(fr M e:Int){vx vy vz:Value}(x y z:List Int)(r:Mdh e x y z):Cal prog 230 #[.int .i64 fr,.int .i64 M,.agg #[vx,vy,vz],wv e] [Yx 2 wv vx x,Yx 2 wv vy y,Yx 2 wv vz z] false (G:=SL×SL×SL) (λg=>True) (λg=> .tuple #[.agg #[.int .i64 fr,.int .i64 M,.int .i64 (mdO e (Kt e x y z)),Xm g.1,Xm g.2.1,Xm g.2.2],.bool (decide (e/(Kt e x y z)<=4294967296))]) (λg=>[Yx 1 Yi (Xm g.1) (mdL e (Kt e x y z) x),Yx 1 Yi (Xm g.2.1) (mdL e (Kt e x y z) y),Yx 1 Yi (Xm g.2.2) (mdL e (Kt e x y z) z)]):=by
 refine Zh func230 ntmps230 λw0 sc Z b0=>?_;have ho:=r.o;have W:=r.b;obtain⟨S,a7,a8⟩:=r.g;have V:bl (Kt e x y z).natAbs<=1000:=r.fc 3 0;have a9:0<=e/(Kt e x y z):=jA (eG ho) (eG S);refine go 2 ?_;refine Ym (Yr 4) λbx _=>Ym (Yr 5) λa2 _=>Ym (Ya 6) λa3 _=>go 6 ?_;refine Ym (Ya 7) λD _=>go 11 ?_;refine lp (G:=Nat) [0,1,6,7,8,10,24] [0,1,2,3,4,5,6] (λi=>[(25,.int .i64 (i:Int))]) (λi=>[(7,box D 80 (wc (Me e (Mn i x y z))))]) (λi=>i<=3) (λi=>3-i) 0 O1 K1 K1 ?_;rintro i hi;have a0:=r.fc i;have a1:=r.l i;refine go 6 ?_;refine Ze J (λN=>?_) (λN=>?_)
 .refine go 5 ?_;refine Zg (Zh9 i 1 2 3 50 J J J J J J)<|go 1 ?_;refine dt (Zps i J J J underlying210 sizeOf40 isAgg40 J)<|go 11 ?_;refine lp (G:=Nat) [0,1,6,7,8,10,24,25,28,29] [0,1,2,3,4,5,6,50] (λk=>[(30,.int .i64 (k:Int))]) (λk=>[(7,box D 80 (wc (Me (Me e (Mn i x y z)) ((Zu i x y z).take k))))]) (λk=>k<=(Zu i x y z).length) (λk=>(Zu i x y z).length-k) 0 O1 K1 K1 ?_;rintro k hk;refine go 6 ?_;refine Ze J (λP=>?_) (λP=>?_)
  .refine go 8 ⟨O2,O2,?_⟩;refine Ym (Ya 8) λa4 _=>go 6 ?_;refine cl 8 [] (Zqa (Me (Me e (Mn i x y z)) ((Zu i x y z).take k)) ((Zu i x y z).getD k 0) (aB (a0 k) O3) (aB (r.s i k) O3)) λ_ _=>?_;refine go 8 ⟨O,?_⟩;exact Yh (k+1) O1 O1 K1 ⟨by rw [Ac O];rfl,aA⟩
  .obtain rfl:k=(Zu i x y z).length:=O;rw [bK];refine go 10 ⟨O,?_⟩;exact Yh (i+1) O1 O1 K1 ⟨by rw [Fz x y z O,Hj];rfl,aA⟩
 .obtain rfl:i=3:=O;refine go 9 ?_;refine dt (Qv [(0,_),(1,_)] J K4 (λa w hs=>b35_01 ((Yj J) a w hs) ((Yj J) a w hs)))<|Ym (Ya 9) λl _=>go 7 ?_;refine cl 9 [] (Zh8 e (Kt e x y z) (aB W O3) (aB V O3) O) λ_ _=>Ym (Ya 10) λa5 _=>go 5 ?_;refine Qf (λ_=>False) [(0,0),(1,1),(2,1),(3,0)]<|go 1 ?_;refine Yw (Zm 10 [] (Zz 4294967296 ⟨O3,O3⟩)) λ_ _=>Yw (Zm 10 [] (Zfy (e/(Kt e x y z)) 4294967296 (aB (bl_dlq W S (eG ho)) O3) O3)) λ_ _=>go 3 ?_;refine Ze J (λn=>?_) (λn=>?_)
  .have f:¬e/(Kt e x y z)<=4294967296:=Yhx.1 n;refine go 9 ?_;exact Ygk (.inl J) ((none,0,0),(none,0,0),(none,0,0)) fr0 (λa w hs=>Yey hs results230 (Eo 6 J J isAgg35 Ix J) J) (by rw [mdO_f f,aN f]) aA J (Lh (Ykl f) (Lh (Ykl f) (Lh (Ykl f) Za)))
  .have f:e/(Kt e x y z)<=4294967296:=fI.1 λh=>n (Yhx.2 h);refine go 5 ?_;refine cl 10 [] (Zto (e/(Kt e x y z)) O) λ_ _=>go 13 ?_;refine dt (Qv [(0,_),(1,_),(2,_)] J K6 (λa w hs=>Ynj ((Yj J) a w hs) ((Yj J) a w hs) ((Yj J) a w hs)))<|go 4 ?_;refine Zg (Np 9 (q:=box l 35 (C6 (.int .i64 fr) (.int .i64 M) (.int .i64 (e/(Kt e x y z))) (fz []))) (aH (box l 35) (show _=(C6 (.int .i64 fr) (.int .i64 M) (.int .i64 (e/(Kt e x y z))) (fz []))from J)) J J)<|Zg (Yo qC 71)<|lp (G:=Nat×List (SL×List Int)) [6,8,10,15,59] [0,7,1,2,3,4,5,6,10] (λq=>[(60,.int .i64 (q.1:Int))]) (λq=>[(9,box l 35 (C6 (.int .i64 fr) (.int .i64 M) (.int .i64 (e/(Kt e x y z))) (fz q.2))),(71,Nj qC q.2)]) (λq=>(q.1<=3)/\(q.2.length=q.1)/\(∀t,t<q.1->(q.2.getD t Z0).2=Hu (Zu t x y z) (Kt e x y z))/\(∀z∈q.2,∀b,(Xm z.1).ownBlock=some b->w0.heap.size<=b)) (λq=>3-q.1) (0,[]) ⟨O1,rfl,λt Y=>absurd Y (cI t),λz hz=>nomatch hz⟩ K1 K2 ?_;rintro⟨i,zs⟩ ⟨hi,m,u,s⟩;dsimp only at hi m u s;dsimp only;have a1:=r.l i;refine go 6 ?_;refine Ze J (λQ=>?_) (λQ=>?_)
   .refine go 7 ?_;refine dt (Xh ( .pointer (some ⟨l,3+i,none⟩)) (Zps i J J J underlying331 sizeOf330 isAgg330 J) (p3_sel O))<|go 6 ?_;refine Zg (Zh9 i 1 2 3 52 J J J J J J)<|Zg (Qy 60 1 3 Yi)<|go 2 ?_;refine dt (Fe i J J J underlying210 sizeOf40 J)<|dt (Yf7 4 J J J isAgg40 (c3_get O))<|go 5 ?_;refine lp (G:=Nat×Value) [6,8,10,15,18,59,60,66,67] [0,71,7,1,2,3,4,5,6,10,52] (λq=>[(68,.int .i64 (q.1:Int))]) (λq=>[(9,box l 35 (C6 (.int .i64 fr) (.int .i64 M) (.int .i64 (e/(Kt e x y z))) (upd (fz zs) i q.2))),(60,Oa 1 3 Yi q.2 (((Zu i x y z).take q.1).map (· / (Kt e x y z))))]) (λq=>q.1<=(Zu i x y z).length) (λq=>(Zu i x y z).length-q.1) (0,_) O1 K1 ⟨by rw [Zzj (λj _=>fz_upd m j)];rfl,by rw [dS];rfl,aA⟩ ?_;rintro⟨k,vr⟩ hk;dsimp only at hk;dsimp only;refine go 6 ?_;refine Ze J (λR=>?_) (λR=>?_)
    .refine go 8 ⟨O2,O2,?_⟩;refine Ym (Ya 11) λa6 _=>go 7 ?_;refine cl 11 [] (Zh8 ((Zu i x y z).getD k 0) (Kt e x y z) (aB (r.s i k) O3) (aB V O3) O) λ_ _=>cl 11 [] (Zto ((Zu i x y z).getD k 0/(Kt e x y z)) (r.fit f O k)) λ_ _=>go 11 ?_;refine dt (Yf7 9 J J J isAgg33 (Ym9 O))<|go 1 ?_;refine tt (Xv [(0,_)] 12 (enc:=Yi) ([(Zu i x y z).getD k 0/(Kt e x y z)]:List Int) J J K2 Pp ti3 J J J J J pZ.cells J J Z.h) (λv _=>?_);refine tt (Px 60 12 8 J J J J J J O3 J (Yb pZ) Pp ti3 J pZ J J J O8 O3 J Z.h) λb1 _=>go 1 ?_;refine tt (t_st6 9 i J J J J J O3 Zcs O (On 60 J (Yb pZ)) J Z.h aA) (λ_ _=>?_);refine go 7 ⟨O,?_⟩;exact Yh (k+1,_) O1 O1 K1 ⟨J,by rw [<-Zvl O];rfl,aA⟩
    .obtain rfl:k=(Zu i x y z).length:=O;rw [bK];refine go 9 ?_;refine dt (Yf7 9 J J J isAgg33 (Ym9 O))<|go 4 ?_;refine Ze J (λo=>?_) (λo=>?_)
     .have F:(Zu i x y z).length=0:=by simpa using o
      refine go 2 ?_;refine tt (Xv [(0,_)] 13 (enc:=Yi) ([0]:List Int) J J K2 Pp ti3 J J J J J pZ.cells J J Z.h) λb2 _=>go 1 ?_;refine tt (t_st6 9 i J J J J J O3 Zcs O (On 13 J (Yb pZ)) J Z.h aA) (λ_ _=>?_);refine go 7 ⟨O,?_⟩;refine Ygi (f_new 13 J J J) (λH=>?_);refine Zs (Xn 13 J J pZ)<|Ztj (Xe 13 J Zr) (λB I=>?_);subst I;exact Zs (Np 13 (q:=Yx 1 Yi (Xm B) (Hu (Zu i x y z) (Kt e x y z))) (aH (Yx 1 Yi (Xm B)) (dvL_0 F).symm) J J)<|Zs (Zp (q:=qC) (z:=(B,Hu (Zu i x y z) (Kt e x y z))) 71 13 71 J J J J J)<|Yh (i+1,zs ++ [(B,Hu (Zu i x y z) (Kt e x y z))]) ⟨O1,by rw [aS,m];rfl,λt Y=>Zgz (λt=>Hu (Zu t x y z) (Kt e x y z)) m u rfl Y,Yld s H⟩ O1 K1 ⟨by rw [Zzj (λj _=>Ycb (c:=Hu (Zu i x y z) (Kt e x y z)) m j)];rfl,rfl,aA⟩
     .have F:(Zu i x y z).length≠0:=by simpa using o
      refine go 7 ⟨O,?_⟩;refine Ygi (f_new 60 J J J) (λH=>?_);refine Zs (Xn 60 J J pZ)<|Ztj (Xe 60 J Zr) (λB I=>?_);subst I;exact Zs (Np 60 (q:=Yx 1 Yi (Xm B) (Hu (Zu i x y z) (Kt e x y z))) (aH (Yx 1 Yi (Xm B)) (dvL_n F).symm) J J)<|Zs (Zp (q:=qC) (z:=(B,Hu (Zu i x y z) (Kt e x y z))) 71 60 71 J J J J J)<|Yh (i+1,zs ++ [(B,Hu (Zu i x y z) (Kt e x y z))]) ⟨O1,by rw [aS,m];rfl,λt Y=>Zgz (λt=>Hu (Zu t x y z) (Kt e x y z)) m u rfl Y,Yld s H⟩ O1 K1 ⟨by rw [Zzj (λj _=>Ycb (c:=Hu (Zu i x y z) (Kt e x y z)) m j)];rfl,rfl,aA⟩
   .obtain rfl:i=3:=O;refine go 6 ?_;obtain⟨s1,s2,s3,rfl⟩:=Ykk m u;refine Zg (Zay (q:=qC) 71 81 (s1,Hu x (Kt e x y z)) J J O7 J)<|Zg (Np 81 (q:=Yx 1 Yi (Xm s1) (mdL e (Kt e x y z) x)) (aH (Yx 1 Yi (Xm s1)) (Zg0 f).symm) J J)<|Zg (Zay (q:=qC) 71 82 (s2,Hu y (Kt e x y z)) J J O7 J)<|Zg (Np 82 (q:=Yx 1 Yi (Xm s2) (mdL e (Kt e x y z) y)) (aH (Yx 1 Yi (Xm s2)) (Zg0 f).symm) J J)<|Zg (Zay (q:=qC) 71 83 (s3,Hu z (Kt e x y z)) J J O7 J)<|Zg (Np 83 (q:=Yx 1 Yi (Xm s3) (mdL e (Kt e x y z) z)) (aH (Yx 1 Yi (Xm s3)) (Zg0 f).symm) J J)<|Zg (Np 9 (q:=box l 35 #[.int .i64 fr,.int .i64 M,.int .i64 (e/(Kt e x y z)),Xm s1,Xm s2,Xm s3]) J J J)<|go 7 ?_;exact Ygk (.inl J) (s1,s2,s3) (fr3 s) (λa w hs=>Yey hs results230 (Eo 6 J J isAgg35 Ix J) J) (by rw [mdO_t f,aK f]) aA J (Gq 81 J J J (Gq 82 J J J (Gq 83 J J J Za)))
abbrev Zof:=(Int×Int×Int)×List Int×List Int×List Int
def Gs(g:Zl):Zof:=(g.1,g.2.1.2,g.2.2.1.2,g.2.2.2.2)
abbrev cA (fr:Int) (g:Zl):Int:=max fr g.1.1
abbrev cB (a:Int) (g:Zl):Int:=min a g.1.2.1
abbrev cX (fr a:Int) (g:Zl) (c:List Int):List Int:=Pd c (cA fr g-g.1.1) (cB a g-cA fr g) (g.1.2.1-g.1.1)
abbrev cO (g:Zl):Int:=g.1.2.2*(g.1.2.1-g.1.1)^5
def cG(fr a:Int)(g:Zl):Int:=Kt (cO g) (cX fr a g g.2.1.2) (cX fr a g g.2.2.1.2) (cX fr a g g.2.2.2.2)
def Ii(fr a:Int)(g:Zl):Bool:=decide (cA fr g<cB a g)
def Zhj(fr a:Int)(g:Zl):Bool:=decide (cO g/cG fr a g<=4294967296)
def Zws(fr a:Int)(g:Zl):Zof:=((cA fr g,cB a g,mdO (cO g) (cG fr a g)),mdL (cO g) (cG fr a g) (cX fr a g g.2.1.2),mdL (cO g) (cG fr a g) (cX fr a g g.2.2.1.2),mdL (cO g) (cG fr a g) (cX fr a g g.2.2.2.2))
def MdG(fr a:Int)(g:Zl):Prop:=Mdh (cO g) (cX fr a g g.2.1.2) (cX fr a g g.2.2.1.2) (cX fr a g g.2.2.2.2)
theorem Zr1{ps:List Zl}(hi:i<ps.length)(b:p (ps.getD i d)=true):(ps.filter p)[((ps.take i).filter p).length]? = some (ps.getD i d):=by
 have h:=fJ i ps;have a:ps.drop i=ps.getD i d::ps.drop (i+1):=by rw [aE,aM hi,fE];exact eA hi
 conv=>lhs;arg 1;rw [<-h,a]
 rw [fP,eF b];simp
theorem fl_t{ps:List Zl}(hi:i<ps.length)(a:p (ps.getD i d)=true):((ps.take (i+1)).filter p).length=((ps.take i).filter p).length+1:=by rw [Pq d _ _ hi,fP,eF a,aS];rfl
theorem fl_f{ps:List Zl}(hi:i<ps.length)(a:p (ps.getD i d)=false):((ps.take (i+1)).filter p).length=((ps.take i).filter p).length:=by rw [Pq d _ _ hi,fP,fQ (by rw [a];exact cW),aS];rfl
def Zjf{d:Int}(h:1<=d/\d<=3600000):bl (d^5).natAbs<=132:=Zpy (Zcl O) 5 (aI _)
theorem Ymm{W:Nat}{H:Hp}{k l m:SL}{f g j:List Int}(h:∀p∈[Yx 1 Yi (Xm k) f,Yx 1 Yi (Xm l) g,Yx 1 Yi (Xm m) j],∀b,p.fp b->W<=b)(i:Nat)(o:lk H i=some (Yx 1 Yi (Xm k) f))(q:lk H (i+1)=some (Yx 1 Yi (Xm l) g))(r:lk H (i+2)=some (Yx 1 Yi (Xm m) j)) :
  ∀p∈[Yx 1 Yi (Xm k) f,Yx 1 Yi (Xm l) g,Yx 1 Yi (Xm m) j],p.own=false/\(∀b,p.fp b->W<=b)/\∃i n,lk H i=some n/\∀w,n.holds w->p.holds w:=λp e=>by
 have a:=h p e;simp only [bE,dX,iF]at e;rcases e with rfl|rfl|rfl
 .exact⟨rfl,a,_,_,o,λ_ h=>h⟩
 .exact⟨rfl,a,_,_,q,λ_ h=>h⟩
 .exact⟨rfl,a,_,_,r,λ_ h=>h⟩
theorem cut_b{fr b:Int}{g:Zl}(a:SgG g)(h:Ii fr b g=true):(cA fr g-g.1.1).natAbs<=3600000/\(cB b g-cA fr g).natAbs<=3600000/\Nz (cA fr g-g.1.1)/\Nz (cB b g-cA fr g):=by have k:=cE h;have e:=a.t1;have f:=a.t2;have j:=a.t3;unfold cA cB at *;exact⟨O,O,⟨O,O⟩,⟨O,O⟩⟩
theorem Yej(v:Value)(ps:List Zl)(Q R S:Nat)(fr a:Int)(I:∀g∈ps,SgG g)(hM:∀g∈ps,Ii fr a g=true->MdG fr a g):Ygg prog 229 [.pointer (some ⟨Q,0,none⟩),.pointer (some ⟨R,0,none⟩),.pointer (some ⟨S,0,none⟩)] [Ky Q 38 #[v],Ky R 3 #[.int .i64 fr],Ky S 3 #[.int .i64 a],Xs 6 Qj qG v ps] (α:=Zl) (G:=SL×SL×SL) (ps.filter (Ii fr a)) (λc g=>[.agg #[.int .i64 (cA fr c),.int .i64 (cB a c),.int .i64 (mdO (cO c) (cG fr a c)),Xm g.1,Xm g.2.1,Xm g.2.2],.bool (Zhj fr a c)]) (λc g=>[Yx 1 Yi (Xm g.1) (mdL (cO c) (cG fr a c) (cX fr a c c.2.1.2)),Yx 1 Yi (Xm g.2.1) (mdL (cO c) (cG fr a c) (cX fr a c c.2.2.1.2)),Yx 1 Yi (Xm g.2.2) (mdL (cO c) (cG fr a c) (cX fr a c c.2.2.2.2))]):=by
 refine Zs2 func229 J ntmps229 J K4 ?_;intro l M JI Jx w0 sc hw w t k F hY;simp only [Pa,Xb];have N:=Hw.mk hw;refine Pg (Mh (i:=4) J Zc) λa3=>go 8 ?_;refine lp (G:=Nat×World) [0,2,3,12,13] [1,2,3,4] (λq=>[(14,.int .i64 (q.1:Int))]) (λq=>[(0,Yt q.2 (λ_=>False))]) (λq=>(q.1<=ps.length)/\(JI ((ps.take q.1).filter (Ii fr a)).length q.2)/\(w0.heap.size<=q.2.heap.size)) (λq=>ps.length-q.1) (0,w0) ⟨O1,F,aI _⟩ K1 K1 ?_;rintro⟨i,W⟩ ⟨hi,r,D⟩;dsimp only at hi r D;dsimp only;have d2:=Yb6 N D;refine go 6 ?_;refine Ze J (λn=>?_) (λn=>?_)
 .refine go 5 ?_;have f:=I _ (Zd (d:=G0) (show i<ps.length by omega));have c9:=f.t1;have d0:=f.t2;have d1:=f.t3;have c2:=f.o1;have H:=f.o2;refine Zg (Pm (ps.getD i G0) ((ps.getD i G0).2.1) 4 51 J J Zd O7)<|Zg (Pm (ps.getD i G0) ((ps.getD i G0).2.2.1) 4 52 J J Zd O7)<|Zg (Pm (ps.getD i G0) ((ps.getD i G0).2.2.2) 4 53 J J Zd O7)<|go 2 ⟨O2,?_⟩;refine dt (Yz 4 G0 J J J Zc pG O2)<|Ym (Ya 5) λbx _=>go 4 ?_;refine Qf (λ_=>False) [(0,0),(1,0),(2,0),(3,0),(4,0),(5,0),(6,0),(7,0),(8,0),(9,3)]<|go 3 ?_;refine Xj J J (Xq (Zco J J J))<|go 3 ?_;refine Xj J J (Xq (Zpr J J J))<|go 12 ?_;refine Ze J (λo=>?_) (λo=>?_)
  .have j:Ii fr a (ps.getD i G0)=false:=aN (by unfold cA cB;omega);refine go 8 ⟨O,?_⟩;exact Yh (i+1,W) ⟨O1,by rw [fl_f O j];exact r,D⟩ O1 K1 K1
  .have j:Ii fr a (ps.getD i G0)=true:=aK (by unfold cA cB;omega);have h:=hM _ (Zd (d:=G0) (show i<ps.length by omega)) j;obtain⟨z,B,c7,c8⟩:=cut_b f j;refine go 12 ⟨O,?_⟩;refine jn (G:=SL×SL×SL×Nat) [0,2,3,12,13,14] [0,1,2,3,4,51,52,53,5] (λq=>[(10,.pointer (some ⟨q.2.2.2,0,none⟩)),(11,.bool (Zhj fr a (ps.getD i G0)))]) (λq=>[(90,Yx 1 Yi (Xm q.1) (mdL (cO (ps.getD i G0)) (cG fr a (ps.getD i G0)) (cX fr a (ps.getD i G0) (ps.getD i G0).2.1.2))),(91,Yx 1 Yi (Xm q.2.1) (mdL (cO (ps.getD i G0)) (cG fr a (ps.getD i G0)) (cX fr a (ps.getD i G0) (ps.getD i G0).2.2.1.2))),(92,Yx 1 Yi (Xm q.2.2.1) (mdL (cO (ps.getD i G0)) (cG fr a (ps.getD i G0)) (cX fr a (ps.getD i G0) (ps.getD i G0).2.2.2.2))),(93,box q.2.2.2 35 #[.int .i64 (cA fr (ps.getD i G0)),.int .i64 (cB a (ps.getD i G0)),.int .i64 (mdO (cO (ps.getD i G0)) (cG fr a (ps.getD i G0))),Xm q.1,Xm q.2.1,Xm q.2.2.1])]) (λq=>(∀p∈[Yx 1 Yi (Xm q.1) (mdL (cO (ps.getD i G0)) (cG fr a (ps.getD i G0)) (cX fr a (ps.getD i G0) (ps.getD i G0).2.1.2)),Yx 1 Yi (Xm q.2.1) (mdL (cO (ps.getD i G0)) (cG fr a (ps.getD i G0)) (cX fr a (ps.getD i G0) (ps.getD i G0).2.2.1.2)),Yx 1 Yi (Xm q.2.2.1) (mdL (cO (ps.getD i G0)) (cG fr a (ps.getD i G0)) (cX fr a (ps.getD i G0) (ps.getD i G0).2.2.2.2))],∀b,p.fp b->W.heap.size<=b)) ?_ ?_
   .refine Po [5] [24]<|Zj 11 [(0,0),(1,0),(2,0),(3,0),(4,0),(5,0),(6,0),(7,0),(8,0),(9,0),(10,0),(12,0),(13,0),(15,0)]<|go 15 ⟨O,O,?_⟩;refine Qw 10 11 22 ?_ ?_
    .refine Ot (Zm 6 [51,52,53] (Zja ((cA fr (ps.getD i G0))-(ps.getD i G0).1.1) ((cB a (ps.getD i G0))-(cA fr (ps.getD i G0))) ((ps.getD i G0).1.2.1-(ps.getD i G0).1.1) f z B ⟨O,O⟩)) λ⟨s,d3,d4⟩ _=>?_;refine Qw 9 14 22 ?_ ?_
     .refine Ot (Zm 8 [] (Zz (ps.getD i G0).1.2.2)) λ_ _=>?_;refine Qw 8 16 22 ?_ ?_
      .refine Ot (Zm 8 [] (Fw ((ps.getD i G0).1.2.1-(ps.getD i G0).1.1) 5 (aB (Zcl O) O3) O3 O3)) λ_ _=>?_;refine Qw 7 17 22 ?_ ?_
       .refine Ot (Zm 8 [] (Aj (ps.getD i G0).1.2.2 (((ps.getD i G0).1.2.1-(ps.getD i G0).1.1)^5) (aB (Gt ⟨O,O⟩) O3) (aB (Zjf ⟨O,O⟩) O3))) λ_ _=>?_;refine Qw 6 18 22 ?_ ?_
        .refine Ot (Yed 90 [6,7,8] (Zd5 (cA fr (ps.getD i G0)) (cB a (ps.getD i G0)) (cO (ps.getD i G0)) (cX fr a (ps.getD i G0) (ps.getD i G0).2.1.2) (cX fr a (ps.getD i G0) (ps.getD i G0).2.2.1.2) (cX fr a (ps.getD i G0) (ps.getD i G0).2.2.2.2) h)) λ⟨d5,d6,d7⟩ ⟨_,e⟩=>?_;refine Zj 0 [(19,0),(20,0),(21,0),(22,1),(23,1),(24,3)]<|go 3 ?_;refine Yw (Qe 93) λV ho=>go 3 ?_;exact Zt<|Od (_,_,_,_) e K2 K4
        .refine Ot (Qe 93) λY H=>?_;refine Zj 0 [(18,1),(19,0),(20,0),(21,0),(23,1),(24,3)]<|Yw (Yed 90 [6,7,8] (Zd5 (cA fr (ps.getD i G0)) (cB a (ps.getD i G0)) (cO (ps.getD i G0)) (cX fr a (ps.getD i G0) (ps.getD i G0).2.1.2) (cX fr a (ps.getD i G0) (ps.getD i G0).2.2.1.2) (cX fr a (ps.getD i G0) (ps.getD i G0).2.2.2.2) h)) λ⟨d8,d9,e0⟩ ⟨_,e⟩=>go 6 ?_;exact Zt<|Od (_,_,_,_) e K2 K4
       .refine Ot (Qe 93) λZ c3=>?_;refine Zj 0 [(17,1),(18,1),(19,0),(20,0),(21,0),(23,1),(24,3)]<|Yw (Zm 8 [] (Aj (ps.getD i G0).1.2.2 (((ps.getD i G0).1.2.1-(ps.getD i G0).1.1)^5) (aB (Gt ⟨O,O⟩) O3) (aB (Zjf ⟨O,O⟩) O3))) λ_ _=>Yw (Yed 90 [6,7,8] (Zd5 (cA fr (ps.getD i G0)) (cB a (ps.getD i G0)) (cO (ps.getD i G0)) (cX fr a (ps.getD i G0) (ps.getD i G0).2.1.2) (cX fr a (ps.getD i G0) (ps.getD i G0).2.2.1.2) (cX fr a (ps.getD i G0) (ps.getD i G0).2.2.2.2) h)) λ⟨a4,a5,a6⟩ ⟨_,e⟩=>go 6 ?_;exact Zt<|Od (_,_,_,_) e K2 K4
      .refine Ot (Qe 93) λa0 c4=>?_;refine Zj 0 [(16,1),(17,1),(18,1),(19,0),(20,0),(21,0),(23,1),(24,3)]<|Yw (Zm 8 [] (Fw ((ps.getD i G0).1.2.1-(ps.getD i G0).1.1) 5 (aB (Zcl O) O3) O3 O3)) λ_ _=>Yw (Zm 8 [] (Aj (ps.getD i G0).1.2.2 (((ps.getD i G0).1.2.1-(ps.getD i G0).1.1)^5) (aB (Gt ⟨O,O⟩) O3) (aB (Zjf ⟨O,O⟩) O3))) λ_ _=>Yw (Yed 90 [6,7,8] (Zd5 (cA fr (ps.getD i G0)) (cB a (ps.getD i G0)) (cO (ps.getD i G0)) (cX fr a (ps.getD i G0) (ps.getD i G0).2.1.2) (cX fr a (ps.getD i G0) (ps.getD i G0).2.2.1.2) (cX fr a (ps.getD i G0) (ps.getD i G0).2.2.2.2) h)) λ⟨a7,a8,a9⟩ ⟨_,e⟩=>go 6 ?_;exact Zt<|Od (_,_,_,_) e K2 K4
     .refine Ot (Qe 93) λa1 c5=>?_;refine Zj 0 [(14,1),(16,1),(17,1),(18,1),(19,0),(20,0),(21,0),(23,1),(24,3)]<|Yw (Zm 8 [] (Zz (ps.getD i G0).1.2.2)) λ_ _=>Yw (Zm 8 [] (Fw ((ps.getD i G0).1.2.1-(ps.getD i G0).1.1) 5 (aB (Zcl O) O3) O3 O3)) λ_ _=>Yw (Zm 8 [] (Aj (ps.getD i G0).1.2.2 (((ps.getD i G0).1.2.1-(ps.getD i G0).1.1)^5) (aB (Gt ⟨O,O⟩) O3) (aB (Zjf ⟨O,O⟩) O3))) λ_ _=>Yw (Yed 90 [6,7,8] (Zd5 (cA fr (ps.getD i G0)) (cB a (ps.getD i G0)) (cO (ps.getD i G0)) (cX fr a (ps.getD i G0) (ps.getD i G0).2.1.2) (cX fr a (ps.getD i G0) (ps.getD i G0).2.2.1.2) (cX fr a (ps.getD i G0) (ps.getD i G0).2.2.2.2) h)) λ⟨b0,b4,b5⟩ ⟨_,e⟩=>go 6 ?_;exact Zt<|Od (_,_,_,_) e K2 K4
    .refine Ot (Qe 93) λa2 c6=>?_;refine Zj 0 [(11,1),(14,1),(16,1),(17,1),(18,1),(19,0),(20,0),(21,0),(23,1),(24,3)]<|Yw (Zm 9 [51,52,53] (Zja ((cA fr (ps.getD i G0))-(ps.getD i G0).1.1) ((cB a (ps.getD i G0))-(cA fr (ps.getD i G0))) ((ps.getD i G0).1.2.1-(ps.getD i G0).1.1) f z B ⟨O,O⟩)) λ⟨b6,b7,b8⟩ _=>Yw (Zm 11 [] (Zz (ps.getD i G0).1.2.2)) λ_ _=>Yw (Zm 11 [] (Fw ((ps.getD i G0).1.2.1-(ps.getD i G0).1.1) 5 (aB (Zcl O) O3) O3 O3)) λ_ _=>Yw (Zm 11 [] (Aj (ps.getD i G0).1.2.2 (((ps.getD i G0).1.2.1-(ps.getD i G0).1.1)^5) (aB (Gt ⟨O,O⟩) O3) (aB (Zjf ⟨O,O⟩) O3))) λ_ _=>Yw (Yed 90 [9,10,11] (Zd5 (cA fr (ps.getD i G0)) (cB a (ps.getD i G0)) (cO (ps.getD i G0)) (cX fr a (ps.getD i G0) (ps.getD i G0).2.1.2) (cX fr a (ps.getD i G0) (ps.getD i G0).2.2.1.2) (cX fr a (ps.getD i G0) (ps.getD i G0).2.2.2.2) h)) λ⟨b9,c0,c1⟩ ⟨_,e⟩=>go 6 ?_;exact Zt<|Od (_,_,_,_) e K2 K4
   .rintro⟨s1,s2,s3,bj⟩ e;dsimp only at e;dsimp only;refine go 1 ?_;refine Yf1<|La (Za1 J J) J<|La (d_lbw (i:=93) J J J isAgg35 Ix J) J<|La (Za1 J J) J<|Zvo [_,_] [_,_,_,_] (ps.getD i G0) (s1,s2,s3) hY (Zr1 O j) r D w J J J J J K2 J J (Ymm e 90 J J J) K4 K4 (λP m u=>?_) (λP m u=>?_)
    .simp only [Xb];refine La (dF (Xi J J) J) J<|Bc<|go 9 ⟨O,?_⟩;exact Yh (i+1,P) ⟨O1,by rw [fl_t O j];exact m,u⟩ O1 K1 K1
    .simp only [Xb];refine La (dT (Xi J J) J) J<|Bc<|go 7 ?_;exact Zbt (.inl J) J J t k (.inr m)
 .obtain rfl:i=ps.length:=O;rw [bK]at r;refine go 4 ?_;exact Zbt (.inr J) J J t k (.inl r)
open Go.RowKit Below
variable {P:Program} {N:Nat} {sc:Nat->Prop} {env env':Pw} {H H':Hp} {Q Q':Exit->Act->World->Prop} {l:Nat}
def ER(P:Program)(N:Nat)(sc:Nat->Prop)(l:Nat)(c:Code)(Q:Exit->Act->World->Prop)(env:Pw)(H:Hp):Prop:=
 ∀a w,Sat N sc env H a w->c.wpIn (Fence.wide.inRound l) 0 P Q a w
def ndB(o:Oper):Bool:=match o.op with
 | .defer _=>false
 | _=>true
theorem Zil(h:ops.all ndB=true):Zko ops:=λo b c a=>by have:=cP.1 h o b;unfold ndB at this;rw [a]at this;cases this
def Zsc(b:ops.all ndB=true)(h:L P N sc ops.toArray ops (Fb (Exit.then (λa w=>y.wpIn (Fence.wide.inRound l) 0 P Q a w) Q)) env H):ER P N sc l (.seq (.region id ops.toArray false) y) Q env H:=
 λa w hs=>wpIn_seq (Yiq (Zil b) h hs)
def Zsb(b:ops.all ndB=true)(h:L P N sc ops.toArray ops (Fb Q) env H):ER P N sc l (.region id ops.toArray false) Q env H:=
 λa w hs=>Yiq (Zil b) h hs
def Yn6(h:ER P N sc l y Q env H):X N sc .normal (Fb (Exit.then (λa w=>y.wpIn (Fence.wide.inRound l) 0 P Q a w) Q)) env H:=λa w hs=>h a w hs
def Yd4(h:∀a w,Sat N sc env H a w->Q .normal a w):X N sc .normal (Fb Q) env H:=λa w hs=>h a w hs
def Zdf(h:ER P N sc l x (Exit.then (λa w=>y.wpIn (Fence.wide.inRound l) 0 P Q a w) Q) env H):ER P N sc l (.seq x y) Q env H:=λa w hs=>wpIn_seq (h a w hs)
def Zdg(h:ER P N sc l c (Exit.inBlock id Q) env H):ER P N sc l (.block id c) Q env H:=λa w hs=>wpIn_block (h a w hs)
theorem Zwb{c:Operand}{b:Bool}(e:ev env c=some (.bool b))(g:b=true->ER P N sc l x Q env H)(f:b=false->ER P N sc l y Q env H):ER P N sc l (.cond c x y) Q env H:=λa w hs=>by
 cases b with
 | true=>exact wpIn_cond_true (hs.ev e) (g rfl a w hs)
 | false=>exact wpIn_cond_false (hs.ev e) (f rfl a w hs)
def Zsa(h:∀a w,Sat N sc env H a w->Q .normal a w):ER P N sc l .skip Q env H:=λa w hs=>wpIn_skip (h a w hs)
def Zy1(h:∀a w,Sat N sc env H a w->Q .ret a w):ER P N sc l .ret Q env H:=λa w hs=>wpIn_ret (h a w hs)
def Zit(b:∀a w,Sat N sc env H a w->Sat N sc env' H' a w)(h:ER P N sc l c Q env' H'):ER P N sc l c Q env H:=λa w hs=>h a w (b a w hs)
theorem Ch{β:Type}(i k:Nat)(enc:β->Value)(q:β->Pc):∀a w,Sat N sc env H a w->Sat N sc env ((i,Xs k enc q (.slice none 0 0) [])::H) a w:=λa w hs=>
 hs.add i _ ⟨Bz k enc w,λz f=>by cases f⟩ (λh j _ _ Lz b e g=>by
  rcases e with e|⟨z,f,_⟩
  .exact absurd rfl e.1
  .cases f) (λb e=>by
  rcases e with e|⟨z,f,_⟩
  .exact absurd rfl e.1
  .cases f)
theorem Yle{a:Hp}{g:Zl}(i j:Nat)(h:lk a i=some (Nj qG zs))(k:lk a j=some (Yx 1 Yi (Xm g.2.1.1) g.2.1.2))(m:lk a (j+1)=some (Yx 1 Yi (Xm g.2.2.1.1) g.2.2.1.2))(n:lk a (j+2)=some (Yx 1 Yi (Xm g.2.2.2.1) g.2.2.2.2)) :
  ∀b,(Nj qG (zs ++ [g])).fp b->∃j q,lk a j=some q/\q.fp b:=λb ⟨z,o,e⟩=>by
 rcases cZ.1 o with q|q
 .exact⟨i,_,h,z,q,e⟩
 .rw [bO.1 q]at e;obtain⟨c,f,e⟩:=e;simp only [bE,dX,iF]at f;rcases f with rfl|rfl|rfl
  .exact⟨j,_,k,e⟩
  .exact⟨j+1,_,m,e⟩
  .exact⟨j+2,_,n,e⟩
end Go.Sky
namespace Go.Sky
variable{k b c off:Nat}{zs:List Zl}{x y:Operand}{v:Value}{r:List Value}{xs:List Int}{w0 w:World}{M0:Nat->Prop}{a:Act}{o:Oper}{t tb:TypeId}{kd:IntKind}{m:Int}
theorem Zir{l n p q s u d e f g h j:Value}:Instr.fill (λi=>some (i*6,6)) ((List.range (1*6)).map ((Value.agg #[l,n,p,q,s,u]).cells[· % (Value.agg #[l,n,p,q,s,u]).cells.size]!)).toArray [(0,.agg #[d,e,f,g,h,j])]=some #[d,e,f,g,h,j]:=by
 simp [Instr.fill,Value.cells,List.range,List.range.loop]
 try rfl
def Oj(fr d:Int)(ps:List Zl):Bool:=(ps.filter (Ii fr d)).all (Zhj fr d)
def Zdo(fr d:Int)(ps:List Zl):List Zof:=if Oj fr d ps=true then(ps.filter (Ii fr d)).map (Zws fr d)else []
def Zwt(fr d:Int)(ps:List Zl):Int:=if Oj fr d ps=true then 0 else 7
def Zxs(fr d:Int)(x:Zl)(g:SL×SL×SL):Zl:=((cA fr x,cB d x,mdO (cO x) (cG fr d x)),(g.1,mdL (cO x) (cG fr d x) (cX fr d x x.2.1.2)),(g.2.1,mdL (cO x) (cG fr d x) (cX fr d x x.2.2.1.2)),(g.2.2,mdL (cO x) (cG fr d x) (cX fr d x x.2.2.2.2)))
def Zsm(fr d:Int)(ps:List Zl)(k:Nat)(zs:List Zl):Prop:=zs.map Gs=((ps.filter (Ii fr d)).take k).map (Zws fr d)/\((ps.filter (Ii fr d)).take k).all (Zhj fr d)=true
theorem Zh3{α:Type}{xs:List α}{x:α}(h:xs[k]? = some x):xs.take (k+1)=xs.take k ++ [x]:=by rw [mF,h];rfl
theorem Ymq(fr d:Int)(ps:List Zl):Zsm fr d ps 0 []:=⟨by rw [dS];rfl,by rw [dS];rfl⟩
theorem cutI_s{fr d:Int}{ps:List Zl}{x:Zl}{g:SL×SL×SL}(h:Zsm fr d ps k zs)(e:(ps.filter (Ii fr d))[k]? = some x)(j:Zhj fr d x=true):Zsm fr d ps (k+1) (zs ++ [Zxs fr d x g]):=by
 obtain⟨f,i⟩:=h;refine⟨?_,?_⟩
 .rw [Zh3 e,dL,dL,f];rfl
 .rw [Zh3 e,nA,i];simp [j]
theorem Ymo{fr d:Int}{ps:List Zl}(h:Zsm fr d ps k zs)(e:k<=ps.length):zs.length<=ps.length:=by have:=aH List.length h.1;rw [aP,aP,aQ]at this;have:=jG (Ii fr d) ps;omega
theorem Zy8{fr d:Int}{ps:List Zl}{x:Zl}(f:(ps.filter (Ii fr d))[k]? = some x)(e:Zhj fr d x=false):Oj fr d ps=false:=by
 unfold Oj;cases hb:(ps.filter (Ii fr d)).all (Zhj fr d)with
 | false=>rfl
 | true=>
  have:=cP.1 hb x (gL f);rw [e]at this;cases this
theorem Ymp{fr d:Int}{ps:List Zl}(h:Zsm fr d ps (ps.filter (Ii fr d)).length zs):zs.map Gs=Zdo fr d ps/\Zwt fr d ps=0:=by obtain⟨f,e⟩:=h;rw [bK]at f e;exact⟨by unfold Zdo Oj;rw [aG e];exact f,by unfold Zwt Oj;rw [aG e]⟩
theorem Ymn{fr d:Int}{ps:List Zl}(h:Oj fr d ps=false):([]:List Zl).map Gs=Zdo fr d ps/\Zwt fr d ps=7:=by unfold Zdo Zwt;rw [aD (by rw [h];exact cW),aD (by rw [h];exact cW)];exact⟨rfl,rfl⟩
def spF(ps:List Zl):Int:=(ps.getD 0 G0).1.1
def spL(ps:List Zl):Int:=(ps.getD (ps.length-1) G0).1.2.1
open Go.Proofs.Tryz
open Go.Proofs
set_option synthInstance.maxHeartbeats 0
set_option synthInstance.maxSize 100000
set_option maxRecDepth 20000
set_option linter.unusedSimpArgs false
theorem Yhn{ps:List Zl}{fr i:Int}:Cal prog 181 #[v,.int .i64 fr,.int .i64 i] [Xs 6 Qj qG v ps] true (G:=Nat×Nat×Nat) (λg=>True) (λg=> .func (.func 229) #[] #[.pointer (some ⟨g.1,0,none⟩),.pointer (some ⟨g.2.1,0,none⟩),.pointer (some ⟨g.2.2,0,none⟩)]) (λg=>[Ky g.1 38 #[v],Ky g.2.1 3 #[.int .i64 fr],Ky g.2.2 3 #[.int .i64 i]]):=by refine Zh func181 ntmps181 λw0 n l d=>?_;refine Dn (Xe 1 J Zc) (λp e=>?_);subst e;refine go 2 ?_;refine Ym (Yr 2) λj _=>Ym (Yr 3) λf _=>Ym (Yr 4) λh _=>go 5 ?_;refine dt (Zwp [] [_,_,_] J aA K3)<|go 4 ?_;exact Zs (Zff 2 J J)<|Zs (Zff 3 J J)<|Zs (Zff 4 J J)<|Xo d (_,_,_) results181 J aA (Ps 2 (Ps 3 (Ps 4 Za)))
@[reducible,instance] def encGI:EncT prog 35 6 Qj:=⟨pG⟩
theorem Yhp{ps:List Zl}{fr d:Int}(V:∀g∈ps,SgG g)(hM:∀g∈ps,Ii fr d g=true->MdG fr d g)(a0:ps.length<=256):Cal prog 121 #[v,.int .i64 fr,.int .i64 d] [Xs 6 Qj qG v ps] true (G:=Value×List Zl) (λg=>g.2.map Gs=Zdo fr d ps) (λg=> .tuple #[g.1,.int .i64 (Zwt fr d ps)]) (λg=>[Xs 6 Qj qG g.1 g.2]):=by
 refine Zk0 func121 J ntmps121 J K1 ?_;intro w0 sc M I;have M:=Hw.mk M;simp only [Pa,Xb];refine go 2 ?_;refine Ym (Ya 2) λu _=>Ym (Ya 3) λe _=>go 8 ?_;refine cl 4 [1] Yhn λ⟨b,F,H⟩ _=>go 3 ?_;refine Zg (Qy 70 6 35 Qj)<|Zg (Yo qG 73)<|Ycp ([Ky b 38 #[v],Ky F 3 #[.int .i64 fr],Ky H 3 #[.int .i64 d],Xs 6 Qj qG v ps]) w0 (λ(_:Nat) (n:Value×List Zl)=>[(0,Yt w0 (λ_=>False)),(1,Xs 6 Qj qG v ps),(2,box u 38 #[n.1]),(3,box e 26 #[.int .i64 0]),(70,Oa 6 35 Qj n.1 n.2),(73,Nj qG n.2)]) (λk n=>Zsm fr d ps k n.2) (λ(_:Unit)=>[(0,Yt w0 (λ_=>False)),(2,box u 38 #[.slice none 0 0]),(3,box e 26 #[.int .i64 7])]) (λ_=>Oj fr d ps=false) (.slice none 0 0,[]) J (by intro s w;first|exact enters_of func229 O6 rfl s w|exact call229 s w) (Yej v ps b F H fr d V hM) ?_ (λ_ _=>J) J M.h J (Ymq fr d ps) K6 (λ_ _=>⟨J,J⟩) (λ_=>⟨J,J⟩) (λk x f n W j l Mf Wa=>?_) J (λn j D od=>?_) (λ_ N=>?_)
 .intro p Z;simp only [bE,dX,iF]at Z;rcases Z with rfl|rfl|rfl|rfl
  .exact⟨J,4,J⟩
  .exact⟨J,5,J⟩
  .exact⟨J,6,J⟩
  .exact⟨J,1,J⟩
 .obtain⟨B,zs⟩:=n;have S:k<=ps.length:=aB (eE (dZ.1 W).1) (jG _ _);have a1:zs.length<=ps.length:=Ymo j S;refine Zit (env':=[(15,.bool (Zhj fr d x)),(14,.agg #[.int .i64 (cA fr x),.int .i64 (cB d x),.int .i64 (mdO (cO x) (cG fr d x)),Xm f.1,Xm f.2.1,Xm f.2.2]),(6,.pointer (some ⟨u,0,none⟩)),(7,.pointer (some ⟨e,0,none⟩))]) (H':=[(92,Yt Wa Mf),(100,Yx 1 Yi (Xm f.1) (mdL (cO x) (cG fr d x) (cX fr d x x.2.1.2))),(101,Yx 1 Yi (Xm f.2.1) (mdL (cO x) (cG fr d x) (cX fr d x x.2.2.1.2))),(102,Yx 1 Yi (Xm f.2.2) (mdL (cO x) (cG fr d x) (cX fr d x x.2.2.2.2))),(0,Yt w0 (λ_=>False)),(1,Xs 6 Qj qG v ps),(2,box u 38 #[B]),(3,box e 26 #[.int .i64 0]),(70,Oa 6 35 Qj B zs),(73,Nj qG zs)]) (λa w hs=>hs.weaken ⟨J,J,J,J,aA⟩ ⟨J,J,J,J,J,J,J,J,J,J,aA⟩)<|Zsc J<|Ym (Ya 8) λY _=>go 1 ?_;refine go 1 ?_;refine Yn6<|Zsb J<|go 1 ?_;refine go 1 ?_;refine Yd4 λa w hs=>⟨J,[(8,.pointer (some ⟨Y,0,none⟩)),(9,.bool (Zhj fr d x)),(6,.pointer (some ⟨u,0,none⟩)),(7,.pointer (some ⟨e,0,none⟩))],[(8,box Y 35 #[.int .i64 (cA fr x),.int .i64 (cB d x),.int .i64 (mdO (cO x) (cG fr d x)),Xm f.1,Xm f.2.1,Xm f.2.2]),(100,Yx 1 Yi (Xm f.1) (mdL (cO x) (cG fr d x) (cX fr d x x.2.1.2))),(101,Yx 1 Yi (Xm f.2.1) (mdL (cO x) (cG fr d x) (cX fr d x x.2.2.1.2))),(102,Yx 1 Yi (Xm f.2.2) (mdL (cO x) (cG fr d x) (cX fr d x x.2.2.2.2))),(0,Yt w0 (λ_=>False)),(1,Xs 6 Qj qG v ps),(2,box u 38 #[B]),(3,box e 26 #[.int .i64 0]),(70,Oa 6 35 Qj B zs),(73,Nj qG zs)],J,(λq h=>by cases h;rfl),⟨.inl J,.inr (λb i=>⟨100,_,J,i⟩),.inr (λb i=>⟨101,_,J,i⟩),.inr (λb i=>⟨102,_,J,i⟩),.inr (λb i=>⟨0,_,J,i⟩),.inr (λb i=>⟨1,_,J,i⟩),.inl J,.inl J,.inl J,.inr (λb i=>⟨73,_,J,i⟩),aA⟩,hs.weaken ⟨J,J,J,J,aA⟩ ⟨J,J,J,J,J,J,J,J,J,J,J,aA⟩,λWb _=>?_⟩;refine Zdg<|Zdf<|Zsc J<|go 2 ?_;refine go 1 ?_;refine Yn6<|Zwb J (λR=>?_) (λR=>?_)
  .refine Zsc J<|go 2 ?_;refine go 1 ?_;exact Yn6<|Zy1 λa w hs=>Or.inr ⟨J,(),Zy8 W (Zs4 R),⟨.inr (λb i=>⟨0,_,J,i⟩),.inl J,.inl J,aA⟩,[],hs.weaken aA ⟨J,J,J,J,aA⟩⟩
  .refine Zsa<|Zsb J<|go 2 ?_;refine tt (Xv [(0,_)] 12 (enc:=Qj) [(Zxs fr d x f)] J J K2 Ln ti35 J J Zir J J pG.cells J J M.h) (λv2 _=>?_);refine tt (Px 70 12 96 J J J J J J O3 J (Yb pG) Ln ti35 J pG J J J O8 O3 J M.h) λv3 _=>go 2 ?_;exact Zs (Yo qC 71)<|Zs (Zp (q:=qC) (z:=(Zxs fr d x f).2.1) 71 100 71 J J J J J)<|Zs (Zp (q:=qC) (z:=(Zxs fr d x f).2.2.1) 71 101 71 J J J J J)<|Zs (Zp (q:=qC) (z:=(Zxs fr d x f).2.2.2) 71 102 71 J J J J J)<|Zs (Zp (q:=qG) (z:=(Zxs fr d x f)) 73 71 73 J J J J J)<|Yd4 λa w hs=>Or.inl ⟨J,(v3,zs ++ [(Zxs fr d x f)]),cutI_s j W (Zs5 R),⟨.inr (λb i=>⟨0,_,J,i⟩),.inr (λb i=>⟨1,_,J,i⟩),.inl J,.inl J,.inl J,.inr (Yle 73 100 J J J J),aA⟩,[],hs.weaken aA ⟨J,J,J,J,J,J,J,aA⟩⟩
 .obtain⟨B,zs⟩:=n;obtain⟨P,Q⟩:=Ymp j;refine go 3 ?_;refine go 1 ?_;refine Yd4 λa w hs=>⟨J,[(6,.pointer (some ⟨u,0,none⟩)),(7,.pointer (some ⟨e,0,none⟩))],[(0,Yt w0 (λ_=>False)),(1,Xs 6 Qj qG v ps),(2,box u 38 #[B]),(3,box e 26 #[.int .i64 0]),(70,Oa 6 35 Qj B zs),(73,Nj qG zs)],J,⟨⟨_,J,J,λ_ h=>h⟩,⟨_,J,J,λ_ h=>h⟩,⟨_,J,J,λ_ h=>h⟩,⟨_,J,J,λ_ h=>h⟩,⟨_,J,J,λ_ h=>h⟩,⟨_,J,J,λ_ h=>h⟩,aA⟩,hs.weaken ⟨J,J,aA⟩ ⟨J,J,J,J,J,J,J,aA⟩,?_⟩;exact Zs (Xn 70 J J pG)<|Zs (Xw 70 73 72 J J J J)<|Nx I (B,zs) results121 (by rw [Q]) P (Ps 72 Za)
 .exact Zs (Ch 72 6 Qj qG)<|Nx I (.slice none 0 0,[]) results121 (by rw [(Ymn N).2]) (Ymn N).1 (Ps 72 Za)
open Go.RowKit Below
variable {P:Program} {N:Nat} {sc:Nat->Prop} {env env':Pw} {H H':Hp} {Q Q':Exit->Act->World->Prop} {M:Nat->Prop}
def wcr(l:List Int)(r:List Value):Array Value:=(l.map (Value.int .i64) ++ r).toArray
theorem Zk8(l:List Int)(r:List Value):(wcr l r).size=l.length+r.length:=by simp [wcr]
theorem Yoa{l:List Int}{j:Nat}(h:j<l.length):(wcr l r)[j]? = some (.int .i64 (l.getD j 0)):=by simp [wcr,cS,h,aE]
theorem Yn9{l:List Int}{j:Nat}{v:Int}(h:j<l.length):Fd (wcr l r) j [.int .i64 v]=wcr (l.set j v) r:=by
 unfold Fd wcr;congr 1;rw [gW,aG h,dL,bZ,mI,List.map_drop];have d:j<=(l.map (Value.int .i64)).length:=by rw [aP];omega
 have e:j+1<=(l.map (Value.int .i64)).length:=by rw [aP];omega
 simp only [dV,fC,cC];rw [fG d,gJ e];simp
theorem Zzi(l:List Int):cellsOf Yi l=l.map (Value.int .i64):=by
 induction l with
 | nil=>rfl
 | cons x l d=>rw [show cellsOf Yi (x::l)=(Yi x).cells.toList ++ cellsOf Yi l from rfl,d];rfl
theorem f_obox{e:TypeId}(i:Nat)(hi:lk H i=some (Oa 1 e Yi v xs))(z:xs≠[]):∀a w,Sat N sc env H a w->∃y:Nat×Nat×List Value,
  v= .slice (some ⟨y.1,0,none⟩) xs.length y.2.1/\xs.length+y.2.2.length=y.2.1/\y.2.1<=maxLen/\w.heap[y.1]? = some (.cells (wcr xs y.2.2) e (0,0)):=λa w hs=>by
 have l:w.ownsRow 0 e 1 v xs.length (cellsOf Yi xs):=hs.hold i _ hi;rcases l.2 with⟨rfl,s⟩|⟨g,h,d,rfl,B,q,u,n,j,f⟩
 .exact absurd (aC s) z
 .rw [jO]at j f;refine⟨(g,h,d.toList.drop xs.length),rfl,?_,n,?_⟩
  .show xs.length+(d.toList.drop xs.length).length=h;have p:d.toList.length=h:=by rw [dI];exact j
   rw [eD,p];omega
  .show w.heap[g]? = some (.cells (wcr xs (d.toList.drop xs.length)) e (0,0));rw [show wcr xs (d.toList.drop xs.length)=d by unfold wcr;rw [<-Zzi,<-f,fJ]]
   exact q
theorem s_obox {e:TypeId}      (i:Nat) (hi:lk H i=some (Oa 1 e Yi (.slice (some ⟨b,0,none⟩) xs.length c) xs)) (d:Nat.beq i 0=false) (f:lk H 0=some (Yt w0 M0)) (j:∀b,w0.heap.size<=b->sc b)
    (hs:Sat N sc env H a w) (g:w.heap[b]? = some (.cells (wcr xs r) e (0,0))):Sat N sc env ((i,box b e (wcr xs r))::H) a w:=
 hs.upd hi rfl (λe=>by subst e;simp at d) (Chg.refl _ w) g (λk h=> .inl (by show some b=some k;rw [show k=b from h])) f j
theorem e_obox {f:Code} {e:TypeId}     (i:Nat) (hi:lk H i=some (Oa 1 e Yi v xs)) (d:Nat.beq i 0=false) (s:xs≠[]) (g:lk H 0=some (Yt w0 M0)) (q:∀b,w0.heap.size<=b->sc b)
  (h:∀(b c:Nat) (r:List Value),v= .slice (some ⟨b,0,none⟩) xs.length c->xs.length+r.length=c->c<=maxLen->E P N sc f Q env ((i,box b e (wcr xs r))::H)):E P N sc f Q env H:=λa w hs=>by
 obtain⟨⟨b,c,r⟩,p,j,l,n⟩:=f_obox i hi s a w hs;subst p;exact h b c r rfl j l a w (s_obox i hi d g q hs n)
theorem Ypd{e:TypeId}(i:Nat)(hi:lk H i=some (box b e (wcr xs r)))(d:Nat.beq i 0=false)(g:xs.length+r.length=c)(l:c<=maxLen)(f:lk H 0=some (Yt w0 M0))(n:∀b,w0.heap.size<=b->sc b) :
  ∀a w,Sat N sc env H a w->Sat N sc env ((i,Oa 1 e Yi (.slice (some ⟨b,0,none⟩) xs.length c) xs)::H) a w:=λa w hs=>by
 have h:w.heap[b]? = some (.cells (wcr xs r) e (0,0)):=hs.hold i _ hi;refine hs.upd hi rfl (λe=>by subst e;simp at d) (Chg.refl _ w) ?_ (λk j=> .inl (by cases j;rfl)) f n;refine⟨by rw [Zzi,aP,jO],.inr ⟨b,c,_,rfl,bD _,h,O,l,by rw [Zk8,jO];exact g,?_⟩⟩;rw [Zzi,jO];show((xs.map (Value.int .i64)) ++ r).take xs.length=_;rw [fG (by rw [aP];exact aI _),bM (by rw [aP];exact aI _)]
theorem Zar (i:Nat)   {e:TypeId} {n:Nat}   (h:o.op= .indexAddr t x y) (l:ev env x=some (.slice (some ⟨b,off,none⟩) n c)) (p:ev env y=some (.int kd m))
  (j:P.underlying t=some (.slice e)) (g:∀w,(sizeOf e).run P w= .ok 1 w) (d:m=(i:Int)) (f:i<n):Lj P N sc o env H (.pointer (some ⟨b,off+i,none⟩)):=λa w hs=>by
 subst d;simp [execOp,h,hs.ev l,hs.ev p,Instr.indexAt,asIntOf,run_underlying j,g,f,Ok]
theorem Zsh   {e:TypeId} {d:Option Addr} {n:Nat} (f:o.op= .call { callee:= .builtin .len,args:=#[x],argTypes:=#[t] })
  (h:ev env x=some (.slice d n c)) (g:P.underlying t=some (.slice e)):Lj P N sc o env H (.int .i64 (n:Int)):=λa w hs=>by
 simp [execOp,f,resolve,hs.ev h,invoke,builtin,Builtin.len_,run_underlying g,goInt]
def Zdm (i:Nat){j:Nat}{l:List Int}(f:o.op= .load t x)(h:ev env x=some (.pointer (some ⟨b,j,none⟩)))(d:lk H i=some (box b tb (wcr l r)))(g:∀w,(isAgg t).run P w= .ok false w)(e:j<l.length) :
  Lj P N sc o env H (.int .i64 (l.getD j 0)):=Yf7 _ f h d g (Yoa e)
theorem Ztw (i:Nat)    {j:Nat} {l:List Int}  {v:Int}   (q:o.op= .store t x y) (h:o.dst=none)
  (B:ev env x=some (.pointer (some ⟨b,j,none⟩))) (D:ev env y=some (.int .i64 v)) (f:lk H i=some (box b tb (wcr l r))) (d:i≠0) (p:∀w,(sizeOf t).run P w= .ok 1 w) (n:j<l.length)
  (e:lk H 0=some (Yt w0 M0)) (z:∀b,w0.heap.size<=b->sc b) (g:M b) :
  T P N sc M o env H (G:=Unit) (λ_=>True) (λ_=>env) (λ_=>(i,box b tb (wcr (l.set j v) r))::H):=by
 rw [<-Yn9 n];exact Zi6 [.int .i64 v] q h B D f d rfl p rfl (by rw [Zk8];simp;omega) (λu s=>Yj (by rw [bO.1 s];rfl)) rfl e z g
theorem Ymb (i:Nat)   {e:TypeId} {n:Nat}   (p:o.op= .slice t x (some y) none none) (s:ev env x=some (.slice (some ⟨b,off,none⟩) n c)) (u:ev env y=some (.int kd m))
  (q:P.underlying t=some (.slice e)) (h:∀w,(sizeOf e).run P w= .ok 1 w) (d:m=(i:Int)) (j:i<n) (l:n<=c):Lj P N sc o env H (.slice (some ⟨b,off+i,none⟩) (n-i) (c-i)):=λa w hs=>by
 subst d;have f:i<=n:=O;have g:i<c:=O;simp [execOp,p,hs.ev s,hs.ev u,Instr.sliceAt,Instr.slice,Instr.sliceBounds,Instr.sliceBound,asIntOf,run_underlying q,h,f,g,l,Ok];intro z;omega
theorem d_prew   {e:TypeId} {n i:Nat}   (j:o.op= .slice t x none (some y) none) (p:ev env x=some (.slice (some ⟨b,0,none⟩) n c)) (q:ev env y=some (.int kd m))
  (l:P.underlying t=some (.slice e)) (h:∀w,(sizeOf e).run P w= .ok 1 w) (d:m=(i:Int)) (f:i<=n) (s:n<=c):Lj P N sc o env H (.slice (some ⟨b,0,none⟩) i c):=λa w hs=>by
 subst d;have g:i<=c:=O;simp [execOp,j,hs.ev p,hs.ev q,Instr.sliceAt,Instr.slice,Instr.sliceBounds,Instr.sliceBound,asIntOf,run_underlying l,h,f,g,Ok]
theorem t_clw   {j:TypeId} {i lo n B:Nat} {l:List Int}   
  (V:o.op= .call { callee:= .builtin .clear,args:=#[x],argTypes:=#[t] }) (R:o.dst=none)
  (hx:ev env x=some (.slice (some ⟨b,lo,none⟩) n B))  (p:lk H i=some (box b tb (wcr l r))) (f:i≠0)
  (hn:0<n) (S:lo+n=l.length) (W:P.underlying t=some (.slice j)) (z:∀w,(sizeOf j).run P w= .ok 1 w)
  (hz:∀w,(zeroValue j).run P w= .ok (.int .i64 0) w)
  (D:lk H 0=some (Yt w0 M0)) (Z:∀b,w0.heap.size<=b->sc b) (I:M b) :
  T P N sc M o env H (G:=Unit) (λ_=>True) (λ_=>env) (λ_=>(i,box b tb (wcr (l.take lo) (List.replicate n (Value.int .i64 0) ++ r)))::H):=λa w hs K Q F=>by
 have s:w.heap[b]? = some (.cells (wcr l r) tb (0,0)):=hs.hold i _ p;have h:(Builtin.zeroCells (Value.int .i64 0).cells n).toList=List.replicate n (Value.int .i64 0):=by
  apply iN
  .simp [Builtin.zeroCells,Value.cells]
  .intro i h2 h3;simp [Builtin.zeroCells,Value.cells,nI]
 have d:=run_storeCells_at P b lo tb (List.replicate n (Value.int .i64 0)) 0 (wcr l r) w s (by rw [Zk8,aT];omega) (λu Y=>by rw [List.eq_of_mem_replicate Y];rfl);simp only [eH,aT]at d;have e:((wcr l r).toList.take lo ++ List.replicate n (Value.int .i64 0) ++ (wcr l r).toList.drop (lo+n)).toArray=wcr (l.take lo) (List.replicate n (Value.int .i64 0) ++ r):=by unfold wcr;congr 1;show((l.map (Value.int .i64) ++ r).take lo ++ _) ++ (l.map (Value.int .i64) ++ r).drop (lo+n)=_;rw [fG (by rw [aP];omega),gJ (by rw [aP];omega),kJ (by rw [aP];omega),mI,jB,dB]
 rw [e]at d;obtain⟨m,rfl⟩:∃m,n=m+1:=⟨n-1,O⟩;have g:(execOp a.eval o).run P w= .ok (.value (.tuple #[])) (w.setRow b (wcr (l.take lo) (List.replicate (m+1) (Value.int .i64 0) ++ r))):=by simp only [execOp,V,resolve,invoke,builtin];simp [hs.ev hx,Builtin.clear_,run_underlying W,hz,h,d]
 unfold Oper.wp;rw [g];show K (a.put o.dst _) _;rw [R];exact F () _ _ aA ((hs.upd p rfl f (q:=box b tb (wcr (l.take lo) (List.replicate (m+1) (Value.int .i64 0) ++ r))) (Kx (M:=λk=>k=b) rfl) (setRow_heap w b _ _ tb _ s) (λk z=> .inl z) D Z).put_none _) (Kx I)
theorem res0{fn:Func}(hs:Sat N sc env H a w)(d:fn.results=#[]):(results fn a.tmps).run P w= .ok (.tuple #[]) w:=by simp [results,d]
end Go.Sky
namespace Go.Sky
variable{i m k b:Nat}{x a:Int}{xs p c q:List Int}{r:List Value}
def Srt(l:List Int)(n:Nat):Prop:=∀p q,p<q->q<n->l.getD p 0<=l.getD q 0
def Sst(l:List Int)(n:Nat):Prop:=∀p q,p<q->q<n->l.getD p 0<l.getD q 0
def Yny(l:List Int)(i j:Nat):Prop:=∀p q,p<q->q<=i->q≠j->l.getD p 0<=l.getD q 0
def Sam(l m:List Int):Prop:=m.length=l.length/\∀x,x∈m↔x∈l
def Sam.rfl'(l:List Int):Sam l l:=⟨rfl,λ_=>oR⟩
def Br{l:List Int}{j:Nat}{v:Int}(hi:i<l.length):(l.set i v).getD j 0=if j=i then v else l.getD j 0:=Ziq hi
def swp(l:List Int)(j:Nat):List Int:=(l.set j (l.getD (j-1) 0)).set (j-1) (l.getD j 0)
theorem Yb0(l:List Int)(j:Nat):(swp l j).length=l.length:=by simp [swp]
theorem Zbj{l:List Int}{j:Nat}(d:j<l.length)(e:1<=j)(k:Nat):(swp l j).getD k 0=if k=j-1 then l.getD j 0 else if k=j then l.getD (j-1) 0 else l.getD k 0:=by unfold swp;rw [Br (by rw [bI];omega),Br d]
theorem Ez{l:List Int} : x∈l↔∃k,k<l.length/\l.getD k 0=x:=by
 constructor
 .intro h;obtain⟨k,d,e⟩:=eK.1 h;exact⟨k,d,by rw [aE,aM d];exact e⟩
 .rintro⟨k,d,rfl⟩;exact Zd d
theorem Yaq{l:List Int}{j:Nat}(d:j<l.length)(f:1<=j):Sam l (swp l j):=⟨Yb0 l j,λx=>by
 rw [Ez,Ez,Yb0];constructor
 .rintro⟨k,g,e⟩;rw [Zbj d f]at e;by_cases a:k=j-1
  .rw [aG a]at e;exact⟨j,d,e⟩
  .rw [aD a]at e;by_cases b:k=j
   .rw [aG b]at e;exact⟨j-1,O,e⟩
   .rw [aD b]at e;exact⟨k,g,e⟩
 .rintro⟨k,g,e⟩;by_cases a:k=j-1
  .exact⟨j,d,by rw [Zbj d f,aD O,aG rfl,<-a];exact e⟩
  .by_cases b:k=j
   .exact⟨j-1,O,by rw [Zbj d f,aG rfl,<-b];exact e⟩
   .exact⟨k,g,by rw [Zbj d f,aD a,aD b];exact e⟩⟩
def Sam.trans{l m n:List Int}(h:Sam l m)(d:Sam m n):Sam l n:=⟨d.1.trans h.1,λx=>(d.2 x).trans (h.2 x)⟩
def srtx_0{l:List Int}(h:Srt l i):Yny l i i:=λp q d e f=>h p q d O
theorem Zt3{l:List Int}{j:Nat}(h:Yny l i j)(f:j<l.length)(e:1<=j)(o:j<=i)(s:l.getD j 0<l.getD (j-1) 0):Yny (swp l j) i (j-1):=λp q g d n=>by
 rw [Zbj f e,Zbj f e,aD n];by_cases a:q=j
 .rw [aG a];by_cases b:p=j-1
  .rw [aG b];omega
  .rw [aD b,aD O];exact h p (j-1) O O O
 .rw [aD a];by_cases b:p=j-1
  .rw [aG b];exact h j q O d a
  .rw [aD b];by_cases c:p=j
   .rw [aG c];exact h (j-1) q O d a
   .rw [aD c];exact h p q g d a
theorem Yhf{l:List Int}{j:Nat}(h:Yny l i j)(n:j<=i)(f:j=0\/(1<=j/\¬l.getD j 0<l.getD (j-1) 0)):Srt l (i+1):=λp q e g=>by
 by_cases a:q=j
 .rcases f with b|⟨b,c⟩
  .omega
  .subst a;by_cases d:p=q-1
   .subst d;omega
   .have:=h p (q-1) O O O;omega
 .exact h p q e O a
def srt_1(l:List Int):Srt l 1:=λp q d e=>O
structure Cmp (xs zs:List Int):Prop where
 s:Sst zs zs.length
 m:∀x,x∈zs↔x∈xs
theorem Yhe{l:List Int}{n:Nat}(h:Srt l n)(f:∀q,1<=q->q<n->l.getD q 0≠l.getD (q-1) 0):Sst l n:=λp q g e=>by
 have j:=f q O e;have o:=h (q-1) q O e;rcases iZ (show p<=q-1 by omega)with d|d
 .have:=h p (q-1) d O;omega
 .subst d;omega
def Yr4{l:List Int}(h:Srt l l.length)(d:∀q,1<=q->q<l.length->l.getD q 0≠l.getD (q-1) 0):Cmp l l:=⟨Yhe h d,λx=>oR⟩
structure Cml (xs l:List Int) (m k:Nat):Prop where
 k1:1<=k
 km:k<m
 ml:m<=xs.length
 ll:l.length=xs.length
 r:∀q,m<=q+1->l.getD q 0=xs.getD q 0
 s:Sst l k
 e:∀x,(∃p,p<k/\l.getD p 0=x)↔∃p,p<m/\xs.getD p 0=x
 z:l.getD (k-1) 0=xs.getD (m-1) 0
theorem cml_0(hs:Srt xs xs.length)(g:∀q,1<=q->q<k->xs.getD q 0≠xs.getD (q-1) 0)(h:1<=k)(j:k<xs.length)(f:xs.getD k 0=xs.getD (k-1) 0):Cml xs xs (k+1) k:=
 ⟨h,O,O,rfl,λq _=>rfl,Yhe (λp q e d=>hs p q e O) g,λx=>by
  constructor
  .rintro⟨p,e,d⟩;exact⟨p,O,d⟩
  .rintro⟨p,e,d⟩;by_cases a:p=k
   .subst a;exact⟨p-1,O,by rw [<-f];exact d⟩
   .exact⟨p,O,d⟩,by rw [show k+1-1=k by omega];exact f.symm⟩
theorem cml_eq{l:List Int}(h:Cml xs l m k)(s:m<xs.length)(g:l.getD m 0=l.getD (m-1) 0):Cml xs l (m+1) k:=by
 have e:=h.r m O;have f:=h.r (m-1) (by have:=h.k1;have:=h.km;omega);have n:=h.k1;have o:=h.km;refine⟨h.k1,O,s,h.ll,λq t=>h.r q O,h.s,λx=>(h.e x).trans ⟨?_,?_⟩,?_⟩
 .rintro⟨p,j,d⟩;exact⟨p,O,d⟩
 .rintro⟨p,j,d⟩;by_cases a:p=m
  .subst a;exact⟨p-1,O,by rw [<-d,<-e,<-f];exact g.symm⟩
  .exact⟨p,O,d⟩
 .rw [h.z,show m+1-1=m by omega,<-e,<-f];exact g.symm
theorem cml_ne{l:List Int}(hs:Srt xs xs.length)(h:Cml xs l m k)(o:m<xs.length)(y:l.getD m 0≠l.getD (m-1) 0):Cml xs (l.set k (l.getD m 0)) (m+1) (k+1):=by
 have g:=h.r m O;have s:=h.k1;have t:=h.km;have w:=h.r (m-1) O;have u:=h.ll;have d:k<l.length:=O;have v:xs.getD (m-1) 0<xs.getD m 0:=by have:=hs (m-1) m O o;omega
 refine⟨O,O,o,by rw [bI];exact h.ll,λq z=>?_,λp q j e=>?_,λx=>?_,?_⟩
 .rw [Br d,aD O];exact h.r q O
 .rw [Br d,Br d,aD (show p≠k by omega)];by_cases a:q=k
  .rw [aG a,g];have B:=h.z;rcases iZ (show p<=k-1 by omega)with f|f
   .have:=h.s p (k-1) f O;omega
   .subst f;omega
  .rw [aD a];exact h.s p q j O
 .constructor
  .rintro⟨p,j,e⟩;rw [Br d]at e;by_cases a:p=k
   .rw [aG a,g]at e;exact⟨m,O,e⟩
   .rw [aD a]at e;obtain⟨q,f,n⟩:=(h.e x).1 ⟨p,O,e⟩;exact⟨q,O,n⟩
  .rintro⟨p,j,e⟩;by_cases a:p=m
   .exact⟨k,O,by rw [Br d,aG rfl,g,<-a];exact e⟩
   .obtain⟨q,f,n⟩:=(h.e x).2 ⟨p,O,e⟩;exact⟨q,O,by rw [Br d,aD O];exact n⟩
 .rw [show k+1-1=k by omega,Br d,aG rfl,show m+1-1=m by omega];exact g
theorem Zkq{l:List Int}{p:Nat}(h:p<k):(l.take k).getD p 0=l.getD p 0:=by rw [aE,aE,mK h]
theorem cml_e{l:List Int}(h:Cml xs l xs.length k):Cmp xs (l.take k):=by
 have j:=h.km;have g:=h.ll;have f:(l.take k).length=k:=by rw [aQ];omega
 refine⟨λp q e d=>?_,λx=>?_⟩
 .rw [f]at d;rw [Zkq O,Zkq d];exact h.s p q e d
 .rw [Ez,Ez,<-h.e x,f];constructor
  .rintro⟨p,e,d⟩;rw [Zkq e]at d;exact⟨p,e,d⟩
  .rintro⟨p,e,d⟩;exact⟨p,e,by rw [Zkq e];exact d⟩
def Zmw(x:Int):List Int->List Int
 | []=>[x]
 | y::l=>if x<y then x::y::l else if x=y then y::l else y::Zmw x l
def Inc:List Int->Prop
 | []=>True
 | x::l=>(∀y∈l,x<y)/\Inc l
theorem Zmo{x z:Int} : ∀{l:List Int},z∈Zmw x l↔z=x\/z∈l
 | []=>by simp [Zmw]
 | y::l=>by
  unfold Zmw;split
  .simp
  .split
   .rename_i h;subst h;simp
   .rw [bE,Zmo,bE];constructor
    .rintro(h|h|h)
     .exact .inr (.inl h)
     .exact .inl h
     .exact .inr (.inr h)
    .rintro(h|h|h)
     .exact .inr (.inl h)
     .exact .inl h
     .exact .inr (.inr h)
theorem Zv2{x:Int} : ∀{l:List Int},Inc l->Inc (Zmw x l)
 | [],_=>⟨λy h=>(nomatch h),aA⟩
 | y::l,h=>by
  unfold Zmw;split
  .rename_i e;exact⟨λz d=>by
    rcases bE.1 d with rfl|d
    .exact e
    .have:=h.1 z d;omega,h⟩
  .split
   .exact h
   .refine⟨λz d=>?_,Zv2 h.2⟩;rcases Zmo.1 d with rfl|d
    .omega
    .exact h.1 z d
def Zt4(l:List Int):List Int:=l.foldr Zmw []
def Zmx:∀(l:List Int),Inc (Zt4 l)
 | []=>trivial
 | x::l=>Zv2 (Zmx l)
theorem Zmn{z:Int} : ∀{l:List Int},z∈Zt4 l↔z∈l
 | []=>oR
 | x::l=>by show z∈Zmw x (Zt4 l)↔_;rw [Zmo,Zmn,bE]
theorem Yk3:∀{l m:List Int},Inc l->Inc m->(∀x,x∈l↔x∈m)->l=m
 | [],[],_,_,_=>rfl
 | [],y::m,_,_,h=>absurd ((h y).2 (bT ..)) (λh=>nomatch h)
 | x::l,[],_,_,h=>absurd ((h x).1 (bT ..)) (λh=>nomatch h)
 | x::l,y::m,hl,hm,h=>by
  have e:x=y:=by
   have g:=(h x).1 (bT ..);have f:=(h y).2 (bT ..);rcases bE.1 g with d|d
   .exact d
   .rcases bE.1 f with j|j
    .exact j.symm
    .have:=hm.1 x d;have:=hl.1 y j;omega
  subst e;rw [Yk3 hl.2 hm.2 λz=>by
   have g:=h z;rw [bE,bE]at g;constructor
   .intro f;rcases g.1 (.inr f)with d|d
    .subst d;have:=hl.1 z f;omega
    .exact d
   .intro f;rcases g.2 (.inr f)with d|d
    .subst d;have:=hm.1 z f;omega
    .exact d]
theorem Yb5:∀{l:List Int},Sst l l.length->Inc l
 | [],_=>trivial
 | x::l,h=>⟨λy d=>by obtain⟨k,g,rfl⟩:=Ez.1 d;exact h 0 (k+1) O O8,Yb5 λp q e f=>h (p+1) (q+1) O O8⟩
theorem Ymw{ys zs:List Int}(e:Sam xs ys)(d:Cmp ys zs):zs=Zt4 xs:=
 Yk3 (Yb5 d.s) (Zmx xs) λx=>by rw [d.m,e.2,Zmn]
theorem Yaa:∀{l:List Int},Inc l->Sst l l.length
 | [],_=>λp q _ h=>absurd h (cI _)
 | x::l,h=>λp q d e=>by
  match p,q,d with
  | 0,q+1,_=>
   show x<l.getD q 0;exact h.1 _ (Zd (by simp at e;omega))
  | p+1,q+1,d=>exact Yaa h.2 p q O (by simp at e;omega)
def Yqx(j:Nat):j=0\/1<=j:=O
theorem hd_s(h:∀q,1<=q->q<k->xs.getD q 0≠xs.getD (q-1) 0)(e:¬xs.getD k 0=xs.getD (k-1) 0):∀q,1<=q->q<k+1->xs.getD q 0≠xs.getD (q-1) 0:=λq f g=>by
 rcases bP.1 g with d|d
 .exact h q f d
 .subst d;exact e
open Go.Proofs.Tryz
open Go.Proofs
set_option synthInstance.maxHeartbeats 0
set_option synthInstance.maxSize 100000
set_option maxRecDepth 20000
set_option linter.unusedSimpArgs false
theorem Yr3:Qd prog 278 #[.int .i64 x] [] (.bool false):=by refine Zh func278 ntmps278 λg f e d=>go 9 ?_;refine kf (aN (λh=>h J))<|go 4 ?_;exact Xo d () results278 J aA Za
theorem Ymx{y:Int}:Qd prog 247 #[.int .i64 x,.int .i64 y] [] (.bool (decide (x<y))):=by refine Zh func247 ntmps247 λg f e d=>go 8 ?_;refine cl 0 [] Yr3 λ_ _=>go 14 ?_;exact Xo d () results247 J aA Za
theorem Ygb(x:Nat)(e:x<U):Qd prog 204 #[.int .u64 (x:Int)] [] (.int .i64 (bl x:Int)):=by refine Zh func204 ntmps204 λh g f d=>go 12 ?_;refine cl 0 [] (Zw7 e) λ_ _=>go 4 ?_;exact Xo d () results204 J aA Za
theorem sl_ins{c:Nat}(H:1<=xs.length)(M:xs.length<=12):Zdy prog 241 #[.slice (some ⟨b,0,none⟩) xs.length c,.int .i64 0,.int .i64 (xs.length:Int)] [] false b 3 (wcr xs r) (G:=List Int) (λg=>Sam xs g/\Srt g g.length) (λg=> .tuple #[]) (λg=>wcr g r) (λg=>[]):=by
 refine Dk func241 J ntmps241 J aA ?_;intro P N n F;have n:=Hw.mk n;simp only [Pa,Xb];refine go 8 ⟨O,?_⟩;refine lp (G:=Nat×List Int) [0,1,2] [0] (λq=>[(6,.int .i64 (q.1:Int))]) (λq=>[(1,box b 3 (wcr q.2 r))]) (λq=>(1<=q.1)/\(q.1<=xs.length)/\(Sam xs q.2)/\(Srt q.2 q.1)) (λq=>xs.length-q.1) (1,xs) ⟨O1,O1,Sam.rfl' xs,srt_1 xs⟩ K1 K1 ?_;rintro⟨i,l⟩ ⟨z,B,u,hs⟩;dsimp only at z B u hs;dsimp only;have D:=u.1;refine go 8 ?_;refine Ze J (λv=>?_) (λv=>?_)
 .refine go 11 ?_;refine lp (G:=Nat×List Int) [0,1,2,6] [0] (λq=>[(7,.int .i64 (q.1:Int))]) (λq=>[(1,box b 3 (wcr q.2 r))]) (λq=>(q.1<=i)/\(Sam xs q.2)/\(Yny q.2 i q.1)) (λq=>q.1) (i,l) ⟨aI _,u,srtx_0 hs⟩ K1 K1 ?_;rintro⟨j,m⟩ ⟨o,d,t⟩;dsimp only at o d t;dsimp only;have I:=d.1;refine go 2 ?_;rcases Yqx j with e|e
  .refine Qf (λ_=>False) [(0,0),(1,0),(2,0),(3,0),(4,2),(5,2),(6,2),(7,2),(8,2),(9,2),(10,2),(11,2),(12,2),(13,2),(14,0)]<|go 2 ?_;refine Xj J J (Xq (dF (Zbl J J J) (vB (aN O))))<|go 26 ⟨O,?_⟩;exact Yh (i+1,m) ⟨O1,O1,d,Yhf t o (.inl e)⟩ O1 K1 K1
  .refine Qf (λ_=>False) [(0,0),(1,0),(2,0),(3,0),(4,0),(5,0),(6,0),(7,0),(8,0),(9,0),(10,0),(11,0),(12,0),(13,1),(14,0)]<|go 2 ?_;refine Xj J J (Xq (dT (Zbl J J J) (vB (aK O))))<|go 3 ?_;refine Ei (Xq (Xh ( .pointer (some ⟨b,j,none⟩)) (Zar j J J J Pp Kv O O) (by rw [cC]))) J J J J J<|Ei (Xq (Xh ( .int .i64 (m.getD j 0)) (Zdm 1 J J J iA3 O) (aH (λq=>Value.int .i64 (m.getD q 0)) O))) J J J J J<|go 3 ⟨O,?_⟩;refine Ei (Xq (Xh ( .pointer (some ⟨b,j-1,none⟩)) (Zar (j-1) J J J Pp Kv O O) (by rw [cC]))) J J J J J<|Ei (Xq (Xh ( .int .i64 (m.getD (j-1) 0)) (Zdm 1 J J J iA3 O) (aH (λq=>Value.int .i64 (m.getD q 0)) O))) J J J J J<|Zfi J J J J J (Xc 1 Ymx J J J K2 call247 Zn J n.h) λ_ _=>go 3 ?_;refine Ze J (λf=>?_) (λf=>?_)
   .have s:=f;refine go 4 ?_;refine Po [] [17]<|Zj 6 [(0,0),(1,0),(2,0),(3,0),(4,0),(5,0),(6,0),(7,0),(8,0),(10,0),(11,0),(12,0)]<|go 8 ⟨O,O,?_⟩;refine Xj J J (Eg (Xh ( .pointer (some ⟨b,j-1,none⟩)) (Zar (j-1) J J J Pp Kv O O) (by rw [cC])) aA)<|go 2 ?_;refine Xj J J (Eg (Xh ( .pointer (some ⟨b,j,none⟩)) (Zar j J J J Pp Kv O O) (by rw [cC])) aA)<|go 1 ?_;refine Qw 5 9 13 ?_ ?_
    .refine Kl J J (Zey (Xh ( .int .i64 (m.getD (j-1) 0)) (Zdm 1 J J J iA3 O) (aH (λq=>Value.int .i64 (m.getD q 0)) O)) J) (λ_ _=>?_);refine Zj 0 [(13,1),(14,0),(15,1),(16,0),(17,3)]<|Kr J (Zey (Xh ( .int .i64 (m.getD j 0)) (Zdm 1 J J J iA3 O) (aH (λq=>Value.int .i64 (m.getD q 0)) O)) J) (λ_ _=>?_);refine Xj J J (Eg (Xh ( .pointer (some ⟨b,j,none⟩)) (Zar j J J J Pp Kv O O) (by rw [cC])) aA)<|Kr J (Ztw 1 J J J J J O3 Kv O J n.h (λ_ h=>nomatch h)) (λ_ _=>?_);refine Xj J J (Eg (Xh ( .pointer (some ⟨b,j-1,none⟩)) (Zar (j-1) J J J Pp Kv O O) (by rw [cC])) aA)<|r3' J (Ztw 1 J J J J J O3 Kv (by rw [bI];omega) J n.h aA) λ_ _=>go 1 ?_;refine Zt<|go 7 ⟨O,?_⟩;exact Yh (j-1,swp m j) ⟨O1,d.trans (Yaq O O),Zt3 t O e o s⟩ O1 ⟨(aH (λq:Int=>some (Value.int .i64 q)) (show(j:Int)-1=((j-1:Nat):Int) by omega)),aA⟩ K1
    .refine Kl J J (Zey (Xh ( .int .i64 (m.getD j 0)) (Zdm 1 J J J iA3 O) (aH (λq=>Value.int .i64 (m.getD q 0)) O)) J) (λ_ _=>?_);refine Zj 0 [(9,1),(14,0),(15,1),(16,0),(17,3)]<|Kr J (Zey (Xh ( .int .i64 (m.getD (j-1) 0)) (Zdm 1 J J J iA3 O) (aH (λq=>Value.int .i64 (m.getD q 0)) O)) J) (λ_ _=>?_);refine Xj J J (Eg (Xh ( .pointer (some ⟨b,j,none⟩)) (Zar j J J J Pp Kv O O) (by rw [cC])) aA)<|Kr J (Ztw 1 J J J J J O3 Kv O J n.h (λ_ h=>nomatch h)) (λ_ _=>?_);refine Xj J J (Eg (Xh ( .pointer (some ⟨b,j-1,none⟩)) (Zar (j-1) J J J Pp Kv O O) (by rw [cC])) aA)<|r3' J (Ztw 1 J J J J J O3 Kv (by rw [bI];omega) J n.h aA) λ_ _=>go 1 ?_;refine Zt<|go 7 ⟨O,?_⟩;exact Yh (j-1,swp m j) ⟨O1,d.trans (Yaq O O),Zt3 t O e o s⟩ O1 ⟨(aH (λq:Int=>some (Value.int .i64 q)) (show(j:Int)-1=((j-1:Nat):Int) by omega)),aA⟩ K1
   .have y:=f;refine go 11 ⟨O,?_⟩;exact Yh (i+1,m) ⟨O1,O1,d,Yhf t o (.inr ⟨e,y⟩)⟩ O1 K1 K1
 .obtain rfl:i=xs.length:=O;refine go 4 ?_;exact Dr (.inr J) F l (λa w hs=>res0 hs results241) J ⟨u,by rw [D];exact hs⟩ 1 J J J J Za
theorem sl_pdq{c:Nat}{j:Int}(e:1<=xs.length)(n:xs.length<=12):Zdy prog 203 #[.slice (some ⟨b,0,none⟩) xs.length c,.int .i64 0,.int .i64 (xs.length:Int),.int .i64 j] [] false b 3 (wcr xs r) (G:=List Int) (λg=>Sam xs g/\Srt g g.length) (λg=> .tuple #[]) (λg=>wcr g r) (λg=>[]):=by refine Dk func203 J ntmps203 J aA ?_;intro s o h f;have h:=Hw.mk h;simp only [Pa,Xb];refine go 11 ?_;refine lp (G:=Nat) [0] [0,1] (λk=>[(1,.int .i64 0),(2,.int .i64 (xs.length:Int))]) (λk=>[]) (λk=>True) (λk=>k) 0 aA K2 aA ?_;rintro k -;refine go 13 ⟨O,?_⟩;refine kt (aK O)<|go 8 ?_;refine tt (Qz 1 1 (sl_ins e n) J J J K3 call241 J O3 Zn J h.h aA) λl d=>go 7 ?_;exact Dr (.inl J) f l (λa w hs=>res0 hs results203) J d 1 J J J J Za
theorem Yo3{c:Nat}(e:1<=xs.length)(l:xs.length<=12):Zdy prog 150 #[.slice (some ⟨b,0,none⟩) xs.length c] [] false b 3 (wcr xs r) (G:=List Int) (λg=>Sam xs g/\Srt g g.length) (λg=> .tuple #[]) (λg=>wcr g r) (λg=>[]):=by refine Dk func150 J ntmps150 J aA ?_;intro o n h f;have h:=Hw.mk h;simp only [Pa,Xb];refine go 3 ?_;refine dt (Zsh J J Pp)<|go 7 ?_;refine dt (Xh ( .int .u64 (xs.length:Int)) (Zsl J J uT3 Zz2 (by simp only [U];omega)) J)<|cl 1 [] (Ygb xs.length (by simp only [U];omega)) λ_ _=>?_;refine tt (Qz 1 1 (sl_pdq e l) J J J K4 call203 J O3 Zn J h.h aA) λj d=>go 1 ?_;exact Dr (.inr J) f j (λa w hs=>res0 hs results150) J d 1 J J J J Za
theorem sl_cmp{c:Nat}(R:2<=xs.length)(W:xs.length<=12)(S:xs.length<=c)(n:Srt xs xs.length):Zdy prog 151 #[.slice (some ⟨b,0,none⟩) xs.length c] [] false b 3 (wcr xs r) (G:=List Int×List Value) (λg=>Cmp xs g.1/\g.1.length+g.2.length=xs.length+r.length) (λg=> .slice (some ⟨b,0,none⟩) g.1.length c) (λg=>wcr g.1 g.2) (λg=>[]):=by
 refine Dk func151 J ntmps151 J aA ?_;intro Z Y u t;have u:=Hw.mk u;simp only [Pa,Xb];refine go 9 ?_;refine dt (Zsh J J Pp)<|kf (aN O)<|go 12 ?_;refine lp (G:=Nat) [0] [0,1] (λk=>[(3,.int .i64 (k:Int))]) (λk=>[]) (λk=>(1<=k)/\(k<=xs.length)/\(∀q,1<=q->q<k->xs.getD q 0≠xs.getD (q-1) 0)) (λk=>xs.length-k) 1 ⟨O1,O1,λq F H=>absurd H O⟩ K1 aA ?_;rintro k ⟨z,M,v⟩;refine go 5 ?_;refine dt (Zsh J J Pp)<|go 3 ?_;refine Ze J (λo=>?_) (λo=>?_)
 .refine go 5 ?_;refine Qf (λ_=>False) [(0,0),(1,0),(2,0),(3,0),(4,0),(5,0),(6,0),(7,0),(8,0),(9,0)]<|go 2 ?_;refine Xj J J (Xq (Xh ( .pointer (some ⟨b,k,none⟩)) (Zar k J J J Pp Kv O O) (by rw [cC])))<|Xj J J (Xq (Xh ( .int .i64 (xs.getD k 0)) (Zdm 1 J J J iA3 O) (aH (λq=>Value.int .i64 (xs.getD q 0)) O)))<|go 3 ⟨O,?_⟩;refine Xj J J (Xq (Xh ( .pointer (some ⟨b,k-1,none⟩)) (Zar (k-1) J J J Pp Kv O O) (by rw [cC])))<|Xj J J (Xq (Xh ( .int .i64 (xs.getD (k-1) 0)) (Zdm 1 J J J iA3 O) (aH (λq=>Value.int .i64 (xs.getD q 0)) O)))<|go 3 ?_;refine Ze J (λd=>?_) (λd=>?_)
  .have I:=d;refine go 4 ?_;refine dt (Xh ( .slice (some ⟨b,k,none⟩) (xs.length-k) (c-k)) (Ymb k J J J Pp Kv J O O) (by rw [cC]))<|go 10 ?_;refine lp (G:=Nat×Nat×List Int) [0,4] [0] (λq=>[(5,.int .i64 (q.1:Int)),(3,.int .i64 (q.2.1:Int))]) (λq=>[(1,box b 3 (wcr q.2.2 r))]) (λq=>(1<=q.1)/\(Cml xs q.2.2 (k+q.1) q.2.1)) (λq=>xs.length-k-q.1) (1,k,xs) ⟨O1,cml_0 n v z O I⟩ K2 K1 ?_;rintro⟨j,kk,l⟩ ⟨y,f⟩;dsimp only at y f;dsimp only;have V:=f.ll;have N:=f.k1;have P:=f.km;have Q:=f.ml;refine go 5 ?_;refine dt (Zsh J J Pp)<|go 3 ?_;refine Ze J (λs=>?_) (λs=>?_)
   .refine go 5 ?_;refine Qf (λ_=>False) [(0,0),(1,0),(2,0),(3,0),(4,0),(5,0),(6,0),(7,0),(8,0),(9,0)]<|go 2 ?_;refine Xj J J (Xq (Zar j J J J Pp Kv O O))<|Xj J J (Xq (Xh ( .int .i64 (l.getD (k+j) 0)) (Zdm 1 J J J iA3 O) (aH (λq=>Value.int .i64 (l.getD q 0)) O)))<|go 3 ⟨O,?_⟩;refine Xj J J (Xq (Zar (j-1) J J J Pp Kv O O))<|Xj J J (Xq (Xh ( .int .i64 (l.getD (k+j-1) 0)) (Zdm 1 J J J iA3 O) (aH (λq=>Value.int .i64 (l.getD q 0)) O)))<|go 3 ?_;refine Ze J (λe=>?_) (λe=>?_)
    .have h:=e;refine go 6 ?_;refine dt (Zar j J J J Pp Kv O O)<|dt (Xh ( .int .i64 (l.getD (k+j) 0)) (Zdm 1 J J J iA3 O) (aH (λq=>Value.int .i64 (l.getD q 0)) O))<|dt (Xh ( .pointer (some ⟨b,kk,none⟩)) (Zar kk J J J Pp Kv J O) (by rw [cC]))<|tt (Ztw 1 J J J J J O3 Kv O J u.h aA) (λ_ _=>?_);refine go 14 ⟨O,O,?_⟩;exact Yh (j+1,kk+1,l.set kk (l.getD (k+j) 0)) ⟨O1,cml_ne (m:=k+j) n f O h⟩ O1 K2 K1
    .have h:=e;refine go 8 ⟨O,?_⟩;exact Yh (j+1,kk,l) ⟨O1,cml_eq (m:=k+j) f O (fU.1 h)⟩ O1 K2 K1
   .obtain B:k+j=xs.length:=O;rw [B]at f;refine go 9 ?_;refine dt (Xh ( .slice (some ⟨b,kk,none⟩) (xs.length-kk) (c-kk)) (Ymb kk J J J Pp Kv J O O) (by rw [cC]))<|tt (t_clw (i:=1) J J J J O3 O O Pp Kv (λw=>zeroValue3 w) J u.h aA) λ_ _=>go 6 ?_;refine dt (d_prew (i:=kk) J J J Pp Kv J O O)<|go 9 ?_;exact Dr (.inl J) t (l.take kk,List.replicate (xs.length-kk) (.int .i64 0) ++ r) (λa w hs=>Zb6 hs results151 J) (by rw [aQ,dJ O]) ⟨cml_e f,O8⟩ 1 J J J J Za
  .have D:=d;refine go 8 ⟨O,?_⟩;exact Yh (k+1) ⟨O1,O1,hd_s v D⟩ O1 K1 aA
 .refine go 12 ?_;exact Dr (.inl J) t (xs,r) (λa w hs=>Zb6 hs results151 J) J ⟨Yr4 n (λq F H=>v q F O),J⟩ 1 J J J J Za
def Gb(f:Nat->Rat):Nat->Rat
 | 0=>0
 | n+1=>Gb f n+f n
def Ml(f:Nat->Rat)(n:Nat):Gb f (n+1)=Gb f n+f n:=rfl
theorem Lk{f g:Nat->Rat} : ∀n,(∀i,i<n->f i=g i)->Gb f n=Gb g n
 | 0,_=>rfl
 | n+1,h=>by rw [Ml,Ml,Lk n λi hi=>h i O,h n O]
theorem Dy(f:Nat->Rat):∀n,Gb f (n+1)=f 0+Gb (λi=>f (i+1)) n
 | 0=>by show 0+f 0=f 0+0;grind
 | n+1=>by rw [Ml,Dy f n,Ml];grind
theorem Zl7(f g:Nat->Rat):∀n,Gb (λi=>f i+g i) n=Gb f n+Gb g n
 | 0=>by show(0:Rat)=0+0;grind
 | n+1=>by rw [Ml,Ml,Ml,Zl7 f g n];grind
theorem Eu(c:Rat)(f:Nat->Rat):∀n,Gb (λi=>c*f i) n=c*Gb f n
 | 0=>by show(0:Rat)=c*0;grind
 | n+1=>by rw [Ml,Ml,Eu c f n];grind
theorem Znj(n:Nat):Oq n 0=1:=by cases n<;>rfl
def chz_s(n k:Nat):Oq (n+1) (k+1)=Oq n k+Oq n (k+1):=rfl
theorem Ynf{u w:Rat}(h:u+w=1):∀n,Gb (λj=>(Oq n j:Rat)*(u^j*w^(n-j))) (n+1)=1
 | 0=>by rw [Dy];show((Oq 0 0:Nat):Rat)*(u^0*w^0)+0=1;rw [Znj,eP,eP];push_cast;grind
 | n+1=>by
  have d:=Ynf h n;rw [Dy];have e:Gb (λi=>(Oq (n+1) (i+1):Rat)*(u^(i+1)*w^(n+1-(i+1)))) (n+1)=Gb (λi=>u*((Oq n i:Rat)*(u^i*w^(n-i)))) (n+1)+Gb (λi=>(Oq n (i+1):Rat)*(u^(i+1)*w^(n-i))) (n+1):=by rw [<-Zl7];refine Lk _ λi hi=>?_;rw [chz_s,show n+1-(i+1)=n-i by omega,dY];push_cast;grind
  have f:Gb (λi=>(Oq n (i+1):Rat)*(u^(i+1)*w^(n-i))) (n+1)=Gb (λi=>(Oq n (i+1):Rat)*(u^(i+1)*w^(n-i))) n:=by rw [Ml,Zni n (n+1) O];push_cast;grind
  have g:w*Gb (λj=>(Oq n j:Rat)*(u^j*w^(n-j))) (n+1)=w^(n+1)+Gb (λi=>(Oq n (i+1):Rat)*(u^(i+1)*w^(n-i))) n:=by
   rw [<-Eu,Dy,Znj];congr 1
   .rw [jR,eP,dY];push_cast;grind
   .refine Lk _ λi hi=>?_;rw [show n-i=(n-(i+1))+1 by omega,dY w];grind
  rw [e,f,Eu,d];rw [d]at g;rw [Znj,eP,jR];push_cast;grind
def Hk(d:Nat)(c:List Int)(j:Nat):Int:=Ye (λi=>cf c i*(Oq (d-i) (j-i):Int)) (j+1)
theorem brS_0(d:Nat)(a:Int)(c:List Int):Hk d (a::c) 0=a:=by unfold Hk;rw [Yk,Ga];show 0+a*((Oq (d-0) (0-0):Nat):Int)=a;rw [show 0-0=0 from rfl,Znj];omega
theorem brS_s(d:Nat)(a:Int)(c:List Int)(j:Nat):Hk (d+1) (a::c) (j+1)=a*(Oq (d+1) (j+1):Int)+Hk d c j:=by unfold Hk;rw [My];congr 1;refine Xd λi hi=>?_;rw [show d+1-(i+1)=d-i by omega,show j+1-(i+1)=j-i by omega];rfl
theorem Ysl(d j:Nat):Hk d [] j=0:=by unfold Hk;exact(Zh6 (m:=0) (bD _) λi _ _=>by rw [show cf [] i=0 from rfl,cM]).trans (Ga _)
theorem bern{u w:Rat}(h:u+w=1):∀(d:Nat) (c:List Int),c.length<=d+1->Gb (λj=>(Hk d c j:Rat)*(u^j*w^(d-j))) (d+1)=Zf c u
 | d,[],_=>by
  rw [Lk (g:=λ_=>0) (d+1) λi hi=>by rw [Ysl];push_cast;grind];show Gb (λ_=>0) (d+1)=0;have:∀n,Gb (λ_=>0) n=0:=λn=>by
   induction n with
   | zero=>rfl
   | succ n f=>rw [Ml,f];grind
  exact this _
 | 0,[a],_=>by rw [Ml,brS_0];show 0+(a:Rat)*(u^0*w^0)=(a:Rat)+u*0;rw [eP,eP];grind
 | 0,a::b::c,hl=>by simp at hl
 | d+1,a::c,hl=>by
  have f:=bern h d c (by simpa using hl);have e:=Ynf h (d+1);rw [Dy]at e;rw [Dy,brS_0];have l:Gb (λi=>(Hk (d+1) (a::c) (i+1):Rat)*(u^(i+1)*w^(d+1-(i+1)))) (d+1)=(a:Rat)*Gb (λi=>(Oq (d+1) (i+1):Rat)*(u^(i+1)*w^(d+1-(i+1)))) (d+1)+u*Gb (λj=>(Hk d c j:Rat)*(u^j*w^(d-j))) (d+1):=by rw [<-Eu,<-Eu,<-Zl7];refine Lk _ λi hi=>?_;rw [brS_s,show d+1-(i+1)=d-i by omega,dY];push_cast;grind
  rw [l,f];show _=(a:Rat)+u*Zf c u;rw [Znj]at e;push_cast at e ⊢;grind
theorem Cm(a:Int):∀(c:List Int) (i:Nat),cf (c.map λx=>a*x) i=a*cf c i
 | [],i=>by rw [gD,show cf [] i=0 from rfl,dU]
 | x::c,0=>rfl
 | x::c,i+1=>Cm a c i
theorem Zx0(c:List Int)(a b e:Int)(u:Rat):Zf (mk (c.length+1) λt=>cf c t*a+(if t=0 then e else cf c (t-1)*b)) u=Zf c u*((a:Rat)+(b:Rat)*u)+(e:Rat):=by
 have h:Zf (mk (c.length+1) λt=>cf c t*a+(if t=0 then e else cf c (t-1)*b)) u=Zf (Mu (c.map λx=>a*x) (e::c.map λx=>b*x)) u:=Oy u _ _ λi=>by
  rw [Mv,Cm,Nw]
  match i with
  | 0=>rw [aG O,aG rfl];show cf c 0*a+e=a*cf c 0+e;rw [cQ]
  | i+1=>
   show _=a*cf c (i+1)+cf (c.map λx=>b*x) i;rw [Cm];by_cases hi:i<c.length
   .rw [aG O,aD O,eZ,cQ,cQ (cf c i)]
   .rw [aD O,Yf (p:=c) (i:=i+1) O,Yf (p:=c) (i:=i) O];omega
 rw [h,Xp,Zo];show _+((e:Rat)+u*Zf (c.map λx=>b*x) u)=_;rw [Zo];grind
theorem Zur(p:List Int)(a b d:Int){t u:Rat}(f:t*(d:Rat)=(a:Rat)+(b:Rat)*u):∀j,j+1<=p.length->Zf (Lb p a b d j) u=(d:Rat)^j*Zf (p.drop (p.length-1-j)) t
 | 0,h=>by
  have e:p.drop (p.length-1-0)=[cf p (p.length-1)]:=by rw [jR,eA O,iV O];congr 1;unfold cf;rw [aE,aM O];rfl
  rw [Ec,e,eP,Py,Py];grind
 | j+1,h=>by
  have g:=Zur p a b d f j O;have e:p.drop (p.length-1-(j+1))=cf p (p.length-2-j)::p.drop (p.length-1-j):=by rw [eA O,show p.length-1-(j+1)+1=p.length-1-j by omega];congr 1;unfold cf;rw [aE,aM O];show p[p.length-1-(j+1)]=p[p.length-2-j];congr 1;omega
  rw [Zpw,Zx0,g,e,<-f];show _=(d:Rat)^(j+1)*((cf p (p.length-2-j):Rat)+t*Zf (p.drop (p.length-1-j)) t);rw [dY];push_cast;rw [dY];generalize (d:Rat)^j=D;grind
theorem Zlz(a b d:Int){t u:Rat}(f:t*(d:Rat)=(a:Rat)+(b:Rat)*u)(e:p.length≠0):Zf (Lm p a b d) u=(d:Rat)^(p.length-1)*Zf p t:=by unfold Lm;rw [aD e,Oy u (tzl _) _ (λi=>Lc _ i),Zur p a b d f (p.length-1) O,gE,gV]
def Yma:List Int->List Int
 | []=>[]
 | a::p=>a::0::Yma p
theorem Zqp(x:Rat):∀p:List Int,Zf (Yma p) x=Zf p (x*x)
 | []=>rfl
 | a::p=>by show(a:Rat)+x*(((0:Int):Rat)+x*Zf (Yma p) x)=(a:Rat)+x*x*Zf p (x*x);rw [Zqp x p];push_cast;grind
theorem Zzh:∀(p:List Int) (i:Nat),cf (Yma p) (2*i)=cf p i
 | [],i=>rfl
 | a::p,0=>rfl
 | a::p,i+1=>by show cf (0::Yma p) (2*i+1)=cf p i;exact Zzh p i
theorem sq_nn(x:Rat):0<=x*x:=by
 rcases(show 0<=x\/x<=0 by grind)with h|h
 .exact aL h h
 .have:=aL (show 0<=-x by grind) (show 0<=-x by grind);grind
theorem Zuq(h:∀x:Rat,0<=x->Zf p x=Zf q x)(i:Nat):cf p i=cf q i:=by rw [<-Zzh p,<-Zzh q];exact Nq (λx=>by rw [Zqp,Zqp];exact h _ (sq_nn x)) _
theorem Zkg(f:Nat->Int)(x:Rat):∀n,Zf (mk n f) x=Gb (λj=>(f j:Rat)*x^j) n
 | 0=>rfl
 | n+1=>by rw [Fi,Zup,Zkg f x n,Yu,Ml]
def NN(p:List Int):Prop:=∀i,0<=cf p i
theorem NN.smul{c:Int}(d:0<=c)(h:NN p):NN (p.map λa=>c*a):=λi=>by rw [Cm];exact eU d (h i)
theorem NN.add(d:NN p)(e:NN q):NN (Mu p q):=λi=>by rw [Mv];exact Int.add_nonneg (d i) (e i)
theorem NN.lmul{q:List Int}(d:NN q):∀{p:List Int},NN p->NN (lmul p q)
 | [],_=>λi=>by show 0<=cf [] i;rw [show cf [] i=0 from rfl];exact eY _
 | c::p,h=>NN.add (NN.smul (h 0) d) λi=>by
  match i with
  | 0=>exact eY _
  | i+1=>exact NN.lmul d (p:=p) (λj=>h (j+1)) i
def lpw(l:List Int):Nat->List Int
 | 0=>[1]
 | k+1=>lmul l (lpw l k)
theorem Zqm(l:List Int)(x:Rat):∀k,Zf (lpw l k) x=Zf l x^k
 | 0=>by rw [eP];show((1:Int):Rat)+x*0=1;push_cast;grind
 | k+1=>by rw [show lpw l (k+1)=lmul l (lpw l k)from rfl,Yc,Zqm l x k,dY,kL]
theorem NN.lpw{l:List Int}(h:NN l):∀k,NN (lpw l k)
 | 0=>λi=>by
  show 0<=cf [1] i
  match i with
  | 0=>exact Int.one_nonneg
  | i+1=>exact eY _
 | k+1=>NN.lmul (NN.lpw h k) h
theorem NN.two{b:Int}(d:0<=a)(e:0<=b):NN [a,b]:=λi=>by
 match i with
 | 0=>exact d
 | 1=>exact e
 | i+2=>exact eY _
def sQ(f:Nat->Int)(W:Nat->List Int):Nat->List Int
 | 0=>[]
 | k+1=>Mu (sQ f W k) ((W k).map λa=>f k*a)
theorem Zxz(f:Nat->Int)(W:Nat->List Int)(x:Rat):∀k,Zf (sQ f W k) x=Gb (λi=>(f i:Rat)*Zf (W i) x) k
 | 0=>rfl
 | k+1=>by rw [show sQ f W (k+1)=Mu (sQ f W k) ((W k).map λa=>f k*a)from rfl,Xp,Zxz f W x k,Zo,Ml]
theorem sQ_le{f g:Nat->Int}{W:Nat->List Int}{B:Int}(d:∀i,NN (W i)):∀k,(∀i,i<k->((f i).natAbs:Int)<=B*g i)->∀j,((cf (sQ f W k) j).natAbs:Int)<=B*cf (sQ g W k) j
 | 0,_,j=>by show((cf [] j).natAbs:Int)<=B*cf [] j;rw [show cf [] j=0 from rfl];simp
 | k+1,h,j=>by
  have u:=sQ_le d k (λi hi=>h i O) j;have l:=h k O;show((cf (Mu (sQ f W k) ((W k).map λa=>f k*a)) j).natAbs:Int)<=B*cf (Mu (sQ g W k) ((W k).map λa=>g k*a)) j;rw [Mv,Mv,Cm,Cm,kS,<-eN];have n:=d k j;have o:((f k*cf (W k) j).natAbs:Int)<=B*g k*cf (W k) j:=by rw [cJ];push_cast;have e:((cf (W k) j).natAbs:Int)=cf (W k) j:=O;rw [e];exact fF l n
  generalize B*g k*cf (W k) j=t at *;generalize f k*cf (W k) j=s at *;generalize B*cf (sQ g W k) j=r at *;omega
theorem Zmk(a b:Rat):∀n:Nat,(a*b)^n=a^n*b^n
 | 0=>by rw [eP,eP,eP];grind
 | n+1=>by rw [dY,dY,dY,Zmk a b n];grind
theorem Yd2(a:Rat)(m:Nat):∀n:Nat,a^(m+n)=a^m*a^n
 | 0=>by rw [eH,eP];grind
 | n+1=>by rw [<-gC,dY,dY,Yd2 a m n];grind
theorem Yng{U V S:Rat}(h:U+V=S)(n:S≠0){d:Nat}(l:c.length<=d+1):Gb (λj=>(Hk d c j:Rat)*(U^j*V^(d-j))) (d+1)=S^d*Zf c (U/S):=by
 rw [<-bern (u:=U/S) (w:=V/S) (by rw [<-h];grind) d c l,<-Eu];refine Lk _ λj o=>?_;have e:U^j=S^j*(U/S)^j:=by rw [<-Zmk];congr 1;grind
 have f:V^(d-j)=S^(d-j)*(V/S)^(d-j):=by rw [<-Zmk];congr 1;grind
 have g:S^d=S^j*S^(d-j):=by rw [<-Yd2];congr 1;omega
 rw [e,f,g];grind
theorem Ydr{U V S:Rat}(h:U+V=S)(l:S≠0)(d:Nat):Gb (λj=>(Oq d j:Rat)*(U^j*V^(d-j))) (d+1)=S^d:=by
 have:=Ynf (u:=U/S) (w:=V/S) (by rw [<-h];grind) d;rw [<-Rat.mul_one (S^d),<-this,<-Eu];refine Lk _ λj n=>?_;have e:U^j=S^j*(U/S)^j:=by rw [<-Zmk];congr 1;grind
 have f:V^(d-j)=S^(d-j)*(V/S)^(d-j):=by rw [<-Zmk];congr 1;grind
 have g:S^d=S^j*S^(d-j):=by rw [<-Yd2];congr 1;omega
 rw [e,f,g];grind
theorem Yax(a b:Int)(x:Rat):Zf [a,b] x=(a:Rat)+(b:Rat)*x:=by show(a:Rat)+x*((b:Rat)+x*0)=_;grind
theorem onepw(n:Nat):(1:Rat)^n=1:=by
 induction n with
 | zero=>rw [eP]
 | succ n d=>rw [dY,d];grind
theorem Zdr(d:Int)(n:Nat):((d^n:Int):Rat)=(d:Rat)^n:=by
 induction n with
 | zero=>rw [cL,eP];rfl
 | succ n e=>rw [dD,dY,<-e];push_cast;rfl
def Wij(a e d:Int)(n i:Nat):List Int:=lmul (lpw [a,e] i) (lpw [d-a,d-e] (n-i))
def Wij_nn{e d:Int}(f:0<=a)(g:0<=e)(h:a<=d)(j:e<=d)(n i:Nat):NN (Wij a e d n i):=NN.lmul (NN.lpw (NN.two O O) _) (NN.lpw (NN.two f g) _)
theorem Yaz(a e d:Int)(n i:Nat)(x:Rat):Zf (Wij a e d n i) x=((a:Rat)+(e:Rat)*x)^i*(((d-a:Int):Rat)+((d-e:Int):Rat)*x)^(n-i):=by unfold Wij;rw [Yc,Zqm,Zqm,Yax,Yax]
theorem Ysn {X:List Int} {n:Nat} (hl:c.length<=n+1) (hX:X.length<=n+1) {b d B:Int} (ha:0<=a) (hb:0<=b) (G:a+b<=d) (M:0<d) (hr:∀t u:Rat,t*(d:Rat)=(a:Rat)+(b:Rat)*u->Zf X u=(d:Rat)^m*Zf c t)
  (hB:∀j,j<n+1->((Hk n c j).natAbs:Int)<=B*(Oq n j:Int)):∀j,j<n+1->((Hk n X j).natAbs:Int)<=B*d^m*(Oq n j:Int):=by
 have Q:(0:Rat)<(d:Rat):=by exact_mod_cast M
 have l:∀x:Rat,0<=x->(x+1)≠0:=λx e h=>O4;have s:∀x:Rat,((a:Rat)+((a+b:Int):Rat)*x)+(((d-a:Int):Rat)+((d-(a+b):Int):Rat)*x)=(d:Rat)*(x+1):=λx=>by push_cast;grind
 have o:∀x:Rat,0<=x->(d:Rat)*(x+1)≠0:=λx e h=>by have:=bC Q (show(0:Rat)<x+1 by grind);grind
 have R:∀x:Rat,0<=x->Zf (sQ (λi=>(Oq n i:Int)) (Wij a (a+b) d n) (n+1)) x=Zf (mk (n+1) λj=>d^n*(Oq n j:Int)) x:=λx e=>by
  rw [Zxz,Zkg];have y:=Ydr (s x) (o x e) n;have z:=Ydr (U:=x) (V:=1) (S:=x+1) rfl (l x e) n;have D:Gb (λi=>(((Oq n i:Nat):Int):Rat)*Zf (Wij a (a+b) d n i) x) (n+1)=((d:Rat)*(x+1))^n:=by rw [<-y];exact Lk _ λj v=>by rw [Yaz];push_cast;rfl
  rw [D,Zmk,<-z,<-Eu];refine Lk _ λj v=>?_;rw [onepw];push_cast;rw [<-Zdr];push_cast;grind
 have Y:∀x:Rat,0<=x->Zf (mk (n+1) λj=>d^n*Hk n X j) x=Zf ((sQ (Hk n c) (Wij a (a+b) d n) (n+1)).map λq=>d^m*q) x:=λx e=>by
  rw [Zo,Zxz,Zkg];have y:=Yng (s x) (o x e) hl;have z:=Yng (U:=x) (V:=1) (S:=x+1) rfl (l x e) hX;have D:Gb (λi=>((Hk n c i:Int):Rat)*Zf (Wij a (a+b) d n i) x) (n+1)=((d:Rat)*(x+1))^n*Zf c (((a:Rat)+((a+b:Int):Rat)*x)/((d:Rat)*(x+1))):=by rw [<-y];exact Lk _ λj v=>by rw [Yaz]
  have e4:Gb (λj=>((d^n*Hk n X j:Int):Rat)*x^j) (n+1)=(d:Rat)^n*Gb (λj=>(Hk n X j:Rat)*(x^j*1^(n-j))) (n+1):=by rw [<-Eu];refine Lk _ λj v=>?_;rw [onepw,<-Zdr];push_cast;grind
  rw [D,e4,z,hr (((a:Rat)+((a+b:Int):Rat)*x)/((d:Rat)*(x+1))) (x/(x+1)) ?_,Zmk,Zdr]
  .grind
  .have F:=l x e;have w:(d:Rat)≠0:=O4;push_cast;grind
 have H:=Zuq R;have I:=Zuq Y;intro j v;have F:=H j;have w:=I j;rw [Nw,aG v]at F w;rw [Cm]at w;have Z:=sQ_le (f:=Hk n c) (g:=λi=>(Oq n i:Int)) (W:=Wij a (a+b) d n) (B:=B) (Wij_nn ha O O G n) (n+1) hB j;rw [F]at Z;have P:0<d^n:=kV M;have N:0<=d^m:=eG (kV M);have h4:((d^n*Hk n X j).natAbs:Int)=d^n*((Hk n X j).natAbs:Int):=by rw [cJ];push_cast;rw [show((d^n).natAbs:Int)=d^n by omega]
 have h5:((d^m*cf (sQ (Hk n c) (Wij a (a+b) d n) (n+1)) j).natAbs:Int)=d^m*((cf (sQ (Hk n c) (Wij a (a+b) d n) (n+1)) j).natAbs:Int):=by rw [cJ];push_cast;rw [show((d^m).natAbs:Int)=d^m by omega]
 have h6:=iT Z N;rw [<-h5,<-w,h4]at h6;refine lX (a:=d^n) ?_ P;refine Int.le_trans h6 (oK ?_);generalize d^n=p;generalize d^m=q;generalize (Oq n j:Int)=r;grind
end Go.Sky

