/- Rules, arithmetic and contracts: part 14. No conditions but those that each theorem names. -/
import Derived.Test.YtlnoheikolgejaaGreatLa12
set_option linter.all false
set_option maxHeartbeats 4000000
namespace Go.Sky
variable{x y z c l1 l2:List Int}{i:Nat}{a b v u:Value}{ov:Int}{f:Nat->Value}{zs:List (SL×List Int)}{s:SL}{d0:SL×List Int}{M M0:Nat->Prop}
def joG(g h:Zj):Bool:=joinB g.1.1 g.1.2.1 g.1.2.2 g.2.1.2 g.2.2.1.2 g.2.2.2.2 h.1.1 h.1.2.1 h.1.2.2 h.2.1.2 h.2.2.1.2 h.2.2.2.2
def joAll(ps:List Zj):Bool:=(List.range ps.length).all λi=>decide (i=0) || joG (ps.getD (i-1) G0) (ps.getD i G0)
def topV(ps:List Zj):Int×Int×Int:=
 if 10000<Yfw 1 ps\/10000<Yfw 2 ps then(0,0,3)else if joAll ps then((Yfw 1 ps:Int),(Yfw 2 ps:Int),0)else(0,0,10)
theorem Zue{ps:List Zj}(k:∀g∈ps,Gin g)(j:Xk ps=true):∀g∈ps,SgG g:=λg h=>by obtain⟨i,hi,e⟩:=eA.1 h;have d:=Zg5 ((Dh j).1 i hi);rw [aC,aH hi,eI,e]at d;exact Hr (k g h) d
def g8(g:Zj):Bool:=decide (g.2.1.2.length<=8) && decide (g.2.2.1.2.length<=8) && decide (g.2.2.2.2.length<=8)
def fewB(ps:List Zj)(m:Nat):Bool:=(List.range ps.length).all (λi=>decide (m<i) || g8 (ps.getD i G0)) && decide (ps.length<=m)
def axc(c:List Int):Bool:=!(decide (1<=c.length) && decide (c.length<=6) && !(decide (1<c.length) && decide (c.getD (c.length-1) 0=0)))
variable {P:Program} {N:Nat} {sc:Nat->Prop} {env env':Xz} {H H':Hp}
def Fz(c:List Int)(g:Int):List Int:=if c.length=0 then [0]else c.map (· / g)
def mdO(ov g:Int):Int:=if ov/g<=4294967296 then ov/g else 0
def mdL(ov g:Int)(c:List Int):List Int:=if ov/g<=4294967296 then Fz c g else []
def Hj(ov:Int)(x y z:List Int):Int:=Mg ov (Lh 3 x y z)
structure Mdh (ov:Int) (x y z:List Int):Prop where
 o:0<ov
 b:bl ov.natAbs<=1000
 s:∀i,Sz 1000 (Zt i x y z)
 l:∀i,(Zt i x y z).length<=6
 c:∀i k,(cf (Zt i x y z) k).natAbs<=ov.natAbs*2146435072
def Zeo:∀(l:List Int) (g:Int),0<=g->0<=Mg g l
 | [],_,h=>h
 | x::l,g,h=>Zeo l _ (jO _)
theorem Zu6:∀(l:List Int) (g:Int),Mg g l∣g/\∀x∈l,Mg g l∣x
 | [],g=>⟨Int.dvd_refl _,λx h=>nomatch h⟩
 | x::l,g=>by
  obtain⟨e,j⟩:=Zu6 l ((Int.gcd g x:Nat):Int);exact⟨gX e (kF ..),λy d=>by
   rcases bG.1 d with rfl|d
   .exact gX e (iS ..)
   .exact j y d⟩
theorem Zr8{a:Int}(hi:i<3)(h:a∈Zt i x y z):a∈Lh 3 x y z:=by
 match i,hi with
 | 0,_=>exact cS.2 (.inl (cS.2 (.inl h)))
 | 1,_=>exact cS.2 (.inl (cS.2 (.inr h)))
 | 2,_=>exact cS.2 (.inr h)
theorem Mdh.g(h:Mdh ov x y z):0<Hj ov x y z/\Hj ov x y z∣ov/\∀i,i<3->∀a∈Zt i x y z,Hj ov x y z∣a:=by
 obtain⟨d,e⟩:=Zu6 (Lh 3 x y z) ov;have g:=Zeo (Lh 3 x y z) ov (eE h.o);have k:=h.o;refine⟨?_,d,λi hi a j=>e a (Zr8 hi j)⟩;rcases Int.lt_or_eq_of_le g with q|q
 .exact q
 .exact absurd (Int.zero_dvd.1 (q▸d)) O
theorem Mdh.fc(h:Mdh ov x y z)(i k:Nat):bl (Mg (Mg ov (Lh i x y z)) ((Zt i x y z).take k)).natAbs<=1000:=by
 have g:∀i,∀a∈Zt i x y z,bl a.natAbs<=1000:=λi a d=>by obtain⟨j,o⟩:=mO.1 d;have:=h.s i j;unfold cf at this;rw [aC,o]at this;exact this
 have n:∀a∈Lh i x y z,bl a.natAbs<=1000:=λa d=>by
  unfold Lh at d;have e:=g 0;have l:=g 1;have m:=g 2;simp only [Zt]at e l m;split at d
  .cases d
  .exact e a d
  .rcases cS.1 d with q|q
   .exact e a q
   .exact l a q
  .rcases cS.1 d with q|q
   .rcases cS.1 q with q|q
    .exact e a q
    .exact l a q
   .exact m a q
 exact Ze2 (λa d=>g i a (fJ d)) (Ze2 n h.b)
theorem Mdh.fit(h:Mdh ov x y z)(hs:ov/Hj ov x y z<=4294967296)(hi:i<3)(k:Nat):((Zt i x y z).getD k 0/Hj ov x y z).natAbs<=9223372036854775807:=by
 obtain⟨m,⟨s,e⟩,n⟩:=h.g;have r:Hj ov x y z∣(Zt i x y z).getD k 0:=by
  rcases bE k (Zt i x y z).length with q|q
  .exact n i hi _ (Zk (d:=0) q)
  .rw [aC,bO q];exact jC _
 obtain⟨t,l⟩:=r;have j:((Zt i x y z).getD k 0).natAbs<=ov.natAbs*2146435072:=h.c i k;generalize Hj ov x y z=g at *;rw [l,jK _ O];rw [e,jK _ O]at hs;rw [l,e,cJ,cJ,cT]at j;have p:=Nat.le_of_mul_le_mul_left j O;have w:=h.o;have B:0<s:=by
  rw [e]at w;by_cases q:0<s
  .exact q
  .have:=gK (eE m) (show s<=0 by omega);omega
 have o:s.natAbs*2146435072<=4294967296*2146435072:=aM _ O;exact aB p (aB o O3)
def mdO_t{g:Int}(h:ov/g<=4294967296):mdO ov g=ov/g:=aF h
def Zk4{g:Int}(h:ov/g<=4294967296):mdL ov g c=Fz c g:=aF h
def mdO_f{g:Int}(h:¬ov/g<=4294967296):mdO ov g=0:=aD h
def Ybk{g:Int}(h:¬ov/g<=4294967296):mdL ov g c=[]:=aD h
def dvL_0{g:Int}(h:c.length=0):Fz c g=[0]:=aF h
def dvL_n{g:Int}(h:c.length≠0):Fz c g=c.map (· / g):=aD h
theorem Ybm{g:Int}{k:Nat}(h:k<c.length):(c.take k).map (· / g) ++ [c.getD k 0/g]=(c.take (k+1)).map (· / g):=by rw [Qb 0 _ h,cE];rfl
abbrev C6 (a b c:Value) (f:Nat->Value):Array Value:=#[a,b,c,f 0,f 1,f 2]
def upd(f:Nat->Value)(i:Nat)(v:Value)(j:Nat):Value:=if j=i then v else f j
theorem c6_get{c:Value}(h:i<3):(C6 a b c f)[3+i]? = some (f i):=by
 match i,h with
 | 0,_=>rfl
 | 1,_=>rfl
 | 2,_=>rfl
theorem Yeg{c:Value}(h:i<3):(C6 a b c (upd f i v))[3+i]? = some v:=by rw [c6_get h];unfold upd;rw [aF rfl]
theorem c6_lay{c:Value}(h:i<3):Ip (C6 a b c (upd f i u)) (3+i) [v]=C6 a b c (upd f i v):=by
 match i,h with
 | 0,_=>rfl
 | 1,_=>rfl
 | 2,_=>rfl
theorem Zs3{c:Value}{g:Nat->Value}(h:∀j,j<3->f j=g j):C6 a b c f=C6 a b c g:=by unfold C6;rw [h 0 O3,h 1 O3,h 2 O3]
theorem p3_sel{b:Nat}(h:i<3):Zt i (Value.pointer (some ⟨b,3,none⟩)) (Value.pointer (some ⟨b,4,none⟩)) (Value.pointer (some ⟨b,5,none⟩))= .pointer (some ⟨b,3+i,none⟩):=by
 match i,h with
 | 0,_=>rfl
 | 1,_=>rfl
 | 2,_=>rfl
theorem c3_get{c:Value}(h:i<3):(#[a,b,c]:Array Value)[0+i*1]? = some (Zt i a b c):=by
 match i,h with
 | 0,_=>rfl
 | 1,_=>rfl
 | 2,_=>rfl
def fz(zs:List (SL×List Int))(j:Nat):Value:=Xw (zs.getD j ((none,0,0),[])).1
theorem fz_upd(h:zs.length=i)(j:Nat):fz zs j=upd (fz zs) i (.slice none 0 0) j:=by
 unfold upd;split
 .rename_i e;subst e;subst h;unfold fz;rw [aC,bO (aK _)];rfl
 .rfl
theorem Zu7(h:zs.length=i)(j:Nat):upd (fz zs) i (Xw s) j=fz (zs ++ [(s,c)]) j:=by
 subst h;unfold upd fz;split
 .rename_i e;subst e;simp
 .rename_i e;rw [aC,aC];rcases bE j zs.length with q|q
  .rw [cQ q]
  .rw [bO q,bO O8]
def Zpn{t:Nat}{f:Nat->List Int}(e:zs.length=i)(h:∀t,t<i->(zs.getD t d0).2=f t)(d:c=f i)(g:t<i+1):((zs ++ [(s,c)]).getD t d0).2=f t:=d▸Zqz e h g
theorem mds_of{g:Int}(k:zs.length=3)(h:∀t,t<3->(zs.getD t d0).2=Fz (Zt t x y z) g):∃l m n:SL,zs=[(l,Fz x g),(m,Fz y g),(n,Fz z g)]:=by
 match zs,k with
 | [o,p,q],_=>
  have d:=h 0 O3;have e:=h 1 O3;have j:=h 2 O3;simp [Zt]at d e j;exact⟨o.1,p.1,q.1,by rw [<-d,<-e,<-j]⟩
theorem Zzy{a b:Int} : 0<(a-b).sign↔¬a<=b:=by rw [sgp];omega
theorem t_st6 (i:Nat)(n:Nat)  {o:Oper} {x y:Operand} {t j:TypeId} {b:Nat} {e g h:Value}   {k:World}  (F:o.op= .store t x y) (r:o.dst=none)
  (Q:ev env x=some (.pointer (some ⟨b,3+n,none⟩))) (R:ev env y=some v) (p:lk H i=some (box b j (C6 e g h (upd f n u)))) (d:i≠0) (B:∀w,(sizeOf t).run P w= .ok 1 w) (D:n<3) (m:One N sc env H v)
  (l:lk H 0=some (Yt k M0)) (I:∀b,k.heap.size<=b->sc b) (q:M b) :
  T P N sc M o env H (G:=Unit) (λ_=>True) (λ_=>env) (λ_=>(i,box b j (C6 e g h (upd f n v)))::H):=by
 have:=t_stp1 (P:=P) (N:=N) (sc:=sc) (M:=M) F r Q R p d B (by show Nat.ble (3+n+1) 6=true;simp;omega) m l I q;rw [c6_lay D]at this;exact this
theorem bl_dlq{a b:Int}{n:Nat}(h:bl a.natAbs<=n)(e:0<b)(d:0<=a):bl (a/b).natAbs<=n:=(Qg n _).2 (bA (by have g:=lY b d;have j:=kS d (eE e);omega) ((Qg n _).1 h))
theorem Ycq{n:Nat}(h:∀z∈zs,∀b,(Xw z.1).ownBlock=some b->n<=b)(d:∀b,(Xw s).ownBlock=some b->n<=b):∀z∈zs ++ [(s,c)],∀b,(Xw z.1).ownBlock=some b->n<=b:=λz e=>by
 rcases cS.1 e with q|q
 .exact h z q
 .rw [bZ.1 q];exact d
theorem fr3{n:Nat}{e g j:SL}{k l m l3:List Int}(h:∀z∈[(e,k),(g,l),(j,m)],∀b,(Xw z.1).ownBlock=some b->n<=b):∀p∈[Yg 1 Zz (Xw e) l1,Yg 1 Zz (Xw g) l2,Yg 1 Zz (Xw j) l3],∀b,p.fp b->n<=b:=λp o b d=>by
 simp only [bG,dU,iD]at o;rcases o with rfl|rfl|rfl
 .exact h (e,k) O7 b d.2
 .exact h (g,l) O7 b d.2
 .exact h (j,m) O7 b d.2
theorem fr0{n:Nat}{l3:List Int} : ∀p∈[Yg 1 Zz (Xw (none,0,0)) l1,Yg 1 Zz (Xw (none,0,0)) l2,Yg 1 Zz (Xw (none,0,0)) l3],∀b,p.fp b->n<=b:=λp d b e=>by simp only [bG,dU,iD]at d;rcases d with rfl|rfl|rfl<;>cases e.2
end Go.Sky
namespace Go.Sky
open Go.RowKit Below
variable{o:Oper}{x:Operand}{cs:Array Value}
variable {P:Program} {N:Nat} {sc:Nat->Prop} {env env':Xz} {H H':Hp} {Q Q':Exit->Act->World->Prop} {M:Nat->Prop}
theorem f_new{d:World}{p:Pc}(i:Nat)(hi:lk H i=some p)(g:p.own=true)(e:lk H 0=some (Yt d (λ_=>False)))(c:i≠0:=by decide):∀a w,Sat N sc env H a w->∀b,p.fp b->d.heap.size<=b:=λa w hs b f=>by
  rcases bE b d.heap.size with h|h
  . exact(hs.sep i 0 p _ c hi e g b f ⟨h,λh=>h⟩).elim
  . exact h
theorem Zyq {fn:Func} {m:List Pc} {G:Type} {φ:G->Prop} {val:G->Value} {c:G->List Pc} {f:World} {e:Exit} (D:e= .ret\/e= .normal)
    (g:G) {v:Value} (r:∀p∈c g,∀b,p.fp b->f.heap.size<=b) (k:∀a w,Sat N sc env H a w->(results fn a.tmps).run P w= .ok v w) (S:val g=v) (I:φ g) (u:lk H 0=some (Yt f (λ_=>False))) (d:Give H true (c g)) :
    X N sc e (Zag P fn f m false φ val c) env H:=λa w hs=>by
  have l : a.defers = [] /\ ∃ v, (results fn a.tmps).run P w = .ok v w /\ (∃ g, Ending.returned v = .returned (val g) /\ φ g /\ Below f.heap.size f w /\
        ∀p∈c g,p.holds w/\p.own=false/\∀b,p.fp b->f.heap.size<=b\/(false=true/\∃q∈m,q.fp b)):=by
    refine⟨hs.defers,v,k a w hs,g,by rw [S],I,Kd (hs.hold 0 _ u),λp t=>?_⟩;obtain⟨s,h|⟨y,z⟩⟩:=d.mem p t
    case inr=>exact⟨y w,s,λb n=>absurd n (z b)⟩
    obtain⟨i,V,R,hi,j,F,B⟩:=h;exact⟨j w (hs.hold i V hi),s,λb n=> .inl (r p t b n)⟩
  rcases D with rfl|rfl
  . exact l
  . exact l
section
variable {f:FuncId} {xs:List Operand} {ats:Array TypeId} {d:Nat} {vs:List Value} {pre:List Pc} {G:Type} {φ:G->Prop} {val:G->Value} {its:G->List Pc} {w0:World} {M0:Nat->Prop} {ty:TypeId} {pos:String} {af:Array Edge} {g:Option (Nat×Bool)}
theorem Yfx  {n:Nat} (Y:Cal P f vs.toArray pre false φ val its)
    (ho:o.op= .call { callee:= .value (.func f),args:=xs.toArray,argTypes:=ats }) (Z:o.dst=some d) (W:Nat.blt d N=true)
    (q:EvL env xs vs) (s:∀args w,(callFunc f args).run P w= .ok (.enter f args) w) (u:PreOk H false pre)
    (I:lk H 0=some (Yt w0 M0)) (hw:∀b,w0.heap.size<=b->sc b) :
    T P N sc M o env H (λg=>φ g/\∀p∈its g,∀b,p.fp b->w0.heap.size<=b) (λg=>(d,val g)::env) (λg=>adds n (its g) H):=λa w hs K Q V=>by
  have z:w0.heap.size<=w.heap.size:=(hs.hold 0 _ I).size;have hr:(execOp a.eval o).run P w= .ok (.enter f vs.toArray) w:=by have hm:=q.map hs;simp [execOp,ho,resolve,invoke,Act.eval,Deferred.ofValue,hm,s]
  unfold Oper.wp;rw [hr];refine(Y w (λp k=>by obtain⟨i,it,_,hi,t,_,_⟩:=u.mem p k;exact t w (hs.hold i it hi))).mono ?_
  rintro e F ⟨g,rfl,hg,l,m⟩;show K (a.put o.dst (val g)) F;rw [Z];have y:Sat N sc env H a F:=hs.chg0 (Chg.of_below l);have c:∀p∈its g,∀b,p.fp b->w.heap.size<=b:=λp k b r=>by
    rcases(m p k).2.2 b r with h|⟨h,_⟩
    . exact h
    . cases h
  refine V g _ _ ⟨hg,λp k b r=>aB z (c p k b r)⟩ (Sat.put (y.adds (w1:=w) (its g) n ?_) d _ W) (Chg.of_below l);intro p k;obtain⟨R,S,h3⟩:=m p k;refine⟨R,S,λb r=>hw b (aB z (c p k b r)),λj D hj B b r v=>?_⟩;have:=D.lt w b (hs.hold j D hj) v;have:=c p k b r;omega
def Zwu(n:Nat)(a:List Nat)(e:Cal P f vs.toArray pre false φ val its){c:G->Hp}[hx:EvI env xs vs][hf:CalF P f][hp:PreL P H false a pre][h0:Som (lk2 H 0) (Yt w0 M0)][hN:TB (ltb d N)][hw:Hw w0 sc][ha:∀g,AddI n (its g) H (c g)] :
    T P N sc M ⟨some d,.call { callee:= .value (.func f),args:=xs.toArray,argTypes:=ats },ty,pos,af,g⟩ env H (λg=>φ g/\∀p∈its g,∀b,p.fp b->w0.heap.size<=b) (λg=>(d,val g)::env) c:=
  (Yfx (n:=n) e rfl rfl (Pq hN.h) hx.h hf.h hp.h h0.l hw.h).conv λg=>(ha g).h
end
theorem hw_up{w0 W:World}(h:Hw w0 sc)(a:w0.heap.size<=W.heap.size):Hw W sc:=⟨λb c=>h.h b (aB a c)⟩
theorem d_min  {y:Operand} {ats:Array TypeId} {k:IntKind} {m n:Int} (b:o.op= .call { callee:= .builtin .min,args:=#[x,y],argTypes:=ats })
    (c:ev env x=some (.int k m)) (e:ev env y=some (.int k n)):Nf P N sc o env H (.int k (min m n)):=λa w hs=>by
  simp [execOp,b,resolve,hs.ev c,hs.ev e,invoke,builtin,Builtin.min_,Builtin.min2];by_cases h:n<m
  . rw [aF h];omega
  . rw [aD h];omega
theorem d_lbw   {t p:TypeId} {i b k:Nat}  (h:o.op= .load t x) (m:ev env x=some (.pointer (some ⟨b,0,none⟩))) (a:lk H i=some (box b p cs)) (j:∀w,(isAgg t).run P w= .ok true w) (c:∀w,(sizeOf t).run P w= .ok k w)
    (e:cs.size=k):Nf P N sc o env H (.agg cs):=by
  have:=Zvt cs.toList (P:=P) (N:=N) (sc:=sc) h m a j c (by simpa using e) (λn u l=>by rw [bP];simpa using l);simpa using this
end Go.Sky
namespace Go.Sky
open Go.Proofs.Tryz
open Go.Proofs
set_option synthInstance.maxHeartbeats 0
set_option synthInstance.maxSize 100000
set_option maxRecDepth 20000
set_option linter.unusedSimpArgs false
variable{p:Zj->Bool}{i id:Nat}{d:Zj}{ops:List Oper}{y x c:Code}{zs:List Zj}
theorem Zbu(fr N e:Int){vx vy vz:Value}(x y z:List Int)(s:Mdh e x y z):Cal prog 78 #[.int .i64 fr,.int .i64 N,.agg #[vx,vy,vz],wv e] [Yg 2 wv vx x,Yg 2 wv vy y,Yg 2 wv vz z] false (G:=SL×SL×SL) (λg=>True) (λg=> .tuple #[.agg #[.int .i64 fr,.int .i64 N,.int .i64 (mdO e (Hj e x y z)),Xw g.1,Xw g.2.1,Xw g.2.2],.bool (decide (e/(Hj e x y z)<=4294967296))]) (λg=>[Yg 1 Zz (Xw g.1) (mdL e (Hj e x y z) x),Yg 1 Zz (Xw g.2.1) (mdL e (Hj e x y z) y),Yg 1 Zz (Xw g.2.2) (mdL e (Hj e x y z) z)]):=by
 refine Zf func78 ntmps78 λw0 sc hw b0=>?_;have ho:=s.o;have Y:=s.b;obtain⟨V,a7,a8⟩:=s.g;have W:bl (Hj e x y z).natAbs<=1000:=s.fc 3 0;have a9:0<=e/(Hj e x y z):=kS (eE ho) (eE V);refine go 2<|Ym (Yj 4) λbx _=>Ym (Yj 5) λa2 _=>Ym (Yd 6) λa3 _=>go 6<|Ym (Yd 7) λF _=>go 11 ?_;refine lp (G:=Nat) [0,1,6,7,8,10,24] [0,1,2,3,4,5,6] (λi=>[(25,.int .i64 (i:Int))]) (λi=>[(7,box F 144 (wc (Mg e (Lh i x y z))))]) (λi=>i<=3) (λi=>3-i) 0 O1 K1 K1 ?_;rintro i hi;have a0:=s.fc i;have a1:=s.l i;refine go 6<|Zc J (λP=>?_) (λP=>?_)
 .refine go 5<|Zl (Zav i 1 2 3 50 J J J J J J)<|go 1 ?_;refine dt (Zle i J J J underlying141 sizeOf140 isAgg140 J)<|go 11 ?_;refine lp (G:=Nat) [0,1,6,7,8,10,24,25,28,29] [0,1,2,3,4,5,6,50] (λk=>[(30,.int .i64 (k:Int))]) (λk=>[(7,box F 144 (wc (Mg (Mg e (Lh i x y z)) ((Zt i x y z).take k))))]) (λk=>k<=(Zt i x y z).length) (λk=>(Zt i x y z).length-k) 0 O1 K1 K1 ?_;rintro k hk;refine go 6<|Zc J (λQ=>?_) (λQ=>?_)
  .refine go 8 ⟨O2,O2,?_⟩;refine Ym (Yd 8) λa4 _=>go 6 ?_;refine cl 8 [] (Zly (Mg (Mg e (Lh i x y z)) ((Zt i x y z).take k)) ((Zt i x y z).getD k 0) (aB (a0 k) O3) (aB (s.s i k) O3)) λ_ _=>?_;refine go 8 ⟨O,?_⟩;exact Yv (k+1) O1 O1 K1 ⟨by rw [Zfr O];rfl,aA⟩
  .obtain rfl:k=(Zt i x y z).length:=O;rw [bM];refine go 10 ⟨O,?_⟩;exact Yv (i+1) O1 O1 K1 ⟨by rw [Zba x y z O,Gf];rfl,aA⟩
 .obtain rfl:i=3:=O;refine go 9 ?_;refine dt (Xv [(0,_),(1,_)] J K4 (λa w hs=>Yjs ((Ze J) a w hs) ((Ze J) a w hs)))<|Ym (Yd 9) λm _=>go 7 ?_;refine cl 9 [] (Zfg e (Hj e x y z) (aB Y O3) (aB W O3) O) λ_ _=>Ym (Yd 10) λa5 _=>go 5<|Qj (λ_=>False) [(0,0),(1,1),(2,1),(3,0)]<|go 1<|Xq (Zs 10 [] (Zn 4294967296 ⟨O3,O3⟩)) λ_ _=>Xq (Zs 10 [] (Zdm (e/(Hj e x y z)) 4294967296 (aB (bl_dlq Y V (eE ho)) O3) O3)) λ_ _=>go 3<|Zc J (λo=>?_) (λo=>?_)
  .have l:¬e/(Hj e x y z)<=4294967296:=Zzy.1 o;refine go 9 ?_;exact Zyq (.inl J) ((none,0,0),(none,0,0),(none,0,0)) fr0 (λa w hs=>Zh9 hs results78 (Hu 6 J J isAgg116 Zaa J) J) (by rw [mdO_f l,aJ l]) aA J (Pj (Ybk l) (Pj (Ybk l) (Pj (Ybk l) Za)))
  .have l:e/(Hj e x y z)<=4294967296:=fO.1 λh=>o (Zzy.2 h);refine go 5 ?_;refine cl 10 [] (Zn4 (e/(Hj e x y z)) O) λ_ _=>go 13 ?_;refine dt (Xv [(0,_),(1,_),(2,_)] J K6 (λa w hs=>Yes ((Ze J) a w hs) ((Ze J) a w hs) ((Ze J) a w hs)))<|go 4 ?_;refine Zl (Ol 9 (q:=box m 116 (C6 (.int .i64 fr) (.int .i64 N) (.int .i64 (e/(Hj e x y z))) (fz []))) (aL (box m 116) (show _=(C6 (.int .i64 fr) (.int .i64 N) (.int .i64 (e/(Hj e x y z))) (fz []))from J)) J J)<|Zl (Ye qC 71)<|lp (G:=Nat×List (SL×List Int)) [6,8,10,15,59] [0,7,1,2,3,4,5,6,10] (λq=>[(60,.int .i64 (q.1:Int))]) (λq=>[(9,box m 116 (C6 (.int .i64 fr) (.int .i64 N) (.int .i64 (e/(Hj e x y z))) (fz q.2))),(71,Im qC q.2)]) (λq=>(q.1<=3)/\(q.2.length=q.1)/\(∀t,t<q.1->(q.2.getD t Z0).2=Fz (Zt t x y z) (Hj e x y z))/\(∀z∈q.2,∀b,(Xw z.1).ownBlock=some b->w0.heap.size<=b)) (λq=>3-q.1) (0,[]) ⟨O1,rfl,λt Z=>absurd Z (cN t),λz hz=>nomatch hz⟩ K1 K2 ?_;rintro⟨i,zs⟩ ⟨hi,n,B,u⟩;dsimp only at hi n B u;dsimp only;have a1:=s.l i;refine go 6<|Zc J (λR=>?_) (λR=>?_)
   .refine go 7 ?_;refine dt (Zy ( .pointer (some ⟨m,3+i,none⟩)) (Zle i J J J underlying214 sizeOf213 isAgg213 J) (p3_sel O))<|go 6 ?_;refine Zl (Zav i 1 2 3 52 J J J J J J)<|Zl (Nn 60 1 3 Zz)<|go 2 ?_;refine dt (Ir i J J J underlying141 sizeOf140 J)<|dt (Zx9 4 J J J isAgg140 (c3_get O))<|go 5 ?_;refine lp (G:=Nat×Value) [6,8,10,15,18,59,60,66,67] [0,71,7,1,2,3,4,5,6,10,52] (λq=>[(68,.int .i64 (q.1:Int))]) (λq=>[(9,box m 116 (C6 (.int .i64 fr) (.int .i64 N) (.int .i64 (e/(Hj e x y z))) (upd (fz zs) i q.2))),(60,Pt 1 3 Zz q.2 (((Zt i x y z).take q.1).map (· / (Hj e x y z))))]) (λq=>q.1<=(Zt i x y z).length) (λq=>(Zt i x y z).length-q.1) (0,_) O1 K1 ⟨by rw [Zs3 (λj _=>fz_upd n j)];rfl,by rw [dY];rfl,aA⟩ ?_;rintro⟨k,vr⟩ hk;dsimp only at hk;dsimp only;refine go 6<|Zc J (λS=>?_) (λS=>?_)
    .refine go 8 ⟨O2,O2,?_⟩;refine Ym (Yd 11) λa6 _=>go 7 ?_;refine cl 11 [] (Zfg ((Zt i x y z).getD k 0) (Hj e x y z) (aB (s.s i k) O3) (aB W O3) O) λ_ _=>cl 11 [] (Zn4 ((Zt i x y z).getD k 0/(Hj e x y z)) (s.fit l O k)) λ_ _=>go 11 ?_;refine dt (Zx9 9 J J J isAgg25 (Yeg O))<|go 1 ?_;refine tt (Xm [(0,_)] 12 (enc:=Zz) ([(Zt i x y z).getD k 0/(Hj e x y z)]:List Int) J J K2 Nr ti3 J J J J J pZ.cells J J hw.h) (λv _=>?_);refine tt (Lc 60 12 8 J J J J J J O3 J (Yc pZ) Nr ti3 J pZ J J J O8 O3 J hw.h) λb1 _=>go 1 ?_;refine tt (t_st6 9 i J J J J J O3 sizeOf25 O (Qm 60 J (Yc pZ)) J hw.h aA) (λ_ _=>?_);refine go 7 ⟨O,?_⟩;exact Yv (k+1,_) O1 O1 K1 ⟨J,by rw [<-Ybm O];rfl,aA⟩
    .obtain rfl:k=(Zt i x y z).length:=O;rw [bM];refine go 9 ?_;refine dt (Zx9 9 J J J isAgg25 (Yeg O))<|go 4 ?_;refine Zc J (λr=>?_) (λr=>?_)
     .have H:(Zt i x y z).length=0:=by simpa using r
      refine go 2 ?_;refine tt (Xm [(0,_)] 13 (enc:=Zz) ([0]:List Int) J J K2 Nr ti3 J J J J J pZ.cells J J hw.h) λb2 _=>go 1 ?_;refine tt (t_st6 9 i J J J J J O3 sizeOf25 O (Qm 13 J (Yc pZ)) J hw.h aA) (λ_ _=>?_);refine go 7 ⟨O,?_⟩;refine Zyp (f_new 13 J J J) (λI=>?_);refine Zr (Xj 13 J J pZ)<|Ae (Xl 13 J Zh) (λD M=>?_);subst M;exact Zr (Ol 13 (q:=Yg 1 Zz (Xw D) (Fz (Zt i x y z) (Hj e x y z))) (aL (Yg 1 Zz (Xw D)) (dvL_0 H).symm) J J)<|Zr (Zd (q:=qC) (z:=(D,Fz (Zt i x y z) (Hj e x y z))) 71 13 71 J J J J J)<|Yv (i+1,zs ++ [(D,Fz (Zt i x y z) (Hj e x y z))]) ⟨O1,by rw [aS,n];rfl,λt Z=>Zpn (f:=λt=>Fz (Zt t x y z) (Hj e x y z)) n B rfl Z,Ycq u I⟩ O1 K1 ⟨by rw [Zs3 (λj _=>Zu7 (c:=Fz (Zt i x y z) (Hj e x y z)) n j)];rfl,rfl,aA⟩
     .have H:(Zt i x y z).length≠0:=by simpa using r
      refine go 7 ⟨O,?_⟩;refine Zyp (f_new 60 J J J) (λI=>?_);refine Zr (Xj 60 J J pZ)<|Ae (Xl 60 J Zh) (λD M=>?_);subst M;exact Zr (Ol 60 (q:=Yg 1 Zz (Xw D) (Fz (Zt i x y z) (Hj e x y z))) (aL (Yg 1 Zz (Xw D)) (dvL_n H).symm) J J)<|Zr (Zd (q:=qC) (z:=(D,Fz (Zt i x y z) (Hj e x y z))) 71 60 71 J J J J J)<|Yv (i+1,zs ++ [(D,Fz (Zt i x y z) (Hj e x y z))]) ⟨O1,by rw [aS,n];rfl,λt Z=>Zpn (f:=λt=>Fz (Zt t x y z) (Hj e x y z)) n B rfl Z,Ycq u I⟩ O1 K1 ⟨by rw [Zs3 (λj _=>Zu7 (c:=Fz (Zt i x y z) (Hj e x y z)) n j)];rfl,rfl,aA⟩
   .obtain rfl:i=3:=O;refine go 6 ?_;obtain⟨s1,s2,s3,rfl⟩:=mds_of n B;refine Zl (Zcy (q:=qC) 71 81 (s1,Fz x (Hj e x y z)) J J O7 J)<|Zl (Ol 81 (q:=Yg 1 Zz (Xw s1) (mdL e (Hj e x y z) x)) (aL (Yg 1 Zz (Xw s1)) (Zk4 l).symm) J J)<|Zl (Zcy (q:=qC) 71 82 (s2,Fz y (Hj e x y z)) J J O7 J)<|Zl (Ol 82 (q:=Yg 1 Zz (Xw s2) (mdL e (Hj e x y z) y)) (aL (Yg 1 Zz (Xw s2)) (Zk4 l).symm) J J)<|Zl (Zcy (q:=qC) 71 83 (s3,Fz z (Hj e x y z)) J J O7 J)<|Zl (Ol 83 (q:=Yg 1 Zz (Xw s3) (mdL e (Hj e x y z) z)) (aL (Yg 1 Zz (Xw s3)) (Zk4 l).symm) J J)<|Zl (Ol 9 (q:=box m 116 #[.int .i64 fr,.int .i64 N,.int .i64 (e/(Hj e x y z)),Xw s1,Xw s2,Xw s3]) J J J)<|go 7 ?_;exact Zyq (.inl J) (s1,s2,s3) (fr3 u) (λa w hs=>Zh9 hs results78 (Hu 6 J J isAgg116 Zaa J) J) (by rw [mdO_t l,aN l]) aA J (Ig 81 J J J (Ig 82 J J J (Ig 83 J J J Za)))
abbrev Ca:=(Int×Int×Int)×List Int×List Int×List Int
def Mb(g:Zj):Ca:=(g.1,g.2.1.2,g.2.2.1.2,g.2.2.2.2)
abbrev cA (fr:Int) (g:Zj):Int:=max fr g.1.1
abbrev cB (a:Int) (g:Zj):Int:=min a g.1.2.1
abbrev cX (fr a:Int) (g:Zj) (c:List Int):List Int:=Oa c (cA fr g-g.1.1) (cB a g-cA fr g) (g.1.2.1-g.1.1)
abbrev cO (g:Zj):Int:=g.1.2.2*(g.1.2.1-g.1.1)^5
def cG(fr a:Int)(g:Zj):Int:=Hj (cO g) (cX fr a g g.2.1.2) (cX fr a g g.2.2.1.2) (cX fr a g g.2.2.2.2)
def Kg(fr a:Int)(g:Zj):Bool:=decide (cA fr g<cB a g)
def Zfv(fr a:Int)(g:Zj):Bool:=decide (cO g/cG fr a g<=4294967296)
def Ydy(fr a:Int)(g:Zj):Ca:=((cA fr g,cB a g,mdO (cO g) (cG fr a g)),mdL (cO g) (cG fr a g) (cX fr a g g.2.1.2),mdL (cO g) (cG fr a g) (cX fr a g g.2.2.1.2),mdL (cO g) (cG fr a g) (cX fr a g g.2.2.2.2))
def MdG(fr a:Int)(g:Zj):Prop:=Mdh (cO g) (cX fr a g g.2.1.2) (cX fr a g g.2.2.1.2) (cX fr a g g.2.2.2.2)
theorem fl_get{ps:List Zj}(hi:i<ps.length)(b:p (ps.getD i d)=true):(ps.filter p)[((ps.take i).filter p).length]? = some (ps.getD i d):=by
 have h:=fC i ps;have a:ps.drop i=ps.getD i d::ps.drop (i+1):=by rw [aC,aH hi,eI];exact dP hi
 conv=>lhs;arg 1;rw [<-h,a]
 rw [fI,eO b];simp
theorem fl_t{ps:List Zj}(hi:i<ps.length)(a:p (ps.getD i d)=true):((ps.take (i+1)).filter p).length=((ps.take i).filter p).length+1:=by rw [Qb d _ hi,fI,eO a,aS];rfl
theorem fl_f{ps:List Zj}(hi:i<ps.length)(a:p (ps.getD i d)=false):((ps.take (i+1)).filter p).length=((ps.take i).filter p).length:=by rw [Qb d _ hi,fI,fZ (by rw [a];exact dG),aS];rfl
def Zku{d:Int}(h:1<=d/\d<=3600000):bl (d^5).natAbs<=132:=Zli (Zjo O) 5 (aK _)
theorem Ydx{W:Nat}{H:Hp}{j k l:SL}{f g l3:List Int}(h:∀p∈[Yg 1 Zz (Xw j) f,Yg 1 Zz (Xw k) g,Yg 1 Zz (Xw l) l3],∀b,p.fp b->W<=b)(i:Nat)(n:lk H i=some (Yg 1 Zz (Xw j) f))(o:lk H (i+1)=some (Yg 1 Zz (Xw k) g))(q:lk H (i+2)=some (Yg 1 Zz (Xw l) l3)) :
  ∀p∈[Yg 1 Zz (Xw j) f,Yg 1 Zz (Xw k) g,Yg 1 Zz (Xw l) l3],p.own=false/\(∀b,p.fp b->W<=b)/\∃i m,lk H i=some m/\∀w,m.holds w->p.holds w:=λp e=>by
 have a:=h p e;simp only [bG,dU,iD]at e;rcases e with rfl|rfl|rfl
 .exact⟨rfl,a,_,_,n,λ_ h=>h⟩
 .exact⟨rfl,a,_,_,o,λ_ h=>h⟩
 .exact⟨rfl,a,_,_,q,λ_ h=>h⟩
theorem cut_b{fr b:Int}{g:Zj}(a:SgG g)(h:Kg fr b g=true):(cA fr g-g.1.1).natAbs<=3600000/\(cB b g-cA fr g).natAbs<=3600000/\Me (cA fr g-g.1.1)/\Me (cB b g-cA fr g):=by have k:=bT h;have e:=a.t1;have f:=a.t2;have j:=a.t3;unfold cA cB at *;exact⟨O,O,⟨O,O⟩,⟨O,O⟩⟩
theorem Zw0(v:Value)(ps:List Zj)(Q R S:Nat)(fr a:Int)(I:∀g∈ps,SgG g)(hM:∀g∈ps,Kg fr a g=true->MdG fr a g):Yjv prog 385 [.pointer (some ⟨Q,0,none⟩),.pointer (some ⟨R,0,none⟩),.pointer (some ⟨S,0,none⟩)] [Ke Q 36 #[v],Ke R 3 #[.int .i64 fr],Ke S 3 #[.int .i64 a],Qh 6 Qu qG v ps] (α:=Zj) (G:=SL×SL×SL) (ps.filter (Kg fr a)) (λc g=>[.agg #[.int .i64 (cA fr c),.int .i64 (cB a c),.int .i64 (mdO (cO c) (cG fr a c)),Xw g.1,Xw g.2.1,Xw g.2.2],.bool (Zfv fr a c)]) (λc g=>[Yg 1 Zz (Xw g.1) (mdL (cO c) (cG fr a c) (cX fr a c c.2.1.2)),Yg 1 Zz (Xw g.2.1) (mdL (cO c) (cG fr a c) (cX fr a c c.2.2.1.2)),Yg 1 Zz (Xw g.2.2) (mdL (cO c) (cG fr a c) (cX fr a c c.2.2.2.2))]):=by
 refine Zv9 func385 J ntmps385 J K4 ?_;intro l M JI Jx w0 sc hw w t k F hY;simp only [Qd,Yr];have N:=Hw.mk hw;refine Qf (Py (i:=4) J Zp) λa3=>go 8 ?_;refine lp (G:=Nat×World) [0,2,3,12,13] [1,2,3,4] (λq=>[(14,.int .i64 (q.1:Int))]) (λq=>[(0,Yt q.2 (λ_=>False))]) (λq=>(q.1<=ps.length)/\(JI ((ps.take q.1).filter (Kg fr a)).length q.2)/\(w0.heap.size<=q.2.heap.size)) (λq=>ps.length-q.1) (0,w0) ⟨O1,F,aK _⟩ K1 K1 ?_;rintro⟨i,W⟩ ⟨hi,r,D⟩;dsimp only at hi r D;dsimp only;have d2:=hw_up N D;refine go 6<|Zc J (λn=>?_) (λn=>?_)
 .refine go 5 ?_;have f:=I _ (Zk (d:=G0) (show i<ps.length by omega));have c9:=f.t1;have d0:=f.t2;have d1:=f.t3;have c2:=f.o1;have H:=f.o2;refine Zl (Ny (ps.getD i G0) ((ps.getD i G0).2.1) 4 51 J J Zk O7)<|Zl (Ny (ps.getD i G0) ((ps.getD i G0).2.2.1) 4 52 J J Zk O7)<|Zl (Ny (ps.getD i G0) ((ps.getD i G0).2.2.2) 4 53 J J Zk O7)<|go 2 ⟨O2,?_⟩;refine dt (Po 4 G0 J J J Zp pG O2)<|Ym (Yd 5) λbx _=>go 4 ?_;refine Qj (λ_=>False) [(0,0),(1,0),(2,0),(3,0),(4,0),(5,0),(6,0),(7,0),(8,0),(9,3)]<|go 3 ?_;refine Xp J J (Qv (Zgh J J J))<|go 3 ?_;refine Xp J J (Qv (d_min J J J))<|go 12 ?_;refine Zc J (λo=>?_) (λo=>?_)
  .have j:Kg fr a (ps.getD i G0)=false:=aJ (by unfold cA cB;omega);refine go 8 ⟨O,?_⟩;exact Yv (i+1,W) ⟨O1,by rw [fl_f O j];exact r,D⟩ O1 K1 K1
  .have j:Kg fr a (ps.getD i G0)=true:=aN (by unfold cA cB;omega);have h:=hM _ (Zk (d:=G0) (show i<ps.length by omega)) j;obtain⟨z,B,c7,c8⟩:=cut_b f j;refine go 12 ⟨O,?_⟩;refine jn (G:=SL×SL×SL×Nat) [0,2,3,12,13,14] [0,1,2,3,4,51,52,53,5] (λq=>[(10,.pointer (some ⟨q.2.2.2,0,none⟩)),(11,.bool (Zfv fr a (ps.getD i G0)))]) (λq=>[(90,Yg 1 Zz (Xw q.1) (mdL (cO (ps.getD i G0)) (cG fr a (ps.getD i G0)) (cX fr a (ps.getD i G0) (ps.getD i G0).2.1.2))),(91,Yg 1 Zz (Xw q.2.1) (mdL (cO (ps.getD i G0)) (cG fr a (ps.getD i G0)) (cX fr a (ps.getD i G0) (ps.getD i G0).2.2.1.2))),(92,Yg 1 Zz (Xw q.2.2.1) (mdL (cO (ps.getD i G0)) (cG fr a (ps.getD i G0)) (cX fr a (ps.getD i G0) (ps.getD i G0).2.2.2.2))),(93,box q.2.2.2 116 #[.int .i64 (cA fr (ps.getD i G0)),.int .i64 (cB a (ps.getD i G0)),.int .i64 (mdO (cO (ps.getD i G0)) (cG fr a (ps.getD i G0))),Xw q.1,Xw q.2.1,Xw q.2.2.1])]) (λq=>(∀p∈[Yg 1 Zz (Xw q.1) (mdL (cO (ps.getD i G0)) (cG fr a (ps.getD i G0)) (cX fr a (ps.getD i G0) (ps.getD i G0).2.1.2)),Yg 1 Zz (Xw q.2.1) (mdL (cO (ps.getD i G0)) (cG fr a (ps.getD i G0)) (cX fr a (ps.getD i G0) (ps.getD i G0).2.2.1.2)),Yg 1 Zz (Xw q.2.2.1) (mdL (cO (ps.getD i G0)) (cG fr a (ps.getD i G0)) (cX fr a (ps.getD i G0) (ps.getD i G0).2.2.2.2))],∀b,p.fp b->W.heap.size<=b)) ?_ ?_
   .refine Oj [5] [24]<|Ya 11 [(0,0),(1,0),(2,0),(3,0),(4,0),(5,0),(6,0),(7,0),(8,0),(9,0),(10,0),(12,0),(13,0),(15,0)]<|go 15 ⟨O,O,?_⟩;refine Ml 10 11 22 ?_ ?_
    .refine Hh (Zs 6 [51,52,53] (Zf5 ((cA fr (ps.getD i G0))-(ps.getD i G0).1.1) ((cB a (ps.getD i G0))-(cA fr (ps.getD i G0))) ((ps.getD i G0).1.2.1-(ps.getD i G0).1.1) f z B ⟨O,O⟩)) λ⟨s,d3,d4⟩ _=>?_;refine Ml 9 14 22 ?_ ?_
     .refine Hh (Zs 8 [] (Zn (ps.getD i G0).1.2.2)) λ_ _=>?_;refine Ml 8 16 22 ?_ ?_
      .refine Hh (Zs 8 [] (He ((ps.getD i G0).1.2.1-(ps.getD i G0).1.1) 5 (aB (Zjo O) O3) O3 O3)) λ_ _=>?_;refine Ml 7 17 22 ?_ ?_
       .refine Hh (Zs 8 [] (Dn (ps.getD i G0).1.2.2 (((ps.getD i G0).1.2.1-(ps.getD i G0).1.1)^5) (aB (Ek ⟨O,O⟩) O3) (aB (Zku ⟨O,O⟩) O3))) λ_ _=>?_;refine Ml 6 18 22 ?_ ?_
        .refine Hh (Zwu 90 [6,7,8] (Zbu (cA fr (ps.getD i G0)) (cB a (ps.getD i G0)) (cO (ps.getD i G0)) (cX fr a (ps.getD i G0) (ps.getD i G0).2.1.2) (cX fr a (ps.getD i G0) (ps.getD i G0).2.2.1.2) (cX fr a (ps.getD i G0) (ps.getD i G0).2.2.2.2) h)) λ⟨d5,d6,d7⟩ ⟨_,e⟩=>?_;refine Ya 0 [(19,0),(20,0),(21,0),(22,1),(23,1),(24,3)]<|go 3 ?_;refine Xq (Ii 93) λV ho=>go 3<|Yu ?_;exact Hd (_,_,_,_) e K2 K4
        .refine Hh (Ii 93) λY H=>?_;refine Ya 0 [(18,1),(19,0),(20,0),(21,0),(23,1),(24,3)]<|Xq (Zwu 90 [6,7,8] (Zbu (cA fr (ps.getD i G0)) (cB a (ps.getD i G0)) (cO (ps.getD i G0)) (cX fr a (ps.getD i G0) (ps.getD i G0).2.1.2) (cX fr a (ps.getD i G0) (ps.getD i G0).2.2.1.2) (cX fr a (ps.getD i G0) (ps.getD i G0).2.2.2.2) h)) λ⟨d8,d9,e0⟩ ⟨_,e⟩=>go 6 ?_;exact Yu<|Hd (_,_,_,_) e K2 K4
       .refine Hh (Ii 93) λZ c3=>?_;refine Ya 0 [(17,1),(18,1),(19,0),(20,0),(21,0),(23,1),(24,3)]<|Xq (Zs 8 [] (Dn (ps.getD i G0).1.2.2 (((ps.getD i G0).1.2.1-(ps.getD i G0).1.1)^5) (aB (Ek ⟨O,O⟩) O3) (aB (Zku ⟨O,O⟩) O3))) λ_ _=>Xq (Zwu 90 [6,7,8] (Zbu (cA fr (ps.getD i G0)) (cB a (ps.getD i G0)) (cO (ps.getD i G0)) (cX fr a (ps.getD i G0) (ps.getD i G0).2.1.2) (cX fr a (ps.getD i G0) (ps.getD i G0).2.2.1.2) (cX fr a (ps.getD i G0) (ps.getD i G0).2.2.2.2) h)) λ⟨a4,a5,a6⟩ ⟨_,e⟩=>go 6 ?_;exact Yu<|Hd (_,_,_,_) e K2 K4
      .refine Hh (Ii 93) λa0 c4=>?_;refine Ya 0 [(16,1),(17,1),(18,1),(19,0),(20,0),(21,0),(23,1),(24,3)]<|Xq (Zs 8 [] (He ((ps.getD i G0).1.2.1-(ps.getD i G0).1.1) 5 (aB (Zjo O) O3) O3 O3)) λ_ _=>Xq (Zs 8 [] (Dn (ps.getD i G0).1.2.2 (((ps.getD i G0).1.2.1-(ps.getD i G0).1.1)^5) (aB (Ek ⟨O,O⟩) O3) (aB (Zku ⟨O,O⟩) O3))) λ_ _=>Xq (Zwu 90 [6,7,8] (Zbu (cA fr (ps.getD i G0)) (cB a (ps.getD i G0)) (cO (ps.getD i G0)) (cX fr a (ps.getD i G0) (ps.getD i G0).2.1.2) (cX fr a (ps.getD i G0) (ps.getD i G0).2.2.1.2) (cX fr a (ps.getD i G0) (ps.getD i G0).2.2.2.2) h)) λ⟨a7,a8,a9⟩ ⟨_,e⟩=>go 6 ?_;exact Yu<|Hd (_,_,_,_) e K2 K4
     .refine Hh (Ii 93) λa1 c5=>?_;refine Ya 0 [(14,1),(16,1),(17,1),(18,1),(19,0),(20,0),(21,0),(23,1),(24,3)]<|Xq (Zs 8 [] (Zn (ps.getD i G0).1.2.2)) λ_ _=>Xq (Zs 8 [] (He ((ps.getD i G0).1.2.1-(ps.getD i G0).1.1) 5 (aB (Zjo O) O3) O3 O3)) λ_ _=>Xq (Zs 8 [] (Dn (ps.getD i G0).1.2.2 (((ps.getD i G0).1.2.1-(ps.getD i G0).1.1)^5) (aB (Ek ⟨O,O⟩) O3) (aB (Zku ⟨O,O⟩) O3))) λ_ _=>Xq (Zwu 90 [6,7,8] (Zbu (cA fr (ps.getD i G0)) (cB a (ps.getD i G0)) (cO (ps.getD i G0)) (cX fr a (ps.getD i G0) (ps.getD i G0).2.1.2) (cX fr a (ps.getD i G0) (ps.getD i G0).2.2.1.2) (cX fr a (ps.getD i G0) (ps.getD i G0).2.2.2.2) h)) λ⟨b0,b4,b5⟩ ⟨_,e⟩=>go 6 ?_;exact Yu<|Hd (_,_,_,_) e K2 K4
    .refine Hh (Ii 93) λa2 c6=>?_;refine Ya 0 [(11,1),(14,1),(16,1),(17,1),(18,1),(19,0),(20,0),(21,0),(23,1),(24,3)]<|Xq (Zs 9 [51,52,53] (Zf5 ((cA fr (ps.getD i G0))-(ps.getD i G0).1.1) ((cB a (ps.getD i G0))-(cA fr (ps.getD i G0))) ((ps.getD i G0).1.2.1-(ps.getD i G0).1.1) f z B ⟨O,O⟩)) λ⟨b6,b7,b8⟩ _=>Xq (Zs 11 [] (Zn (ps.getD i G0).1.2.2)) λ_ _=>Xq (Zs 11 [] (He ((ps.getD i G0).1.2.1-(ps.getD i G0).1.1) 5 (aB (Zjo O) O3) O3 O3)) λ_ _=>Xq (Zs 11 [] (Dn (ps.getD i G0).1.2.2 (((ps.getD i G0).1.2.1-(ps.getD i G0).1.1)^5) (aB (Ek ⟨O,O⟩) O3) (aB (Zku ⟨O,O⟩) O3))) λ_ _=>Xq (Zwu 90 [9,10,11] (Zbu (cA fr (ps.getD i G0)) (cB a (ps.getD i G0)) (cO (ps.getD i G0)) (cX fr a (ps.getD i G0) (ps.getD i G0).2.1.2) (cX fr a (ps.getD i G0) (ps.getD i G0).2.2.1.2) (cX fr a (ps.getD i G0) (ps.getD i G0).2.2.2.2) h)) λ⟨b9,c0,c1⟩ ⟨_,e⟩=>go 6 ?_;exact Yu<|Hd (_,_,_,_) e K2 K4
   .rintro⟨s1,s2,s3,bj⟩ e;dsimp only at e;dsimp only;refine go 1<|Ydb ?_;refine Ms (Zak J J) J<|Ms (d_lbw (i:=93) J J J isAgg116 Zaa J) J<|Ms (Zak J J) J<|Ybz [_,_,_,_] (vs:=[_,_]) (ps.getD i G0) (s1,s2,s3) hY (fl_get O j) r D w J J J J J K2 J J (Ydx e 90 J J J) K4 K4 (λP m u=>?_) (λP m u=>?_)
    .simp only [Yr];refine Ms (dF (Xi J J) J) J<|Cz<|go 9 ⟨O,?_⟩;exact Yv (i+1,P) ⟨O1,by rw [fl_t O j];exact m,u⟩ O1 K1 K1
    .simp only [Yr];refine Ms (dT (Xi J J) J) J<|Cz<|go 7 ?_;exact Zcq (.inl J) J J t k (.inr m)
 .obtain rfl:i=ps.length:=O;rw [bM]at r;exact go 4<|Zcq (.inr J) J J t k (.inl r)
open Go.RowKit Below
variable {P:Program} {N:Nat} {sc:Nat->Prop} {env env':Xz} {H H':Hp} {Q Q':Exit->Act->World->Prop} {l:Nat}
def ER(P:Program)(N:Nat)(sc:Nat->Prop)(l:Nat)(c:Code)(Q:Exit->Act->World->Prop)(env:Xz)(H:Hp):Prop:=
 ∀a w,Sat N sc env H a w->c.wpIn (Fence.wide.inRound l) 0 P Q a w
def ndB(o:Oper):Bool:=match o.op with
 | .defer _=>false
 | _=>true
theorem Zk0(h:ops.all ndB=true):Zmk ops:=λo b c a=>by have:=bW.1 h o b;unfold ndB at this;rw [a]at this;cases this
def Zna(b:ops.all ndB=true)(h:L P N sc ops.toArray ops (Gu (Exit.then (λa w=>y.wpIn (Fence.wide.inRound l) 0 P Q a w) Q)) env H):ER P N sc l (.seq (.region id ops.toArray false) y) Q env H:=
 λa w hs=>wpIn_seq (Yap (Zk0 b) h hs)
def Zvg(b:ops.all ndB=true)(h:L P N sc ops.toArray ops (Gu Q) env H):ER P N sc l (.region id ops.toArray false) Q env H:=
 λa w hs=>Yap (Zk0 b) h hs
def Yff(h:ER P N sc l y Q env H):X N sc .normal (Gu (Exit.then (λa w=>y.wpIn (Fence.wide.inRound l) 0 P Q a w) Q)) env H:=λa w hs=>h a w hs
def Yfg(h:∀a w,Sat N sc env H a w->Q .normal a w):X N sc .normal (Gu Q) env H:=λa w hs=>h a w hs
def er_seq(h:ER P N sc l x (Exit.then (λa w=>y.wpIn (Fence.wide.inRound l) 0 P Q a w) Q) env H):ER P N sc l (.seq x y) Q env H:=λa w hs=>wpIn_seq (h a w hs)
def Zqd(h:ER P N sc l c (Exit.inBlock id Q) env H):ER P N sc l (.block id c) Q env H:=λa w hs=>wpIn_block (h a w hs)
theorem Yc6{c:Operand}{b:Bool}(e:ev env c=some (.bool b))(g:b=true->ER P N sc l x Q env H)(f:b=false->ER P N sc l y Q env H):ER P N sc l (.cond c x y) Q env H:=λa w hs=>by
 cases b with
 | true=>exact wpIn_cond_true (hs.ev e) (g rfl a w hs)
 | false=>exact wpIn_cond_false (hs.ev e) (f rfl a w hs)
def Zvf(h:∀a w,Sat N sc env H a w->Q .normal a w):ER P N sc l .skip Q env H:=λa w hs=>wpIn_skip (h a w hs)
def Yc4(h:∀a w,Sat N sc env H a w->Q .ret a w):ER P N sc l .ret Q env H:=λa w hs=>wpIn_ret (h a w hs)
def Yc5(b:∀a w,Sat N sc env H a w->Sat N sc env' H' a w)(h:ER P N sc l c Q env' H'):ER P N sc l c Q env H:=λa w hs=>h a w (b a w hs)
theorem Hs{β:Type}(i k:Nat)(enc:β->Value)(q:β->Pc):∀a w,Sat N sc env H a w->Sat N sc env ((i,Qh k enc q (.slice none 0 0) [])::H) a w:=λa w hs=>
 hs.add i _ ⟨Br k enc w,λz f=>by cases f⟩ (λh j _ _ Lj b e g=>by
  rcases e with e|⟨z,f,_⟩
  .exact absurd rfl e.1
  .cases f) (λb e=>by
  rcases e with e|⟨z,f,_⟩
  .exact absurd rfl e.1
  .cases f)
theorem Ycs{a:Hp}{g:Zj}(i j:Nat)(h:lk a i=some (Im qG zs))(k:lk a j=some (Yg 1 Zz (Xw g.2.1.1) g.2.1.2))(m:lk a (j+1)=some (Yg 1 Zz (Xw g.2.2.1.1) g.2.2.1.2))(n:lk a (j+2)=some (Yg 1 Zz (Xw g.2.2.2.1) g.2.2.2.2)) :
  ∀b,(Im qG (zs ++ [g])).fp b->∃j q,lk a j=some q/\q.fp b:=λb ⟨z,o,e⟩=>by
 rcases cS.1 o with q|q
 .exact⟨i,_,h,z,q,e⟩
 .rw [bZ.1 q]at e;obtain⟨c,f,e⟩:=e;simp only [bG,dU,iD]at f;rcases f with rfl|rfl|rfl
  .exact⟨j,_,k,e⟩
  .exact⟨j+1,_,m,e⟩
  .exact⟨j+2,_,n,e⟩
end Go.Sky
namespace Go.Sky
variable{zs:List Zj}{x y:Operand}{v:Value}{r:List Value}{xs:List Int}{b c off:Nat}{w0 w:World}{M0:Nat->Prop}{a:Act}{o:Oper}{t tb:TypeId}{kd:IntKind}{m:Int}
theorem Zbc{k l n p q s d e f g h j:Value}:Instr.fill (λi=>some (i*6,6)) ((List.range (1*6)).map ((Value.agg #[k,l,n,p,q,s]).cells[· % (Value.agg #[k,l,n,p,q,s]).cells.size]!)).toArray [(0,.agg #[d,e,f,g,h,j])]=some #[d,e,f,g,h,j]:=by
 simp [Instr.fill,Value.cells,List.range,List.range.loop]
 try rfl
def Pn(fr d:Int)(ps:List Zj):Bool:=(ps.filter (Kg fr d)).all (Zfv fr d)
def Zce(fr d:Int)(ps:List Zj):List Ca:=if Pn fr d ps=true then(ps.filter (Kg fr d)).map (Ydy fr d)else []
def Zst(fr d:Int)(ps:List Zj):Int:=if Pn fr d ps=true then 0 else 7
def Zrr(fr d:Int)(x:Zj)(g:SL×SL×SL):Zj:=((cA fr x,cB d x,mdO (cO x) (cG fr d x)),(g.1,mdL (cO x) (cG fr d x) (cX fr d x x.2.1.2)),(g.2.1,mdL (cO x) (cG fr d x) (cX fr d x x.2.2.1.2)),(g.2.2,mdL (cO x) (cG fr d x) (cX fr d x x.2.2.2.2)))
def Zya(fr d:Int)(ps:List Zj)(k:Nat)(zs:List Zj):Prop:=zs.map Mb=((ps.filter (Kg fr d)).take k).map (Ydy fr d)/\((ps.filter (Kg fr d)).take k).all (Zfv fr d)=true
theorem Zlu{α:Type}{xs:List α}{k:Nat}{x:α}(h:xs[k]? = some x):xs.take (k+1)=xs.take k ++ [x]:=by rw [List.take_add_one,h];rfl
theorem cutI_0(fr d:Int)(ps:List Zj):Zya fr d ps 0 []:=⟨by rw [dY];rfl,by rw [dY];rfl⟩
theorem cutI_s{fr d:Int}{ps:List Zj}{k:Nat}{x:Zj}{g:SL×SL×SL}(h:Zya fr d ps k zs)(e:(ps.filter (Kg fr d))[k]? = some x)(j:Zfv fr d x=true):Zya fr d ps (k+1) (zs ++ [Zrr fr d x g]):=by
 obtain⟨f,i⟩:=h;refine⟨?_,?_⟩
 .rw [Zlu e,cE,cE,f];rfl
 .rw [Zlu e,List.all_append,i];simp [j]
theorem cutI_l{fr d:Int}{ps:List Zj}{k:Nat}(h:Zya fr d ps k zs)(e:k<=ps.length):zs.length<=ps.length:=by have:=aL List.length h.1;rw [aQ,aQ,aU]at this;have:=kC (Kg fr d) ps;omega
theorem cut_no{fr d:Int}{ps:List Zj}{k:Nat}{x:Zj}(f:(ps.filter (Kg fr d))[k]? = some x)(e:Zfv fr d x=false):Pn fr d ps=false:=by
 unfold Pn;cases hb:(ps.filter (Kg fr d)).all (Zfv fr d)with
 | false=>rfl
 | true=>
  have:=bW.1 hb x (kQ f);rw [e]at this;cases this
theorem cutI_e{fr d:Int}{ps:List Zj}(h:Zya fr d ps (ps.filter (Kg fr d)).length zs):zs.map Mb=Zce fr d ps/\Zst fr d ps=0:=by obtain⟨f,e⟩:=h;rw [bM]at f e;exact⟨by unfold Zce Pn;rw [aF e];exact f,by unfold Zst Pn;rw [aF e]⟩
theorem cut_f{fr d:Int}{ps:List Zj}(h:Pn fr d ps=false):([]:List Zj).map Mb=Zce fr d ps/\Zst fr d ps=7:=by unfold Zce Zst;rw [aD (by rw [h];exact dG),aD (by rw [h];exact dG)];exact⟨rfl,rfl⟩
def spF(ps:List Zj):Int:=(ps.getD 0 G0).1.1
def spL(ps:List Zj):Int:=(ps.getD (ps.length-1) G0).1.2.1
open Go.Proofs.Tryz
open Go.Proofs
set_option synthInstance.maxHeartbeats 0
set_option synthInstance.maxSize 100000
set_option maxRecDepth 20000
set_option linter.unusedSimpArgs false
theorem Zzp{ps:List Zj}{fr i:Int}:Cal prog 354 #[v,.int .i64 fr,.int .i64 i] [Qh 6 Qu qG v ps] true (G:=Nat×Nat×Nat) (λg=>True) (λg=> .func (.func 385) #[] #[.pointer (some ⟨g.1,0,none⟩),.pointer (some ⟨g.2.1,0,none⟩),.pointer (some ⟨g.2.2,0,none⟩)]) (λg=>[Ke g.1 36 #[v],Ke g.2.1 3 #[.int .i64 fr],Ke g.2.2 3 #[.int .i64 i]]):=by refine Zf func354 ntmps354 λw0 l k d=>?_;refine Zqe (Xl 1 J Zp) (λn e=>?_);subst e;refine go 2<|Ym (Yj 2) λj _=>Ym (Yj 3) λf _=>Ym (Yj 4) λh _=>go 5 ?_;refine dt (Zvs [] [_,_,_] J aA K3)<|go 4 ?_;exact Zr (Zfh 2 J J)<|Zr (Zfh 3 J J)<|Zr (Zfh 4 J J)<|Xc d (_,_,_) results354 J aA (Oz 2 (Oz 3 (Oz 4 Za)))
@[reducible,instance] def encGI:EncT prog 116 6 Qu:=⟨pG⟩
theorem Zzr{ps:List Zj}{fr d:Int}(V:∀g∈ps,SgG g)(hM:∀g∈ps,Kg fr d g=true->MdG fr d g)(a0:ps.length<=256):Cal prog 300 #[v,.int .i64 fr,.int .i64 d] [Qh 6 Qu qG v ps] true (G:=Value×List Zj) (λg=>g.2.map Mb=Zce fr d ps) (λg=> .tuple #[g.1,.int .i64 (Zst fr d ps)]) (λg=>[Qh 6 Qu qG g.1 g.2]):=by
 refine Zwa func300 J ntmps300 J K1 ?_;intro w0 sc M I;have M:=Hw.mk M;simp only [Qd,Yr];refine go 2<|Ym (Yd 2) λu _=>Ym (Yd 3) λe _=>go 8 ?_;refine cl 4 [1] Zzp λ⟨b,F,H⟩ _=>go 3<|Zl (Nn 70 6 116 Qu)<|Zl (Ye qG 73) ?_;refine e_rfi ([Ke b 36 #[v],Ke F 3 #[.int .i64 fr],Ke H 3 #[.int .i64 d],Qh 6 Qu qG v ps]) w0 (λ(_:Nat) (n:Value×List Zj)=>[(0,Yt w0 (λ_=>False)),(1,Qh 6 Qu qG v ps),(2,box u 36 #[n.1]),(3,box e 28 #[.int .i64 0]),(70,Pt 6 116 Qu n.1 n.2),(73,Im qG n.2)]) (λk n=>Zya fr d ps k n.2) (λ(_:Unit)=>[(0,Yt w0 (λ_=>False)),(2,box u 36 #[.slice none 0 0]),(3,box e 28 #[.int .i64 7])]) (λ_=>Pn fr d ps=false) (.slice none 0 0,[]) J (by intro s w;first|exact enters_of func385 O5 rfl s w|exact call385 s w) (Zw0 v ps b F H fr d V hM) ?_ (λ_ _=>J) J M.h J (cutI_0 fr d ps) K6 (λ_ _=>⟨J,J⟩) (λ_=>⟨J,J⟩) (λk x f n W j l Mf Wa=>?_) J (λn j D od=>?_) (λ_ N=>?_)
 .intro p Z;simp only [bG,dU,iD]at Z;rcases Z with rfl|rfl|rfl|rfl
  .exact⟨J,4,J⟩
  .exact⟨J,5,J⟩
  .exact⟨J,6,J⟩
  .exact⟨J,1,J⟩
 .obtain⟨B,zs⟩:=n;have S:k<=ps.length:=aB (eP (eY.1 W).1) (kC _ _);have a1:zs.length<=ps.length:=cutI_l j S;refine Yc5 (env':=[(15,.bool (Zfv fr d x)),(14,.agg #[.int .i64 (cA fr x),.int .i64 (cB d x),.int .i64 (mdO (cO x) (cG fr d x)),Xw f.1,Xw f.2.1,Xw f.2.2]),(6,.pointer (some ⟨u,0,none⟩)),(7,.pointer (some ⟨e,0,none⟩))]) (H':=[(92,Yt Wa Mf),(100,Yg 1 Zz (Xw f.1) (mdL (cO x) (cG fr d x) (cX fr d x x.2.1.2))),(101,Yg 1 Zz (Xw f.2.1) (mdL (cO x) (cG fr d x) (cX fr d x x.2.2.1.2))),(102,Yg 1 Zz (Xw f.2.2) (mdL (cO x) (cG fr d x) (cX fr d x x.2.2.2.2))),(0,Yt w0 (λ_=>False)),(1,Qh 6 Qu qG v ps),(2,box u 36 #[B]),(3,box e 28 #[.int .i64 0]),(70,Pt 6 116 Qu B zs),(73,Im qG zs)]) (λa w hs=>hs.weaken ⟨J,J,J,J,aA⟩ ⟨J,J,J,J,J,J,J,J,J,J,aA⟩)<|Zna J<|Ym (Yd 8) λY _=>go 1 ?_;refine go 1 ?_;refine Yff<|Zvg J<|go 1 ?_;refine go 1 ?_;refine Yfg λa w hs=>⟨J,[(8,.pointer (some ⟨Y,0,none⟩)),(9,.bool (Zfv fr d x)),(6,.pointer (some ⟨u,0,none⟩)),(7,.pointer (some ⟨e,0,none⟩))],[(8,box Y 116 #[.int .i64 (cA fr x),.int .i64 (cB d x),.int .i64 (mdO (cO x) (cG fr d x)),Xw f.1,Xw f.2.1,Xw f.2.2]),(100,Yg 1 Zz (Xw f.1) (mdL (cO x) (cG fr d x) (cX fr d x x.2.1.2))),(101,Yg 1 Zz (Xw f.2.1) (mdL (cO x) (cG fr d x) (cX fr d x x.2.2.1.2))),(102,Yg 1 Zz (Xw f.2.2) (mdL (cO x) (cG fr d x) (cX fr d x x.2.2.2.2))),(0,Yt w0 (λ_=>False)),(1,Qh 6 Qu qG v ps),(2,box u 36 #[B]),(3,box e 28 #[.int .i64 0]),(70,Pt 6 116 Qu B zs),(73,Im qG zs)],J,(λq h=>by cases h;rfl),⟨.inl J,.inr (λb i=>⟨100,_,J,i⟩),.inr (λb i=>⟨101,_,J,i⟩),.inr (λb i=>⟨102,_,J,i⟩),.inr (λb i=>⟨0,_,J,i⟩),.inr (λb i=>⟨1,_,J,i⟩),.inl J,.inl J,.inl J,.inr (λb i=>⟨73,_,J,i⟩),aA⟩,hs.weaken ⟨J,J,J,J,aA⟩ ⟨J,J,J,J,J,J,J,J,J,J,J,aA⟩,λWb _=>?_⟩;refine Zqd<|er_seq<|Zna J<|go 2 ?_;refine go 1 ?_;refine Yff<|Yc6 J (λR=>?_) (λR=>?_)
  .refine Zna J<|go 2 ?_;refine go 1 ?_;exact Yff<|Yc4 λa w hs=>Or.inr ⟨J,(),cut_no W (Bc R),⟨.inr (λb i=>⟨0,_,J,i⟩),.inl J,.inl J,aA⟩,[],hs.weaken aA ⟨J,J,J,J,aA⟩⟩
  .refine Zvf<|Zvg J<|go 2 ?_;refine tt (Xm [(0,_)] 12 (enc:=Qu) [(Zrr fr d x f)] J J K2 Zdq ti116 J J Zbc J J pG.cells J J M.h) (λv2 _=>?_);refine tt (Lc 70 12 96 J J J J J J O3 J (Yc pG) Zdq ti116 J pG J J J O8 O3 J M.h) λv3 _=>go 2 ?_;exact Zr (Ye qC 71)<|Zr (Zd (q:=qC) (z:=(Zrr fr d x f).2.1) 71 100 71 J J J J J)<|Zr (Zd (q:=qC) (z:=(Zrr fr d x f).2.2.1) 71 101 71 J J J J J)<|Zr (Zd (q:=qC) (z:=(Zrr fr d x f).2.2.2) 71 102 71 J J J J J)<|Zr (Zd (q:=qG) (z:=(Zrr fr d x f)) 73 71 73 J J J J J)<|Yfg λa w hs=>Or.inl ⟨J,(v3,zs ++ [(Zrr fr d x f)]),cutI_s j W (Dx R),⟨.inr (λb i=>⟨0,_,J,i⟩),.inr (λb i=>⟨1,_,J,i⟩),.inl J,.inl J,.inl J,.inr (Ycs 73 100 J J J J),aA⟩,[],hs.weaken aA ⟨J,J,J,J,J,J,J,aA⟩⟩
 .obtain⟨B,zs⟩:=n;obtain⟨P,Q⟩:=cutI_e j;refine go 3 ?_;refine go 1 ?_;refine Yfg λa w hs=>⟨J,[(6,.pointer (some ⟨u,0,none⟩)),(7,.pointer (some ⟨e,0,none⟩))],[(0,Yt w0 (λ_=>False)),(1,Qh 6 Qu qG v ps),(2,box u 36 #[B]),(3,box e 28 #[.int .i64 0]),(70,Pt 6 116 Qu B zs),(73,Im qG zs)],J,⟨⟨_,J,J,λ_ h=>h⟩,⟨_,J,J,λ_ h=>h⟩,⟨_,J,J,λ_ h=>h⟩,⟨_,J,J,λ_ h=>h⟩,⟨_,J,J,λ_ h=>h⟩,⟨_,J,J,λ_ h=>h⟩,aA⟩,hs.weaken ⟨J,J,aA⟩ ⟨J,J,J,J,J,J,J,aA⟩,?_⟩;exact Zr (Xj 70 J J pG)<|Zr (Xt 70 73 72 J J J J)<|Na I (B,zs) results300 (by rw [Q]) P (Oz 72 Za)
 .exact Zr (Hs 72 6 Qu qG)<|Na I (.slice none 0 0,[]) results300 (by rw [(cut_f N).2]) (cut_f N).1 (Oz 72 Za)
open Go.RowKit Below
variable {P:Program} {N:Nat} {sc:Nat->Prop} {env env':Xz} {H H':Hp} {Q Q':Exit->Act->World->Prop} {M:Nat->Prop}
def Ad(l:List Int)(r:List Value):Array Value:=(l.map (Value.int .i64) ++ r).toArray
theorem Zhk(l:List Int)(r:List Value):(Ad l r).size=l.length+r.length:=by simp [Ad]
theorem Yfl{l:List Int}{j:Nat}(h:j<l.length):(Ad l r)[j]? = some (.int .i64 (l.getD j 0)):=by simp [Ad,cQ,h,aC]
theorem Yfk{l:List Int}{j:Nat}{v:Int}(h:j<l.length):Ip (Ad l r) j [.int .i64 v]=Ad (l.set j v) r:=by
 unfold Ip Ad;congr 1;rw [jR,aF h,cE,bN,iN,List.map_drop];have d:j<=(l.map (Value.int .i64)).length:=by rw [aQ];omega
 have e:j+1<=(l.map (Value.int .i64)).length:=by rw [aQ];omega
 simp only [cD,eH,bP];rw [eZ d,fW e];simp
theorem Zs2(l:List Int):cellsOf Zz l=l.map (Value.int .i64):=by
 induction l with
 | nil=>rfl
 | cons x l d=>rw [show cellsOf Zz (x::l)=(Zz x).cells.toList ++ cellsOf Zz l from rfl,d];rfl
theorem f_obox{e:TypeId}(i:Nat)(hi:lk H i=some (Pt 1 e Zz v xs))(u:xs≠[]):∀a w,Sat N sc env H a w->∃y:Nat×Nat×List Value,
  v= .slice (some ⟨y.1,0,none⟩) xs.length y.2.1/\xs.length+y.2.2.length=y.2.1/\y.2.1<=maxLen/\w.heap[y.1]? = some (.cells (Ad xs y.2.2) e (0,0)):=λa w hs=>by
 have k:w.ownsRow 0 e 1 v xs.length (cellsOf Zz xs):=hs.hold i _ hi;rcases k.2 with⟨rfl,q⟩|⟨g,h,d,rfl,z,p,s,l,j,f⟩
 .exact absurd (aE q) u
 .rw [jQ]at j f;refine⟨(g,h,d.toList.drop xs.length),rfl,?_,l,?_⟩
  .show xs.length+(d.toList.drop xs.length).length=h;have n:d.toList.length=h:=by rw [dC];exact j
   rw [eJ,n];omega
  .show w.heap[g]? = some (.cells (Ad xs (d.toList.drop xs.length)) e (0,0));rw [show Ad xs (d.toList.drop xs.length)=d by unfold Ad;rw [<-Zs2,<-f,fC]]
   exact p
theorem s_obox {e:TypeId}      (i:Nat) (hi:lk H i=some (Pt 1 e Zz (.slice (some ⟨b,0,none⟩) xs.length c) xs)) (d:Nat.beq i 0=false) (f:lk H 0=some (Yt w0 M0)) (j:∀b,w0.heap.size<=b->sc b)
    (hs:Sat N sc env H a w) (g:w.heap[b]? = some (.cells (Ad xs r) e (0,0))):Sat N sc env ((i,box b e (Ad xs r))::H) a w:=
 hs.upd hi rfl (λe=>by subst e;simp at d) (Chg.refl _ w) g (λk h=> .inl (by show some b=some k;rw [show k=b from h])) f j
theorem e_obox {f:Code} {e:TypeId}     (i:Nat) (hi:lk H i=some (Pt 1 e Zz v xs)) (d:Nat.beq i 0=false) (q:xs≠[]) (g:lk H 0=some (Yt w0 M0)) (p:∀b,w0.heap.size<=b->sc b)
  (h:∀(b c:Nat) (r:List Value),v= .slice (some ⟨b,0,none⟩) xs.length c->xs.length+r.length=c->c<=maxLen->E P N sc f Q env ((i,box b e (Ad xs r))::H)):E P N sc f Q env H:=λa w hs=>by
 obtain⟨⟨b,c,r⟩,n,j,k,l⟩:=f_obox i hi q a w hs;subst n;exact h b c r rfl j k a w (s_obox i hi d g p hs l)
theorem Ygi{e:TypeId}(i:Nat)(hi:lk H i=some (box b e (Ad xs r)))(d:Nat.beq i 0=false)(g:xs.length+r.length=c)(l:c<=maxLen)(f:lk H 0=some (Yt w0 M0))(n:∀b,w0.heap.size<=b->sc b) :
  ∀a w,Sat N sc env H a w->Sat N sc env ((i,Pt 1 e Zz (.slice (some ⟨b,0,none⟩) xs.length c) xs)::H) a w:=λa w hs=>by
 have h:w.heap[b]? = some (.cells (Ad xs r) e (0,0)):=hs.hold i _ hi;refine hs.upd hi rfl (λe=>by subst e;simp at d) (Chg.refl _ w) ?_ (λk j=> .inl (by cases j;rfl)) f n;refine⟨by rw [Zs2,aQ,jQ],.inr ⟨b,c,_,rfl,bB _,h,O,l,by rw [Zhk,jQ];exact g,?_⟩⟩;rw [Zs2,jQ];show((xs.map (Value.int .i64)) ++ r).take xs.length=_;rw [eZ (by rw [aQ];exact aK _),cK (by rw [aQ];exact aK _)]
theorem Cu (i:Nat)   {e:TypeId} {n:Nat}   (h:o.op= .indexAddr t x y) (k:ev env x=some (.slice (some ⟨b,off,none⟩) n c)) (l:ev env y=some (.int kd m))
  (j:P.underlying t=some (.slice e)) (g:∀w,(sizeOf e).run P w= .ok 1 w) (d:m=(i:Int)) (f:i<n):Nf P N sc o env H (.pointer (some ⟨b,off+i,none⟩)):=λa w hs=>by
 subst d;simp [execOp,h,hs.ev k,hs.ev l,Instr.indexAt,asIntOf,run_underlying j,g,f,Pb]
theorem Znf   {e:TypeId} {d:Option Addr} {n:Nat} (f:o.op= .call { callee:= .builtin .len,args:=#[x],argTypes:=#[t] })
  (h:ev env x=some (.slice d n c)) (g:P.underlying t=some (.slice e)):Nf P N sc o env H (.int .i64 (n:Int)):=λa w hs=>by
 simp [execOp,f,resolve,hs.ev h,invoke,builtin,Builtin.len_,run_underlying g,goInt]
def Zbe (i:Nat){j:Nat}{l:List Int}(f:o.op= .load t x)(h:ev env x=some (.pointer (some ⟨b,j,none⟩)))(d:lk H i=some (box b tb (Ad l r)))(g:∀w,(isAgg t).run P w= .ok false w)(e:j<l.length) :
  Nf P N sc o env H (.int .i64 (l.getD j 0)):=Zx9 _ f h d g (Yfl e)
theorem Zoc (i:Nat)    {j:Nat} {l:List Int}  {v:Int}   (p:o.op= .store t x y) (h:o.dst=none)
  (z:ev env x=some (.pointer (some ⟨b,j,none⟩))) (B:ev env y=some (.int .i64 v)) (f:lk H i=some (box b tb (Ad l r))) (d:i≠0) (n:∀w,(sizeOf t).run P w= .ok 1 w) (k:j<l.length)
  (e:lk H 0=some (Yt w0 M0)) (s:∀b,w0.heap.size<=b->sc b) (g:M b) :
  T P N sc M o env H (G:=Unit) (λ_=>True) (λ_=>env) (λ_=>(i,box b tb (Ad (l.set j v) r))::H):=by
 rw [<-Yfk k];exact Zf1 [.int .i64 v] p h z B f d rfl n rfl (by rw [Zhk];simp;omega) (λu q=>Ze (by rw [bZ.1 q];rfl)) rfl e s g
theorem Ydo (i:Nat)   {e:TypeId} {n:Nat}   (l:o.op= .slice t x (some y) none none) (q:ev env x=some (.slice (some ⟨b,off,none⟩) n c)) (s:ev env y=some (.int kd m))
  (p:P.underlying t=some (.slice e)) (h:∀w,(sizeOf e).run P w= .ok 1 w) (d:m=(i:Int)) (j:i<n) (k:n<=c):Nf P N sc o env H (.slice (some ⟨b,off+i,none⟩) (n-i) (c-i)):=λa w hs=>by
 subst d;have f:i<=n:=O;have g:i<c:=O;simp [execOp,l,hs.ev q,hs.ev s,Instr.sliceAt,Instr.slice,Instr.sliceBounds,Instr.sliceBound,asIntOf,run_underlying p,h,f,g,k,Pb];intro u;omega
theorem d_prew   {e:TypeId} {n i:Nat}   (j:o.op= .slice t x none (some y) none) (l:ev env x=some (.slice (some ⟨b,0,none⟩) n c)) (p:ev env y=some (.int kd m))
  (k:P.underlying t=some (.slice e)) (h:∀w,(sizeOf e).run P w= .ok 1 w) (d:m=(i:Int)) (f:i<=n) (q:n<=c):Nf P N sc o env H (.slice (some ⟨b,0,none⟩) i c):=λa w hs=>by
 subst d;have g:i<=c:=O;simp [execOp,j,hs.ev l,hs.ev p,Instr.sliceAt,Instr.slice,Instr.sliceBounds,Instr.sliceBound,asIntOf,run_underlying k,h,f,g,Pb]
theorem t_clw   {j:TypeId} {i lo n B:Nat} {l:List Int}   
  (V:o.op= .call { callee:= .builtin .clear,args:=#[x],argTypes:=#[t] }) (R:o.dst=none)
  (hx:ev env x=some (.slice (some ⟨b,lo,none⟩) n B))  (p:lk H i=some (box b tb (Ad l r))) (f:i≠0)
  (hn:0<n) (S:lo+n=l.length) (W:P.underlying t=some (.slice j)) (z:∀w,(sizeOf j).run P w= .ok 1 w)
  (hz:∀w,(zeroValue j).run P w= .ok (.int .i64 0) w)
  (D:lk H 0=some (Yt w0 M0)) (Z:∀b,w0.heap.size<=b->sc b) (I:M b) :
  T P N sc M o env H (G:=Unit) (λ_=>True) (λ_=>env) (λ_=>(i,box b tb (Ad (l.take lo) (List.replicate n (Value.int .i64 0) ++ r)))::H):=λa w hs K Q F=>by
 have s:w.heap[b]? = some (.cells (Ad l r) tb (0,0)):=hs.hold i _ p;have h:(Builtin.zeroCells (Value.int .i64 0).cells n).toList=List.replicate n (Value.int .i64 0):=by
  apply iB
  .simp [Builtin.zeroCells,Value.cells]
  .intro i h2 h3;simp [Builtin.zeroCells,Value.cells,mR]
 have d:=run_storeCells_at P b lo tb (List.replicate n (Value.int .i64 0)) 0 (Ad l r) w s (by rw [Zhk,aV];omega) (λu Y=>by rw [List.eq_of_mem_replicate Y];rfl);simp only [fK,aV]at d;have e:((Ad l r).toList.take lo ++ List.replicate n (Value.int .i64 0) ++ (Ad l r).toList.drop (lo+n)).toArray=Ad (l.take lo) (List.replicate n (Value.int .i64 0) ++ r):=by unfold Ad;congr 1;show((l.map (Value.int .i64) ++ r).take lo ++ _) ++ (l.map (Value.int .i64) ++ r).drop (lo+n)=_;rw [eZ (by rw [aQ];omega),fW (by rw [aQ];omega),jW (by rw [aQ];omega),iN,fD,dV]
 rw [e]at d;obtain⟨m,rfl⟩:∃m,n=m+1:=⟨n-1,O⟩;have g:(execOp a.eval o).run P w= .ok (.value (.tuple #[])) (w.setRow b (Ad (l.take lo) (List.replicate (m+1) (Value.int .i64 0) ++ r))):=by simp only [execOp,V,resolve,invoke,builtin];simp [hs.ev hx,Builtin.clear_,run_underlying W,hz,h,d]
 unfold Oper.wp;rw [g];show K (a.put o.dst _) _;rw [R];exact F () _ _ aA ((hs.upd p rfl f (q:=box b tb (Ad (l.take lo) (List.replicate (m+1) (Value.int .i64 0) ++ r))) (Kp (M:=λk=>k=b) rfl) (setRow_heap w b _ _ tb _ s) (λk z=> .inl z) D Z).put_none _) (Kp I)
theorem res0{fn:Func}(hs:Sat N sc env H a w)(d:fn.results=#[]):(results fn a.tmps).run P w= .ok (.tuple #[]) w:=by simp [results,d]
end Go.Sky
namespace Go.Sky
variable{i m b:Nat}{x a:Int}{xs p c q:List Int}{r:List Value}
def Srt(l:List Int)(n:Nat):Prop:=∀p q,p<q->q<n->l.getD p 0<=l.getD q 0
def Sst(l:List Int)(n:Nat):Prop:=∀p q,p<q->q<n->l.getD p 0<l.getD q 0
def Ye9(l:List Int)(i j:Nat):Prop:=∀p q,p<q->q<=i->q≠j->l.getD p 0<=l.getD q 0
def Sam(l m:List Int):Prop:=m.length=l.length/\∀x,x∈m↔x∈l
def Sam.rfl'(l:List Int):Sam l l:=⟨rfl,λ_=>Iff.rfl⟩
def Ey{l:List Int}{j:Nat}{v:Int}(hi:i<l.length):(l.set i v).getD j 0=if j=i then v else l.getD j 0:=Zfq hi
def swp(l:List Int)(j:Nat):List Int:=(l.set j (l.getD (j-1) 0)).set (j-1) (l.getD j 0)
theorem Zuy(l:List Int)(j:Nat):(swp l j).length=l.length:=by simp [swp]
theorem Bt{l:List Int}{j:Nat}(d:j<l.length)(e:1<=j)(k:Nat):(swp l j).getD k 0=if k=j-1 then l.getD j 0 else if k=j then l.getD (j-1) 0 else l.getD k 0:=by unfold swp;rw [Ey (by rw [cI];omega),Ey d]
theorem Gb{l:List Int} : x∈l↔∃k,k<l.length/\l.getD k 0=x:=by
 constructor
 .intro h;obtain⟨k,d,e⟩:=eA.1 h;exact⟨k,d,by rw [aC,aH d];exact e⟩
 .rintro⟨k,d,rfl⟩;exact Zk d
theorem Zt1{l:List Int}{j:Nat}(d:j<l.length)(f:1<=j):Sam l (swp l j):=⟨Zuy l j,λx=>by
 rw [Gb,Gb,Zuy];constructor
 .rintro⟨k,g,e⟩;rw [Bt d f]at e;by_cases a:k=j-1
  .rw [aF a]at e;exact⟨j,d,e⟩
  .rw [aD a]at e;by_cases b:k=j
   .rw [aF b]at e;exact⟨j-1,O,e⟩
   .rw [aD b]at e;exact⟨k,g,e⟩
 .rintro⟨k,g,e⟩;by_cases a:k=j-1
  .exact⟨j,d,by rw [Bt d f,aD O,aF rfl,<-a];exact e⟩
  .by_cases b:k=j
   .exact⟨j-1,O,by rw [Bt d f,aF rfl,<-b];exact e⟩
   .exact⟨k,g,by rw [Bt d f,aD a,aD b];exact e⟩⟩
def Sam.trans{l m n:List Int}(h:Sam l m)(d:Sam m n):Sam l n:=⟨d.1.trans h.1,λx=>(d.2 x).trans (h.2 x)⟩
def srtx_0{l:List Int}(h:Srt l i):Ye9 l i i:=λp q d e f=>h p q d O
theorem Zoi{l:List Int}{j:Nat}(h:Ye9 l i j)(f:j<l.length)(e:1<=j)(n:j<=i)(o:l.getD j 0<l.getD (j-1) 0):Ye9 (swp l j) i (j-1):=λp q g d k=>by
 rw [Bt f e,Bt f e,aD k];by_cases a:q=j
 .rw [aF a];by_cases b:p=j-1
  .rw [aF b];omega
  .rw [aD b,aD O];exact h p (j-1) O O O
 .rw [aD a];by_cases b:p=j-1
  .rw [aF b];exact h j q O d a
  .rw [aD b];by_cases c:p=j
   .rw [aF c];exact h (j-1) q O d a
   .rw [aD c];exact h p q g d a
theorem Zzi{l:List Int}{j:Nat}(h:Ye9 l i j)(k:j<=i)(f:j=0\/(1<=j/\¬l.getD j 0<l.getD (j-1) 0)):Srt l (i+1):=λp q e g=>by
 by_cases a:q=j
 .rcases f with b|⟨b,c⟩
  .omega
  .subst a;by_cases d:p=q-1
   .subst d;omega
   .have:=h p (q-1) O O O;omega
 .exact h p q e O a
def srt_1(l:List Int):Srt l 1:=λp q d e=>O
structure Cmp (xs zs:List Int):Prop where
 s:Sst zs zs.length
 m:∀x,x∈zs↔x∈xs
theorem Zzh{l:List Int}{n:Nat}(h:Srt l n)(f:∀q,1<=q->q<n->l.getD q 0≠l.getD (q-1) 0):Sst l n:=λp q g e=>by
 have j:=f q O e;have k:=h (q-1) q O e;rcases nN (show p<=q-1 by omega)with d|d
 .have:=h p (q-1) d O;omega
 .subst d;omega
def Yi5{l:List Int}(h:Srt l l.length)(d:∀q,1<=q->q<l.length->l.getD q 0≠l.getD (q-1) 0):Cmp l l:=⟨Zzh h d,λx=>Iff.rfl⟩
structure Cml (xs l:List Int) (m k:Nat):Prop where
 k1:1<=k
 km:k<m
 ml:m<=xs.length
 ll:l.length=xs.length
 r:∀q,m<=q+1->l.getD q 0=xs.getD q 0
 s:Sst l k
 e:∀x,(∃p,p<k/\l.getD p 0=x)↔∃p,p<m/\xs.getD p 0=x
 z:l.getD (k-1) 0=xs.getD (m-1) 0
theorem cml_0{k:Nat}(hs:Srt xs xs.length)(g:∀q,1<=q->q<k->xs.getD q 0≠xs.getD (q-1) 0)(h:1<=k)(j:k<xs.length)(f:xs.getD k 0=xs.getD (k-1) 0):Cml xs xs (k+1) k:=
 ⟨h,O,O,rfl,λq _=>rfl,Zzh (λp q e d=>hs p q e O) g,λx=>by
  constructor
  .rintro⟨p,e,d⟩;exact⟨p,O,d⟩
  .rintro⟨p,e,d⟩;by_cases a:p=k
   .subst a;exact⟨p-1,O,by rw [<-f];exact d⟩
   .exact⟨p,O,d⟩,by rw [show k+1-1=k by omega];exact f.symm⟩
theorem cml_eq{l:List Int}{k:Nat}(h:Cml xs l m k)(s:m<xs.length)(g:l.getD m 0=l.getD (m-1) 0):Cml xs l (m+1) k:=by
 have e:=h.r m O;have f:=h.r (m-1) (by have:=h.k1;have:=h.km;omega);have n:=h.k1;have o:=h.km;refine⟨h.k1,O,s,h.ll,λq t=>h.r q O,h.s,λx=>(h.e x).trans ⟨?_,?_⟩,?_⟩
 .rintro⟨p,j,d⟩;exact⟨p,O,d⟩
 .rintro⟨p,j,d⟩;by_cases a:p=m
  .subst a;exact⟨p-1,O,by rw [<-d,<-e,<-f];exact g.symm⟩
  .exact⟨p,O,d⟩
 .rw [h.z,show m+1-1=m by omega,<-e,<-f];exact g.symm
theorem cml_ne{l:List Int}{k:Nat}(hs:Srt xs xs.length)(h:Cml xs l m k)(o:m<xs.length)(y:l.getD m 0≠l.getD (m-1) 0):Cml xs (l.set k (l.getD m 0)) (m+1) (k+1):=by
 have g:=h.r m O;have s:=h.k1;have t:=h.km;have w:=h.r (m-1) O;have u:=h.ll;have d:k<l.length:=O;have v:xs.getD (m-1) 0<xs.getD m 0:=by have:=hs (m-1) m O o;omega
 refine⟨O,O,o,by rw [cI];exact h.ll,λq z=>?_,λp q j e=>?_,λx=>?_,?_⟩
 .rw [Ey d,aD O];exact h.r q O
 .rw [Ey d,Ey d,aD (show p≠k by omega)];by_cases a:q=k
  .rw [aF a,g];have B:=h.z;rcases nN (show p<=k-1 by omega)with f|f
   .have:=h.s p (k-1) f O;omega
   .subst f;omega
  .rw [aD a];exact h.s p q j O
 .constructor
  .rintro⟨p,j,e⟩;rw [Ey d]at e;by_cases a:p=k
   .rw [aF a,g]at e;exact⟨m,O,e⟩
   .rw [aD a]at e;obtain⟨q,f,n⟩:=(h.e x).1 ⟨p,O,e⟩;exact⟨q,O,n⟩
  .rintro⟨p,j,e⟩;by_cases a:p=m
   .exact⟨k,O,by rw [Ey d,aF rfl,g,<-a];exact e⟩
   .obtain⟨q,f,n⟩:=(h.e x).2 ⟨p,O,e⟩;exact⟨q,O,by rw [Ey d,aD O];exact n⟩
 .rw [show k+1-1=k by omega,Ey d,aF rfl,show m+1-1=m by omega];exact g
theorem Zg8{l:List Int}{k p:Nat}(h:p<k):(l.take k).getD p 0=l.getD p 0:=by rw [aC,aC,jJ h]
theorem cml_e{l:List Int}{k:Nat}(h:Cml xs l xs.length k):Cmp xs (l.take k):=by
 have j:=h.km;have g:=h.ll;have f:(l.take k).length=k:=by rw [aU];omega
 refine⟨λp q e d=>?_,λx=>?_⟩
 .rw [f]at d;rw [Zg8 O,Zg8 d];exact h.s p q e d
 .rw [Gb,Gb,<-h.e x,f];constructor
  .rintro⟨p,e,d⟩;rw [Zg8 e]at d;exact⟨p,e,d⟩
  .rintro⟨p,e,d⟩;exact⟨p,e,by rw [Zg8 e];exact d⟩
def Ziy(x:Int):List Int->List Int
 | []=>[x]
 | y::l=>if x<y then x::y::l else if x=y then y::l else y::Ziy x l
def Inc:List Int->Prop
 | []=>True
 | x::l=>(∀y∈l,x<y)/\Inc l
theorem Zir{x z:Int} : ∀{l:List Int},z∈Ziy x l↔z=x\/z∈l
 | []=>by simp [Ziy]
 | y::l=>by
  unfold Ziy;split
  .simp
  .split
   .rename_i h;subst h;simp
   .rw [bG,Zir,bG];constructor
    .rintro(h|h|h)
     .exact .inr (.inl h)
     .exact .inl h
     .exact .inr (.inr h)
    .rintro(h|h|h)
     .exact .inr (.inl h)
     .exact .inl h
     .exact .inr (.inr h)
theorem Zp3{x:Int} : ∀{l:List Int},Inc l->Inc (Ziy x l)
 | [],_=>⟨λy h=>(nomatch h),aA⟩
 | y::l,h=>by
  unfold Ziy;split
  .rename_i e;exact⟨λz d=>by
    rcases bG.1 d with rfl|d
    .exact e
    .have:=h.1 z d;omega,h⟩
  .split
   .exact h
   .refine⟨λz d=>?_,Zp3 h.2⟩;rcases Zir.1 d with rfl|d
    .omega
    .exact h.1 z d
def Zoj(l:List Int):List Int:=l.foldr Ziy []
def Ziz:∀(l:List Int),Inc (Zoj l)
 | []=>trivial
 | x::l=>Zp3 (Ziz l)
theorem Ziq{z:Int} : ∀{l:List Int},z∈Zoj l↔z∈l
 | []=>Iff.rfl
 | x::l=>by show z∈Ziy x (Zoj l)↔_;rw [Zir,Ziq,bG]
theorem Ycb:∀{l m:List Int},Inc l->Inc m->(∀x,x∈l↔x∈m)->l=m
 | [],[],_,_,_=>rfl
 | [],y::m,_,_,h=>absurd ((h y).2 (bX ..)) (λh=>nomatch h)
 | x::l,[],_,_,h=>absurd ((h x).1 (bX ..)) (λh=>nomatch h)
 | x::l,y::m,hl,hm,h=>by
  have e:x=y:=by
   have g:=(h x).1 (bX ..);have f:=(h y).2 (bX ..);rcases bG.1 g with d|d
   .exact d
   .rcases bG.1 f with j|j
    .exact j.symm
    .have:=hm.1 x d;have:=hl.1 y j;omega
  subst e;rw [Ycb hl.2 hm.2 λz=>by
   have g:=h z;rw [bG,bG]at g;constructor
   .intro f;rcases g.1 (.inr f)with d|d
    .subst d;have:=hl.1 z f;omega
    .exact d
   .intro f;rcases g.2 (.inr f)with d|d
    .subst d;have:=hm.1 z f;omega
    .exact d]
theorem Zu3:∀{l:List Int},Sst l l.length->Inc l
 | [],_=>trivial
 | x::l,h=>⟨λy d=>by obtain⟨k,g,rfl⟩:=Gb.1 d;exact h 0 (k+1) O O8,Zu3 λp q e f=>h (p+1) (q+1) O O8⟩
theorem Yd5{ys zs:List Int}(e:Sam xs ys)(d:Cmp ys zs):zs=Zoj xs:=
 Ycb (Zu3 d.s) (Ziz xs) λx=>by rw [d.m,e.2,Ziq]
theorem Ztp:∀{l:List Int},Inc l->Sst l l.length
 | [],_=>λp q _ h=>absurd h (cN _)
 | x::l,h=>λp q d e=>by
  match p,q,d with
  | 0,q+1,_=>
   show x<l.getD q 0;exact h.1 _ (Zk (by simp at e;omega))
  | p+1,q+1,d=>exact Ztp h.2 p q O (by simp at e;omega)
def Yhx(j:Nat):j=0\/1<=j:=O
theorem hd_s{k:Nat}(h:∀q,1<=q->q<k->xs.getD q 0≠xs.getD (q-1) 0)(e:¬xs.getD k 0=xs.getD (k-1) 0):∀q,1<=q->q<k+1->xs.getD q 0≠xs.getD (q-1) 0:=λq f g=>by
 rcases bL.1 g with d|d
 .exact h q f d
 .subst d;exact e
open Go.Proofs.Tryz
open Go.Proofs
set_option synthInstance.maxHeartbeats 0
set_option synthInstance.maxSize 100000
set_option maxRecDepth 20000
set_option linter.unusedSimpArgs false
theorem Yi4:Qp prog 334 #[.int .i64 x] [] (.bool false):=by refine Zf func334 ntmps334 λg f e d=>go 9 ?_;refine kf (aJ (λh=>h J))<|go 4 ?_;exact Xc d () results334 J aA Za
theorem Yd7{y:Int}:Qp prog 269 #[.int .i64 x,.int .i64 y] [] (.bool (decide (x<y))):=by refine Zf func269 ntmps269 λg f e d=>go 8 ?_;refine cl 0 [] Yi4 λ_ _=>go 14 ?_;exact Xc d () results269 J aA Za
theorem Zyf(x:Nat)(e:x<U):Qp prog 260 #[.int .u64 (x:Int)] [] (.int .i64 (bl x:Int)):=by refine Zf func260 ntmps260 λh g f d=>go 12 ?_;refine cl 0 [] (Zq4 e) λ_ _=>go 4 ?_;exact Xc d () results260 J aA Za
theorem sl_ins{c:Nat}(F:1<=xs.length)(I:xs.length<=12):Zbp prog 318 #[.slice (some ⟨b,0,none⟩) xs.length c,.int .i64 0,.int .i64 (xs.length:Int)] [] false b 3 (Ad xs r) (G:=List Int) (λg=>Sam xs g/\Srt g g.length) (λg=> .tuple #[]) (λg=>Ad g r) (λg=>[]):=by
 refine Gl func318 J ntmps318 J aA ?_;intro N M k D;have k:=Hw.mk k;simp only [Qd,Yr];refine go 8 ⟨O,?_⟩;refine lp (G:=Nat×List Int) [0,1,2] [0] (λq=>[(6,.int .i64 (q.1:Int))]) (λq=>[(1,box b 3 (Ad q.2 r))]) (λq=>(1<=q.1)/\(q.1<=xs.length)/\(Sam xs q.2)/\(Srt q.2 q.1)) (λq=>xs.length-q.1) (1,xs) ⟨O1,O1,Sam.rfl' xs,srt_1 xs⟩ K1 K1 ?_;rintro⟨i,l⟩ ⟨y,z,t,hs⟩;dsimp only at y z t hs;dsimp only;have B:=t.1;refine go 8<|Zc J (λu=>?_) (λu=>?_)
 .refine go 11 ?_;refine lp (G:=Nat×List Int) [0,1,2,6] [0] (λq=>[(7,.int .i64 (q.1:Int))]) (λq=>[(1,box b 3 (Ad q.2 r))]) (λq=>(q.1<=i)/\(Sam xs q.2)/\(Ye9 q.2 i q.1)) (λq=>q.1) (i,l) ⟨aK _,t,srtx_0 hs⟩ K1 K1 ?_;rintro⟨j,m⟩ ⟨n,d,s⟩;dsimp only at n d s;dsimp only;have H:=d.1;refine go 2 ?_;rcases Yhx j with e|e
  .refine Qj (λ_=>False) [(0,0),(1,0),(2,0),(3,0),(4,2),(5,2),(6,2),(7,2),(8,2),(9,2),(10,2),(11,2),(12,2),(13,2),(14,0)]<|go 2 ?_;refine Xp J J (Qv (dF (Zqs J J J) (vB (aJ O))))<|go 26 ⟨O,?_⟩;exact Yv (i+1,m) ⟨O1,O1,d,Zzi s n (.inl e)⟩ O1 K1 K1
  .refine Qj (λ_=>False) [(0,0),(1,0),(2,0),(3,0),(4,0),(5,0),(6,0),(7,0),(8,0),(9,0),(10,0),(11,0),(12,0),(13,1),(14,0)]<|go 2 ?_;refine Xp J J (Qv (dT (Zqs J J J) (vB (aN O))))<|go 3 ?_;refine r0g (Qv (Zy ( .pointer (some ⟨b,j,none⟩)) (Cu j J J J Nr Dg O O) (by rw [bP]))) J J J J J<|r0g (Qv (Zy ( .int .i64 (m.getD j 0)) (Zbe 1 J J J iA3 O) (aL (λq=>Value.int .i64 (m.getD q 0)) O))) J J J J J<|go 3 ⟨O,?_⟩;refine r0g (Qv (Zy ( .pointer (some ⟨b,j-1,none⟩)) (Cu (j-1) J J J Nr Dg O O) (by rw [bP]))) J J J J J<|r0g (Qv (Zy ( .int .i64 (m.getD (j-1) 0)) (Zbe 1 J J J iA3 O) (aL (λq=>Value.int .i64 (m.getD q 0)) O))) J J J J J<|Ygy J J J J J (Ea 1 Yd7 J J J K2 call269 Zu J k.h) λ_ _=>go 3 ?_;refine Zc J (λf=>?_) (λf=>?_)
   .have o:=f;refine go 4<|Oj [] [17] ?_;refine Ya 6 [(0,0),(1,0),(2,0),(3,0),(4,0),(5,0),(6,0),(7,0),(8,0),(10,0),(11,0),(12,0)]<|go 8 ⟨O,O,?_⟩;refine Xp J J (Eo (Zy ( .pointer (some ⟨b,j-1,none⟩)) (Cu (j-1) J J J Nr Dg O O) (by rw [bP])) aA)<|go 2 ?_;refine Xp J J (Eo (Zy ( .pointer (some ⟨b,j,none⟩)) (Cu j J J J Nr Dg O O) (by rw [bP])) aA)<|go 1 ?_;refine Ml 5 9 13 ?_ ?_
    .refine Zaf J J (Zcg (Zy ( .int .i64 (m.getD (j-1) 0)) (Zbe 1 J J J iA3 O) (aL (λq=>Value.int .i64 (m.getD q 0)) O)) J J) (λ_ _=>?_);refine Ya 0 [(13,1),(14,0),(15,1),(16,0),(17,3)]<|Eh J (Zcg (Zy ( .int .i64 (m.getD j 0)) (Zbe 1 J J J iA3 O) (aL (λq=>Value.int .i64 (m.getD q 0)) O)) J J) (λ_ _=>?_);refine Xp J J (Eo (Zy ( .pointer (some ⟨b,j,none⟩)) (Cu j J J J Nr Dg O O) (by rw [bP])) aA)<|Eh J (Zoc 1 J J J J J O3 Dg O J k.h (λ_ h=>nomatch h)) (λ_ _=>?_);refine Xp J J (Eo (Zy ( .pointer (some ⟨b,j-1,none⟩)) (Cu (j-1) J J J Nr Dg O O) (by rw [bP])) aA)<|r3' J (Zoc 1 J J J J J O3 Dg (by rw [cI];omega) J k.h aA) λ_ _=>go 1 ?_;refine Yu<|go 7 ⟨O,?_⟩;exact Yv (j-1,swp m j) ⟨O1,d.trans (Zt1 O O),Zoi s O e n o⟩ O1 ⟨(aL (λq:Int=>some (Value.int .i64 q)) (show(j:Int)-1=((j-1:Nat):Int) by omega)),aA⟩ K1
    .refine Zaf J J (Zcg (Zy ( .int .i64 (m.getD j 0)) (Zbe 1 J J J iA3 O) (aL (λq=>Value.int .i64 (m.getD q 0)) O)) J J) (λ_ _=>?_);refine Ya 0 [(9,1),(14,0),(15,1),(16,0),(17,3)]<|Eh J (Zcg (Zy ( .int .i64 (m.getD (j-1) 0)) (Zbe 1 J J J iA3 O) (aL (λq=>Value.int .i64 (m.getD q 0)) O)) J J) (λ_ _=>?_);refine Xp J J (Eo (Zy ( .pointer (some ⟨b,j,none⟩)) (Cu j J J J Nr Dg O O) (by rw [bP])) aA)<|Eh J (Zoc 1 J J J J J O3 Dg O J k.h (λ_ h=>nomatch h)) (λ_ _=>?_);refine Xp J J (Eo (Zy ( .pointer (some ⟨b,j-1,none⟩)) (Cu (j-1) J J J Nr Dg O O) (by rw [bP])) aA)<|r3' J (Zoc 1 J J J J J O3 Dg (by rw [cI];omega) J k.h aA) λ_ _=>go 1 ?_;refine Yu<|go 7 ⟨O,?_⟩;exact Yv (j-1,swp m j) ⟨O1,d.trans (Zt1 O O),Zoi s O e n o⟩ O1 ⟨(aL (λq:Int=>some (Value.int .i64 q)) (show(j:Int)-1=((j-1:Nat):Int) by omega)),aA⟩ K1
   .have v:=f;refine go 11 ⟨O,?_⟩;exact Yv (i+1,m) ⟨O1,O1,d,Zzi s n (.inr ⟨e,v⟩)⟩ O1 K1 K1
 .obtain rfl:i=xs.length:=O;refine go 4 ?_;exact Gw (.inr J) D l (λa w hs=>res0 hs results318) J ⟨t,by rw [B];exact hs⟩ 1 J J J J Za
theorem sl_pdq{c:Nat}{j:Int}(e:1<=xs.length)(n:xs.length<=12):Zbp prog 259 #[.slice (some ⟨b,0,none⟩) xs.length c,.int .i64 0,.int .i64 (xs.length:Int),.int .i64 j] [] false b 3 (Ad xs r) (G:=List Int) (λg=>Sam xs g/\Srt g g.length) (λg=> .tuple #[]) (λg=>Ad g r) (λg=>[]):=by refine Gl func259 J ntmps259 J aA ?_;intro s o h f;have h:=Hw.mk h;simp only [Qd,Yr];refine go 11 ?_;refine lp (G:=Nat) [0] [0,1] (λk=>[(1,.int .i64 0),(2,.int .i64 (xs.length:Int))]) (λk=>[]) (λk=>True) (λk=>k) 0 aA K2 aA ?_;rintro k -;refine go 13 ⟨O,?_⟩;refine kt (aN O)<|go 8 ?_;refine tt (Xu 1 1 (sl_ins e n) J J J K3 call318 J O3 Zu J h.h aA) λl d=>go 7 ?_;exact Gw (.inl J) f l (λa w hs=>res0 hs results259) J d 1 J J J J Za
theorem Yf7{c:Nat}(e:1<=xs.length)(k:xs.length<=12):Zbp prog 181 #[.slice (some ⟨b,0,none⟩) xs.length c] [] false b 3 (Ad xs r) (G:=List Int) (λg=>Sam xs g/\Srt g g.length) (λg=> .tuple #[]) (λg=>Ad g r) (λg=>[]):=by refine Gl func181 J ntmps181 J aA ?_;intro n l h f;have h:=Hw.mk h;simp only [Qd,Yr];refine go 3 ?_;refine dt (Znf J J Nr)<|go 7 ?_;refine dt (Zy ( .int .u64 (xs.length:Int)) (Zsr J J uT3 underlying306 (by simp only [U];omega)) J)<|cl 1 [] (Zyf xs.length (by simp only [U];omega)) λ_ _=>?_;refine tt (Xu 1 1 (sl_pdq e k) J J J K4 call259 J O3 Zu J h.h aA) λj d=>go 1 ?_;exact Gw (.inr J) f j (λa w hs=>res0 hs results181) J d 1 J J J J Za
theorem sl_cmp{c:Nat}(R:2<=xs.length)(W:xs.length<=12)(S:xs.length<=c)(n:Srt xs xs.length):Zbp prog 299 #[.slice (some ⟨b,0,none⟩) xs.length c] [] false b 3 (Ad xs r) (G:=List Int×List Value) (λg=>Cmp xs g.1/\g.1.length+g.2.length=xs.length+r.length) (λg=> .slice (some ⟨b,0,none⟩) g.1.length c) (λg=>Ad g.1 g.2) (λg=>[]):=by
 refine Gl func299 J ntmps299 J aA ?_;intro Z Y u t;have u:=Hw.mk u;simp only [Qd,Yr];refine go 9 ?_;refine dt (Znf J J Nr)<|kf (aJ O)<|go 12 ?_;refine lp (G:=Nat) [0] [0,1] (λk=>[(3,.int .i64 (k:Int))]) (λk=>[]) (λk=>(1<=k)/\(k<=xs.length)/\(∀q,1<=q->q<k->xs.getD q 0≠xs.getD (q-1) 0)) (λk=>xs.length-k) 1 ⟨O1,O1,λq F H=>absurd H O⟩ K1 aA ?_;rintro k ⟨z,M,v⟩;refine go 5 ?_;refine dt (Znf J J Nr)<|go 3 ?_;refine Zc J (λo=>?_) (λo=>?_)
 .refine go 5<|Qj (λ_=>False) [(0,0),(1,0),(2,0),(3,0),(4,0),(5,0),(6,0),(7,0),(8,0),(9,0)]<|go 2 ?_;refine Xp J J (Qv (Zy ( .pointer (some ⟨b,k,none⟩)) (Cu k J J J Nr Dg O O) (by rw [bP])))<|Xp J J (Qv (Zy ( .int .i64 (xs.getD k 0)) (Zbe 1 J J J iA3 O) (aL (λq=>Value.int .i64 (xs.getD q 0)) O)))<|go 3 ⟨O,?_⟩;refine Xp J J (Qv (Zy ( .pointer (some ⟨b,k-1,none⟩)) (Cu (k-1) J J J Nr Dg O O) (by rw [bP])))<|Xp J J (Qv (Zy ( .int .i64 (xs.getD (k-1) 0)) (Zbe 1 J J J iA3 O) (aL (λq=>Value.int .i64 (xs.getD q 0)) O)))<|go 3 ?_;refine Zc J (λd=>?_) (λd=>?_)
  .have I:=d;refine go 4 ?_;refine dt (Zy ( .slice (some ⟨b,k,none⟩) (xs.length-k) (c-k)) (Ydo k J J J Nr Dg J O O) (by rw [bP]))<|go 10 ?_;refine lp (G:=Nat×Nat×List Int) [0,4] [0] (λq=>[(5,.int .i64 (q.1:Int)),(3,.int .i64 (q.2.1:Int))]) (λq=>[(1,box b 3 (Ad q.2.2 r))]) (λq=>(1<=q.1)/\(Cml xs q.2.2 (k+q.1) q.2.1)) (λq=>xs.length-k-q.1) (1,k,xs) ⟨O1,cml_0 n v z O I⟩ K2 K1 ?_;rintro⟨j,kk,l⟩ ⟨y,f⟩;dsimp only at y f;dsimp only;have V:=f.ll;have N:=f.k1;have P:=f.km;have Q:=f.ml;refine go 5 ?_;refine dt (Znf J J Nr)<|go 3 ?_;refine Zc J (λs=>?_) (λs=>?_)
   .refine go 5<|Qj (λ_=>False) [(0,0),(1,0),(2,0),(3,0),(4,0),(5,0),(6,0),(7,0),(8,0),(9,0)]<|go 2 ?_;refine Xp J J (Qv (Cu j J J J Nr Dg O O))<|Xp J J (Qv (Zy ( .int .i64 (l.getD (k+j) 0)) (Zbe 1 J J J iA3 O) (aL (λq=>Value.int .i64 (l.getD q 0)) O)))<|go 3 ⟨O,?_⟩;refine Xp J J (Qv (Cu (j-1) J J J Nr Dg O O))<|Xp J J (Qv (Zy ( .int .i64 (l.getD (k+j-1) 0)) (Zbe 1 J J J iA3 O) (aL (λq=>Value.int .i64 (l.getD q 0)) O)))<|go 3 ?_;refine Zc J (λe=>?_) (λe=>?_)
    .have h:=e;refine go 6 ?_;refine dt (Cu j J J J Nr Dg O O)<|dt (Zy ( .int .i64 (l.getD (k+j) 0)) (Zbe 1 J J J iA3 O) (aL (λq=>Value.int .i64 (l.getD q 0)) O))<|dt (Zy ( .pointer (some ⟨b,kk,none⟩)) (Cu kk J J J Nr Dg J O) (by rw [bP]))<|tt (Zoc 1 J J J J J O3 Dg O J u.h aA) (λ_ _=>?_);refine go 14 ⟨O,O,?_⟩;exact Yv (j+1,kk+1,l.set kk (l.getD (k+j) 0)) ⟨O1,cml_ne (m:=k+j) n f O h⟩ O1 K2 K1
    .have h:=e;refine go 8 ⟨O,?_⟩;exact Yv (j+1,kk,l) ⟨O1,cml_eq (m:=k+j) f O (fB.1 h)⟩ O1 K2 K1
   .obtain B:k+j=xs.length:=O;rw [B]at f;refine go 9 ?_;refine dt (Zy ( .slice (some ⟨b,kk,none⟩) (xs.length-kk) (c-kk)) (Ydo kk J J J Nr Dg J O O) (by rw [bP]))<|tt (t_clw (i:=1) J J J J O3 O O Nr Dg (λw=>zeroValue3 w) J u.h aA) λ_ _=>go 6 ?_;refine dt (d_prew (i:=kk) J J J Nr Dg J O O)<|go 9 ?_;exact Gw (.inl J) t (l.take kk,List.replicate (xs.length-kk) (.int .i64 0) ++ r) (λa w hs=>Zcd hs results299 J) (by rw [aU,dM O]) ⟨cml_e f,O8⟩ 1 J J J J Za
  .have D:=d;refine go 8 ⟨O,?_⟩;exact Yv (k+1) ⟨O1,O1,hd_s v D⟩ O1 K1 aA
 .refine go 12 ?_;exact Gw (.inl J) t (xs,r) (λa w hs=>Zcd hs results299 J) J ⟨Yi5 n (λq F H=>v q F O),J⟩ 1 J J J J Za
def Kq(f:Nat->Rat):Nat->Rat
 | 0=>0
 | n+1=>Kq f n+f n
def Oc(f:Nat->Rat)(n:Nat):Kq f (n+1)=Kq f n+f n:=rfl
theorem Nd{f g:Nat->Rat} : ∀n,(∀i,i<n->f i=g i)->Kq f n=Kq g n
 | 0,_=>rfl
 | n+1,h=>by rw [Oc,Oc,Nd n λi hi=>h i O,h n O]
theorem Gz(f:Nat->Rat):∀n,Kq f (n+1)=f 0+Kq (λi=>f (i+1)) n
 | 0=>by show 0+f 0=f 0+0;grind
 | n+1=>by rw [Oc,Gz f n,Oc];grind
theorem Zib(f g:Nat->Rat):∀n,Kq (λi=>f i+g i) n=Kq f n+Kq g n
 | 0=>by show(0:Rat)=0+0;grind
 | n+1=>by rw [Oc,Oc,Oc,Zib f g n];grind
theorem Hy(c:Rat)(f:Nat->Rat):∀n,Kq (λi=>c*f i) n=c*Kq f n
 | 0=>by show(0:Rat)=c*0;grind
 | n+1=>by rw [Oc,Oc,Hy c f n];grind
theorem Zjh(n:Nat):Ph n 0=1:=by cases n<;>rfl
def chz_s(n k:Nat):Ph (n+1) (k+1)=Ph n k+Ph n (k+1):=rfl
theorem Yen{u w:Rat}(h:u+w=1):∀n,Kq (λj=>(Ph n j:Rat)*(u^j*w^(n-j))) (n+1)=1
 | 0=>by rw [Gz];show((Ph 0 0:Nat):Rat)*(u^0*w^0)+0=1;rw [Zjh,eG,eG];push_cast;grind
 | n+1=>by
  have d:=Yen h n;rw [Gz];have e:Kq (λi=>(Ph (n+1) (i+1):Rat)*(u^(i+1)*w^(n+1-(i+1)))) (n+1)=Kq (λi=>u*((Ph n i:Rat)*(u^i*w^(n-i)))) (n+1)+Kq (λi=>(Ph n (i+1):Rat)*(u^(i+1)*w^(n-i))) (n+1):=by rw [<-Zib];refine Nd _ λi hi=>?_;rw [chz_s,show n+1-(i+1)=n-i by omega,dK];push_cast;grind
  have f:Kq (λi=>(Ph n (i+1):Rat)*(u^(i+1)*w^(n-i))) (n+1)=Kq (λi=>(Ph n (i+1):Rat)*(u^(i+1)*w^(n-i))) n:=by rw [Oc,Zjg n (n+1) O];push_cast;grind
  have g:w*Kq (λj=>(Ph n j:Rat)*(u^j*w^(n-j))) (n+1)=w^(n+1)+Kq (λi=>(Ph n (i+1):Rat)*(u^(i+1)*w^(n-i))) n:=by
   rw [<-Hy,Gz,Zjh];congr 1
   .rw [jB,eG,dK];push_cast;grind
   .refine Nd _ λi hi=>?_;rw [show n-i=(n-(i+1))+1 by omega,dK w];grind
  rw [e,f,Hy,d];rw [d]at g;rw [Zjh,eG,jB];push_cast;grind
def Ka(d:Nat)(c:List Int)(j:Nat):Int:=Yb (λi=>cf c i*(Ph (d-i) (j-i):Int)) (j+1)
theorem brS_0(d:Nat)(a:Int)(c:List Int):Ka d (a::c) 0=a:=by unfold Ka;rw [Yk,Kn];show 0+a*((Ph (d-0) (0-0):Nat):Int)=a;rw [show 0-0=0 from rfl,Zjh];omega
theorem brS_s(d:Nat)(a:Int)(c:List Int)(j:Nat):Ka (d+1) (a::c) (j+1)=a*(Ph (d+1) (j+1):Int)+Ka d c j:=by unfold Ka;rw [Nm];congr 1;refine Yq λi hi=>?_;rw [show d+1-(i+1)=d-i by omega,show j+1-(i+1)=j-i by omega];rfl
theorem Yjk(d j:Nat):Ka d [] j=0:=by unfold Ka;exact(Zfd (m:=0) (bB _) λi _ _=>by rw [show cf [] i=0 from rfl,cY]).trans (Kn _)
theorem bern{u w:Rat}(h:u+w=1):∀(d:Nat) (c:List Int),c.length<=d+1->Kq (λj=>(Ka d c j:Rat)*(u^j*w^(d-j))) (d+1)=Zb c u
 | d,[],_=>by
  rw [Nd (g:=λ_=>0) (d+1) λi hi=>by rw [Yjk];push_cast;grind];show Kq (λ_=>0) (d+1)=0;have:∀n,Kq (λ_=>0) n=0:=λn=>by
   induction n with
   | zero=>rfl
   | succ n f=>rw [Oc,f];grind
  exact this _
 | 0,[a],_=>by rw [Oc,brS_0];show 0+(a:Rat)*(u^0*w^0)=(a:Rat)+u*0;rw [eG,eG];grind
 | 0,a::b::c,hl=>by simp at hl
 | d+1,a::c,hl=>by
  have f:=bern h d c (by simpa using hl);have e:=Yen h (d+1);rw [Gz]at e;rw [Gz,brS_0];have k:Kq (λi=>(Ka (d+1) (a::c) (i+1):Rat)*(u^(i+1)*w^(d+1-(i+1)))) (d+1)=(a:Rat)*Kq (λi=>(Ph (d+1) (i+1):Rat)*(u^(i+1)*w^(d+1-(i+1)))) (d+1)+u*Kq (λj=>(Ka d c j:Rat)*(u^j*w^(d-j))) (d+1):=by rw [<-Hy,<-Hy,<-Zib];refine Nd _ λi hi=>?_;rw [brS_s,show d+1-(i+1)=d-i by omega,dK];push_cast;grind
  rw [k,f];show _=(a:Rat)+u*Zb c u;rw [Zjh]at e;push_cast at e ⊢;grind
theorem Fo(a:Int):∀(c:List Int) (i:Nat),cf (c.map λx=>a*x) i=a*cf c i
 | [],i=>by rw [fL,show cf [] i=0 from rfl,dS]
 | x::c,0=>rfl
 | x::c,i+1=>Fo a c i
theorem Zrx(c:List Int)(a b e:Int)(u:Rat):Zb (mk (c.length+1) λt=>cf c t*a+(if t=0 then e else cf c (t-1)*b)) u=Zb c u*((a:Rat)+(b:Rat)*u)+(e:Rat):=by
 have h:Zb (mk (c.length+1) λt=>cf c t*a+(if t=0 then e else cf c (t-1)*b)) u=Zb (Oo (c.map λx=>a*x) (e::c.map λx=>b*x)) u:=Pv u _ _ λi=>by
  rw [Nl,Fo,Mh]
  match i with
  | 0=>rw [aF O,aF rfl];show cf c 0*a+e=a*cf c 0+e;rw [dJ]
  | i+1=>
   show _=a*cf c (i+1)+cf (c.map λx=>b*x) i;rw [Fo];by_cases hi:i<c.length
   .rw [aF O,aD O,fG,dJ,dJ (cf c i)]
   .rw [aD O,Yl (p:=c) (i:=i+1) O,Yl (p:=c) (i:=i) O];omega
 rw [h,Yw,Zg];show _+((e:Rat)+u*Zb (c.map λx=>b*x) u)=_;rw [Zg];grind
theorem Zoz(p:List Int)(a b d:Int){t u:Rat}(f:t*(d:Rat)=(a:Rat)+(b:Rat)*u):∀j,j+1<=p.length->Zb (Nk p a b d j) u=(d:Rat)^j*Zb (p.drop (p.length-1-j)) t
 | 0,h=>by
  have e:p.drop (p.length-1-0)=[cf p (p.length-1)]:=by rw [jB,dP O,gE O];congr 1;unfold cf;rw [aC,aH O];rfl
  rw [Fe,e,eG,Qs,Qs];grind
 | j+1,h=>by
  have g:=Zoz p a b d f j O;have e:p.drop (p.length-1-(j+1))=cf p (p.length-2-j)::p.drop (p.length-1-j):=by rw [dP O,show p.length-1-(j+1)+1=p.length-1-j by omega];congr 1;unfold cf;rw [aC,aH O];show p[p.length-1-(j+1)]=p[p.length-2-j];congr 1;omega
  rw [Zyc,Zrx,g,e,<-f];show _=(d:Rat)^(j+1)*((cf p (p.length-2-j):Rat)+t*Zb (p.drop (p.length-1-j)) t);rw [dK];push_cast;rw [dK];generalize (d:Rat)^j=D;grind
theorem Zh7(a b d:Int){t u:Rat}(f:t*(d:Rat)=(a:Rat)+(b:Rat)*u)(e:p.length≠0):Zb (Le p a b d) u=(d:Rat)^(p.length-1)*Zb p t:=by unfold Le;rw [aD e,Pv u (tzl _) _ (λi=>Lt _ i),Zoz p a b d f (p.length-1) O,kY,lI]
def Ydn:List Int->List Int
 | []=>[]
 | a::p=>a::0::Ydn p
theorem Zl5(x:Rat):∀p:List Int,Zb (Ydn p) x=Zb p (x*x)
 | []=>rfl
 | a::p=>by show(a:Rat)+x*(((0:Int):Rat)+x*Zb (Ydn p) x)=(a:Rat)+x*x*Zb p (x*x);rw [Zl5 x p];push_cast;grind
theorem Zs1:∀(p:List Int) (i:Nat),cf (Ydn p) (2*i)=cf p i
 | [],i=>rfl
 | a::p,0=>rfl
 | a::p,i+1=>by show cf (0::Ydn p) (2*i+1)=cf p i;exact Zs1 p i
theorem sq_nn(x:Rat):0<=x*x:=by
 rcases(show 0<=x\/x<=0 by grind)with h|h
 .exact aI h h
 .have:=aI (show 0<=-x by grind) (show 0<=-x by grind);grind
theorem Zoy(h:∀x:Rat,0<=x->Zb p x=Zb q x)(i:Nat):cf p i=cf q i:=by rw [<-Zs1 p,<-Zs1 q];exact Ox (λx=>by rw [Zl5,Zl5];exact h _ (sq_nn x)) _
theorem Zg2(f:Nat->Int)(x:Rat):∀n,Zb (mk n f) x=Kq (λj=>(f j:Rat)*x^j) n
 | 0=>rfl
 | n+1=>by rw [Yhh,Zox,Zg2 f x n,Yo,Oc]
def NN(p:List Int):Prop:=∀i,0<=cf p i
theorem NN.smul{c:Int}(d:0<=c)(h:NN p):NN (p.map λa=>c*a):=λi=>by rw [Fo];exact dI d (h i)
theorem NN.add(d:NN p)(e:NN q):NN (Oo p q):=λi=>by rw [Nl];exact Int.add_nonneg (d i) (e i)
theorem NN.lmul{q:List Int}(d:NN q):∀{p:List Int},NN p->NN (lmul p q)
 | [],_=>λi=>by show 0<=cf [] i;rw [show cf [] i=0 from rfl];exact fV _
 | c::p,h=>NN.add (NN.smul (h 0) d) λi=>by
  match i with
  | 0=>exact fV _
  | i+1=>exact NN.lmul d (p:=p) (λj=>h (j+1)) i
def lpw(l:List Int):Nat->List Int
 | 0=>[1]
 | k+1=>lmul l (lpw l k)
theorem Zl2(l:List Int)(x:Rat):∀k,Zb (lpw l k) x=Zb l x^k
 | 0=>by rw [eG];show((1:Int):Rat)+x*0=1;push_cast;grind
 | k+1=>by rw [show lpw l (k+1)=lmul l (lpw l k)from rfl,Zq,Zl2 l x k,dK,jY]
theorem NN.lpw{l:List Int}(h:NN l):∀k,NN (lpw l k)
 | 0=>λi=>by
  show 0<=cf [1] i
  match i with
  | 0=>exact Int.one_nonneg
  | i+1=>exact fV _
 | k+1=>NN.lmul (NN.lpw h k) h
theorem NN.two{b:Int}(d:0<=a)(e:0<=b):NN [a,b]:=λi=>by
 match i with
 | 0=>exact d
 | 1=>exact e
 | i+2=>exact fV _
def sQ(f:Nat->Int)(W:Nat->List Int):Nat->List Int
 | 0=>[]
 | k+1=>Oo (sQ f W k) ((W k).map λa=>f k*a)
theorem Zrv(f:Nat->Int)(W:Nat->List Int)(x:Rat):∀k,Zb (sQ f W k) x=Kq (λi=>(f i:Rat)*Zb (W i) x) k
 | 0=>rfl
 | k+1=>by rw [show sQ f W (k+1)=Oo (sQ f W k) ((W k).map λa=>f k*a)from rfl,Yw,Zrv f W x k,Zg,Oc]
theorem sQ_le{f g:Nat->Int}{W:Nat->List Int}{B:Int}(d:∀i,NN (W i)):∀k,(∀i,i<k->((f i).natAbs:Int)<=B*g i)->∀j,((cf (sQ f W k) j).natAbs:Int)<=B*cf (sQ g W k) j
 | 0,_,j=>by show((cf [] j).natAbs:Int)<=B*cf [] j;rw [show cf [] j=0 from rfl];simp
 | k+1,h,j=>by
  have u:=sQ_le d k (λi hi=>h i O) j;have l:=h k O;show((cf (Oo (sQ f W k) ((W k).map λa=>f k*a)) j).natAbs:Int)<=B*cf (Oo (sQ g W k) ((W k).map λa=>g k*a)) j;rw [Nl,Nl,Fo,Fo,kK,<-eT];have n:=d k j;have o:((f k*cf (W k) j).natAbs:Int)<=B*g k*cf (W k) j:=by rw [cJ];push_cast;have e:((cf (W k) j).natAbs:Int)=cf (W k) j:=O;rw [e];exact eN l n
  generalize B*g k*cf (W k) j=t at *;generalize f k*cf (W k) j=s at *;generalize B*cf (sQ g W k) j=r at *;omega
theorem Zim(a b:Rat):∀n:Nat,(a*b)^n=a^n*b^n
 | 0=>by rw [eG,eG,eG];grind
 | n+1=>by rw [dK,dK,dK,Zim a b n];grind
theorem Zwm(a:Rat)(m:Nat):∀n:Nat,a^(m+n)=a^m*a^n
 | 0=>by rw [fK,eG];grind
 | n+1=>by rw [<-fT,dK,dK,Zwm a m n];grind
theorem Yeo{U V S:Rat}(h:U+V=S)(l:S≠0){d:Nat}(k:c.length<=d+1):Kq (λj=>(Ka d c j:Rat)*(U^j*V^(d-j))) (d+1)=S^d*Zb c (U/S):=by
 rw [<-bern (u:=U/S) (w:=V/S) (by rw [<-h];grind) d c k,<-Hy];refine Nd _ λj n=>?_;have e:U^j=S^j*(U/S)^j:=by rw [<-Zim];congr 1;grind
 have f:V^(d-j)=S^(d-j)*(V/S)^(d-j):=by rw [<-Zim];congr 1;grind
 have g:S^d=S^j*S^(d-j):=by rw [<-Zwm];congr 1;omega
 rw [e,f,g];grind
theorem Zwh{U V S:Rat}(h:U+V=S)(k:S≠0)(d:Nat):Kq (λj=>(Ph d j:Rat)*(U^j*V^(d-j))) (d+1)=S^d:=by
 have:=Yen (u:=U/S) (w:=V/S) (by rw [<-h];grind) d;rw [<-Rat.mul_one (S^d),<-this,<-Hy];refine Nd _ λj l=>?_;have e:U^j=S^j*(U/S)^j:=by rw [<-Zim];congr 1;grind
 have f:V^(d-j)=S^(d-j)*(V/S)^(d-j):=by rw [<-Zim];congr 1;grind
 have g:S^d=S^j*S^(d-j):=by rw [<-Zwm];congr 1;omega
 rw [e,f,g];grind
theorem Zt4(a b:Int)(x:Rat):Zb [a,b] x=(a:Rat)+(b:Rat)*x:=by show(a:Rat)+x*((b:Rat)+x*0)=_;grind
theorem onepw(n:Nat):(1:Rat)^n=1:=by
 induction n with
 | zero=>rw [eG]
 | succ n d=>rw [dK,d];grind
theorem Zbm(d:Int)(n:Nat):((d^n:Int):Rat)=(d:Rat)^n:=by
 induction n with
 | zero=>rw [cW,eG];rfl
 | succ n e=>rw [dX,dK,<-e];push_cast;rfl
def Wij(a e d:Int)(n i:Nat):List Int:=lmul (lpw [a,e] i) (lpw [d-a,d-e] (n-i))
def Wij_nn{e d:Int}(f:0<=a)(g:0<=e)(h:a<=d)(j:e<=d)(n i:Nat):NN (Wij a e d n i):=NN.lmul (NN.lpw (NN.two O O) _) (NN.lpw (NN.two f g) _)
theorem Zt5(a e d:Int)(n i:Nat)(x:Rat):Zb (Wij a e d n i) x=((a:Rat)+(e:Rat)*x)^i*(((d-a:Int):Rat)+((d-e:Int):Rat)*x)^(n-i):=by unfold Wij;rw [Zq,Zl2,Zl2,Zt4,Zt4]
theorem Yjm {X:List Int} {n:Nat} (hl:c.length<=n+1) (hX:X.length<=n+1) {b d B:Int} (ha:0<=a) (hb:0<=b) (F:a+b<=d) (I:0<d) (hr:∀t u:Rat,t*(d:Rat)=(a:Rat)+(b:Rat)*u->Zb X u=(d:Rat)^m*Zb c t)
  (hB:∀j,j<n+1->((Ka n c j).natAbs:Int)<=B*(Ph n j:Int)):∀j,j<n+1->((Ka n X j).natAbs:Int)<=B*d^m*(Ph n j:Int):=by
 have P:(0:Rat)<(d:Rat):=by exact_mod_cast I
 have k:∀x:Rat,0<=x->(x+1)≠0:=λx e h=>O4;have o:∀x:Rat,((a:Rat)+((a+b:Int):Rat)*x)+(((d-a:Int):Rat)+((d-(a+b):Int):Rat)*x)=(d:Rat)*(x+1):=λx=>by push_cast;grind
 have l:∀x:Rat,0<=x->(d:Rat)*(x+1)≠0:=λx e h=>by have:=aY P (show(0:Rat)<x+1 by grind);grind
 have Q:∀x:Rat,0<=x->Zb (sQ (λi=>(Ph n i:Int)) (Wij a (a+b) d n) (n+1)) x=Zb (mk (n+1) λj=>d^n*(Ph n j:Int)) x:=λx e=>by
  rw [Zrv,Zg2];have w:=Zwh (o x) (l x e) n;have y:=Zwh (U:=x) (V:=1) (S:=x+1) rfl (k x e) n;have z:Kq (λi=>(((Ph n i:Nat):Int):Rat)*Zb (Wij a (a+b) d n i) x) (n+1)=((d:Rat)*(x+1))^n:=by rw [<-w];exact Nd _ λj s=>by rw [Zt5];push_cast;rfl
  rw [z,Zim,<-y,<-Hy];refine Nd _ λj s=>?_;rw [onepw];push_cast;rw [<-Zbm];push_cast;grind
 have R:∀x:Rat,0<=x->Zb (mk (n+1) λj=>d^n*Ka n X j) x=Zb ((sQ (Ka n c) (Wij a (a+b) d n) (n+1)).map λq=>d^m*q) x:=λx e=>by
  rw [Zg,Zrv,Zg2];have w:=Yeo (o x) (l x e) hl;have y:=Yeo (U:=x) (V:=1) (S:=x+1) rfl (k x e) hX;have z:Kq (λi=>((Ka n c i:Int):Rat)*Zb (Wij a (a+b) d n i) x) (n+1)=((d:Rat)*(x+1))^n*Zb c (((a:Rat)+((a+b:Int):Rat)*x)/((d:Rat)*(x+1))):=by rw [<-w];exact Nd _ λj s=>by rw [Zt5]
  have e4:Kq (λj=>((d^n*Ka n X j:Int):Rat)*x^j) (n+1)=(d:Rat)^n*Kq (λj=>(Ka n X j:Rat)*(x^j*1^(n-j))) (n+1):=by rw [<-Hy];refine Nd _ λj s=>?_;rw [onepw,<-Zbm];push_cast;grind
  rw [z,e4,y,hr (((a:Rat)+((a+b:Int):Rat)*x)/((d:Rat)*(x+1))) (x/(x+1)) ?_,Zim,Zbm]
  .grind
  .have D:=k x e;have v:(d:Rat)≠0:=O4;push_cast;grind
 have G:=Zoy Q;have H:=Zoy R;intro j s;have D:=G j;have v:=H j;rw [Mh,aF s]at D v;rw [Fo]at v;have Y:=sQ_le (f:=Ka n c) (g:=λi=>(Ph n i:Int)) (W:=Wij a (a+b) d n) (B:=B) (Wij_nn ha O O F n) (n+1) hB j;rw [D]at Y;have N:0<d^n:=kN I;have M:0<=d^m:=eE (kN I);have h4:((d^n*Ka n X j).natAbs:Int)=d^n*((Ka n X j).natAbs:Int):=by rw [cJ];push_cast;rw [show((d^n).natAbs:Int)=d^n by omega]
 have h5:((d^m*cf (sQ (Ka n c) (Wij a (a+b) d n) (n+1)) j).natAbs:Int)=d^m*((cf (sQ (Ka n c) (Wij a (a+b) d n) (n+1)) j).natAbs:Int):=by rw [cJ];push_cast;rw [show((d^m).natAbs:Int)=d^m by omega]
 have Z:=iH Y M;rw [<-h5,<-v,h4]at Z;refine lL (a:=d^n) ?_ N;refine Int.le_trans Z (nY ?_);generalize d^n=p;generalize d^m=q;generalize (Ph n j:Int)=r;grind
end Go.Sky

