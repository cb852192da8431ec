/- Rules, arithmetic and contracts: part 13. No conditions but those that each theorem names. -/
import Derived.Test.YtlnoheikolgejaaGreatLb11
set_option linter.all false
set_option maxHeartbeats 4000000
namespace Go.Sky
variable{x y z c l1 l2:List Int}{i:Nat}{a b v u:Value}{ov:Int}{f:Nat->Value}{zs:List (SL×List Int)}{s:SL}{d0:SL×List Int}{M M0:Nat->Prop}
variable {P:Program} {N:Nat} {sc:Nat->Prop} {env env':Pt} {H H':Hp}
def Hz(c:List Int)(g:Int):List Int:=if c.length=0 then [0]else c.map (· / g)
def mdO(ov g:Int):Int:=if ov/g<=4294967296 then ov/g else 0
def mdL(ov g:Int)(c:List Int):List Int:=if ov/g<=4294967296 then Hz c g else []
def Ki(ov:Int)(x y z:List Int):Int:=Lk ov (Ib 3 x y z)
structure Mdh (ov:Int) (x y z:List Int):Prop where
 o:0<ov
 b:bl ov.natAbs<=1000
 s:∀i,Sz 1000 (Zw i x y z)
 l:∀i,(Zw i x y z).length<=6
 c:∀i k,(cf (Zw i x y z) k).natAbs<=ov.natAbs*2146435072
def Zhu:∀(l:List Int) (g:Int),0<=g->0<=Lk g l
 | [],_,h=>h
 | x::l,g,h=>Zhu l _ (gL _)
theorem Ydc:∀(l:List Int) (g:Int),Lk g l∣g/\∀x∈l,Lk g l∣x
 | [],g=>⟨Int.dvd_refl _,λx h=>nomatch h⟩
 | x::l,g=>by
  obtain⟨e,j⟩:=Ydc l _;exact⟨iK e (Int.gcd_dvd_left ..),λy d=>by
   rcases bD.1 d with rfl|d
   .exact iK e (jW ..)
   .exact j y d⟩
theorem Zzd{a:Int}(hi:i<3)(h:a∈Zw i x y z):a∈Ib 3 x y z:=by
 match i,hi with
 | 0,_=>exact cP.2 (.inl (cP.2 (.inl h)))
 | 1,_=>exact cP.2 (.inl (cP.2 (.inr h)))
 | 2,_=>exact cP.2 (.inr h)
theorem Mdh.g(h:Mdh ov x y z):0<Ki ov x y z/\Ki ov x y z∣ov/\∀i,i<3->∀a∈Zw i x y z,Ki ov x y z∣a:=by
 obtain⟨d,e⟩:=Ydc _ ov;have g:=Zhu (Ib 3 x y z) ov (dV h.o);have k:=h.o;refine⟨?_,d,λi hi a j=>e a (Zzd hi j)⟩;rcases Int.lt_or_eq_of_le g with q|q
 .exact q
 .exact absurd (Int.zero_dvd.1 (q▸d)) O
theorem Mdh.fc(h:Mdh ov x y z)(i k:Nat):bl (Lk (Lk ov (Ib i x y z)) ((Zw i x y z).take k)).natAbs<=1000:=by
 have e:∀i,∀a∈Zw i x y z,bl a.natAbs<=1000:=λi a d=>by obtain⟨j,o⟩:=kX.1 d;have:=h.s i j;unfold cf at this;grind
 have n:∀a∈Ib i x y z,bl a.natAbs<=1000:=λa d=>by unfold Ib at d;have g:=e 0;have l:=e 1;have m:=e 2;simp only [Zw]at g l m;grind
 exact Zid (λa d=>e i a (fP d)) (Zid n h.b)
theorem Mdh.fit(h:Mdh ov x y z)(hs:ov/Ki ov x y z<=4294967296)(hi:i<3)(k:Nat):((Zw i x y z).getD k 0/Ki ov x y z).natAbs<=9223372036854775807:=by
 obtain⟨l,⟨s,d⟩,m⟩:=h.g;have n:Ki ov x y z∣(Zw i x y z).getD k 0:=by
  rcases bB k _ with q|q
  .exact m i hi _ (Zd q)
  .rw [aK,cF q];exact jJ _
 obtain⟨t,j⟩:=n;have e:((Zw i x y z).getD k 0).natAbs<=ov.natAbs*2146435072:=h.c i k;generalize Ki ov x y z=g at *;rw [j,kG _ O];rw [d,kG _ O]at hs;rw [j,d,bT,bT,eF]at e;have p:=Nat.le_of_mul_le_mul_left e O;have r:=h.o;have o:0<s:=by
  by_cases q:0<s
  .omega
  .have:=fF (dV l) (show s<=0 by omega);omega
 omega
def mdO_t{g:Int}(h:ov/g<=4294967296):mdO ov g=ov/g:=aM h
def Zhn{g:Int}(h:ov/g<=4294967296):mdL ov g c=Hz c g:=aM h
def mdO_f{g:Int}(h:¬ov/g<=4294967296):mdO ov g=0:=aJ h
def Ylp{g:Int}(h:¬ov/g<=4294967296):mdL ov g c=[]:=aJ h
def dvL_0{g:Int}(h:c.length=0):Hz c g=[0]:=aM h
def dvL_n{g:Int}(h:c.length≠0):Hz c g=c.map (· / g):=aJ h
theorem Zv9{g:Int}{k:Nat}(h:k<c.length):(c.take k).map (· / g) ++ [c.getD k 0/g]=(c.take (k+1)).map (· / g):=by rw [Qx 0 _ _ h,bN];rfl
abbrev C6 (a b c:Value) (f:Nat->Value):Array Value:=#[a,b,c,f 0,f 1,f 2]
def upd(f:Nat->Value)(i:Nat)(v:Value)(j:Nat):Value:=if j=i then v else f j
theorem c6_get{c:Value}(h:i<3):(C6 a b c f)[3+i]? = some (f i):=by
 match i,h with
 | 0,_=>rfl
 | 1,_=>rfl
 | 2,_=>rfl
theorem Yof{c:Value}(h:i<3):(C6 a b c (upd f i v))[3+i]? = some v:=by rw [c6_get h];unfold upd;simp
theorem c6_lay{c:Value}(h:i<3):Fe (C6 a b c (upd f i u)) (3+i) [v]=C6 a b c (upd f i v):=by
 match i,h with
 | 0,_=>rfl
 | 1,_=>rfl
 | 2,_=>rfl
theorem Yaf{c:Value}{g:Nat->Value}(h:∀j,j<3->f j=g j):C6 a b c f=C6 a b c g:=by grind
theorem p3_sel{b:Nat}(h:i<3):Zw i (Value.pointer (some ⟨b,3,none⟩)) (Value.pointer (some ⟨b,4,none⟩)) (Value.pointer (some ⟨b,5,none⟩))= .pointer (some ⟨b,3+i,none⟩):=by
 match i,h with
 | 0,_=>rfl
 | 1,_=>rfl
 | 2,_=>rfl
theorem c3_get{c:Value}(h:i<3):(#[a,b,c]:Array Value)[0+i*1]? = some (Zw i a b c):=by
 match i,h with
 | 0,_=>rfl
 | 1,_=>rfl
 | 2,_=>rfl
def fz(zs:List (SL×List Int))(j:Nat):Value:=Xi (zs.getD j ((none,0,0),[])).1
theorem fz_upd(h:zs.length=i)(j:Nat):fz zs j=upd (fz zs) i (.slice none 0 0) j:=by
 unfold upd;split
 .rename_i e;subst e;subst h;unfold fz;simp
 rfl
theorem Ydd(h:zs.length=i)(j:Nat):upd (fz zs) i (Xi s) j=fz (zs ++ [(s,c)]) j:=by unfold upd fz;grind
def Zhm (f:Nat->List Int){t:Nat}(e:zs.length=i)(h:∀t,t<i->(zs.getD t d0).2=f t)(d:c=f i)(g:t<i+1):((zs ++ [(s,c)]).getD t d0).2=f t:=d▸Zxr e h g
theorem Ylo{g:Int}(k:zs.length=3)(h:∀t,t<3->(zs.getD t d0).2=Hz (Zw t x y z) g):∃l m n:SL,zs=[(l,Hz x g),(m,Hz y g),(n,Hz z g)]:=by
 match zs,k with
 | [o,p,q],_=>
  have d:=h 0 O;have e:=h 1 O;have j:=h 2 O;simp [Zw]at d e j;grind
def Yi2{a b:Int} : 0<(a-b).sign↔¬a<=b:=O5
theorem t_st6 (i:Nat)(n:Nat)  {o:Oper} {x y:Operand} {t j:TypeId} {b:Nat} {e g h:Value}   {k:World}  (D:o.op= .store t x y) (r:o.dst=none)
  (I:ev env x=some (.pointer (some ⟨b,3+n,none⟩))) (Q:ev env y=some v) (p:lk H i=some (box b j (C6 e g h (upd f n u)))) (d:i≠0) (B:∀w,(sizeOf t).run P w= .ok 1 w) (R:n<3) (m:One N sc env H v)
  (l:lk H 0=some (Xt k M0)) (F:∀b,k.heap.size<=b->sc b) (q:M b) :
  T P N sc M o env H (G:=Unit) (λ_=>True) (λ_=>env) (λ_=>(i,box b j (C6 e g h (upd f n v)))::H):=by
 have:=t_stp1 D r I Q p d B (by simp<;>omega) m l F q;grind [c6_lay]
theorem bl_dlq{a b:Int}{n:Nat}(h:bl a.natAbs<=n)(g:0<b)(d:0<=a):bl (a/b).natAbs<=n:=(Qq n _).2 (aU (by have e:=kH b d;grind [Int.ediv_nonneg,Int.le_of_lt]) ((Qq n _).1 h))
theorem Ymo{n:Nat}(h:∀z∈zs,∀b,(Xi z.1).ownBlock=some b->n<=b)(d:∀b,(Xi s).ownBlock=some b->n<=b):∀z∈zs ++ [(s,c)],∀b,(Xi z.1).ownBlock=some b->n<=b:=λz e=>by grind
theorem fr3{n:Nat}{e g j:SL}{k l m l3:List Int}(h:∀z∈[(e,k),(g,l),(j,m)],∀b,(Xi z.1).ownBlock=some b->n<=b):∀p∈[Ym 1 Yd (Xi e) l1,Ym 1 Yd (Xi g) l2,Ym 1 Yd (Xi j) l3],∀b,p.fp b->n<=b:=λp o b d=>by
 simp only [bD,cM,fA]at o;rcases o with rfl|rfl|rfl
 .exact h (e,k) O5 b d.2
 .exact h (g,l) O5 b d.2
 .exact h (j,m) O5 b d.2
theorem fr0{n:Nat}{l3:List Int} : ∀p∈[Ym 1 Yd (Xi (none,0,0)) l1,Ym 1 Yd (Xi (none,0,0)) l2,Ym 1 Yd (Xi (none,0,0)) l3],∀b,p.fp b->n<=b:=λp d b e=>by simp only [bD,cM,fA]at d;rcases d with rfl|rfl|rfl<;>cases e.2
end Go.Sky
namespace Go.Sky
open Go.RowKit Below
variable{o:Oper}{x:Operand}{cs:Array Value}
variable {P:Program} {N:Nat} {sc:Nat->Prop} {env env':Pt} {H H':Hp} {Q Q':Exit->Act->World->Prop} {M:Nat->Prop}
theorem f_new{d:World}{p:Pc}(i:Nat)(hi:lk H i=some p)(g:p.own=true)(e:lk H 0=some (Xt d (λ_=>False)))(c:i≠0:=by decide):∀a w,Sat N sc env H a w->∀b,p.fp b->d.heap.size<=b:=λa w hs b f=>by
  rcases bB b d.heap.size with h|h
  . exact(hs.sep i 0 p _ c hi e g b f ⟨h,λh=>h⟩).elim
  . exact h
theorem Yhm {fn:Func} {m:List Pc} {G:Type} {φ:G->Prop} {val:G->Value} {c:G->List Pc} {f:World} {e:Exit} (D:e= .ret\/e= .normal)
    (g:G) {v:Value} (r:∀p∈c g,∀b,p.fp b->f.heap.size<=b) (k:∀a w,Sat N sc env H a w->(results fn a.tmps).run P w= .ok v w) (S:val g=v) (I:φ g) (u:lk H 0=some (Xt f (λ_=>False))) (d:Give H true (c g)) :
    X N sc e (Zc2 P fn f m false φ val c) env H:=λa w hs=>by
  have l : a.defers = [] /\ ∃ v, (results fn a.tmps).run P w = .ok v w /\ (∃ g, Ending.returned v = .returned (val g) /\ φ g /\ Below f.heap.size f w /\
        ∀p∈c g,p.holds w/\p.own=false/\∀b,p.fp b->f.heap.size<=b\/(false=true/\∃q∈m,q.fp b)):=by
    refine⟨hs.defers,v,k a w hs,g,by rw [S],I,Ho (hs.hold 0 _ u),λp t=>?_⟩;obtain⟨s,h|⟨y,z⟩⟩:=d.mem p t
    case inr=>exact⟨y w,s,λb n=>absurd n (z b)⟩
    obtain⟨i,V,R,hi,j,F,B⟩:=h;exact⟨j w (hs.hold i V hi),s,λb n=> .inl (r p t b n)⟩
  rcases D with rfl|rfl
  . exact l
  . exact l
section
variable {f:FuncId} {xs:List Operand} {ats:Array TypeId} {d:Nat} {vs:List Value} {pre:List Pc} {G:Type} {φ:G->Prop} {val:G->Value} {its:G->List Pc} {w0:World} {M0:Nat->Prop} {ty:TypeId} {pos:String} {af:Array Edge} {g:Option (Nat×Bool)}
theorem Yp3  {n:Nat} (Y:Cal P f vs.toArray pre false φ val its)
    (ho:o.op= .call { callee:= .value (.func f),args:=xs.toArray,argTypes:=ats }) (Z:o.dst=some d) (W:Nat.blt d N=true)
    (q:EvL env xs vs) (s:∀args w,(callFunc f args).run P w= .ok (.enter f args) w) (u:PreOk H false pre)
    (I:lk H 0=some (Xt w0 M0)) (hw:∀b,w0.heap.size<=b->sc b) :
    T P N sc M o env H (λg=>φ g/\∀p∈its g,∀b,p.fp b->w0.heap.size<=b) (λg=>(d,val g)::env) (λg=>adds n (its g) H):=λa w hs K Q V=>by
  have z:w0.heap.size<=w.heap.size:=(hs.hold 0 _ I).size;have hr:(execOp a.eval o).run P w= .ok (.enter f vs.toArray) w:=by have hm:=q.map hs;simp [execOp,ho,resolve,invoke,Act.eval,Deferred.ofValue,hm,s]
  unfold Oper.wp;rw [hr];refine(Y w (λp k=>by obtain⟨i,it,_,hi,t,_,_⟩:=u.mem p k;exact t w (hs.hold i it hi))).mono ?_
  rintro e F ⟨g,rfl,hg,l,m⟩;show K (a.put o.dst (val g)) F;rw [Z];have y:Sat N sc env H a F:=hs.chg0 (Chg.of_below l);have c:∀p∈its g,∀b,p.fp b->w.heap.size<=b:=λp k b r=>by
    rcases(m p k).2.2 b r with h|⟨h,_⟩
    . exact h
    . cases h
  refine V g _ _ ⟨hg,λp k b r=>aB z (c p k b r)⟩ (Sat.put (y.adds (w1:=w) (its g) n ?_) d _ W) (Chg.of_below l);intro p k;obtain⟨R,S,h3⟩:=m p k;refine⟨R,S,λb r=>hw b (aB z (c p k b r)),λj D hj B b r v=>?_⟩;have:=D.lt w b (hs.hold j D hj) v;have:=c p k b r;omega
def Yfe(n:Nat)(a:List Nat)(e:Cal P f vs.toArray pre false φ val its){c:G->Hp}[hx:EvI env xs vs][hf:CalF P f][hp:PreL P H false a pre][h0:Som (lk2 H 0) (Xt w0 M0)][hN:TB (ltb d N)][hw:Hw w0 sc][ha:∀g,AddI n (its g) H (c g)] :
    T P N sc M ⟨some d,.call { callee:= .value (.func f),args:=xs.toArray,argTypes:=ats },ty,pos,af,g⟩ env H (λg=>φ g/\∀p∈its g,∀b,p.fp b->w0.heap.size<=b) (λg=>(d,val g)::env) c:=
  (Yp3 (n:=n) e rfl rfl (Nu hN.h) hx.h hf.h hp.h h0.l hw.h).conv λg=>(ha g).h
end
theorem hw_up{w0 W:World}(h:Hw w0 sc)(a:w0.heap.size<=W.heap.size):Hw W sc:=⟨λb c=>h.h b (aB a c)⟩
theorem Zn4  {y:Operand} {ats:Array TypeId} {k:IntKind} {m n:Int} (b:o.op= .call { callee:= .builtin .min,args:=#[x,y],argTypes:=ats })
    (c:ev env x=some (.int k m)) (e:ev env y=some (.int k n)):Mk P N sc o env H (.int k (min m n)):=λa w hs=>by
  simp [execOp,b,resolve,hs.ev c,hs.ev e,invoke,builtin,Builtin.min_,Builtin.min2];by_cases h:n<m
  . rw [aM h];omega
  . rw [aJ h];omega
theorem d_lbw   {t p:TypeId} {i b k:Nat}  (h:o.op= .load t x) (m:ev env x=some (.pointer (some ⟨b,0,none⟩))) (a:lk H i=some (box b p cs)) (j:∀w,(isAgg t).run P w= .ok true w) (c:∀w,(sizeOf t).run P w= .ok k w)
    (e:cs.size=k):Mk P N sc o env H (.agg cs):=by
  have:=Yd3 (P:=P) (N:=N) (sc:=sc) (vs:=cs.toList) h m a j c (by simpa using e) (λn u l=>by rw [cJ];simpa using l);simpa using this
end Go.Sky
namespace Go.Sky
open Go.Proofs.Tryz
open Go.Proofs
set_option synthInstance.maxHeartbeats 0
set_option synthInstance.maxSize 100000
set_option maxRecDepth 20000
set_option linter.unusedSimpArgs false
variable{p:Zt->Bool}{i id:Nat}{d:Zt}{ops:List Oper}{y x c:Code}{zs:List Zt}
theorem Zef(fr M e:Int){vx vy vz:Value}(x y z:List Int)(r:Mdh e x y z):Cal prog 78 #[.int .i64 fr,.int .i64 M,.agg #[vx,vy,vz],wv e] [Ym 2 wv vx x,Ym 2 wv vy y,Ym 2 wv vz z] false (G:=SL×SL×SL) (λg=>True) (λg=> .tuple #[.agg #[.int .i64 fr,.int .i64 M,.int .i64 (mdO e (Ki e x y z)),Xi g.1,Xi g.2.1,Xi g.2.2],.bool (decide (e/(Ki e x y z)<=4294967296))]) (λg=>[Ym 1 Yd (Xi g.1) (mdL e (Ki e x y z) x),Ym 1 Yd (Xi g.2.1) (mdL e (Ki e x y z) y),Ym 1 Yd (Xi g.2.2) (mdL e (Ki e x y z) z)]):=by
 refine Zg func78 ntmps78 λw0 sc Z b0=>?_;have ho:=r.o;have W:=r.b;obtain⟨S,a7,a8⟩:=r.g;have V:bl (Ki e x y z).natAbs<=1000:=r.fc 3 0;have a9:0<=e/(Ki e x y z):=iM (dV ho) (dV S);refine go 2<|Yk (Yf 4) λbx _=>Yk (Yf 5) λa2 _=>Yk (Yh 6) λa3 _=>go 6<|Yk (Yh 7) λD _=>go 11 ?_;refine lp (G:=Nat) [0,1,6,7,8,10,24] [0,1,2,3,4,5,6] (λi=>[(25,.int .i64 (i:Int))]) (λi=>[(7,box D 144 (wc (Lk e (Ib i x y z))))]) (λi=>i<=3) (λi=>3-i) 0 O1 K1 K1 ?_;rintro i hi;have a0:=r.fc i;have a1:=r.l i;refine go 6<|Zc J (λN=>?_) (λN=>?_)
 .refine go 5<|Zf (Zdb i 1 2 3 50 J J J J J J)<|go 1 ?_;refine dt (Zqg i J J J underlying141 sizeOf140 isAgg140 J)<|go 11 ?_;refine lp (G:=Nat) [0,1,6,7,8,10,24,25,28,29] [0,1,2,3,4,5,6,50] (λk=>[(30,.int .i64 (k:Int))]) (λk=>[(7,box D 144 (wc (Lk (Lk e (Ib i x y z)) ((Zw i x y z).take k))))]) (λk=>k<=(Zw i x y z).length) (λk=>(Zw i x y z).length-k) 0 O1 K1 K1 ?_;rintro k hk;refine go 6<|Zc J (λP=>?_) (λP=>?_)
  .refine go 8 ⟨O2,O2,?_⟩;refine Yk (Yh 8) λa4 _=>go 6 ?_;refine cl 8 [] (Zq3 (Lk (Lk e (Ib i x y z)) ((Zw i x y z).take k)) ((Zw i x y z).getD k 0) (aB (a0 k) O3) (aB (r.s i k) O3)) λ_ _=>?_;refine go 8 ⟨O,?_⟩;exact Yi (k+1) O1 O1 K1 ⟨by rw [Zex _ O];rfl,aA⟩
  .obtain rfl:k=(Zw i x y z).length:=O;rw [bS];refine go 10 ⟨O,?_⟩;exact Yi (i+1) O1 O1 K1 ⟨by rw [Za3 x y z O,Ew];rfl,aA⟩
 .obtain rfl:i=3:=O;refine go 9 ?_;refine dt (Qf [(0,_),(1,_)] J K4 (λa w hs=>Yud ((Zl J) a w hs) ((Zl J) a w hs)))<|Yk (Yh 9) λl _=>go 7 ?_;refine cl 9 [] (Zit e (Ki e x y z) (aB W O3) (aB V O3) O) λ_ _=>Yk (Yh 10) λa5 _=>go 5<|Qe (λ_=>False) [(0,0),(1,1),(2,1),(3,0)]<|go 1<|Ys (Zp 10 [] (Zz 4294967296 ⟨O3,O3⟩)) λ_ _=>Ys (Zp 10 [] (Zgl (e/(Ki e x y z)) 4294967296 (aB (bl_dlq W S (dV ho)) O3) O3)) λ_ _=>go 3<|Zc J (λn=>?_) (λn=>?_)
  .have f:¬e/(Ki e x y z)<=4294967296:=Yi2.1 n;refine go 9 ?_;exact Yhm (.inl J) ((none,0,0),(none,0,0),(none,0,0)) fr0 (λa w hs=>Ziz hs results78 (Gl 6 J J isAgg116 Ln J) J) (by rw [mdO_f f,aE f]) aA J (Pi (Ylp f) (Pi (Ylp f) (Pi (Ylp f) Za)))
  .have f:e/(Ki e x y z)<=4294967296:=eZ.1 λh=>n (Yi2.2 h);refine go 5 ?_;refine cl 10 [] (Zt6 (e/(Ki e x y z)) O) λ_ _=>go 13 ?_;refine dt (Qf [(0,_),(1,_),(2,_)] J K6 (λa w hs=>Yos ((Zl J) a w hs) ((Zl J) a w hs) ((Zl J) a w hs)))<|go 4 ?_;refine Zf (Oy 9 (q:=box l 116 (C6 (.int .i64 fr) (.int .i64 M) (.int .i64 (e/(Ki e x y z))) (fz []))) (aD (box l 116) (show _=(C6 (.int .i64 fr) (.int .i64 M) (.int .i64 (e/(Ki e x y z))) (fz []))from J)) J J)<|Zf (Ya qC 71)<|lp (G:=Nat×List (SL×List Int)) [6,8,10,15,59] [0,7,1,2,3,4,5,6,10] (λq=>[(60,.int .i64 (q.1:Int))]) (λq=>[(9,box l 116 (C6 (.int .i64 fr) (.int .i64 M) (.int .i64 (e/(Ki e x y z))) (fz q.2))),(71,Nt qC q.2)]) (λq=>(q.1<=3)/\(q.2.length=q.1)/\(∀t,t<q.1->(q.2.getD t Z0).2=Hz (Zw t x y z) (Ki e x y z))/\(∀z∈q.2,∀b,(Xi z.1).ownBlock=some b->w0.heap.size<=b)) (λq=>3-q.1) (0,[]) ⟨O1,rfl,λt Y=>absurd Y (bG t),λz hz=>nomatch hz⟩ K1 K2 ?_;rintro⟨i,zs⟩ ⟨hi,m,u,s⟩;dsimp only at hi m u s;dsimp only;have a1:=r.l i;refine go 6<|Zc J (λQ=>?_) (λQ=>?_)
   .refine go 7 ?_;refine dt (Xk ( .pointer (some ⟨l,3+i,none⟩)) (Zqg i J J J underlying214 sizeOf213 isAgg213 J) (p3_sel O))<|go 6 ?_;refine Zf (Zdb i 1 2 3 52 J J J J J J)<|Zf (Qi 60 1 3 Yd)<|go 2 ?_;refine dt (Ff i J J J underlying141 sizeOf140 J)<|dt (Zoz 4 J J J isAgg140 (c3_get O))<|go 5 ?_;refine lp (G:=Nat×Value) [6,8,10,15,18,59,60,66,67] [0,71,7,1,2,3,4,5,6,10,52] (λq=>[(68,.int .i64 (q.1:Int))]) (λq=>[(9,box l 116 (C6 (.int .i64 fr) (.int .i64 M) (.int .i64 (e/(Ki e x y z))) (upd (fz zs) i q.2))),(60,Oc 1 3 Yd q.2 (((Zw i x y z).take q.1).map (· / (Ki e x y z))))]) (λq=>q.1<=(Zw i x y z).length) (λq=>(Zw i x y z).length-q.1) (0,_) O1 K1 ⟨by rw [Yaf (λj _=>fz_upd m j)];rfl,by rw [dW];rfl,aA⟩ ?_;rintro⟨k,vr⟩ hk;dsimp only at hk;dsimp only;refine go 6<|Zc J (λR=>?_) (λR=>?_)
    .refine go 8 ⟨O2,O2,?_⟩;refine Yk (Yh 11) λa6 _=>go 7 ?_;refine cl 11 [] (Zit ((Zw i x y z).getD k 0) (Ki e x y z) (aB (r.s i k) O3) (aB V O3) O) λ_ _=>cl 11 [] (Zt6 ((Zw i x y z).getD k 0/(Ki e x y z)) (r.fit f O k)) λ_ _=>go 11 ?_;refine dt (Zoz 9 J J J isAgg25 (Yof O))<|go 1 ?_;refine tt (Yx [(0,_)] 12 (enc:=Yd) ([(Zw i x y z).getD k 0/(Ki e x y z)]:List Int) J J K2 Ql ti3 J J J J J pZ.cells J J Z.h) (λv _=>?_);refine tt (Qr 60 12 8 J J J J J J O3 J (Zo pZ) Ql ti3 J pZ J J J O9 O3 J Z.h) λb1 _=>go 1 ?_;refine tt (t_st6 9 i J J J J J O3 Zll O (Pg 60 J (Zo pZ)) J Z.h aA) (λ_ _=>?_);refine go 7 ⟨O,?_⟩;exact Yi (k+1,_) O1 O1 K1 ⟨J,by rw [<-Zv9 O];rfl,aA⟩
    .obtain rfl:k=(Zw i x y z).length:=O;rw [bS];refine go 9 ?_;refine dt (Zoz 9 J J J isAgg25 (Yof O))<|go 4 ?_;refine Zc J (λo=>?_) (λo=>?_)
     .have F:(Zw i x y z).length=0:=by simpa using o
      refine go 2 ?_;refine tt (Yx [(0,_)] 13 (enc:=Yd) ([0]:List Int) J J K2 Ql ti3 J J J J J pZ.cells J J Z.h) λb2 _=>go 1 ?_;refine tt (t_st6 9 i J J J J J O3 Zll O (Pg 13 J (Zo pZ)) J Z.h aA) (λ_ _=>?_);refine go 7 ⟨O,?_⟩;refine Yhl (f_new 13 J J J) (λH=>?_);refine Zn (Yz 13 J J pZ)<|Zb4 (Xe 13 J Zm) (λB I=>?_);subst I;exact Zn (Oy 13 (q:=Ym 1 Yd (Xi B) (Hz (Zw i x y z) (Ki e x y z))) (aD (Ym 1 Yd (Xi B)) (dvL_0 F).symm) J J)<|Zn (Zh (q:=qC) (z:=(B,Hz (Zw i x y z) (Ki e x y z))) 71 13 71 J J J J J)<|Yi (i+1,zs ++ [(B,Hz (Zw i x y z) (Ki e x y z))]) ⟨O1,by rw [aP,m];rfl,λt Y=>Zhm (λt=>Hz (Zw t x y z) (Ki e x y z)) m u rfl Y,Ymo s H⟩ O1 K1 ⟨by rw [Yaf (λj _=>Ydd (c:=Hz (Zw i x y z) (Ki e x y z)) m j)];rfl,rfl,aA⟩
     .have F:(Zw i x y z).length≠0:=by simpa using o
      refine go 7 ⟨O,?_⟩;refine Yhl (f_new 60 J J J) (λH=>?_);refine Zn (Yz 60 J J pZ)<|Zb4 (Xe 60 J Zm) (λB I=>?_);subst I;exact Zn (Oy 60 (q:=Ym 1 Yd (Xi B) (Hz (Zw i x y z) (Ki e x y z))) (aD (Ym 1 Yd (Xi B)) (dvL_n F).symm) J J)<|Zn (Zh (q:=qC) (z:=(B,Hz (Zw i x y z) (Ki e x y z))) 71 60 71 J J J J J)<|Yi (i+1,zs ++ [(B,Hz (Zw i x y z) (Ki e x y z))]) ⟨O1,by rw [aP,m];rfl,λt Y=>Zhm (λt=>Hz (Zw t x y z) (Ki e x y z)) m u rfl Y,Ymo s H⟩ O1 K1 ⟨by rw [Yaf (λj _=>Ydd (c:=Hz (Zw i x y z) (Ki e x y z)) m j)];rfl,rfl,aA⟩
   .obtain rfl:i=3:=O;refine go 6 ?_;obtain⟨s1,s2,s3,rfl⟩:=Ylo m u;refine Zf (Za9 (q:=qC) 71 81 (s1,Hz x (Ki e x y z)) J J O5 J)<|Zf (Oy 81 (q:=Ym 1 Yd (Xi s1) (mdL e (Ki e x y z) x)) (aD (Ym 1 Yd (Xi s1)) (Zhn f).symm) J J)<|Zf (Za9 (q:=qC) 71 82 (s2,Hz y (Ki e x y z)) J J O5 J)<|Zf (Oy 82 (q:=Ym 1 Yd (Xi s2) (mdL e (Ki e x y z) y)) (aD (Ym 1 Yd (Xi s2)) (Zhn f).symm) J J)<|Zf (Za9 (q:=qC) 71 83 (s3,Hz z (Ki e x y z)) J J O5 J)<|Zf (Oy 83 (q:=Ym 1 Yd (Xi s3) (mdL e (Ki e x y z) z)) (aD (Ym 1 Yd (Xi s3)) (Zhn f).symm) J J)<|Zf (Oy 9 (q:=box l 116 #[.int .i64 fr,.int .i64 M,.int .i64 (e/(Ki e x y z)),Xi s1,Xi s2,Xi s3]) J J J)<|go 7 ?_;exact Yhm (.inl J) (s1,s2,s3) (fr3 s) (λa w hs=>Ziz hs results78 (Gl 6 J J isAgg116 Ln J) J) (by rw [mdO_t f,aF f]) aA J (Gr 81 J J J (Gr 82 J J J (Gr 83 J J J Za)))
abbrev Cf:=(Int×Int×Int)×List Int×List Int×List Int
def Nw(g:Zt):Cf:=(g.1,g.2.1.2,g.2.2.1.2,g.2.2.2.2)
abbrev cA (fr:Int) (g:Zt):Int:=max fr g.1.1
abbrev cB (a:Int) (g:Zt):Int:=min a g.1.2.1
abbrev cX (fr a:Int) (g:Zt) (c:List Int):List Int:=Pe c (cA fr g-g.1.1) (cB a g-cA fr g) (g.1.2.1-g.1.1)
abbrev cO (g:Zt):Int:=g.1.2.2*(g.1.2.1-g.1.1)^5
def cG(fr a:Int)(g:Zt):Int:=Ki (cO g) (cX fr a g g.2.1.2) (cX fr a g g.2.2.1.2) (cX fr a g g.2.2.2.2)
def Hb(fr a:Int)(g:Zt):Bool:=decide (cA fr g<cB a g)
def Ze6(fr a:Int)(g:Zt):Bool:=decide (cO g/cG fr a g<=4294967296)
def Zxk(fr a:Int)(g:Zt):Cf:=((cA fr g,cB a g,mdO (cO g) (cG fr a g)),mdL (cO g) (cG fr a g) (cX fr a g g.2.1.2),mdL (cO g) (cG fr a g) (cX fr a g g.2.2.1.2),mdL (cO g) (cG fr a g) (cX fr a g g.2.2.2.2))
def MdG(fr a:Int)(g:Zt):Prop:=Mdh (cO g) (cX fr a g g.2.1.2) (cX fr a g g.2.2.1.2) (cX fr a g g.2.2.2.2)
theorem Zsr{ps:List Zt}(hi:i<ps.length)(b:p (ps.getD i d)=true):(ps.filter p)[((ps.take i).filter p).length]? = some (ps.getD i d):=by
 have h:=fI i ps;have a:ps.drop i=ps.getD i d::ps.drop (i+1):=by rw [aK,aN hi,eQ];exact eH hi
 conv=>lhs;arg 1;rw [<-h,a]
 rw [fH,eA b];simp
theorem fl_t{ps:List Zt}(hi:i<ps.length)(a:p (ps.getD i d)=true):((ps.take (i+1)).filter p).length=((ps.take i).filter p).length+1:=by rw [Qx d _ _ hi,fH,eA a,aP];rfl
theorem fl_f{ps:List Zt}(hi:i<ps.length)(a:p (ps.getD i d)=false):((ps.take (i+1)).filter p).length=((ps.take i).filter p).length:=by rw [Qx d _ _ hi,fH,fX (by rw [a];exact eD),aP];rfl
def Zjx{d:Int}(h:1<=d/\d<=3600000):bl (d^5).natAbs<=132:=Zqn (Zcw O) 5 (aH _)
theorem Ynq{W:Nat}{H:Hp}{j k l:SL}{f g l3:List Int}(h:∀p∈[Ym 1 Yd (Xi j) f,Ym 1 Yd (Xi k) g,Ym 1 Yd (Xi l) l3],∀b,p.fp b->W<=b)(i:Nat)(n:lk H i=some (Ym 1 Yd (Xi j) f))(o:lk H (i+1)=some (Ym 1 Yd (Xi k) g))(q:lk H (i+2)=some (Ym 1 Yd (Xi l) l3)) :
  ∀p∈[Ym 1 Yd (Xi j) f,Ym 1 Yd (Xi k) g,Ym 1 Yd (Xi l) l3],p.own=false/\(∀b,p.fp b->W<=b)/\∃i m,lk H i=some m/\∀w,m.holds w->p.holds w:=λp e=>by
 have a:=h p e;simp only [bD,cM,fA]at e;rcases e with rfl|rfl|rfl
 .exact⟨rfl,a,_,_,n,λ_ h=>h⟩
 .exact⟨rfl,a,_,_,o,λ_ h=>h⟩
 .exact⟨rfl,a,_,_,q,λ_ h=>h⟩
theorem cut_b{fr b:Int}{g:Zt}(a:SgG g)(h:Hb fr b g=true):(cA fr g-g.1.1).natAbs<=3600000/\(cB b g-cA fr g).natAbs<=3600000/\Mw (cA fr g-g.1.1)/\Mw (cB b g-cA fr g):=by have k:=bW h;have e:=a.t1;have f:=a.t2;have j:=a.t3;unfold cA cB at *;exact⟨O,O,⟨O,O⟩,⟨O,O⟩⟩
theorem Yfk(v:Value)(ps:List Zt)(Q R S:Nat)(fr a:Int)(I:∀g∈ps,SgG g)(hM:∀g∈ps,Hb fr a g=true->MdG fr a g):Yuh prog 385 [.pointer (some ⟨Q,0,none⟩),.pointer (some ⟨R,0,none⟩),.pointer (some ⟨S,0,none⟩)] [Hr Q 36 #[v],Hr R 3 #[.int .i64 fr],Hr S 3 #[.int .i64 a],Qb 6 Qt qG v ps] (α:=Zt) (G:=SL×SL×SL) (ps.filter (Hb fr a)) (λc g=>[.agg #[.int .i64 (cA fr c),.int .i64 (cB a c),.int .i64 (mdO (cO c) (cG fr a c)),Xi g.1,Xi g.2.1,Xi g.2.2],.bool (Ze6 fr a c)]) (λc g=>[Ym 1 Yd (Xi g.1) (mdL (cO c) (cG fr a c) (cX fr a c c.2.1.2)),Ym 1 Yd (Xi g.2.1) (mdL (cO c) (cG fr a c) (cX fr a c c.2.2.1.2)),Ym 1 Yd (Xi g.2.2) (mdL (cO c) (cG fr a c) (cX fr a c c.2.2.2.2))]):=by
 refine Yes func385 J ntmps385 J K4 ?_;intro l M JI Jx w0 sc hw w t k F hY;simp only [Po,Xh];have N:=Hw.mk hw;refine Xr (Ps (i:=4) J Ze) λa3=>go 8 ?_;refine lp (G:=Nat×World) [0,2,3,12,13] [1,2,3,4] (λq=>[(14,.int .i64 (q.1:Int))]) (λq=>[(0,Xt q.2 (λ_=>False))]) (λq=>(q.1<=ps.length)/\(JI ((ps.take q.1).filter (Hb fr a)).length q.2)/\(w0.heap.size<=q.2.heap.size)) (λq=>ps.length-q.1) (0,w0) ⟨O1,F,aH _⟩ K1 K1 ?_;rintro⟨i,W⟩ ⟨hi,r,D⟩;dsimp only at hi r D;dsimp only;have d2:=hw_up N D;refine go 6<|Zc J (λn=>?_) (λn=>?_)
 .refine go 5 ?_;have f:=I _ (Zd (d:=G0) (show i<ps.length by omega));have c9:=f.t1;have d0:=f.t2;have d1:=f.t3;have c2:=f.o1;have H:=f.o2;refine Zf (Od (ps.getD i G0) ((ps.getD i G0).2.1) 4 51 J J (Zd O) O5)<|Zf (Od (ps.getD i G0) ((ps.getD i G0).2.2.1) 4 52 J J (Zd O) O5)<|Zf (Od (ps.getD i G0) ((ps.getD i G0).2.2.2) 4 53 J J (Zd O) O5)<|go 2 ⟨O2,?_⟩;refine dt (Xd 4 G0 J J J Ze pG O2)<|Yk (Yh 5) λbx _=>go 4 ?_;refine Qe (λ_=>False) [(0,0),(1,0),(2,0),(3,0),(4,0),(5,0),(6,0),(7,0),(8,0),(9,3)]<|go 3 ?_;refine Xb J J (Qa (Zcz J J J))<|go 3 ?_;refine Xb J J (Qa (Zn4 J J J))<|go 12 ?_;refine Zc J (λo=>?_) (λo=>?_)
  .have j:Hb fr a (ps.getD i G0)=false:=aE (by unfold cA cB;omega);refine go 8 ⟨O,?_⟩;exact Yi (i+1,W) ⟨O1,by rw [fl_f O j];exact r,D⟩ O1 K1 K1
  .have j:Hb fr a (ps.getD i G0)=true:=aF (by unfold cA cB;omega);have h:=hM _ (Zd (d:=G0) (show i<ps.length by omega)) j;obtain⟨z,B,c7,c8⟩:=cut_b f j;refine go 12 ⟨O,?_⟩;refine jn (G:=SL×SL×SL×Nat) [0,2,3,12,13,14] [0,1,2,3,4,51,52,53,5] (λq=>[(10,.pointer (some ⟨q.2.2.2,0,none⟩)),(11,.bool (Ze6 fr a (ps.getD i G0)))]) (λq=>[(90,Ym 1 Yd (Xi q.1) (mdL (cO (ps.getD i G0)) (cG fr a (ps.getD i G0)) (cX fr a (ps.getD i G0) (ps.getD i G0).2.1.2))),(91,Ym 1 Yd (Xi q.2.1) (mdL (cO (ps.getD i G0)) (cG fr a (ps.getD i G0)) (cX fr a (ps.getD i G0) (ps.getD i G0).2.2.1.2))),(92,Ym 1 Yd (Xi q.2.2.1) (mdL (cO (ps.getD i G0)) (cG fr a (ps.getD i G0)) (cX fr a (ps.getD i G0) (ps.getD i G0).2.2.2.2))),(93,box q.2.2.2 116 #[.int .i64 (cA fr (ps.getD i G0)),.int .i64 (cB a (ps.getD i G0)),.int .i64 (mdO (cO (ps.getD i G0)) (cG fr a (ps.getD i G0))),Xi q.1,Xi q.2.1,Xi q.2.2.1])]) (λq=>(∀p∈[Ym 1 Yd (Xi q.1) (mdL (cO (ps.getD i G0)) (cG fr a (ps.getD i G0)) (cX fr a (ps.getD i G0) (ps.getD i G0).2.1.2)),Ym 1 Yd (Xi q.2.1) (mdL (cO (ps.getD i G0)) (cG fr a (ps.getD i G0)) (cX fr a (ps.getD i G0) (ps.getD i G0).2.2.1.2)),Ym 1 Yd (Xi q.2.2.1) (mdL (cO (ps.getD i G0)) (cG fr a (ps.getD i G0)) (cX fr a (ps.getD i G0) (ps.getD i G0).2.2.2.2))],∀b,p.fp b->W.heap.size<=b)) ?_ ?_
   .refine Qn [5] [24]<|Zk 11 [(0,0),(1,0),(2,0),(3,0),(4,0),(5,0),(6,0),(7,0),(8,0),(9,0),(10,0),(12,0),(13,0),(15,0)]<|go 15 ⟨O,O,?_⟩;refine Pk 10 11 22 ?_ ?_
    .refine Nl (Zp 6 [51,52,53] (Zjt ((cA fr (ps.getD i G0))-(ps.getD i G0).1.1) ((cB a (ps.getD i G0))-(cA fr (ps.getD i G0))) ((ps.getD i G0).1.2.1-(ps.getD i G0).1.1) f z B ⟨O,O⟩)) λ⟨s,d3,d4⟩ _=>?_;refine Pk 9 14 22 ?_ ?_
     .refine Nl (Zp 8 [] (Zz (ps.getD i G0).1.2.2)) λ_ _=>?_;refine Pk 8 16 22 ?_ ?_
      .refine Nl (Zp 8 [] (Fv ((ps.getD i G0).1.2.1-(ps.getD i G0).1.1) 5 (aB (Zcw O) O3) O3 O3)) λ_ _=>?_;refine Pk 7 17 22 ?_ ?_
       .refine Nl (Zp 8 [] (Ay (ps.getD i G0).1.2.2 (((ps.getD i G0).1.2.1-(ps.getD i G0).1.1)^5) (aB (Dq ⟨O,O⟩) O3) (aB (Zjx ⟨O,O⟩) O3))) λ_ _=>?_;refine Pk 6 18 22 ?_ ?_
        .refine Nl (Yfe 90 [6,7,8] (Zef (cA fr (ps.getD i G0)) (cB a (ps.getD i G0)) (cO (ps.getD i G0)) (cX fr a (ps.getD i G0) (ps.getD i G0).2.1.2) (cX fr a (ps.getD i G0) (ps.getD i G0).2.2.1.2) (cX fr a (ps.getD i G0) (ps.getD i G0).2.2.2.2) h)) λ⟨d5,d6,d7⟩ ⟨_,e⟩=>?_;refine Zk 0 [(19,0),(20,0),(21,0),(22,1),(23,1),(24,3)]<|go 3 ?_;refine Ys (Qo 93) λV ho=>go 3<|Zu ?_;exact On (_,_,_,_) e K2 K4
        .refine Nl (Qo 93) λY H=>?_;refine Zk 0 [(18,1),(19,0),(20,0),(21,0),(23,1),(24,3)]<|Ys (Yfe 90 [6,7,8] (Zef (cA fr (ps.getD i G0)) (cB a (ps.getD i G0)) (cO (ps.getD i G0)) (cX fr a (ps.getD i G0) (ps.getD i G0).2.1.2) (cX fr a (ps.getD i G0) (ps.getD i G0).2.2.1.2) (cX fr a (ps.getD i G0) (ps.getD i G0).2.2.2.2) h)) λ⟨d8,d9,e0⟩ ⟨_,e⟩=>go 6 ?_;exact Zu<|On (_,_,_,_) e K2 K4
       .refine Nl (Qo 93) λZ c3=>?_;refine Zk 0 [(17,1),(18,1),(19,0),(20,0),(21,0),(23,1),(24,3)]<|Ys (Zp 8 [] (Ay (ps.getD i G0).1.2.2 (((ps.getD i G0).1.2.1-(ps.getD i G0).1.1)^5) (aB (Dq ⟨O,O⟩) O3) (aB (Zjx ⟨O,O⟩) O3))) λ_ _=>Ys (Yfe 90 [6,7,8] (Zef (cA fr (ps.getD i G0)) (cB a (ps.getD i G0)) (cO (ps.getD i G0)) (cX fr a (ps.getD i G0) (ps.getD i G0).2.1.2) (cX fr a (ps.getD i G0) (ps.getD i G0).2.2.1.2) (cX fr a (ps.getD i G0) (ps.getD i G0).2.2.2.2) h)) λ⟨a4,a5,a6⟩ ⟨_,e⟩=>go 6 ?_;exact Zu<|On (_,_,_,_) e K2 K4
      .refine Nl (Qo 93) λa0 c4=>?_;refine Zk 0 [(16,1),(17,1),(18,1),(19,0),(20,0),(21,0),(23,1),(24,3)]<|Ys (Zp 8 [] (Fv ((ps.getD i G0).1.2.1-(ps.getD i G0).1.1) 5 (aB (Zcw O) O3) O3 O3)) λ_ _=>Ys (Zp 8 [] (Ay (ps.getD i G0).1.2.2 (((ps.getD i G0).1.2.1-(ps.getD i G0).1.1)^5) (aB (Dq ⟨O,O⟩) O3) (aB (Zjx ⟨O,O⟩) O3))) λ_ _=>Ys (Yfe 90 [6,7,8] (Zef (cA fr (ps.getD i G0)) (cB a (ps.getD i G0)) (cO (ps.getD i G0)) (cX fr a (ps.getD i G0) (ps.getD i G0).2.1.2) (cX fr a (ps.getD i G0) (ps.getD i G0).2.2.1.2) (cX fr a (ps.getD i G0) (ps.getD i G0).2.2.2.2) h)) λ⟨a7,a8,a9⟩ ⟨_,e⟩=>go 6 ?_;exact Zu<|On (_,_,_,_) e K2 K4
     .refine Nl (Qo 93) λa1 c5=>?_;refine Zk 0 [(14,1),(16,1),(17,1),(18,1),(19,0),(20,0),(21,0),(23,1),(24,3)]<|Ys (Zp 8 [] (Zz (ps.getD i G0).1.2.2)) λ_ _=>Ys (Zp 8 [] (Fv ((ps.getD i G0).1.2.1-(ps.getD i G0).1.1) 5 (aB (Zcw O) O3) O3 O3)) λ_ _=>Ys (Zp 8 [] (Ay (ps.getD i G0).1.2.2 (((ps.getD i G0).1.2.1-(ps.getD i G0).1.1)^5) (aB (Dq ⟨O,O⟩) O3) (aB (Zjx ⟨O,O⟩) O3))) λ_ _=>Ys (Yfe 90 [6,7,8] (Zef (cA fr (ps.getD i G0)) (cB a (ps.getD i G0)) (cO (ps.getD i G0)) (cX fr a (ps.getD i G0) (ps.getD i G0).2.1.2) (cX fr a (ps.getD i G0) (ps.getD i G0).2.2.1.2) (cX fr a (ps.getD i G0) (ps.getD i G0).2.2.2.2) h)) λ⟨b0,b4,b5⟩ ⟨_,e⟩=>go 6 ?_;exact Zu<|On (_,_,_,_) e K2 K4
    .refine Nl (Qo 93) λa2 c6=>?_;refine Zk 0 [(11,1),(14,1),(16,1),(17,1),(18,1),(19,0),(20,0),(21,0),(23,1),(24,3)]<|Ys (Zp 9 [51,52,53] (Zjt ((cA fr (ps.getD i G0))-(ps.getD i G0).1.1) ((cB a (ps.getD i G0))-(cA fr (ps.getD i G0))) ((ps.getD i G0).1.2.1-(ps.getD i G0).1.1) f z B ⟨O,O⟩)) λ⟨b6,b7,b8⟩ _=>Ys (Zp 11 [] (Zz (ps.getD i G0).1.2.2)) λ_ _=>Ys (Zp 11 [] (Fv ((ps.getD i G0).1.2.1-(ps.getD i G0).1.1) 5 (aB (Zcw O) O3) O3 O3)) λ_ _=>Ys (Zp 11 [] (Ay (ps.getD i G0).1.2.2 (((ps.getD i G0).1.2.1-(ps.getD i G0).1.1)^5) (aB (Dq ⟨O,O⟩) O3) (aB (Zjx ⟨O,O⟩) O3))) λ_ _=>Ys (Yfe 90 [9,10,11] (Zef (cA fr (ps.getD i G0)) (cB a (ps.getD i G0)) (cO (ps.getD i G0)) (cX fr a (ps.getD i G0) (ps.getD i G0).2.1.2) (cX fr a (ps.getD i G0) (ps.getD i G0).2.2.1.2) (cX fr a (ps.getD i G0) (ps.getD i G0).2.2.2.2) h)) λ⟨b9,c0,c1⟩ ⟨_,e⟩=>go 6 ?_;exact Zu<|On (_,_,_,_) e K2 K4
   .rintro⟨s1,s2,s3,bj⟩ e;dsimp only at e;dsimp only;refine go 1<|Ym6 ?_;refine Kn (Zbw J J) J<|Kn (d_lbw (i:=93) J J J isAgg116 Ln J) J<|Kn (Zbw J J) J<|Yl2 [_,_,_,_] (vs:=[_,_]) (ps.getD i G0) (s1,s2,s3) hY (Zsr O j) r D w J J J J J K2 J J (Ynq e 90 J J J) K4 K4 (λP m u=>?_) (λP m u=>?_)
    .simp only [Xh];refine Kn (dF (Qc J J) J) J<|Zbb<|go 9 ⟨O,?_⟩;exact Yi (i+1,P) ⟨O1,by rw [fl_t O j];exact m,u⟩ O1 K1 K1
    .simp only [Xh];refine Kn (dT (Qc J J) J) J<|Zbb<|go 7 ?_;exact Zfp (.inl J) J J t k (.inr m)
 .obtain rfl:i=ps.length:=O;rw [bS]at r;exact go 4<|Zfp (.inr J) J J t k (.inl r)
open Go.RowKit Below
variable {P:Program} {N:Nat} {sc:Nat->Prop} {env env':Pt} {H H':Hp} {Q Q':Exit->Act->World->Prop} {l:Nat}
def ER(P:Program)(N:Nat)(sc:Nat->Prop)(l:Nat)(c:Code)(Q:Exit->Act->World->Prop)(env:Pt)(H:Hp):Prop:=
 ∀a w,Sat N sc env H a w->c.wpIn (Fence.wide.inRound l) 0 P Q a w
def ndB(o:Oper):Bool:=match o.op with
 | .defer _=>false
 | _=>true
theorem Zp0(h:ops.all ndB=true):Zr4 ops:=λo b c a=>by have:=bZ.1 h o b;unfold ndB at this;rw [a]at this;cases this
def Zs2(b:ops.all ndB=true)(h:L P N sc ops.toArray ops (Eu (Exit.then (λa w=>y.wpIn (Fence.wide.inRound l) 0 P Q a w) Q)) env H):ER P N sc l (.seq (.region id ops.toArray false) y) Q env H:=
 λa w hs=>wpIn_seq (Yjt (Zp0 b) h hs)
def Ydr(b:ops.all ndB=true)(h:L P N sc ops.toArray ops (Eu Q) env H):ER P N sc l (.region id ops.toArray false) Q env H:=
 λa w hs=>Yjt (Zp0 b) h hs
def Ypf(h:ER P N sc l y Q env H):X N sc .normal (Eu (Exit.then (λa w=>y.wpIn (Fence.wide.inRound l) 0 P Q a w) Q)) env H:=λa w hs=>h a w hs
def Ypg(h:∀a w,Sat N sc env H a w->Q .normal a w):X N sc .normal (Eu Q) env H:=λa w hs=>h a w hs
def er_seq(h:ER P N sc l x (Exit.then (λa w=>y.wpIn (Fence.wide.inRound l) 0 P Q a w) Q) env H):ER P N sc l (.seq x y) Q env H:=λa w hs=>wpIn_seq (h a w hs)
def Zw2(h:ER P N sc l c (Exit.inBlock id Q) env H):ER P N sc l (.block id c) Q env H:=λa w hs=>wpIn_block (h a w hs)
theorem Ym3{c:Operand}{b:Bool}(e:ev env c=some (.bool b))(g:b=true->ER P N sc l x Q env H)(f:b=false->ER P N sc l y Q env H):ER P N sc l (.cond c x y) Q env H:=λa w hs=>by
 cases b with
 | true=>exact wpIn_cond_true (hs.ev e) (g rfl a w hs)
 | false=>exact wpIn_cond_false (hs.ev e) (f rfl a w hs)
def Ydq(h:∀a w,Sat N sc env H a w->Q .normal a w):ER P N sc l .skip Q env H:=λa w hs=>wpIn_skip (h a w hs)
def Ym1(h:∀a w,Sat N sc env H a w->Q .ret a w):ER P N sc l .ret Q env H:=λa w hs=>wpIn_ret (h a w hs)
def Ym2(b:∀a w,Sat N sc env H a w->Sat N sc env' H' a w)(h:ER P N sc l c Q env' H'):ER P N sc l c Q env H:=λa w hs=>h a w (b a w hs)
theorem Kt{β:Type}(i k:Nat)(enc:β->Value)(q:β->Pc):∀a w,Sat N sc env H a w->Sat N sc env ((i,Qb k enc q (.slice none 0 0) [])::H) a w:=λa w hs=>
 hs.add i _ ⟨Ap k enc w,λz f=>by cases f⟩ (λh j _ _ Eh b e g=>by
  rcases e with e|⟨z,f,_⟩
  .exact absurd rfl e.1
  .cases f) (λb e=>by
  rcases e with e|⟨z,f,_⟩
  .exact absurd rfl e.1
  .cases f)
theorem Ymq{a:Hp}{g:Zt}(i j:Nat)(h:lk a i=some (Nt qG zs))(k:lk a j=some (Ym 1 Yd (Xi g.2.1.1) g.2.1.2))(m:lk a (j+1)=some (Ym 1 Yd (Xi g.2.2.1.1) g.2.2.1.2))(n:lk a (j+2)=some (Ym 1 Yd (Xi g.2.2.2.1) g.2.2.2.2)) :
  ∀b,(Nt qG (zs ++ [g])).fp b->∃j q,lk a j=some q/\q.fp b:=λb ⟨z,o,e⟩=>by
 rcases cP.1 o with q|q
 .exact⟨i,_,h,z,q,e⟩
 .rw [cI.1 q]at e;obtain⟨c,f,e⟩:=e;simp only [bD,cM,fA]at f;rcases f with rfl|rfl|rfl
  .exact⟨j,_,k,e⟩
  .exact⟨j+1,_,m,e⟩
  .exact⟨j+2,_,n,e⟩
end Go.Sky
namespace Go.Sky
variable{zs:List Zt}{x y:Operand}{v:Value}{r:List Value}{xs:List Int}{b c off:Nat}{w0 w:World}{M0:Nat->Prop}{a:Act}{o:Oper}{t tb:TypeId}{kd:IntKind}{m:Int}
theorem Zbd{k l n p q s d e f g h j:Value}:Instr.fill (λi=>some (i*6,6)) ((List.range (1*6)).map ((Value.agg #[k,l,n,p,q,s]).cells[· % (Value.agg #[k,l,n,p,q,s]).cells.size]!)).toArray [(0,.agg #[d,e,f,g,h,j])]=some #[d,e,f,g,h,j]:=by
 simp [Instr.fill,Value.cells,List.range,List.range.loop]
 try rfl
def Px(fr d:Int)(ps:List Zt):Bool:=(ps.filter (Hb fr d)).all (Ze6 fr d)
def Zby(fr d:Int)(ps:List Zt):List Cf:=if Px fr d ps=true then(ps.filter (Hb fr d)).map (Zxk fr d)else []
def Zxl(fr d:Int)(ps:List Zt):Int:=if Px fr d ps=true then 0 else 7
def Zyj(fr d:Int)(x:Zt)(g:SL×SL×SL):Zt:=((cA fr x,cB d x,mdO (cO x) (cG fr d x)),(g.1,mdL (cO x) (cG fr d x) (cX fr d x x.2.1.2)),(g.2.1,mdL (cO x) (cG fr d x) (cX fr d x x.2.2.1.2)),(g.2.2,mdL (cO x) (cG fr d x) (cX fr d x x.2.2.2.2)))
def Zta(fr d:Int)(ps:List Zt)(k:Nat)(zs:List Zt):Prop:=zs.map Nw=((ps.filter (Hb fr d)).take k).map (Zxk fr d)/\((ps.filter (Hb fr d)).take k).all (Ze6 fr d)=true
theorem Zio{α:Type}{xs:List α}{k:Nat}{x:α}(h:xs[k]? = some x):xs.take (k+1)=xs.take k ++ [x]:=by rw [List.take_add_one,h];rfl
theorem Ynv(fr d:Int)(ps:List Zt):Zta fr d ps 0 []:=⟨by rw [dW];rfl,by rw [dW];rfl⟩
theorem cutI_s{fr d:Int}{ps:List Zt}{k:Nat}{x:Zt}{g:SL×SL×SL}(h:Zta fr d ps k zs)(e:(ps.filter (Hb fr d))[k]? = some x)(j:Ze6 fr d x=true):Zta fr d ps (k+1) (zs ++ [Zyj fr d x g]):=by
 obtain⟨f,i⟩:=h;refine⟨?_,?_⟩
 .rw [Zio e,bN,bN,f];rfl
 .rw [Zio e,kT,i];simp [j]
theorem Ynt{fr d:Int}{ps:List Zt}{k:Nat}(h:Zta fr d ps k zs)(e:k<=ps.length):zs.length<=ps.length:=by have:=aD List.length h.1;rw [aT,aT,dG]at this;have:=iV (Hb fr d) ps;omega
theorem Zz3{fr d:Int}{ps:List Zt}{k:Nat}{x:Zt}(f:(ps.filter (Hb fr d))[k]? = some x)(e:Ze6 fr d x=false):Px fr d ps=false:=by
 unfold Px;cases hb:(ps.filter (Hb fr d)).all (Ze6 fr d)with
 | false=>rfl
 | true=>
  have:=bZ.1 hb x (jE f);rw [e]at this;cases this
theorem Ynu{fr d:Int}{ps:List Zt}(h:Zta fr d ps (ps.filter (Hb fr d)).length zs):zs.map Nw=Zby fr d ps/\Zxl fr d ps=0:=by obtain⟨f,e⟩:=h;rw [bS]at f e;exact⟨by unfold Zby Px;rw [aM e];exact f,by unfold Zxl Px;rw [aM e]⟩
theorem Ynr{fr d:Int}{ps:List Zt}(h:Px fr d ps=false):([]:List Zt).map Nw=Zby fr d ps/\Zxl fr d ps=7:=by unfold Zby Zxl;rw [aJ (by rw [h];exact eD),aJ (by rw [h];exact eD)];exact⟨rfl,rfl⟩
def spF(ps:List Zt):Int:=(ps.getD 0 G0).1.1
def spL(ps:List Zt):Int:=(ps.getD (ps.length-1) G0).1.2.1
open Go.Proofs.Tryz
open Go.Proofs
set_option synthInstance.maxHeartbeats 0
set_option synthInstance.maxSize 100000
set_option maxRecDepth 20000
set_option linter.unusedSimpArgs false
theorem Yit{ps:List Zt}{fr i:Int}:Cal prog 354 #[v,.int .i64 fr,.int .i64 i] [Qb 6 Qt qG v ps] true (G:=Nat×Nat×Nat) (λg=>True) (λg=> .func (.func 385) #[] #[.pointer (some ⟨g.1,0,none⟩),.pointer (some ⟨g.2.1,0,none⟩),.pointer (some ⟨g.2.2,0,none⟩)]) (λg=>[Hr g.1 36 #[v],Hr g.2.1 3 #[.int .i64 fr],Hr g.2.2 3 #[.int .i64 i]]):=by refine Zg func354 ntmps354 λw0 l k d=>?_;refine Zdt (Xe 1 J Ze) (λn e=>?_);subst e;refine go 2<|Yk (Yf 2) λj _=>Yk (Yf 3) λf _=>Yk (Yf 4) λh _=>go 5 ?_;refine dt (Yd2 [] [_,_,_] J aA K3)<|go 4 ?_;exact Zn (Ziu 2 J J)<|Zn (Ziu 3 J J)<|Zn (Ziu 4 J J)<|Yq d (_,_,_) results354 J aA (Qy 2 (Qy 3 (Qy 4 Za)))
@[reducible,instance] def encGI:EncT prog 116 6 Qt:=⟨pG⟩
theorem Yiv{ps:List Zt}{fr d:Int}(V:∀g∈ps,SgG g)(hM:∀g∈ps,Hb fr d g=true->MdG fr d g)(a0:ps.length<=256):Cal prog 300 #[v,.int .i64 fr,.int .i64 d] [Qb 6 Qt qG v ps] true (G:=Value×List Zt) (λg=>g.2.map Nw=Zby fr d ps) (λg=> .tuple #[g.1,.int .i64 (Zxl fr d ps)]) (λg=>[Qb 6 Qt qG g.1 g.2]):=by
 refine Yet func300 J ntmps300 J K1 ?_;intro w0 sc M I;have M:=Hw.mk M;simp only [Po,Xh];refine go 2<|Yk (Yh 2) λu _=>Yk (Yh 3) λe _=>go 8 ?_;refine cl 4 [1] Yit λ⟨b,F,H⟩ _=>go 3<|Zf (Qi 70 6 116 Qt)<|Zf (Ya qG 73) ?_;refine e_rfi ([Hr b 36 #[v],Hr F 3 #[.int .i64 fr],Hr H 3 #[.int .i64 d],Qb 6 Qt qG v ps]) w0 (λ(_:Nat) (n:Value×List Zt)=>[(0,Xt w0 (λ_=>False)),(1,Qb 6 Qt qG v ps),(2,box u 36 #[n.1]),(3,box e 28 #[.int .i64 0]),(70,Oc 6 116 Qt n.1 n.2),(73,Nt qG n.2)]) (λk n=>Zta fr d ps k n.2) (λ(_:Unit)=>[(0,Xt w0 (λ_=>False)),(2,box u 36 #[.slice none 0 0]),(3,box e 28 #[.int .i64 7])]) (λ_=>Px fr d ps=false) (.slice none 0 0,[]) J (by intro s w;first|exact enters_of func385 O6 rfl s w|exact call385 s w) (Yfk v ps b F H fr d V hM) ?_ (λ_ _=>J) J M.h J (Ynv fr d ps) K6 (λ_ _=>⟨J,J⟩) (λ_=>⟨J,J⟩) (λk x f n W j l Mf Wa=>?_) J (λn j D od=>?_) (λ_ N=>?_)
 .intro p Z;simp only [bD,cM,fA]at Z;rcases Z with rfl|rfl|rfl|rfl
  .exact⟨J,4,J⟩
  .exact⟨J,5,J⟩
  .exact⟨J,6,J⟩
  .exact⟨J,1,J⟩
 .obtain⟨B,zs⟩:=n;have S:k<=ps.length:=aB (dI (jT.1 W).1) (iV _ _);have a1:zs.length<=ps.length:=Ynt j S;refine Ym2 (env':=[(15,.bool (Ze6 fr d x)),(14,.agg #[.int .i64 (cA fr x),.int .i64 (cB d x),.int .i64 (mdO (cO x) (cG fr d x)),Xi f.1,Xi f.2.1,Xi f.2.2]),(6,.pointer (some ⟨u,0,none⟩)),(7,.pointer (some ⟨e,0,none⟩))]) (H':=[(92,Xt Wa Mf),(100,Ym 1 Yd (Xi f.1) (mdL (cO x) (cG fr d x) (cX fr d x x.2.1.2))),(101,Ym 1 Yd (Xi f.2.1) (mdL (cO x) (cG fr d x) (cX fr d x x.2.2.1.2))),(102,Ym 1 Yd (Xi f.2.2) (mdL (cO x) (cG fr d x) (cX fr d x x.2.2.2.2))),(0,Xt w0 (λ_=>False)),(1,Qb 6 Qt qG v ps),(2,box u 36 #[B]),(3,box e 28 #[.int .i64 0]),(70,Oc 6 116 Qt B zs),(73,Nt qG zs)]) (λa w hs=>hs.weaken ⟨J,J,J,J,aA⟩ ⟨J,J,J,J,J,J,J,J,J,J,aA⟩)<|Zs2 J<|Yk (Yh 8) λY _=>go 1 ?_;refine go 1 ?_;refine Ypf<|Ydr J<|go 1 ?_;refine go 1 ?_;refine Ypg λa w hs=>⟨J,[(8,.pointer (some ⟨Y,0,none⟩)),(9,.bool (Ze6 fr d x)),(6,.pointer (some ⟨u,0,none⟩)),(7,.pointer (some ⟨e,0,none⟩))],[(8,box Y 116 #[.int .i64 (cA fr x),.int .i64 (cB d x),.int .i64 (mdO (cO x) (cG fr d x)),Xi f.1,Xi f.2.1,Xi f.2.2]),(100,Ym 1 Yd (Xi f.1) (mdL (cO x) (cG fr d x) (cX fr d x x.2.1.2))),(101,Ym 1 Yd (Xi f.2.1) (mdL (cO x) (cG fr d x) (cX fr d x x.2.2.1.2))),(102,Ym 1 Yd (Xi f.2.2) (mdL (cO x) (cG fr d x) (cX fr d x x.2.2.2.2))),(0,Xt w0 (λ_=>False)),(1,Qb 6 Qt qG v ps),(2,box u 36 #[B]),(3,box e 28 #[.int .i64 0]),(70,Oc 6 116 Qt B zs),(73,Nt qG zs)],J,(λq h=>by cases h;rfl),⟨.inl J,.inr (λb i=>⟨100,_,J,i⟩),.inr (λb i=>⟨101,_,J,i⟩),.inr (λb i=>⟨102,_,J,i⟩),.inr (λb i=>⟨0,_,J,i⟩),.inr (λb i=>⟨1,_,J,i⟩),.inl J,.inl J,.inl J,.inr (λb i=>⟨73,_,J,i⟩),aA⟩,hs.weaken ⟨J,J,J,J,aA⟩ ⟨J,J,J,J,J,J,J,J,J,J,J,aA⟩,λWb _=>?_⟩;refine Zw2<|er_seq<|Zs2 J<|go 2 ?_;refine go 1 ?_;refine Ypf<|Ym3 J (λR=>?_) (λR=>?_)
  .refine Zs2 J<|go 2 ?_;refine go 1 ?_;exact Ypf<|Ym1 λa w hs=>Or.inr ⟨J,(),Zz3 W (Ce R),⟨.inr (λb i=>⟨0,_,J,i⟩),.inl J,.inl J,aA⟩,[],hs.weaken aA ⟨J,J,J,J,aA⟩⟩
  .refine Ydq<|Ydr J<|go 2 ?_;refine tt (Yx [(0,_)] 12 (enc:=Qt) [(Zyj fr d x f)] J J K2 Mm ti116 J J Zbd J J pG.cells J J M.h) (λv2 _=>?_);refine tt (Qr 70 12 96 J J J J J J O3 J (Zo pG) Mm ti116 J pG J J J O9 O3 J M.h) λv3 _=>go 2 ?_;exact Zn (Ya qC 71)<|Zn (Zh (q:=qC) (z:=(Zyj fr d x f).2.1) 71 100 71 J J J J J)<|Zn (Zh (q:=qC) (z:=(Zyj fr d x f).2.2.1) 71 101 71 J J J J J)<|Zn (Zh (q:=qC) (z:=(Zyj fr d x f).2.2.2) 71 102 71 J J J J J)<|Zn (Zh (q:=qG) (z:=(Zyj fr d x f)) 73 71 73 J J J J J)<|Ypg λa w hs=>Or.inl ⟨J,(v3,zs ++ [(Zyj fr d x f)]),cutI_s j W (Dg R),⟨.inr (λb i=>⟨0,_,J,i⟩),.inr (λb i=>⟨1,_,J,i⟩),.inl J,.inl J,.inl J,.inr (Ymq 73 100 J J J J),aA⟩,[],hs.weaken aA ⟨J,J,J,J,J,J,J,aA⟩⟩
 .obtain⟨B,zs⟩:=n;obtain⟨P,Q⟩:=Ynu j;refine go 3 ?_;refine go 1 ?_;refine Ypg λa w hs=>⟨J,[(6,.pointer (some ⟨u,0,none⟩)),(7,.pointer (some ⟨e,0,none⟩))],[(0,Xt w0 (λ_=>False)),(1,Qb 6 Qt qG v ps),(2,box u 36 #[B]),(3,box e 28 #[.int .i64 0]),(70,Oc 6 116 Qt B zs),(73,Nt qG zs)],J,⟨⟨_,J,J,λ_ h=>h⟩,⟨_,J,J,λ_ h=>h⟩,⟨_,J,J,λ_ h=>h⟩,⟨_,J,J,λ_ h=>h⟩,⟨_,J,J,λ_ h=>h⟩,⟨_,J,J,λ_ h=>h⟩,aA⟩,hs.weaken ⟨J,J,aA⟩ ⟨J,J,J,J,J,J,J,aA⟩,?_⟩;exact Zn (Yz 70 J J pG)<|Zn (Yy 70 73 72 J J J J)<|Nb I (B,zs) results300 (by rw [Q]) P (Qy 72 Za)
 .exact Zn (Kt 72 6 Qt qG)<|Nb I (.slice none 0 0,[]) results300 (by rw [(Ynr N).2]) (Ynr N).1 (Qy 72 Za)
open Go.RowKit Below
variable {P:Program} {N:Nat} {sc:Nat->Prop} {env env':Pt} {H H':Hp} {Q Q':Exit->Act->World->Prop} {M:Nat->Prop}
def wcr(l:List Int)(r:List Value):Array Value:=(l.map (Value.int .i64) ++ r).toArray
theorem Zlp(l:List Int)(r:List Value):(wcr l r).size=l.length+r.length:=by simp [wcr]
theorem Ypp{l:List Int}{j:Nat}(h:j<l.length):(wcr l r)[j]? = some (.int .i64 (l.getD j 0)):=by simp [wcr,eG,h,aK]
theorem Ypo{l:List Int}{j:Nat}{v:Int}(h:j<l.length):Fe (wcr l r) j [.int .i64 v]=wcr (l.set j v) r:=by unfold Fe wcr;congr 1;rw [List.set_eq_take_append_cons_drop,aM h,bN,bH,jC,List.map_drop];grind
theorem Yae(l:List Int):cellsOf Yd l=l.map (Value.int .i64):=by
 induction l with
 | nil=>rfl
 | cons x l d=>rw [show cellsOf _ _=(Yd x).cells.toList ++ cellsOf _ l from rfl,d];rfl
theorem f_obox{e:TypeId}(i:Nat)(hi:lk H i=some (Oc 1 e Yd v xs))(u:xs≠[]):∀a w,Sat N sc env H a w->∃y:Nat×Nat×List Value,
  v= .slice (some ⟨y.1,0,none⟩) xs.length y.2.1/\xs.length+y.2.2.length=y.2.1/\y.2.1<=maxLen/\w.heap[y.1]? = some (.cells (wcr xs y.2.2) e (0,0)):=λa w hs=>by
 have f:=hs.hold i _ hi;rcases f.2 with⟨rfl,s⟩|⟨g,h,d,rfl,p,q,n,j,l,k⟩
 .grind
 .refine⟨(g,h,d.toList.drop xs.length),rfl,?_,j,?_⟩
  .grind
  .rw [show wcr xs _=d by unfold wcr;grind [Yae,List.take_append_drop]]
   omega
theorem s_obox {e:TypeId}      (i:Nat) (hi:lk H i=some (Oc 1 e Yd (.slice (some ⟨b,0,none⟩) xs.length c) xs)) (g:Nat.beq i 0=false) (d:lk H 0=some (Xt w0 M0)) (j:∀b,w0.heap.size<=b->sc b)
    (hs:Sat N sc env H a w) (f:w.heap[b]? = some (.cells (wcr xs r) e (0,0))):Sat N sc env ((i,box b e (wcr xs r))::H) a w:=
 hs.upd hi rfl (λe=>O11) (Chg.refl _ w) f (λk h=> .inl (by show some b=some k;rw [show k=b from h])) d j
theorem e_obox {f:Code} {e:TypeId}     (i:Nat) (hi:lk H i=some (Oc 1 e Yd v xs)) (d:Nat.beq i 0=false) (q:xs≠[]) (g:lk H 0=some (Xt w0 M0)) (p:∀b,w0.heap.size<=b->sc b)
  (h:∀(b c:Nat) (r:List Value),v= .slice (some ⟨b,0,none⟩) xs.length c->xs.length+r.length=c->c<=maxLen->E P N sc f Q env ((i,box b e (wcr xs r))::H)):E P N sc f Q env H:=λa w hs=>by
 obtain⟨⟨b,c,r⟩,n,j,k,l⟩:=f_obox i hi q a w hs;subst n;exact h b c r rfl j k a w (s_obox i hi d g p hs l)
theorem Yqn{e:TypeId}(i:Nat)(hi:lk H i=some (box b e (wcr xs r)))(g:Nat.beq i 0=false)(n:xs.length+r.length=c)(j:c<=maxLen)(d:lk H 0=some (Xt w0 M0))(l:∀b,w0.heap.size<=b->sc b) :
  ∀a w,Sat N sc env H a w->Sat N sc env ((i,Oc 1 e Yd (.slice (some ⟨b,0,none⟩) xs.length c) xs)::H) a w:=λa w hs=>by
 have f:=hs.hold i _ hi;refine hs.upd hi rfl (λe=>O11) (Chg.refl _ w) ?_ (λk h=> .inl (by cases h;rfl)) d l;refine⟨by rw [Yae,aT,jX],.inr ⟨b,c,_,rfl,aV _,f,O,j,by simp_all [Zlp,jX],?_⟩⟩;rw [Yae];show((xs.map _) ++ r).take _=_;simp
theorem Za4 (i:Nat)   {e:TypeId} {n:Nat}   (h:o.op= .indexAddr t x y) (k:ev env x=some (.slice (some ⟨b,off,none⟩) n c)) (l:ev env y=some (.int kd m))
  (j:P.underlying t=some (.slice e)) (g:∀w,(sizeOf e).run P w= .ok 1 w) (d:m=(i:Int)) (f:i<n):Mk P N sc o env H (.pointer (some ⟨b,off+i,none⟩)):=λa w hs=>by
 subst d;simp [execOp,h,hs.ev k,hs.ev l,Instr.indexAt,asIntOf,run_underlying j,g,f,Ni]
theorem Zs7   {e:TypeId} {d:Option Addr} {n:Nat} (f:o.op= .call { callee:= .builtin .len,args:=#[x],argTypes:=#[t] })
  (h:ev env x=some (.slice d n c)) (g:P.underlying t=some (.slice e)):Mk P N sc o env H (.int .i64 (n:Int)):=λa w hs=>by
 simp [execOp,f,resolve,hs.ev h,invoke,builtin,Builtin.len_,run_underlying g,goInt]
def Zdx (i:Nat){j:Nat}{l:List Int}(f:o.op= .load t x)(h:ev env x=some (.pointer (some ⟨b,j,none⟩)))(d:lk H i=some (box b tb (wcr l r)))(g:∀w,(isAgg t).run P w= .ok false w)(e:j<l.length) :
  Mk P N sc o env H (.int .i64 (l.getD j 0)):=Zoz _ f h d g (Ypp e)
theorem Zue (i:Nat)    {j:Nat} {l:List Int}  {v:Int}   (p:o.op= .store t x y) (h:o.dst=none)
  (z:ev env x=some (.pointer (some ⟨b,j,none⟩))) (B:ev env y=some (.int .i64 v)) (f:lk H i=some (box b tb (wcr l r))) (d:i≠0) (n:∀w,(sizeOf t).run P w= .ok 1 w) (k:j<l.length)
  (e:lk H 0=some (Xt w0 M0)) (s:∀b,w0.heap.size<=b->sc b) (g:M b) :
  T P N sc M o env H (G:=Unit) (λ_=>True) (λ_=>env) (λ_=>(i,box b tb (wcr (l.set j v) r))::H):=by
 rw [<-Ypo k];exact Zjp p h z B f d rfl n rfl (by grind [Zlp]) (λu q=>Zl (by rw [List.mem_singleton.1 q];rfl)) rfl e s g
theorem Yni (i:Nat)   {e:TypeId} {n:Nat}   (l:o.op= .slice t x (some y) none none) (q:ev env x=some (.slice (some ⟨b,off,none⟩) n c)) (s:ev env y=some (.int kd m))
  (p:P.underlying t=some (.slice e)) (h:∀w,(sizeOf e).run P w= .ok 1 w) (d:m=(i:Int)) (j:i<n) (k:n<=c):Mk P N sc o env H (.slice (some ⟨b,off+i,none⟩) (n-i) (c-i)):=λa w hs=>by
 subst d;have f:i<=n:=O;have g:=O;simp [execOp,l,hs.ev q,hs.ev s,Instr.sliceAt,Instr.slice,Instr.sliceBounds,Instr.sliceBound,asIntOf,run_underlying p,h,f,g,k,Ni];omega
theorem d_prew   {e:TypeId} {n i:Nat}   (j:o.op= .slice t x none (some y) none) (l:ev env x=some (.slice (some ⟨b,0,none⟩) n c)) (p:ev env y=some (.int kd m))
  (k:P.underlying t=some (.slice e)) (h:∀w,(sizeOf e).run P w= .ok 1 w) (d:m=(i:Int)) (f:i<=n) (q:n<=c):Mk P N sc o env H (.slice (some ⟨b,0,none⟩) i c):=λa w hs=>by
 subst d;have g:i<=c:=O;simp [execOp,j,hs.ev l,hs.ev p,Instr.sliceAt,Instr.slice,Instr.sliceBounds,Instr.sliceBound,asIntOf,run_underlying k,h,f,g,Ni]
theorem t_clw   {p:TypeId} {i d n D:Nat} {l:List Int}   
  (W:o.op= .call { callee:= .builtin .clear,args:=#[x],argTypes:=#[t] }) (S:o.dst=none)
  (hx:ev env x=some (.slice (some ⟨b,d,none⟩) n D))  (s:lk H i=some (box b tb (wcr l r))) (g:i≠0)
  (hn:0<n) (V:d+n=l.length) (Y:P.underlying t=some (.slice p)) (B:∀w,(sizeOf p).run P w= .ok 1 w)
  (hz:∀w,(zeroValue p).run P w= .ok (.int .i64 0) w)
  (F:lk H 0=some (Xt w0 M0)) (hw:∀b,w0.heap.size<=b->sc b) (R:M b) :
  T P N sc M o env H (G:=Unit) (λ_=>True) (λ_=>env) (λ_=>(i,box b tb (wcr (l.take d) (List.replicate n (Value.int .i64 0) ++ r)))::H):=λa w hs K Q I=>by
 have z:=hs.hold i _ s;have j:(Builtin.zeroCells (Value.int .i64 0).cells n).toList=List.replicate n (Value.int .i64 0):=by
  apply iY
  .simp [Builtin.zeroCells,Value.cells]
  .intro i h2 h3;simp [Builtin.zeroCells,Value.cells,kZ]
 have e:=run_storeCells_at P b d tb (List.replicate n (Value.int .i64 0)) 0 (wcr l r) w z (by grind [Zlp,List.length_replicate]) (λu Z=>by rw [List.eq_of_mem_replicate Z];rfl);simp only [eN,aS]at e;have f:((wcr l r).toList.take d ++ List.replicate n (Value.int .i64 0) ++ (wcr l r).toList.drop (d+n)).toArray=wcr (l.take d) (List.replicate n (Value.int .i64 0) ++ r):=by unfold wcr;grind
 rw [f]at e;obtain⟨m,rfl⟩:∃m,n=m+1:=⟨n-1,O⟩;have h:(execOp a.eval o).run P w= .ok (.value (.tuple #[])) (w.setRow b (wcr (l.take d) (List.replicate (m+1) (Value.int .i64 0) ++ r))):=by simp only [execOp,W,resolve,invoke,builtin];simp [hs.ev hx,Builtin.clear_,run_underlying Y,hz,j,e]
 unfold Oper.wp;rw [h];show K (a.put o.dst _) _;rw [S];exact I () _ _ aA ((hs.upd s rfl g (q:=box b tb (wcr (l.take d) _)) (Gd (M:=λk=>k=b) rfl) (setRow_heap w b _ _ tb _ z) (λk B=> .inl B) F hw).put_none _) (Gd R)
theorem res0{fn:Func}(hs:Sat N sc env H a w)(d:fn.results=#[]):(results fn a.tmps).run P w= .ok (.tuple #[]) w:=by simp [results,d]
end Go.Sky
namespace Go.Sky
variable{i m:Nat}{x b a d ov:Int}{xs p c q:List Int}{r:List Value}
def Srt(l:List Int)(n:Nat):Prop:=∀p q,p<q->q<n->l.getD p 0<=l.getD q 0
def Sst(l:List Int)(n:Nat):Prop:=∀p q,p<q->q<n->l.getD p 0<l.getD q 0
def Yo9(l:List Int)(i j:Nat):Prop:=∀p q,p<q->q<=i->q≠j->l.getD p 0<=l.getD q 0
def Sam(l m:List Int):Prop:=m.length=l.length/\∀x,x∈m↔x∈l
def Sam.rfl'(l:List Int):Sam l l:=⟨rfl,λ_=>Iff.rfl⟩
def Zk7{l:List Int}{j:Nat}{v:Int}(hi:i<l.length):(l.set i v).getD j 0=if j=i then v else l.getD j 0:=Zjb hi
def swp(l:List Int)(j:Nat):List Int:=(l.set j (l.getD (j-1) 0)).set (j-1) (l.getD j 0)
theorem Yc6(l:List Int)(j:Nat):(swp l j).length=l.length:=by simp [swp]
theorem Zbt{l:List Int}{j:Nat}(f:j<l.length)(e:1<=j)(k:Nat):(swp l j).getD k 0=if k=j-1 then l.getD j 0 else if k=j then l.getD (j-1) 0 else l.getD k 0:=by unfold swp;grind
theorem Fc{l:List Int} : x∈l↔∃k,k<l.length/\l.getD k 0=x:=by
 constructor
 .intro h;obtain⟨k,f,e⟩:=cZ.1 h;exact⟨k,f,O4⟩
 grind
theorem Ybh{l:List Int}{j:Nat}(f:j<l.length)(g:1<=j):Sam l (swp l j):=⟨Yc6 l j,λx=>by
 rw [Fc,Fc,Yc6];constructor
 .rintro⟨k,h,e⟩;rw [Zbt f g]at e;grind
 .rintro⟨k,h,e⟩;by_cases a:k=j-1
  .exact⟨j,f,by rw [Zbt f g,<-a];omega⟩
  .by_cases b:k=j
   .exact⟨j-1,O,by rw [Zbt f g,<-b];omega⟩
   .exact⟨k,h,by rw [Zbt f g];omega⟩⟩
def Sam.trans{l m n:List Int}(h:Sam l m)(e:Sam m n):Sam l n:=⟨e.1.trans h.1,λx=>(e.2 x).trans (h.2 x)⟩
def srtx_0{l:List Int}(h:Srt l i):Yo9 l i i:=λp q e f g=>h p q e O
theorem Zul{l:List Int}{j:Nat}(h:Yo9 l i j)(g:j<l.length)(f:1<=j)(o:j<=i)(s:l.getD j 0<l.getD (j-1) 0):Yo9 (swp l j) i (j-1):=λp q k e n=>by
 rw [Zbt g f,Zbt g f,aJ n];by_cases a:q=j
 .rw [aM a];by_cases b:p=j-1
  .omega
  .rw [aJ b,aJ O];exact h p _ O O O
 .rw [aJ a];by_cases b:p=j-1
  .rw [aM b];exact h j q O e a
  .rw [aJ b];by_cases c:p=j
   .rw [aM c];exact h _ q O e a
   .rw [aJ c];exact h p q k e a
theorem Yik{l:List Int}{j:Nat}(h:Yo9 l i j)(k:j<=i)(f:j=0\/(1<=j/\¬l.getD j 0<l.getD (j-1) 0)):Srt l (i+1):=λp q e g=>by
 by_cases a:q=j
 .rcases f with b|⟨b,c⟩
  .omega
  .subst a;by_cases d:p=q-1
   .grind
   .have:=h p (q-1) O O O;omega
 .exact h p q e O a
def srt_1(l:List Int):Srt l 1:=λp q e f=>O
structure Cmp (xs zs:List Int):Prop where
 s:Sst zs zs.length
 m:∀x,x∈zs↔x∈xs
theorem Yij{l:List Int}{n:Nat}(h:Srt l n)(g:∀q,1<=q->q<n->l.getD q 0≠l.getD (q-1) 0):Sst l n:=λp q j e=>by
 have k:=g q O e;have o:=h (q-1) q O e;rcases gM (show p<=q-1 by omega)with f|f
 .have:=h p _ f O;omega
 grind
def Yth{l:List Int}(h:Srt l l.length)(e:∀q,1<=q->q<l.length->l.getD q 0≠l.getD (q-1) 0):Cmp l l:=⟨Yij h e,λx=>Iff.rfl⟩
structure Cml (xs l:List Int) (m k:Nat):Prop where
 k1:1<=k
 km:k<m
 ml:m<=xs.length
 ll:l.length=xs.length
 r:∀q,m<=q+1->l.getD q 0=xs.getD q 0
 s:Sst l k
 e:∀x,(∃p,p<k/\l.getD p 0=x)↔∃p,p<m/\xs.getD p 0=x
 z:l.getD (k-1) 0=xs.getD (m-1) 0
theorem cml_0{k:Nat}(hs:Srt xs xs.length)(f:∀q,1<=q->q<k->xs.getD q 0≠xs.getD (q-1) 0)(g:1<=k)(l:k<xs.length)(j:xs.getD k 0=xs.getD (k-1) 0):Cml xs xs (k+1) k:=
 ⟨g,O5,O,rfl,λq _=>rfl,Yij (λp q e h=>hs p q e O) f,λx=>by grind,O4⟩
theorem cml_eq{l:List Int}{k:Nat}(h:Cml xs l m k)(f:m<xs.length)(n:l.getD m 0=l.getD (m-1) 0):Cml xs l (m+1) k:=by
 have g:=h.r m O5;have j:=h.r (m-1) O;have e:=h.km;refine⟨h.k1,O,f,h.ll,λq o=>h.r q O,h.s,λx=>(h.e x).trans ⟨?_,?_⟩,?_⟩
 .grind
 .grind
 .rw [h.z,show m+1-1=m by rfl];omega
theorem cml_ne{l:List Int}{k:Nat}(hs:Srt xs xs.length)(h:Cml xs l m k)(n:m<xs.length)(y:l.getD m 0≠l.getD (m-1) 0):Cml xs (l.set k (l.getD m 0)) (m+1) (k+1):=by
 have v:=h.r m O5;have s:=h.km;have w:=h.r (m-1) O;have t:=h.ll;have e:k<l.length:=O;have u:=by have:=hs (m-1) m O n;omega
 refine⟨O5,O,n,O4,λq z=>?_,λp q j f=>?_,λx=>?_,?_⟩
 .rw [Zk7 e,aJ O];exact h.r q O
 .rw [Zk7 e,Zk7 e,aJ (show p≠k by omega)];by_cases a:q=k
  .have B:=h.z;rcases gM (show p<=k-1 by omega)with g|g
   .have:=h.s p (k-1) g O;omega
   grind
  .rw [aJ a];exact h.s p q j O
 .constructor
  .rintro⟨p,j,f⟩;rw [Zk7 e]at f;by_cases a:p=k
   .grind
   .rw [aJ a]at f;obtain⟨q,g,o⟩:=(h.e x).1 ⟨p,O,f⟩;grind
  .rintro⟨p,j,f⟩;by_cases a:p=m
   .exact⟨k,O5,O4⟩
   .obtain⟨q,g,o⟩:=(h.e x).2 ⟨p,O,f⟩;exact⟨q,O,O4⟩
 grind
theorem Yda{l:List Int}{k p:Nat}(h:p<k):(l.take k).getD p 0=l.getD p 0:=by grind
theorem cml_e{l:List Int}{k:Nat}(h:Cml xs l xs.length k):Cmp xs (l.take k):=by
 have n:=h.km;have j:=h.ll;have g:(l.take k).length=k:=O4;refine⟨λp q f e=>?_,λx=>?_⟩
 .rw [g]at e;rw [Yda O,Yda e];exact h.s p q f e
 .rw [Fc,Fc,<-h.e x];grind
def Znn(x:Int):List Int->List Int
 | []=>[x]
 | y::l=>if x<y then x::y::l else if x=y then y::l else y::Znn x l
def Inc:List Int->Prop
 | []=>True
 | x::l=>(∀y∈l,x<y)/\Inc l
theorem Znc{x z:Int} : ∀{l:List Int},z∈Znn x l↔z=x\/z∈l
 | []=>by simp [Znn]
 | y::l=>by
  unfold Znn;split
  .simp
  .split
   .rename_i h;subst h;simp
   .rw [bD,Znc,bD];constructor
    .rintro(h|h|h)
     .exact .inr (.inl h)
     .exact .inl h
     .exact .inr (.inr h)
    .rintro(h|h|h)
     .exact .inr (.inl h)
     .exact .inl h
     .exact .inr (.inr h)
theorem Zwq{x:Int} : ∀{l:List Int},Inc l->Inc (Znn x l)
 | [],_=>⟨λy h=>(nomatch h),aA⟩
 | y::l,h=>by
  unfold Znn;split
  .rename_i f;exact⟨λz e=>by
    rcases bD.1 e with rfl|e
    .exact f
    .have:=h.1 z e;omega,h⟩
  .split
   .exact h
   .refine⟨λz e=>?_,Zwq h.2⟩;rcases Znc.1 e with rfl|e
    .omega
    .exact h.1 z e
def Zum(l:List Int):List Int:=l.foldr Znn []
def Zno:∀(l:List Int),Inc (Zum l)
 | []=>trivial
 | x::l=>Zwq (Zno l)
theorem Znb{z:Int} : ∀{l:List Int},z∈Zum l↔z∈l
 | []=>Iff.rfl
 | x::l=>by show z∈Znn x (Zum l)↔_;rw [Znc,Znb,bD]
theorem Ymb:∀{l m:List Int},Inc l->Inc m->(∀x,x∈l↔x∈m)->l=m
 | [],[],_,_,_=>rfl
 | [],y::m,_,_,h=>absurd ((h y).2 (cH ..)) (λh=>nomatch h)
 | x::l,[],_,_,h=>absurd ((h x).1 (cH ..)) (λh=>nomatch h)
 | x::l,y::m,hl,hm,h=>by
  have e:x=y:=by
   have j:=(h x).1 (cH ..);have g:=(h y).2 (cH ..);rcases bD.1 j with f|f
   .exact f
   .rcases bD.1 g with k|k
    .exact k.symm
    .have:=hm.1 x f;have:=hl.1 y k;omega
  subst e;rw [Ymb hl.2 hm.2 λz=>by
   have j:=h z;rw [bD,bD]at j;constructor
   .intro g;rcases j.1 (.inr g)with f|f
    .have:=hl.1 z g;omega
    .exact f
   .intro g;rcases j.2 (.inr g)with f|f
    .have:=hm.1 z g;omega
    .exact f]
theorem Yc8:∀{l:List Int},Sst l l.length->Inc l
 | [],_=>trivial
 | x::l,h=>⟨λy e=>by obtain⟨k,j,rfl⟩:=Fc.1 e;exact h 0 (k+1) O5 O4,Yc8 λp q f g=>h (p+1) (q+1) O O4⟩
theorem Yn2{ys zs:List Int}(f:Sam xs ys)(e:Cmp ys zs):zs=Zum xs:=
 Ymb (Yc8 e.s) (Zno xs) λx=>by rw [e.m,f.2,Znb]
theorem Ya3:∀{l:List Int},Inc l->Sst l l.length
 | [],_=>λp q _ h=>absurd h (bG _)
 | x::l,h=>λp q e f=>by
  match p,q,e with
  | 0,q+1,_=>
   exact h.1 _ (Zd O4)
  | p+1,q+1,e=>exact Ya3 h.2 p q O O4
def Yr8(j:Nat):j=0\/1<=j:=O
theorem hd_s{k:Nat}(h:∀q,1<=q->q<k->xs.getD q 0≠xs.getD (q-1) 0)(e:¬xs.getD k 0=xs.getD (k-1) 0):∀q,1<=q->q<k+1->xs.getD q 0≠xs.getD (q-1) 0:=λq f g=>by grind
open Go.Proofs.Tryz
open Go.Proofs
set_option synthInstance.maxHeartbeats 0
set_option synthInstance.maxSize 100000
set_option maxRecDepth 20000
set_option linter.unusedSimpArgs false
theorem Ytg:Xq prog 334 #[.int .i64 x] [] (.bool false):=by refine Zg func334 ntmps334 λj g f e=>go 9 ?_;refine kf (aE (λh=>h J))<|go 4 ?_;exact Yq e () results334 J aA Za
theorem Yn3{y:Int}:Xq prog 269 #[.int .i64 x,.int .i64 y] [] (.bool (decide (x<y))):=by refine Zg func269 ntmps269 λh g f e=>go 8 ?_;refine cl 0 [] Ytg λ_ _=>go 14 ?_;exact Yq e () results269 J aA Za
theorem Yha(x:Nat)(f:x<U):Xq prog 260 #[.int .u64 (x:Int)] [] (.int .i64 (bl x:Int)):=by refine Zg func260 ntmps260 λj h g e=>go 12 ?_;refine cl 0 [] (Zxw f) λ_ _=>go 4 ?_;exact Yq e () results260 J aA Za
theorem sl_ins{b c:Nat}(H:1<=xs.length)(M:xs.length<=12):Zd8 prog 318 #[.slice (some ⟨b,0,none⟩) xs.length c,.int .i64 0,.int .i64 (xs.length:Int)] [] false b 3 (wcr xs r) (G:=List Int) (λg=>Sam xs g/\Srt g g.length) (λg=> .tuple #[]) (λg=>wcr g r) (λg=>[]):=by
 refine De func318 J ntmps318 J aA ?_;intro P N n F;have n:=Hw.mk n;simp only [Po,Xh];refine go 8 ⟨O,?_⟩;refine lp (G:=Nat×List Int) [0,1,2] [0] (λq=>[(6,.int .i64 (q.1:Int))]) (λq=>[(1,box b 3 (wcr q.2 r))]) (λq=>(1<=q.1)/\(q.1<=xs.length)/\(Sam xs q.2)/\(Srt q.2 q.1)) (λq=>xs.length-q.1) (1,xs) ⟨O1,O1,Sam.rfl' xs,srt_1 xs⟩ K1 K1 ?_;rintro⟨i,l⟩ ⟨z,B,u,hs⟩;dsimp only at z B u hs;dsimp only;have D:=u.1;refine go 8<|Zc J (λv=>?_) (λv=>?_)
 .refine go 11 ?_;refine lp (G:=Nat×List Int) [0,1,2,6] [0] (λq=>[(7,.int .i64 (q.1:Int))]) (λq=>[(1,box b 3 (wcr q.2 r))]) (λq=>(q.1<=i)/\(Sam xs q.2)/\(Yo9 q.2 i q.1)) (λq=>q.1) (i,l) ⟨aH _,u,srtx_0 hs⟩ K1 K1 ?_;rintro⟨j,m⟩ ⟨o,e,t⟩;dsimp only at o e t;dsimp only;have I:=e.1;refine go 2 ?_;rcases Yr8 j with f|f
  .refine Qe (λ_=>False) [(0,0),(1,0),(2,0),(3,0),(4,2),(5,2),(6,2),(7,2),(8,2),(9,2),(10,2),(11,2),(12,2),(13,2),(14,0)]<|go 2 ?_;refine Xb J J (Qa (dF (Zn5 J J J) (vB (aE O))))<|go 26 ⟨O,?_⟩;exact Yi (i+1,m) ⟨O1,O1,e,Yik t o (.inl f)⟩ O1 K1 K1
  .refine Qe (λ_=>False) [(0,0),(1,0),(2,0),(3,0),(4,0),(5,0),(6,0),(7,0),(8,0),(9,0),(10,0),(11,0),(12,0),(13,1),(14,0)]<|go 2 ?_;refine Xb J J (Qa (dT (Zn5 J J J) (vB (aF O))))<|go 3 ?_;refine r0g (Qa (Xk ( .pointer (some ⟨b,j,none⟩)) (Za4 j J J J Ql Mv O O) (by rw [cJ]))) J J J J J<|r0g (Qa (Xk ( .int .i64 (m.getD j 0)) (Zdx 1 J J J Dz O) (aD (λq=>Value.int .i64 (m.getD q 0)) O))) J J J J J<|go 3 ⟨O,?_⟩;refine r0g (Qa (Xk ( .pointer (some ⟨b,j-1,none⟩)) (Za4 (j-1) J J J Ql Mv O O) (by rw [cJ]))) J J J J J<|r0g (Qa (Xk ( .int .i64 (m.getD (j-1) 0)) (Zdx 1 J J J Dz O) (aD (λq=>Value.int .i64 (m.getD q 0)) O))) J J J J J<|Yq6 J J J J J (Qm 1 Yn3 J J J K2 call269 Zr J n.h) λ_ _=>go 3 ?_;refine Zc J (λk=>?_) (λk=>?_)
   .have s:=k;refine go 4<|Qn [] [17] ?_;refine Zk 6 [(0,0),(1,0),(2,0),(3,0),(4,0),(5,0),(6,0),(7,0),(8,0),(10,0),(11,0),(12,0)]<|go 8 ⟨O,O,?_⟩;refine Xb J J (Ll (Xk ( .pointer (some ⟨b,j-1,none⟩)) (Za4 (j-1) J J J Ql Mv O O) (by rw [cJ])) aA)<|go 2 ?_;refine Xb J J (Ll (Xk ( .pointer (some ⟨b,j,none⟩)) (Za4 j J J J Ql Mv O O) (by rw [cJ])) aA)<|go 1 ?_;refine Pk 5 9 13 ?_ ?_
    .refine Kr J J (Zfa (Xk ( .int .i64 (m.getD (j-1) 0)) (Zdx 1 J J J Dz O) (aD (λq=>Value.int .i64 (m.getD q 0)) O)) J J) (λ_ _=>?_);refine Zk 0 [(13,1),(14,0),(15,1),(16,0),(17,3)]<|Lm J (Zfa (Xk ( .int .i64 (m.getD j 0)) (Zdx 1 J J J Dz O) (aD (λq=>Value.int .i64 (m.getD q 0)) O)) J J) (λ_ _=>?_);refine Xb J J (Ll (Xk ( .pointer (some ⟨b,j,none⟩)) (Za4 j J J J Ql Mv O O) (by rw [cJ])) aA)<|Lm J (Zue 1 J J J J J O3 Mv O J n.h (λ_ h=>nomatch h)) (λ_ _=>?_);refine Xb J J (Ll (Xk ( .pointer (some ⟨b,j-1,none⟩)) (Za4 (j-1) J J J Ql Mv O O) (by rw [cJ])) aA)<|r3' J (Zue 1 J J J J J O3 Mv (by rw [cT];omega) J n.h aA) λ_ _=>go 1 ?_;refine Zu<|go 7 ⟨O,?_⟩;exact Yi (j-1,swp m j) ⟨O1,e.trans (Ybh O O),Zul t O f o s⟩ O1 ⟨(aD (λq:Int=>some (Value.int .i64 q)) (show(j:Int)-1=((j-1:Nat):Int) by omega)),aA⟩ K1
    .refine Kr J J (Zfa (Xk ( .int .i64 (m.getD j 0)) (Zdx 1 J J J Dz O) (aD (λq=>Value.int .i64 (m.getD q 0)) O)) J J) (λ_ _=>?_);refine Zk 0 [(9,1),(14,0),(15,1),(16,0),(17,3)]<|Lm J (Zfa (Xk ( .int .i64 (m.getD (j-1) 0)) (Zdx 1 J J J Dz O) (aD (λq=>Value.int .i64 (m.getD q 0)) O)) J J) (λ_ _=>?_);refine Xb J J (Ll (Xk ( .pointer (some ⟨b,j,none⟩)) (Za4 j J J J Ql Mv O O) (by rw [cJ])) aA)<|Lm J (Zue 1 J J J J J O3 Mv O J n.h (λ_ h=>nomatch h)) (λ_ _=>?_);refine Xb J J (Ll (Xk ( .pointer (some ⟨b,j-1,none⟩)) (Za4 (j-1) J J J Ql Mv O O) (by rw [cJ])) aA)<|r3' J (Zue 1 J J J J J O3 Mv (by rw [cT];omega) J n.h aA) λ_ _=>go 1 ?_;refine Zu<|go 7 ⟨O,?_⟩;exact Yi (j-1,swp m j) ⟨O1,e.trans (Ybh O O),Zul t O f o s⟩ O1 ⟨(aD (λq:Int=>some (Value.int .i64 q)) (show(j:Int)-1=((j-1:Nat):Int) by omega)),aA⟩ K1
   .have y:=k;refine go 11 ⟨O,?_⟩;exact Yi (i+1,m) ⟨O1,O1,e,Yik t o (.inr ⟨f,y⟩)⟩ O1 K1 K1
 .obtain rfl:i=xs.length:=O;refine go 4 ?_;exact Ds (.inr J) F l (λa w hs=>res0 hs results318) J ⟨u,by rw [D];exact hs⟩ 1 J J J J Za
theorem sl_pdq{b c:Nat}{l:Int}(f:1<=xs.length)(o:xs.length<=12):Zd8 prog 259 #[.slice (some ⟨b,0,none⟩) xs.length c,.int .i64 0,.int .i64 (xs.length:Int),.int .i64 l] [] false b 3 (wcr xs r) (G:=List Int) (λg=>Sam xs g/\Srt g g.length) (λg=> .tuple #[]) (λg=>wcr g r) (λg=>[]):=by refine De func259 J ntmps259 J aA ?_;intro t s j h;have j:=Hw.mk j;simp only [Po,Xh];refine go 11 ?_;refine lp (G:=Nat) [0] [0,1] (λk=>[(1,.int .i64 0),(2,.int .i64 (xs.length:Int))]) (λk=>[]) (λk=>True) (λk=>k) 0 aA K2 aA ?_;rintro k -;refine go 13 ⟨O,?_⟩;refine kt (aF O)<|go 8 ?_;refine tt (Pa 1 1 (sl_ins f o) J J J K3 call318 J O3 Zr J j.h aA) λn e=>go 7 ?_;exact Ds (.inl J) h n (λa w hs=>res0 hs results259) J e 1 J J J J Za
theorem Yqc{b c:Nat}(f:1<=xs.length)(l:xs.length<=12):Zd8 prog 181 #[.slice (some ⟨b,0,none⟩) xs.length c] [] false b 3 (wcr xs r) (G:=List Int) (λg=>Sam xs g/\Srt g g.length) (λg=> .tuple #[]) (λg=>wcr g r) (λg=>[]):=by refine De func181 J ntmps181 J aA ?_;intro o n j h;have j:=Hw.mk j;simp only [Po,Xh];refine go 3 ?_;refine dt (Zs7 J J Ql)<|go 7 ?_;refine dt (Xk ( .int .u64 (xs.length:Int)) (Zz2 J J uT3 underlying306 (by simp only [U];omega)) J)<|cl 1 [] (Yha xs.length (by simp only [U];omega)) λ_ _=>?_;refine tt (Pa 1 1 (sl_pdq f l) J J J K4 call259 J O3 Zr J j.h aA) λk e=>go 1 ?_;exact Ds (.inr J) h k (λa w hs=>res0 hs results181) J e 1 J J J J Za
theorem sl_cmp{b c:Nat}(S:2<=xs.length)(Y:xs.length<=12)(V:xs.length<=c)(o:Srt xs xs.length):Zd8 prog 299 #[.slice (some ⟨b,0,none⟩) xs.length c] [] false b 3 (wcr xs r) (G:=List Int×List Value) (λg=>Cmp xs g.1/\g.1.length+g.2.length=xs.length+r.length) (λg=> .slice (some ⟨b,0,none⟩) g.1.length c) (λg=>wcr g.1 g.2) (λg=>[]):=by
 refine De func299 J ntmps299 J aA ?_;intro w0 Z v u;have v:=Hw.mk v;simp only [Po,Xh];refine go 9 ?_;refine dt (Zs7 J J Ql)<|kf (aE O)<|go 12 ?_;refine lp (G:=Nat) [0] [0,1] (λk=>[(3,.int .i64 (k:Int))]) (λk=>[]) (λk=>(1<=k)/\(k<=xs.length)/\(∀q,1<=q->q<k->xs.getD q 0≠xs.getD (q-1) 0)) (λk=>xs.length-k) 1 ⟨O1,O1,λq H I=>absurd I O⟩ K1 aA ?_;rintro k ⟨B,N,y⟩;refine go 5 ?_;refine dt (Zs7 J J Ql)<|go 3 ?_;refine Zc J (λs=>?_) (λs=>?_)
 .refine go 5<|Qe (λ_=>False) [(0,0),(1,0),(2,0),(3,0),(4,0),(5,0),(6,0),(7,0),(8,0),(9,0)]<|go 2 ?_;refine Xb J J (Qa (Xk ( .pointer (some ⟨b,k,none⟩)) (Za4 k J J J Ql Mv O O) (by rw [cJ])))<|Xb J J (Qa (Xk ( .int .i64 (xs.getD k 0)) (Zdx 1 J J J Dz O) (aD (λq=>Value.int .i64 (xs.getD q 0)) O)))<|go 3 ⟨O,?_⟩;refine Xb J J (Qa (Xk ( .pointer (some ⟨b,k-1,none⟩)) (Za4 (k-1) J J J Ql Mv O O) (by rw [cJ])))<|Xb J J (Qa (Xk ( .int .i64 (xs.getD (k-1) 0)) (Zdx 1 J J J Dz O) (aD (λq=>Value.int .i64 (xs.getD q 0)) O)))<|go 3 ?_;refine Zc J (λe=>?_) (λe=>?_)
  .have M:=e;refine go 4 ?_;refine dt (Xk ( .slice (some ⟨b,k,none⟩) (xs.length-k) (c-k)) (Yni k J J J Ql Mv J O O) (by rw [cJ]))<|go 10 ?_;refine lp (G:=Nat×Nat×List Int) [0,4] [0] (λq=>[(5,.int .i64 (q.1:Int)),(3,.int .i64 (q.2.1:Int))]) (λq=>[(1,box b 3 (wcr q.2.2 r))]) (λq=>(1<=q.1)/\(Cml xs q.2.2 (k+q.1) q.2.1)) (λq=>xs.length-k-q.1) (1,k,xs) ⟨O1,cml_0 o y B O M⟩ K2 K1 ?_;rintro⟨j,kk,l⟩ ⟨z,h⟩;dsimp only at z h;dsimp only;have W:=h.ll;have P:=h.k1;have Q:=h.km;have R:=h.ml;refine go 5 ?_;refine dt (Zs7 J J Ql)<|go 3 ?_;refine Zc J (λt=>?_) (λt=>?_)
   .refine go 5<|Qe (λ_=>False) [(0,0),(1,0),(2,0),(3,0),(4,0),(5,0),(6,0),(7,0),(8,0),(9,0)]<|go 2 ?_;refine Xb J J (Qa (Za4 j J J J Ql Mv O O))<|Xb J J (Qa (Xk ( .int .i64 (l.getD (k+j) 0)) (Zdx 1 J J J Dz O) (aD (λq=>Value.int .i64 (l.getD q 0)) O)))<|go 3 ⟨O,?_⟩;refine Xb J J (Qa (Za4 (j-1) J J J Ql Mv O O))<|Xb J J (Qa (Xk ( .int .i64 (l.getD (k+j-1) 0)) (Zdx 1 J J J Dz O) (aD (λq=>Value.int .i64 (l.getD q 0)) O)))<|go 3 ?_;refine Zc J (λf=>?_) (λf=>?_)
    .have n:=f;refine go 6 ?_;refine dt (Za4 j J J J Ql Mv O O)<|dt (Xk ( .int .i64 (l.getD (k+j) 0)) (Zdx 1 J J J Dz O) (aD (λq=>Value.int .i64 (l.getD q 0)) O))<|dt (Xk ( .pointer (some ⟨b,kk,none⟩)) (Za4 kk J J J Ql Mv J O) (by rw [cJ]))<|tt (Zue 1 J J J J J O3 Mv O J v.h aA) (λ_ _=>?_);refine go 14 ⟨O,O,?_⟩;exact Yi (j+1,kk+1,l.set kk (l.getD (k+j) 0)) ⟨O1,cml_ne (m:=k+j) o h O n⟩ O1 K2 K1
    .have n:=f;refine go 8 ⟨O,?_⟩;exact Yi (j+1,kk,l) ⟨O1,cml_eq (m:=k+j) h O (dM.1 n)⟩ O1 K2 K1
   .obtain D:k+j=xs.length:=O;rw [D]at h;refine go 9 ?_;refine dt (Xk ( .slice (some ⟨b,kk,none⟩) (xs.length-kk) (c-kk)) (Yni kk J J J Ql Mv J O O) (by rw [cJ]))<|tt (t_clw (i:=1) J J J J O3 O O Ql Mv (λw=>zeroValue3 w) J v.h aA) λ_ _=>go 6 ?_;refine dt (d_prew (i:=kk) J J J Ql Mv J O O)<|go 9 ?_;exact Ds (.inl J) u (l.take kk,List.replicate (xs.length-kk) (.int .i64 0) ++ r) (λa w hs=>Ze5 hs results299 J) (by rw [dG,dQ O]) ⟨cml_e h,O9⟩ 1 J J J J Za
  .have F:=e;refine go 8 ⟨O,?_⟩;exact Yi (k+1) ⟨O1,O1,hd_s y F⟩ O1 K1 aA
 .refine go 12 ?_;exact Ds (.inl J) u (xs,r) (λa w hs=>Ze5 hs results299 J) J ⟨Yth o (λq H I=>y q H O),J⟩ 1 J J J J Za
def Gf(f:Nat->Rat):Nat->Rat
 | 0=>0
 | n+1=>Gf f n+f n
def Mg(f:Nat->Rat)(n:Nat):Gf f (n+1)=Gf f n+f n:=rfl
theorem La{f g:Nat->Rat} : ∀n,(∀i,i<n->f i=g i)->Gf f n=Gf g n
 | 0,_=>rfl
 | n+1,h=>by rw [Mg,Mg,La n λi hi=>h i O,h n O]
theorem Dx(f:Nat->Rat):∀n,Gf f (n+1)=f 0+Gf (λi=>f (i+1)) n
 | 0=>by show 0+f 0=f 0+0;grind
 | n+1=>by rw [Mg,Dx f n,Mg];grind
theorem Zmp(f g:Nat->Rat):∀n,Gf (λi=>f i+g i) n=Gf f n+Gf g n
 | 0=>by show(0)=0+0;grind
 | n+1=>by rw [Mg,Mg,Mg,Zmp f g n];grind
theorem Es(c:Rat)(f:Nat->Rat):∀n,Gf (λi=>c*f i) n=c*Gf f n
 | 0=>by show(0)=c*0;simp
 | n+1=>by rw [Mg,Mg,Es c f n];grind
theorem Zn9(n:Nat):Ot n 0=1:=by cases n<;>rfl
def chz_s(n k:Nat):Ot (n+1) (k+1)=Ot n k+Ot n (k+1):=rfl
theorem Yon{u w:Rat}(h:u+w=1):∀n,Gf (λj=>(Ot n j:Rat)*(u^j*w^(n-j))) (n+1)=1
 | 0=>by rw [Dx];show((Ot 0 0:Nat):Rat)*(u^0*w^0)+0=1;rw [Zn9,dP,dP];push_cast;grind
 | n+1=>by
  have e:=Yon h n;rw [Dx];have f:Gf (λi=>(Ot (n+1) (i+1):Rat)*(u^(i+1)*w^(n+1-(i+1)))) (n+1)=Gf (λi=>u*((Ot n i:Rat)*(u^i*w^(n-i)))) (n+1)+Gf (λi=>(Ot n (i+1):Rat)*(u^(i+1)*w^(n-i))) (n+1):=by rw [<-Zmp];refine La _ λi hi=>?_;rw [chz_s,show n+1-(i+1)=n-i by omega,dA];push_cast;grind
  have g:Gf (λi=>(Ot n (i+1):Rat)*(u^(i+1)*w^(n-i))) (n+1)=Gf (λi=>(Ot n (i+1):Rat)*(u^(i+1)*w^(n-i))) n:=by rw [Mg,Zn8 n (n+1) O];push_cast;grind
  have k:w*Gf (λj=>(Ot n j:Rat)*(u^j*w^(n-j))) (n+1)=w^(n+1)+Gf (λi=>(Ot n (i+1):Rat)*(u^(i+1)*w^(n-i))) n:=by
   rw [<-Es,Dx,Zn9];congr 1
   .rw [jK,dP,dA];push_cast;grind
   .refine La _ λi hi=>?_;rw [show n-i=(n-(i+1))+1 by omega,dA w];grind
  rw [f,g,Es,e];rw [e]at k;rw [Zn9,dP,jK];push_cast;grind
def Hi(d:Nat)(c:List Int)(j:Nat):Int:=Yl (λi=>cf c i*(Ot (d-i) (j-i):Int)) (j+1)
theorem brS_0(d:Nat)(a:Int)(c:List Int):Hi d (a::c) 0=a:=by unfold Hi;rw [Yp,Fk];show 0+a*((Ot (d-0) (0-0):Nat):Int)=a;rw [show 0-0=0 from rfl,Zn9];omega
theorem brS_s(d:Nat)(a:Int)(c:List Int)(j:Nat):Hi (d+1) (a::c) (j+1)=a*(Ot (d+1) (j+1):Int)+Hi d c j:=by unfold Hi;rw [Mp];congr 1;refine Xj λi hi=>?_;rw [show d+1-(i+1)=d-i by omega,show j+1-(i+1)=j-i by omega];rfl
theorem Yt1(d j:Nat):Hi d [] j=0:=by unfold Hi;exact(Zir (m:=0) (aV _) λi _ _=>by rw [show cf [] i=0 from rfl,cL]).trans (Fk _)
theorem bern{u w:Rat}(h:u+w=1):∀(d:Nat) (c:List Int),c.length<=d+1->Gf (λj=>(Hi d c j:Rat)*(u^j*w^(d-j))) (d+1)=Zi c u
 | d,[],_=>by
  rw [La (g:=λ_=>0) (d+1) λi hi=>by rw [Yt1];push_cast;grind];show Gf (λ_=>0) (d+1)=0;have:∀n,Gf (λ_=>0) n=0:=λn=>by
   induction n with
   | zero=>rfl
   | succ n f=>rw [Mg,f];grind
  exact this _
 | 0,[a],_=>by rw [Mg,brS_0];show 0+(a:Rat)*(u^0*w^0)=(a:Rat)+u*0;rw [dP,dP];grind
 | 0,a::b::c,hl=>by simp at hl
 | d+1,a::c,hl=>by
  have f:=bern h d c (by simpa using hl);have e:=Yon h (d+1);rw [Dx]at e;rw [Dx,brS_0];have k:Gf (λi=>(Hi (d+1) (a::c) (i+1):Rat)*(u^(i+1)*w^(d+1-(i+1)))) (d+1)=(a:Rat)*Gf (λi=>(Ot (d+1) (i+1):Rat)*(u^(i+1)*w^(d+1-(i+1)))) (d+1)+u*Gf (λj=>(Hi d c j:Rat)*(u^j*w^(d-j))) (d+1):=by rw [<-Es,<-Es,<-Zmp];refine La _ λi hi=>?_;rw [brS_s,show d+1-(i+1)=d-i by omega,dA];push_cast;grind
  rw [k,f];show _=(a:Rat)+u*Zi c u;rw [Zn9]at e;push_cast at e ⊢;grind
theorem Co(a:Int):∀(c:List Int) (i:Nat),cf (c.map λx=>a*x) i=a*cf c i
 | [],i=>by rw [eS,show cf [] i=0 from rfl,dY]
 | x::c,0=>rfl
 | x::c,i+1=>Co a c i
theorem Zyt(c:List Int)(a b e:Int)(u:Rat):Zi (mk (c.length+1) λt=>cf c t*a+(if t=0 then e else cf c (t-1)*b)) u=Zi c u*((a:Rat)+(b:Rat)*u)+(e:Rat):=by
 have h:Zi (mk (c.length+1) λt=>cf c t*a+(if t=0 then e else cf c (t-1)*b)) u=Zi (Ms (c.map λx=>a*x) (e::c.map λx=>b*x)) u:=Ma u _ _ λi=>by
  rw [Li,Co,Kk]
  match i with
  | 0=>rw [aM O,aM rfl];show cf c 0*a+e=a*cf c 0+e;rw [fK]
  | i+1=>
   show _=a*cf c (i+1)+cf (c.map λx=>b*x) i;rw [Co];by_cases hi:i<c.length
   .rw [aM O,aJ O,jN,fK,fK (cf c i)]
   .rw [aJ O,Yr (p:=c) (i:=i+1) O,Yr (p:=c) (i:=i) O];omega
 rw [h,Xp,Zx];show _+((e:Rat)+u*Zi (c.map λx=>b*x) u)=_;rw [Zx];grind
theorem Zu9(p:List Int)(a b d:Int){t u:Rat}(f:t*(d:Rat)=(a:Rat)+(b:Rat)*u):∀j,j+1<=p.length->Zi (Lz p a b d j) u=(d:Rat)^j*Zi (p.drop (p.length-1-j)) t
 | 0,h=>by
  have e:p.drop (p.length-1-0)=[cf p (p.length-1)]:=by rw [jK,eH O,kO O];congr 1;unfold cf;rw [aK,aN O];rfl
  rw [Cc,e,dP,Of,Of];grind
 | j+1,h=>by
  have g:=Zu9 p a b d f j O;have e:p.drop (p.length-1-(j+1))=cf p (p.length-2-j)::p.drop (p.length-1-j):=by rw [eH O,show p.length-1-(j+1)+1=p.length-1-j by omega];congr 1;unfold cf;rw [aK,aN O];show p[p.length-1-(j+1)]=p[p.length-2-j];congr 1;omega
  rw [Zqj,Zyt,g,e,<-f];show _=(d:Rat)^(j+1)*((cf p (p.length-2-j):Rat)+t*Zi (p.drop (p.length-1-j)) t);rw [dA];push_cast;rw [dA];generalize (d:Rat)^j=D;grind
theorem Zmk(a b d:Int){t u:Rat}(f:t*(d:Rat)=(a:Rat)+(b:Rat)*u)(e:p.length≠0):Zi (Lf p a b d) u=(d:Rat)^(p.length-1)*Zi p t:=by unfold Lf;rw [aJ e,Ma u (tzl _) _ (λi=>Lc _ i),Zu9 p a b d f (p.length-1) O,gF,fW]
def dblL:List Int->List Int
 | []=>[]
 | a::p=>a::0::dblL p
theorem Ybv(x:Rat):∀p:List Int,Zi (dblL p) x=Zi p (x*x)
 | []=>rfl
 | a::p=>by show(a)+x*(((0))+x*Zi _ x)=(a)+x*x*Zi p _;rw [Ybv x p];grind
theorem Yad:∀(p:List Int) (i:Nat),cf (dblL p) (2*i)=cf p i
 | [],i=>rfl
 | a::p,0=>rfl
 | a::p,i+1=>by exact Yad p i
theorem sq_nn(x:Rat):0<=x*x:=by
 rcases(show 0<=x\/x<=0 by grind)with h|h
 .grind [Rat.mul_nonneg]
 .have:=aG (show 0<=-x by grind) (show 0<=-x by grind);grind
theorem Zu8(h:∀x:Rat,0<=x->Zi p x=Zi q x)(i:Nat):cf p i=cf q i:=by rw [<-Yad p,<-Yad q];grind [Nq,Ybv,sq_nn]
theorem Zkw(f:Nat->Int)(x:Rat):∀n,Zi (mk n f) x=Gf (λj=>(f j:Rat)*x^j) n
 | 0=>rfl
 | n+1=>by rw [Ad,Zu7,Zkw f x n,Xc,Mg]
def NN(p:List Int):Prop:=∀i,0<=cf p i
theorem NN.smul{c:Int}(e:0<=c)(h:NN p):NN (p.map λa=>c*a):=λi=>by rw [Co];exact cY e (h i)
theorem NN.add(e:NN p)(f:NN q):NN (Ms p q):=λi=>by rw [Li];exact Int.add_nonneg (e i) (f i)
theorem NN.lmul{q:List Int}(e:NN q):∀{p:List Int},NN p->NN (lmul p q)
 | [],_=>λi=>by show 0<=cf [] i;rw [show cf [] i=0 from rfl];exact eV _
 | c::p,h=>NN.add (NN.smul (h 0) e) λi=>by
  match i with
  | 0=>exact eV _
  | i+1=>exact NN.lmul e (p:=p) (λj=>h (j+1)) i
def lpw(l:List Int):Nat->List Int
 | 0=>[1]
 | k+1=>lmul l (lpw l k)
theorem Zrb(l:List Int)(x:Rat):∀k,Zi (lpw l k) x=Zi l x^k
 | 0=>by rw [dP];show((1:Int):Rat)+x*0=1;push_cast;grind
 | k+1=>by rw [show lpw l (k+1)=lmul l (lpw l k)from rfl,Yn,Zrb l x k,dA,kM]
theorem NN.lpw{l:List Int}(h:NN l):∀k,NN (lpw l k)
 | 0=>λi=>by
  show 0<=cf [1] i
  match i with
  | 0=>exact Int.one_nonneg
  | i+1=>exact eV _
 | k+1=>NN.lmul (NN.lpw h k) h
theorem NN.two(e:0<=a)(f:0<=b):NN [a,b]:=λi=>by
 match i with
 | 0=>exact e
 | 1=>exact f
 | i+2=>exact eV _
def sQ(f:Nat->Int)(W:Nat->List Int):Nat->List Int
 | 0=>[]
 | k+1=>Ms (sQ f W k) ((W k).map λa=>f k*a)
theorem Zys(f:Nat->Int)(W:Nat->List Int)(x:Rat):∀k,Zi (sQ f W k) x=Gf (λi=>(f i:Rat)*Zi (W i) x) k
 | 0=>rfl
 | k+1=>by rw [show sQ f W (k+1)=Ms (sQ f W k) ((W k).map λa=>f k*a)from rfl,Xp,Zys f W x k,Zx,Mg]
theorem sQ_le{f g:Nat->Int}{W:Nat->List Int}{B:Int}(l:∀i,NN (W i)):∀k,(∀i,i<k->((f i).natAbs:Int)<=B*g i)->∀j,((cf (sQ f W k) j).natAbs:Int)<=B*cf (sQ g W k) j
 | 0,_,j=>by show((cf [] j).natAbs:Int)<=B*cf [] j;rw [show cf [] j=0 from rfl];simp
 | k+1,h,j=>by
  have v:=sQ_le l k (λi hi=>h i O) j;have n:=h k O;show((cf (Ms (sQ f W k) ((W k).map λa=>f k*a)) j).natAbs:Int)<=B*cf (Ms (sQ g W k) ((W k).map λa=>g k*a)) j;rw [Li,Li,Co,Co,jV,<-eX];have o:=l k j;have u:((f k*cf (W k) j).natAbs:Int)<=B*g k*cf (W k) j:=by rw [bT];push_cast;have e:((cf (W k) j).natAbs:Int)=cf (W k) j:=O;rw [e];exact dS n o
  generalize B*g k*cf (W k) j=t at *;generalize f k*cf (W k) j=s at *;generalize B*cf (sQ g W k) j=r at *;omega
theorem Zm7(a b:Rat):∀n:Nat,(a*b)^n=a^n*b^n
 | 0=>by rw [dP,dP,dP];grind
 | n+1=>by rw [dA,dA,dA,Zm7 a b n];grind
theorem Ye7(a:Rat)(m:Nat):∀n:Nat,a^(m+n)=a^m*a^n
 | 0=>by rw [eN,dP];grind
 | n+1=>by rw [<-iJ,dA,dA,Ye7 a m n];grind
theorem Yoo{U V S:Rat}(h:U+V=S)(l:S≠0){d:Nat}(k:c.length<=d+1):Gf (λj=>(Hi d c j:Rat)*(U^j*V^(d-j))) (d+1)=S^d*Zi c (U/S):=by
 rw [<-bern (u:=U/S) (w:=V/S) (by rw [<-h];grind) d c k,<-Es];refine La _ λj n=>?_;have e:U^j=S^j*(U/S)^j:=by rw [<-Zm7];congr 1;grind
 have f:V^(d-j)=S^(d-j)*(V/S)^(d-j):=by rw [<-Zm7];congr 1;grind
 have g:S^d=S^j*S^(d-j):=by rw [<-Ye7];congr 1;omega
 rw [e,f,g];grind
theorem Ye0{U V S:Rat}(h:U+V=S)(k:S≠0)(d:Nat):Gf (λj=>(Ot d j:Rat)*(U^j*V^(d-j))) (d+1)=S^d:=by
 have:=Yon (u:=U/S) (w:=V/S) (by rw [<-h];grind) d;rw [<-Rat.mul_one (S^d),<-this,<-Es];refine La _ λj l=>?_;have e:U^j=S^j*(U/S)^j:=by rw [<-Zm7];congr 1;grind
 have f:V^(d-j)=S^(d-j)*(V/S)^(d-j):=by rw [<-Zm7];congr 1;grind
 have g:S^d=S^j*S^(d-j):=by rw [<-Ye7];congr 1;omega
 rw [e,f,g];grind
theorem Ybu(a b:Int)(x:Rat):Zi [a,b] x=(a:Rat)+(b:Rat)*x:=by show(a:Rat)+x*((b:Rat)+x*0)=_;grind
theorem onepw(n:Nat):(1:Rat)^n=1:=by
 induction n with
 | zero=>rw [dP]
 | succ n e=>rw [dA,e];grind
theorem Zd4(d:Int)(n:Nat):((d^n:Int):Rat)=(d:Rat)^n:=by
 induction n with
 | zero=>rw [dC,dP];rfl
 | succ n e=>rw [dD,dA,<-e];push_cast;rfl
def Wij(a e d:Int)(n i:Nat):List Int:=lmul (lpw [a,e] i) (lpw [d-a,d-e] (n-i))
def Wij_nn{e:Int}(f:0<=a)(g:0<=e)(h:a<=d)(j:e<=d)(n i:Nat):NN (Wij a e d n i):=NN.lmul (NN.lpw (NN.two O O) _) (NN.lpw (NN.two f g) _)
theorem Ybw(a e d:Int)(n i:Nat)(x:Rat):Zi (Wij a e d n i) x=((a:Rat)+(e:Rat)*x)^i*(((d-a:Int):Rat)+((d-e:Int):Rat)*x)^(n-i):=by unfold Wij;rw [Yn,Zrb,Zrb,Ybu,Ybu]
theorem Yt3 {X:List Int} {n:Nat} (hl:c.length<=n+1) (hX:X.length<=n+1) {B:Int} (ha:0<=a) (hb:0<=b) (F:a+b<=d) (I:0<d) (hr:∀t u:Rat,t*(d:Rat)=(a:Rat)+(b:Rat)*u->Zi X u=(d:Rat)^m*Zi c t)
  (hB:∀j,j<n+1->((Hi n c j).natAbs:Int)<=B*(Ot n j:Int)):∀j,j<n+1->((Hi n X j).natAbs:Int)<=B*d^m*(Ot n j:Int):=by
 have P:(0:Rat)<(d:Rat):=by exact_mod_cast I
 have k:∀x:Rat,0<=x->(x+1)≠0:=λx e h=>O4;have o:∀x:Rat,((a:Rat)+((a+b:Int):Rat)*x)+(((d-a:Int):Rat)+((d-(a+b):Int):Rat)*x)=(d:Rat)*(x+1):=λx=>by push_cast;grind
 have l:∀x:Rat,0<=x->(d:Rat)*(x+1)≠0:=λx e h=>by have:=aX P (show(0:Rat)<x+1 by grind);grind
 have Q:∀x:Rat,0<=x->Zi (sQ (λi=>(Ot n i:Int)) (Wij a (a+b) d n) (n+1)) x=Zi (mk (n+1) λj=>d^n*(Ot n j:Int)) x:=λx e=>by
  rw [Zys,Zkw];have w:=Ye0 (o x) (l x e) n;have y:=Ye0 (U:=x) (V:=1) (S:=x+1) rfl (k x e) n;have z:Gf (λi=>(((Ot n i:Nat):Int):Rat)*Zi (Wij a (a+b) d n i) x) (n+1)=((d:Rat)*(x+1))^n:=by rw [<-w];exact La _ λj s=>by rw [Ybw];push_cast;rfl
  rw [z,Zm7,<-y,<-Es];refine La _ λj s=>?_;rw [onepw];push_cast;rw [<-Zd4];push_cast;grind
 have R:∀x:Rat,0<=x->Zi (mk (n+1) λj=>d^n*Hi n X j) x=Zi ((sQ (Hi n c) (Wij a (a+b) d n) (n+1)).map λq=>d^m*q) x:=λx e=>by
  rw [Zx,Zys,Zkw];have w:=Yoo (o x) (l x e) hl;have y:=Yoo (U:=x) (V:=1) (S:=x+1) rfl (k x e) hX;have z:Gf (λi=>((Hi n c i:Int):Rat)*Zi (Wij a (a+b) d n i) x) (n+1)=((d:Rat)*(x+1))^n*Zi c (((a:Rat)+((a+b:Int):Rat)*x)/((d:Rat)*(x+1))):=by rw [<-w];exact La _ λj s=>by rw [Ybw]
  have e4:Gf (λj=>((d^n*Hi n X j:Int):Rat)*x^j) (n+1)=(d:Rat)^n*Gf (λj=>(Hi n X j:Rat)*(x^j*1^(n-j))) (n+1):=by rw [<-Es];refine La _ λj s=>?_;rw [onepw,<-Zd4];push_cast;grind
  rw [z,e4,y,hr (((a:Rat)+((a+b:Int):Rat)*x)/((d:Rat)*(x+1))) (x/(x+1)) ?_,Zm7,Zd4]
  .grind
  .have D:=k x e;have v:(d:Rat)≠0:=O4;push_cast;grind
 have G:=Zu8 Q;have H:=Zu8 R;intro j s;have D:=G j;have v:=H j;rw [Kk,aM s]at D v;rw [Co]at v;have Y:=sQ_le (f:=Hi n c) (g:=λi=>(Ot n i:Int)) (W:=Wij a (a+b) d n) (B:=B) (Wij_nn ha O O F n) (n+1) hB j;rw [D]at Y;have N:0<d^n:=jD I;have M:0<=d^m:=dV (jD I);have h4:((d^n*Hi n X j).natAbs:Int)=d^n*((Hi n X j).natAbs:Int):=by rw [bT];push_cast;rw [show((d^n).natAbs:Int)=d^n by omega]
 have h5:((d^m*cf (sQ (Hi n c) (Wij a (a+b) d n) (n+1)) j).natAbs:Int)=d^m*((cf (sQ (Hi n c) (Wij a (a+b) d n) (n+1)) j).natAbs:Int):=by rw [bT];push_cast;rw [show((d^m).natAbs:Int)=d^m by omega]
 have Z:=gC Y M;rw [<-h5,<-v,h4]at Z;refine jU (a:=d^n) ?_ N;refine Int.le_trans Z (Int.le_of_eq ?_);generalize d^n=p;generalize d^m=q;generalize (Ot n j:Int)=r;grind
def Ypq:∀n,n<6->∀j,j<n+1->∀k,k<j+1->(Ot n j:Int)*w60 n j k=60*(Ot (n-k) (j-k):Int):=O3
theorem Zfu(f:Nat->Int)(a:Int):∀m,Yl (λk=>a*f k) m=a*Yl f m
 | 0=>by show(0)=a*0;simp
 | m+1=>by rw [Yp,Yp,Zfu f a m,jV]
theorem Ys7(g:1<=c.length/\c.length<=6){j:Nat}(e:j<c.length):(Ot (c.length-1) j:Int)*ctl c j (j+1)=60*Hi (c.length-1) c j:=by unfold ctl Hi;rw [<-Zfu,<-Zfu];refine Xj λk f=>?_;have:=Ypq (c.length-1) O j O k O;show(Ot _ j)*(cf c k*w60 _ j k)=60*(cf c k*_);grind
theorem Yn5{n j:Nat}(h:j<n+1):(0:Int)<(Ot n j:Int):=by grind [Ztf]
theorem Yew(s:1<=c.length/\c.length<=6) : Zjf c ov=true↔∀j,j<c.length->((Hi (c.length-1) c j).natAbs:Int)<=1048576*ov*(Ot (c.length-1) j:Int):=by
 have t:∀j,j<c.length->((((ctl c j _).natAbs)<=62914560*ov)↔((Hi _ c j).natAbs)<=1048576*ov*(Ot _ j)):=λj g=>by
  have k:=Ys7 s g;have f:=Yn5 (n:=c.length-1) (j:=j) O;have l:=aD Int.natAbs k;rw [bT,bT]at l;generalize (ctl c j _).natAbs=x at *;generalize (Hi _ c j).natAbs=y at *;generalize Ot _ j=q at *;have o:(q:Int)*(x)=60*(y):=O4;constructor
  .intro h;have e:=gC h (dV f);grind
  .intro h;have e:60*(y)<=(q)*(62914560*ov):=by grind
   rw [<-o]at e;exact jU e f
 constructor
 .intro h j g;unfold Zjf at h;grind
 grind [Ztm]
def Qd : ((x.natAbs:Int)<=b)↔(-b<=x/\x<=b):=O
def bre00(c:List Int):Hi 0 c 0=cf c 0*1:=O13
def bre10(c:List Int):Hi 1 c 0=cf c 0*1:=O13
def bre11(c:List Int):Hi 1 c 1=cf c 0*1+cf c 1*1:=O13
def bre20(c:List Int):Hi 2 c 0=cf c 0*1:=O13
def bre21(c:List Int):Hi 2 c 1=cf c 0*2+cf c 1*1:=O13
def bre22(c:List Int):Hi 2 c 2=cf c 0*1+cf c 1*1+cf c 2*1:=O13
def bre30(c:List Int):Hi 3 c 0=cf c 0*1:=O13
def bre31(c:List Int):Hi 3 c 1=cf c 0*3+cf c 1*1:=O13
def bre32(c:List Int):Hi 3 c 2=cf c 0*3+cf c 1*2+cf c 2*1:=O13
def bre33(c:List Int):Hi 3 c 3=cf c 0*1+cf c 1*1+cf c 2*1+cf c 3*1:=O13
def bre40(c:List Int):Hi 4 c 0=cf c 0*1:=O13
def bre41(c:List Int):Hi 4 c 1=cf c 0*4+cf c 1*1:=O13
def bre42(c:List Int):Hi 4 c 2=cf c 0*6+cf c 1*3+cf c 2*1:=O13
def bre43(c:List Int):Hi 4 c 3=cf c 0*4+cf c 1*3+cf c 2*2+cf c 3*1:=O13
def bre44(c:List Int):Hi 4 c 4=cf c 0*1+cf c 1*1+cf c 2*1+cf c 3*1+cf c 4*1:=O13
def bre50(c:List Int):Hi 5 c 0=cf c 0*1:=O13
def bre51(c:List Int):Hi 5 c 1=cf c 0*5+cf c 1*1:=O13
def bre52(c:List Int):Hi 5 c 2=cf c 0*10+cf c 1*4+cf c 2*1:=O13
def bre53(c:List Int):Hi 5 c 3=cf c 0*10+cf c 1*6+cf c 2*3+cf c 3*1:=O13
def bre54(c:List Int):Hi 5 c 4=cf c 0*5+cf c 1*4+cf c 2*3+cf c 3*2+cf c 4*1:=O13
def bre55(c:List Int):Hi 5 c 5=cf c 0*1+cf c 1*1+cf c 2*1+cf c 3*1+cf c 4*1+cf c 5*1:=O13
theorem cf_brS{n:Nat}(t:n<6)(w:c.length<=n+1){M:Int}(h:∀j,j<n+1->((Hi n c j).natAbs:Int)<=M*(Ot n j:Int))(k:Nat):((cf c k).natAbs:Int)<=2047*M:=by
 have u:0<=M:=by have e:=h 0 O5;grind [Zn9]
 by_cases v:k<n+1
 .rw [Qd]
  match n,t with
  | 0,_=>
   have e:=Qd.1 (h 0 O);rw [bre00,show(Ot 0 0:Int)=1 from rfl]at e;grind
  | 1,_=>
   have e:=Qd.1 (h 0 O);rw [bre10,show(Ot 1 0:Int)=1 from rfl]at e;have f:=Qd.1 (h 1 O);rw [bre11,show(Ot 1 1:Int)=1 from rfl]at f;grind
  | 2,_=>
   have e:=Qd.1 (h 0 O);rw [bre20,show(Ot 2 0:Int)=1 from rfl]at e;have f:=Qd.1 (h 1 O);rw [bre21,show(Ot 2 1:Int)=2 from rfl]at f;have g:=Qd.1 (h 2 O);rw [bre22,show(Ot 2 2:Int)=1 from rfl]at g;grind
  | 3,_=>
   have e:=Qd.1 (h 0 O);rw [bre30,show(Ot 3 0:Int)=1 from rfl]at e;have f:=Qd.1 (h 1 O);rw [bre31,show(Ot 3 1:Int)=3 from rfl]at f;have g:=Qd.1 (h 2 O);rw [bre32,show(Ot 3 2:Int)=3 from rfl]at g;have l:=Qd.1 (h 3 O);rw [bre33,show(Ot 3 3:Int)=1 from rfl]at l;grind
  | 4,_=>
   have e:=Qd.1 (h 0 O);rw [bre40,show(Ot 4 0:Int)=1 from rfl]at e;have f:=Qd.1 (h 1 O);rw [bre41,show(Ot 4 1:Int)=4 from rfl]at f;have g:=Qd.1 (h 2 O);rw [bre42,show(Ot 4 2:Int)=6 from rfl]at g;have l:=Qd.1 (h 3 O);rw [bre43,show(Ot 4 3:Int)=4 from rfl]at l;have o:=Qd.1 (h 4 O);rw [bre44,show(Ot 4 4:Int)=1 from rfl]at o;grind
  | 5,_=>
   have e:=Qd.1 (h 0 O);rw [bre50,show(Ot 5 0:Int)=1 from rfl]at e;have f:=Qd.1 (h 1 O);rw [bre51,show(Ot 5 1:Int)=5 from rfl]at f;have g:=Qd.1 (h 2 O);rw [bre52,show(Ot 5 2:Int)=10 from rfl]at g;have l:=Qd.1 (h 3 O);rw [bre53,show(Ot 5 3:Int)=10 from rfl]at l;have o:=Qd.1 (h 4 O);rw [bre54,show(Ot 5 4:Int)=5 from rfl]at o;have s:=Qd.1 (h 5 O);rw [bre55,show(Ot 5 5:Int)=1 from rfl]at s;grind
 grind [Yr]
structure AxC (c:List Int) (ov:Int):Prop where
 l:1<=c.length/\c.length<=6
 t:¬(1<c.length/\c.getD (c.length-1) 0=0)
 b:∀j,j<c.length->((Hi (c.length-1) c j).natAbs:Int)<=1048576*ov*(Ot (c.length-1) j:Int)
theorem AxC.of(h:axB c ov=true):AxC c ov:=by unfold axB at h;simp only [aY,fM,iU,eJ,fT]at h;have e:1<=c.length/\c.length<=6:=⟨h.1.1.1,h.1.1.2⟩;exact⟨e,λf=>O,(Yew e).1 h.2⟩
def AxC.to(h:AxC c ov):axB c ov=true:=Yoy h.l.1 h.l.2 h.t ((Yew h.l).2 h.b)
def tzl_nz(e:c.getD (c.length-1) 0≠0):tzl c=c:=Aw (.inr e)
theorem Yox(h:AxC c ov):(tzl c=c)\/c=[0]:=by
 by_cases e:c.getD (c.length-1) 0=0
 .have j:c.length=1:=by
   have k:=h.l;have f:=h.t;by_cases g:1<c.length
   .exact absurd ⟨g,e⟩ f
   .omega
  right
  match c,j with
  | [x],_=>simp at e;rw [e]
 .exact .inl (tzl_nz e)
theorem Zg5(h:AxC c ov){t u:Rat}(f:t*(d:Rat)=(a:Rat)+(b:Rat)*u):Zi (Pe c a b d) u=(d:Rat)^5*Zi c t:=by
 unfold Pe;rw [Zf1];rcases Yox h with e|e
 .have g:=h.l;rw [e,Zmk a b d f O,Zd4];have:(d:Rat)^5=(d:Rat)^(6-c.length)*(d:Rat)^(c.length-1):=by rw [<-Ye7];congr 1;omega
  rw [this];grind
 .subst e;rw [show tzl [0]=[]from by decide,show Lf [] a b d=[]from rfl];show _*(0:Rat)=_*(((0:Int):Rat)+t*0);push_cast;grind
def Zhs (c:List Int)(a b d:Int):(Pe c a b d).length<=c.length:=aB (Pv _ _) (aB (Zf7 _ _ _ _) (Md c))
theorem Yev(h:AxC c ov)(f:0<=a)(g:0<=b)(e:a+b<=d)(k:0<d):∀j,j<c.length->((Hi (c.length-1) (Pe c a b d) j).natAbs:Int)<=1048576*(ov*d^5)*(Ot (c.length-1) j:Int):=λj l=>by have v:=h.l;have s:=Zhs c a b d;have:=Yt3 (c:=c) (X:=Pe c a b d) (n:=c.length-1) (m:=5) (B:=1048576*ov) O O f g e k (λt u o=>Zg5 h o) (λj l=>h.b j O) j O;rw [eX]at this;rw [eX];rw [eX,<-eX ov]at this;exact this
theorem cf_cmp(h:AxC c ov)(f:0<=a)(g:0<=b)(e:a+b<=d)(l:0<d)(k:Nat):((cf (Pe c a b d) k).natAbs:Int)<=ov*d^5*2146435072:=by have t:=h.l;have o:=Zhs c a b d;have:=cf_brS (n:=c.length-1) O (c:=Pe c a b d) O (M:=1048576*(ov*d^5)) (λj s=>Yev h f g e l j O) k;omega
theorem Zyk{g:Zt}(h:seB g=true):AxC g.2.1.2 g.1.2.2/\AxC g.2.2.1.2 g.1.2.2/\AxC g.2.2.2.2 g.1.2.2:=by have e:Zak g.1.1 g.1.2.1 g.1.2.2 g.2.1.2 g.2.2.1.2 g.2.2.2.2=true:=h;unfold Zak at e;simp only [aY]at e;exact⟨.of e.1.1.1.2,.of e.1.1.2,.of e.1.2⟩
theorem Ynp{fr e:Int}{g:Zt}(f:SgG g)(h:Hb fr e g=true):0<=cA fr g-g.1.1/\0<cB e g-cA fr g/\(cA fr g-g.1.1)+(cB e g-cA fr g)<=g.1.2.1-g.1.1/\0<g.1.2.1-g.1.1:=by have l:=bW h;have j:=f.t1;have k:=f.t2;unfold cA cB at *;exact⟨O,O,O,O⟩
theorem Zze{fr v:Int}{g:Zt}(hi:Gin g)(hs:seB g=true)(h:Hb fr v g=true):MdG fr v g:=by
 have f:SgG g:=Kb hi hs;obtain⟨B,D,F⟩:=Zyk hs;obtain⟨G,H,I,M⟩:=Ynp f h;obtain⟨t,u,-,-⟩:=cut_b f h;have S:=f.t3;have R:=f.t1;have P:=f.o1;have Q:=f.o2;have j:1<=g.1.2.1-g.1.1/\g.1.2.1-g.1.1<=3600000:=⟨O,O⟩;have w:=Zje f.hx f.lx t u j;have y:=Zje f.hy f.ly t u j;have z:=Zje f.hz f.lz t u j;have s:0<cO g:=fQ O (jD O);have o:((cO g).natAbs:Int)=cO g:=O;have n:∀{c:List Int},AxC c g.1.2.2->∀k,(cf (cX fr v g c) k).natAbs<=(cO g).natAbs*2146435072:=λN k=>by
  have:=cf_cmp N G (dV H) I M k;have e:(((cO g).natAbs*2146435072:Nat):Int)=cO g*2146435072:=by rw [gP,o];rfl
  refine Int.ofNat_le.1 ?_;rw [e];exact this
 refine⟨s,?_,λi=>?_,λi=>?_,λi k=>?_⟩
 .have V:bl g.1.2.2.natAbs<=40:=(Qq 40 _).2 O;have W:=Zjx j;have:=Yw g.1.2.2 ((g.1.2.1-g.1.1)^5);show bl (g.1.2.2*(g.1.2.1-g.1.1)^5).natAbs<=1000;omega
 .exact Em (p:=λl:List Int=>Sz 1000 l) w.2.2.2.2.2.2.1 y.2.2.2.2.2.2.1 z.2.2.2.2.2.2.1
 .exact Em (p:=λl:List Int=>l.length<=6) w.2.2.2.2.2.2.2 y.2.2.2.2.2.2.2 z.2.2.2.2.2.2.2
 .exact Em (p:=λl:List Int=>(cf l k).natAbs<=(cO g).natAbs*2146435072) (n B k) (n D k) (n F k)
end Go.Sky

