/- Rules, arithmetic and contracts: part 13. No conditions but those that each theorem names. -/
import Derived.Test.YteikicbnfbgpnaaGreatEa211
set_option linter.all false
set_option maxHeartbeats 4000000
namespace Go.Sky
variable{x y z c l1 l2:List Int}{i:Nat}{a b v u:Value}{ov:Int}{f:Nat->Value}{zs:List (SL×List Int)}{s:SL}{d0:SL×List Int}{M M0:Nat->Prop}
variable {P:Program} {N:Nat} {sc:Nat->Prop} {env env':Pw} {H H':Hp}
def Gc(c:List Int)(g:Int):List Int:=if c.length=0 then [0]else c.map (· / g)
def mdO(ov g:Int):Int:=if ov/g<=4294967296 then ov/g else 0
def mdL(ov g:Int)(c:List Int):List Int:=if ov/g<=4294967296 then Gc c g else []
def Kw(ov:Int)(x y z:List Int):Int:=Mh ov (Lh 3 x y z)
structure Mdh (ov:Int) (x y z:List Int):Prop where
 o:0<ov
 b:bl ov.natAbs<=1000
 s:∀i,Sz 1000 (Zs i x y z)
 l:∀i,(Zs i x y z).length<=6
 c:∀i k,(cf (Zs i x y z) k).natAbs<=ov.natAbs*2146435072
def Zhr:∀(l:List Int) (g:Int),0<=g->0<=Mh g l
 | [],_,h=>h
 | x::l,g,h=>Zhr l _ (kH _)
theorem Ydl:∀(l:List Int) (g:Int),Mh g l∣g/\∀x∈l,Mh g l∣x
 | [],g=>⟨mX _,λx h=>nomatch h⟩
 | x::l,g=>by
  obtain⟨e,j⟩:=Ydl l _;exact⟨fQ e (Int.gcd_dvd_left ..),λy d=>by
   rcases aX.1 d with rfl|d
   .exact fQ e (jJ ..)
   .exact j y d⟩
theorem Zzr{a:Int}(hi:i<3)(h:a∈Zs i x y z):a∈Lh 3 x y z:=by
 match i,hi with
 | 0,_=>exact cW.2 (.inl (cW.2 (.inl h)))
 | 1,_=>exact cW.2 (.inl (cW.2 (.inr h)))
 | 2,_=>exact cW.2 (.inr h)
theorem Mdh.g(h:Mdh ov x y z):0<Kw ov x y z/\Kw ov x y z∣ov/\∀i,i<3->∀a∈Zs i x y z,Kw ov x y z∣a:=by
 obtain⟨d,e⟩:=Ydl _ ov;have g:=Zhr (Lh 3 x y z) ov (dY h.o);have k:=h.o;refine⟨?_,d,λi hi a j=>e a (Zzr hi j)⟩;rcases Int.lt_or_eq_of_le g with q|q
 .exact q
 .exact absurd (Int.zero_dvd.1 (q▸d)) O1
theorem Mdh.fc(h:Mdh ov x y z)(i k:Nat):bl (Mh (Mh ov (Lh i x y z)) ((Zs i x y z).take k)).natAbs<=1000:=by
 have e:∀i,∀a∈Zs i x y z,bl a.natAbs<=1000:=λi a d=>by obtain⟨j,o⟩:=lN.1 d;have:=h.s i j;unfold cf at this;grind
 have n:∀a∈Lh i x y z,bl a.natAbs<=1000:=λa d=>by unfold Lh at d;have g:=e 0;have l:=e 1;have m:=e 2;simp only [Zs]at g l m;grind
 exact Zid (λa d=>e i a (fG d)) (Zid n h.b)
theorem Mdh.fit(h:Mdh ov x y z)(hs:ov/Kw ov x y z<=4294967296)(hi:i<3)(k:Nat):((Zs i x y z).getD k 0/Kw ov x y z).natAbs<=9223372036854775807:=by
 obtain⟨l,⟨s,d⟩,m⟩:=h.g;have n:Kw ov x y z∣(Zs i x y z).getD k 0:=by
  rcases aW k _ with q|q
  .exact m i hi _ (Zd q)
  .rw [aL,bX q];exact jX _
 obtain⟨t,j⟩:=n;have e:((Zs i x y z).getD k 0).natAbs<=ov.natAbs*2146435072:=h.c i k;generalize Kw ov x y z=g at *;rw [j,gL _ O1];rw [d,gL _ O1]at hs;rw [j,d,bT,bT,eH]at e;have p:=Nat.le_of_mul_le_mul_left e O1;have r:=h.o;have o:0<s:=by
  by_cases q:0<s
  .omega
  .have:=fU (dY l) (show s<=0 by omega);omega
 omega
def mdO_t{g:Int}(h:ov/g<=4294967296):mdO ov g=ov/g:=aM h
def Zhl{g:Int}(h:ov/g<=4294967296):mdL ov g c=Gc c g:=aM h
def mdO_f{g:Int}(h:¬ov/g<=4294967296):mdO ov g=0:=aK h
def Yly{g:Int}(h:¬ov/g<=4294967296):mdL ov g c=[]:=aK h
def dvL_0{g:Int}(h:c.length=0):Gc c g=[0]:=aM h
def dvL_n{g:Int}(h:c.length≠0):Gc c g=c.map (· / g):=aK h
theorem Zwi{g:Int}{k:Nat}(h:k<c.length):(c.take k).map (· / g) ++ [c.getD k 0/g]=(c.take (k+1)).map (· / g):=by rw [Ps 0 _ _ h,dB];rfl
abbrev C6 (a b c:Value) (f:Nat->Value):Array Value:=#[a,b,c,f 0,f 1,f 2]
def upd(f:Nat->Value)(i:Nat)(v:Value)(j:Nat):Value:=if j=i then v else f j
theorem c6_get{c:Value}(h:i<3):(C6 a b c f)[3+i]? = some (f i):=by
 match i,h with
 | 0,_=>rfl
 | 1,_=>rfl
 | 2,_=>rfl
theorem Yoo{c:Value}(h:i<3):(C6 a b c (upd f i v))[3+i]? = some v:=by rw [c6_get h];unfold upd;simp
theorem c6_lay{c:Value}(h:i<3):Fe (C6 a b c (upd f i u)) (3+i) [v]=C6 a b c (upd f i v):=by
 match i,h with
 | 0,_=>rfl
 | 1,_=>rfl
 | 2,_=>rfl
theorem Yav{c:Value}{g:Nat->Value}(h:∀j,j<3->f j=g j):C6 a b c f=C6 a b c g:=by grind
theorem p3_sel{b:Nat}(h:i<3):Zs i (Value.pointer (some ⟨b,3,none⟩)) (Value.pointer (some ⟨b,4,none⟩)) (Value.pointer (some ⟨b,5,none⟩))= .pointer (some ⟨b,3+i,none⟩):=by
 match i,h with
 | 0,_=>rfl
 | 1,_=>rfl
 | 2,_=>rfl
theorem c3_get{c:Value}(h:i<3):(#[a,b,c]:Array Value)[0+i*1]? = some (Zs i a b c):=by
 match i,h with
 | 0,_=>rfl
 | 1,_=>rfl
 | 2,_=>rfl
def fz(zs:List (SL×List Int))(j:Nat):Value:=Xk (zs.getD j ((none,0,0),[])).1
theorem fz_upd(h:zs.length=i)(j:Nat):fz zs j=upd (fz zs) i (.slice none 0 0) j:=by
 unfold upd;split
 .rename_i e;subst e;subst h;unfold fz;simp
 rfl
theorem Ydn(h:zs.length=i)(j:Nat):upd (fz zs) i (Xk s) j=fz (zs ++ [(s,c)]) j:=by unfold upd fz;grind
def Zhk (f:Nat->List Int){t:Nat}(e:zs.length=i)(h:∀t,t<i->(zs.getD t d0).2=f t)(d:c=f i)(g:t<i+1):((zs ++ [(s,c)]).getD t d0).2=f t:=d▸Zx3 e h g
theorem Ylx{g:Int}(k:zs.length=3)(h:∀t,t<3->(zs.getD t d0).2=Gc (Zs t x y z) g):∃l m n:SL,zs=[(l,Gc x g),(m,Gc y g),(n,Gc z g)]:=by
 match zs,k with
 | [o,p,q],_=>
  have d:=h 0 O1;have e:=h 1 O1;have j:=h 2 O1;simp [Zs]at d e j;grind
def Yi4{a b:Int} : 0<(a-b).sign↔¬a<=b:=O6
theorem t_st6 (i:Nat)(n:Nat)  {o:Oper} {x y:Operand} {t j:TypeId} {b:Nat} {e g h:Value}   {w0:World}  (B:o.op= .store t x y) (q:o.dst=none)
  (F:ev env x=some (.pointer (some ⟨b,3+n,none⟩))) (I:ev env y=some v) (m:lk H i=some (box b j (C6 e g h (upd f n u)))) (d:i≠0) (r:∀w,(sizeOf t).run P w= .ok 1 w) (Q:n<3) (l:One N sc env H v)
  (k:lk H 0=some (Yy w0 M0)) (D:∀b,w0.heap.size<=b->sc b) (p:M b) :
  T P N sc M o env H (G:=Unit) (λ_=>True) (λ_=>env) (λ_=>(i,box b j (C6 e g h (upd f n v)))::H):=by
 have:=t_stp1 B q F I m d r (by simp<;>omega) l k D p;grind [c6_lay]
theorem bl_dlq{a b:Int}{n:Nat}(h:bl a.natAbs<=n)(g:0<b)(d:0<=a):bl (a/b).natAbs<=n:=(Qs n _).2 (aV (by have e:=kU b d;grind [Int.ediv_nonneg,Int.le_of_lt]) ((Qs n _).1 h))
theorem Yms{n:Nat}(h:∀z∈zs,∀b,(Xk z.1).ownBlock=some b->n<=b)(d:∀b,(Xk s).ownBlock=some b->n<=b):∀z∈zs ++ [(s,c)],∀b,(Xk z.1).ownBlock=some b->n<=b:=λz e=>by grind
theorem fr3{n:Nat}{e g j:SL}{k l m l3:List Int}(h:∀z∈[(e,k),(g,l),(j,m)],∀b,(Xk z.1).ownBlock=some b->n<=b):∀p∈[Yx 1 Yj (Xk e) l1,Yx 1 Yj (Xk g) l2,Yx 1 Yj (Xk j) l3],∀b,p.fp b->n<=b:=λp o b d=>by
 simp only [aX,cM,fO]at o;rcases o with rfl|rfl|rfl
 .exact h (e,k) O6 b d.2
 .exact h (g,l) O6 b d.2
 .exact h (j,m) O6 b d.2
theorem fr0{n:Nat}{l3:List Int} : ∀p∈[Yx 1 Yj (Xk (none,0,0)) l1,Yx 1 Yj (Xk (none,0,0)) l2,Yx 1 Yj (Xk (none,0,0)) l3],∀b,p.fp b->n<=b:=λp d b e=>by simp only [aX,cM,fO]at d;rcases d with rfl|rfl|rfl<;>cases e.2
end Go.Sky
namespace Go.Sky
open Go.RowKit Below
variable{o:Oper}{x:Operand}{k:IntKind}{cs:Array Value}
variable {P:Program} {N:Nat} {sc:Nat->Prop} {env env':Pw} {H H':Hp} {Q Q':Exit->Act->World->Prop} {M:Nat->Prop}
theorem f_new{w0:World}{p:Pc}(i:Nat)(hi:lk H i=some p)(f:p.own=true)(d:lk H 0=some (Yy w0 (λ_=>False)))(c:i≠0:=by decide):∀a w,Sat N sc env H a w->∀b,p.fp b->w0.heap.size<=b:=λa w hs b e=>by
  rcases aW b w0.heap.size with h|h
  . exact(hs.sep i 0 p _ c hi d f b e ⟨h,λh=>h⟩).elim
  . exact h
theorem Yhq {fn:Func} {pre:List Pc} {G:Type} {φ:G->Prop} {Yt:G->Value} {c:G->List Pc} {w0:World} {e:Exit} (B:e= .ret\/e= .normal)
    (g:G) {v:Value} (n:∀p∈c g,∀b,p.fp b->w0.heap.size<=b) (j:∀a w,Sat N sc env H a w->(results fn a.tmps).run P w= .ok v w) (R:Yt g=v) (F:φ g) (t:lk H 0=some (Yy w0 (λ_=>False))) (d:Give H true (c g)) :
    X N sc e (Zc6 P fn w0 pre false φ Yt c) env H:=λa w hs=>by
  have l : a.defers = [] /\ ∃ v, (results fn a.tmps).run P w = .ok v w /\ (∃ g, Ending.returned v = .returned (Yt g) /\ φ g /\ Below w0.heap.size w0 w /\
        ∀p∈c g,p.holds w/\p.own=false/\∀b,p.fp b->w0.heap.size<=b\/(false=true/\∃q∈pre,q.fp b)):=by
    refine⟨hs.defers,v,j a w hs,g,by rw [R],F,Hx (hs.hold 0 _ t),λp s=>?_⟩;obtain⟨r,h|⟨u,y⟩⟩:=d.mem p s
    case inr=>exact⟨u w,r,λb m=>absurd m (y b)⟩
    obtain⟨i,S,I,hi,f,D,z⟩:=h;exact⟨f w (hs.hold i S hi),r,λb m=> .inl (n p s b m)⟩
  rcases B with rfl|rfl
  . exact l
  . exact l
section
variable {f:FuncId} {xs:List Operand} {ats:Array TypeId} {d:Nat} {vs:List Value} {pre:List Pc} {G:Type} {φ:G->Prop} {Yt:G->Value} {its:G->List Pc} {w0:World} {M0:Nat->Prop} {ty:TypeId} {pos:String} {af:Array Edge} {g:Option (Nat×Bool)}
theorem Yp4  {n:Nat} (Z:Cal P f vs.toArray pre false φ Yt its)
    (ho:o.op= .call { callee:= .value (.func f),args:=xs.toArray,argTypes:=ats }) (hd:o.dst=some d) (Y:Nat.blt d N=true)
    (r:EvL env xs vs) (t:∀args w,(callFunc f args).run P w= .ok (.enter f args) w) (v:PreOk H false pre)
    (R:lk H 0=some (Yy w0 M0)) (hw:∀b,w0.heap.size<=b->sc b) :
    T P N sc M o env H (λg=>φ g/\∀p∈its g,∀b,p.fp b->w0.heap.size<=b) (λg=>(d,Yt g)::env) (λg=>adds n (its g) H):=λa w hs K Q W=>by
  have B:w0.heap.size<=w.heap.size:=(hs.hold 0 _ R).size;have hr:(execOp a.eval o).run P w= .ok (.enter f vs.toArray) w:=by have hm:=r.map hs;simp [execOp,ho,resolve,invoke,Act.eval,Deferred.ofValue,hm,t]
  unfold Oper.wp;rw [hr];refine(Z w (λp l=>by obtain⟨i,it,_,hi,u,_,_⟩:=v.mem p l;exact u w (hs.hold i it hi))).mono ?_
  rintro e I ⟨g,rfl,hg,m,q⟩;show K (a.put o.dst (Yt g)) I;rw [hd];have z:Sat N sc env H a I:=hs.chg0 (Chg.of_below m);have c:∀p∈its g,∀b,p.fp b->w.heap.size<=b:=λp l b s=>by
    rcases(q p l).2.2 b s with h|⟨h,_⟩
    . exact h
    . cases h
  refine W g _ _ ⟨hg,λp l b s=>aB B (c p l b s)⟩ (Sat.put (z.adds (w1:=w) (its g) n ?_) d _ Y) (Chg.of_below m);intro p l;obtain⟨S,V,h3⟩:=q p l;refine⟨S,V,λb s=>hw b (aB B (c p l b s)),λj F hj D b s y=>?_⟩;have:=F.lt w b (hs.hold j F hj) y;have:=c p l b s;omega
def Yfm(n:Nat)(a:List Nat)(e:Cal P f vs.toArray pre false φ Yt its){c:G->Hp}[hx:EvI env xs vs][hf:CalF P f][hp:PreL P H false a pre][h0:Som (lk2 H 0) (Yy w0 M0)][hN:TB (ltb d N)][hw:Hw w0 sc][ha:∀g,AddI n (its g) H (c g)] :
    T P N sc M ⟨some d,.call { callee:= .value (.func f),args:=xs.toArray,argTypes:=ats },ty,pos,af,g⟩ env H (λg=>φ g/\∀p∈its g,∀b,p.fp b->w0.heap.size<=b) (λg=>(d,Yt g)::env) c:=
  (Yp4 (n:=n) e rfl rfl (Ny hN.h) hx.h hf.h hp.h h0.l hw.h).conv λg=>(ha g).h
end
theorem Ydh{w0 W:World}(h:Hw w0 sc)(a:w0.heap.size<=W.heap.size):Hw W sc:=⟨λb c=>h.h b (aB a c)⟩
theorem Zqe  {y:Operand} {ats:Array TypeId}  {m n:Int} (b:o.op= .call { callee:= .builtin .min,args:=#[x,y],argTypes:=ats })
    (c:ev env x=some (.int k m)) (e:ev env y=some (.int k n)):Lk P N sc o env H (.int k (min m n)):=λa w hs=>by
  simp [execOp,b,resolve,hs.ev c,hs.ev e,invoke,builtin,Builtin.min_,Builtin.min2];by_cases h:n<m
  . rw [aM h];omega
  . rw [aK h];omega
theorem d_lbw   {t p:TypeId} {i b k:Nat}  (h:o.op= .load t x) (m:ev env x=some (.pointer (some ⟨b,0,none⟩))) (a:lk H i=some (box b p cs)) (j:∀w,(isAgg t).run P w= .ok true w) (c:∀w,(sizeOf t).run P w= .ok k w)
    (e:cs.size=k):Lk P N sc o env H (.agg cs):=by
  have:=Zxs (P:=P) (N:=N) (sc:=sc) (vs:=cs.toList) h m a j c (by simpa using e) (λn u l=>by rw [cH];simpa using l);simpa using this
end Go.Sky
namespace Go.Sky
open Go.Proofs.Tryz
open Go.Proofs
set_option synthInstance.maxHeartbeats 0
set_option synthInstance.maxSize 100000
set_option maxRecDepth 20000
set_option linter.unusedSimpArgs false
variable{p:Zk->Bool}{i id:Nat}{d:Zk}{ops:List Oper}{y x c:Code}{zs:List Zk}
theorem Zeg(fr M e:Int){vx vy vz:Value}(x y z:List Int)(r:Mdh e x y z):Cal prog 230 #[.int .i64 fr,.int .i64 M,.agg #[vx,vy,vz],wv e] [Yx 2 wv vx x,Yx 2 wv vy y,Yx 2 wv vz z] false (G:=SL×SL×SL) (λg=>True) (λg=> .tuple #[.agg #[.int .i64 fr,.int .i64 M,.int .i64 (mdO e (Kw e x y z)),Xk g.1,Xk g.2.1,Xk g.2.2],.bool (decide (e/(Kw e x y z)<=4294967296))]) (λg=>[Yx 1 Yj (Xk g.1) (mdL e (Kw e x y z) x),Yx 1 Yj (Xk g.2.1) (mdL e (Kw e x y z) y),Yx 1 Yj (Xk g.2.2) (mdL e (Kw e x y z) z)]):=by
 refine Zg func230 ntmps230 λw0 sc Z b0=>?_;have ho:=r.o;have W:=r.b;obtain⟨S,a7,a8⟩:=r.g;have V:bl (Kw e x y z).natAbs<=1000:=r.fc 3 0;have a9:0<=e/(Kw e x y z):=iZ (dY ho) (dY S);refine go 2<|Yd (Yk 4) λbx _=>Yd (Yk 5) λa2 _=>Yd (Zw 6) λa3 _=>go 6<|Yd (Zw 7) λD _=>go 11 ?_;refine lp (G:=Nat) [0,1,6,7,8,10,24] [0,1,2,3,4,5,6] (λi=>[(25,.int .i64 (i:Int))]) (λi=>[(7,box D 80 (wc (Mh e (Lh i x y z))))]) (λi=>i<=3) (λi=>3-i) 0 O2 K1 K1 ?_;rintro i hi;have a0:=r.fc i;have a1:=r.l i;refine go 6<|Ze J (λN=>?_) (λN=>?_)
 .refine go 5<|Zf (Ziv i 1 2 3 50 J J J J J J)<|go 1 ?_;refine dt (Zqf i J J J underlying210 sizeOf40 isAgg40 J)<|go 11 ?_;refine lp (G:=Nat) [0,1,6,7,8,10,24,25,28,29] [0,1,2,3,4,5,6,50] (λk=>[(30,.int .i64 (k:Int))]) (λk=>[(7,box D 80 (wc (Mh (Mh e (Lh i x y z)) ((Zs i x y z).take k))))]) (λk=>k<=(Zs i x y z).length) (λk=>(Zs i x y z).length-k) 0 O2 K1 K1 ?_;rintro k hk;refine go 6<|Ze J (λP=>?_) (λP=>?_)
  .refine go 8 ⟨O3,O3,?_⟩;refine Yd (Zw 8) λa4 _=>go 6 ?_;refine cl 8 [] (Zqx (Mh (Mh e (Lh i x y z)) ((Zs i x y z).take k)) ((Zs i x y z).getD k 0) (aB (a0 k) O4) (aB (r.s i k) O4)) λ_ _=>?_;refine go 8 ⟨O1,?_⟩;exact Yh (k+1) O2 O2 K1 ⟨by rw [Ah O1];rfl,aA⟩
  .obtain rfl:k=(Zs i x y z).length:=O1;rw [bL];refine go 10 ⟨O1,?_⟩;exact Yh (i+1) O2 O2 K1 ⟨by rw [Ee x y z O1,Gi];rfl,aA⟩
 .obtain rfl:i=3:=O1;refine go 9 ?_;refine dt (Xy [(0,_),(1,_)] J K4 (λa w hs=>b35_01 ((Yg J) a w hs) ((Yg J) a w hs)))<|Yd (Zw 9) λl _=>go 7 ?_;refine cl 9 [] (Zit e (Kw e x y z) (aB W O4) (aB V O4) O1) λ_ _=>Yd (Zw 10) λa5 _=>go 5<|Qb (λ_=>False) [(0,0),(1,1),(2,1),(3,0)]<|go 1<|Yn (Zl 10 [] (Ya 4294967296 ⟨O4,O4⟩)) λ_ _=>Yn (Zl 10 [] (Zge (e/(Kw e x y z)) 4294967296 (aB (bl_dlq W S (dY ho)) O4) O4)) λ_ _=>go 3<|Ze J (λn=>?_) (λn=>?_)
  .have f:¬e/(Kw e x y z)<=4294967296:=Yi4.1 n;refine go 9 ?_;exact Yhq (.inl J) ((none,0,0),(none,0,0),(none,0,0)) fr0 (λa w hs=>Yf7 hs results230 (Ep 6 J J isAgg35 Ir J) J) (by rw [mdO_f f,aI f]) aA J (Mr (Yly f) (Mr (Yly f) (Mr (Yly f) Za)))
  .have f:e/(Kw e x y z)<=4294967296:=eW.1 λh=>n (Yi4.2 h);refine go 5 ?_;refine cl 10 [] (Zui (e/(Kw e x y z)) O1) λ_ _=>go 13 ?_;refine dt (Xy [(0,_),(1,_),(2,_)] J K6 (λa w hs=>Yoy ((Yg J) a w hs) ((Yg J) a w hs) ((Yg J) a w hs)))<|go 4 ?_;refine Zf (Np 9 (q:=box l 35 (C6 (.int .i64 fr) (.int .i64 M) (.int .i64 (e/(Kw e x y z))) (fz []))) (aD (box l 35) (show _=(C6 (.int .i64 fr) (.int .i64 M) (.int .i64 (e/(Kw e x y z))) (fz []))from J)) J J)<|Zf (Yi qC 71)<|lp (G:=Nat×List (SL×List Int)) [6,8,10,15,59] [0,7,1,2,3,4,5,6,10] (λq=>[(60,.int .i64 (q.1:Int))]) (λq=>[(9,box l 35 (C6 (.int .i64 fr) (.int .i64 M) (.int .i64 (e/(Kw e x y z))) (fz q.2))),(71,Nf qC q.2)]) (λq=>(q.1<=3)/\(q.2.length=q.1)/\(∀t,t<q.1->(q.2.getD t Z0).2=Gc (Zs t x y z) (Kw e x y z))/\(∀z∈q.2,∀b,(Xk z.1).ownBlock=some b->w0.heap.size<=b)) (λq=>3-q.1) (0,[]) ⟨O2,rfl,λt Y=>absurd Y (bD t),λz hz=>nomatch hz⟩ K1 K2 ?_;rintro⟨i,zs⟩ ⟨hi,m,u,s⟩;dsimp only at hi m u s;dsimp only;have a1:=r.l i;refine go 6<|Ze J (λQ=>?_) (λQ=>?_)
   .refine go 7 ?_;refine dt (Yz ( .pointer (some ⟨l,3+i,none⟩)) (Zqf i J J J underlying331 sizeOf330 isAgg330 J) (p3_sel O1))<|go 6 ?_;refine Zf (Ziv i 1 2 3 52 J J J J J J)<|Zf (Qt 60 1 3 Yj)<|go 2 ?_;refine dt (Fg i J J J underlying210 sizeOf40 J)<|dt (Yhe 4 J J J isAgg40 (c3_get O1))<|go 5 ?_;refine lp (G:=Nat×Value) [6,8,10,15,18,59,60,66,67] [0,71,7,1,2,3,4,5,6,10,52] (λq=>[(68,.int .i64 (q.1:Int))]) (λq=>[(9,box l 35 (C6 (.int .i64 fr) (.int .i64 M) (.int .i64 (e/(Kw e x y z))) (upd (fz zs) i q.2))),(60,Oe 1 3 Yj q.2 (((Zs i x y z).take q.1).map (· / (Kw e x y z))))]) (λq=>q.1<=(Zs i x y z).length) (λq=>(Zs i x y z).length-q.1) (0,_) O2 K1 ⟨by rw [Yav (λj _=>fz_upd m j)];rfl,by rw [eE];rfl,aA⟩ ?_;rintro⟨k,vr⟩ hk;dsimp only at hk;dsimp only;refine go 6<|Ze J (λR=>?_) (λR=>?_)
    .refine go 8 ⟨O3,O3,?_⟩;refine Yd (Zw 11) λa6 _=>go 7 ?_;refine cl 11 [] (Zit ((Zs i x y z).getD k 0) (Kw e x y z) (aB (r.s i k) O4) (aB V O4) O1) λ_ _=>cl 11 [] (Zui ((Zs i x y z).getD k 0/(Kw e x y z)) (r.fit f O1 k)) λ_ _=>go 11 ?_;refine dt (Yhe 9 J J J isAgg33 (Yoo O1))<|go 1 ?_;refine tt (Xx [(0,_)] 12 (enc:=Yj) ([(Zs i x y z).getD k 0/(Kw e x y z)]:List Int) J J K2 Py ti3 J J J J J pZ.cells J J Z.h) (λv _=>?_);refine tt (Oa 60 12 8 J J J J J J O4 J (Zz pZ) Py ti3 J pZ J J J O9 O4 J Z.h) λb1 _=>go 1 ?_;refine tt (t_st6 9 i J J J J J O4 Zc7 O1 (Of 60 J (Zz pZ)) J Z.h aA) (λ_ _=>?_);refine go 7 ⟨O1,?_⟩;exact Yh (k+1,_) O2 O2 K1 ⟨J,by rw [<-Zwi O1];rfl,aA⟩
    .obtain rfl:k=(Zs i x y z).length:=O1;rw [bL];refine go 9 ?_;refine dt (Yhe 9 J J J isAgg33 (Yoo O1))<|go 4 ?_;refine Ze J (λo=>?_) (λo=>?_)
     .have F:(Zs i x y z).length=0:=by simpa using o
      refine go 2 ?_;refine tt (Xx [(0,_)] 13 (enc:=Yj) ([0]:List Int) J J K2 Py ti3 J J J J J pZ.cells J J Z.h) λb2 _=>go 1 ?_;refine tt (t_st6 9 i J J J J J O4 Zc7 O1 (Of 13 J (Zz pZ)) J Z.h aA) (λ_ _=>?_);refine go 7 ⟨O1,?_⟩;refine Yho (f_new 13 J J J) (λH=>?_);refine Zp (Xo 13 J J pZ)<|Zud (Xp 13 J Zr) (λB I=>?_);subst I;exact Zp (Np 13 (q:=Yx 1 Yj (Xk B) (Gc (Zs i x y z) (Kw e x y z))) (aD (Yx 1 Yj (Xk B)) (dvL_0 F).symm) J J)<|Zp (Zq (q:=qC) (z:=(B,Gc (Zs i x y z) (Kw e x y z))) 71 13 71 J J J J J)<|Yh (i+1,zs ++ [(B,Gc (Zs i x y z) (Kw e x y z))]) ⟨O2,by rw [bG,m];rfl,λt Y=>Zhk (λt=>Gc (Zs t x y z) (Kw e x y z)) m u rfl Y,Yms s H⟩ O2 K1 ⟨by rw [Yav (λj _=>Ydn (c:=Gc (Zs i x y z) (Kw e x y z)) m j)];rfl,rfl,aA⟩
     .have F:(Zs i x y z).length≠0:=by simpa using o
      refine go 7 ⟨O1,?_⟩;refine Yho (f_new 60 J J J) (λH=>?_);refine Zp (Xo 60 J J pZ)<|Zud (Xp 60 J Zr) (λB I=>?_);subst I;exact Zp (Np 60 (q:=Yx 1 Yj (Xk B) (Gc (Zs i x y z) (Kw e x y z))) (aD (Yx 1 Yj (Xk B)) (dvL_n F).symm) J J)<|Zp (Zq (q:=qC) (z:=(B,Gc (Zs i x y z) (Kw e x y z))) 71 60 71 J J J J J)<|Yh (i+1,zs ++ [(B,Gc (Zs i x y z) (Kw e x y z))]) ⟨O2,by rw [bG,m];rfl,λt Y=>Zhk (λt=>Gc (Zs t x y z) (Kw e x y z)) m u rfl Y,Yms s H⟩ O2 K1 ⟨by rw [Yav (λj _=>Ydn (c:=Gc (Zs i x y z) (Kw e x y z)) m j)];rfl,rfl,aA⟩
   .obtain rfl:i=3:=O1;refine go 6 ?_;obtain⟨s1,s2,s3,rfl⟩:=Ylx m u;refine Zf (Za8 (q:=qC) 71 81 (s1,Gc x (Kw e x y z)) J J O6 J)<|Zf (Np 81 (q:=Yx 1 Yj (Xk s1) (mdL e (Kw e x y z) x)) (aD (Yx 1 Yj (Xk s1)) (Zhl f).symm) J J)<|Zf (Za8 (q:=qC) 71 82 (s2,Gc y (Kw e x y z)) J J O6 J)<|Zf (Np 82 (q:=Yx 1 Yj (Xk s2) (mdL e (Kw e x y z) y)) (aD (Yx 1 Yj (Xk s2)) (Zhl f).symm) J J)<|Zf (Za8 (q:=qC) 71 83 (s3,Gc z (Kw e x y z)) J J O6 J)<|Zf (Np 83 (q:=Yx 1 Yj (Xk s3) (mdL e (Kw e x y z) z)) (aD (Yx 1 Yj (Xk s3)) (Zhl f).symm) J J)<|Zf (Np 9 (q:=box l 35 #[.int .i64 fr,.int .i64 M,.int .i64 (e/(Kw e x y z)),Xk s1,Xk s2,Xk s3]) J J J)<|go 7 ?_;exact Yhq (.inl J) (s1,s2,s3) (fr3 s) (λa w hs=>Yf7 hs results230 (Ep 6 J J isAgg35 Ir J) J) (by rw [mdO_t f,aG f]) aA J (Gt 81 J J J (Gt 82 J J J (Gt 83 J J J Za)))
abbrev Zkt:=(Int×Int×Int)×List Int×List Int×List Int
def Gx(g:Zk):Zkt:=(g.1,g.2.1.2,g.2.2.1.2,g.2.2.2.2)
abbrev cA (fr:Int) (g:Zk):Int:=max fr g.1.1
abbrev cB (a:Int) (g:Zk):Int:=min a g.1.2.1
abbrev cX (fr a:Int) (g:Zk) (c:List Int):List Int:=Pe c (cA fr g-g.1.1) (cB a g-cA fr g) (g.1.2.1-g.1.1)
abbrev cO (g:Zk):Int:=g.1.2.2*(g.1.2.1-g.1.1)^5
def cG(fr a:Int)(g:Zk):Int:=Kw (cO g) (cX fr a g g.2.1.2) (cX fr a g g.2.2.1.2) (cX fr a g g.2.2.2.2)
def Kq(fr a:Int)(g:Zk):Bool:=decide (cA fr g<cB a g)
def Zd0(fr a:Int)(g:Zk):Bool:=decide (cO g/cG fr a g<=4294967296)
def Zf5(fr a:Int)(g:Zk):Zkt:=((cA fr g,cB a g,mdO (cO g) (cG fr a g)),mdL (cO g) (cG fr a g) (cX fr a g g.2.1.2),mdL (cO g) (cG fr a g) (cX fr a g g.2.2.1.2),mdL (cO g) (cG fr a g) (cX fr a g g.2.2.2.2))
def MdG(fr a:Int)(g:Zk):Prop:=Mdh (cO g) (cX fr a g g.2.1.2) (cX fr a g g.2.2.1.2) (cX fr a g g.2.2.2.2)
theorem Zsx{ps:List Zk}(hi:i<ps.length)(b:p (ps.getD i d)=true):(ps.filter p)[((ps.take i).filter p).length]? = some (ps.getD i d):=by
 have h:=gC i ps;have a:ps.drop i=ps.getD i d::ps.drop (i+1):=by rw [aL,aO hi,fD];exact eO hi
 conv=>lhs;arg 1;rw [<-h,a]
 rw [fZ,dV b];simp
theorem fl_t{ps:List Zk}(hi:i<ps.length)(a:p (ps.getD i d)=true):((ps.take (i+1)).filter p).length=((ps.take i).filter p).length+1:=by rw [Ps d _ _ hi,fZ,dV a,bG];rfl
theorem fl_f{ps:List Zk}(hi:i<ps.length)(a:p (ps.getD i d)=false):((ps.take (i+1)).filter p).length=((ps.take i).filter p).length:=by rw [Ps d _ _ hi,fZ,fL (by rw [a];exact eU),bG];rfl
def Zj3{d:Int}(h:1<=d/\d<=3600000):bl (d^5).natAbs<=132:=Zql (Bd O1) 5 (aF _)
theorem Yn1{W:Nat}{H:Hp}{j k l:SL}{f g l3:List Int}(h:∀p∈[Yx 1 Yj (Xk j) f,Yx 1 Yj (Xk k) g,Yx 1 Yj (Xk l) l3],∀b,p.fp b->W<=b)(i:Nat)(n:lk H i=some (Yx 1 Yj (Xk j) f))(o:lk H (i+1)=some (Yx 1 Yj (Xk k) g))(q:lk H (i+2)=some (Yx 1 Yj (Xk l) l3)) :
  ∀p∈[Yx 1 Yj (Xk j) f,Yx 1 Yj (Xk k) g,Yx 1 Yj (Xk l) l3],p.own=false/\(∀b,p.fp b->W<=b)/\∃i m,lk H i=some m/\∀w,m.holds w->p.holds w:=λp e=>by
 have a:=h p e;simp only [aX,cM,fO]at e;rcases e with rfl|rfl|rfl
 .exact⟨rfl,a,_,_,n,λ_ h=>h⟩
 .exact⟨rfl,a,_,_,o,λ_ h=>h⟩
 .exact⟨rfl,a,_,_,q,λ_ h=>h⟩
theorem cut_b{fr b:Int}{g:Zk}(a:SgG g)(h:Kq fr b g=true):(cA fr g-g.1.1).natAbs<=3600000/\(cB b g-cA fr g).natAbs<=3600000/\Nc (cA fr g-g.1.1)/\Nc (cB b g-cA fr g):=by have k:=cC h;have e:=a.t1;have f:=a.t2;have j:=a.t3;unfold cA cB at *;exact⟨O1,O1,⟨O1,O1⟩,⟨O1,O1⟩⟩
theorem Yfs(v:Value)(ps:List Zk)(Q R S:Nat)(fr a:Int)(I:∀g∈ps,SgG g)(hM:∀g∈ps,Kq fr a g=true->MdG fr a g):Yhn prog 229 [.pointer (some ⟨Q,0,none⟩),.pointer (some ⟨R,0,none⟩),.pointer (some ⟨S,0,none⟩)] [Ku Q 38 #[v],Ku R 3 #[.int .i64 fr],Ku S 3 #[.int .i64 a],Xn 6 Xv qG v ps] (α:=Zk) (G:=SL×SL×SL) (ps.filter (Kq fr a)) (λc g=>[.agg #[.int .i64 (cA fr c),.int .i64 (cB a c),.int .i64 (mdO (cO c) (cG fr a c)),Xk g.1,Xk g.2.1,Xk g.2.2],.bool (Zd0 fr a c)]) (λc g=>[Yx 1 Yj (Xk g.1) (mdL (cO c) (cG fr a c) (cX fr a c c.2.1.2)),Yx 1 Yj (Xk g.2.1) (mdL (cO c) (cG fr a c) (cX fr a c c.2.2.1.2)),Yx 1 Yj (Xk g.2.2) (mdL (cO c) (cG fr a c) (cX fr a c c.2.2.2.2))]):=by
 refine Zty func229 J ntmps229 J K4 ?_;intro l M JI Jx w0 sc hw w t k F hY;simp only [Qz,Xd];have N:=Hw.mk hw;refine Pi (Mi (i:=4) J Zc) λa3=>go 8 ?_;refine lp (G:=Nat×World) [0,2,3,12,13] [1,2,3,4] (λq=>[(14,.int .i64 (q.1:Int))]) (λq=>[(0,Yy q.2 (λ_=>False))]) (λq=>(q.1<=ps.length)/\(JI ((ps.take q.1).filter (Kq fr a)).length q.2)/\(w0.heap.size<=q.2.heap.size)) (λq=>ps.length-q.1) (0,w0) ⟨O2,F,aF _⟩ K1 K1 ?_;rintro⟨i,W⟩ ⟨hi,r,D⟩;dsimp only at hi r D;dsimp only;have d2:=Ydh N D;refine go 6<|Ze J (λn=>?_) (λn=>?_)
 .refine go 5 ?_;have f:=I _ (Zd (d:=G0) (show i<ps.length by omega));have c9:=f.t1;have d0:=f.t2;have d1:=f.t3;have c2:=f.o1;have H:=f.o2;refine Zf (Pf (ps.getD i G0) ((ps.getD i G0).2.1) 4 51 J J (Zd O1) O6)<|Zf (Pf (ps.getD i G0) ((ps.getD i G0).2.2.1) 4 52 J J (Zd O1) O6)<|Zf (Pf (ps.getD i G0) ((ps.getD i G0).2.2.2) 4 53 J J (Zd O1) O6)<|go 2 ⟨O3,?_⟩;refine dt (Yw 4 G0 J J J Zc pG O3)<|Yd (Zw 5) λbx _=>go 4 ?_;refine Qb (λ_=>False) [(0,0),(1,0),(2,0),(3,0),(4,0),(5,0),(6,0),(7,0),(8,0),(9,3)]<|go 3 ?_;refine Xc J J (Xl (Zc2 J J J))<|go 3 ?_;refine Xc J J (Xl (Zqe J J J))<|go 12 ?_;refine Ze J (λo=>?_) (λo=>?_)
  .have j:Kq fr a (ps.getD i G0)=false:=aI (by unfold cA cB;omega);refine go 8 ⟨O1,?_⟩;exact Yh (i+1,W) ⟨O2,by rw [fl_f O1 j];exact r,D⟩ O2 K1 K1
  .have j:Kq fr a (ps.getD i G0)=true:=aG (by unfold cA cB;omega);have h:=hM _ (Zd (d:=G0) (show i<ps.length by omega)) j;obtain⟨z,B,c7,c8⟩:=cut_b f j;refine go 12 ⟨O1,?_⟩;refine jn (G:=SL×SL×SL×Nat) [0,2,3,12,13,14] [0,1,2,3,4,51,52,53,5] (λq=>[(10,.pointer (some ⟨q.2.2.2,0,none⟩)),(11,.bool (Zd0 fr a (ps.getD i G0)))]) (λq=>[(90,Yx 1 Yj (Xk q.1) (mdL (cO (ps.getD i G0)) (cG fr a (ps.getD i G0)) (cX fr a (ps.getD i G0) (ps.getD i G0).2.1.2))),(91,Yx 1 Yj (Xk q.2.1) (mdL (cO (ps.getD i G0)) (cG fr a (ps.getD i G0)) (cX fr a (ps.getD i G0) (ps.getD i G0).2.2.1.2))),(92,Yx 1 Yj (Xk q.2.2.1) (mdL (cO (ps.getD i G0)) (cG fr a (ps.getD i G0)) (cX fr a (ps.getD i G0) (ps.getD i G0).2.2.2.2))),(93,box q.2.2.2 35 #[.int .i64 (cA fr (ps.getD i G0)),.int .i64 (cB a (ps.getD i G0)),.int .i64 (mdO (cO (ps.getD i G0)) (cG fr a (ps.getD i G0))),Xk q.1,Xk q.2.1,Xk q.2.2.1])]) (λq=>(∀p∈[Yx 1 Yj (Xk q.1) (mdL (cO (ps.getD i G0)) (cG fr a (ps.getD i G0)) (cX fr a (ps.getD i G0) (ps.getD i G0).2.1.2)),Yx 1 Yj (Xk q.2.1) (mdL (cO (ps.getD i G0)) (cG fr a (ps.getD i G0)) (cX fr a (ps.getD i G0) (ps.getD i G0).2.2.1.2)),Yx 1 Yj (Xk q.2.2.1) (mdL (cO (ps.getD i G0)) (cG fr a (ps.getD i G0)) (cX fr a (ps.getD i G0) (ps.getD i G0).2.2.2.2))],∀b,p.fp b->W.heap.size<=b)) ?_ ?_
   .refine Pj [5] [24]<|Zj 11 [(0,0),(1,0),(2,0),(3,0),(4,0),(5,0),(6,0),(7,0),(8,0),(9,0),(10,0),(12,0),(13,0),(15,0)]<|go 15 ⟨O1,O1,?_⟩;refine Qq 10 11 22 ?_ ?_
    .refine Px (Zl 6 [51,52,53] (Zjx ((cA fr (ps.getD i G0))-(ps.getD i G0).1.1) ((cB a (ps.getD i G0))-(cA fr (ps.getD i G0))) ((ps.getD i G0).1.2.1-(ps.getD i G0).1.1) f z B ⟨O1,O1⟩)) λ⟨s,d3,d4⟩ _=>?_;refine Qq 9 14 22 ?_ ?_
     .refine Px (Zl 8 [] (Ya (ps.getD i G0).1.2.2)) λ_ _=>?_;refine Qq 8 16 22 ?_ ?_
      .refine Px (Zl 8 [] (Fz ((ps.getD i G0).1.2.1-(ps.getD i G0).1.1) 5 (aB (Bd O1) O4) O4 O4)) λ_ _=>?_;refine Qq 7 17 22 ?_ ?_
       .refine Px (Zl 8 [] (Aq (ps.getD i G0).1.2.2 (((ps.getD i G0).1.2.1-(ps.getD i G0).1.1)^5) (aB (Li ⟨O1,O1⟩) O4) (aB (Zj3 ⟨O1,O1⟩) O4))) λ_ _=>?_;refine Qq 6 18 22 ?_ ?_
        .refine Px (Yfm 90 [6,7,8] (Zeg (cA fr (ps.getD i G0)) (cB a (ps.getD i G0)) (cO (ps.getD i G0)) (cX fr a (ps.getD i G0) (ps.getD i G0).2.1.2) (cX fr a (ps.getD i G0) (ps.getD i G0).2.2.1.2) (cX fr a (ps.getD i G0) (ps.getD i G0).2.2.2.2) h)) λ⟨d5,d6,d7⟩ ⟨_,e⟩=>?_;refine Zj 0 [(19,0),(20,0),(21,0),(22,1),(23,1),(24,3)]<|go 3 ?_;refine Yn (Qf 93) λV ho=>go 3<|Zo ?_;exact Oc (_,_,_,_) e K2 K4
        .refine Px (Qf 93) λY H=>?_;refine Zj 0 [(18,1),(19,0),(20,0),(21,0),(23,1),(24,3)]<|Yn (Yfm 90 [6,7,8] (Zeg (cA fr (ps.getD i G0)) (cB a (ps.getD i G0)) (cO (ps.getD i G0)) (cX fr a (ps.getD i G0) (ps.getD i G0).2.1.2) (cX fr a (ps.getD i G0) (ps.getD i G0).2.2.1.2) (cX fr a (ps.getD i G0) (ps.getD i G0).2.2.2.2) h)) λ⟨d8,d9,e0⟩ ⟨_,e⟩=>go 6 ?_;exact Zo<|Oc (_,_,_,_) e K2 K4
       .refine Px (Qf 93) λZ c3=>?_;refine Zj 0 [(17,1),(18,1),(19,0),(20,0),(21,0),(23,1),(24,3)]<|Yn (Zl 8 [] (Aq (ps.getD i G0).1.2.2 (((ps.getD i G0).1.2.1-(ps.getD i G0).1.1)^5) (aB (Li ⟨O1,O1⟩) O4) (aB (Zj3 ⟨O1,O1⟩) O4))) λ_ _=>Yn (Yfm 90 [6,7,8] (Zeg (cA fr (ps.getD i G0)) (cB a (ps.getD i G0)) (cO (ps.getD i G0)) (cX fr a (ps.getD i G0) (ps.getD i G0).2.1.2) (cX fr a (ps.getD i G0) (ps.getD i G0).2.2.1.2) (cX fr a (ps.getD i G0) (ps.getD i G0).2.2.2.2) h)) λ⟨a4,a5,a6⟩ ⟨_,e⟩=>go 6 ?_;exact Zo<|Oc (_,_,_,_) e K2 K4
      .refine Px (Qf 93) λa0 c4=>?_;refine Zj 0 [(16,1),(17,1),(18,1),(19,0),(20,0),(21,0),(23,1),(24,3)]<|Yn (Zl 8 [] (Fz ((ps.getD i G0).1.2.1-(ps.getD i G0).1.1) 5 (aB (Bd O1) O4) O4 O4)) λ_ _=>Yn (Zl 8 [] (Aq (ps.getD i G0).1.2.2 (((ps.getD i G0).1.2.1-(ps.getD i G0).1.1)^5) (aB (Li ⟨O1,O1⟩) O4) (aB (Zj3 ⟨O1,O1⟩) O4))) λ_ _=>Yn (Yfm 90 [6,7,8] (Zeg (cA fr (ps.getD i G0)) (cB a (ps.getD i G0)) (cO (ps.getD i G0)) (cX fr a (ps.getD i G0) (ps.getD i G0).2.1.2) (cX fr a (ps.getD i G0) (ps.getD i G0).2.2.1.2) (cX fr a (ps.getD i G0) (ps.getD i G0).2.2.2.2) h)) λ⟨a7,a8,a9⟩ ⟨_,e⟩=>go 6 ?_;exact Zo<|Oc (_,_,_,_) e K2 K4
     .refine Px (Qf 93) λa1 c5=>?_;refine Zj 0 [(14,1),(16,1),(17,1),(18,1),(19,0),(20,0),(21,0),(23,1),(24,3)]<|Yn (Zl 8 [] (Ya (ps.getD i G0).1.2.2)) λ_ _=>Yn (Zl 8 [] (Fz ((ps.getD i G0).1.2.1-(ps.getD i G0).1.1) 5 (aB (Bd O1) O4) O4 O4)) λ_ _=>Yn (Zl 8 [] (Aq (ps.getD i G0).1.2.2 (((ps.getD i G0).1.2.1-(ps.getD i G0).1.1)^5) (aB (Li ⟨O1,O1⟩) O4) (aB (Zj3 ⟨O1,O1⟩) O4))) λ_ _=>Yn (Yfm 90 [6,7,8] (Zeg (cA fr (ps.getD i G0)) (cB a (ps.getD i G0)) (cO (ps.getD i G0)) (cX fr a (ps.getD i G0) (ps.getD i G0).2.1.2) (cX fr a (ps.getD i G0) (ps.getD i G0).2.2.1.2) (cX fr a (ps.getD i G0) (ps.getD i G0).2.2.2.2) h)) λ⟨b0,b4,b5⟩ ⟨_,e⟩=>go 6 ?_;exact Zo<|Oc (_,_,_,_) e K2 K4
    .refine Px (Qf 93) λa2 c6=>?_;refine Zj 0 [(11,1),(14,1),(16,1),(17,1),(18,1),(19,0),(20,0),(21,0),(23,1),(24,3)]<|Yn (Zl 9 [51,52,53] (Zjx ((cA fr (ps.getD i G0))-(ps.getD i G0).1.1) ((cB a (ps.getD i G0))-(cA fr (ps.getD i G0))) ((ps.getD i G0).1.2.1-(ps.getD i G0).1.1) f z B ⟨O1,O1⟩)) λ⟨b6,b7,b8⟩ _=>Yn (Zl 11 [] (Ya (ps.getD i G0).1.2.2)) λ_ _=>Yn (Zl 11 [] (Fz ((ps.getD i G0).1.2.1-(ps.getD i G0).1.1) 5 (aB (Bd O1) O4) O4 O4)) λ_ _=>Yn (Zl 11 [] (Aq (ps.getD i G0).1.2.2 (((ps.getD i G0).1.2.1-(ps.getD i G0).1.1)^5) (aB (Li ⟨O1,O1⟩) O4) (aB (Zj3 ⟨O1,O1⟩) O4))) λ_ _=>Yn (Yfm 90 [9,10,11] (Zeg (cA fr (ps.getD i G0)) (cB a (ps.getD i G0)) (cO (ps.getD i G0)) (cX fr a (ps.getD i G0) (ps.getD i G0).2.1.2) (cX fr a (ps.getD i G0) (ps.getD i G0).2.2.1.2) (cX fr a (ps.getD i G0) (ps.getD i G0).2.2.2.2) h)) λ⟨b9,c0,c1⟩ ⟨_,e⟩=>go 6 ?_;exact Zo<|Oc (_,_,_,_) e K2 K4
   .rintro⟨s1,s2,s3,bj⟩ e;dsimp only at e;dsimp only;refine go 1<|Yg8 ?_;refine Lg (Zbd J J) J<|Lg (d_lbw (i:=93) J J J isAgg35 Ir J) J<|Lg (Zbd J J) J<|Zwl [_,_] [_,_,_,_] (ps.getD i G0) (s1,s2,s3) hY (Zsx O1 j) r D w J J J J J K2 J J (Yn1 e 90 J J J) K4 K4 (λP m u=>?_) (λP m u=>?_)
    .simp only [Xd];refine Lg (dF (Yq J J) J) J<|Bi<|go 9 ⟨O1,?_⟩;exact Yh (i+1,P) ⟨O2,by rw [fl_t O1 j];exact m,u⟩ O2 K1 K1
    .simp only [Xd];refine Lg (dT (Yq J J) J) J<|Bi<|go 7 ?_;exact Zb7 (.inl J) J J t k (.inr m)
 .obtain rfl:i=ps.length:=O1;rw [bL]at r;exact go 4<|Zb7 (.inr J) J J t k (.inl r)
open Go.RowKit Below
variable {P:Program} {N:Nat} {sc:Nat->Prop} {env env':Pw} {H H':Hp} {Q Q':Exit->Act->World->Prop} {l:Nat}
def ER(P:Program)(N:Nat)(sc:Nat->Prop)(l:Nat)(c:Code)(Q:Exit->Act->World->Prop)(env:Pw)(H:Hp):Prop:=
 ∀a w,Sat N sc env H a w->c.wpIn (Fence.wide.inRound l) 0 P Q a w
def ndB(o:Oper):Bool:=match o.op with
 | .defer _=>false
 | _=>true
theorem Zes(h:ops.all ndB=true):Zle ops:=λo b c a=>by have:=cI.1 h o b;unfold ndB at this;rw [a]at this;cases this
def Zs9(b:ops.all ndB=true)(h:L P N sc ops.toArray ops (Fc (Exit.then (λa w=>y.wpIn (Fence.wide.inRound l) 0 P Q a w) Q)) env H):ER P N sc l (.seq (.region id ops.toArray false) y) Q env H:=
 λa w hs=>wpIn_seq (Yj2 (Zes b) h hs)
def Zs8(b:ops.all ndB=true)(h:L P N sc ops.toArray ops (Fc Q) env H):ER P N sc l (.region id ops.toArray false) Q env H:=
 λa w hs=>Yj2 (Zes b) h hs
def Ypk(h:ER P N sc l y Q env H):X N sc .normal (Fc (Exit.then (λa w=>y.wpIn (Fence.wide.inRound l) 0 P Q a w) Q)) env H:=λa w hs=>h a w hs
def Zyk(h:∀a w,Sat N sc env H a w->Q .normal a w):X N sc .normal (Fc Q) env H:=λa w hs=>h a w hs
def Hg(h:ER P N sc l x (Exit.then (λa w=>y.wpIn (Fence.wide.inRound l) 0 P Q a w) Q) env H):ER P N sc l (.seq x y) Q env H:=λa w hs=>wpIn_seq (h a w hs)
def Zbw(h:ER P N sc l c (Exit.inBlock id Q) env H):ER P N sc l (.block id c) Q env H:=λa w hs=>wpIn_block (h a w hs)
theorem Zxa{c:Operand}{b:Bool}(e:ev env c=some (.bool b))(g:b=true->ER P N sc l x Q env H)(f:b=false->ER P N sc l y Q env H):ER P N sc l (.cond c x y) Q env H:=λa w hs=>by
 cases b with
 | true=>exact wpIn_cond_true (hs.ev e) (g rfl a w hs)
 | false=>exact wpIn_cond_false (hs.ev e) (f rfl a w hs)
def Zs7(h:∀a w,Sat N sc env H a w->Q .normal a w):ER P N sc l .skip Q env H:=λa w hs=>wpIn_skip (h a w hs)
def Yac(h:∀a w,Sat N sc env H a w->Q .ret a w):ER P N sc l .ret Q env H:=λa w hs=>wpIn_ret (h a w hs)
def Zf0(b:∀a w,Sat N sc env H a w->Sat N sc env' H' a w)(h:ER P N sc l c Q env' H'):ER P N sc l c Q env H:=λa w hs=>h a w (b a w hs)
theorem Ci{β:Type}(i k:Nat)(enc:β->Value)(q:β->Pc):∀a w,Sat N sc env H a w->Sat N sc env ((i,Xn k enc q (.slice none 0 0) [])::H) a w:=λa w hs=>
 hs.add i _ ⟨Ag k enc w,λz f=>by cases f⟩ (λh j _ _ Ff b e g=>by
  rcases e with e|⟨z,f,_⟩
  .exact absurd rfl e.1
  .cases f) (λb e=>by
  rcases e with e|⟨z,f,_⟩
  .exact absurd rfl e.1
  .cases f)
theorem Ymt{a:Hp}{g:Zk}(i j:Nat)(h:lk a i=some (Nf qG zs))(k:lk a j=some (Yx 1 Yj (Xk g.2.1.1) g.2.1.2))(m:lk a (j+1)=some (Yx 1 Yj (Xk g.2.2.1.1) g.2.2.1.2))(n:lk a (j+2)=some (Yx 1 Yj (Xk g.2.2.2.1) g.2.2.2.2)) :
  ∀b,(Nf qG (zs ++ [g])).fp b->∃j q,lk a j=some q/\q.fp b:=λb ⟨z,o,e⟩=>by
 rcases cW.1 o with q|q
 .exact⟨i,_,h,z,q,e⟩
 .rw [bN.1 q]at e;obtain⟨c,f,e⟩:=e;simp only [aX,cM,fO]at f;rcases f with rfl|rfl|rfl
  .exact⟨j,_,k,e⟩
  .exact⟨j+1,_,m,e⟩
  .exact⟨j+2,_,n,e⟩
end Go.Sky
namespace Go.Sky
variable{k b c off:Nat}{zs:List Zk}{x y:Operand}{v:Value}{r:List Value}{xs:List Int}{w0 w:World}{M0:Nat->Prop}{a:Act}{o:Oper}{t tb:TypeId}{kd:IntKind}{m:Int}
theorem Zjf{l n p q s u d e f g h j:Value}:Instr.fill (λi=>some (i*6,6)) ((List.range (1*6)).map ((Value.agg #[l,n,p,q,s,u]).cells[· % (Value.agg #[l,n,p,q,s,u]).cells.size]!)).toArray [(0,.agg #[d,e,f,g,h,j])]=some #[d,e,f,g,h,j]:=by
 simp [Instr.fill,Value.cells,List.range,List.range.loop]
 try rfl
def Pu(fr d:Int)(ps:List Zk):Bool:=(ps.filter (Kq fr d)).all (Zd0 fr d)
def Zbf(fr d:Int)(ps:List Zk):List Zkt:=if Pu fr d ps=true then(ps.filter (Kq fr d)).map (Zf5 fr d)else []
def Zxv(fr d:Int)(ps:List Zk):Int:=if Pu fr d ps=true then 0 else 7
def Zyx(fr d:Int)(x:Zk)(g:SL×SL×SL):Zk:=((cA fr x,cB d x,mdO (cO x) (cG fr d x)),(g.1,mdL (cO x) (cG fr d x) (cX fr d x x.2.1.2)),(g.2.1,mdL (cO x) (cG fr d x) (cX fr d x x.2.2.1.2)),(g.2.2,mdL (cO x) (cG fr d x) (cX fr d x x.2.2.2.2)))
def Ztm(fr d:Int)(ps:List Zk)(k:Nat)(zs:List Zk):Prop:=zs.map Gx=((ps.filter (Kq fr d)).take k).map (Zf5 fr d)/\((ps.filter (Kq fr d)).take k).all (Zd0 fr d)=true
theorem Zio{α:Type}{xs:List α}{x:α}(h:xs[k]? = some x):xs.take (k+1)=xs.take k ++ [x]:=by rw [List.take_add_one,h];rfl
theorem Yn6(fr d:Int)(ps:List Zk):Ztm fr d ps 0 []:=⟨by rw [eE];rfl,by rw [eE];rfl⟩
theorem cutI_s{fr d:Int}{ps:List Zk}{x:Zk}{g:SL×SL×SL}(h:Ztm fr d ps k zs)(e:(ps.filter (Kq fr d))[k]? = some x)(j:Zd0 fr d x=true):Ztm fr d ps (k+1) (zs ++ [Zyx fr d x g]):=by
 obtain⟨f,i⟩:=h;refine⟨?_,?_⟩
 .rw [Zio e,dB,dB,f];rfl
 .rw [Zio e,lJ,i];simp [j]
theorem Yn4{fr d:Int}{ps:List Zk}(h:Ztm fr d ps k zs)(e:k<=ps.length):zs.length<=ps.length:=by have:=aD List.length h.1;rw [bA,bA,cL]at this;have:=jO (Kq fr d) ps;omega
theorem Yak{fr d:Int}{ps:List Zk}{x:Zk}(f:(ps.filter (Kq fr d))[k]? = some x)(e:Zd0 fr d x=false):Pu fr d ps=false:=by
 unfold Pu;cases hb:(ps.filter (Kq fr d)).all (Zd0 fr d)with
 | false=>rfl
 | true=>
  have:=cI.1 hb x (eV f);rw [e]at this;cases this
theorem Yn5{fr d:Int}{ps:List Zk}(h:Ztm fr d ps (ps.filter (Kq fr d)).length zs):zs.map Gx=Zbf fr d ps/\Zxv fr d ps=0:=by obtain⟨f,e⟩:=h;rw [bL]at f e;exact⟨by unfold Zbf Pu;rw [aM e];exact f,by unfold Zxv Pu;rw [aM e]⟩
theorem Yn2{fr d:Int}{ps:List Zk}(h:Pu fr d ps=false):([]:List Zk).map Gx=Zbf fr d ps/\Zxv fr d ps=7:=by unfold Zbf Zxv;rw [aK (by rw [h];exact eU),aK (by rw [h];exact eU)];exact⟨rfl,rfl⟩
def spF(ps:List Zk):Int:=(ps.getD 0 G0).1.1
def spL(ps:List Zk):Int:=(ps.getD (ps.length-1) G0).1.2.1
open Go.Proofs.Tryz
open Go.Proofs
set_option synthInstance.maxHeartbeats 0
set_option synthInstance.maxSize 100000
set_option maxRecDepth 20000
set_option linter.unusedSimpArgs false
theorem Yit{ps:List Zk}{fr i:Int}:Cal prog 181 #[v,.int .i64 fr,.int .i64 i] [Xn 6 Xv qG v ps] true (G:=Nat×Nat×Nat) (λg=>True) (λg=> .func (.func 229) #[] #[.pointer (some ⟨g.1,0,none⟩),.pointer (some ⟨g.2.1,0,none⟩),.pointer (some ⟨g.2.2,0,none⟩)]) (λg=>[Ku g.1 38 #[v],Ku g.2.1 3 #[.int .i64 fr],Ku g.2.2 3 #[.int .i64 i]]):=by refine Zg func181 ntmps181 λw0 n l d=>?_;refine Zby (Xp 1 J Zc) (λp e=>?_);subst e;refine go 2<|Yd (Yk 2) λj _=>Yd (Yk 3) λf _=>Yd (Yk 4) λh _=>go 5 ?_;refine dt (Zxq [] [_,_,_] J aA K3)<|go 4 ?_;exact Zp (Zfr 2 J J)<|Zp (Zfr 3 J J)<|Zp (Zfr 4 J J)<|Xh d (_,_,_) results181 J aA (Ph 2 (Ph 3 (Ph 4 Za)))
@[reducible,instance] def encGI:EncT prog 35 6 Xv:=⟨pG⟩
theorem Yiv{ps:List Zk}{fr d:Int}(V:∀g∈ps,SgG g)(hM:∀g∈ps,Kq fr d g=true->MdG fr d g)(a0:ps.length<=256):Cal prog 121 #[v,.int .i64 fr,.int .i64 d] [Xn 6 Xv qG v ps] true (G:=Value×List Zk) (λg=>g.2.map Gx=Zbf fr d ps) (λg=> .tuple #[g.1,.int .i64 (Zxv fr d ps)]) (λg=>[Xn 6 Xv qG g.1 g.2]):=by
 refine Zcx func121 J ntmps121 J K1 ?_;intro w0 sc M I;have M:=Hw.mk M;simp only [Qz,Xd];refine go 2<|Yd (Zw 2) λu _=>Yd (Zw 3) λe _=>go 8 ?_;refine cl 4 [1] Yit λ⟨b,F,H⟩ _=>go 3<|Zf (Qt 70 6 35 Xv)<|Zf (Yi qG 73) ?_;refine Zxd ([Ku b 38 #[v],Ku F 3 #[.int .i64 fr],Ku H 3 #[.int .i64 d],Xn 6 Xv qG v ps]) w0 (λ(_:Nat) (n:Value×List Zk)=>[(0,Yy w0 (λ_=>False)),(1,Xn 6 Xv qG v ps),(2,box u 38 #[n.1]),(3,box e 26 #[.int .i64 0]),(70,Oe 6 35 Xv n.1 n.2),(73,Nf qG n.2)]) (λk n=>Ztm fr d ps k n.2) (λ(_:Unit)=>[(0,Yy w0 (λ_=>False)),(2,box u 38 #[.slice none 0 0]),(3,box e 26 #[.int .i64 7])]) (λ_=>Pu fr d ps=false) (.slice none 0 0,[]) J (by intro s w;first|exact enters_of func229 O8 rfl s w|exact call229 s w) (Yfs v ps b F H fr d V hM) ?_ (λ_ _=>J) J M.h J (Yn6 fr d ps) K6 (λ_ _=>⟨J,J⟩) (λ_=>⟨J,J⟩) (λk x f n W j l Mf Wa=>?_) J (λn j D od=>?_) (λ_ N=>?_)
 .intro p Z;simp only [aX,cM,fO]at Z;rcases Z with rfl|rfl|rfl|rfl
  .exact⟨J,4,J⟩
  .exact⟨J,5,J⟩
  .exact⟨J,6,J⟩
  .exact⟨J,1,J⟩
 .obtain⟨B,zs⟩:=n;have S:k<=ps.length:=aB (dH (fC.1 W).1) (jO _ _);have a1:zs.length<=ps.length:=Yn4 j S;refine Zf0 (env':=[(15,.bool (Zd0 fr d x)),(14,.agg #[.int .i64 (cA fr x),.int .i64 (cB d x),.int .i64 (mdO (cO x) (cG fr d x)),Xk f.1,Xk f.2.1,Xk f.2.2]),(6,.pointer (some ⟨u,0,none⟩)),(7,.pointer (some ⟨e,0,none⟩))]) (H':=[(92,Yy Wa Mf),(100,Yx 1 Yj (Xk f.1) (mdL (cO x) (cG fr d x) (cX fr d x x.2.1.2))),(101,Yx 1 Yj (Xk f.2.1) (mdL (cO x) (cG fr d x) (cX fr d x x.2.2.1.2))),(102,Yx 1 Yj (Xk f.2.2) (mdL (cO x) (cG fr d x) (cX fr d x x.2.2.2.2))),(0,Yy w0 (λ_=>False)),(1,Xn 6 Xv qG v ps),(2,box u 38 #[B]),(3,box e 26 #[.int .i64 0]),(70,Oe 6 35 Xv B zs),(73,Nf qG zs)]) (λa w hs=>hs.weaken ⟨J,J,J,J,aA⟩ ⟨J,J,J,J,J,J,J,J,J,J,aA⟩)<|Zs9 J<|Yd (Zw 8) λY _=>go 1 ?_;refine go 1 ?_;refine Ypk<|Zs8 J<|go 1 ?_;refine go 1 ?_;refine Zyk λa w hs=>⟨J,[(8,.pointer (some ⟨Y,0,none⟩)),(9,.bool (Zd0 fr d x)),(6,.pointer (some ⟨u,0,none⟩)),(7,.pointer (some ⟨e,0,none⟩))],[(8,box Y 35 #[.int .i64 (cA fr x),.int .i64 (cB d x),.int .i64 (mdO (cO x) (cG fr d x)),Xk f.1,Xk f.2.1,Xk f.2.2]),(100,Yx 1 Yj (Xk f.1) (mdL (cO x) (cG fr d x) (cX fr d x x.2.1.2))),(101,Yx 1 Yj (Xk f.2.1) (mdL (cO x) (cG fr d x) (cX fr d x x.2.2.1.2))),(102,Yx 1 Yj (Xk f.2.2) (mdL (cO x) (cG fr d x) (cX fr d x x.2.2.2.2))),(0,Yy w0 (λ_=>False)),(1,Xn 6 Xv qG v ps),(2,box u 38 #[B]),(3,box e 26 #[.int .i64 0]),(70,Oe 6 35 Xv B zs),(73,Nf qG zs)],J,(λq h=>by cases h;rfl),⟨.inl J,.inr (λb i=>⟨100,_,J,i⟩),.inr (λb i=>⟨101,_,J,i⟩),.inr (λb i=>⟨102,_,J,i⟩),.inr (λb i=>⟨0,_,J,i⟩),.inr (λb i=>⟨1,_,J,i⟩),.inl J,.inl J,.inl J,.inr (λb i=>⟨73,_,J,i⟩),aA⟩,hs.weaken ⟨J,J,J,J,aA⟩ ⟨J,J,J,J,J,J,J,J,J,J,J,aA⟩,λWb _=>?_⟩;refine Zbw<|Hg<|Zs9 J<|go 2 ?_;refine go 1 ?_;refine Ypk<|Zxa J (λR=>?_) (λR=>?_)
  .refine Zs9 J<|go 2 ?_;refine go 1 ?_;exact Ypk<|Yac λa w hs=>Or.inr ⟨J,(),Yak W (Zt0 R),⟨.inr (λb i=>⟨0,_,J,i⟩),.inl J,.inl J,aA⟩,[],hs.weaken aA ⟨J,J,J,J,aA⟩⟩
  .refine Zs7<|Zs8 J<|go 2 ?_;refine tt (Xx [(0,_)] 12 (enc:=Xv) [(Zyx fr d x f)] J J K2 Lz ti35 J J Zjf J J pG.cells J J M.h) (λv2 _=>?_);refine tt (Oa 70 12 96 J J J J J J O4 J (Zz pG) Lz ti35 J pG J J J O9 O4 J M.h) λv3 _=>go 2 ?_;exact Zp (Yi qC 71)<|Zp (Zq (q:=qC) (z:=(Zyx fr d x f).2.1) 71 100 71 J J J J J)<|Zp (Zq (q:=qC) (z:=(Zyx fr d x f).2.2.1) 71 101 71 J J J J J)<|Zp (Zq (q:=qC) (z:=(Zyx fr d x f).2.2.2) 71 102 71 J J J J J)<|Zp (Zq (q:=qG) (z:=(Zyx fr d x f)) 73 71 73 J J J J J)<|Zyk λa w hs=>Or.inl ⟨J,(v3,zs ++ [(Zyx fr d x f)]),cutI_s j W (Zt1 R),⟨.inr (λb i=>⟨0,_,J,i⟩),.inr (λb i=>⟨1,_,J,i⟩),.inl J,.inl J,.inl J,.inr (Ymt 73 100 J J J J),aA⟩,[],hs.weaken aA ⟨J,J,J,J,J,J,J,aA⟩⟩
 .obtain⟨B,zs⟩:=n;obtain⟨P,Q⟩:=Yn5 j;refine go 3 ?_;refine go 1 ?_;refine Zyk λa w hs=>⟨J,[(6,.pointer (some ⟨u,0,none⟩)),(7,.pointer (some ⟨e,0,none⟩))],[(0,Yy w0 (λ_=>False)),(1,Xn 6 Xv qG v ps),(2,box u 38 #[B]),(3,box e 26 #[.int .i64 0]),(70,Oe 6 35 Xv B zs),(73,Nf qG zs)],J,⟨⟨_,J,J,λ_ h=>h⟩,⟨_,J,J,λ_ h=>h⟩,⟨_,J,J,λ_ h=>h⟩,⟨_,J,J,λ_ h=>h⟩,⟨_,J,J,λ_ h=>h⟩,⟨_,J,J,λ_ h=>h⟩,aA⟩,hs.weaken ⟨J,J,aA⟩ ⟨J,J,J,J,J,J,J,aA⟩,?_⟩;exact Zp (Xo 70 J J pG)<|Zp (Xq 70 73 72 J J J J)<|Nm I (B,zs) results121 (by rw [Q]) P (Ph 72 Za)
 .exact Zp (Ci 72 6 Xv qG)<|Nm I (.slice none 0 0,[]) results121 (by rw [(Yn2 N).2]) (Yn2 N).1 (Ph 72 Za)
open Go.RowKit Below
variable {P:Program} {N:Nat} {sc:Nat->Prop} {env env':Pw} {H H':Hp} {Q Q':Exit->Act->World->Prop} {M:Nat->Prop}
def wcr(l:List Int)(r:List Value):Array Value:=(l.map (Value.int .i64) ++ r).toArray
theorem Zly(l:List Int)(r:List Value):(wcr l r).size=l.length+r.length:=by simp [wcr]
theorem Ypo{l:List Int}{j:Nat}(h:j<l.length):(wcr l r)[j]? = some (.int .i64 (l.getD j 0)):=by simp [wcr,eN,h,aL]
theorem Ypn{l:List Int}{j:Nat}{v:Int}(h:j<l.length):Fe (wcr l r) j [.int .i64 v]=wcr (l.set j v) r:=by unfold Fe wcr;congr 1;rw [jE,aM h,dB,bZ,List.map_take,List.map_drop];grind
theorem Yau(l:List Int):cellsOf Yj l=l.map (Value.int .i64):=by
 induction l with
 | nil=>rfl
 | cons x l d=>rw [show cellsOf _ _=(Yj x).cells.toList ++ cellsOf _ l from rfl,d];rfl
theorem f_obox{e:TypeId}(i:Nat)(hi:lk H i=some (Oe 1 e Yj v xs))(z:xs≠[]):∀a w,Sat N sc env H a w->∃y:Nat×Nat×List Value,
  v= .slice (some ⟨y.1,0,none⟩) xs.length y.2.1/\xs.length+y.2.2.length=y.2.1/\y.2.1<=maxLen/\w.heap[y.1]? = some (.cells (wcr xs y.2.2) e (0,0)):=λa w hs=>by
 have f:=hs.hold i _ hi;rcases f.2 with⟨rfl,u⟩|⟨g,h,d,rfl,q,s,p,j,n,l⟩
 .grind
 .refine⟨(g,h,d.toList.drop xs.length),rfl,?_,j,?_⟩
  .grind
  .rw [show wcr xs _=d by unfold wcr;grind [Yau,List.take_append_drop]]
   omega
theorem s_obox {e:TypeId}      (i:Nat) (hi:lk H i=some (Oe 1 e Yj (.slice (some ⟨b,0,none⟩) xs.length c) xs)) (g:Nat.beq i 0=false) (d:lk H 0=some (Yy w0 M0)) (j:∀b,w0.heap.size<=b->sc b)
    (hs:Sat N sc env H a w) (f:w.heap[b]? = some (.cells (wcr xs r) e (0,0))):Sat N sc env ((i,box b e (wcr xs r))::H) a w:=
 hs.upd hi rfl (λe=>O11) (Chg.refl _ w) f (λk h=> .inl (by show some b=some k;rw [show k=b from h])) d j
theorem e_obox {f:Code} {e:TypeId}     (i:Nat) (hi:lk H i=some (Oe 1 e Yj v xs)) (d:Nat.beq i 0=false) (s:xs≠[]) (g:lk H 0=some (Yy w0 M0)) (q:∀b,w0.heap.size<=b->sc b)
  (h:∀(b c:Nat) (r:List Value),v= .slice (some ⟨b,0,none⟩) xs.length c->xs.length+r.length=c->c<=maxLen->E P N sc f Q env ((i,box b e (wcr xs r))::H)):E P N sc f Q env H:=λa w hs=>by
 obtain⟨⟨b,c,r⟩,p,j,l,n⟩:=f_obox i hi s a w hs;subst p;exact h b c r rfl j l a w (s_obox i hi d g q hs n)
theorem Yqs{e:TypeId}(i:Nat)(hi:lk H i=some (box b e (wcr xs r)))(g:Nat.beq i 0=false)(n:xs.length+r.length=c)(j:c<=maxLen)(d:lk H 0=some (Yy w0 M0))(l:∀b,w0.heap.size<=b->sc b) :
  ∀a w,Sat N sc env H a w->Sat N sc env ((i,Oe 1 e Yj (.slice (some ⟨b,0,none⟩) xs.length c) xs)::H) a w:=λa w hs=>by
 have f:=hs.hold i _ hi;refine hs.upd hi rfl (λe=>O11) (Chg.refl _ w) ?_ (λk h=> .inl (by cases h;rfl)) d l;refine⟨by rw [Yau,bA,kN],.inr ⟨b,c,_,rfl,bE _,f,O1,j,by simp_all [Zly,kN],?_⟩⟩;rw [Yau];show((xs.map _) ++ r).take _=_;simp
theorem Zaz (i:Nat)   {e:TypeId} {n:Nat}   (h:o.op= .indexAddr t x y) (l:ev env x=some (.slice (some ⟨b,off,none⟩) n c)) (p:ev env y=some (.int kd m))
  (j:P.underlying t=some (.slice e)) (g:∀w,(sizeOf e).run P w= .ok 1 w) (d:m=(i:Int)) (f:i<n):Lk P N sc o env H (.pointer (some ⟨b,off+i,none⟩)):=λa w hs=>by
 subst d;simp [execOp,h,hs.ev l,hs.ev p,Instr.indexAt,asIntOf,run_underlying j,g,f,Ov]
theorem Ztg   {e:TypeId} {d:Option Addr} {n:Nat} (f:o.op= .call { callee:= .builtin .len,args:=#[x],argTypes:=#[t] })
  (h:ev env x=some (.slice d n c)) (g:P.underlying t=some (.slice e)):Lk P N sc o env H (.int .i64 (n:Int)):=λa w hs=>by
 simp [execOp,f,resolve,hs.ev h,invoke,builtin,Builtin.len_,run_underlying g,goInt]
def Zdx (i:Nat){j:Nat}{l:List Int}(f:o.op= .load t x)(h:ev env x=some (.pointer (some ⟨b,j,none⟩)))(d:lk H i=some (box b tb (wcr l r)))(g:∀w,(isAgg t).run P w= .ok false w)(e:j<l.length) :
  Lk P N sc o env H (.int .i64 (l.getD j 0)):=Yhe _ f h d g (Ypo e)
theorem Zur (i:Nat)    {j:Nat} {l:List Int}  {v:Int}   (q:o.op= .store t x y) (h:o.dst=none)
  (B:ev env x=some (.pointer (some ⟨b,j,none⟩))) (D:ev env y=some (.int .i64 v)) (f:lk H i=some (box b tb (wcr l r))) (d:i≠0) (p:∀w,(sizeOf t).run P w= .ok 1 w) (n:j<l.length)
  (e:lk H 0=some (Yy w0 M0)) (z:∀b,w0.heap.size<=b->sc b) (g:M b) :
  T P N sc M o env H (G:=Unit) (λ_=>True) (λ_=>env) (λ_=>(i,box b tb (wcr (l.set j v) r))::H):=by
 rw [<-Ypn n];exact Zjt q h B D f d rfl p rfl (by grind [Zly]) (λu s=>Yg (by rw [List.mem_singleton.1 s];rfl)) rfl e z g
theorem Ynq (i:Nat)   {e:TypeId} {n:Nat}   (p:o.op= .slice t x (some y) none none) (s:ev env x=some (.slice (some ⟨b,off,none⟩) n c)) (u:ev env y=some (.int kd m))
  (q:P.underlying t=some (.slice e)) (h:∀w,(sizeOf e).run P w= .ok 1 w) (d:m=(i:Int)) (j:i<n) (l:n<=c):Lk P N sc o env H (.slice (some ⟨b,off+i,none⟩) (n-i) (c-i)):=λa w hs=>by
 subst d;have f:i<=n:=O1;have g:=O1;simp [execOp,p,hs.ev s,hs.ev u,Instr.sliceAt,Instr.slice,Instr.sliceBounds,Instr.sliceBound,asIntOf,run_underlying q,h,f,g,l,Ov];omega
theorem d_prew   {e:TypeId} {n i:Nat}   (j:o.op= .slice t x none (some y) none) (p:ev env x=some (.slice (some ⟨b,0,none⟩) n c)) (q:ev env y=some (.int kd m))
  (l:P.underlying t=some (.slice e)) (h:∀w,(sizeOf e).run P w= .ok 1 w) (d:m=(i:Int)) (f:i<=n) (s:n<=c):Lk P N sc o env H (.slice (some ⟨b,0,none⟩) i c):=λa w hs=>by
 subst d;have g:i<=c:=O1;simp [execOp,j,hs.ev p,hs.ev q,Instr.sliceAt,Instr.slice,Instr.sliceBounds,Instr.sliceBound,asIntOf,run_underlying l,h,f,g,Ov]
theorem t_clw   {p:TypeId} {i d n D:Nat} {l:List Int}   
  (W:o.op= .call { callee:= .builtin .clear,args:=#[x],argTypes:=#[t] }) (S:o.dst=none)
  (hx:ev env x=some (.slice (some ⟨b,d,none⟩) n D))  (s:lk H i=some (box b tb (wcr l r))) (g:i≠0)
  (hn:0<n) (V:d+n=l.length) (Y:P.underlying t=some (.slice p)) (B:∀w,(sizeOf p).run P w= .ok 1 w)
  (hz:∀w,(zeroValue p).run P w= .ok (.int .i64 0) w)
  (F:lk H 0=some (Yy w0 M0)) (hw:∀b,w0.heap.size<=b->sc b) (R:M b) :
  T P N sc M o env H (G:=Unit) (λ_=>True) (λ_=>env) (λ_=>(i,box b tb (wcr (l.take d) (List.replicate n (Value.int .i64 0) ++ r)))::H):=λa w hs K Q I=>by
 have z:=hs.hold i _ s;have j:(Builtin.zeroCells (Value.int .i64 0).cells n).toList=List.replicate n (Value.int .i64 0):=by
  apply jR
  .simp [Builtin.zeroCells,Value.cells]
  .intro i h2 h3;simp [Builtin.zeroCells,Value.cells,lO]
 have e:=run_storeCells_at P b d tb (List.replicate n (Value.int .i64 0)) 0 (wcr l r) w z (by grind [Zly,List.length_replicate]) (λu Z=>by rw [List.eq_of_mem_replicate Z];rfl);simp only [eJ,aR]at e;have f:((wcr l r).toList.take d ++ List.replicate n (Value.int .i64 0) ++ (wcr l r).toList.drop (d+n)).toArray=wcr (l.take d) (List.replicate n (Value.int .i64 0) ++ r):=by unfold wcr;grind
 rw [f]at e;obtain⟨m,rfl⟩:∃m,n=m+1:=⟨n-1,O1⟩;have h:(execOp a.eval o).run P w= .ok (.value (.tuple #[])) (w.setRow b (wcr (l.take d) (List.replicate (m+1) (Value.int .i64 0) ++ r))):=by simp only [execOp,W,resolve,invoke,builtin];simp [hs.ev hx,Builtin.clear_,run_underlying Y,hz,j,e]
 unfold Oper.wp;rw [h];show K (a.put o.dst _) _;rw [S];exact I () _ _ aA ((hs.upd s rfl g (q:=box b tb (wcr (l.take d) _)) (Ib (M:=λk=>k=b) rfl) (setRow_heap w b _ _ tb _ z) (λk B=> .inl B) F hw).put_none _) (Ib R)
theorem res0{fn:Func}(hs:Sat N sc env H a w)(d:fn.results=#[]):(results fn a.tmps).run P w= .ok (.tuple #[]) w:=by simp [results,d]
end Go.Sky
namespace Go.Sky
variable{i m k:Nat}{x b a d ov:Int}{xs p c q:List Int}{r:List Value}
def Srt(l:List Int)(n:Nat):Prop:=∀p q,p<q->q<n->l.getD p 0<=l.getD q 0
def Sst(l:List Int)(n:Nat):Prop:=∀p q,p<q->q<n->l.getD p 0<l.getD q 0
def Ypd(l:List Int)(i j:Nat):Prop:=∀p q,p<q->q<=i->q≠j->l.getD p 0<=l.getD q 0
def Sam(l m:List Int):Prop:=m.length=l.length/\∀x,x∈m↔x∈l
def Sam.rfl'(l:List Int):Sam l l:=⟨rfl,λ_=>nG⟩
def Zlg{l:List Int}{j:Nat}{v:Int}(hi:i<l.length):(l.set i v).getD j 0=if j=i then v else l.getD j 0:=Zje hi
def swp(l:List Int)(j:Nat):List Int:=(l.set j (l.getD (j-1) 0)).set (j-1) (l.getD j 0)
theorem Ydc(l:List Int)(j:Nat):(swp l j).length=l.length:=by simp [swp]
theorem Zbv{l:List Int}{j:Nat}(f:j<l.length)(e:1<=j)(k:Nat):(swp l j).getD k 0=if k=j-1 then l.getD j 0 else if k=j then l.getD (j-1) 0 else l.getD k 0:=by unfold swp;grind
theorem Db{l:List Int} : x∈l↔∃k,k<l.length/\l.getD k 0=x:=by
 constructor
 .intro h;obtain⟨k,f,e⟩:=cQ.1 h;exact⟨k,f,O5⟩
 grind
theorem Yb1{l:List Int}{j:Nat}(f:j<l.length)(g:1<=j):Sam l (swp l j):=⟨Ydc l j,λx=>by
 rw [Db,Db,Ydc];constructor
 .rintro⟨k,h,e⟩;rw [Zbv f g]at e;grind
 .rintro⟨k,h,e⟩;by_cases a:k=j-1
  .exact⟨j,f,by rw [Zbv f g,<-a];omega⟩
  .by_cases b:k=j
   .exact⟨j-1,O1,by rw [Zbv f g,<-b];omega⟩
   .exact⟨k,h,by rw [Zbv f g];omega⟩⟩
def Sam.trans{l m n:List Int}(h:Sam l m)(e:Sam m n):Sam l n:=⟨e.1.trans h.1,λx=>(e.2 x).trans (h.2 x)⟩
def srtx_0{l:List Int}(h:Srt l i):Ypd l i i:=λp q e f g=>h p q e O1
theorem Zuy{l:List Int}{j:Nat}(h:Ypd l i j)(g:j<l.length)(f:1<=j)(s:j<=i)(t:l.getD j 0<l.getD (j-1) 0):Ypd (swp l j) i (j-1):=λp q n e o=>by
 rw [Zbv g f,Zbv g f,aK o];by_cases a:q=j
 .rw [aM a];by_cases b:p=j-1
  .omega
  .rw [aK b,aK O1];exact h p _ O1 O1 O1
 .rw [aK a];by_cases b:p=j-1
  .rw [aM b];exact h j q O1 e a
  .rw [aK b];by_cases c:p=j
   .rw [aM c];exact h _ q O1 e a
   .rw [aK c];exact h p q n e a
theorem Yik{l:List Int}{j:Nat}(h:Ypd l i j)(n:j<=i)(f:j=0\/(1<=j/\¬l.getD j 0<l.getD (j-1) 0)):Srt l (i+1):=λp q e g=>by
 by_cases a:q=j
 .rcases f with b|⟨b,c⟩
  .omega
  .subst a;by_cases d:p=q-1
   .grind
   .have:=h p (q-1) O1 O1 O1;omega
 .exact h p q e O1 a
def srt_1(l:List Int):Srt l 1:=λp q e f=>O1
structure Cmp (xs zs:List Int):Prop where
 s:Sst zs zs.length
 m:∀x,x∈zs↔x∈xs
theorem Yij{l:List Int}{n:Nat}(h:Srt l n)(g:∀q,1<=q->q<n->l.getD q 0≠l.getD (q-1) 0):Sst l n:=λp q j e=>by
 have o:=g q O1 e;have s:=h (q-1) q O1 e;rcases gY (show p<=q-1 by omega)with f|f
 .have:=h p _ f O1;omega
 grind
def Ytm{l:List Int}(h:Srt l l.length)(e:∀q,1<=q->q<l.length->l.getD q 0≠l.getD (q-1) 0):Cmp l l:=⟨Yij h e,λx=>nG⟩
structure Cml (xs l:List Int) (m k:Nat):Prop where
 k1:1<=k
 km:k<m
 ml:m<=xs.length
 ll:l.length=xs.length
 r:∀q,m<=q+1->l.getD q 0=xs.getD q 0
 s:Sst l k
 e:∀x,(∃p,p<k/\l.getD p 0=x)↔∃p,p<m/\xs.getD p 0=x
 z:l.getD (k-1) 0=xs.getD (m-1) 0
theorem cml_0(hs:Srt xs xs.length)(f:∀q,1<=q->q<k->xs.getD q 0≠xs.getD (q-1) 0)(g:1<=k)(l:k<xs.length)(j:xs.getD k 0=xs.getD (k-1) 0):Cml xs xs (k+1) k:=
 ⟨g,O6,O1,rfl,λq _=>rfl,Yij (λp q e h=>hs p q e O1) f,λx=>by grind,O5⟩
theorem cml_eq{l:List Int}(h:Cml xs l m k)(f:m<xs.length)(n:l.getD m 0=l.getD (m-1) 0):Cml xs l (m+1) k:=by
 have g:=h.r m O6;have j:=h.r (m-1) O1;have e:=h.km;refine⟨h.k1,O1,f,h.ll,λq o=>h.r q O1,h.s,λx=>(h.e x).trans ⟨?_,?_⟩,?_⟩
 .grind
 .grind
 .rw [h.z,show m+1-1=m by rfl];omega
theorem cml_ne{l:List Int}(hs:Srt xs xs.length)(h:Cml xs l m k)(n:m<xs.length)(y:l.getD m 0≠l.getD (m-1) 0):Cml xs (l.set k (l.getD m 0)) (m+1) (k+1):=by
 have v:=h.r m O6;have s:=h.km;have w:=h.r (m-1) O1;have t:=h.ll;have e:k<l.length:=O1;have u:=by have:=hs (m-1) m O1 n;omega
 refine⟨O6,O1,n,O5,λq z=>?_,λp q j f=>?_,λx=>?_,?_⟩
 .rw [Zlg e,aK O1];exact h.r q O1
 .rw [Zlg e,Zlg e,aK (show p≠k by omega)];by_cases a:q=k
  .have B:=h.z;rcases gY (show p<=k-1 by omega)with g|g
   .have:=h.s p (k-1) g O1;omega
   grind
  .rw [aK a];exact h.s p q j O1
 .constructor
  .rintro⟨p,j,f⟩;rw [Zlg e]at f;by_cases a:p=k
   .grind
   .rw [aK a]at f;obtain⟨q,g,o⟩:=(h.e x).1 ⟨p,O1,f⟩;grind
  .rintro⟨p,j,f⟩;by_cases a:p=m
   .exact⟨k,O6,O5⟩
   .obtain⟨q,g,o⟩:=(h.e x).2 ⟨p,O1,f⟩;exact⟨q,O1,O5⟩
 grind
theorem Ydj{l:List Int}{p:Nat}(h:p<k):(l.take k).getD p 0=l.getD p 0:=by grind
theorem cml_e{l:List Int}(h:Cml xs l xs.length k):Cmp xs (l.take k):=by
 have n:=h.km;have j:=h.ll;have g:(l.take k).length=k:=O5;refine⟨λp q f e=>?_,λx=>?_⟩
 .rw [g]at e;rw [Ydj O1,Ydj e];exact h.s p q f e
 .rw [Db,Db,<-h.e x];grind
def Zni(x:Int):List Int->List Int
 | []=>[x]
 | y::l=>if x<y then x::y::l else if x=y then y::l else y::Zni x l
def Inc:List Int->Prop
 | []=>True
 | x::l=>(∀y∈l,x<y)/\Inc l
theorem Znb{x z:Int} : ∀{l:List Int},z∈Zni x l↔z=x\/z∈l
 | []=>by simp [Zni]
 | y::l=>by
  unfold Zni;split
  .simp
  .split
   .rename_i h;subst h;simp
   .rw [aX,Znb,aX];constructor
    .rintro(h|h|h)
     .exact .inr (.inl h)
     .exact .inl h
     .exact .inr (.inr h)
    .rintro(h|h|h)
     .exact .inr (.inl h)
     .exact .inl h
     .exact .inr (.inr h)
theorem Zw1{x:Int} : ∀{l:List Int},Inc l->Inc (Zni x l)
 | [],_=>⟨λy h=>(nomatch h),aA⟩
 | y::l,h=>by
  unfold Zni;split
  .rename_i f;exact⟨λz e=>by
    rcases aX.1 e with rfl|e
    .exact f
    .have:=h.1 z e;omega,h⟩
  .split
   .exact h
   .refine⟨λz e=>?_,Zw1 h.2⟩;rcases Znb.1 e with rfl|e
    .omega
    .exact h.1 z e
def Zuz(l:List Int):List Int:=l.foldr Zni []
def Znj:∀(l:List Int),Inc (Zuz l)
 | []=>trivial
 | x::l=>Zw1 (Znj l)
theorem Zna{z:Int} : ∀{l:List Int},z∈Zuz l↔z∈l
 | []=>nG
 | x::l=>by show z∈Zni x (Zuz l)↔_;rw [Znb,Zna,aX]
theorem Ymh:∀{l m:List Int},Inc l->Inc m->(∀x,x∈l↔x∈m)->l=m
 | [],[],_,_,_=>rfl
 | [],y::m,_,_,h=>absurd ((h y).2 (bR ..)) (λh=>nomatch h)
 | x::l,[],_,_,h=>absurd ((h x).1 (bR ..)) (λh=>nomatch h)
 | x::l,y::m,hl,hm,h=>by
  have e:x=y:=by
   have j:=(h x).1 (bR ..);have g:=(h y).2 (bR ..);rcases aX.1 j with f|f
   .exact f
   .rcases aX.1 g with n|n
    .exact n.symm
    .have:=hm.1 x f;have:=hl.1 y n;omega
  subst e;rw [Ymh hl.2 hm.2 λz=>by
   have j:=h z;rw [aX,aX]at j;constructor
   .intro g;rcases j.1 (.inr g)with f|f
    .have:=hl.1 z g;omega
    .exact f
   .intro g;rcases j.2 (.inr g)with f|f
    .have:=hm.1 z g;omega
    .exact f]
theorem Ydg:∀{l:List Int},Sst l l.length->Inc l
 | [],_=>trivial
 | x::l,h=>⟨λy e=>by obtain⟨k,j,rfl⟩:=Db.1 e;exact h 0 (k+1) O6 O5,Ydg λp q f g=>h (p+1) (q+1) O1 O5⟩
theorem Yoc{ys zs:List Int}(f:Sam xs ys)(e:Cmp ys zs):zs=Zuz xs:=
 Ymh (Ydg e.s) (Znj xs) λx=>by rw [e.m,f.2,Zna]
theorem Ybl:∀{l:List Int},Inc l->Sst l l.length
 | [],_=>λp q _ h=>absurd h (bD _)
 | x::l,h=>λp q e f=>by
  match p,q,e with
  | 0,q+1,_=>
   exact h.1 _ (Zd O5)
  | p+1,q+1,e=>exact Ybl h.2 p q O1 O5
def Yse(j:Nat):j=0\/1<=j:=O1
theorem hd_s(h:∀q,1<=q->q<k->xs.getD q 0≠xs.getD (q-1) 0)(e:¬xs.getD k 0=xs.getD (k-1) 0):∀q,1<=q->q<k+1->xs.getD q 0≠xs.getD (q-1) 0:=λq f g=>by grind
open Go.Proofs.Tryz
open Go.Proofs
set_option synthInstance.maxHeartbeats 0
set_option synthInstance.maxSize 100000
set_option maxRecDepth 20000
set_option linter.unusedSimpArgs false
theorem Ytl:Qe prog 278 #[.int .i64 x] [] (.bool false):=by refine Zg func278 ntmps278 λj g f e=>go 9 ?_;refine kf (aI (λh=>h J))<|go 4 ?_;exact Xh e () results278 J aA Za
theorem Yod{y:Int}:Qe prog 247 #[.int .i64 x,.int .i64 y] [] (.bool (decide (x<y))):=by refine Zg func247 ntmps247 λh g f e=>go 8 ?_;refine cl 0 [] Ytl λ_ _=>go 14 ?_;exact Xh e () results247 J aA Za
theorem Yhj(x:Nat)(f:x<U):Qe prog 204 #[.int .u64 (x:Int)] [] (.int .i64 (bl x:Int)):=by refine Zg func204 ntmps204 λj h g e=>go 12 ?_;refine cl 0 [] (Zx9 f) λ_ _=>go 4 ?_;exact Xh e () results204 J aA Za
theorem sl_ins{b c:Nat}(I:1<=xs.length)(N:xs.length<=12):Zd9 prog 241 #[.slice (some ⟨b,0,none⟩) xs.length c,.int .i64 0,.int .i64 (xs.length:Int)] [] false b 3 (wcr xs r) (G:=List Int) (λg=>Sam xs g/\Srt g g.length) (λg=> .tuple #[]) (λg=>wcr g r) (λg=>[]):=by
 refine Dk func241 J ntmps241 J aA ?_;intro Q P o H;have o:=Hw.mk o;simp only [Qz,Xd];refine go 8 ⟨O1,?_⟩;refine lp (G:=Nat×List Int) [0,1,2] [0] (λq=>[(6,.int .i64 (q.1:Int))]) (λq=>[(1,box b 3 (wcr q.2 r))]) (λq=>(1<=q.1)/\(q.1<=xs.length)/\(Sam xs q.2)/\(Srt q.2 q.1)) (λq=>xs.length-q.1) (1,xs) ⟨O2,O2,Sam.rfl' xs,srt_1 xs⟩ K1 K1 ?_;rintro⟨i,l⟩ ⟨B,D,v,hs⟩;dsimp only at B D v hs;dsimp only;have F:=v.1;refine go 8<|Ze J (λy=>?_) (λy=>?_)
 .refine go 11 ?_;refine lp (G:=Nat×List Int) [0,1,2,6] [0] (λq=>[(7,.int .i64 (q.1:Int))]) (λq=>[(1,box b 3 (wcr q.2 r))]) (λq=>(q.1<=i)/\(Sam xs q.2)/\(Ypd q.2 i q.1)) (λq=>q.1) (i,l) ⟨aF _,v,srtx_0 hs⟩ K1 K1 ?_;rintro⟨j,m⟩ ⟨s,e,u⟩;dsimp only at s e u;dsimp only;have M:=e.1;refine go 2 ?_;rcases Yse j with f|f
  .refine Qb (λ_=>False) [(0,0),(1,0),(2,0),(3,0),(4,2),(5,2),(6,2),(7,2),(8,2),(9,2),(10,2),(11,2),(12,2),(13,2),(14,0)]<|go 2 ?_;refine Xc J J (Xl (dF (Zb0 J J J) (vB (aI O1))))<|go 26 ⟨O1,?_⟩;exact Yh (i+1,m) ⟨O2,O2,e,Yik u s (.inl f)⟩ O2 K1 K1
  .refine Qb (λ_=>False) [(0,0),(1,0),(2,0),(3,0),(4,0),(5,0),(6,0),(7,0),(8,0),(9,0),(10,0),(11,0),(12,0),(13,1),(14,0)]<|go 2 ?_;refine Xc J J (Xl (dT (Zb0 J J J) (vB (aG O1))))<|go 3 ?_;refine Em (Xl (Yz ( .pointer (some ⟨b,j,none⟩)) (Zaz j J J J Py Kx O1 O1) (by rw [cH]))) J J J J J<|Em (Xl (Yz ( .int .i64 (m.getD j 0)) (Zdx 1 J J J iA3 O1) (aD (λq=>Value.int .i64 (m.getD q 0)) O1))) J J J J J<|go 3 ⟨O1,?_⟩;refine Em (Xl (Yz ( .pointer (some ⟨b,j-1,none⟩)) (Zaz (j-1) J J J Py Kx O1 O1) (by rw [cH]))) J J J J J<|Em (Xl (Yz ( .int .i64 (m.getD (j-1) 0)) (Zdx 1 J J J iA3 O1) (aD (λq=>Value.int .i64 (m.getD q 0)) O1))) J J J J J<|Zfu J J J J J (Xe 1 Yod J J J K2 call247 Zn J o.h) λ_ _=>go 3 ?_;refine Ze J (λn=>?_) (λn=>?_)
   .have t:=n;refine go 4<|Pj [] [17] ?_;refine Zj 6 [(0,0),(1,0),(2,0),(3,0),(4,0),(5,0),(6,0),(7,0),(8,0),(10,0),(11,0),(12,0)]<|go 8 ⟨O1,O1,?_⟩;refine Xc J J (Ga (Yz ( .pointer (some ⟨b,j-1,none⟩)) (Zaz (j-1) J J J Py Kx O1 O1) (by rw [cH])) aA)<|go 2 ?_;refine Xc J J (Ga (Yz ( .pointer (some ⟨b,j,none⟩)) (Zaz j J J J Py Kx O1 O1) (by rw [cH])) aA)<|go 1 ?_;refine Qq 5 9 13 ?_ ?_
    .refine Lq J J (Zbk (Yz ( .int .i64 (m.getD (j-1) 0)) (Zdx 1 J J J iA3 O1) (aD (λq=>Value.int .i64 (m.getD q 0)) O1)) J) (λ_ _=>?_);refine Zj 0 [(13,1),(14,0),(15,1),(16,0),(17,3)]<|Kp J (Zbk (Yz ( .int .i64 (m.getD j 0)) (Zdx 1 J J J iA3 O1) (aD (λq=>Value.int .i64 (m.getD q 0)) O1)) J) (λ_ _=>?_);refine Xc J J (Ga (Yz ( .pointer (some ⟨b,j,none⟩)) (Zaz j J J J Py Kx O1 O1) (by rw [cH])) aA)<|Kp J (Zur 1 J J J J J O4 Kx O1 J o.h (λ_ h=>nomatch h)) (λ_ _=>?_);refine Xc J J (Ga (Yz ( .pointer (some ⟨b,j-1,none⟩)) (Zaz (j-1) J J J Py Kx O1 O1) (by rw [cH])) aA)<|r3' J (Zur 1 J J J J J O4 Kx (by rw [bK];omega) J o.h aA) λ_ _=>go 1 ?_;refine Zo<|go 7 ⟨O1,?_⟩;exact Yh (j-1,swp m j) ⟨O2,e.trans (Yb1 O1 O1),Zuy u O1 f s t⟩ O2 ⟨(aD (λq:Int=>some (Value.int .i64 q)) (show(j:Int)-1=((j-1:Nat):Int) by omega)),aA⟩ K1
    .refine Lq J J (Zbk (Yz ( .int .i64 (m.getD j 0)) (Zdx 1 J J J iA3 O1) (aD (λq=>Value.int .i64 (m.getD q 0)) O1)) J) (λ_ _=>?_);refine Zj 0 [(9,1),(14,0),(15,1),(16,0),(17,3)]<|Kp J (Zbk (Yz ( .int .i64 (m.getD (j-1) 0)) (Zdx 1 J J J iA3 O1) (aD (λq=>Value.int .i64 (m.getD q 0)) O1)) J) (λ_ _=>?_);refine Xc J J (Ga (Yz ( .pointer (some ⟨b,j,none⟩)) (Zaz j J J J Py Kx O1 O1) (by rw [cH])) aA)<|Kp J (Zur 1 J J J J J O4 Kx O1 J o.h (λ_ h=>nomatch h)) (λ_ _=>?_);refine Xc J J (Ga (Yz ( .pointer (some ⟨b,j-1,none⟩)) (Zaz (j-1) J J J Py Kx O1 O1) (by rw [cH])) aA)<|r3' J (Zur 1 J J J J J O4 Kx (by rw [bK];omega) J o.h aA) λ_ _=>go 1 ?_;refine Zo<|go 7 ⟨O1,?_⟩;exact Yh (j-1,swp m j) ⟨O2,e.trans (Yb1 O1 O1),Zuy u O1 f s t⟩ O2 ⟨(aD (λq:Int=>some (Value.int .i64 q)) (show(j:Int)-1=((j-1:Nat):Int) by omega)),aA⟩ K1
   .have z:=n;refine go 11 ⟨O1,?_⟩;exact Yh (i+1,m) ⟨O2,O2,e,Yik u s (.inr ⟨f,z⟩)⟩ O2 K1 K1
 .obtain rfl:i=xs.length:=O1;refine go 4 ?_;exact Dt (.inr J) H l (λa w hs=>res0 hs results241) J ⟨v,by rw [F];exact hs⟩ 1 J J J J Za
theorem sl_pdq{b c:Nat}{l:Int}(f:1<=xs.length)(o:xs.length<=12):Zd9 prog 203 #[.slice (some ⟨b,0,none⟩) xs.length c,.int .i64 0,.int .i64 (xs.length:Int),.int .i64 l] [] false b 3 (wcr xs r) (G:=List Int) (λg=>Sam xs g/\Srt g g.length) (λg=> .tuple #[]) (λg=>wcr g r) (λg=>[]):=by refine Dk func203 J ntmps203 J aA ?_;intro t s j h;have j:=Hw.mk j;simp only [Qz,Xd];refine go 11 ?_;refine lp (G:=Nat) [0] [0,1] (λk=>[(1,.int .i64 0),(2,.int .i64 (xs.length:Int))]) (λk=>[]) (λk=>True) (λk=>k) 0 aA K2 aA ?_;rintro k -;refine go 13 ⟨O1,?_⟩;refine kt (aG O1)<|go 8 ?_;refine tt (Pb 1 1 (sl_ins f o) J J J K3 call241 J O4 Zn J j.h aA) λn e=>go 7 ?_;exact Dt (.inl J) h n (λa w hs=>res0 hs results203) J e 1 J J J J Za
theorem Yqg{b c:Nat}(f:1<=xs.length)(n:xs.length<=12):Zd9 prog 150 #[.slice (some ⟨b,0,none⟩) xs.length c] [] false b 3 (wcr xs r) (G:=List Int) (λg=>Sam xs g/\Srt g g.length) (λg=> .tuple #[]) (λg=>wcr g r) (λg=>[]):=by refine Dk func150 J ntmps150 J aA ?_;intro s o j h;have j:=Hw.mk j;simp only [Qz,Xd];refine go 3 ?_;refine dt (Ztg J J Py)<|go 7 ?_;refine dt (Yz ( .int .u64 (xs.length:Int)) (Ztj J J uT3 Ybd (by simp only [U];omega)) J)<|cl 1 [] (Yhj xs.length (by simp only [U];omega)) λ_ _=>?_;refine tt (Pb 1 1 (sl_pdq f n) J J J K4 call203 J O4 Zn J j.h aA) λl e=>go 1 ?_;exact Dt (.inr J) h l (λa w hs=>res0 hs results150) J e 1 J J J J Za
theorem sl_cmp{b c:Nat}(S:2<=xs.length)(Y:xs.length<=12)(V:xs.length<=c)(o:Srt xs xs.length):Zd9 prog 151 #[.slice (some ⟨b,0,none⟩) xs.length c] [] false b 3 (wcr xs r) (G:=List Int×List Value) (λg=>Cmp xs g.1/\g.1.length+g.2.length=xs.length+r.length) (λg=> .slice (some ⟨b,0,none⟩) g.1.length c) (λg=>wcr g.1 g.2) (λg=>[]):=by
 refine Dk func151 J ntmps151 J aA ?_;intro w0 Z v u;have v:=Hw.mk v;simp only [Qz,Xd];refine go 9 ?_;refine dt (Ztg J J Py)<|kf (aI O1)<|go 12 ?_;refine lp (G:=Nat) [0] [0,1] (λk=>[(3,.int .i64 (k:Int))]) (λk=>[]) (λk=>(1<=k)/\(k<=xs.length)/\(∀q,1<=q->q<k->xs.getD q 0≠xs.getD (q-1) 0)) (λk=>xs.length-k) 1 ⟨O2,O2,λq H I=>absurd I O1⟩ K1 aA ?_;rintro k ⟨B,N,y⟩;refine go 5 ?_;refine dt (Ztg J J Py)<|go 3 ?_;refine Ze J (λs=>?_) (λs=>?_)
 .refine go 5<|Qb (λ_=>False) [(0,0),(1,0),(2,0),(3,0),(4,0),(5,0),(6,0),(7,0),(8,0),(9,0)]<|go 2 ?_;refine Xc J J (Xl (Yz ( .pointer (some ⟨b,k,none⟩)) (Zaz k J J J Py Kx O1 O1) (by rw [cH])))<|Xc J J (Xl (Yz ( .int .i64 (xs.getD k 0)) (Zdx 1 J J J iA3 O1) (aD (λq=>Value.int .i64 (xs.getD q 0)) O1)))<|go 3 ⟨O1,?_⟩;refine Xc J J (Xl (Yz ( .pointer (some ⟨b,k-1,none⟩)) (Zaz (k-1) J J J Py Kx O1 O1) (by rw [cH])))<|Xc J J (Xl (Yz ( .int .i64 (xs.getD (k-1) 0)) (Zdx 1 J J J iA3 O1) (aD (λq=>Value.int .i64 (xs.getD q 0)) O1)))<|go 3 ?_;refine Ze J (λe=>?_) (λe=>?_)
  .have M:=e;refine go 4 ?_;refine dt (Yz ( .slice (some ⟨b,k,none⟩) (xs.length-k) (c-k)) (Ynq k J J J Py Kx J O1 O1) (by rw [cH]))<|go 10 ?_;refine lp (G:=Nat×Nat×List Int) [0,4] [0] (λq=>[(5,.int .i64 (q.1:Int)),(3,.int .i64 (q.2.1:Int))]) (λq=>[(1,box b 3 (wcr q.2.2 r))]) (λq=>(1<=q.1)/\(Cml xs q.2.2 (k+q.1) q.2.1)) (λq=>xs.length-k-q.1) (1,k,xs) ⟨O2,cml_0 o y B O1 M⟩ K2 K1 ?_;rintro⟨j,kk,l⟩ ⟨z,h⟩;dsimp only at z h;dsimp only;have W:=h.ll;have P:=h.k1;have Q:=h.km;have R:=h.ml;refine go 5 ?_;refine dt (Ztg J J Py)<|go 3 ?_;refine Ze J (λt=>?_) (λt=>?_)
   .refine go 5<|Qb (λ_=>False) [(0,0),(1,0),(2,0),(3,0),(4,0),(5,0),(6,0),(7,0),(8,0),(9,0)]<|go 2 ?_;refine Xc J J (Xl (Zaz j J J J Py Kx O1 O1))<|Xc J J (Xl (Yz ( .int .i64 (l.getD (k+j) 0)) (Zdx 1 J J J iA3 O1) (aD (λq=>Value.int .i64 (l.getD q 0)) O1)))<|go 3 ⟨O1,?_⟩;refine Xc J J (Xl (Zaz (j-1) J J J Py Kx O1 O1))<|Xc J J (Xl (Yz ( .int .i64 (l.getD (k+j-1) 0)) (Zdx 1 J J J iA3 O1) (aD (λq=>Value.int .i64 (l.getD q 0)) O1)))<|go 3 ?_;refine Ze J (λf=>?_) (λf=>?_)
    .have n:=f;refine go 6 ?_;refine dt (Zaz j J J J Py Kx O1 O1)<|dt (Yz ( .int .i64 (l.getD (k+j) 0)) (Zdx 1 J J J iA3 O1) (aD (λq=>Value.int .i64 (l.getD q 0)) O1))<|dt (Yz ( .pointer (some ⟨b,kk,none⟩)) (Zaz kk J J J Py Kx J O1) (by rw [cH]))<|tt (Zur 1 J J J J J O4 Kx O1 J v.h aA) (λ_ _=>?_);refine go 14 ⟨O1,O1,?_⟩;exact Yh (j+1,kk+1,l.set kk (l.getD (k+j) 0)) ⟨O2,cml_ne (m:=k+j) o h O1 n⟩ O2 K2 K1
    .have n:=f;refine go 8 ⟨O1,?_⟩;exact Yh (j+1,kk,l) ⟨O2,cml_eq (m:=k+j) h O1 (eX.1 n)⟩ O2 K2 K1
   .obtain D:k+j=xs.length:=O1;rw [D]at h;refine go 9 ?_;refine dt (Yz ( .slice (some ⟨b,kk,none⟩) (xs.length-kk) (c-kk)) (Ynq kk J J J Py Kx J O1 O1) (by rw [cH]))<|tt (t_clw (i:=1) J J J J O4 O1 O1 Py Kx (λw=>zeroValue3 w) J v.h aA) λ_ _=>go 6 ?_;refine dt (d_prew (i:=kk) J J J Py Kx J O1 O1)<|go 9 ?_;exact Dt (.inl J) u (l.take kk,List.replicate (xs.length-kk) (.int .i64 0) ++ r) (λa w hs=>Zcj hs results151 J) (by rw [cL,dP O1]) ⟨cml_e h,O9⟩ 1 J J J J Za
  .have F:=e;refine go 8 ⟨O1,?_⟩;exact Yh (k+1) ⟨O2,O2,hd_s y F⟩ O2 K1 aA
 .refine go 12 ?_;exact Dt (.inl J) u (xs,r) (λa w hs=>Zcj hs results151 J) J ⟨Ytm o (λq H I=>y q H O1),J⟩ 1 J J J J Za
def Hy(f:Nat->Rat):Nat->Rat
 | 0=>0
 | n+1=>Hy f n+f n
def Mc(f:Nat->Rat)(n:Nat):Hy f (n+1)=Hy f n+f n:=rfl
theorem Lt{f g:Nat->Rat} : ∀n,(∀i,i<n->f i=g i)->Hy f n=Hy g n
 | 0,_=>rfl
 | n+1,h=>by rw [Mc,Mc,Lt n λi hi=>h i O1,h n O1]
theorem Dz(f:Nat->Rat):∀n,Hy f (n+1)=f 0+Hy (λi=>f (i+1)) n
 | 0=>by show 0+f 0=f 0+0;grind
 | n+1=>by rw [Mc,Dz f n,Mc];grind
theorem Zmt(f g:Nat->Rat):∀n,Hy (λi=>f i+g i) n=Hy f n+Hy g n
 | 0=>by show(0:Rat)=0+0;grind
 | n+1=>by rw [Mc,Mc,Mc,Zmt f g n];grind
theorem Ey(c:Rat)(f:Nat->Rat):∀n,Hy (λi=>c*f i) n=c*Hy f n
 | 0=>by show(0:Rat)=c*0;grind
 | n+1=>by rw [Mc,Mc,Ey c f n];grind
theorem Zn5(n:Nat):Ou n 0=1:=by cases n<;>rfl
def chz_s(n k:Nat):Ou (n+1) (k+1)=Ou n k+Ou n (k+1):=rfl
theorem Yov{u w:Rat}(h:u+w=1):∀n,Hy (λj=>(Ou n j:Rat)*(u^j*w^(n-j))) (n+1)=1
 | 0=>by rw [Dz];show((Ou 0 0:Nat):Rat)*(u^0*w^0)+0=1;rw [Zn5,dO,dO];push_cast;grind
 | n+1=>by
  have e:=Yov h n;rw [Dz];have f:Hy (λi=>(Ou (n+1) (i+1):Rat)*(u^(i+1)*w^(n+1-(i+1)))) (n+1)=Hy (λi=>u*((Ou n i:Rat)*(u^i*w^(n-i)))) (n+1)+Hy (λi=>(Ou n (i+1):Rat)*(u^(i+1)*w^(n-i))) (n+1):=by rw [<-Zmt];refine Lt _ λi hi=>?_;rw [chz_s,show n+1-(i+1)=n-i by omega,cZ];push_cast;grind
  have g:Hy (λi=>(Ou n (i+1):Rat)*(u^(i+1)*w^(n-i))) (n+1)=Hy (λi=>(Ou n (i+1):Rat)*(u^(i+1)*w^(n-i))) n:=by rw [Mc,Zn4 n (n+1) O1];push_cast;grind
  have l:w*Hy (λj=>(Ou n j:Rat)*(u^j*w^(n-j))) (n+1)=w^(n+1)+Hy (λi=>(Ou n (i+1):Rat)*(u^(i+1)*w^(n-i))) n:=by
   rw [<-Ey,Dz,Zn5];congr 1
   .rw [jY,dO,cZ];push_cast;grind
   .refine Lt _ λi hi=>?_;rw [show n-i=(n-(i+1))+1 by omega,cZ w];grind
  rw [f,g,Ey,e];rw [e]at l;rw [Zn5,dO,jY];push_cast;grind
def Ho(d:Nat)(c:List Int)(j:Nat):Int:=Yl (λi=>cf c i*(Ou (d-i) (j-i):Int)) (j+1)
theorem brS_0(d:Nat)(a:Int)(c:List Int):Ho d (a::c) 0=a:=by unfold Ho;rw [Yp,Fo];show 0+a*((Ou (d-0) (0-0):Nat):Int)=a;rw [show 0-0=0 from rfl,Zn5];omega
theorem brS_s(d:Nat)(a:Int)(c:List Int)(j:Nat):Ho (d+1) (a::c) (j+1)=a*(Ou (d+1) (j+1):Int)+Ho d c j:=by unfold Ho;rw [Ld];congr 1;refine Xr λi hi=>?_;rw [show d+1-(i+1)=d-i by omega,show j+1-(i+1)=j-i by omega];rfl
theorem Yt3(d j:Nat):Ho d [] j=0:=by unfold Ho;exact(Zir (m:=0) (bE _) λi _ _=>by rw [show cf [] i=0 from rfl,cK]).trans (Fo _)
theorem bern{u w:Rat}(h:u+w=1):∀(d:Nat) (c:List Int),c.length<=d+1->Hy (λj=>(Ho d c j:Rat)*(u^j*w^(d-j))) (d+1)=Zi c u
 | d,[],_=>by
  rw [Lt (g:=λ_=>0) (d+1) λi hi=>by rw [Yt3];push_cast;grind];show Hy (λ_=>0) (d+1)=0;have:∀n,Hy (λ_=>0) n=0:=λn=>by
   induction n with
   | zero=>rfl
   | succ n f=>rw [Mc,f];grind
  exact this _
 | 0,[a],_=>by rw [Mc,brS_0];show 0+(a:Rat)*(u^0*w^0)=(a:Rat)+u*0;rw [dO,dO];grind
 | 0,a::b::c,hl=>by simp at hl
 | d+1,a::c,hl=>by
  have f:=bern h d c (by simpa using hl);have e:=Yov h (d+1);rw [Dz]at e;rw [Dz,brS_0];have l:Hy (λi=>(Ho (d+1) (a::c) (i+1):Rat)*(u^(i+1)*w^(d+1-(i+1)))) (d+1)=(a:Rat)*Hy (λi=>(Ou (d+1) (i+1):Rat)*(u^(i+1)*w^(d+1-(i+1)))) (d+1)+u*Hy (λj=>(Ho d c j:Rat)*(u^j*w^(d-j))) (d+1):=by rw [<-Ey,<-Ey,<-Zmt];refine Lt _ λi hi=>?_;rw [brS_s,show d+1-(i+1)=d-i by omega,cZ];push_cast;grind
  rw [l,f];show _=(a:Rat)+u*Zi c u;rw [Zn5]at e;push_cast at e ⊢;grind
theorem Cm(a:Int):∀(c:List Int) (i:Nat),cf (c.map λx=>a*x) i=a*cf c i
 | [],i=>by rw [gV,show cf [] i=0 from rfl,eA]
 | x::c,0=>rfl
 | x::c,i+1=>Cm a c i
theorem Zy5(c:List Int)(a b e:Int)(u:Rat):Zi (mk (c.length+1) λt=>cf c t*a+(if t=0 then e else cf c (t-1)*b)) u=Zi c u*((a:Rat)+(b:Rat)*u)+(e:Rat):=by
 have h:Zi (mk (c.length+1) λt=>cf c t*a+(if t=0 then e else cf c (t-1)*b)) u=Zi (Mw (c.map λx=>a*x) (e::c.map λx=>b*x)) u:=Nb u _ _ λi=>by
  rw [Lb,Cm,Ml]
  match i with
  | 0=>rw [aM O1,aM rfl];show cf c 0*a+e=a*cf c 0+e;rw [gF]
  | i+1=>
   show _=a*cf c (i+1)+cf (c.map λx=>b*x) i;rw [Cm];by_cases hi:i<c.length
   .rw [aM O1,aK O1,kD,gF,gF (cf c i)]
   .rw [aK O1,Yr (p:=c) (i:=i+1) O1,Yr (p:=c) (i:=i) O1];omega
 rw [h,Xt,Zu];show _+((e:Rat)+u*Zi (c.map λx=>b*x) u)=_;rw [Zu];grind
theorem Zvn(p:List Int)(a b d:Int){t u:Rat}(f:t*(d:Rat)=(a:Rat)+(b:Rat)*u):∀j,j+1<=p.length->Zi (Kl p a b d j) u=(d:Rat)^j*Zi (p.drop (p.length-1-j)) t
 | 0,h=>by
  have e:p.drop (p.length-1-0)=[cf p (p.length-1)]:=by rw [jY,eO O1,List.drop_of_length_le O1];congr 1;unfold cf;rw [aL,aO O1];rfl
  rw [Cf,e,dO,Oh,Oh];grind
 | j+1,h=>by
  have g:=Zvn p a b d f j O1;have e:p.drop (p.length-1-(j+1))=cf p (p.length-2-j)::p.drop (p.length-1-j):=by rw [eO O1,show p.length-1-(j+1)+1=p.length-1-j by omega];congr 1;unfold cf;rw [aL,aO O1];show p[p.length-1-(j+1)]=p[p.length-2-j];congr 1;omega
  rw [Zqh,Zy5,g,e,<-f];show _=(d:Rat)^(j+1)*((cf p (p.length-2-j):Rat)+t*Zi (p.drop (p.length-1-j)) t);rw [cZ];push_cast;rw [cZ];generalize (d:Rat)^j=D;grind
theorem Zmo(a b d:Int){t u:Rat}(f:t*(d:Rat)=(a:Rat)+(b:Rat)*u)(e:p.length≠0):Zi (Lv p a b d) u=(d:Rat)^(p.length-1)*Zi p t:=by unfold Lv;rw [aK e,Nb u (tzl _) _ (λi=>Ly _ i),Zvn p a b d f (p.length-1) O1,fE,gO]
def Ynp:List Int->List Int
 | []=>[]
 | a::p=>a::0::Ynp p
theorem Zrf(x:Rat):∀p:List Int,Zi (Ynp p) x=Zi p (x*x)
 | []=>rfl
 | a::p=>by show(a:Rat)+x*(((0:Int):Rat)+x*Zi (Ynp p) x)=(a:Rat)+x*x*Zi p (x*x);rw [Zrf x p];push_cast;grind
theorem Yat:∀(p:List Int) (i:Nat),cf (Ynp p) (2*i)=cf p i
 | [],i=>rfl
 | a::p,0=>rfl
 | a::p,i+1=>by show cf (0::Ynp p) (2*i+1)=cf p i;exact Yat p i
theorem Yip(x:Rat):0<=x*x:=by
 rcases(show 0<=x\/x<=0 by grind)with h|h
 .exact aE h h
 .have:=aE (show 0<=-x by grind) (show 0<=-x by grind);grind
theorem Zvm(h:∀x:Rat,0<=x->Zi p x=Zi q x)(i:Nat):cf p i=cf q i:=by rw [<-Yat p,<-Yat q];exact Nv (λx=>by rw [Zrf,Zrf];exact h _ (Yip x)) _
theorem Zgz(f:Nat->Int)(x:Rat):∀n,Zi (mk n f) x=Hy (λj=>(f j:Rat)*x^j) n
 | 0=>rfl
 | n+1=>by rw [Fk,Zvl,Zgz f x n,Xa,Mc]
def NN(p:List Int):Prop:=∀i,0<=cf p i
theorem NN.smul{c:Int}(e:0<=c)(h:NN p):NN (p.map λa=>c*a):=λi=>by rw [Cm];exact dU e (h i)
theorem NN.add(e:NN p)(f:NN q):NN (Mw p q):=λi=>by rw [Lb];exact Int.add_nonneg (e i) (f i)
theorem NN.lmul{q:List Int}(e:NN q):∀{p:List Int},NN p->NN (lmul p q)
 | [],_=>λi=>by show 0<=cf [] i;rw [show cf [] i=0 from rfl];exact eP _
 | c::p,h=>NN.add (NN.smul (h 0) e) λi=>by
  match i with
  | 0=>exact eP _
  | i+1=>exact NN.lmul e (p:=p) (λj=>h (j+1)) i
def lpw(l:List Int):Nat->List Int
 | 0=>[1]
 | k+1=>lmul l (lpw l k)
theorem Zrc(l:List Int)(x:Rat):∀k,Zi (lpw l k) x=Zi l x^k
 | 0=>by rw [dO];show((1:Int):Rat)+x*0=1;push_cast;grind
 | k+1=>by rw [show lpw l (k+1)=lmul l (lpw l k)from rfl,Ym,Zrc l x k,cZ,kA]
theorem NN.lpw{l:List Int}(h:NN l):∀k,NN (lpw l k)
 | 0=>λi=>by
  show 0<=cf [1] i
  match i with
  | 0=>exact Int.one_nonneg
  | i+1=>exact eP _
 | k+1=>NN.lmul (NN.lpw h k) h
theorem NN.two(e:0<=a)(f:0<=b):NN [a,b]:=λi=>by
 match i with
 | 0=>exact e
 | 1=>exact f
 | i+2=>exact eP _
def sQ(f:Nat->Int)(W:Nat->List Int):Nat->List Int
 | 0=>[]
 | k+1=>Mw (sQ f W k) ((W k).map λa=>f k*a)
theorem Zy4(f:Nat->Int)(W:Nat->List Int)(x:Rat):∀k,Zi (sQ f W k) x=Hy (λi=>(f i:Rat)*Zi (W i) x) k
 | 0=>rfl
 | k+1=>by rw [show sQ f W (k+1)=Mw (sQ f W k) ((W k).map λa=>f k*a)from rfl,Xt,Zy4 f W x k,Zu,Mc]
theorem sQ_le{f g:Nat->Int}{W:Nat->List Int}{B:Int}(l:∀i,NN (W i)):∀k,(∀i,i<k->((f i).natAbs:Int)<=B*g i)->∀j,((cf (sQ f W k) j).natAbs:Int)<=B*cf (sQ g W k) j
 | 0,_,j=>by show((cf [] j).natAbs:Int)<=B*cf [] j;rw [show cf [] j=0 from rfl];simp
 | k+1,h,j=>by
  have v:=sQ_le l k (λi hi=>h i O1) j;have n:=h k O1;show((cf (Mw (sQ f W k) ((W k).map λa=>f k*a)) j).natAbs:Int)<=B*cf (Mw (sQ g W k) ((W k).map λa=>g k*a)) j;rw [Lb,Lb,Cm,Cm,kJ,<-fF];have o:=l k j;have u:((f k*cf (W k) j).natAbs:Int)<=B*g k*cf (W k) j:=by rw [bT];push_cast;have e:((cf (W k) j).natAbs:Int)=cf (W k) j:=O1;rw [e];exact eK n o
  generalize B*g k*cf (W k) j=t at *;generalize f k*cf (W k) j=s at *;generalize B*cf (sQ g W k) j=r at *;omega
theorem Zm6(a b:Rat):∀n:Nat,(a*b)^n=a^n*b^n
 | 0=>by rw [dO,dO,dO];grind
 | n+1=>by rw [cZ,cZ,cZ,Zm6 a b n];grind
theorem Yfc(a:Rat)(m:Nat):∀n:Nat,a^(m+n)=a^m*a^n
 | 0=>by rw [eJ,dO];grind
 | n+1=>by rw [<-iX,cZ,cZ,Yfc a m n];grind
theorem Yow{U V S:Rat}(h:U+V=S)(n:S≠0){d:Nat}(l:c.length<=d+1):Hy (λj=>(Ho d c j:Rat)*(U^j*V^(d-j))) (d+1)=S^d*Zi c (U/S):=by
 rw [<-bern (u:=U/S) (w:=V/S) (by rw [<-h];grind) d c l,<-Ey];refine Lt _ λj o=>?_;have e:U^j=S^j*(U/S)^j:=by rw [<-Zm6];congr 1;grind
 have f:V^(d-j)=S^(d-j)*(V/S)^(d-j):=by rw [<-Zm6];congr 1;grind
 have g:S^d=S^j*S^(d-j):=by rw [<-Yfc];congr 1;omega
 rw [e,f,g];grind
theorem Ye3{U V S:Rat}(h:U+V=S)(l:S≠0)(d:Nat):Hy (λj=>(Ou d j:Rat)*(U^j*V^(d-j))) (d+1)=S^d:=by
 have:=Yov (u:=U/S) (w:=V/S) (by rw [<-h];grind) d;rw [<-Rat.mul_one (S^d),<-this,<-Ey];refine Lt _ λj n=>?_;have e:U^j=S^j*(U/S)^j:=by rw [<-Zm6];congr 1;grind
 have f:V^(d-j)=S^(d-j)*(V/S)^(d-j):=by rw [<-Zm6];congr 1;grind
 have g:S^d=S^j*S^(d-j):=by rw [<-Yfc];congr 1;omega
 rw [e,f,g];grind
theorem Yb7(a b:Int)(x:Rat):Zi [a,b] x=(a:Rat)+(b:Rat)*x:=by show(a:Rat)+x*((b:Rat)+x*0)=_;grind
theorem onepw(n:Nat):(1:Rat)^n=1:=by
 induction n with
 | zero=>rw [dO]
 | succ n e=>rw [cZ,e];grind
theorem Zcw(d:Int)(n:Nat):((d^n:Int):Rat)=(d:Rat)^n:=by
 induction n with
 | zero=>rw [dC,dO];rfl
 | succ n e=>rw [dD,cZ,<-e];push_cast;rfl
def Wij(a e d:Int)(n i:Nat):List Int:=lmul (lpw [a,e] i) (lpw [d-a,d-e] (n-i))
def Wij_nn{e:Int}(f:0<=a)(g:0<=e)(h:a<=d)(j:e<=d)(n i:Nat):NN (Wij a e d n i):=NN.lmul (NN.lpw (NN.two O1 O1) _) (NN.lpw (NN.two f g) _)
theorem Yb8(a e d:Int)(n i:Nat)(x:Rat):Zi (Wij a e d n i) x=((a:Rat)+(e:Rat)*x)^i*(((d-a:Int):Rat)+((d-e:Int):Rat)*x)^(n-i):=by unfold Wij;rw [Ym,Zrc,Zrc,Yb7,Yb7]
theorem Yt5 {X:List Int} {n:Nat} (hl:c.length<=n+1) (hX:X.length<=n+1) {B:Int} (ha:0<=a) (hb:0<=b) (G:a+b<=d) (M:0<d) (hr:∀t u:Rat,t*(d:Rat)=(a:Rat)+(b:Rat)*u->Zi X u=(d:Rat)^m*Zi c t)
  (hB:∀j,j<n+1->((Ho n c j).natAbs:Int)<=B*(Ou n j:Int)):∀j,j<n+1->((Ho n X j).natAbs:Int)<=B*d^m*(Ou n j:Int):=by
 have Q:(0:Rat)<(d:Rat):=by exact_mod_cast M
 have l:∀x:Rat,0<=x->(x+1)≠0:=λx e h=>O5;have s:∀x:Rat,((a:Rat)+((a+b:Int):Rat)*x)+(((d-a:Int):Rat)+((d-(a+b):Int):Rat)*x)=(d:Rat)*(x+1):=λx=>by push_cast;grind
 have o:∀x:Rat,0<=x->(d:Rat)*(x+1)≠0:=λx e h=>by have:=aT Q (show(0:Rat)<x+1 by grind);grind
 have R:∀x:Rat,0<=x->Zi (sQ (λi=>(Ou n i:Int)) (Wij a (a+b) d n) (n+1)) x=Zi (mk (n+1) λj=>d^n*(Ou n j:Int)) x:=λx e=>by
  rw [Zy4,Zgz];have y:=Ye3 (s x) (o x e) n;have z:=Ye3 (U:=x) (V:=1) (S:=x+1) rfl (l x e) n;have D:Hy (λi=>(((Ou n i:Nat):Int):Rat)*Zi (Wij a (a+b) d n i) x) (n+1)=((d:Rat)*(x+1))^n:=by rw [<-y];exact Lt _ λj v=>by rw [Yb8];push_cast;rfl
  rw [D,Zm6,<-z,<-Ey];refine Lt _ λj v=>?_;rw [onepw];push_cast;rw [<-Zcw];push_cast;grind
 have Y:∀x:Rat,0<=x->Zi (mk (n+1) λj=>d^n*Ho n X j) x=Zi ((sQ (Ho n c) (Wij a (a+b) d n) (n+1)).map λq=>d^m*q) x:=λx e=>by
  rw [Zu,Zy4,Zgz];have y:=Yow (s x) (o x e) hl;have z:=Yow (U:=x) (V:=1) (S:=x+1) rfl (l x e) hX;have D:Hy (λi=>((Ho n c i:Int):Rat)*Zi (Wij a (a+b) d n i) x) (n+1)=((d:Rat)*(x+1))^n*Zi c (((a:Rat)+((a+b:Int):Rat)*x)/((d:Rat)*(x+1))):=by rw [<-y];exact Lt _ λj v=>by rw [Yb8]
  have e4:Hy (λj=>((d^n*Ho n X j:Int):Rat)*x^j) (n+1)=(d:Rat)^n*Hy (λj=>(Ho n X j:Rat)*(x^j*1^(n-j))) (n+1):=by rw [<-Ey];refine Lt _ λj v=>?_;rw [onepw,<-Zcw];push_cast;grind
  rw [D,e4,z,hr (((a:Rat)+((a+b:Int):Rat)*x)/((d:Rat)*(x+1))) (x/(x+1)) ?_,Zm6,Zcw]
  .grind
  .have F:=l x e;have w:(d:Rat)≠0:=O5;push_cast;grind
 have H:=Zvm R;have I:=Zvm Y;intro j v;have F:=H j;have w:=I j;rw [Ml,aM v]at F w;rw [Cm]at w;have Z:=sQ_le (f:=Ho n c) (g:=λi=>(Ou n i:Int)) (W:=Wij a (a+b) d n) (B:=B) (Wij_nn ha O1 O1 G n) (n+1) hB j;rw [F]at Z;have P:0<d^n:=jD M;have N:0<=d^m:=dY (jD M);have h4:((d^n*Ho n X j).natAbs:Int)=d^n*((Ho n X j).natAbs:Int):=by rw [bT];push_cast;rw [show((d^n).natAbs:Int)=d^n by omega]
 have h5:((d^m*cf (sQ (Ho n c) (Wij a (a+b) d n) (n+1)) j).natAbs:Int)=d^m*((cf (sQ (Ho n c) (Wij a (a+b) d n) (n+1)) j).natAbs:Int):=by rw [bT];push_cast;rw [show((d^m).natAbs:Int)=d^m by omega]
 have h6:=gR Z N;rw [<-h5,<-w,h4]at h6;refine kI (a:=d^n) ?_ P;refine Int.le_trans h6 (Int.le_of_eq ?_);generalize d^n=p;generalize d^m=q;generalize (Ou n j:Int)=r;grind
def Ypp:∀n,n<6->∀j,j<n+1->∀k,k<j+1->(Ou n j:Int)*w60 n j k=60*(Ou (n-k) (j-k):Int):=O4
theorem Zfn(f:Nat->Int)(a:Int):∀m,Yl (λk=>a*f k) m=a*Yl f m
 | 0=>by show(0)=a*0;simp
 | m+1=>by rw [Yp,Yp,Zfn f a m,kJ]
theorem Ytb(g:1<=c.length/\c.length<=6){j:Nat}(e:j<c.length):(Ou (c.length-1) j:Int)*ctl c j (j+1)=60*Ho (c.length-1) c j:=by unfold ctl Ho;rw [<-Zfn,<-Zfn];refine Xr λk f=>?_;have:=Ypp (c.length-1) O1 j O1 k O1;show(Ou _ j)*(cf c k*w60 _ j k)=60*(cf c k*_);grind
theorem Yof{n j:Nat}(h:j<n+1):(0:Int)<(Ou n j:Int):=by grind [Zlp]
theorem Yey(t:1<=c.length/\c.length<=6) : Zob c ov=true↔∀j,j<c.length->((Ho (c.length-1) c j).natAbs:Int)<=1048576*ov*(Ou (c.length-1) j:Int):=by
 have u:∀j,j<c.length->((((ctl c j _).natAbs)<=62914560*ov)↔((Ho _ c j).natAbs)<=1048576*ov*(Ou _ j)):=λj g=>by
  have l:=Ytb t g;have f:=Yof (n:=c.length-1) (j:=j) O1;have o:=aD Int.natAbs l;rw [bT,bT]at o;generalize (ctl c j _).natAbs=x at *;generalize (Ho _ c j).natAbs=y at *;generalize Ou _ j=q at *;have s:(q:Int)*(x)=60*(y):=O5;constructor
  .intro h;have e:=gR h (dY f);grind
  .intro h;have e:60*(y)<=(q)*(62914560*ov):=by grind
   rw [<-s]at e;exact kI e f
 constructor
 .intro h j g;unfold Zob at h;grind
 grind [Yax]
def Qj : ((x.natAbs:Int)<=b)↔(-b<=x/\x<=b):=O1
def bre00(c:List Int):Ho 0 c 0=cf c 0*1:=O13
def bre10(c:List Int):Ho 1 c 0=cf c 0*1:=O13
def bre11(c:List Int):Ho 1 c 1=cf c 0*1+cf c 1*1:=O13
def bre20(c:List Int):Ho 2 c 0=cf c 0*1:=O13
def bre21(c:List Int):Ho 2 c 1=cf c 0*2+cf c 1*1:=O13
def bre22(c:List Int):Ho 2 c 2=cf c 0*1+cf c 1*1+cf c 2*1:=O13
def bre30(c:List Int):Ho 3 c 0=cf c 0*1:=O13
def bre31(c:List Int):Ho 3 c 1=cf c 0*3+cf c 1*1:=O13
def bre32(c:List Int):Ho 3 c 2=cf c 0*3+cf c 1*2+cf c 2*1:=O13
def bre33(c:List Int):Ho 3 c 3=cf c 0*1+cf c 1*1+cf c 2*1+cf c 3*1:=O13
def bre40(c:List Int):Ho 4 c 0=cf c 0*1:=O13
def bre41(c:List Int):Ho 4 c 1=cf c 0*4+cf c 1*1:=O13
def bre42(c:List Int):Ho 4 c 2=cf c 0*6+cf c 1*3+cf c 2*1:=O13
def bre43(c:List Int):Ho 4 c 3=cf c 0*4+cf c 1*3+cf c 2*2+cf c 3*1:=O13
def bre44(c:List Int):Ho 4 c 4=cf c 0*1+cf c 1*1+cf c 2*1+cf c 3*1+cf c 4*1:=O13
def bre50(c:List Int):Ho 5 c 0=cf c 0*1:=O13
def bre51(c:List Int):Ho 5 c 1=cf c 0*5+cf c 1*1:=O13
def bre52(c:List Int):Ho 5 c 2=cf c 0*10+cf c 1*4+cf c 2*1:=O13
def bre53(c:List Int):Ho 5 c 3=cf c 0*10+cf c 1*6+cf c 2*3+cf c 3*1:=O13
def bre54(c:List Int):Ho 5 c 4=cf c 0*5+cf c 1*4+cf c 2*3+cf c 3*2+cf c 4*1:=O13
def bre55(c:List Int):Ho 5 c 5=cf c 0*1+cf c 1*1+cf c 2*1+cf c 3*1+cf c 4*1+cf c 5*1:=O13
theorem cf_brS{n:Nat}(t:n<6)(w:c.length<=n+1){M:Int}(h:∀j,j<n+1->((Ho n c j).natAbs:Int)<=M*(Ou n j:Int))(k:Nat):((cf c k).natAbs:Int)<=2047*M:=by
 have u:0<=M:=by have e:=h 0 O6;grind [Zn5]
 by_cases v:k<n+1
 .rw [Qj]
  match n,t with
  | 0,_=>
   have e:=Qj.1 (h 0 O1);rw [bre00,show(Ou 0 0:Int)=1 from rfl]at e;grind
  | 1,_=>
   have e:=Qj.1 (h 0 O1);rw [bre10,show(Ou 1 0:Int)=1 from rfl]at e;have f:=Qj.1 (h 1 O1);rw [bre11,show(Ou 1 1:Int)=1 from rfl]at f;grind
  | 2,_=>
   have e:=Qj.1 (h 0 O1);rw [bre20,show(Ou 2 0:Int)=1 from rfl]at e;have f:=Qj.1 (h 1 O1);rw [bre21,show(Ou 2 1:Int)=2 from rfl]at f;have g:=Qj.1 (h 2 O1);rw [bre22,show(Ou 2 2:Int)=1 from rfl]at g;grind
  | 3,_=>
   have e:=Qj.1 (h 0 O1);rw [bre30,show(Ou 3 0:Int)=1 from rfl]at e;have f:=Qj.1 (h 1 O1);rw [bre31,show(Ou 3 1:Int)=3 from rfl]at f;have g:=Qj.1 (h 2 O1);rw [bre32,show(Ou 3 2:Int)=3 from rfl]at g;have l:=Qj.1 (h 3 O1);rw [bre33,show(Ou 3 3:Int)=1 from rfl]at l;grind
  | 4,_=>
   have e:=Qj.1 (h 0 O1);rw [bre40,show(Ou 4 0:Int)=1 from rfl]at e;have f:=Qj.1 (h 1 O1);rw [bre41,show(Ou 4 1:Int)=4 from rfl]at f;have g:=Qj.1 (h 2 O1);rw [bre42,show(Ou 4 2:Int)=6 from rfl]at g;have l:=Qj.1 (h 3 O1);rw [bre43,show(Ou 4 3:Int)=4 from rfl]at l;have o:=Qj.1 (h 4 O1);rw [bre44,show(Ou 4 4:Int)=1 from rfl]at o;grind
  | 5,_=>
   have e:=Qj.1 (h 0 O1);rw [bre50,show(Ou 5 0:Int)=1 from rfl]at e;have f:=Qj.1 (h 1 O1);rw [bre51,show(Ou 5 1:Int)=5 from rfl]at f;have g:=Qj.1 (h 2 O1);rw [bre52,show(Ou 5 2:Int)=10 from rfl]at g;have l:=Qj.1 (h 3 O1);rw [bre53,show(Ou 5 3:Int)=10 from rfl]at l;have o:=Qj.1 (h 4 O1);rw [bre54,show(Ou 5 4:Int)=5 from rfl]at o;have s:=Qj.1 (h 5 O1);rw [bre55,show(Ou 5 5:Int)=1 from rfl]at s;grind
 grind [Yr]
structure AxC (c:List Int) (ov:Int):Prop where
 l:1<=c.length/\c.length<=6
 t:¬(1<c.length/\c.getD (c.length-1) 0=0)
 b:∀j,j<c.length->((Ho (c.length-1) c j).natAbs:Int)<=1048576*ov*(Ou (c.length-1) j:Int)
theorem AxC.of(h:axB c ov=true):AxC c ov:=by unfold axB at h;simp only [aN,fI,iF,cF,fJ]at h;have e:1<=c.length/\c.length<=6:=⟨h.1.1.1,h.1.1.2⟩;exact⟨e,λf=>O1,(Yey e).1 h.2⟩
def AxC.to(h:AxC c ov):axB c ov=true:=Ye9 h.l.1 h.l.2 h.t ((Yey h.l).2 h.b)
def tzl_nz(e:c.getD (c.length-1) 0≠0):tzl c=c:=Ao (.inr e)
theorem Yo2(h:AxC c ov):(tzl c=c)\/c=[0]:=by
 by_cases e:c.getD (c.length-1) 0=0
 .have j:c.length=1:=by
   have l:=h.l;have f:=h.t;by_cases g:1<c.length
   .exact absurd ⟨g,e⟩ f
   .omega
  right
  match c,j with
  | [x],_=>simp at e;rw [e]
 .exact .inl (tzl_nz e)
theorem Zg0(h:AxC c ov){t u:Rat}(f:t*(d:Rat)=(a:Rat)+(b:Rat)*u):Zi (Pe c a b d) u=(d:Rat)^5*Zi c t:=by
 unfold Pe;rw [Dx];rcases Yo2 h with e|e
 .have g:=h.l;rw [e,Zmo a b d f O1,Zcw];have:(d:Rat)^5=(d:Rat)^(6-c.length)*(d:Rat)^(c.length-1):=by rw [<-Yfc];congr 1;omega
  rw [this];grind
 .subst e;rw [show tzl [0]=[]from by decide,show Lv [] a b d=[]from rfl];show _*(0:Rat)=_*(((0:Int):Rat)+t*0);push_cast;grind
def Zhp (c:List Int)(a b d:Int):(Pe c a b d).length<=c.length:=aB (Ok _ _) (aB (Zfx _ _ _ _) (Ns c))
theorem Yex(h:AxC c ov)(f:0<=a)(g:0<=b)(e:a+b<=d)(l:0<d):∀j,j<c.length->((Ho (c.length-1) (Pe c a b d) j).natAbs:Int)<=1048576*(ov*d^5)*(Ou (c.length-1) j:Int):=λj o=>by have w:=h.l;have v:=Zhp c a b d;have:=Yt5 (c:=c) (X:=Pe c a b d) (n:=c.length-1) (m:=5) (B:=1048576*ov) O1 O1 f g e l (λt u s=>Zg0 h s) (λj o=>h.b j O1) j O1;rw [fF]at this;rw [fF];rw [fF,<-fF ov]at this;exact this
theorem cf_cmp(h:AxC c ov)(f:0<=a)(g:0<=b)(e:a+b<=d)(l:0<d)(k:Nat):((cf (Pe c a b d) k).natAbs:Int)<=ov*d^5*2146435072:=by have t:=h.l;have o:=Zhp c a b d;have:=cf_brS (n:=c.length-1) O1 (c:=Pe c a b d) O1 (M:=1048576*(ov*d^5)) (λj s=>Yex h f g e l j O1) k;omega
theorem Zyz{g:Zk}(h:seB g=true):AxC g.2.1.2 g.1.2.2/\AxC g.2.2.1.2 g.1.2.2/\AxC g.2.2.2.2 g.1.2.2:=by have e:Bf g.1.1 g.1.2.1 g.1.2.2 g.2.1.2 g.2.2.1.2 g.2.2.2.2=true:=h;unfold Bf at e;simp only [aN]at e;exact⟨.of e.1.1.1.2,.of e.1.1.2,.of e.1.2⟩
theorem Yn0{fr e:Int}{g:Zk}(f:SgG g)(h:Kq fr e g=true):0<=cA fr g-g.1.1/\0<cB e g-cA fr g/\(cA fr g-g.1.1)+(cB e g-cA fr g)<=g.1.2.1-g.1.1/\0<g.1.2.1-g.1.1:=by have n:=cC h;have j:=f.t1;have l:=f.t2;unfold cA cB at *;exact⟨O1,O1,O1,O1⟩
theorem Zzs{fr v:Int}{g:Zk}(hi:Gin g)(hs:seB g=true)(h:Kq fr v g=true):MdG fr v g:=by
 have f:SgG g:=Oj hi hs;obtain⟨B,D,F⟩:=Zyz hs;obtain⟨G,H,I,M⟩:=Yn0 f h;obtain⟨t,u,-,-⟩:=cut_b f h;have S:=f.t3;have R:=f.t1;have P:=f.o1;have Q:=f.o2;have j:1<=g.1.2.1-g.1.1/\g.1.2.1-g.1.1<=3600000:=⟨O1,O1⟩;have w:=Zjj f.hx f.lx t u j;have y:=Zjj f.hy f.ly t u j;have z:=Zjj f.hz f.lz t u j;have s:0<cO g:=eZ O1 (jD O1);have o:((cO g).natAbs:Int)=cO g:=O1;have n:∀{c:List Int},AxC c g.1.2.2->∀k,(cf (cX fr v g c) k).natAbs<=(cO g).natAbs*2146435072:=λN k=>by
  have:=cf_cmp N G (dY H) I M k;have e:(((cO g).natAbs*2146435072:Nat):Int)=cO g*2146435072:=by rw [iC,o];rfl
  refine Int.ofNat_le.1 ?_;rw [e];exact this
 refine⟨s,?_,λi=>?_,λi=>?_,λi k=>?_⟩
 .have V:bl g.1.2.2.natAbs<=40:=(Qs 40 _).2 O1;have W:=Zj3 j;have:=Zy g.1.2.2 ((g.1.2.1-g.1.1)^5);show bl (g.1.2.2*(g.1.2.1-g.1.1)^5).natAbs<=1000;omega
 .exact Cr (p:=λl:List Int=>Sz 1000 l) w.2.2.2.2.2.2.1 y.2.2.2.2.2.2.1 z.2.2.2.2.2.2.1
 .exact Cr (p:=λl:List Int=>l.length<=6) w.2.2.2.2.2.2.2 y.2.2.2.2.2.2.2 z.2.2.2.2.2.2.2
 .exact Cr (p:=λl:List Int=>(cf l k).natAbs<=(cO g).natAbs*2146435072) (n B k) (n D k) (n F k)
end Go.Sky

