/- Rules, arithmetic and contracts: part 13. No conditions but those that each theorem names. -/
import Derived.Test.YtlnoheikolgejaaGreatLc11
set_option linter.all false
set_option maxHeartbeats 4000000
namespace Go.Sky
variable{x y z c l1 l2:List Int}{i:Nat}{a b v u:Value}{ov:Int}{f:Nat->Value}{zs:List (SL×List Int)}{s:SL}{d0:SL×List Int}{M M0:Nat->Prop}
variable {P:Program} {N:Nat} {sc:Nat->Prop} {env env':Px} {H H':Hp}
def Hx(c:List Int)(g:Int):List Int:=if c.length=0 then [0]else c.map (· / g)
def mdO(ov g:Int):Int:=if ov/g<=4294967296 then ov/g else 0
def mdL(ov g:Int)(c:List Int):List Int:=if ov/g<=4294967296 then Hx c g else []
def Km(ov:Int)(x y z:List Int):Int:=Mc ov (Mw 3 x y z)
structure Mdh (ov:Int) (x y z:List Int):Prop where
 o:0<ov
 b:bl ov.natAbs<=1000
 s:∀i,Sz 1000 (Zt i x y z)
 l:∀i,(Zt i x y z).length<=6
 c:∀i k,(cf (Zt i x y z) k).natAbs<=ov.natAbs*2146435072
def Zhi:∀(l:List Int) (g:Int),0<=g->0<=Mc g l
 | [],_,h=>h
 | x::l,g,h=>Zhi l _ (gE _)
theorem Ycb:∀(l:List Int) (g:Int),Mc g l∣g/\∀x∈l,Mc g l∣x
 | [],g=>⟨Int.dvd_refl _,λx h=>nomatch h⟩
 | x::l,g=>by
  obtain⟨e,j⟩:=Ycb l _;exact⟨iL e (Int.gcd_dvd_left ..),λy d=>by
   rcases bI.1 d with rfl|d
   .exact iL e (jU ..)
   .exact j y d⟩
theorem Zyt{a:Int}(hi:i<3)(h:a∈Zt i x y z):a∈Mw 3 x y z:=by
 match i,hi with
 | 0,_=>exact cW.2 (.inl (cW.2 (.inl h)))
 | 1,_=>exact cW.2 (.inl (cW.2 (.inr h)))
 | 2,_=>exact cW.2 (.inr h)
theorem Mdh.g(h:Mdh ov x y z):0<Km ov x y z/\Km ov x y z∣ov/\∀i,i<3->∀a∈Zt i x y z,Km ov x y z∣a:=by
 obtain⟨d,e⟩:=Ycb _ ov;have g:=Zhi (Mw 3 x y z) ov (dQ h.o);have k:=h.o;refine⟨?_,d,λi hi a j=>e a (Zyt hi j)⟩;rcases Int.lt_or_eq_of_le g with q|q
 .exact q
 .exact absurd (Int.zero_dvd.1 (q▸d)) O
theorem Mdh.fc(h:Mdh ov x y z)(i k:Nat):bl (Mc (Mc ov (Mw i x y z)) ((Zt i x y z).take k)).natAbs<=1000:=by
 have e:∀i,∀a∈Zt i x y z,bl a.natAbs<=1000:=λi a d=>by obtain⟨j,o⟩:=kX.1 d;have:=h.s i j;unfold cf at this;grind
 have n:∀a∈Mw i x y z,bl a.natAbs<=1000:=λa d=>by unfold Mw at d;have g:=e 0;have l:=e 1;have m:=e 2;simp only [Zt]at g l m;grind
 exact Zh3 (λa d=>e i a (eR d)) (Zh3 n h.b)
theorem Mdh.fit(h:Mdh ov x y z)(hs:ov/Km ov x y z<=4294967296)(hi:i<3)(k:Nat):((Zt i x y z).getD k 0/Km ov x y z).natAbs<=9223372036854775807:=by
 obtain⟨l,⟨s,d⟩,m⟩:=h.g;have n:Km ov x y z∣(Zt i x y z).getD k 0:=by
  rcases bA k _ with q|q
  .exact m i hi _ (Zd q)
  .rw [aK,bJ q];exact jH _
 obtain⟨t,j⟩:=n;have e:((Zt i x y z).getD k 0).natAbs<=ov.natAbs*2146435072:=h.c i k;generalize Km ov x y z=g at *;rw [j,kE _ O];rw [d,kE _ O]at hs;rw [j,d,cE,cE,eC]at e;have p:=Nat.le_of_mul_le_mul_left e O;have r:=h.o;have o:0<s:=by
  by_cases q:0<s
  .omega
  .have:=eY (dQ l) (show s<=0 by omega);omega
 omega
def mdO_t{g:Int}(h:ov/g<=4294967296):mdO ov g=ov/g:=aP h
def Zm2{g:Int}(h:ov/g<=4294967296):mdL ov g c=Hx c g:=aP h
def mdO_f{g:Int}(h:¬ov/g<=4294967296):mdO ov g=0:=aJ h
def Yk9{g:Int}(h:¬ov/g<=4294967296):mdL ov g c=[]:=aJ h
def dvL_0{g:Int}(h:c.length=0):Hx c g=[0]:=aP h
def dvL_n{g:Int}(h:c.length≠0):Hx c g=c.map (· / g):=aJ h
theorem Zvp{g:Int}{k:Nat}(h:k<c.length):(c.take k).map (· / g) ++ [c.getD k 0/g]=(c.take (k+1)).map (· / g):=by rw [Qz 0 _ _ h,cI];rfl
abbrev C6 (a b c:Value) (f:Nat->Value):Array Value:=#[a,b,c,f 0,f 1,f 2]
def upd(f:Nat->Value)(i:Nat)(v:Value)(j:Nat):Value:=if j=i then v else f j
theorem c6_get{c:Value}(h:i<3):(C6 a b c f)[3+i]? = some (f i):=by
 match i,h with
 | 0,_=>rfl
 | 1,_=>rfl
 | 2,_=>rfl
theorem Yn2{c:Value}(h:i<3):(C6 a b c (upd f i v))[3+i]? = some v:=by rw [c6_get h];unfold upd;simp
theorem c6_lay{c:Value}(h:i<3):Fj (C6 a b c (upd f i u)) (3+i) [v]=C6 a b c (upd f i v):=by
 match i,h with
 | 0,_=>rfl
 | 1,_=>rfl
 | 2,_=>rfl
theorem Zzr{c:Value}{g:Nat->Value}(h:∀j,j<3->f j=g j):C6 a b c f=C6 a b c g:=by grind
theorem p3_sel{b:Nat}(h:i<3):Zt i (Value.pointer (some ⟨b,3,none⟩)) (Value.pointer (some ⟨b,4,none⟩)) (Value.pointer (some ⟨b,5,none⟩))= .pointer (some ⟨b,3+i,none⟩):=by
 match i,h with
 | 0,_=>rfl
 | 1,_=>rfl
 | 2,_=>rfl
theorem c3_get{c:Value}(h:i<3):(#[a,b,c]:Array Value)[0+i*1]? = some (Zt i a b c):=by
 match i,h with
 | 0,_=>rfl
 | 1,_=>rfl
 | 2,_=>rfl
def fz(zs:List (SL×List Int))(j:Nat):Value:=Xd (zs.getD j ((none,0,0),[])).1
theorem fz_upd(h:zs.length=i)(j:Nat):fz zs j=upd (fz zs) i (.slice none 0 0) j:=by
 unfold upd;split
 .rename_i e;subst e;subst h;unfold fz;simp
 rfl
theorem Ycd(h:zs.length=i)(j:Nat):upd (fz zs) i (Xd s) j=fz (zs ++ [(s,c)]) j:=by unfold upd fz;grind
def Zha (f:Nat->List Int){t:Nat}(e:zs.length=i)(h:∀t,t<i->(zs.getD t d0).2=f t)(d:c=f i)(g:t<i+1):((zs ++ [(s,c)]).getD t d0).2=f t:=d▸Zw9 e h g
theorem Yk8{g:Int}(k:zs.length=3)(h:∀t,t<3->(zs.getD t d0).2=Hx (Zt t x y z) g):∃l m n:SL,zs=[(l,Hx x g),(m,Hx y g),(n,Hx z g)]:=by
 match zs,k with
 | [o,p,q],_=>
  have d:=h 0 O;have e:=h 1 O;have j:=h 2 O;simp [Zt]at d e j;grind
def Yic{a b:Int} : 0<(a-b).sign↔¬a<=b:=O5
theorem t_st6 (i:Nat)(n:Nat)  {o:Oper} {x y:Operand} {t j:TypeId} {b:Nat} {e g h:Value}   {k:World}  (D:o.op= .store t x y) (r:o.dst=none)
  (I:ev env x=some (.pointer (some ⟨b,3+n,none⟩))) (Q:ev env y=some v) (p:lk H i=some (box b j (C6 e g h (upd f n u)))) (d:i≠0) (B:∀w,(sizeOf t).run P w= .ok 1 w) (R:n<3) (m:One N sc env H v)
  (l:lk H 0=some (Xu k M0)) (F:∀b,k.heap.size<=b->sc b) (q:M b) :
  T P N sc M o env H (G:=Unit) (λ_=>True) (λ_=>env) (λ_=>(i,box b j (C6 e g h (upd f n v)))::H):=by
 have:=t_stp1 D r I Q p d B (by simp<;>omega) m l F q;grind [c6_lay]
theorem bl_dlq{a b:Int}{n:Nat}(h:bl a.natAbs<=n)(g:0<b)(d:0<=a):bl (a/b).natAbs<=n:=(Qo n _).2 (aV (by have e:=kF b d;grind [Int.ediv_nonneg,Int.le_of_lt]) ((Qo n _).1 h))
theorem Yl7{n:Nat}(h:∀z∈zs,∀b,(Xd z.1).ownBlock=some b->n<=b)(d:∀b,(Xd s).ownBlock=some b->n<=b):∀z∈zs ++ [(s,c)],∀b,(Xd z.1).ownBlock=some b->n<=b:=λz e=>by grind
theorem fr3{n:Nat}{e g j:SL}{k l m l3:List Int}(h:∀z∈[(e,k),(g,l),(j,m)],∀b,(Xd z.1).ownBlock=some b->n<=b):∀p∈[Yl 1 Zz (Xd e) l1,Yl 1 Zz (Xd g) l2,Yl 1 Zz (Xd j) l3],∀b,p.fp b->n<=b:=λp o b d=>by
 simp only [bI,dA,fL]at o;rcases o with rfl|rfl|rfl
 .exact h (e,k) O5 b d.2
 .exact h (g,l) O5 b d.2
 .exact h (j,m) O5 b d.2
theorem fr0{n:Nat}{l3:List Int} : ∀p∈[Yl 1 Zz (Xd (none,0,0)) l1,Yl 1 Zz (Xd (none,0,0)) l2,Yl 1 Zz (Xd (none,0,0)) l3],∀b,p.fp b->n<=b:=λp d b e=>by simp only [bI,dA,fL]at d;rcases d with rfl|rfl|rfl<;>cases e.2
end Go.Sky
namespace Go.Sky
open Go.RowKit Below
variable{o:Oper}{x:Operand}{cs:Array Value}
variable {P:Program} {N:Nat} {sc:Nat->Prop} {env env':Px} {H H':Hp} {Q Q':Exit->Act->World->Prop} {M:Nat->Prop}
theorem f_new{d:World}{p:Pc}(i:Nat)(hi:lk H i=some p)(g:p.own=true)(e:lk H 0=some (Xu d (λ_=>False)))(c:i≠0:=by decide):∀a w,Sat N sc env H a w->∀b,p.fp b->d.heap.size<=b:=λa w hs b f=>by
  rcases bA b _ with h|h
  . exact(hs.sep i 0 p _ c hi e g b f ⟨h,λh=>h⟩).elim
  omega
theorem Ygu {fn:Func} {l:List Pc} {G:Type} {φ:G->Prop} {val:G->Value} {c:G->List Pc} {f:World} {e:Exit} (u:e= .ret\/e= .normal)
    (g:G) {v:Value} (m:∀p∈c g,∀b,p.fp b->f.heap.size<=b) (k:∀a w,Sat N sc env H a w->(results fn a.tmps).run P w= .ok v w) (V:val g=v) (z:φ g) (r:lk H 0=some (Xu f (λ_=>False))) (d:Give H true (c g)) :
    X N sc e (Zcu P fn f l false φ val c) env H:=λa w hs=>by
  have I : a.defers = [] /\ ∃ v, (results fn a.tmps).run P w = .ok v w /\ (∃ g, Ending.returned v = .returned (val g) /\ φ g /\ Below f.heap.size f w /\
        ∀p∈c g,p.holds w/\p.own=false/\∀b,p.fp b->f.heap.size<=b\/(false=true/\∃q∈l,q.fp b)):=by
    refine⟨hs.defers,v,k a w hs,g,O4,z,Hl (hs.hold 0 _ r),λp n=>?_⟩;obtain⟨D,h|⟨R,S⟩⟩:=d.mem p n
    case inr=>grind
    obtain⟨i,F,B,hi,j,y,s⟩:=h;exact⟨j w (hs.hold i F hi),D,λb t=> .inl (m p n b t)⟩
  rcases u with rfl|rfl
  all_goals assumption
section
variable {f:FuncId} {xs:List Operand} {ats:Array TypeId} {d:Nat} {vs:List Value} {pre:List Pc} {G:Type} {φ:G->Prop} {val:G->Value} {its:G->List Pc} {w0:World} {M0:Nat->Prop} {ty:TypeId} {pos:String} {af:Array Edge} {g:Option (Nat×Bool)}
theorem Ypn  {n:Nat} (V:Cal P f vs.toArray pre false φ val its)
    (ho:o.op= .call { callee:= .value (.func f),args:=xs.toArray,argTypes:=ats }) (W:o.dst=some d) (S:Nat.blt d N=true)
    (k:EvL env xs vs) (l:∀args w,(callFunc f args).run P w= .ok (.enter f args) w) (t:PreOk H false pre)
    (D:lk H 0=some (Xu w0 M0)) (hw:∀b,w0.heap.size<=b->sc b) :
    T P N sc M o env H (λg=>φ g/\∀p∈its g,∀b,p.fp b->w0.heap.size<=b) (λg=>(d,val g)::env) (λg=>adds n (its g) H):=λa w hs K Q R=>by
  have y:=(hs.hold 0 _ D).size;have hr:(execOp a.eval o).run P w= .ok (.enter f vs.toArray) w:=by have hm:=k.map hs;simp [execOp,ho,resolve,invoke,Act.eval,Deferred.ofValue,hm,l]
  unfold Oper.wp;rw [hr];refine(V w (λp m=>by obtain⟨i,it,_,hi,r,_,_⟩:=t.mem p m;exact r w (hs.hold i it hi))).mono ?_
  rintro e w' ⟨g,rfl,Y,c,s⟩;rw [W];have v:=hs.chg0 (Chg.of_below c);have h:∀p∈its g,∀b,p.fp b->w.heap.size<=b:=λp m b q=>by grind
  refine R g _ _ ⟨Y,λp m b q=>aB y (h p m b q)⟩ (Sat.put (v.adds (w1:=w) _ n ?_) d _ S) (Chg.of_below c);intro p m;obtain⟨F,I,h3⟩:=s p m;refine⟨F,I,λb q=>hw b (aB y (h p m b q)),λj B Z z b q u=>?_⟩;have:=B.lt w b (hs.hold j B Z) u;grind
def Yem(n:Nat)(a:List Nat)(e:Cal P f vs.toArray pre false φ val its){c:G->Hp}[hx:EvI env xs vs][hf:CalF P f][hp:PreL P H false a pre][h0:Som (lk2 H 0) (Xu w0 M0)][hN:TB (ltb d N)][hw:Hw w0 sc][ha:∀g,AddI n (its g) H (c g)] :
    T P N sc M ⟨some d,.call { callee:= .value (.func f),args:=xs.toArray,argTypes:=ats },ty,pos,af,g⟩ env H (λg=>φ g/\∀p∈its g,∀b,p.fp b->w0.heap.size<=b) (λg=>(d,val g)::env) c:=
  (Ypn e rfl rfl (Nt hN.h) hx.h hf.h hp.h h0.l hw.h).conv λg=>(ha g).h
end
theorem hw_up{w0 W:World}(h:Hw w0 sc)(a:w0.heap.size<=W.heap.size):Hw W sc:=⟨λb c=>h.h b (aB a c)⟩
theorem Zp4  {y:Operand} {ats:Array TypeId} {k:IntKind} {m n:Int} (b:o.op= .call { callee:= .builtin .min,args:=#[x,y],argTypes:=ats })
    (c:ev env x=some (.int k m)) (e:ev env y=some (.int k n)):Mr P N sc o env H (.int k (min m n)):=λa w hs=>by
  simp [execOp,b,resolve,hs.ev c,hs.ev e,invoke,builtin,Builtin.min_,Builtin.min2];omega
theorem d_lbw   {t l:TypeId} {i b k:Nat}  (e:o.op= .load t x) (j:ev env x=some (.pointer (some ⟨b,0,none⟩))) (a:lk H i=some (box b l cs)) (h:∀w,(isAgg t).run P w= .ok true w) (c:∀w,(sizeOf t).run P w= .ok k w)
    (m:cs.size=k):Mr P N sc o env H (.agg cs):=by
  have:=Yc4 (N:=N) (sc:=sc) e j a h c O (λn u p=>O4);omega
end Go.Sky
namespace Go.Sky
open Go.Proofs.Tryz
open Go.Proofs
set_option synthInstance.maxHeartbeats 0
set_option synthInstance.maxSize 100000
set_option maxRecDepth 20000
set_option linter.unusedSimpArgs false
variable{p:Zv->Bool}{i id:Nat}{d:Zv}{ops:List Oper}{y x c:Code}{zs:List Zv}
theorem Zd7(fr M e:Int){vx vy vz:Value}(x y z:List Int)(r:Mdh e x y z):Cal prog 78 #[.int .i64 fr,.int .i64 M,.agg #[vx,vy,vz],wv e] [Yl 2 wv vx x,Yl 2 wv vy y,Yl 2 wv vz z] false (G:=SL×SL×SL) (λg=>True) (λg=> .tuple #[.agg #[.int .i64 fr,.int .i64 M,.int .i64 (mdO e (Km e x y z)),Xd g.1,Xd g.2.1,Xd g.2.2],.bool (decide (e/(Km e x y z)<=4294967296))]) (λg=>[Yl 1 Zz (Xd g.1) (mdL e (Km e x y z) x),Yl 1 Zz (Xd g.2.1) (mdL e (Km e x y z) y),Yl 1 Zz (Xd g.2.2) (mdL e (Km e x y z) z)]):=by
 refine Zg func78 ntmps78 λw0 sc Z b0=>?_;have ho:=r.o;have W:=r.b;obtain⟨S,a7,a8⟩:=r.g;have V:bl (Km e x y z).natAbs<=1000:=r.fc 3 0;have a9:0<=e/(Km e x y z):=iN (dQ ho) (dQ S);refine go 2<|Yj (Yg 4) λbx _=>Yj (Yg 5) λa2 _=>Yj (Yd 6) λa3 _=>go 6<|Yj (Yd 7) λD _=>go 11 ?_;refine lp (G:=Nat) [0,1,6,7,8,10,24] [0,1,2,3,4,5,6] (λi=>[(25,.int .i64 (i:Int))]) (λi=>[(7,box D 144 (wc (Mc e (Mw i x y z))))]) (λi=>i<=3) (λi=>3-i) 0 O1 K1 K1 ?_;rintro i hi;have a0:=r.fc i;have a1:=r.l i;refine go 6<|Ze J (λN=>?_) (λN=>?_)
 .refine go 5<|Zf (Zc5 i 1 2 3 50 J J J J J J)<|go 1 ?_;refine dt (Zp5 i J J J underlying141 sizeOf140 isAgg140 J)<|go 11 ?_;refine lp (G:=Nat) [0,1,6,7,8,10,24,25,28,29] [0,1,2,3,4,5,6,50] (λk=>[(30,.int .i64 (k:Int))]) (λk=>[(7,box D 144 (wc (Mc (Mc e (Mw i x y z)) ((Zt i x y z).take k))))]) (λk=>k<=(Zt i x y z).length) (λk=>(Zt i x y z).length-k) 0 O1 K1 K1 ?_;rintro k hk;refine go 6<|Ze J (λP=>?_) (λP=>?_)
  .refine go 8 ⟨O2,O2,?_⟩;refine Yj (Yd 8) λa4 _=>go 6 ?_;refine cl 8 [] (Zqp (Mc (Mc e (Mw i x y z)) ((Zt i x y z).take k)) ((Zt i x y z).getD k 0) (aB (a0 k) O3) (aB (r.s i k) O3)) λ_ _=>?_;refine go 8 ⟨O,?_⟩;exact Ye (k+1) O1 O1 K1 ⟨by rw [Ah O];rfl,aA⟩
  .obtain rfl:k=(Zt i x y z).length:=O;rw [bS];refine go 10 ⟨O,?_⟩;exact Ye (i+1) O1 O1 K1 ⟨by rw [Ee x y z O,Gg];rfl,aA⟩
 .obtain rfl:i=3:=O;refine go 9 ?_;refine dt (Qe [(0,_),(1,_)] J K4 (λa w hs=>Yt8 ((Zk J) a w hs) ((Zk J) a w hs)))<|Yj (Yd 9) λl _=>go 7 ?_;refine cl 9 [] (Zii e (Km e x y z) (aB W O3) (aB V O3) O) λ_ _=>Yj (Yd 10) λa5 _=>go 5<|Qa (λ_=>False) [(0,0),(1,1),(2,1),(3,0)]<|go 1<|Yq (Zo 10 [] (Ya 4294967296 ⟨O3,O3⟩)) λ_ _=>Yq (Zo 10 [] (Zf9 (e/(Km e x y z)) 4294967296 (aB (bl_dlq W S (dQ ho)) O3) O3)) λ_ _=>go 3<|Ze J (λn=>?_) (λn=>?_)
  .have f:¬e/(Km e x y z)<=4294967296:=Yic.1 n;refine go 9 ?_;exact Ygu (.inl J) ((none,0,0),(none,0,0),(none,0,0)) fr0 (λa w hs=>Zl9 hs results78 (Er 6 J J isAgg116 Ow J) J) (by rw [mdO_f f,aE f]) aA J (Nb (Yk9 f) (Nb (Yk9 f) (Nb (Yk9 f) Za)))
  .have f:e/(Km e x y z)<=4294967296:=eT.1 λh=>n (Yic.2 h);refine go 5 ?_;refine cl 10 [] (Ztr (e/(Km e x y z)) O) λ_ _=>go 13 ?_;refine dt (Qe [(0,_),(1,_),(2,_)] J K6 (λa w hs=>Yod ((Zk J) a w hs) ((Zk J) a w hs) ((Zk J) a w hs)))<|go 4 ?_;refine Zf (Oy 9 (q:=box l 116 (C6 (.int .i64 fr) (.int .i64 M) (.int .i64 (e/(Km e x y z))) (fz []))) (aD (box l 116) (show _=(C6 (.int .i64 fr) (.int .i64 M) (.int .i64 (e/(Km e x y z))) (fz []))from J)) J J)<|Zf (Yh qC 71)<|lp (G:=Nat×List (SL×List Int)) [6,8,10,15,59] [0,7,1,2,3,4,5,6,10] (λq=>[(60,.int .i64 (q.1:Int))]) (λq=>[(9,box l 116 (C6 (.int .i64 fr) (.int .i64 M) (.int .i64 (e/(Km e x y z))) (fz q.2))),(71,Nw qC q.2)]) (λq=>(q.1<=3)/\(q.2.length=q.1)/\(∀t,t<q.1->(q.2.getD t Z0).2=Hx (Zt t x y z) (Km e x y z))/\(∀z∈q.2,∀b,(Xd z.1).ownBlock=some b->w0.heap.size<=b)) (λq=>3-q.1) (0,[]) ⟨O1,rfl,λt Y=>absurd Y (aR t),λz hz=>nomatch hz⟩ K1 K2 ?_;rintro⟨i,zs⟩ ⟨hi,m,u,s⟩;dsimp only at hi m u s;dsimp only;have a1:=r.l i;refine go 6<|Ze J (λQ=>?_) (λQ=>?_)
   .refine go 7 ?_;refine dt (Xf ( .pointer (some ⟨l,3+i,none⟩)) (Zp5 i J J J underlying214 sizeOf213 isAgg213 J) (p3_sel O))<|go 6 ?_;refine Zf (Zc5 i 1 2 3 52 J J J J J J)<|Zf (Qp 60 1 3 Zz)<|go 2 ?_;refine dt (Fk i J J J underlying141 sizeOf140 J)<|dt (Yge 4 J J J isAgg140 (c3_get O))<|go 5 ?_;refine lp (G:=Nat×Value) [6,8,10,15,18,59,60,66,67] [0,71,7,1,2,3,4,5,6,10,52] (λq=>[(68,.int .i64 (q.1:Int))]) (λq=>[(9,box l 116 (C6 (.int .i64 fr) (.int .i64 M) (.int .i64 (e/(Km e x y z))) (upd (fz zs) i q.2))),(60,Oe 1 3 Zz q.2 (((Zt i x y z).take q.1).map (· / (Km e x y z))))]) (λq=>q.1<=(Zt i x y z).length) (λq=>(Zt i x y z).length-q.1) (0,_) O1 K1 ⟨by rw [Zzr (λj _=>fz_upd m j)];rfl,by rw [dZ];rfl,aA⟩ ?_;rintro⟨k,vr⟩ hk;dsimp only at hk;dsimp only;refine go 6<|Ze J (λR=>?_) (λR=>?_)
    .refine go 8 ⟨O2,O2,?_⟩;refine Yj (Yd 11) λa6 _=>go 7 ?_;refine cl 11 [] (Zii ((Zt i x y z).getD k 0) (Km e x y z) (aB (r.s i k) O3) (aB V O3) O) λ_ _=>cl 11 [] (Ztr ((Zt i x y z).getD k 0/(Km e x y z)) (r.fit f O k)) λ_ _=>go 11 ?_;refine dt (Yge 9 J J J isAgg25 (Yn2 O))<|go 1 ?_;refine tt (Xc [(0,_)] 12 (enc:=Zz) ([(Zt i x y z).getD k 0/(Km e x y z)]:List Int) J J K2 Qi ti3 J J J J J pZ.cells J J Z.h) J (λv _=>?_);refine tt (Pk 60 12 8 J J J J J J O3 J (Yb pZ) Qi ti3 J pZ J J J O8 O3 J Z.h) J λb1 _=>go 1 ?_;refine tt (t_st6 9 i J J J J J O3 Zcx O (Pj 60 J (Yb pZ)) J Z.h aA) J (λ_ _=>?_);refine go 7 ⟨O,?_⟩;exact Ye (k+1,_) O1 O1 K1 ⟨J,by rw [<-Zvp O];rfl,aA⟩
    .obtain rfl:k=(Zt i x y z).length:=O;rw [bS];refine go 9 ?_;refine dt (Yge 9 J J J isAgg25 (Yn2 O))<|go 4 ?_;refine Ze J (λo=>?_) (λo=>?_)
     .have F:(Zt i x y z).length=0:=by simpa using o
      refine go 2 ?_;refine tt (Xc [(0,_)] 13 (enc:=Zz) ([0]:List Int) J J K2 Qi ti3 J J J J J pZ.cells J J Z.h) J λb2 _=>go 1 ?_;refine tt (t_st6 9 i J J J J J O3 Zcx O (Pj 13 J (Yb pZ)) J Z.h aA) J (λ_ _=>?_);refine go 7 ⟨O,?_⟩;refine Ygt (f_new 13 J J J) (λH=>?_);refine Zn (Xa 13 J J pZ)<|Zfd (Xj 13 J Zl) (λB I=>?_);subst I;exact Zn (Oy 13 (q:=Yl 1 Zz (Xd B) (Hx (Zt i x y z) (Km e x y z))) (aD (Yl 1 Zz (Xd B)) (dvL_0 F).symm) J J)<|Zn (Zm (q:=qC) (z:=(B,Hx (Zt i x y z) (Km e x y z))) 71 13 71 J J J J J)<|Ye (i+1,zs ++ [(B,Hx (Zt i x y z) (Km e x y z))]) ⟨O1,by rw [aO,m];rfl,λt Y=>Zha (λt=>Hx (Zt t x y z) (Km e x y z)) m u rfl Y,Yl7 s H⟩ O1 K1 ⟨by rw [Zzr (λj _=>Ycd (c:=Hx (Zt i x y z) (Km e x y z)) m j)];rfl,rfl,aA⟩
     .have F:(Zt i x y z).length≠0:=by simpa using o
      refine go 7 ⟨O,?_⟩;refine Ygt (f_new 60 J J J) (λH=>?_);refine Zn (Xa 60 J J pZ)<|Zfd (Xj 60 J Zl) (λB I=>?_);subst I;exact Zn (Oy 60 (q:=Yl 1 Zz (Xd B) (Hx (Zt i x y z) (Km e x y z))) (aD (Yl 1 Zz (Xd B)) (dvL_n F).symm) J J)<|Zn (Zm (q:=qC) (z:=(B,Hx (Zt i x y z) (Km e x y z))) 71 60 71 J J J J J)<|Ye (i+1,zs ++ [(B,Hx (Zt i x y z) (Km e x y z))]) ⟨O1,by rw [aO,m];rfl,λt Y=>Zha (λt=>Hx (Zt t x y z) (Km e x y z)) m u rfl Y,Yl7 s H⟩ O1 K1 ⟨by rw [Zzr (λj _=>Ycd (c:=Hx (Zt i x y z) (Km e x y z)) m j)];rfl,rfl,aA⟩
   .obtain rfl:i=3:=O;refine go 6 ?_;obtain⟨s1,s2,s3,rfl⟩:=Yk8 m u;refine Zf (Za1 (q:=qC) 71 81 (s1,Hx x (Km e x y z)) J J O5 J)<|Zf (Oy 81 (q:=Yl 1 Zz (Xd s1) (mdL e (Km e x y z) x)) (aD (Yl 1 Zz (Xd s1)) (Zm2 f).symm) J J)<|Zf (Za1 (q:=qC) 71 82 (s2,Hx y (Km e x y z)) J J O5 J)<|Zf (Oy 82 (q:=Yl 1 Zz (Xd s2) (mdL e (Km e x y z) y)) (aD (Yl 1 Zz (Xd s2)) (Zm2 f).symm) J J)<|Zf (Za1 (q:=qC) 71 83 (s3,Hx z (Km e x y z)) J J O5 J)<|Zf (Oy 83 (q:=Yl 1 Zz (Xd s3) (mdL e (Km e x y z) z)) (aD (Yl 1 Zz (Xd s3)) (Zm2 f).symm) J J)<|Zf (Oy 9 (q:=box l 116 #[.int .i64 fr,.int .i64 M,.int .i64 (e/(Km e x y z)),Xd s1,Xd s2,Xd s3]) J J J)<|go 7 ?_;exact Ygu (.inl J) (s1,s2,s3) (fr3 s) (λa w hs=>Zl9 hs results78 (Er 6 J J isAgg116 Ow J) J) (by rw [mdO_t f,aH f]) aA J (Gt 81 J J J (Gt 82 J J J (Gt 83 J J J Za)))
abbrev Zco:=(Int×Int×Int)×List Int×List Int×List Int
def Ia(g:Zv):Zco:=(g.1,g.2.1.2,g.2.2.1.2,g.2.2.2.2)
abbrev cA (fr:Int) (g:Zv):Int:=max fr g.1.1
abbrev cB (a:Int) (g:Zv):Int:=min a g.1.2.1
abbrev cX (fr a:Int) (g:Zv) (c:List Int):List Int:=Ph c (cA fr g-g.1.1) (cB a g-cA fr g) (g.1.2.1-g.1.1)
abbrev cO (g:Zv):Int:=g.1.2.2*(g.1.2.1-g.1.1)^5
def cG(fr a:Int)(g:Zv):Int:=Km (cO g) (cX fr a g g.2.1.2) (cX fr a g g.2.2.1.2) (cX fr a g g.2.2.2.2)
def Hc(fr a:Int)(g:Zv):Bool:=decide (cA fr g<cB a g)
def Zew(fr a:Int)(g:Zv):Bool:=decide (cO g/cG fr a g<=4294967296)
def Zw2(fr a:Int)(g:Zv):Zco:=((cA fr g,cB a g,mdO (cO g) (cG fr a g)),mdL (cO g) (cG fr a g) (cX fr a g g.2.1.2),mdL (cO g) (cG fr a g) (cX fr a g g.2.2.1.2),mdL (cO g) (cG fr a g) (cX fr a g g.2.2.2.2))
def MdG(fr a:Int)(g:Zv):Prop:=Mdh (cO g) (cX fr a g g.2.1.2) (cX fr a g g.2.2.1.2) (cX fr a g g.2.2.2.2)
theorem Zsc{ps:List Zv}(hi:i<ps.length)(b:p (ps.getD i d)=true):(ps.filter p)[((ps.take i).filter p).length]? = some (ps.getD i d):=by
 have h:=fC i ps;have a:ps.drop i=ps.getD i d::ps.drop (i+1):=by rw [aK,aL hi,eN];exact eE hi
 conv=>lhs;arg 1;rw [<-h,a]
 rw [fA,dY b];simp
theorem fl_t{ps:List Zv}(hi:i<ps.length)(a:p (ps.getD i d)=true):((ps.take (i+1)).filter p).length=((ps.take i).filter p).length+1:=by rw [Qz d _ _ hi,fA,dY a,aO];rfl
theorem fl_f{ps:List Zv}(hi:i<ps.length)(a:p (ps.getD i d)=false):((ps.take (i+1)).filter p).length=((ps.take i).filter p).length:=by rw [Qz d _ _ hi,fA,fQ (by rw [a];exact dU),aO];rfl
def Zjq{d:Int}(h:1<=d/\d<=3600000):bl (d^5).natAbs<=132:=Zqc (Zcn O) 5 (aF _)
theorem Ynf{W:Nat}{H:Hp}{j k l:SL}{f g l3:List Int}(h:∀p∈[Yl 1 Zz (Xd j) f,Yl 1 Zz (Xd k) g,Yl 1 Zz (Xd l) l3],∀b,p.fp b->W<=b)(i:Nat)(n:lk H i=some (Yl 1 Zz (Xd j) f))(o:lk H (i+1)=some (Yl 1 Zz (Xd k) g))(q:lk H (i+2)=some (Yl 1 Zz (Xd l) l3)) :
  ∀p∈[Yl 1 Zz (Xd j) f,Yl 1 Zz (Xd k) g,Yl 1 Zz (Xd l) l3],p.own=false/\(∀b,p.fp b->W<=b)/\∃i m,lk H i=some m/\∀w,m.holds w->p.holds w:=λp e=>by
 have a:=h p e;simp only [bI,dA,fL]at e;rcases e with rfl|rfl|rfl
 .exact⟨rfl,a,_,_,n,λ_ h=>h⟩
 .exact⟨rfl,a,_,_,o,λ_ h=>h⟩
 .exact⟨rfl,a,_,_,q,λ_ h=>h⟩
theorem cut_b{fr b:Int}{g:Zv}(a:SgG g)(h:Hc fr b g=true):(cA fr g-g.1.1).natAbs<=3600000/\(cB b g-cA fr g).natAbs<=3600000/\Lo (cA fr g-g.1.1)/\Lo (cB b g-cA fr g):=by have k:=bW h;have e:=a.t1;have f:=a.t2;have j:=a.t3;unfold cA cB at *;exact⟨O,O,⟨O,O⟩,⟨O,O⟩⟩
theorem Yes(v:Value)(ps:List Zv)(Q R S:Nat)(fr a:Int)(I:∀g∈ps,SgG g)(hM:∀g∈ps,Hc fr a g=true->MdG fr a g):Yuc prog 385 [.pointer (some ⟨Q,0,none⟩),.pointer (some ⟨R,0,none⟩),.pointer (some ⟨S,0,none⟩)] [Hm Q 36 #[v],Hm R 3 #[.int .i64 fr],Hm S 3 #[.int .i64 a],Xv 6 Qv qG v ps] (α:=Zv) (G:=SL×SL×SL) (ps.filter (Hc fr a)) (λc g=>[.agg #[.int .i64 (cA fr c),.int .i64 (cB a c),.int .i64 (mdO (cO c) (cG fr a c)),Xd g.1,Xd g.2.1,Xd g.2.2],.bool (Zew fr a c)]) (λc g=>[Yl 1 Zz (Xd g.1) (mdL (cO c) (cG fr a c) (cX fr a c c.2.1.2)),Yl 1 Zz (Xd g.2.1) (mdL (cO c) (cG fr a c) (cX fr a c c.2.2.1.2)),Yl 1 Zz (Xd g.2.2) (mdL (cO c) (cG fr a c) (cX fr a c c.2.2.2.2))]):=by
 refine Ydt func385 J ntmps385 J K4 ?_;intro l M JI Jx w0 sc hw w t k F hY;simp only [Pv,Xk];have N:=Hw.mk hw;refine Xz (Oa (i:=4) J Zc) λa3=>go 8 ?_;refine lp (G:=Nat×World) [0,2,3,12,13] [1,2,3,4] (λq=>[(14,.int .i64 (q.1:Int))]) (λq=>[(0,Xu q.2 (λ_=>False))]) (λq=>(q.1<=ps.length)/\(JI ((ps.take q.1).filter (Hc fr a)).length q.2)/\(w0.heap.size<=q.2.heap.size)) (λq=>ps.length-q.1) (0,w0) ⟨O1,F,aF _⟩ K1 K1 ?_;rintro⟨i,W⟩ ⟨hi,r,D⟩;dsimp only at hi r D;dsimp only;have d2:=hw_up N D;refine go 6<|Ze J (λn=>?_) (λn=>?_)
 .refine go 5 ?_;have f:=I _ (Zd (d:=G0) (show i<ps.length by omega));have c9:=f.t1;have d0:=f.t2;have d1:=f.t3;have c2:=f.o1;have H:=f.o2;refine Zf (Qr (ps.getD i G0) ((ps.getD i G0).2.1) 4 51 J J (Zd O) O5)<|Zf (Qr (ps.getD i G0) ((ps.getD i G0).2.2.1) 4 52 J J (Zd O) O5)<|Zf (Qr (ps.getD i G0) ((ps.getD i G0).2.2.2) 4 53 J J (Zd O) O5)<|go 2 ⟨O2,?_⟩;refine dt (Yr 4 G0 J J J Zc pG O2)<|Yj (Yd 5) λbx _=>go 4 ?_;refine Qa (λ_=>False) [(0,0),(1,0),(2,0),(3,0),(4,0),(5,0),(6,0),(7,0),(8,0),(9,3)]<|go 3 ?_;refine Yz J J (Xn (Zcr J J J))<|go 3 ?_;refine Yz J J (Xn (Zp4 J J J))<|go 12 ?_;refine Ze J (λo=>?_) (λo=>?_)
  .have j:Hc fr a (ps.getD i G0)=false:=aE (by unfold cA cB;omega);refine go 8 ⟨O,?_⟩;exact Ye (i+1,W) ⟨O1,by rw [fl_f O j];exact r,D⟩ O1 K1 K1
  .have j:Hc fr a (ps.getD i G0)=true:=aH (by unfold cA cB;omega);have h:=hM _ (Zd (d:=G0) (show i<ps.length by omega)) j;obtain⟨z,B,c7,c8⟩:=cut_b f j;refine go 12 ⟨O,?_⟩;refine jn (G:=SL×SL×SL×Nat) [0,2,3,12,13,14] [0,1,2,3,4,51,52,53,5] (λq=>[(10,.pointer (some ⟨q.2.2.2,0,none⟩)),(11,.bool (Zew fr a (ps.getD i G0)))]) (λq=>[(90,Yl 1 Zz (Xd q.1) (mdL (cO (ps.getD i G0)) (cG fr a (ps.getD i G0)) (cX fr a (ps.getD i G0) (ps.getD i G0).2.1.2))),(91,Yl 1 Zz (Xd q.2.1) (mdL (cO (ps.getD i G0)) (cG fr a (ps.getD i G0)) (cX fr a (ps.getD i G0) (ps.getD i G0).2.2.1.2))),(92,Yl 1 Zz (Xd q.2.2.1) (mdL (cO (ps.getD i G0)) (cG fr a (ps.getD i G0)) (cX fr a (ps.getD i G0) (ps.getD i G0).2.2.2.2))),(93,box q.2.2.2 116 #[.int .i64 (cA fr (ps.getD i G0)),.int .i64 (cB a (ps.getD i G0)),.int .i64 (mdO (cO (ps.getD i G0)) (cG fr a (ps.getD i G0))),Xd q.1,Xd q.2.1,Xd q.2.2.1])]) (λq=>(∀p∈[Yl 1 Zz (Xd q.1) (mdL (cO (ps.getD i G0)) (cG fr a (ps.getD i G0)) (cX fr a (ps.getD i G0) (ps.getD i G0).2.1.2)),Yl 1 Zz (Xd q.2.1) (mdL (cO (ps.getD i G0)) (cG fr a (ps.getD i G0)) (cX fr a (ps.getD i G0) (ps.getD i G0).2.2.1.2)),Yl 1 Zz (Xd q.2.2.1) (mdL (cO (ps.getD i G0)) (cG fr a (ps.getD i G0)) (cX fr a (ps.getD i G0) (ps.getD i G0).2.2.2.2))],∀b,p.fp b->W.heap.size<=b)) ?_ ?_
   .refine Qw [5] [24]<|Zi 11 [(0,0),(1,0),(2,0),(3,0),(4,0),(5,0),(6,0),(7,0),(8,0),(9,0),(10,0),(12,0),(13,0),(15,0)]<|go 15 ⟨O,O,?_⟩;refine Pa 10 11 22 ?_ ?_
    .refine Na (Zo 6 [51,52,53] (Zjm ((cA fr (ps.getD i G0))-(ps.getD i G0).1.1) ((cB a (ps.getD i G0))-(cA fr (ps.getD i G0))) ((ps.getD i G0).1.2.1-(ps.getD i G0).1.1) f z B ⟨O,O⟩)) λ⟨s,d3,d4⟩ _=>?_;refine Pa 9 14 22 ?_ ?_
     .refine Na (Zo 8 [] (Ya (ps.getD i G0).1.2.2)) λ_ _=>?_;refine Pa 8 16 22 ?_ ?_
      .refine Na (Zo 8 [] (Fz ((ps.getD i G0).1.2.1-(ps.getD i G0).1.1) 5 (aB (Zcn O) O3) O3 O3)) λ_ _=>?_;refine Pa 7 17 22 ?_ ?_
       .refine Na (Zo 8 [] (Ap (ps.getD i G0).1.2.2 (((ps.getD i G0).1.2.1-(ps.getD i G0).1.1)^5) (aB (Gj ⟨O,O⟩) O3) (aB (Zjq ⟨O,O⟩) O3))) λ_ _=>?_;refine Pa 6 18 22 ?_ ?_
        .refine Na (Yem 90 [6,7,8] (Zd7 (cA fr (ps.getD i G0)) (cB a (ps.getD i G0)) (cO (ps.getD i G0)) (cX fr a (ps.getD i G0) (ps.getD i G0).2.1.2) (cX fr a (ps.getD i G0) (ps.getD i G0).2.2.1.2) (cX fr a (ps.getD i G0) (ps.getD i G0).2.2.2.2) h)) λ⟨d5,d6,d7⟩ ⟨_,e⟩=>?_;refine Zi 0 [(19,0),(20,0),(21,0),(22,1),(23,1),(24,3)]<|go 3 ?_;refine Yq (Qf 93) λV ho=>go 3<|Zu ?_;exact Od (_,_,_,_) e K2 K4
        .refine Na (Qf 93) λY H=>?_;refine Zi 0 [(18,1),(19,0),(20,0),(21,0),(23,1),(24,3)]<|Yq (Yem 90 [6,7,8] (Zd7 (cA fr (ps.getD i G0)) (cB a (ps.getD i G0)) (cO (ps.getD i G0)) (cX fr a (ps.getD i G0) (ps.getD i G0).2.1.2) (cX fr a (ps.getD i G0) (ps.getD i G0).2.2.1.2) (cX fr a (ps.getD i G0) (ps.getD i G0).2.2.2.2) h)) λ⟨d8,d9,e0⟩ ⟨_,e⟩=>go 6 ?_;exact Zu<|Od (_,_,_,_) e K2 K4
       .refine Na (Qf 93) λZ c3=>?_;refine Zi 0 [(17,1),(18,1),(19,0),(20,0),(21,0),(23,1),(24,3)]<|Yq (Zo 8 [] (Ap (ps.getD i G0).1.2.2 (((ps.getD i G0).1.2.1-(ps.getD i G0).1.1)^5) (aB (Gj ⟨O,O⟩) O3) (aB (Zjq ⟨O,O⟩) O3))) λ_ _=>Yq (Yem 90 [6,7,8] (Zd7 (cA fr (ps.getD i G0)) (cB a (ps.getD i G0)) (cO (ps.getD i G0)) (cX fr a (ps.getD i G0) (ps.getD i G0).2.1.2) (cX fr a (ps.getD i G0) (ps.getD i G0).2.2.1.2) (cX fr a (ps.getD i G0) (ps.getD i G0).2.2.2.2) h)) λ⟨a4,a5,a6⟩ ⟨_,e⟩=>go 6 ?_;exact Zu<|Od (_,_,_,_) e K2 K4
      .refine Na (Qf 93) λa0 c4=>?_;refine Zi 0 [(16,1),(17,1),(18,1),(19,0),(20,0),(21,0),(23,1),(24,3)]<|Yq (Zo 8 [] (Fz ((ps.getD i G0).1.2.1-(ps.getD i G0).1.1) 5 (aB (Zcn O) O3) O3 O3)) λ_ _=>Yq (Zo 8 [] (Ap (ps.getD i G0).1.2.2 (((ps.getD i G0).1.2.1-(ps.getD i G0).1.1)^5) (aB (Gj ⟨O,O⟩) O3) (aB (Zjq ⟨O,O⟩) O3))) λ_ _=>Yq (Yem 90 [6,7,8] (Zd7 (cA fr (ps.getD i G0)) (cB a (ps.getD i G0)) (cO (ps.getD i G0)) (cX fr a (ps.getD i G0) (ps.getD i G0).2.1.2) (cX fr a (ps.getD i G0) (ps.getD i G0).2.2.1.2) (cX fr a (ps.getD i G0) (ps.getD i G0).2.2.2.2) h)) λ⟨a7,a8,a9⟩ ⟨_,e⟩=>go 6 ?_;exact Zu<|Od (_,_,_,_) e K2 K4
     .refine Na (Qf 93) λa1 c5=>?_;refine Zi 0 [(14,1),(16,1),(17,1),(18,1),(19,0),(20,0),(21,0),(23,1),(24,3)]<|Yq (Zo 8 [] (Ya (ps.getD i G0).1.2.2)) λ_ _=>Yq (Zo 8 [] (Fz ((ps.getD i G0).1.2.1-(ps.getD i G0).1.1) 5 (aB (Zcn O) O3) O3 O3)) λ_ _=>Yq (Zo 8 [] (Ap (ps.getD i G0).1.2.2 (((ps.getD i G0).1.2.1-(ps.getD i G0).1.1)^5) (aB (Gj ⟨O,O⟩) O3) (aB (Zjq ⟨O,O⟩) O3))) λ_ _=>Yq (Yem 90 [6,7,8] (Zd7 (cA fr (ps.getD i G0)) (cB a (ps.getD i G0)) (cO (ps.getD i G0)) (cX fr a (ps.getD i G0) (ps.getD i G0).2.1.2) (cX fr a (ps.getD i G0) (ps.getD i G0).2.2.1.2) (cX fr a (ps.getD i G0) (ps.getD i G0).2.2.2.2) h)) λ⟨b0,b4,b5⟩ ⟨_,e⟩=>go 6 ?_;exact Zu<|Od (_,_,_,_) e K2 K4
    .refine Na (Qf 93) λa2 c6=>?_;refine Zi 0 [(11,1),(14,1),(16,1),(17,1),(18,1),(19,0),(20,0),(21,0),(23,1),(24,3)]<|Yq (Zo 9 [51,52,53] (Zjm ((cA fr (ps.getD i G0))-(ps.getD i G0).1.1) ((cB a (ps.getD i G0))-(cA fr (ps.getD i G0))) ((ps.getD i G0).1.2.1-(ps.getD i G0).1.1) f z B ⟨O,O⟩)) λ⟨b6,b7,b8⟩ _=>Yq (Zo 11 [] (Ya (ps.getD i G0).1.2.2)) λ_ _=>Yq (Zo 11 [] (Fz ((ps.getD i G0).1.2.1-(ps.getD i G0).1.1) 5 (aB (Zcn O) O3) O3 O3)) λ_ _=>Yq (Zo 11 [] (Ap (ps.getD i G0).1.2.2 (((ps.getD i G0).1.2.1-(ps.getD i G0).1.1)^5) (aB (Gj ⟨O,O⟩) O3) (aB (Zjq ⟨O,O⟩) O3))) λ_ _=>Yq (Yem 90 [9,10,11] (Zd7 (cA fr (ps.getD i G0)) (cB a (ps.getD i G0)) (cO (ps.getD i G0)) (cX fr a (ps.getD i G0) (ps.getD i G0).2.1.2) (cX fr a (ps.getD i G0) (ps.getD i G0).2.2.1.2) (cX fr a (ps.getD i G0) (ps.getD i G0).2.2.2.2) h)) λ⟨b9,c0,c1⟩ ⟨_,e⟩=>go 6 ?_;exact Zu<|Od (_,_,_,_) e K2 K4
   .rintro⟨s1,s2,s3,bj⟩ e;dsimp only at e;dsimp only;refine go 1<|Yms ?_;refine Kq (Zdm J J) J<|Kq (d_lbw (i:=93) J J J isAgg116 Ow J) J<|Kq (Zdm J J) J<|Ylo [_,_,_,_] (vs:=[_,_]) (ps.getD i G0) (s1,s2,s3) hY (Zsc O j) r D w J J J J J K2 J J (Ynf e 90 J J J) K4 K4 (λP m u=>?_) (λP m u=>?_)
    .simp only [Xk];refine Kq (dF (Qn J J) J) J<|Za3<|go 9 ⟨O,?_⟩;exact Ye (i+1,P) ⟨O1,by rw [fl_t O j];exact m,u⟩ O1 K1 K1
    .simp only [Xk];refine Kq (dT (Qn J J) J) J<|Za3<|go 7 ?_;exact Zfe (.inl J) J J t k (.inr m)
 .obtain rfl:i=ps.length:=O;rw [bS]at r;exact go 4<|Zfe (.inr J) J J t k (.inl r)
open Go.RowKit Below
variable {P:Program} {N:Nat} {sc:Nat->Prop} {env env':Px} {H H':Hp} {Q Q':Exit->Act->World->Prop} {l:Nat}
def ER(P:Program)(N:Nat)(sc:Nat->Prop)(l:Nat)(c:Code)(Q:Exit->Act->World->Prop)(env:Px)(H:Hp):Prop:=
 ∀a w,Sat N sc env H a w->c.wpIn (Fence.wide.inRound l) 0 P Q a w
def ndB(o:Oper):Bool:=match o.op with
 | .defer _=>false
 | _=>true
theorem Zpp(h:ops.all ndB=true):Zrp ops:=λo b c a=>by have:=bK.1 h o b;unfold ndB at this;rw [a]at this;cases this
def Zso(b:ops.all ndB=true)(h:L P N sc ops.toArray ops (Cw (Exit.then (λa w=>y.wpIn (Fence.wide.inRound l) 0 P Q a w) Q)) env H):ER P N sc l (.seq (.region id ops.toArray false) y) Q env H:=
 λa w hs=>wpIn_seq (Yjc (Zpp b) h hs)
def Ycr(b:ops.all ndB=true)(h:L P N sc ops.toArray ops (Cw Q) env H):ER P N sc l (.region id ops.toArray false) Q env H:=
 λa w hs=>Yjc (Zpp b) h hs
def Yo0(h:ER P N sc l y Q env H):X N sc .normal (Cw (Exit.then (λa w=>y.wpIn (Fence.wide.inRound l) 0 P Q a w) Q)) env H:=λa w hs=>h a w hs
def Yo1(h:∀a w,Sat N sc env H a w->Q .normal a w):X N sc .normal (Cw Q) env H:=λa w hs=>h a w hs
def er_seq(h:ER P N sc l x (Exit.then (λa w=>y.wpIn (Fence.wide.inRound l) 0 P Q a w) Q) env H):ER P N sc l (.seq x y) Q env H:=λa w hs=>wpIn_seq (h a w hs)
def Zwj(h:ER P N sc l c (Exit.inBlock id Q) env H):ER P N sc l (.block id c) Q env H:=λa w hs=>wpIn_block (h a w hs)
theorem Ymp{c:Operand}{b:Bool}(e:ev env c=some (.bool b))(g:b=true->ER P N sc l x Q env H)(f:b=false->ER P N sc l y Q env H):ER P N sc l (.cond c x y) Q env H:=λa w hs=>by
 cases b with
 | true=>exact wpIn_cond_true (hs.ev e) (g rfl a w hs)
 | false=>exact wpIn_cond_false (hs.ev e) (f rfl a w hs)
def Ycq(h:∀a w,Sat N sc env H a w->Q .normal a w):ER P N sc l .skip Q env H:=λa w hs=>wpIn_skip (h a w hs)
def Ymn(h:∀a w,Sat N sc env H a w->Q .ret a w):ER P N sc l .ret Q env H:=λa w hs=>wpIn_ret (h a w hs)
def Ymo(b:∀a w,Sat N sc env H a w->Sat N sc env' H' a w)(h:ER P N sc l c Q env' H'):ER P N sc l c Q env H:=λa w hs=>h a w (b a w hs)
theorem Kv{β:Type}(i k:Nat)(enc:β->Value)(q:β->Pc):∀a w,Sat N sc env H a w->Sat N sc env ((i,Xv k enc q (.slice none 0 0) [])::H) a w:=λa w hs=>
 hs.add i _ ⟨Gr k enc w,λz f=>by cases f⟩ (λh j _ _ Ej b e g=>by
  rcases e with e|⟨z,f,_⟩
  .exact absurd rfl e.1
  .cases f) (λb e=>by
  rcases e with e|⟨z,f,_⟩
  .exact absurd rfl e.1
  .cases f)
theorem Yl9{a:Hp}{g:Zv}(i j:Nat)(h:lk a i=some (Nw qG zs))(k:lk a j=some (Yl 1 Zz (Xd g.2.1.1) g.2.1.2))(m:lk a (j+1)=some (Yl 1 Zz (Xd g.2.2.1.1) g.2.2.1.2))(n:lk a (j+2)=some (Yl 1 Zz (Xd g.2.2.2.1) g.2.2.2.2)) :
  ∀b,(Nw qG (zs ++ [g])).fp b->∃j q,lk a j=some q/\q.fp b:=λb ⟨z,o,e⟩=>by
 rcases cW.1 o with q|q
 .exact⟨i,_,h,z,q,e⟩
 .rw [cF.1 q]at e;obtain⟨c,f,e⟩:=e;simp only [bI,dA,fL]at f;rcases f with rfl|rfl|rfl
  .exact⟨j,_,k,e⟩
  .exact⟨j+1,_,m,e⟩
  .exact⟨j+2,_,n,e⟩
end Go.Sky
namespace Go.Sky
variable{zs:List Zv}{x y:Operand}{v:Value}{r:List Value}{xs:List Int}{b c off:Nat}{w0 w:World}{M0:Nat->Prop}{a:Act}{o:Oper}{t tb:TypeId}{kd:IntKind}{m:Int}
theorem Zsj{k l n p q s d e f g h j:Value}:Instr.fill (λi=>some (i*6,6)) ((List.range (1*6)).map ((Value.agg #[k,l,n,p,q,s]).cells[· % (Value.agg #[k,l,n,p,q,s]).cells.size]!)).toArray [(0,.agg #[d,e,f,g,h,j])]=some #[d,e,f,g,h,j]:=by
 simp [Instr.fill,Value.cells,List.range,List.range.loop]
 try rfl
def Oq(fr d:Int)(ps:List Zv):Bool:=(ps.filter (Hc fr d)).all (Zew fr d)
def Zdp(fr d:Int)(ps:List Zv):List Zco:=if Oq fr d ps=true then(ps.filter (Hc fr d)).map (Zw2 fr d)else []
def Zw3(fr d:Int)(ps:List Zv):Int:=if Oq fr d ps=true then 0 else 7
def Zxz(fr d:Int)(x:Zv)(g:SL×SL×SL):Zv:=((cA fr x,cB d x,mdO (cO x) (cG fr d x)),(g.1,mdL (cO x) (cG fr d x) (cX fr d x x.2.1.2)),(g.2.1,mdL (cO x) (cG fr d x) (cX fr d x x.2.2.1.2)),(g.2.2,mdL (cO x) (cG fr d x) (cX fr d x x.2.2.2.2)))
def Zsv(fr d:Int)(ps:List Zv)(k:Nat)(zs:List Zv):Prop:=zs.map Ia=((ps.filter (Hc fr d)).take k).map (Zw2 fr d)/\((ps.filter (Hc fr d)).take k).all (Zew fr d)=true
theorem Zlp{α:Type}{xs:List α}{k:Nat}{x:α}(h:xs[k]? = some x):xs.take (k+1)=xs.take k ++ [x]:=by rw [List.take_add_one,h];rfl
theorem Ynk(fr d:Int)(ps:List Zv):Zsv fr d ps 0 []:=⟨by rw [dZ];rfl,by rw [dZ];rfl⟩
theorem cutI_s{fr d:Int}{ps:List Zv}{k:Nat}{x:Zv}{g:SL×SL×SL}(h:Zsv fr d ps k zs)(e:(ps.filter (Hc fr d))[k]? = some x)(j:Zew fr d x=true):Zsv fr d ps (k+1) (zs ++ [Zxz fr d x g]):=by
 obtain⟨f,i⟩:=h;refine⟨?_,?_⟩
 .rw [Zlp e,cI,cI,f];rfl
 .rw [Zlp e,kU,i];simp [j]
theorem Yni{fr d:Int}{ps:List Zv}{k:Nat}(h:Zsv fr d ps k zs)(e:k<=ps.length):zs.length<=ps.length:=by have:=aD List.length h.1;rw [aW,aW,cQ]at this;have:=kY (Hc fr d) ps;omega
theorem Zzh{fr d:Int}{ps:List Zv}{k:Nat}{x:Zv}(f:(ps.filter (Hc fr d))[k]? = some x)(e:Zew fr d x=false):Oq fr d ps=false:=by
 unfold Oq;cases hb:(ps.filter (Hc fr d)).all (Zew fr d)with
 | false=>rfl
 | true=>
  have:=bK.1 hb x (jD f);rw [e]at this;cases this
theorem Ynj{fr d:Int}{ps:List Zv}(h:Zsv fr d ps (ps.filter (Hc fr d)).length zs):zs.map Ia=Zdp fr d ps/\Zw3 fr d ps=0:=by obtain⟨f,e⟩:=h;rw [bS]at f e;exact⟨by unfold Zdp Oq;rw [aP e];exact f,by unfold Zw3 Oq;rw [aP e]⟩
theorem Yng{fr d:Int}{ps:List Zv}(h:Oq fr d ps=false):([]:List Zv).map Ia=Zdp fr d ps/\Zw3 fr d ps=7:=by unfold Zdp Zw3;rw [aJ (by rw [h];exact dU),aJ (by rw [h];exact dU)];exact⟨rfl,rfl⟩
def spF(ps:List Zv):Int:=(ps.getD 0 G0).1.1
def spL(ps:List Zv):Int:=(ps.getD (ps.length-1) G0).1.2.1
open Go.Proofs.Tryz
open Go.Proofs
set_option synthInstance.maxHeartbeats 0
set_option synthInstance.maxSize 100000
set_option maxRecDepth 20000
set_option linter.unusedSimpArgs false
theorem Yh2{ps:List Zv}{fr i:Int}:Cal prog 354 #[v,.int .i64 fr,.int .i64 i] [Xv 6 Qv qG v ps] true (G:=Nat×Nat×Nat) (λg=>True) (λg=> .func (.func 385) #[] #[.pointer (some ⟨g.1,0,none⟩),.pointer (some ⟨g.2.1,0,none⟩),.pointer (some ⟨g.2.2,0,none⟩)]) (λg=>[Hm g.1 36 #[v],Hm g.2.1 3 #[.int .i64 fr],Hm g.2.2 3 #[.int .i64 i]]):=by refine Zg func354 ntmps354 λw0 l k d=>?_;refine Zcw (Xj 1 J Zc) (λn e=>?_);subst e;refine go 2<|Yj (Yg 2) λj _=>Yj (Yg 3) λf _=>Yj (Yg 4) λh _=>go 5 ?_;refine dt (Yc2 [] [_,_,_] J aA K3)<|go 4 ?_;exact Zn (Zij 2 J J)<|Zn (Zij 3 J J)<|Zn (Zij 4 J J)<|Yp d (_,_,_) results354 J aA (Pb 2 (Pb 3 (Pb 4 Za)))
@[reducible,instance] def encGI:EncT prog 116 6 Qv:=⟨pG⟩
theorem Yh4{ps:List Zv}{fr d:Int}(V:∀g∈ps,SgG g)(hM:∀g∈ps,Hc fr d g=true->MdG fr d g)(a0:ps.length<=256):Cal prog 300 #[v,.int .i64 fr,.int .i64 d] [Xv 6 Qv qG v ps] true (G:=Value×List Zv) (λg=>g.2.map Ia=Zdp fr d ps) (λg=> .tuple #[g.1,.int .i64 (Zw3 fr d ps)]) (λg=>[Xv 6 Qv qG g.1 g.2]):=by
 refine Ydu func300 J ntmps300 J K1 ?_;intro w0 sc M I;have M:=Hw.mk M;simp only [Pv,Xk];refine go 2<|Yj (Yd 2) λu _=>Yj (Yd 3) λe _=>go 8 ?_;refine cl 4 [1] Yh2 λ⟨b,F,H⟩ _=>go 3<|Zf (Qp 70 6 116 Qv)<|Zf (Yh qG 73) ?_;refine e_rfi ([Hm b 36 #[v],Hm F 3 #[.int .i64 fr],Hm H 3 #[.int .i64 d],Xv 6 Qv qG v ps]) w0 (λ(_:Nat) (n:Value×List Zv)=>[(0,Xu w0 (λ_=>False)),(1,Xv 6 Qv qG v ps),(2,box u 36 #[n.1]),(3,box e 28 #[.int .i64 0]),(70,Oe 6 116 Qv n.1 n.2),(73,Nw qG n.2)]) (λk n=>Zsv fr d ps k n.2) (λ(_:Unit)=>[(0,Xu w0 (λ_=>False)),(2,box u 36 #[.slice none 0 0]),(3,box e 28 #[.int .i64 7])]) (λ_=>Oq fr d ps=false) (.slice none 0 0,[]) J (by intro s w;first|exact enters_of func385 O6 rfl s w|exact call385 s w) (Yes v ps b F H fr d V hM) ?_ (λ_ _=>J) J M.h J (Ynk fr d ps) K6 (λ_ _=>⟨J,J⟩) (λ_=>⟨J,J⟩) (λk x f n W j l Mf Wa=>?_) J (λn j D od=>?_) (λ_ N=>?_)
 .intro p Z;simp only [bI,dA,fL]at Z;rcases Z with rfl|rfl|rfl|rfl
  .exact⟨J,4,J⟩
  .exact⟨J,5,J⟩
  .exact⟨J,6,J⟩
  .exact⟨J,1,J⟩
 .obtain⟨B,zs⟩:=n;have S:k<=ps.length:=aB (dC (jR.1 W).1) (kY _ _);have a1:zs.length<=ps.length:=Yni j S;refine Ymo (env':=[(15,.bool (Zew fr d x)),(14,.agg #[.int .i64 (cA fr x),.int .i64 (cB d x),.int .i64 (mdO (cO x) (cG fr d x)),Xd f.1,Xd f.2.1,Xd f.2.2]),(6,.pointer (some ⟨u,0,none⟩)),(7,.pointer (some ⟨e,0,none⟩))]) (H':=[(92,Xu Wa Mf),(100,Yl 1 Zz (Xd f.1) (mdL (cO x) (cG fr d x) (cX fr d x x.2.1.2))),(101,Yl 1 Zz (Xd f.2.1) (mdL (cO x) (cG fr d x) (cX fr d x x.2.2.1.2))),(102,Yl 1 Zz (Xd f.2.2) (mdL (cO x) (cG fr d x) (cX fr d x x.2.2.2.2))),(0,Xu w0 (λ_=>False)),(1,Xv 6 Qv qG v ps),(2,box u 36 #[B]),(3,box e 28 #[.int .i64 0]),(70,Oe 6 116 Qv B zs),(73,Nw qG zs)]) (λa w hs=>hs.weaken ⟨J,J,J,J,aA⟩ ⟨J,J,J,J,J,J,J,J,J,J,aA⟩)<|Zso J<|Yj (Yd 8) λY _=>go 1 ?_;refine go 1 ?_;refine Yo0<|Ycr J<|go 1 ?_;refine go 1 ?_;refine Yo1 λa w hs=>⟨J,[(8,.pointer (some ⟨Y,0,none⟩)),(9,.bool (Zew fr d x)),(6,.pointer (some ⟨u,0,none⟩)),(7,.pointer (some ⟨e,0,none⟩))],[(8,box Y 116 #[.int .i64 (cA fr x),.int .i64 (cB d x),.int .i64 (mdO (cO x) (cG fr d x)),Xd f.1,Xd f.2.1,Xd f.2.2]),(100,Yl 1 Zz (Xd f.1) (mdL (cO x) (cG fr d x) (cX fr d x x.2.1.2))),(101,Yl 1 Zz (Xd f.2.1) (mdL (cO x) (cG fr d x) (cX fr d x x.2.2.1.2))),(102,Yl 1 Zz (Xd f.2.2) (mdL (cO x) (cG fr d x) (cX fr d x x.2.2.2.2))),(0,Xu w0 (λ_=>False)),(1,Xv 6 Qv qG v ps),(2,box u 36 #[B]),(3,box e 28 #[.int .i64 0]),(70,Oe 6 116 Qv B zs),(73,Nw qG zs)],J,(λq h=>by cases h;rfl),⟨.inl J,.inr (λb i=>⟨100,_,J,i⟩),.inr (λb i=>⟨101,_,J,i⟩),.inr (λb i=>⟨102,_,J,i⟩),.inr (λb i=>⟨0,_,J,i⟩),.inr (λb i=>⟨1,_,J,i⟩),.inl J,.inl J,.inl J,.inr (λb i=>⟨73,_,J,i⟩),aA⟩,hs.weaken ⟨J,J,J,J,aA⟩ ⟨J,J,J,J,J,J,J,J,J,J,J,aA⟩,λWb _=>?_⟩;refine Zwj<|er_seq<|Zso J<|go 2 ?_;refine go 1 ?_;refine Yo0<|Ymp J (λR=>?_) (λR=>?_)
  .refine Zso J<|go 2 ?_;refine go 1 ?_;exact Yo0<|Ymn λa w hs=>Or.inr ⟨J,(),Zzh W (Fa R),⟨.inr (λb i=>⟨0,_,J,i⟩),.inl J,.inl J,aA⟩,[],hs.weaken aA ⟨J,J,J,J,aA⟩⟩
  .refine Ycq<|Ycr J<|go 2 ?_;refine tt (Xc [(0,_)] 12 (enc:=Qv) [(Zxz fr d x f)] J J K2 Ny ti116 J J Zsj J J pG.cells J J M.h) J (λv2 _=>?_);refine tt (Pk 70 12 96 J J J J J J O3 J (Yb pG) Ny ti116 J pG J J J O8 O3 J M.h) J λv3 _=>go 2 ?_;exact Zn (Yh qC 71)<|Zn (Zm (q:=qC) (z:=(Zxz fr d x f).2.1) 71 100 71 J J J J J)<|Zn (Zm (q:=qC) (z:=(Zxz fr d x f).2.2.1) 71 101 71 J J J J J)<|Zn (Zm (q:=qC) (z:=(Zxz fr d x f).2.2.2) 71 102 71 J J J J J)<|Zn (Zm (q:=qG) (z:=(Zxz fr d x f)) 73 71 73 J J J J J)<|Yo1 λa w hs=>Or.inl ⟨J,(v3,zs ++ [(Zxz fr d x f)]),cutI_s j W (Ks R),⟨.inr (λb i=>⟨0,_,J,i⟩),.inr (λb i=>⟨1,_,J,i⟩),.inl J,.inl J,.inl J,.inr (Yl9 73 100 J J J J),aA⟩,[],hs.weaken aA ⟨J,J,J,J,J,J,J,aA⟩⟩
 .obtain⟨B,zs⟩:=n;obtain⟨P,Q⟩:=Ynj j;refine go 3 ?_;refine go 1 ?_;refine Yo1 λa w hs=>⟨J,[(6,.pointer (some ⟨u,0,none⟩)),(7,.pointer (some ⟨e,0,none⟩))],[(0,Xu w0 (λ_=>False)),(1,Xv 6 Qv qG v ps),(2,box u 36 #[B]),(3,box e 28 #[.int .i64 0]),(70,Oe 6 116 Qv B zs),(73,Nw qG zs)],J,⟨⟨_,J,J,λ_ h=>h⟩,⟨_,J,J,λ_ h=>h⟩,⟨_,J,J,λ_ h=>h⟩,⟨_,J,J,λ_ h=>h⟩,⟨_,J,J,λ_ h=>h⟩,⟨_,J,J,λ_ h=>h⟩,aA⟩,hs.weaken ⟨J,J,aA⟩ ⟨J,J,J,J,J,J,J,aA⟩,?_⟩;exact Zn (Xa 70 J J pG)<|Zn (Xe 70 73 72 J J J J)<|Nd I (B,zs) results300 (by rw [Q]) P (Pb 72 Za)
 .exact Zn (Kv 72 6 Qv qG)<|Nd I (.slice none 0 0,[]) results300 (by rw [(Yng N).2]) (Yng N).1 (Pb 72 Za)
open Go.RowKit Below
variable {P:Program} {N:Nat} {sc:Nat->Prop} {env env':Px} {H H':Hp} {Q Q':Exit->Act->World->Prop} {M:Nat->Prop}
def wcr(l:List Int)(r:List Value):Array Value:=(l.map (Value.int .i64) ++ r).toArray
theorem Zlf(l:List Int)(r:List Value):(wcr l r).size=l.length+r.length:=by simp [wcr]
theorem Ypa{l:List Int}{j:Nat}(h:j<l.length):(wcr l r)[j]? = some (.int .i64 (l.getD j 0)):=by simp [wcr,eD,h,aK]
theorem Yo9{l:List Int}{j:Nat}{v:Int}(h:j<l.length):Fj (wcr l r) j [.int .i64 v]=wcr (l.set j v) r:=by unfold Fj wcr;congr 1;rw [List.set_eq_take_append_cons_drop,aP h,cI,bQ,jB,List.map_drop];grind
theorem Zzq(l:List Int):cellsOf Zz l=l.map (Value.int .i64):=by
 induction l with
 | nil=>rfl
 | cons x l d=>rw [show cellsOf _ _=(Zz x).cells.toList ++ cellsOf _ l from rfl,d];rfl
theorem f_obox{e:TypeId}(i:Nat)(hi:lk H i=some (Oe 1 e Zz v xs))(u:xs≠[]):∀a w,Sat N sc env H a w->∃y:Nat×Nat×List Value,
  v= .slice (some ⟨y.1,0,none⟩) xs.length y.2.1/\xs.length+y.2.2.length=y.2.1/\y.2.1<=maxLen/\w.heap[y.1]? = some (.cells (wcr xs y.2.2) e (0,0)):=λa w hs=>by
 have f:=hs.hold i _ hi;rcases f.2 with⟨rfl,s⟩|⟨g,h,d,rfl,p,q,n,j,l,k⟩
 .grind
 .refine⟨(g,h,d.toList.drop xs.length),rfl,?_,j,?_⟩
  .grind
  .rw [show wcr xs _=d by unfold wcr;grind [Zzq,List.take_append_drop]]
   omega
theorem s_obox {e:TypeId}      (i:Nat) (hi:lk H i=some (Oe 1 e Zz (.slice (some ⟨b,0,none⟩) xs.length c) xs)) (g:Nat.beq i 0=false) (d:lk H 0=some (Xu w0 M0)) (j:∀b,w0.heap.size<=b->sc b)
    (hs:Sat N sc env H a w) (f:w.heap[b]? = some (.cells (wcr xs r) e (0,0))):Sat N sc env ((i,box b e (wcr xs r))::H) a w:=
 hs.upd hi rfl (λe=>O10) (Chg.refl _ w) f (λk h=> .inl (by show some b=some k;rw [show k=b from h])) d j
theorem e_obox {f:Code} {e:TypeId}     (i:Nat) (hi:lk H i=some (Oe 1 e Zz v xs)) (d:Nat.beq i 0=false) (q:xs≠[]) (g:lk H 0=some (Xu w0 M0)) (p:∀b,w0.heap.size<=b->sc b)
  (h:∀(b c:Nat) (r:List Value),v= .slice (some ⟨b,0,none⟩) xs.length c->xs.length+r.length=c->c<=maxLen->E P N sc f Q env ((i,box b e (wcr xs r))::H)):E P N sc f Q env H:=λa w hs=>by
 obtain⟨⟨b,c,r⟩,n,j,k,l⟩:=f_obox i hi q a w hs;subst n;exact h b c r rfl j k a w (s_obox i hi d g p hs l)
theorem Yp7{e:TypeId}(i:Nat)(hi:lk H i=some (box b e (wcr xs r)))(g:Nat.beq i 0=false)(n:xs.length+r.length=c)(j:c<=maxLen)(d:lk H 0=some (Xu w0 M0))(l:∀b,w0.heap.size<=b->sc b) :
  ∀a w,Sat N sc env H a w->Sat N sc env ((i,Oe 1 e Zz (.slice (some ⟨b,0,none⟩) xs.length c) xs)::H) a w:=λa w hs=>by
 have f:=hs.hold i _ hi;refine hs.upd hi rfl (λe=>O10) (Chg.refl _ w) ?_ (λk h=> .inl (by cases h;rfl)) d l;refine⟨by rw [Zzq,aW,jV],.inr ⟨b,c,_,rfl,aX _,f,O,j,by simp_all [Zlf,jV],?_⟩⟩;rw [Zzq];show((xs.map _) ++ r).take _=_;simp
theorem Zat (i:Nat)   {e:TypeId} {n:Nat}   (h:o.op= .indexAddr t x y) (k:ev env x=some (.slice (some ⟨b,off,none⟩) n c)) (l:ev env y=some (.int kd m))
  (j:P.underlying t=some (.slice e)) (g:∀w,(sizeOf e).run P w= .ok 1 w) (d:m=(i:Int)) (f:i<n):Mr P N sc o env H (.pointer (some ⟨b,off+i,none⟩)):=λa w hs=>by
 subst d;simp [execOp,h,hs.ev k,hs.ev l,Instr.indexAt,asIntOf,run_underlying j,g,f,Ol]
theorem Zst   {e:TypeId} {d:Option Addr} {n:Nat} (f:o.op= .call { callee:= .builtin .len,args:=#[x],argTypes:=#[t] })
  (h:ev env x=some (.slice d n c)) (g:P.underlying t=some (.slice e)):Mr P N sc o env H (.int .i64 (n:Int)):=λa w hs=>by
 simp [execOp,f,resolve,hs.ev h,invoke,builtin,Builtin.len_,run_underlying g,goInt]
def Zdn (i:Nat){j:Nat}{l:List Int}(f:o.op= .load t x)(h:ev env x=some (.pointer (some ⟨b,j,none⟩)))(d:lk H i=some (box b tb (wcr l r)))(g:∀w,(isAgg t).run P w= .ok false w)(e:j<l.length) :
  Mr P N sc o env H (.int .i64 (l.getD j 0)):=Yge _ f h d g (Ypa e)
theorem Zt1 (i:Nat)    {j:Nat} {l:List Int}  {v:Int}   (p:o.op= .store t x y) (h:o.dst=none)
  (z:ev env x=some (.pointer (some ⟨b,j,none⟩))) (B:ev env y=some (.int .i64 v)) (f:lk H i=some (box b tb (wcr l r))) (d:i≠0) (n:∀w,(sizeOf t).run P w= .ok 1 w) (k:j<l.length)
  (e:lk H 0=some (Xu w0 M0)) (s:∀b,w0.heap.size<=b->sc b) (g:M b) :
  T P N sc M o env H (G:=Unit) (λ_=>True) (λ_=>env) (λ_=>(i,box b tb (wcr (l.set j v) r))::H):=by
 rw [<-Yo9 k];exact Zji p h z B f d rfl n rfl (by grind [Zlf]) (λu q=>Zk (by rw [List.mem_singleton.1 q];rfl)) rfl e s g
theorem Ym4 (i:Nat)   {e:TypeId} {n:Nat}   (l:o.op= .slice t x (some y) none none) (q:ev env x=some (.slice (some ⟨b,off,none⟩) n c)) (s:ev env y=some (.int kd m))
  (p:P.underlying t=some (.slice e)) (h:∀w,(sizeOf e).run P w= .ok 1 w) (d:m=(i:Int)) (j:i<n) (k:n<=c):Mr P N sc o env H (.slice (some ⟨b,off+i,none⟩) (n-i) (c-i)):=λa w hs=>by
 subst d;have f:i<=n:=O;have g:=O;simp [execOp,l,hs.ev q,hs.ev s,Instr.sliceAt,Instr.slice,Instr.sliceBounds,Instr.sliceBound,asIntOf,run_underlying p,h,f,g,k,Ol];omega
theorem d_prew   {e:TypeId} {n i:Nat}   (j:o.op= .slice t x none (some y) none) (l:ev env x=some (.slice (some ⟨b,0,none⟩) n c)) (p:ev env y=some (.int kd m))
  (k:P.underlying t=some (.slice e)) (h:∀w,(sizeOf e).run P w= .ok 1 w) (d:m=(i:Int)) (f:i<=n) (q:n<=c):Mr P N sc o env H (.slice (some ⟨b,0,none⟩) i c):=λa w hs=>by
 subst d;have g:i<=c:=O;simp [execOp,j,hs.ev l,hs.ev p,Instr.sliceAt,Instr.slice,Instr.sliceBounds,Instr.sliceBound,asIntOf,run_underlying k,h,f,g,Ol]
theorem t_clw   {p:TypeId} {i d n D:Nat} {l:List Int}   
  (W:o.op= .call { callee:= .builtin .clear,args:=#[x],argTypes:=#[t] }) (S:o.dst=none)
  (hx:ev env x=some (.slice (some ⟨b,d,none⟩) n D))  (s:lk H i=some (box b tb (wcr l r))) (g:i≠0)
  (hn:0<n) (V:d+n=l.length) (Y:P.underlying t=some (.slice p)) (B:∀w,(sizeOf p).run P w= .ok 1 w)
  (hz:∀w,(zeroValue p).run P w= .ok (.int .i64 0) w)
  (F:lk H 0=some (Xu w0 M0)) (hw:∀b,w0.heap.size<=b->sc b) (R:M b) :
  T P N sc M o env H (G:=Unit) (λ_=>True) (λ_=>env) (λ_=>(i,box b tb (wcr (l.take d) (List.replicate n (Value.int .i64 0) ++ r)))::H):=λa w hs K Q I=>by
 have z:=hs.hold i _ s;have j:(Builtin.zeroCells (Value.int .i64 0).cells n).toList=List.replicate n (Value.int .i64 0):=by
  apply iG
  .simp [Builtin.zeroCells,Value.cells]
  .intro i h2 h3;simp [Builtin.zeroCells,Value.cells,lB]
 have e:=run_storeCells_at P b d tb (List.replicate n (Value.int .i64 0)) 0 (wcr l r) w z (by grind [Zlf,List.length_replicate]) (λu Z=>by rw [List.eq_of_mem_replicate Z];rfl);simp only [eJ,aU]at e;have f:((wcr l r).toList.take d ++ List.replicate n (Value.int .i64 0) ++ (wcr l r).toList.drop (d+n)).toArray=wcr (l.take d) (List.replicate n (Value.int .i64 0) ++ r):=by unfold wcr;grind
 rw [f]at e;obtain⟨m,rfl⟩:∃m,n=m+1:=⟨n-1,O⟩;have h:(execOp a.eval o).run P w= .ok (.value (.tuple #[])) (w.setRow b (wcr (l.take d) (List.replicate (m+1) (Value.int .i64 0) ++ r))):=by simp only [execOp,W,resolve,invoke,builtin];simp [hs.ev hx,Builtin.clear_,run_underlying Y,hz,j,e]
 unfold Oper.wp;rw [h];show K (a.put o.dst _) _;rw [S];exact I () _ _ aA ((hs.upd s rfl g (q:=box b tb (wcr (l.take d) _)) (Gb (M:=λk=>k=b) rfl) (setRow_heap w b _ _ tb _ z) (λk B=> .inl B) F hw).put_none _) (Gb R)
theorem res0{fn:Func}(hs:Sat N sc env H a w)(d:fn.results=#[]):(results fn a.tmps).run P w= .ok (.tuple #[]) w:=by simp [results,d]
end Go.Sky
namespace Go.Sky
variable{i m:Nat}{x b a d ov G:Int}{xs p c q:List Int}{r:List Value}
def Srt(l:List Int)(n:Nat):Prop:=∀p q,p<q->q<n->l.getD p 0<=l.getD q 0
def Sst(l:List Int)(n:Nat):Prop:=∀p q,p<q->q<n->l.getD p 0<l.getD q 0
def You(l:List Int)(i j:Nat):Prop:=∀p q,p<q->q<=i->q≠j->l.getD p 0<=l.getD q 0
def Sam(l m:List Int):Prop:=m.length=l.length/\∀x,x∈m↔x∈l
def Sam.rfl'(l:List Int):Sam l l:=⟨rfl,λ_=>Iff.rfl⟩
def Zkz{l:List Int}{j:Nat}{v:Int}(hi:i<l.length):(l.set i v).getD j 0=if j=i then v else l.getD j 0:=Zi3 hi
def swp(l:List Int)(j:Nat):List Int:=(l.set j (l.getD (j-1) 0)).set (j-1) (l.getD j 0)
theorem Yb5(l:List Int)(j:Nat):(swp l j).length=l.length:=by simp [swp]
theorem Zbk{l:List Int}{j:Nat}(f:j<l.length)(e:1<=j)(k:Nat):(swp l j).getD k 0=if k=j-1 then l.getD j 0 else if k=j then l.getD (j-1) 0 else l.getD k 0:=by unfold swp;grind
theorem Fh{l:List Int} : x∈l↔∃k,k<l.length/\l.getD k 0=x:=by
 constructor
 .intro h;obtain⟨k,f,e⟩:=cN.1 h;exact⟨k,f,O4⟩
 grind
theorem Yat{l:List Int}{j:Nat}(f:j<l.length)(g:1<=j):Sam l (swp l j):=⟨Yb5 l j,λx=>by
 rw [Fh,Fh,Yb5];constructor
 .rintro⟨k,h,e⟩;rw [Zbk f g]at e;grind
 .rintro⟨k,h,e⟩;by_cases a:k=j-1
  .exact⟨j,f,by rw [Zbk f g,<-a];omega⟩
  .by_cases b:k=j
   .exact⟨j-1,O,by rw [Zbk f g,<-b];omega⟩
   .exact⟨k,h,by rw [Zbk f g];omega⟩⟩
def Sam.trans{l m n:List Int}(h:Sam l m)(e:Sam m n):Sam l n:=⟨e.1.trans h.1,λx=>(e.2 x).trans (h.2 x)⟩
def srtx_0{l:List Int}(h:Srt l i):You l i i:=λp q e f g=>h p q e O
theorem Zt8{l:List Int}{j:Nat}(h:You l i j)(g:j<l.length)(f:1<=j)(o:j<=i)(s:l.getD j 0<l.getD (j-1) 0):You (swp l j) i (j-1):=λp q k e n=>by
 rw [Zbk g f,Zbk g f,aJ n];by_cases a:q=j
 .rw [aP a];by_cases b:p=j-1
  .omega
  .rw [aJ b,aJ O];exact h p _ O O O
 .rw [aJ a];by_cases b:p=j-1
  .rw [aP b];exact h j q O e a
  .rw [aJ b];by_cases c:p=j
   .rw [aP c];exact h _ q O e a
   .rw [aJ c];exact h p q k e a
theorem Yht{l:List Int}{j:Nat}(h:You l i j)(k:j<=i)(f:j=0\/(1<=j/\¬l.getD j 0<l.getD (j-1) 0)):Srt l (i+1):=λp q e g=>by
 by_cases a:q=j
 .rcases f with b|⟨b,c⟩
  .omega
  .subst a;by_cases d:p=q-1
   .grind
   .have:=h p (q-1) O O O;omega
 .exact h p q e O a
def srt_1(l:List Int):Srt l 1:=λp q e f=>O
structure Cmp (xs zs:List Int):Prop where
 s:Sst zs zs.length
 m:∀x,x∈zs↔x∈xs
theorem Yhs{l:List Int}{n:Nat}(h:Srt l n)(g:∀q,1<=q->q<n->l.getD q 0≠l.getD (q-1) 0):Sst l n:=λp q j e=>by
 have k:=g q O e;have o:=h (q-1) q O e;rcases eI (show p<=q-1 by omega)with f|f
 .have:=h p _ f O;omega
 grind
def Ytc{l:List Int}(h:Srt l l.length)(e:∀q,1<=q->q<l.length->l.getD q 0≠l.getD (q-1) 0):Cmp l l:=⟨Yhs h e,λx=>Iff.rfl⟩
structure Cml (xs l:List Int) (m k:Nat):Prop where
 k1:1<=k
 km:k<m
 ml:m<=xs.length
 ll:l.length=xs.length
 r:∀q,m<=q+1->l.getD q 0=xs.getD q 0
 s:Sst l k
 e:∀x,(∃p,p<k/\l.getD p 0=x)↔∃p,p<m/\xs.getD p 0=x
 z:l.getD (k-1) 0=xs.getD (m-1) 0
theorem cml_0{k:Nat}(hs:Srt xs xs.length)(f:∀q,1<=q->q<k->xs.getD q 0≠xs.getD (q-1) 0)(g:1<=k)(l:k<xs.length)(j:xs.getD k 0=xs.getD (k-1) 0):Cml xs xs (k+1) k:=
 ⟨g,O5,O,rfl,λq _=>rfl,Yhs (λp q e h=>hs p q e O) f,λx=>by grind,O4⟩
theorem cml_eq{l:List Int}{k:Nat}(h:Cml xs l m k)(f:m<xs.length)(n:l.getD m 0=l.getD (m-1) 0):Cml xs l (m+1) k:=by
 have g:=h.r m O5;have j:=h.r (m-1) O;have e:=h.km;refine⟨h.k1,O,f,h.ll,λq o=>h.r q O,h.s,λx=>(h.e x).trans ⟨?_,?_⟩,?_⟩
 .grind
 .grind
 .rw [h.z,show m+1-1=m by rfl];omega
theorem cml_ne{l:List Int}{k:Nat}(hs:Srt xs xs.length)(h:Cml xs l m k)(n:m<xs.length)(y:l.getD m 0≠l.getD (m-1) 0):Cml xs (l.set k (l.getD m 0)) (m+1) (k+1):=by
 have v:=h.r m O5;have s:=h.km;have w:=h.r (m-1) O;have t:=h.ll;have e:k<l.length:=O;have u:=by have:=hs (m-1) m O n;omega
 refine⟨O5,O,n,O4,λq z=>?_,λp q j f=>?_,λx=>?_,?_⟩
 .rw [Zkz e,aJ O];exact h.r q O
 .rw [Zkz e,Zkz e,aJ (show p≠k by omega)];by_cases a:q=k
  .have B:=h.z;rcases eI (show p<=k-1 by omega)with g|g
   .have:=h.s p (k-1) g O;omega
   grind
  .rw [aJ a];exact h.s p q j O
 .constructor
  .rintro⟨p,j,f⟩;rw [Zkz e]at f;by_cases a:p=k
   .grind
   .rw [aJ a]at f;obtain⟨q,g,o⟩:=(h.e x).1 ⟨p,O,f⟩;grind
  .rintro⟨p,j,f⟩;by_cases a:p=m
   .exact⟨k,O5,O4⟩
   .obtain⟨q,g,o⟩:=(h.e x).2 ⟨p,O,f⟩;exact⟨q,O,O4⟩
 grind
theorem Yb9{l:List Int}{k p:Nat}(h:p<k):(l.take k).getD p 0=l.getD p 0:=by grind
theorem cml_e{l:List Int}{k:Nat}(h:Cml xs l xs.length k):Cmp xs (l.take k):=by
 have n:=h.km;have j:=h.ll;have g:(l.take k).length=k:=O4;refine⟨λp q f e=>?_,λx=>?_⟩
 .rw [g]at e;rw [Yb9 O,Yb9 e];exact h.s p q f e
 .rw [Fh,Fh,<-h.e x];grind
def Znb(x:Int):List Int->List Int
 | []=>[x]
 | y::l=>if x<y then x::y::l else if x=y then y::l else y::Znb x l
def Inc:List Int->Prop
 | []=>True
 | x::l=>(∀y∈l,x<y)/\Inc l
theorem Zm0{x z:Int} : ∀{l:List Int},z∈Znb x l↔z=x\/z∈l
 | []=>by simp [Znb]
 | y::l=>by
  unfold Znb;split
  .simp
  .split
   .rename_i h;subst h;simp
   .rw [bI,Zm0,bI];constructor
    .rintro(h|h|h)
     .exact .inr (.inl h)
     .exact .inl h
     .exact .inr (.inr h)
    .rintro(h|h|h)
     .exact .inr (.inl h)
     .exact .inl h
     .exact .inr (.inr h)
theorem Zv5{x:Int} : ∀{l:List Int},Inc l->Inc (Znb x l)
 | [],_=>⟨λy h=>(nomatch h),aA⟩
 | y::l,h=>by
  unfold Znb;split
  .rename_i f;exact⟨λz e=>by
    rcases bI.1 e with rfl|e
    .exact f
    .have:=h.1 z e;omega,h⟩
  .split
   .exact h
   .refine⟨λz e=>?_,Zv5 h.2⟩;rcases Zm0.1 e with rfl|e
    .omega
    .exact h.1 z e
def Zt9(l:List Int):List Int:=l.foldr Znb []
def Znc:∀(l:List Int),Inc (Zt9 l)
 | []=>trivial
 | x::l=>Zv5 (Znc l)
theorem Zmz{z:Int} : ∀{l:List Int},z∈Zt9 l↔z∈l
 | []=>Iff.rfl
 | x::l=>by show z∈Znb x (Zt9 l)↔_;rw [Zm0,Zmz,bI]
theorem Ylx:∀{l m:List Int},Inc l->Inc m->(∀x,x∈l↔x∈m)->l=m
 | [],[],_,_,_=>rfl
 | [],y::m,_,_,h=>absurd ((h y).2 (cC ..)) (λh=>nomatch h)
 | x::l,[],_,_,h=>absurd ((h x).1 (cC ..)) (λh=>nomatch h)
 | x::l,y::m,hl,hm,h=>by
  have e:x=y:=by
   have j:=(h x).1 (cC ..);have g:=(h y).2 (cC ..);rcases bI.1 j with f|f
   .exact f
   .rcases bI.1 g with k|k
    .exact k.symm
    .have:=hm.1 x f;have:=hl.1 y k;omega
  subst e;rw [Ylx hl.2 hm.2 λz=>by
   have j:=h z;rw [bI,bI]at j;constructor
   .intro g;rcases j.1 (.inr g)with f|f
    .have:=hl.1 z g;omega
    .exact f
   .intro g;rcases j.2 (.inr g)with f|f
    .have:=hm.1 z g;omega
    .exact f]
theorem Yb7:∀{l:List Int},Sst l l.length->Inc l
 | [],_=>trivial
 | x::l,h=>⟨λy e=>by obtain⟨k,j,rfl⟩:=Fh.1 e;exact h 0 (k+1) O5 O4,Yb7 λp q f g=>h (p+1) (q+1) O O4⟩
theorem Ynr{ys zs:List Int}(f:Sam xs ys)(e:Cmp ys zs):zs=Zt9 xs:=
 Ylx (Yb7 e.s) (Znc xs) λx=>by rw [e.m,f.2,Zmz]
theorem Yag:∀{l:List Int},Inc l->Sst l l.length
 | [],_=>λp q _ h=>absurd h (aR _)
 | x::l,h=>λp q e f=>by
  match p,q,e with
  | 0,q+1,_=>
   exact h.1 _ (Zd O4)
  | p+1,q+1,e=>exact Yag h.2 p q O O4
def Yry(j:Nat):j=0\/1<=j:=O
theorem hd_s{k:Nat}(h:∀q,1<=q->q<k->xs.getD q 0≠xs.getD (q-1) 0)(e:¬xs.getD k 0=xs.getD (k-1) 0):∀q,1<=q->q<k+1->xs.getD q 0≠xs.getD (q-1) 0:=λq f g=>by grind
open Go.Proofs.Tryz
open Go.Proofs
set_option synthInstance.maxHeartbeats 0
set_option synthInstance.maxSize 100000
set_option maxRecDepth 20000
set_option linter.unusedSimpArgs false
theorem Ytb:Xp prog 334 #[.int .i64 x] [] (.bool false):=by refine Zg func334 ntmps334 λj g f e=>go 9 ?_;refine kf (aE (λh=>h J))<|go 4 ?_;exact Yp e () results334 J aA Za
theorem Yns{y:Int}:Xp prog 269 #[.int .i64 x,.int .i64 y] [] (.bool (decide (x<y))):=by refine Zg func269 ntmps269 λh g f e=>go 8 ?_;refine cl 0 [] Ytb λ_ _=>go 14 ?_;exact Yp e () results269 J aA Za
theorem Ygj(x:Nat)(f:x<U):Xp prog 260 #[.int .u64 (x:Int)] [] (.int .i64 (bl x:Int)):=by refine Zg func260 ntmps260 λj h g e=>go 12 ?_;refine cl 0 [] (Zxe f) λ_ _=>go 4 ?_;exact Yp e () results260 J aA Za
theorem sl_ins{b c:Nat}(H:1<=xs.length)(M:xs.length<=12):Zd0 prog 318 #[.slice (some ⟨b,0,none⟩) xs.length c,.int .i64 0,.int .i64 (xs.length:Int)] [] false b 3 (wcr xs r) (G:=List Int) (λg=>Sam xs g/\Srt g g.length) (λg=> .tuple #[]) (λg=>wcr g r) (λg=>[]):=by
 refine De func318 J ntmps318 J aA ?_;intro P N n F;have n:=Hw.mk n;simp only [Pv,Xk];refine go 8 ⟨O,?_⟩;refine lp (G:=Nat×List Int) [0,1,2] [0] (λq=>[(6,.int .i64 (q.1:Int))]) (λq=>[(1,box b 3 (wcr q.2 r))]) (λq=>(1<=q.1)/\(q.1<=xs.length)/\(Sam xs q.2)/\(Srt q.2 q.1)) (λq=>xs.length-q.1) (1,xs) ⟨O1,O1,Sam.rfl' xs,srt_1 xs⟩ K1 K1 ?_;rintro⟨i,l⟩ ⟨z,B,u,hs⟩;dsimp only at z B u hs;dsimp only;have D:=u.1;refine go 8<|Ze J (λv=>?_) (λv=>?_)
 .refine go 11 ?_;refine lp (G:=Nat×List Int) [0,1,2,6] [0] (λq=>[(7,.int .i64 (q.1:Int))]) (λq=>[(1,box b 3 (wcr q.2 r))]) (λq=>(q.1<=i)/\(Sam xs q.2)/\(You q.2 i q.1)) (λq=>q.1) (i,l) ⟨aF _,u,srtx_0 hs⟩ K1 K1 ?_;rintro⟨j,m⟩ ⟨o,e,t⟩;dsimp only at o e t;dsimp only;have I:=e.1;refine go 2 ?_;rcases Yry j with f|f
  .refine Qa (λ_=>False) [(0,0),(1,0),(2,0),(3,0),(4,2),(5,2),(6,2),(7,2),(8,2),(9,2),(10,2),(11,2),(12,2),(13,2),(14,0)]<|go 2 ?_;refine Yz J J (Xn (dF (Zbp J J J) (vB (aE O))))<|go 26 ⟨O,?_⟩;exact Ye (i+1,m) ⟨O1,O1,e,Yht t o (.inl f)⟩ O1 K1 K1
  .refine Qa (λ_=>False) [(0,0),(1,0),(2,0),(3,0),(4,0),(5,0),(6,0),(7,0),(8,0),(9,0),(10,0),(11,0),(12,0),(13,1),(14,0)]<|go 2 ?_;refine Yz J J (Xn (dT (Zbp J J J) (vB (aH O))))<|go 3 ?_;refine r0g (Xn (Xf ( .pointer (some ⟨b,j,none⟩)) (Zat j J J J Qi Lm O O) (by rw [cD]))) J J J J J<|r0g (Xn (Xf ( .int .i64 (m.getD j 0)) (Zdn 1 J J J iA3 O) (aD (λq=>Value.int .i64 (m.getD q 0)) O))) J J J J J<|go 3 ⟨O,?_⟩;refine r0g (Xn (Xf ( .pointer (some ⟨b,j-1,none⟩)) (Zat (j-1) J J J Qi Lm O O) (by rw [cD]))) J J J J J<|r0g (Xn (Xf ( .int .i64 (m.getD (j-1) 0)) (Zdn 1 J J J iA3 O) (aD (λq=>Value.int .i64 (m.getD q 0)) O))) J J J J J<|Zmd J J J J J (Xb 1 Yns J J J K2 call269 Zq J n.h) λ_ _=>go 3 ?_;refine Ze J (λk=>?_) (λk=>?_)
   .have s:=k;refine go 4<|Qw [] [17] ?_;refine Zi 6 [(0,0),(1,0),(2,0),(3,0),(4,0),(5,0),(6,0),(7,0),(8,0),(10,0),(11,0),(12,0)]<|go 8 ⟨O,O,?_⟩;refine Yz J J (Ko (Xf ( .pointer (some ⟨b,j-1,none⟩)) (Zat (j-1) J J J Qi Lm O O) (by rw [cD])) aA)<|go 2 ?_;refine Yz J J (Ko (Xf ( .pointer (some ⟨b,j,none⟩)) (Zat j J J J Qi Lm O O) (by rw [cD])) aA)<|go 1 ?_;refine Pa 5 9 13 ?_ ?_
    .refine Kh J J (Ze0 (Xf ( .int .i64 (m.getD (j-1) 0)) (Zdn 1 J J J iA3 O) (aD (λq=>Value.int .i64 (m.getD q 0)) O)) J J) (λ_ _=>?_);refine Zi 0 [(13,1),(14,0),(15,1),(16,0),(17,3)]<|Kd J (Ze0 (Xf ( .int .i64 (m.getD j 0)) (Zdn 1 J J J iA3 O) (aD (λq=>Value.int .i64 (m.getD q 0)) O)) J J) (λ_ _=>?_);refine Yz J J (Ko (Xf ( .pointer (some ⟨b,j,none⟩)) (Zat j J J J Qi Lm O O) (by rw [cD])) aA)<|Kd J (Zt1 1 J J J J J O3 Lm O J n.h (λ_ h=>nomatch h)) (λ_ _=>?_);refine Yz J J (Ko (Xf ( .pointer (some ⟨b,j-1,none⟩)) (Zat (j-1) J J J Qi Lm O O) (by rw [cD])) aA)<|r3' J (Zt1 1 J J J J J O3 Lm (by rw [cT];omega) J n.h aA) λ_ _=>go 1 ?_;refine Zu<|go 7 ⟨O,?_⟩;exact Ye (j-1,swp m j) ⟨O1,e.trans (Yat O O),Zt8 t O f o s⟩ O1 ⟨(aD (λq:Int=>some (Value.int .i64 q)) (show(j:Int)-1=((j-1:Nat):Int) by omega)),aA⟩ K1
    .refine Kh J J (Ze0 (Xf ( .int .i64 (m.getD j 0)) (Zdn 1 J J J iA3 O) (aD (λq=>Value.int .i64 (m.getD q 0)) O)) J J) (λ_ _=>?_);refine Zi 0 [(9,1),(14,0),(15,1),(16,0),(17,3)]<|Kd J (Ze0 (Xf ( .int .i64 (m.getD (j-1) 0)) (Zdn 1 J J J iA3 O) (aD (λq=>Value.int .i64 (m.getD q 0)) O)) J J) (λ_ _=>?_);refine Yz J J (Ko (Xf ( .pointer (some ⟨b,j,none⟩)) (Zat j J J J Qi Lm O O) (by rw [cD])) aA)<|Kd J (Zt1 1 J J J J J O3 Lm O J n.h (λ_ h=>nomatch h)) (λ_ _=>?_);refine Yz J J (Ko (Xf ( .pointer (some ⟨b,j-1,none⟩)) (Zat (j-1) J J J Qi Lm O O) (by rw [cD])) aA)<|r3' J (Zt1 1 J J J J J O3 Lm (by rw [cT];omega) J n.h aA) λ_ _=>go 1 ?_;refine Zu<|go 7 ⟨O,?_⟩;exact Ye (j-1,swp m j) ⟨O1,e.trans (Yat O O),Zt8 t O f o s⟩ O1 ⟨(aD (λq:Int=>some (Value.int .i64 q)) (show(j:Int)-1=((j-1:Nat):Int) by omega)),aA⟩ K1
   .have y:=k;refine go 11 ⟨O,?_⟩;exact Ye (i+1,m) ⟨O1,O1,e,Yht t o (.inr ⟨f,y⟩)⟩ O1 K1 K1
 .obtain rfl:i=xs.length:=O;refine go 4 ?_;exact Dq (.inr J) F l (λa w hs=>res0 hs results318) J ⟨u,by rw [D];exact hs⟩ 1 J J J J Za
theorem sl_pdq{b c:Nat}{l:Int}(f:1<=xs.length)(o:xs.length<=12):Zd0 prog 259 #[.slice (some ⟨b,0,none⟩) xs.length c,.int .i64 0,.int .i64 (xs.length:Int),.int .i64 l] [] false b 3 (wcr xs r) (G:=List Int) (λg=>Sam xs g/\Srt g g.length) (λg=> .tuple #[]) (λg=>wcr g r) (λg=>[]):=by refine De func259 J ntmps259 J aA ?_;intro t s j h;have j:=Hw.mk j;simp only [Pv,Xk];refine go 11 ?_;refine lp (G:=Nat) [0] [0,1] (λk=>[(1,.int .i64 0),(2,.int .i64 (xs.length:Int))]) (λk=>[]) (λk=>True) (λk=>k) 0 aA K2 aA ?_;rintro k -;refine go 13 ⟨O,?_⟩;refine kt (aH O)<|go 8 ?_;refine tt (Pd 1 1 (sl_ins f o) J J J K3 call318 J O3 Zq J j.h aA) J λn e=>go 7 ?_;exact Dq (.inl J) h n (λa w hs=>res0 hs results259) J e 1 J J J J Za
theorem Ypw{b c:Nat}(f:1<=xs.length)(l:xs.length<=12):Zd0 prog 181 #[.slice (some ⟨b,0,none⟩) xs.length c] [] false b 3 (wcr xs r) (G:=List Int) (λg=>Sam xs g/\Srt g g.length) (λg=> .tuple #[]) (λg=>wcr g r) (λg=>[]):=by refine De func181 J ntmps181 J aA ?_;intro o n j h;have j:=Hw.mk j;simp only [Pv,Xk];refine go 3 ?_;refine dt (Zst J J Qi)<|go 7 ?_;refine dt (Xf ( .int .u64 (xs.length:Int)) (Zzg J J uT3 underlying306 (by simp only [U];omega)) J)<|cl 1 [] (Ygj xs.length (by simp only [U];omega)) λ_ _=>?_;refine tt (Pd 1 1 (sl_pdq f l) J J J K4 call259 J O3 Zq J j.h aA) J λk e=>go 1 ?_;exact Dq (.inr J) h k (λa w hs=>res0 hs results181) J e 1 J J J J Za
theorem sl_cmp{b c:Nat}(S:2<=xs.length)(Y:xs.length<=12)(V:xs.length<=c)(o:Srt xs xs.length):Zd0 prog 299 #[.slice (some ⟨b,0,none⟩) xs.length c] [] false b 3 (wcr xs r) (G:=List Int×List Value) (λg=>Cmp xs g.1/\g.1.length+g.2.length=xs.length+r.length) (λg=> .slice (some ⟨b,0,none⟩) g.1.length c) (λg=>wcr g.1 g.2) (λg=>[]):=by
 refine De func299 J ntmps299 J aA ?_;intro w0 Z v u;have v:=Hw.mk v;simp only [Pv,Xk];refine go 9 ?_;refine dt (Zst J J Qi)<|kf (aE O)<|go 12 ?_;refine lp (G:=Nat) [0] [0,1] (λk=>[(3,.int .i64 (k:Int))]) (λk=>[]) (λk=>(1<=k)/\(k<=xs.length)/\(∀q,1<=q->q<k->xs.getD q 0≠xs.getD (q-1) 0)) (λk=>xs.length-k) 1 ⟨O1,O1,λq H I=>absurd I O⟩ K1 aA ?_;rintro k ⟨B,N,y⟩;refine go 5 ?_;refine dt (Zst J J Qi)<|go 3 ?_;refine Ze J (λs=>?_) (λs=>?_)
 .refine go 5<|Qa (λ_=>False) [(0,0),(1,0),(2,0),(3,0),(4,0),(5,0),(6,0),(7,0),(8,0),(9,0)]<|go 2 ?_;refine Yz J J (Xn (Xf ( .pointer (some ⟨b,k,none⟩)) (Zat k J J J Qi Lm O O) (by rw [cD])))<|Yz J J (Xn (Xf ( .int .i64 (xs.getD k 0)) (Zdn 1 J J J iA3 O) (aD (λq=>Value.int .i64 (xs.getD q 0)) O)))<|go 3 ⟨O,?_⟩;refine Yz J J (Xn (Xf ( .pointer (some ⟨b,k-1,none⟩)) (Zat (k-1) J J J Qi Lm O O) (by rw [cD])))<|Yz J J (Xn (Xf ( .int .i64 (xs.getD (k-1) 0)) (Zdn 1 J J J iA3 O) (aD (λq=>Value.int .i64 (xs.getD q 0)) O)))<|go 3 ?_;refine Ze J (λe=>?_) (λe=>?_)
  .have M:=e;refine go 4 ?_;refine dt (Xf ( .slice (some ⟨b,k,none⟩) (xs.length-k) (c-k)) (Ym4 k J J J Qi Lm J O O) (by rw [cD]))<|go 10 ?_;refine lp (G:=Nat×Nat×List Int) [0,4] [0] (λq=>[(5,.int .i64 (q.1:Int)),(3,.int .i64 (q.2.1:Int))]) (λq=>[(1,box b 3 (wcr q.2.2 r))]) (λq=>(1<=q.1)/\(Cml xs q.2.2 (k+q.1) q.2.1)) (λq=>xs.length-k-q.1) (1,k,xs) ⟨O1,cml_0 o y B O M⟩ K2 K1 ?_;rintro⟨j,kk,l⟩ ⟨z,h⟩;dsimp only at z h;dsimp only;have W:=h.ll;have P:=h.k1;have Q:=h.km;have R:=h.ml;refine go 5 ?_;refine dt (Zst J J Qi)<|go 3 ?_;refine Ze J (λt=>?_) (λt=>?_)
   .refine go 5<|Qa (λ_=>False) [(0,0),(1,0),(2,0),(3,0),(4,0),(5,0),(6,0),(7,0),(8,0),(9,0)]<|go 2 ?_;refine Yz J J (Xn (Zat j J J J Qi Lm O O))<|Yz J J (Xn (Xf ( .int .i64 (l.getD (k+j) 0)) (Zdn 1 J J J iA3 O) (aD (λq=>Value.int .i64 (l.getD q 0)) O)))<|go 3 ⟨O,?_⟩;refine Yz J J (Xn (Zat (j-1) J J J Qi Lm O O))<|Yz J J (Xn (Xf ( .int .i64 (l.getD (k+j-1) 0)) (Zdn 1 J J J iA3 O) (aD (λq=>Value.int .i64 (l.getD q 0)) O)))<|go 3 ?_;refine Ze J (λf=>?_) (λf=>?_)
    .have n:=f;refine go 6 ?_;refine dt (Zat j J J J Qi Lm O O)<|dt (Xf ( .int .i64 (l.getD (k+j) 0)) (Zdn 1 J J J iA3 O) (aD (λq=>Value.int .i64 (l.getD q 0)) O))<|dt (Xf ( .pointer (some ⟨b,kk,none⟩)) (Zat kk J J J Qi Lm J O) (by rw [cD]))<|tt (Zt1 1 J J J J J O3 Lm O J v.h aA) J (λ_ _=>?_);refine go 14 ⟨O,O,?_⟩;exact Ye (j+1,kk+1,l.set kk (l.getD (k+j) 0)) ⟨O1,cml_ne (m:=k+j) o h O n⟩ O1 K2 K1
    .have n:=f;refine go 8 ⟨O,?_⟩;exact Ye (j+1,kk,l) ⟨O1,cml_eq (m:=k+j) h O (dN.1 n)⟩ O1 K2 K1
   .obtain D:k+j=xs.length:=O;rw [D]at h;refine go 9 ?_;refine dt (Xf ( .slice (some ⟨b,kk,none⟩) (xs.length-kk) (c-kk)) (Ym4 kk J J J Qi Lm J O O) (by rw [cD]))<|tt (t_clw (i:=1) J J J J O3 O O Qi Lm (λw=>zeroValue3 w) J v.h aA) J λ_ _=>go 6 ?_;refine dt (d_prew (i:=kk) J J J Qi Lm J O O)<|go 9 ?_;exact Dq (.inl J) u (l.take kk,List.replicate (xs.length-kk) (.int .i64 0) ++ r) (λa w hs=>Zeu hs results299 J) (by rw [cQ,dK O]) ⟨cml_e h,O8⟩ 1 J J J J Za
  .have F:=e;refine go 8 ⟨O,?_⟩;exact Ye (k+1) ⟨O1,O1,hd_s y F⟩ O1 K1 aA
 .refine go 12 ?_;exact Dq (.inl J) u (xs,r) (λa w hs=>Zeu hs results299 J) J ⟨Ytc o (λq H I=>y q H O),J⟩ 1 J J J J Za
def Gd(f:Nat->Rat):Nat->Rat
 | 0=>0
 | n+1=>Gd f n+f n
theorem Mi(f:Nat->Rat)(n:Nat):Gd f (n+1)=Gd f n+f n:=rfl
theorem Le{f g:Nat->Rat} : ∀n,(∀i,i<n->f i=g i)->Gd f n=Gd g n
 | 0,_=>rfl
 | n+1,h=>by rw [Mi,Mi,Le n λi hi=>h i O,h n O]
theorem Dy(f:Nat->Rat):∀n,Gd f (n+1)=f 0+Gd (λi=>f (i+1)) n
 | 0=>by show 0+f 0=f 0+0;grind
 | n+1=>by rw [Mi,Dy f n,Mi];grind
theorem Zmg(f g:Nat->Rat):∀n,Gd (λi=>f i+g i) n=Gd f n+Gd g n
 | 0=>by show(0)=0+0;grind
 | n+1=>by rw [Mi,Mi,Mi,Zmg f g n];grind
theorem Ev(c:Rat)(f:Nat->Rat):∀n,Gd (λi=>c*f i) n=c*Gd f n
 | 0=>by show(0)=c*0;simp
 | n+1=>by rw [Mi,Mi,Ev c f n];grind
theorem Znv(n:Nat):Ot n 0=1:=by cases n<;>rfl
def chz_s(n k:Nat):Ot (n+1) (k+1)=Ot n k+Ot n (k+1):=rfl
theorem Yn8{u w:Rat}(h:u+w=1):∀n,Gd (λj=>(Ot n j:Rat)*(u^j*w^(n-j))) (n+1)=1
 | 0=>by rw [Dy];show((Ot 0 0:Nat))*(u^0*w^0)+0=1;rw [Znv,iT];grind
 | n+1=>by
  have g:=Yn8 h n;rw [Dy];have e:Gd (λi=>(Ot (n+1) (i+1))*(u^(i+1)*w^(n+1-(i+1)))) (n+1)=Gd (λi=>u*((Ot n i)*(u^i*w^(n-i)))) (n+1)+Gd (λi=>(Ot n (i+1))*(u^(i+1)*w^(n-i))) (n+1):=by rw [<-Zmg];refine Le _ λi hi=>?_;rw [chz_s,eG];grind
  have f:Gd (λi=>(Ot n (i+1))*(u^(i+1)*w^(n-i))) (n+1)=Gd (λi=>(Ot n (i+1))*(u^(i+1)*w^(n-i))) n:=by rw [Mi,Znu n (n+1) O5];grind
  have k:w*Gd (λj=>(Ot n j)*(u^j*w^(n-j))) (n+1)=w^(n+1)+Gd (λi=>(Ot n (i+1))*(u^(i+1)*w^(n-i))) n:=by
   rw [<-Ev,Dy,Znv];congr 1
   .grind
   .refine Le _ λi hi=>?_;rw [show n-i=(n-(i+1))+1 by omega];grind
  rw [e,f,Ev,g];rw [Znv,kK];grind
def Ho(d:Nat)(c:List Int)(j:Nat):Int:=Yo (λi=>cf c i*(Ot (d-i) (j-i):Int)) (j+1)
theorem brS_0(d:Nat)(a:Int)(c:List Int):Ho d (a::c) 0=a:=by show 0+a*((Ot _ _))=a;grind [Znv]
theorem brS_s(d:Nat)(a:Int)(c:List Int)(j:Nat):Ho (d+1) (a::c) (j+1)=a*(Ot (d+1) (j+1):Int)+Ho d c j:=by unfold Ho;rw [Ms];congr 1;refine Xl λi hi=>?_;rw [show d+1-(i+1)=d-i by simp,show j+1-(i+1)=j-i by simp];rfl
theorem Ytv(d j:Nat):Ho d [] j=0:=by exact(Zig (aX _) λi _ _=>by rw [show cf [] i=0 from rfl,cJ]).trans (Ds _)
theorem bern{u w:Rat}(h:u+w=1):∀(d:Nat) (c:List Int),c.length<=d+1->Gd (λj=>(Ho d c j:Rat)*(u^j*w^(d-j))) (d+1)=Zj c u
 | d,[],_=>by
  rw [Le (g:=λ_=>0) (d+1) λi hi=>by simp [Ytv]];show Gd _ (d+1)=0;have:∀n,Gd (λ_=>0) n=0:=λn=>by
   induction n with
   | zero=>rfl
   | succ n f=>grind [Mi]
  grind
 | 0,[a],_=>by rw [Mi,brS_0];show 0+(a:Rat)*(u^0*w^0)=(a:Rat)+u*0;grind
 | 0,a::b::c,hl=>O4
 | d+1,a::c,hl=>by
  have f:=bern h d c O4;have e:=Yn8 h (d+1);rw [Dy]at e;rw [Dy,brS_0];have k:Gd (λi=>(Ho (d+1) (a::c) (i+1))*(u^(i+1)*w^(d+1-(i+1)))) (d+1)=(a:Rat)*Gd (λi=>(Ot (d+1) (i+1))*(u^(i+1)*w^(d+1-(i+1)))) (d+1)+u*Gd (λj=>(Ho d c j)*(u^j*w^(d-j))) (d+1):=by rw [<-Ev,<-Ev,<-Zmg];refine Le _ λi hi=>?_;rw [brS_s,eG];push_cast;grind
  show _=(a:Rat)+u*Zj c u;rw [Znv]at e;grind
theorem Cl(a:Int):∀(c:List Int) (i:Nat),cf (c.map λx=>a*x) i=a*cf c i
 | [],i=>by rw [iF,show cf [] i=0 from rfl,dX]
 | x::c,0=>rfl
 | x::c,i+1=>Cl a c i
theorem Zx9(c:List Int)(a b e:Int)(u:Rat):Zj (mk (c.length+1) λt=>cf c t*a+(if t=0 then e else cf c (t-1)*b)) u=Zj c u*((a:Rat)+(b:Rat)*u)+(e:Rat):=by
 have h:Zj (mk (c.length+1) λt=>cf c t*a+(if t=0 then e else cf c (t-1)*b)) u=Zj (Mv (c.map λx=>a*x) (e::c.map λx=>b*x)) u:=Mb u _ _ λi=>by
  rw [Ll,Cl,Md]
  match i with
  | 0=>rw [aP O,aP rfl];show cf c 0*a+e=a*cf c 0+e;rw [fD]
  | i+1=>
   show _=a*cf c (i+1)+cf (c.map λx=>b*x) i;rw [Cl];by_cases hi:i<c.length
   .rw [aP O,aJ O,jM,fD,fD (cf c i)]
   .rw [aJ O,Yt (p:=c) (i:=i+1) O,Yt (p:=c) (i:=i) O];omega
 rw [h,Xs,Zx];show _+((e:Rat)+u*Zj (c.map λx=>b*x) u)=_;rw [Zx];grind
theorem Zuu(p:List Int)(a b d:Int){t u:Rat}(f:t*(d:Rat)=(a:Rat)+(b:Rat)*u):∀j,j+1<=p.length->Zj (Kf p a b d j) u=(d:Rat)^j*Zj (p.drop (p.length-1-j)) t
 | 0,h=>by
  have e:p.drop (p.length-1-0)=[cf p (p.length-1)]:=by rw [kK,eE O,kO O];congr 1;unfold cf;rw [aK,aL O];rfl
  rw [Cc,e,iT,Og,Og];grind
 | j+1,h=>by
  have g:=Zuu p a b d f j O;have e:p.drop (p.length-1-(j+1))=cf p (p.length-2-j)::p.drop (p.length-1-j):=by rw [eE O,show p.length-1-(j+1)+1=p.length-1-j by omega];congr 1;unfold cf;rw [aK,aL O];show p[p.length-1-(j+1)]=p[p.length-2-j];congr 1;omega
  rw [Zp8,Zx9,g,e,<-f];show _=(d:Rat)^(j+1)*((cf p (p.length-2-j):Rat)+t*Zj (p.drop (p.length-1-j)) t);rw [eG];push_cast;rw [eG];generalize (d:Rat)^j=D;grind
theorem Zl7(a b d:Int){t u:Rat}(f:t*(d:Rat)=(a:Rat)+(b:Rat)*u)(e:p.length≠0):Zj (Lh p a b d) u=(d:Rat)^(p.length-1)*Zj p t:=by unfold Lh;rw [aJ e,Mb u (tzl _) _ (λi=>Lg _ i),Zuu p a b d f (p.length-1) O,fZ,fP]
def dblL:List Int->List Int
 | []=>[]
 | a::p=>a::0::dblL p
theorem Ya2(x:Rat):∀p:List Int,Zj (dblL p) x=Zj p (x*x)
 | []=>rfl
 | a::p=>by show(a)+x*(((0))+x*Zj _ x)=(a)+x*x*Zj p _;rw [Ya2 x p];grind
theorem Zzp:∀(p:List Int) (i:Nat),cf (dblL p) (2*i)=cf p i
 | [],i=>rfl
 | a::p,0=>rfl
 | a::p,i+1=>by exact Zzp p i
theorem sq_nn(x:Rat):0<=x*x:=by
 rcases(show 0<=x\/x<=0 by grind)with h|h
 .grind [Rat.mul_nonneg]
 .have:=aG (show 0<=-x by grind) (show 0<=-x by grind);grind
theorem Zut(h:∀x:Rat,0<=x->Zj p x=Zj q x)(i:Nat):cf p i=cf q i:=by rw [<-Zzp p,<-Zzp q];grind [Nq,Ya2,sq_nn]
theorem Zko(f:Nat->Int)(x:Rat):∀n,Zj (mk n f) x=Gd (λj=>(f j:Rat)*x^j) n
 | 0=>rfl
 | n+1=>by rw [Fo,Zus,Zko f x n,Yy,Mi]
def NN(p:List Int):Prop:=∀i,0<=cf p i
theorem NN.smul{c:Int}(e:0<=c)(h:NN p):NN (p.map λa=>c*a):=λi=>by rw [Cl];exact cP e (h i)
theorem NN.add(e:NN p)(f:NN q):NN (Mv p q):=λi=>by rw [Ll];exact Int.add_nonneg (e i) (f i)
theorem NN.lmul{q:List Int}(e:NN q):∀{p:List Int},NN p->NN (lmul p q)
 | [],_=>λi=>by show 0<=cf [] i;rw [show cf [] i=0 from rfl];omega
 | c::p,h=>NN.add (NN.smul (h 0) e) λi=>by
  match i with
  | 0=>exact eQ _
  | i+1=>exact NN.lmul e (λj=>h (j+1)) i
def lpw(l:List Int):Nat->List Int
 | 0=>[1]
 | k+1=>lmul l (lpw l k)
theorem Ya1(l:List Int)(x:Rat):∀k,Zj (lpw l k) x=Zj l x^k
 | 0=>by rw [iT];show((1))+x*0=1;grind
 | k+1=>by rw [show lpw l _=lmul l _ from rfl,Yn,Ya1 l x k,eG,kM]
theorem NN.lpw{l:List Int}(h:NN l):∀k,NN (lpw l k)
 | 0=>λi=>by
  show 0<=cf [1] i
  match i with
  | 0=>decide
  | i+1=>exact eQ _
 | k+1=>NN.lmul (NN.lpw h k) h
theorem NN.two(e:0<=a)(f:0<=b):NN [a,b]:=λi=>by
 match i with
 | 0=>exact e
 | 1=>exact f
 | i+2=>exact eQ _
def sQ(f:Nat->Int)(W:Nat->List Int):Nat->List Int
 | 0=>[]
 | k+1=>Mv (sQ f W k) ((W k).map λa=>f k*a)
theorem Zx8(f:Nat->Int)(W:Nat->List Int)(x:Rat):∀k,Zj (sQ f W k) x=Gd (λi=>(f i:Rat)*Zj (W i) x) k
 | 0=>rfl
 | k+1=>by rw [show sQ f W _=Mv _ _ from rfl,Xs,Zx8 f W x k,Zx,Mi]
theorem sQ_le{f g:Nat->Int}{W:Nat->List Int}{B:Int}(l:∀i,NN (W i)):∀k,(∀i,i<k->((f i).natAbs:Int)<=B*g i)->∀j,((cf (sQ f W k) j).natAbs:Int)<=B*cf (sQ g W k) j
 | 0,_,j=>by show((cf [] j).natAbs)<=B*cf [] j;rw [show cf [] j=0 from rfl];simp
 | k+1,h,j=>by
  have s:=sQ_le l k (λi hi=>h i O) j;show((cf (Mv _ _) j).natAbs)<=B*cf (Mv _ _) j;rw [Ll,Ll,Cl,Cl,jT,<-eP];have n:=l k j;have o:((f k*cf (W k) j).natAbs)<=B*g k*cf (W k) j:=by rw [cE];have e:((cf (W k) j).natAbs)=cf (W k) j:=O;simp_all [dM]
  omega
theorem Zmv(a b:Rat):∀n:Nat,(a*b)^n=a^n*b^n
 | 0=>O5
 | n+1=>by rw [eG,Zmv a b n];grind
def Yom(a:Rat)(m:Nat):∀n:Nat,a^(m+n)=a^m*a^n
 | 0=>O5
 | n+1=>O4
theorem Yn9{U V S:Rat}(h:U+V=S)(l:S≠0){d:Nat}(e:c.length<=d+1):Gd (λj=>(Ho d c j:Rat)*(U^j*V^(d-j))) (d+1)=S^d*Zj c (U/S):=by
 rw [<-bern (w:=V/S) O4 d c e,<-Ev];refine Le _ λj n=>?_;have f:U^j=S^j*(U/S)^j:=by rw [<-Zmv];grind
 have g:V^(d-j)=S^(d-j)*(V/S)^(d-j):=by rw [<-Zmv];grind
 have k:S^d=S^j*S^(d-j):=by rw [<-Yom];grind
 grind
theorem Yd1{U V S:Rat}(h:U+V=S)(k:S≠0)(d:Nat):Gd (λj=>(Ot d j:Rat)*(U^j*V^(d-j))) (d+1)=S^d:=by
 have:=Yn8 (u:=U/S) (w:=V/S) O4 d;rw [<-Rat.mul_one (S^d),<-this,<-Ev];refine Le _ λj l=>?_;have e:U^j=S^j*(U/S)^j:=by rw [<-Zmv];grind
 have f:V^(d-j)=S^(d-j)*(V/S)^(d-j):=by rw [<-Zmv];grind
 have g:S^d=S^j*S^(d-j):=by rw [<-Yom];grind
 grind
theorem Yqk(a b:Int)(x:Rat):Zj [a,b] x=(a:Rat)+(b:Rat)*x:=by show(a)+x*((b)+x*0)=_;grind
theorem onepw(n:Nat):(1:Rat)^n=1:=by
 induction n with
 | zero=>rfl
 | succ n e=>grind
theorem Zf3(d:Int)(n:Nat):((d^n:Int):Rat)=(d:Rat)^n:=by simp
def Wij(a e d:Int)(n i:Nat):List Int:=lmul (lpw [a,e] i) (lpw [d-a,d-e] (n-i))
def Wij_nn{e:Int}(f:0<=a)(g:0<=e)(h:a<=d)(j:e<=d)(n i:Nat):NN (Wij a e d n i):=NN.lmul (NN.lpw (NN.two O O) _) (NN.lpw (NN.two f g) _)
theorem Ya3(a e d:Int)(n i:Nat)(x:Rat):Zj (Wij a e d n i) x=((a:Rat)+(e:Rat)*x)^i*(((d-a:Int):Rat)+((d-e:Int):Rat)*x)^(n-i):=by unfold Wij;grind [Yn,Ya1,Yqk]
theorem Ytx {X:List Int} {n:Nat} (hl:c.length<=n+1) (hX:X.length<=n+1) {B:Int} (ha:0<=a) (hb:0<=b) (w:a+b<=d) (D:0<d) (hr:∀t u:Rat,t*(d:Rat)=(a:Rat)+(b:Rat)*u->Zj X u=(d:Rat)^m*Zj c t)
  (hB:∀j,j<n+1->((Ho n c j).natAbs:Int)<=B*(Ot n j:Int)):∀j,j<n+1->((Ho n X j).natAbs:Int)<=B*d^m*(Ot n j:Int):=by
 have a0:(0:Rat)<(d:Rat):=by exact_mod_cast D
 have k:∀x:Rat,0<=x->(x+1)≠0:=λx e h=>O4;have o:∀x:Rat,((a:Rat)+((a+b:Int):Rat)*x)+(((d-a:Int):Rat)+((d-(a+b):Int):Rat)*x)=(d:Rat)*(x+1):=λx=>O4;have l:∀x:Rat,0<=x->(d:Rat)*(x+1)≠0:=λx e h=>by grind
 have I:∀x:Rat,0<=x->Zj (sQ (λi=>(Ot n i:Int)) (Wij a (a+b) d n) (n+1)) x=Zj (mk (n+1) λj=>d^n*(Ot n j:Int)) x:=λx e=>by
  rw [Zx8,Zko];have N:=Yd1 (o x) (l x e) n;have P:=Yd1 (U:=x) (V:=1) (S:=x+1) rfl (k x e) n;have Q:Gd (λi=>(((Ot n i:Nat):Int):Rat)*Zj (Wij a (a+b) d n i) x) (n+1)=((d:Rat)*(x+1))^n:=by rw [<-N];exact Le _ λj s=>by rw [Ya3];rfl
  rw [Q,Zmv,<-P,<-Ev];refine Le _ λj s=>?_;rw [onepw];push_cast;grind
 have M:∀x:Rat,0<=x->Zj (mk (n+1) λj=>d^n*Ho n X j) x=Zj ((sQ (Ho n c) (Wij a (a+b) d n) (n+1)).map λq=>d^m*q) x:=λx e=>by
  rw [Zx,Zx8,Zko];have N:=Yn9 (o x) (l x e) hl;have P:=Yn9 (U:=x) (V:=1) (S:=x+1) rfl (k x e) hX;have Q:Gd (λi=>((Ho n c i:Int):Rat)*Zj (Wij a (a+b) d n i) x) (n+1)=((d:Rat)*(x+1))^n*Zj c (((a:Rat)+((a+b:Int):Rat)*x)/((d:Rat)*(x+1))):=by grind [Le,Ya3]
  have e4:Gd (λj=>((d^n*Ho n X j:Int):Rat)*x^j) (n+1)=(d:Rat)^n*Gd (λj=>(Ho n X j:Rat)*(x^j*1^(n-j))) (n+1):=by rw [<-Ev];refine Le _ λj s=>?_;grind [onepw,Zf3]
  all_goals grind [Zmv,Zf3]
 have y:=Zut I;have z:=Zut M;intro j s;have R:=y j;have v:=z j;rw [Md,aP s]at R v;rw [Cl]at v;have Y:=sQ_le (f:=Ho n c) (g:=λi=>(Ot n i:Int)) (W:=Wij a (a+b) d n) (B:=B) (Wij_nn ha O O w n) (n+1) hB j;rw [R]at Y;have H:0<d^n:=jC D;have F:0<=d^m:=dQ (jC D);have Z:((d^n*Ho n X j).natAbs:Int)=d^n*((Ho n X j).natAbs:Int):=by grind [Int.natAbs_mul]
 have h5:((d^m*cf (sQ (Ho n c) (Wij a (a+b) d n) (n+1)) j).natAbs:Int)=d^m*((cf (sQ (Ho n c) (Wij a (a+b) d n) (n+1)) j).natAbs:Int):=by grind [Int.natAbs_mul]
 have h6:=fT Y F;rw [<-h5,<-v,Z]at h6;refine jS (a:=d^n) ?_ H;grind
def Ypb:∀n,n<6->∀j,j<n+1->∀k,k<j+1->(Ot n j:Int)*w60 n j k=60*(Ot (n-k) (j-k):Int):=O3
theorem Zfj(f:Nat->Int)(a:Int):∀m,Yo (λk=>a*f k) m=a*Yo f m
 | 0=>by show(0)=a*0;simp
 | m+1=>by rw [Ys,Ys,Zfj f a m,jT]
theorem Ys2(g:1<=c.length/\c.length<=6){j:Nat}(e:j<c.length):(Ot (c.length-1) j:Int)*ctl c j (j+1)=60*Ho (c.length-1) c j:=by unfold ctl Ho;rw [<-Zfj,<-Zfj];refine Xl λk f=>?_;have:=Ypb (c.length-1) O j O k O;show(Ot _ j)*(cf c k*w60 _ j k)=60*(cf c k*_);grind
theorem Ynu{n j:Nat}(h:j<n+1):(0:Int)<(Ot n j:Int):=by grind [Zk6]
theorem Ydx(s:1<=c.length/\c.length<=6) : Zn3 c ov=true↔∀j,j<c.length->((Ho (c.length-1) c j).natAbs:Int)<=1048576*ov*(Ot (c.length-1) j:Int):=by
 have t:∀j,j<c.length->((((ctl c j _).natAbs)<=62914560*ov)↔((Ho _ c j).natAbs)<=1048576*ov*(Ot _ j)):=λj g=>by
  have k:=Ys2 s g;have f:=Ynu (n:=c.length-1) (j:=j) O;have l:=aD Int.natAbs k;rw [cE,cE]at l;generalize (ctl c j _).natAbs=x at *;generalize (Ho _ c j).natAbs=y at *;generalize Ot _ j=q at *;have o:(q:Int)*(x)=60*(y):=O4;constructor
  .intro h;have e:=fT h (dQ f);grind
  .intro h;have e:60*(y)<=(q)*(62914560*ov):=by grind
   rw [<-o]at e;exact jS e f
 constructor
 .intro h j g;unfold Zn3 at h;grind
 grind [Zzt]
def Qh : ((x.natAbs:Int)<=b)↔(-b<=x/\x<=b):=O
def bre00(c:List Int):Ho 0 c 0=cf c 0*1:=O12
def bre10(c:List Int):Ho 1 c 0=cf c 0*1:=O12
def bre11(c:List Int):Ho 1 c 1=cf c 0*1+cf c 1*1:=O12
def bre20(c:List Int):Ho 2 c 0=cf c 0*1:=O12
def bre21(c:List Int):Ho 2 c 1=cf c 0*2+cf c 1*1:=O12
def bre22(c:List Int):Ho 2 c 2=cf c 0*1+cf c 1*1+cf c 2*1:=O12
def bre30(c:List Int):Ho 3 c 0=cf c 0*1:=O12
def bre31(c:List Int):Ho 3 c 1=cf c 0*3+cf c 1*1:=O12
def bre32(c:List Int):Ho 3 c 2=cf c 0*3+cf c 1*2+cf c 2*1:=O12
def bre33(c:List Int):Ho 3 c 3=cf c 0*1+cf c 1*1+cf c 2*1+cf c 3*1:=O12
def bre40(c:List Int):Ho 4 c 0=cf c 0*1:=O12
def bre41(c:List Int):Ho 4 c 1=cf c 0*4+cf c 1*1:=O12
def bre42(c:List Int):Ho 4 c 2=cf c 0*6+cf c 1*3+cf c 2*1:=O12
def bre43(c:List Int):Ho 4 c 3=cf c 0*4+cf c 1*3+cf c 2*2+cf c 3*1:=O12
def bre44(c:List Int):Ho 4 c 4=cf c 0*1+cf c 1*1+cf c 2*1+cf c 3*1+cf c 4*1:=O12
def bre50(c:List Int):Ho 5 c 0=cf c 0*1:=O12
def bre51(c:List Int):Ho 5 c 1=cf c 0*5+cf c 1*1:=O12
def bre52(c:List Int):Ho 5 c 2=cf c 0*10+cf c 1*4+cf c 2*1:=O12
def bre53(c:List Int):Ho 5 c 3=cf c 0*10+cf c 1*6+cf c 2*3+cf c 3*1:=O12
def bre54(c:List Int):Ho 5 c 4=cf c 0*5+cf c 1*4+cf c 2*3+cf c 3*2+cf c 4*1:=O12
def bre55(c:List Int):Ho 5 c 5=cf c 0*1+cf c 1*1+cf c 2*1+cf c 3*1+cf c 4*1+cf c 5*1:=O12
theorem cf_brS{n:Nat}(t:n<6)(w:c.length<=n+1){M:Int}(h:∀j,j<n+1->((Ho n c j).natAbs:Int)<=M*(Ot n j:Int))(k:Nat):((cf c k).natAbs:Int)<=2047*M:=by
 have u:0<=M:=by have e:=h 0 O5;grind [Znv]
 by_cases v:k<n+1
 .rw [Qh]
  match n,t with
  | 0,_=>
   have e:=Qh.1 (h 0 O);rw [bre00,show(Ot 0 0:Int)=1 from rfl]at e;grind
  | 1,_=>
   have e:=Qh.1 (h 0 O);rw [bre10,show(Ot 1 0:Int)=1 from rfl]at e;have f:=Qh.1 (h 1 O);rw [bre11,show(Ot 1 1:Int)=1 from rfl]at f;grind
  | 2,_=>
   have e:=Qh.1 (h 0 O);rw [bre20,show(Ot 2 0:Int)=1 from rfl]at e;have f:=Qh.1 (h 1 O);rw [bre21,show(Ot 2 1:Int)=2 from rfl]at f;have g:=Qh.1 (h 2 O);rw [bre22,show(Ot 2 2:Int)=1 from rfl]at g;grind
  | 3,_=>
   have e:=Qh.1 (h 0 O);rw [bre30,show(Ot 3 0:Int)=1 from rfl]at e;have f:=Qh.1 (h 1 O);rw [bre31,show(Ot 3 1:Int)=3 from rfl]at f;have g:=Qh.1 (h 2 O);rw [bre32,show(Ot 3 2:Int)=3 from rfl]at g;have l:=Qh.1 (h 3 O);rw [bre33,show(Ot 3 3:Int)=1 from rfl]at l;grind
  | 4,_=>
   have e:=Qh.1 (h 0 O);rw [bre40,show(Ot 4 0:Int)=1 from rfl]at e;have f:=Qh.1 (h 1 O);rw [bre41,show(Ot 4 1:Int)=4 from rfl]at f;have g:=Qh.1 (h 2 O);rw [bre42,show(Ot 4 2:Int)=6 from rfl]at g;have l:=Qh.1 (h 3 O);rw [bre43,show(Ot 4 3:Int)=4 from rfl]at l;have o:=Qh.1 (h 4 O);rw [bre44,show(Ot 4 4:Int)=1 from rfl]at o;grind
  | 5,_=>
   have e:=Qh.1 (h 0 O);rw [bre50,show(Ot 5 0:Int)=1 from rfl]at e;have f:=Qh.1 (h 1 O);rw [bre51,show(Ot 5 1:Int)=5 from rfl]at f;have g:=Qh.1 (h 2 O);rw [bre52,show(Ot 5 2:Int)=10 from rfl]at g;have l:=Qh.1 (h 3 O);rw [bre53,show(Ot 5 3:Int)=10 from rfl]at l;have o:=Qh.1 (h 4 O);rw [bre54,show(Ot 5 4:Int)=5 from rfl]at o;have s:=Qh.1 (h 5 O);rw [bre55,show(Ot 5 5:Int)=1 from rfl]at s;grind
 grind [Yt]
structure AxC (c:List Int) (ov:Int):Prop where
 l:1<=c.length/\c.length<=6
 t:¬(1<c.length/\c.getD (c.length-1) 0=0)
 b:∀j,j<c.length->((Ho (c.length-1) c j).natAbs:Int)<=1048576*ov*(Ot (c.length-1) j:Int)
theorem AxC.of(h:axB c ov=true):AxC c ov:=by unfold axB at h;simp only [aY,fE,gQ,dI,fN]at h;have e:1<=c.length/\c.length<=6:=⟨h.1.1.1,h.1.1.2⟩;exact⟨e,λf=>O,(Ydx e).1 h.2⟩
def AxC.to(h:AxC c ov):axB c ov=true:=Yea h.l.1 h.l.2 h.t ((Ydx h.l).2 h.b)
def tzl_nz(e:c.getD (c.length-1) 0≠0):tzl c=c:=An (.inr e)
theorem Yoi(h:AxC c ov):(tzl c=c)\/c=[0]:=by
 by_cases e:c.getD (c.length-1) 0=0
 .have j:c.length=1:=by
   have k:=h.l;have f:=h.t;by_cases g:1<c.length
   .exact absurd ⟨g,e⟩ f
   .omega
  right
  match c,j with
  | [x],_=>simp at e;rw [e]
 .exact .inl (tzl_nz e)
theorem Zgv(h:AxC c ov){t u:Rat}(f:t*(d:Rat)=(a:Rat)+(b:Rat)*u):Zj (Ph c a b d) u=(d:Rat)^5*Zj c t:=by
 unfold Ph;rw [Zfq];rcases Yoi h with e|e
 .have g:=h.l;rw [e,Zl7 a b d f O,Zf3];have:(d:Rat)^5=(d:Rat)^(6-c.length)*(d:Rat)^(c.length-1):=by rw [<-Yom];congr 1;omega
  rw [this];grind
 .subst e;rw [show tzl [0]=[]from by decide,show Lh [] a b d=[]from rfl];show _*(0:Rat)=_*(((0:Int):Rat)+t*0);push_cast;grind
def Zhf (c:List Int)(a b d:Int):(Ph c a b d).length<=c.length:=aB (Pz _ _) (aB (Zfv _ _ _ _) (Mg c))
theorem Ydw(h:AxC c ov)(f:0<=a)(g:0<=b)(e:a+b<=d)(k:0<d):∀j,j<c.length->((Ho (c.length-1) (Ph c a b d) j).natAbs:Int)<=1048576*(ov*d^5)*(Ot (c.length-1) j:Int):=λj l=>by have v:=h.l;have s:=Zhf c a b d;have:=Ytx (c:=c) (X:=Ph c a b d) (n:=c.length-1) (m:=5) (B:=1048576*ov) O O f g e k (λt u o=>Zgv h o) (λj l=>h.b j O) j O;rw [eP]at this;rw [eP];rw [eP,<-eP ov]at this;exact this
theorem cf_cmp(h:AxC c ov)(f:0<=a)(g:0<=b)(e:a+b<=d)(l:0<d)(k:Nat):((cf (Ph c a b d) k).natAbs:Int)<=ov*d^5*2146435072:=by have t:=h.l;have o:=Zhf c a b d;have:=cf_brS (n:=c.length-1) O (c:=Ph c a b d) O (M:=1048576*(ov*d^5)) (λj s=>Ydw h f g e l j O) k;omega
theorem Zx0{g:Zv}(h:seB g=true):AxC g.2.1.2 g.1.2.2/\AxC g.2.2.1.2 g.1.2.2/\AxC g.2.2.2.2 g.1.2.2:=by have e:Zaz g.1.1 g.1.2.1 g.1.2.2 g.2.1.2 g.2.2.1.2 g.2.2.2.2=true:=h;unfold Zaz at e;simp only [aY]at e;exact⟨.of e.1.1.1.2,.of e.1.1.2,.of e.1.2⟩
theorem Yne{fr e:Int}{g:Zv}(f:SgG g)(h:Hc fr e g=true):0<=cA fr g-g.1.1/\0<cB e g-cA fr g/\(cA fr g-g.1.1)+(cB e g-cA fr g)<=g.1.2.1-g.1.1/\0<g.1.2.1-g.1.1:=by have l:=bW h;have j:=f.t1;have k:=f.t2;unfold cA cB at *;exact⟨O,O,O,O⟩
theorem Zyu{fr v:Int}{g:Zv}(hi:Gin g)(hs:seB g=true)(h:Hc fr v g=true):MdG fr v g:=by
 have f:SgG g:=Nz hi hs;obtain⟨B,D,F⟩:=Zx0 hs;obtain⟨H,I,M,N⟩:=Yne f h;obtain⟨t,u,-,-⟩:=cut_b f h;have V:=f.t3;have S:=f.t1;have Q:=f.o1;have R:=f.o2;have j:1<=g.1.2.1-g.1.1/\g.1.2.1-g.1.1<=3600000:=⟨O,O⟩;have w:=Zi8 f.hx f.lx t u j;have y:=Zi8 f.hy f.ly t u j;have z:=Zi8 f.hz f.lz t u j;have s:0<cO g:=fH O (jC O);have o:((cO g).natAbs:Int)=cO g:=O;have n:∀{c:List Int},AxC c g.1.2.2->∀k,(cf (cX fr v g c) k).natAbs<=(cO g).natAbs*2146435072:=λP k=>by
  have:=cf_cmp P H (dQ I) M N k;have e:(((cO g).natAbs*2146435072:Nat):Int)=cO g*2146435072:=by rw [gJ,o];rfl
  refine Int.ofNat_le.1 ?_;rw [e];exact this
 refine⟨s,?_,λi=>?_,λi=>?_,λi k=>?_⟩
 .have W:bl g.1.2.2.natAbs<=40:=(Qo 40 _).2 O;have Y:=Zjq j;have:=Yu g.1.2.2 ((g.1.2.1-g.1.1)^5);show bl (g.1.2.2*(g.1.2.1-g.1.1)^5).natAbs<=1000;omega
 .exact Ep (p:=λl:List Int=>Sz 1000 l) w.2.2.2.2.2.2.1 y.2.2.2.2.2.2.1 z.2.2.2.2.2.2.1
 .exact Ep (p:=λl:List Int=>l.length<=6) w.2.2.2.2.2.2.2 y.2.2.2.2.2.2.2 z.2.2.2.2.2.2.2
 .exact Ep (p:=λl:List Int=>(cf l k).natAbs<=(cO g).natAbs*2146435072) (n B k) (n D k) (n F k)
theorem Yrs(h:AxC c ov)(n:c.getD (c.length-1) 0≠0)(s:0<b)(w:0<d):(Ph c a b d).length=c.length:=by
 have B:=h.l;have z:=Zhf c a b d;rcases bA (Ph c a b d).length c.length with q|q
 .exfalso;have v:(b:Rat)≠0:=by
    have:(0:Rat)<(b:Rat):=by exact_mod_cast s
    grind
  have y:(d:Rat)≠0:=by
    have:(0:Rat)<(d:Rat):=by exact_mod_cast w
    grind
  have l:∀t:Rat,t*(d:Rat)=(a:Rat)+(b:Rat)*((t*d-a)/b):=λt=>O4;by_cases j:(Ph c a b d).length=0
  .have o:=aC j;have:∀t:Rat,Zj c t=0:=λt=>by
    have e:=Zgv h (l t);rw [o]at e;have f:(d:Rat)^5*Zj c t=0:=e.symm;have k:(d:Rat)^5≠0:=by rw [show(d:Rat)^5=d*d*d*d*d by rw [eG,eG,eG,eG,eG,iT];grind];grind
    grind
   exact n (Zqz this _)
  .have g:∀t:Rat,Zj ((Lh (Ph c a b d) (-a) d b).map λq=>1*q) t=Zj (c.map λq=>b^((Ph c a b d).length-1)*d^5*q) t:=λt=>by rw [Zx,Zx];have e:=Zgv h (l t);have f:=Zl7 (p:=Ph c a b d) (-a) d b (t:=(t*d-a)/b) (u:=t) (by push_cast;grind) j;rw [f,e];push_cast;rw [<-Zf3,<-Zf3];push_cast;grind
   have e:=Nq g (c.length-1);rw [Cl,Cl,Yt (by have:=Zfv (Ph c a b d) (-a) d b;omega)]at e;have f:b^((Ph c a b d).length-1)*d^5≠0:=bE (Int.pow_ne_zero O) (Int.pow_ne_zero O);have k:b^((Ph c a b d).length-1)*d^5*cf c (c.length-1)=0:=O;rcases Int.mul_eq_zero.1 k with q|q
   .exact f q
   .exact n q
 .omega
theorem Zzo{X:List Int}(f:0<G)(e:∀x∈X,G∣x)(i:Nat):cf (Hx X G) i*G=cf X i:=by
 unfold Hx;split
 .rename_i h;rw [aC h]
  match i with
  | 0=>show(0:Int)*G=cf [] 0;rw [cJ];rfl
  | i+1=>show(0:Int)*G=cf [] (i+1);rw [cJ];rfl
 .rw [Zf2 _ _ O5];by_cases hi:i<X.length
  .have:cf X i∈X:=Zd hi;exact lN (e _ this)
  .rw [Yt O];simp
theorem Yqm{X:List Int}(e:0<G)(f:∀x∈X,G∣x)(u:Rat):Zj (Hx X G) u*(G:Rat)=Zj X u:=by rw [kM,<-Zx];exact Mb u _ _ λi=>by rw [Cl,fD,Zzo e f]
theorem Zjk(f g:Nat->Int)(a:Int)(h:∀k,f k*a=g k):∀m,Yo f m*a=Yo g m
 | 0=>cJ _
 | m+1=>by rw [Ys,Ys,mQ,Zjk f g a h m,h]
theorem Ytw{X:List Int}(e:0<G)(f:∀x∈X,G∣x)(n j:Nat):Ho n (Hx X G) j*G=Ho n X j:=by unfold Ho;exact Zjk _ _ _ (λk=>by rw [Int.mul_right_comm,Zzo e f]) _
theorem Yrr(X:List Int)(G:Int):(Hx X G).length=max X.length 1:=by
 unfold Hx;split
 .rename_i h;rw [h];rfl
 .rw [aW];omega
theorem Zzz(h:AxC c ov){o:Int}(H:0<=a)(w:0<b)(s:a+b<=d)(y:0<d)(n:0<G)(B:∀x∈Ph c a b d,G∣x)(M:o*G=ov*d^5):AxC (Hx (Ph c a b d) G) o/\(Hx (Ph c a b d) G).length=c.length:=by
 have P:=h.l;have f:(Hx (Ph c a b d) G).length=c.length/\(1<c.length->(Ph c a b d).length=c.length):=by
  rw [Yrr];by_cases D:c.getD (c.length-1) 0=0
  .have:=h.t;have I:=Zhf c a b d;have g:c.length=1:=by
    by_cases k:1<c.length
    .exact absurd ⟨k,D⟩ this
    .omega
   exact⟨O,λk=>O⟩
  .have:=Yrs h D (a:=a) w y;exact⟨O,λ_=>this⟩
 refine⟨⟨O,λ⟨g,t⟩=>?_,λj z=>?_⟩,f.1⟩
 .rw [f.1]at g t;have k:cf (Hx (Ph c a b d) G) (c.length-1)=0:=t;have u:=Zzo n B (c.length-1);rw [k,cJ]at u;have l:=f.2 g;have N:Tr (Ph c a b d):=Ql _ _;have v:=N.mem (λe=>by rw [e]at l;simp at l;omega);rw [l]at v;exact v u.symm
 .rw [f.1]at z ⊢;have g:=Ydw h H (dQ w) s y j z;rw [<-Ytw n B,<-M,cE]at g;have F:((G.natAbs:Nat):Int)=G:=O;push_cast at g;rw [F]at g;refine Int.le_of_mul_le_mul_right (a:=G) ?_ n;refine Int.le_trans g (Int.le_of_eq ?_);grind
end Go.Sky

