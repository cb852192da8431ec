/- Rules, arithmetic and contracts: part 9. No conditions but those that each theorem names. -/
import Derived.Test.YteikicbnfbgpnaaGreatDd07
import Derived.RangeFuncFrom
import Derived.RangeFuncLeaves
import Derived.OrdersIn
import Derived.TacticsIn
import Derived.RangeFuncCalls
set_option linter.all false
namespace Go.Sky
variable{x y z c l1 l2 l3:List Int}{i:Nat}{a b v u:Value}{ov:Int}{f:Nat->Value}{zs:List (SL×List Int)}{s:SL}{d0:SL×List Int}{M M0:Nat->Prop}
variable {P:Program} {N:Nat} {sc:Nat->Prop} {env env':Pz} {H H':Hp}
def Hk(c:List Int)(g:Int):List Int:=if c.length=0 then [0]else c.map (· / g)
def mdO(ov g:Int):Int:=if ov/g<=4294967296 then ov/g else 0
def mdL(ov g:Int)(c:List Int):List Int:=if ov/g<=4294967296 then Hk c g else []
def Kk(ov:Int)(x y z:List Int):Int:=Ma ov (Mh 3 x y z)
structure Mdh (ov:Int) (x y z:List Int):Prop where
 o:0<ov
 b:bl ov.natAbs<=1000
 s:∀i,Sz 1000 (Zp i x y z)
 l:∀i,(Zp i x y z).length<=6
 c:∀i k,(cf (Zp i x y z) k).natAbs<=ov.natAbs*2146435072
def Zgo:∀(l:List Int) (g:Int),0<=g->0<=Ma g l
 | [],_,h=>h
 | x::l,g,h=>Zgo l _ (nU _)
theorem Yal:∀(l:List Int) (g:Int),Ma g l∣g/\∀x∈l,Ma g l∣x
 | [],g=>⟨Int.dvd_refl _,λx h=>nomatch h⟩
 | x::l,g=>by
  obtain⟨e,j⟩:=Yal l ((Int.gcd g x:Nat):Int);exact⟨iB e (kN ..),λy d=>by
   rcases bQ.1 d with rfl|d
   .exact iB e (jB ..)
   .exact j y d⟩
theorem Zw0{a:Int}(hi:i<3)(h:a∈Zp i x y z):a∈Mh 3 x y z:=by
 match i,hi with
 | 0,_=>exact cY.2 (.inl (cY.2 (.inl h)))
 | 1,_=>exact cY.2 (.inl (cY.2 (.inr h)))
 | 2,_=>exact cY.2 (.inr h)
theorem Mdh.g(h:Mdh ov x y z):0<Kk ov x y z/\Kk ov x y z∣ov/\∀i,i<3->∀a∈Zp i x y z,Kk ov x y z∣a:=by
 obtain⟨d,e⟩:=Yal (Mh 3 x y z) ov;have g:=Zgo (Mh 3 x y z) ov (eC h.o);have k:=h.o;refine⟨?_,d,λi hi a j=>e a (Zw0 hi j)⟩;rcases Int.lt_or_eq_of_le g with q|q
 .exact q
 .exact absurd (oB.1 (q▸d)) O
theorem Mdh.fc(h:Mdh ov x y z)(i k:Nat):bl (Ma (Ma ov (Mh i x y z)) ((Zp i x y z).take k)).natAbs<=1000:=by
 have g:∀i,∀a∈Zp i x y z,bl a.natAbs<=1000:=λi a d=>by obtain⟨j,o⟩:=mW.1 d;have:=h.s i j;unfold cf at this;rw [aG,o]at this;exact this
 have n:∀a∈Mh i x y z,bl a.natAbs<=1000:=λa d=>by
  unfold Mh at d;have e:=g 0;have l:=g 1;have m:=g 2;simp only [Zp]at e l m;split at d
  .cases d
  .exact e a d
  .rcases cY.1 d with q|q
   .exact e a q
   .exact l a q
  .rcases cY.1 d with q|q
   .rcases cY.1 q with q|q
    .exact e a q
    .exact l a q
   .exact m a q
 exact Zg8 (λa d=>g i a (eN d)) (Zg8 n h.b)
theorem Mdh.fit(h:Mdh ov x y z)(hs:ov/Kk ov x y z<=4294967296)(hi:i<3)(k:Nat):((Zp i x y z).getD k 0/Kk ov x y z).natAbs<=9223372036854775807:=by
 obtain⟨m,⟨s,e⟩,n⟩:=h.g;have r:Kk ov x y z∣(Zp i x y z).getD k 0:=by
  rcases bA k (Zp i x y z).length with q|q
  .exact n i hi _ (Zd (d:=0) q)
  .rw [aG,bF q];exact jN _
 obtain⟨t,l⟩:=r;have j:((Zp i x y z).getD k 0).natAbs<=ov.natAbs*2146435072:=h.c i k;generalize Kk ov x y z=g at *;rw [l,jT _ O];rw [e,jT _ O]at hs;rw [l,e,cH,cH,cT]at j;have p:=Nat.le_of_mul_le_mul_left j O;have w:=h.o;have B:0<s:=by
  rw [e]at w;by_cases q:0<s
  .exact q
  .have:=gM (eC m) (show s<=0 by omega);omega
 have o:s.natAbs*2146435072<=4294967296*2146435072:=aK _ O;exact aB p (aB o O3)
def mdO_t{g:Int}(h:ov/g<=4294967296):mdO ov g=ov/g:=aF h
def Zgj{g:Int}(h:ov/g<=4294967296):mdL ov g c=Hk c g:=aF h
def mdO_f{g:Int}(h:¬ov/g<=4294967296):mdO ov g=0:=aD h
def Yh7{g:Int}(h:¬ov/g<=4294967296):mdL ov g c=[]:=aD h
def dvL_0{g:Int}(h:c.length=0):Hk c g=[0]:=aF h
def dvL_n{g:Int}(h:c.length≠0):Hk c g=c.map (· / g):=aD h
theorem Zt1{g:Int}{k:Nat}(h:k<c.length):(c.take k).map (· / g) ++ [c.getD k 0/g]=(c.take (k+1)).map (· / g):=by rw [Pw 0 _ _ h,dY];rfl
abbrev C6 (a b c:Value) (f:Nat->Value):Array Value:=#[a,b,c,f 0,f 1,f 2]
def upd(f:Nat->Value)(i:Nat)(v:Value)(j:Nat):Value:=if j=i then v else f j
theorem c6_get{c:Value}(h:i<3):(C6 a b c f)[3+i]? = some (f i):=by
 match i,h with
 | 0,_=>rfl
 | 1,_=>rfl
 | 2,_=>rfl
theorem Ykx{c:Value}(h:i<3):(C6 a b c (upd f i v))[3+i]? = some v:=by rw [c6_get h];unfold upd;rw [aF rfl]
theorem c6_lay{c:Value}(h:i<3):Fp (C6 a b c (upd f i u)) (3+i) [v]=C6 a b c (upd f i v):=by
 match i,h with
 | 0,_=>rfl
 | 1,_=>rfl
 | 2,_=>rfl
theorem Zx2{c:Value}{g:Nat->Value}(h:∀j,j<3->f j=g j):C6 a b c f=C6 a b c g:=by unfold C6;rw [h 0 O3,h 1 O3,h 2 O3]
theorem p3_sel{b:Nat}(h:i<3):Zp i (Value.pointer (some ⟨b,3,none⟩)) (Value.pointer (some ⟨b,4,none⟩)) (Value.pointer (some ⟨b,5,none⟩))= .pointer (some ⟨b,3+i,none⟩):=by
 match i,h with
 | 0,_=>rfl
 | 1,_=>rfl
 | 2,_=>rfl
theorem c3_get{c:Value}(h:i<3):(#[a,b,c]:Array Value)[0+i*1]? = some (Zp i a b c):=by
 match i,h with
 | 0,_=>rfl
 | 1,_=>rfl
 | 2,_=>rfl
def fz(zs:List (SL×List Int))(j:Nat):Value:=Xn (zs.getD j ((none,0,0),[])).1
theorem fz_upd(h:zs.length=i)(j:Nat):fz zs j=upd (fz zs) i (.slice none 0 0) j:=by
 unfold upd;split
 .rename_i e;subst e;subst h;unfold fz;rw [aG,bF (aH _)];rfl
 .rfl
theorem Yan(h:zs.length=i)(j:Nat):upd (fz zs) i (Xn s) j=fz (zs ++ [(s,c)]) j:=by
 subst h;unfold upd fz;split
 .rename_i e;subst e;simp
 .rename_i e;rw [aG,aG];rcases bA j zs.length with q|q
  .rw [cW q]
  .rw [bF q,bF O8]
def Zgi{t:Nat}{f:Nat->List Int}(e:zs.length=i)(h:∀t,t<i->(zs.getD t d0).2=f t)(d:c=f i)(g:t<i+1):((zs ++ [(s,c)]).getD t d0).2=f t:=d▸Zvd e h g
theorem Yh6{g:Int}(k:zs.length=3)(h:∀t,t<3->(zs.getD t d0).2=Hk (Zp t x y z) g):∃l m n:SL,zs=[(l,Hk x g),(m,Hk y g),(n,Hk z g)]:=by
 match zs,k with
 | [o,p,q],_=>
  have d:=h 0 O3;have e:=h 1 O3;have j:=h 2 O3;simp [Zp]at d e j;exact⟨o.1,p.1,q.1,by rw [<-d,<-e,<-j]⟩
theorem Yfx{a b:Int} : 0<(a-b).sign↔¬a<=b:=by rw [sgp];omega
theorem t_st6  {o:Oper} {x y:Operand} {t j:TypeId} {b n:Nat} {e g h:Value}   {w0:World}  (D:o.op= .store t x y) (q:o.dst=none)
  (I:ev env x=some (.pointer (some ⟨b,3+n,none⟩))) (Q:ev env y=some v) (m:lk H i=some (box b j (C6 e g h (upd f n u)))) (d:i≠0) (r:∀w,(sizeOf t).run P w= .ok 1 w) (B:n<3) (l:One N sc env H v)
  (k:lk H 0=some (Xx w0 M0)) (F:∀b,w0.heap.size<=b->sc b) (p:M b) :
  T P N sc M o env H (G:=Unit) (λ_=>True) (λ_=>env) (λ_=>(i,box b j (C6 e g h (upd f n v)))::H):=by
 have:=t_stp1 (P:=P) (N:=N) (sc:=sc) (M:=M) D q I Q m d r (by show Nat.ble (3+n+1) 6=true;simp;omega) l k F p;rw [c6_lay B]at this;exact this
theorem bl_dlq{a b:Int}{n:Nat}(h:bl a.natAbs<=n)(e:0<b)(d:0<=a):bl (a/b).natAbs<=n:=(Qm n _).2 (aZ (by have g:=mI b d;have j:=iQ d (eC e);omega) ((Qm n _).1 h))
theorem Yi1{n:Nat}(h:∀z∈zs,∀b,(Xn z.1).ownBlock=some b->n<=b)(d:∀b,(Xn s).ownBlock=some b->n<=b):∀z∈zs ++ [(s,c)],∀b,(Xn z.1).ownBlock=some b->n<=b:=λz e=>by
 rcases cY.1 e with q|q
 .exact h z q
 .rw [bE.1 q];exact d
theorem fr3{n:Nat}{e g j:SL}{k l m:List Int}(h:∀z∈[(e,k),(g,l),(j,m)],∀b,(Xn z.1).ownBlock=some b->n<=b):∀p∈[Yw 1 Yl (Xn e) l1,Yw 1 Yl (Xn g) l2,Yw 1 Yl (Xn j) l3],∀b,p.fp b->n<=b:=λp o b d=>by
 simp only [bQ,fQ,lJ]at o;rcases o with rfl|rfl|rfl
 .exact h (e,k) O5 b d.2
 .exact h (g,l) O5 b d.2
 .exact h (j,m) O5 b d.2
theorem fr0{n:Nat} : ∀p∈[Yw 1 Yl (Xn (none,0,0)) l1,Yw 1 Yl (Xn (none,0,0)) l2,Yw 1 Yl (Xn (none,0,0)) l3],∀b,p.fp b->n<=b:=λp d b e=>by simp only [bQ,fQ,lJ]at d;rcases d with rfl|rfl|rfl<;>cases e.2
end Go.Sky
namespace Go.Sky
open Go.RowKit (Below)
variable {P:Program} {N:Nat} {sc:Nat->Prop} {env env':Pz} {H H':Hp} {Q Q':Exit->Act->World->Prop}
def Ygd{n:Nat}{a:String}{args:Array Value}{w:World}{R:Value->World->Prop}(h:Rows P a args w R):RowsIn Fence.wide n P a args w R:=λc b _=>
 let ⟨v,w',r,s⟩:=h c b;⟨v,w',r,stepsIn_wide.2 s⟩
def noQ:Exit->Act->World->Prop:=λ_ _ _=>False
section
variable {ops:Array Oper} {C:World->World->Prop}
def wpAnyZ(P:Program)(ops:Array Oper)(ts:List Nat)(C:World->World->Prop)(Q:Exit->Act->World->Prop):Nat->Array Bool->Act->World->Prop
 | 0,_,_,_=>False
 | c+1,b,a,w=>if Cn ops ts b=true then wpAnyIn Fence.wide 0 P .any ops Q (c+1) b a w else
  (Region.ready .any ops b=[]->False)/\
  ∀i∈Region.ready .any ops b,wpOp P ops noQ i (λe d=>C w d/\wpAnyZ P ops ts C Q c (b.setIfInBounds i true) e d) a w
inductive Dep (ops:Array Oper) (i:Nat):Nat->Prop
 | base {j:Nat} {o:Oper} {e:Edge} : ops[j]? = some o->e∈o.after->Region.binds .any e=true->e.on=i->Dep ops i j
 | step {j:Nat} {o:Oper} {e:Edge} : ops[j]? = some o->e∈o.after->Region.binds .any e=true->Dep ops i e.on->Dep ops i j
def Yjv(ops:Array Oper)(i:Nat):Nat->List Nat
 | 0=>[]
 | k+1=>match ops[k]? with
  | some o=>if o.after.any (λe=>Region.binds .any e && (e.on == i || (Yjv ops i k).contains e.on))then k::Yjv ops i k else Yjv ops i k
  | none=>Yjv ops i k
def Clo(ops:Array Oper)(a:Array Bool):Prop:=∀k o,ops[k]? = some o->a.getD k true=true->∀e∈o.after,Region.binds .any e=true->a.getD e.on true=true
theorem Yn5{l:Array Bool}{x:Nat}(h:l.getD x false=true):l.getD x true=true:=by rcases bA x l.size with a|a<;>simp_all
theorem Clo.set{a:Array Bool}{j:Nat}(n:Clo ops a)(p:j∈Region.ready .any ops a):Clo ops (a.setIfInBounds j true):=λk o f m e l i=>by
 obtain⟨q,r,g,b⟩:=mem_ready.1 p;have h:a.getD e.on true=true:=by
  by_cases d:j=k
  .subst d;rw [g]at f;cases f;exact Yn5 (b _ l i)
  .rw [getD_set_ne true d]at m;exact n k o f m e l i
 by_cases c:j=e.on
 .subst c;by_cases hs:e.on<a.size<;>simp_all
 .rw [getD_set_ne true c];exact h
end
def Zzr(ops:Array Oper)(ts:List Nat):List (Nat×Nat)->Array Bool->Bool
 | [],_=>true
 | (i,1)::rest,listed=>(Region.ready .any ops listed == [i]) && !(Cn ops ts listed) && Zzr ops ts rest (listed.setIfInBounds i true)
 | (i,3)::rest,listed=>false
 | (i,_)::rest,listed=>(Region.ready .any ops listed).contains i && Region.free .any ops listed i && !(ts.contains i) && ts.all (λj=>(Yjv ops i ops.size).contains j) && Zzr ops ts rest (listed.setIfInBounds i true)
def YL(P:Program)(N:Nat)(sc:Nat->Prop)(ops:Array Oper)(Q:Exit->Act->World->Prop)(k:Nat)(b:Array Bool)(env:Pz)(H:Hp):Prop:=
 ∀a w,Sat N sc env H a w->wpAnyIn Fence.wide 0 P .any ops Q (k+1) b a w
end Go.Sky
namespace Go.Sky
open Go.RowKit (Below)
variable {P:Program} {N:Nat} {sc:Nat->Prop} {env env':Pz} {H H':Hp} {Q Q':Exit->Act->World->Prop}
def CalY(P:Program)(f:FuncId)(d:List Value)(pre:List Pc)(i:Prop){G:Type}(j:G->Prop)(h:G->Value):Prop:=
 ∀(l:Nat) (J:World->Prop) (w:World),(∀p∈pre,p.holds w)->
  (∀g,j g->∀a,Below w.heap.size w a->YieldAt Fence.wide 0 P l #[h g] a λe c=>e= .returned (.bool false)/\J c)->
  Calls P f (.func (.yield l) #[] #[]::d).toArray w λe b=>(∃v,e= .returned v)/\((i/\Below w.heap.size w b)\/J b)
def FPostY(P:Program)(fn:Func)(w0:World)(b:Prop)(J:World->Prop):Exit->Act->World->Prop:=
 bodyPost P fn λe a=>(∃v,e= .returned v)/\((b/\Below w0.heap.size w0 a)\/J a)
def YJ(P:Program)(w0:World)(l:Nat){G:Type}(d:G->Prop)(c:G->Value)(J:World->Prop):Prop:=
 ∀g,d g->∀a,Below w0.heap.size w0 a->YieldAt Fence.wide 0 P l #[c g] a λe b=>e= .returned (.bool false)/\J b
theorem Ygh{fn:Func}{tmps:Array Value}{w:World}(a:fn.results=#[]):(results fn tmps).run P w= .ok (.tuple #[]) w:=by rw [Zk2,a];simp
end Go.Sky
namespace Go.Sky
open Go.RowKit (Below)
variable {P:Program} {N:Nat} {sc:Nat->Prop} {env env':Pz} {H H':Hp} {Q Q':Exit->Act->World->Prop}
end Go.Sky
namespace Go.Sky
open Go.RowKit (Below)
variable{f:FuncId}{vs:List Value}{pre:List Pc}{o:Oper}{a:Act}{w:World}{K K':Act->World->Prop}{r:Nat}{ρ:Operand->Value}{Q1:Exit->Act->World->Prop}
variable {P:Program} {N:Nat} {sc:Nat->Prop} {env env':Pz} {H H':Hp} {Q Q':Exit->Act->World->Prop}
def Zih(P:Program)(fn:Func)(w0:World)(pre:List Pc)(al:Bool){G:Type}(φ:G->Prop)(Yr:G->Value)(c:G->List Pc):Exit->Act->World->Prop:=
  bodyPostM Fence.wide 0 P fn λe d => ∃ g, e = .returned (Yr g) /\ φ g /\ Below w0.heap.size w0 d /\
        ∀p∈c g,p.holds d/\p.own=false/\∀b,p.fp b->w0.heap.size<=b\/(al=true/\∃q∈pre,q.fp b)
theorem Ypk  {fn:Func} {c:Code}   {al:Bool} {G:Type} {φ:G->Prop} {Yr:G->Value} {k:G->List Pc} {N:Nat}
    (F:P.funcs[f]? = some fn) (d:fn.body=some c) (B:fn.ntmps=N) (s:Nat.ble vs.length N=true) (y:AllRo pre)
    (h:∀w0 (sc:Nat->Prop),(∀b,w0.heap.size<=b->sc b)->(∀b,sc b->w0.heap.size<=b\/∃q∈pre,q.fp b)->
      E P N sc c (Zih P fn w0 pre al φ Yr k) (Of 0 vs) ((0,Xx w0 (λ_=>False))::Qt 1 pre)) :
    Cal P f vs.toArray pre al φ Yr k:=λw M=>by
  refine(callsIn_wide (n:=0)).1 (callsIn_of_wp_marks F d aA (wpIn_wide.2 (h w (λb=>w.heap.size<=b\/∃q∈pre,q.fp b) (λb d=> .inl d) (λb d=>d) _ w ?_)));have z:vs.length<=N:=by simpa using s
  refine⟨by simp [B];omega,rfl,λt v R=>?_,λi p hi=>?_,λi j p q I hi S x b d D=>?_,λi p m hi b d=>?_⟩
  . have l:=(Fh vs 0 t v R).2;have l:vs.toArray[t]? = some v:=by simpa using l
    have u:=(bB.1 l).1;rw [bP,eU u,l];rfl
  . by_cases g:0=i
    . subst g;rw [Yn]at hi;cases hi;exact Chg.refl _ w
    . rw [Zy _ _ g]at hi;exact M p (Mg pre 1 i p hi).2
  . by_cases g:0=i
    . subst g;rw [Yn]at hi;cases hi;cases x
    . rw [Zy _ _ g]at hi;rw [y.mem p (Mg pre 1 i p hi).2]at x;cases x
  . rw [Zy _ _ (λe=>m e.symm)]at hi;exact .inr ⟨p,(Mg pre 1 i p hi).2,d⟩
def onlyR(Q:Exit->Act->World->Prop):Exit->Act->World->Prop:=Et Q
def Bf:¬LetsOut (Et Q):=λ⟨_,_,h⟩=>h
theorem Ynh(d:∀c,o.op≠ .defer c)(h:o.wp P a w K (Et Q)):o.wpIn (Fence.wide.inRound r) 0 P a w K Q:=by
  refine⟨λ_ _=>trivial,?_⟩;unfold Oper.wp at h;show o.uponIn (Fence.wide.inRound r) 0 P a K Q ((o.semAt (some r) a.eval).run P w);rw [Oper.semAt_some r _ o d];generalize (execOp a.eval o).run P w=x at *;cases x with
  | ok n g=>
    cases n<;>simp only [Oper.upon,Oper.uponIn]at h ⊢
    case value=>exact h
    case skip=>exact h
    case defer=>exact h
    case enter f args=>
      refine⟨λh=>(by cases h),CallsIn.inRound r (callsIn_wide.2 (h.mono λe i b=>?_))⟩;cases e with
      | returned v=>exact b
      | panicked c=>exact b.elim
      | outgrown=>exact absurd b Bf
    case row row args=>exact⟨λh=>(by cases h),Ygd (n:=0) h⟩
  | halt x g=>
    cases x<;>simp only [Oper.upon]at h
    case panic u=>exact h.elim
def Zqc(l:List Oper):Prop:=∀o∈l,∀c,o.op≠ .defer c
theorem Zqj{ops:Array Oper}{r:Nat} : ∀(l:List Oper) (a:Act) (w:World),Zqc l->wpList P ops (Et Q) l a w->wpListIn (Fence.wide.inRound r) 0 P ops Q l a w
  | [],_,_,_,h=>h
  | o::l,a,w,hnd,h=>by
    unfold wpList at h;unfold wpListIn;split
    . rename_i c;simp only [c,lW]at h;exact Oper.wpIn_mono (λa w d=>Zqj l a w (λo b=>hnd o (bI _ b)) d) (Ynh (hnd o (bR ..)) (h.resolve_right λh=>Bf h.2))
    . rename_i c;simp only [c]at h;exact⟨λ_ _=>trivial,Zqj l _ w (λo b=>hnd o (bI _ b)) h⟩
def Ygj{id:Nat}{l:List Oper}(b:Zqc l)(h:L P N sc l.toArray l (Et Q) env H)(hs:Sat N sc env H a w):(Code.region id l.toArray false).wpIn (Fence.wide.inRound r) 0 P Q a w:=
  wpIn_region_lit (Zqj l a w b (h a w hs))
def fx(l:Nat)(o:Obj):Pc:=
  { own:=false,fp:=λb=>b=l,holds:=λw=>w.heap[l]? = some o
    lt:=λw b h c=>by subst c;exact(bB.1 h).1
    stable:=λw g h d=>(d.block l (bB.1 h).1 (λe=>e rfl)).trans h }
def Zf9(o:Oper):Bool:=match o.op with
  | .build ..=>true
  | .store ..=>true
  | .load ..=>true
  | .alloc ..=>true
  | _=>false
theorem Yhd(h:Zf9 o=true){w':World}{d:Deferred} : (execOp ρ o).run P w≠ .ok (.defer d) w':=λb=>by
  unfold Zf9 at h;cases ho:o.op<;>simp only [ho]at h<;>try (cases h;done)
  all_goals
    simp only [execOp,ho,Sem.run_bind]at b;revert b;generalize Sem.run P _ w=r;cases r<;>simp [Result.andThen,Sem.run_pure]
theorem Zlb(a:Act)(ds:List Deferred)(d:Option Tmp)(v:Value):({ a with defers:=ds } : Act).put d v={ a.put d v with defers:=ds }:=by cases d<;>rfl
theorem Yni    {ds:List Deferred}   (i:Zf9 o=true) (g:∀a w,K a w->K' { a with defers:=ds } w)
    (k:∀e a w,¬Q1 e a w) (h:o.wp P a w K Q1):o.wp P { a with defers:=ds } w K' Q:=by
  unfold Oper.wp at h ⊢;have j:=λd w'=>Yhd (P:=P) i (ρ:=a.eval) (w:=w) (w':=w') (d:=d);show o.upon P _ K' Q ((execOp a.eval o).run P w);generalize (execOp a.eval o).run P w=x at *;cases x with
  | ok n w'=>
    cases n<;>simp only [Oper.upon]at h ⊢
    case value=>rw [Zlb];exact g _ _ h
    case skip=>rw [Zlb];exact g _ _ h
    case defer d=>exact absurd rfl (j d w')
    case enter f args=>
      refine h.mono λe l b=>?_;cases e with
      | returned v=>show K' (({ a with defers:=ds } : Act).put o.dst v) l;rw [Zlb];exact g _ _ b
      | panicked c=>exact(k _ _ _ b).elim
      | outgrown=>obtain⟨_,_,h⟩:=b;exact(k _ _ _ h).elim
    case row row args=>exact h.mono λ_ _ b=>by rw [Zlb];exact g _ _ b
  | halt x w'=>
    cases x<;>simp only [Oper.upon]at h
    case panic u=>exact(k _ _ _ h).elim
theorem Zqk{ops:Array Oper}{ds:List Deferred} : ∀(l:List Oper) (a:Act) (w:World),l.all Zf9=true->wpList P ops (Et λe a w=>Q e { a with defers:=ds } w) l a w->wpList P ops Q l { a with defers:=ds } w
  | [],_,_,_,h=>h
  | o::l,a,w,hnd,h=>by
    simp only [nO,aQ]at hnd;unfold wpList at h ⊢;split
    . rename_i d;simp only [d,lW]at h;have h:=h.resolve_right λh=>Bf h.2;refine .inl (Yni (Q1:=noQ) hnd.1 (λa w g=>Zqk l a w hnd.2 g) (λ_ _ _ h=>h) ?_);unfold Oper.wp at h ⊢;revert h;generalize (execOp a.eval o).run P w=x;intro h;cases x with
      | ok n i=>
        cases n<;>simp only [Oper.upon]at h ⊢
        case value=>exact h
        case skip=>exact h
        case defer=>exact h
        case enter f args=>
          refine h.mono λe j b=>?_;cases e with
          | returned v=>exact b
          | panicked c=>exact b
          | outgrown=>exact absurd b Bf
        case row row args=>exact h
      | halt x i=>
        cases x<;>simp only [Oper.upon]at h ⊢
        case panic u=>exact h
    . rename_i d;rw [aD d]at h;rw [Zlb];exact Zqk l _ w hnd.2 h
end Go.Sky
namespace Go.Sky
open Go.RowKit (Below)
variable{a:Act}{w:World}{i:Nat}
variable {P:Program} {N:Nat} {sc:Nat->Prop} {env env':Pz} {H H':Hp} {Q Q':Exit->Act->World->Prop}
abbrev ALL:Nat->Prop:=λ_=>True
def FpSub:Hp->Hp->Prop
 | [],_=>True
 | (i,p)::r,H=>(∃q,lk H i=some q/\p.own=q.own/\∀b,p.fp b->q.fp b)/\FpSub r H
theorem FpSub.lk:∀{H' H:Hp},FpSub H' H->∀i p,lk H' i=some p->∃q,lk H i=some q/\p.own=q.own/\∀b,p.fp b->q.fp b
 | [],_,_,_,_,h=>by cases h
 | (k,u)::r,H,h,i,p,hi=>by
  by_cases c:k=i
  .subst c;rw [Yn]at hi;cases hi;exact h.1
  .rw [Zy _ _ c]at hi;exact FpSub.lk h.2 i p hi
theorem Sat.re{w':World}(hs:Sat N sc env H a w)(l:∀i p,lk H' i=some p->∃q,lk H i=some q/\p.own=q.own/\∀b,p.fp b->q.fp b)(n:∀i p,lk H' i=some p->p.holds w'):Sat N ALL env H' a w':=
 ⟨hs.size,hs.defers,hs.env,n,λi j p q f hi o r b m c=>by obtain⟨s,h,g,d⟩:=l i p hi;obtain⟨t,k,_,e⟩:=l j q o;exact hs.sep i j s t f h k (g▸r) b (d b m) (e b c),λ_ _ _ _ _ _=>trivial⟩
def FpN:Hp->Hp->Prop
 | [],_=>True
 | (i,p)::r,H=>(p.own=true\/∃q,lk H i=some q/\∀b,p.fp b->q.fp b)/\FpN r H
theorem FpN.lk:∀{H' H:Hp},FpN H' H->∀i p,lk H' i=some p->p.own=true\/∃q,lk H i=some q/\∀b,p.fp b->q.fp b
 | [],_,_,_,_,h=>by cases h
 | (k,u)::r,H,h,i,p,hi=>by
  by_cases c:k=i
  .subst c;rw [Yn]at hi;cases hi;exact h.1
  .rw [Zy _ _ c]at hi;exact FpN.lk h.2 i p hi
theorem lk3{p q:Pc}{r:Pc}(h:lk ((90,p)::(91,q)::H) i=some r):(i=90/\r=p)\/(i=91/\r=q)\/(i≠90/\i≠91/\lk H i=some r):=by
 by_cases b:90=i
 .subst b;rw [Yn]at h;cases h;exact .inl ⟨rfl,rfl⟩
 .rw [Zy _ _ b]at h;by_cases c:91=i
  .subst c;rw [Yn]at h;cases h;exact .inr (.inl ⟨rfl,rfl⟩)
  .rw [Zy _ _ c]at h;exact .inr (.inr ⟨λe=>b e.symm,λe=>c e.symm,h⟩)
theorem lk3'{p q:Pc}(b:i≠90)(c:i≠91):lk ((90,p)::(91,q)::H) i=lk H i:=by rw [Zy _ _ (λe=>b e.symm),Zy _ _ (λe=>c e.symm)]
theorem Sat.turn{l D:Nat}{o m g:Obj}(hs:Sat N ALL env ((90,fx l o)::(91,fx D g)::H) a w)(f:l≠D)(r:∀i p,i≠90->i≠91->lk H i=some p->¬p.fp l) :
  Sat N ALL env ((90,fx l m)::(91,fx D g)::H) a (w.putObj l m):=by
 have q:w.heap[l]? = some o:=hs.hold 90 _ rfl;have n:w.heap[D]? = some g:=hs.hold 91 _ rfl;refine hs.re (λi p hi=>?_) (λi p hi=>?_)
 .rcases lk3 hi with⟨rfl,rfl⟩|⟨rfl,rfl⟩|⟨b,c,hi⟩
  .exact⟨_,rfl,rfl,λ_ h=>h⟩
  .exact⟨_,rfl,rfl,λ_ h=>h⟩
  .exact⟨p,by rw [lk3' b c];exact hi,rfl,λ_ h=>h⟩
 .rcases lk3 hi with⟨rfl,rfl⟩|⟨rfl,rfl⟩|⟨b,c,j⟩
  .exact World.putObj_heap_same (bB.1 q).1
  .exact(World.putObj_heap_other (λe=>f e.symm)).trans n
  .refine p.stable _ _ (hs.hold i p (by rw [lk3' b c];exact j)) ⟨rfl,rfl,rfl,O5,λk s d=>World.putObj_heap_other (λe=>d ?_)⟩;subst e;exact r i p b c j
theorem Sat.round(hs:Sat N sc env H a w)(d:Nat)(v:Value)(b:Nat.blt d N=true):Sat N sc ((d,v)::env) H { tmps:=(#[d].zip #[v]).foldl (λt (p,v)=>t.setIfInBounds p v) a.tmps,defers:=[] } w:=by
 have h:=hs.put d v b;have e:(a.put (some d) v)={ tmps:=(#[d].zip #[v]).foldl (λt (p,v)=>t.setIfInBounds p v) a.tmps,defers:=[] }:=by show({ a with tmps:=a.tmps.setIfInBounds d v } : Act)=_;rw [<-hs.defers];simp
 rw [<-e];exact h
theorem Im{ops:Array Oper}{Q1 k:Exit->Act->World->Prop}(b:∀e a w,Q1 e a w->k e a w):∀(l:List Oper) (a:Act) (w:World),wpList P ops Q1 l a w->wpList P ops k l a w
 | [],_,_,h=>b _ _ _ h
 | o::l,a,w,h=>by
  unfold wpList at h ⊢;split
  .rename_i g;rw [aF g]at h;rcases h with h|⟨p,m,j,q⟩
   .refine .inl ?_;unfold Oper.wp at h ⊢;revert h;generalize (execOp a.eval o).run P w=x;intro h;cases x with
    | ok n j=>
     cases n<;>simp only [Oper.upon]at h ⊢
     case value=>exact Im b l _ _ h
     case skip=>exact Im b l _ _ h
     case defer=>exact Im b l _ _ h
     case enter f args=>
      refine h.mono λe r d=>?_;cases e with
      | returned v=>exact Im b l _ _ d
      | panicked c=>exact b _ _ _ d
      | outgrown=>obtain⟨a,w,h⟩:=d;exact⟨a,w,b _ _ _ h⟩
     case row row args=>exact h.mono λ_ _ d=>Im b l _ _ d
    | halt x j=>
     cases x<;>simp only [Oper.upon]at h ⊢
     case panic u=>exact b _ _ _ h
   .exact .inr ⟨p,m,j,b _ _ _ q⟩
  .rename_i g;rw [aD g]at h;exact Im b l _ _ h
end Go.Sky
namespace Go.Sky
open Go.RowKit (Below)
variable{f:FuncId}{fn:Func}{lb vs:List Value}{pre:List Pc}{ops:Array Oper}{o:Oper}{ts:Array Value}{rest:List Oper}{d:Nat}{w0 W:World}{M:Nat->Prop}{x:Operand}{ops':List Operand}{tys:Array TypeId}{Jx:World->Prop}
variable {P:Program} {N:Nat} {sc:Nat->Prop} {env env':Pz} {H H':Hp} {Q Q':Exit->Act->World->Prop}
def YJI(P:Program)(w0:World)(l:Nat)(M:Nat->Prop)(J:Nat->World->Prop)(Jx:World->Prop){α G:Type}(xs:List α)(ys:α->G->List Value)(h:α->G->List Pc):Prop:=
 ∀k x g,xs[k]? = some x->∀W a,J k W->w0.heap.size<=W.heap.size->Below W.heap.size W a->(∀p∈h x g,p.holds a/\p.own=false/\∀b,p.fp b->W.heap.size<=b)->
  YieldAt Fence.wide 0 P l (ys x g).toArray a λe c=>(e= .returned (.bool true)/\J (k+1) c/\Chg (λb=>M b\/w0.heap.size<=b) a c)\/(e= .returned (.bool false)/\Jx c/\Chg (λb=>M b\/w0.heap.size<=b) a c)
def Zm6(J:World->Prop):Prop:=∀W a,J W->Below W.heap.size W a->J a
def CalI(P:Program)(f:FuncId)(lb:List Value)(pre:List Pc){α G:Type}(xs:List α)(ys:α->G->List Value)(a:α->G->List Pc):Prop:=
 ∀(l:Nat) (M:Nat->Prop) (J:Nat->World->Prop) (Jx:World->Prop) (w:World),
  (∀p∈pre,p.holds w)->(∀p∈pre,∀b,p.fp b->¬M b)->(∀k,Zm6 (J k))->Zm6 Jx->J 0 w->YJI P w l M J Jx xs ys a->
  Calls P f (.func (.yield l) #[] #[]::lb).toArray w λe c=>(∃v,e= .returned v)/\(J xs.length c\/Jx c)
def Ylo(P:Program)(fn:Func)(n:Nat)(J:Nat->World->Prop)(Jx:World->Prop):Exit->Act->World->Prop:=
 bodyPost P fn λe a=>(∃v,e= .returned v)/\(J n a\/Jx a)
theorem Ypj   {c:Code}   {α G:Type} {xs:List α} {ys:α->G->List Value} {n:α->G->List Pc} {N:Nat}
  (hf:P.funcs[f]? = some fn) (a:fn.body=some c) (V:fn.ntmps=N) (z:Nat.ble (lb.length+1) N=true) (F:AllRo pre)
  (h:∀(l:Nat) (M:Nat->Prop) (J:Nat->World->Prop) (Jx:World->Prop) w0 (sc:Nat->Prop),(∀b,w0.heap.size<=b->sc b)->(∀p∈pre,∀b,p.fp b->b<w0.heap.size/\¬M b)->(∀k,Zm6 (J k))->Zm6 Jx->J 0 w0->YJI P w0 l M J Jx xs ys n->
   E P N sc c (Ylo P fn xs.length J Jx) (Of 0 (.func (.yield l) #[] #[]::lb)) ((0,Xx w0 (λ_=>False))::Qt 1 pre)) :
  CalI P f lb pre xs ys n:=λl M J Jx w R hm S u s Y=>by
 refine calls_of_wp hf a (h l M J Jx w (λb=>w.heap.size<=b\/∃q∈pre,q.fp b) (λb a=> .inl a) (λp m b a=>⟨p.lt w b (R p m) a,hm p m b a⟩) S u s Y _ w ?_);have I:lb.length+1<=N:=by simpa using z
 refine⟨by simp [V];omega,rfl,λt v ht=>?_,λi p hi=>?_,λi j p q a0 hi hj D b a Z=>?_,λi p y hi b a=>?_⟩
 .have r:=(Fh (.func (.yield l) #[] #[]::lb) 0 t v ht).2;have r:(Value.func (.yield l) #[] #[]::lb).toArray[t]? = some v:=by simpa using r
  have B:=(bB.1 r).1;rw [bP,eU B,r];rfl
 .by_cases g:0=i
  .subst g;rw [Yn]at hi;cases hi;exact Chg.refl _ w
  .rw [Zy _ _ g]at hi;exact R p (Mg pre 1 i p hi).2
 .by_cases g:0=i
  .subst g;rw [Yn]at hi;cases hi;cases D
  .rw [Zy _ _ g]at hi;rw [F.mem p (Mg pre 1 i p hi).2]at D;cases D
 .rw [Zy _ _ (λe=>y e.symm)]at hi;exact .inr ⟨p,(Mg pre 1 i p hi).2,a⟩
def LI(P:Program)(N:Nat)(sc:Nat->Prop)(ops:Array Oper)(rest:List Oper)(Q:Exit->Act->World->Prop)(env:Pz)(H:Hp):Prop:=
 ∀a w,Sat N sc env H a w->wpListIn Fence.wide 0 P ops Q rest a w
def e_li{id:Nat}{l:List Oper}(h:LI P N sc l.toArray l Q env H):E P N sc (.region id l.toArray false) Q env H:=λa w hs=>
 (wpIn_wide (n:=0)).1 (wpIn_region_lit (h a w hs))
theorem Zii(a:o.guard=none):Region.wanted o (yielded ops ts)=true:=by simp [Region.wanted,a]
theorem Zlt{v:Value}(g:Mx P N sc o env H v)(e:o.guard=none)(c:o.dst=some d)(b:Nat.blt d N=true)(h:LI P N sc ops rest Q ((d,v)::env) H):LI P N sc ops (o::rest) Q env H:=λa w hs=>by unfold wpListIn;rw [aF (Zii e)];refine⟨λ_ _=>trivial,?_⟩;show o.uponIn Fence.wide 0 P a _ Q ((execOp a.eval o).run P w);rw [g a w hs];show wpListIn Fence.wide 0 P ops Q rest (a.put o.dst v) w;rw [c];exact h _ w (hs.put d v b)
def Yih(h:X N sc .normal Q env H):LI P N sc ops [] Q env H:=λa w hs=>h a w hs
theorem Sat.base {u r:World}   {a:Act} (hs:Sat N sc env H a u) (n:∀p∈pre,∀b,p.fp b->b<w0.heap.size/\¬M b) (t:AllRo pre) (c:HSub (Qt 1 pre) H)
  (l:Chg (λb=>M b\/w0.heap.size<=b) u r):Sat N sc env ((0,Xx r (λ_=>False))::Qt 1 pre) a r:=by
 refine⟨hs.size,hs.defers,hs.env,λi p hi=>?_,λi j p q D hi G s b v w=>?_,λi p m hi b v=>?_⟩
 .by_cases g:0=i
  .subst g;rw [Yn]at hi;cases hi;exact Chg.refl _ _
  .rw [Zy _ _ g]at hi;have F:=(Mg pre 1 i p hi).2;refine p.stable _ _ (hs.hold i p (c.lk i p hi)) ⟨l.os,l.tape,l.output,l.size,λk z B=>l.block k z (λy=>?_)⟩;have:=n p F k (gF.1 B);rcases y with h|h
   .exact this.2 h
   .omega
 .by_cases g:0=i
  .subst g;rw [Yn]at hi;cases hi;cases s
  .rw [Zy _ _ g]at hi;rw [t.mem p (Mg pre 1 i p hi).2]at s;cases s
 .rw [Zy _ _ (λe=>m e.symm)]at hi;exact hs.scope i p m (c.lk i p hi) b v
theorem Yig    {l:Nat}       {J:Nat->World->Prop}  {α G:Type} {xs:List α} {ys:α->G->List Value} {F:α->G->List Pc} 
  (k:Nat) (y:α) (g:G) (hY:YJI P w0 l M J Jx xs ys F) (hy:xs[k]? = some y) (hJ:J k W) (hW:w0.heap.size<=W.heap.size) (n:∀p∈pre,∀b,p.fp b->b<w0.heap.size/\¬M b)
  (ho:o.op= .call { callee:= .value x,args:=ops'.toArray,argTypes:=tys }) (hg:o.guard=none) (hd:o.dst=some d) (hN:Nat.blt d N=true) (hx:ev env x=some (.func (.yield l) #[] #[])) (s:EvL env ops' vs) (V:vs=ys y g)
  (h0:lk H 0=some (Xx W (λ_=>False))) (v:∀p∈F y g,p.own=false/\(∀b,p.fp b->W.heap.size<=b)/\∃i R,lk H i=some R/\∀w,R.holds w->p.holds w)
  (z:AllRo pre) (q:HSub (Qt 1 pre) H)
  (ht:∀c,J (k+1) c->w0.heap.size<=c.heap.size->LI P N sc ops rest Q ((d,.bool true)::env) ((0,Xx c (λ_=>False))::Qt 1 pre))
  (hf:∀c,Jx c->w0.heap.size<=c.heap.size->LI P N sc ops rest Q ((d,.bool false)::env) ((0,Xx c (λ_=>False))::Qt 1 pre)):LI P N sc ops (o::rest) Q env H:=λa w hs=>by
 subst V;have Z:=Gv (hs.hold 0 _ h0);obtain⟨fn,I,j,t,B,m⟩:=hY k y g hy W w hJ hW Z (λp hp=>by obtain⟨h1,h2,i,R,hi,hh⟩:=v p hp;exact⟨hh w (hs.hold i R hi),h1,h2⟩)
 have S:(o.semAt Fence.wide.round a.eval).run P w= .ok (.round l fn I j t) w:=by show(execOp a.eval o).run P w=_;have hm:=s.map hs;have Y:=hs.ev hx;simp [execOp,ho,resolve,invoke,Deferred.ofValue,hm,Y,B,Sem.run_bind]
 unfold wpListIn;rw [aF (Zii hg)];refine⟨λ_ _=>trivial,?_⟩;rw [S];refine⟨λh=>(by cases h),m.mono ?_⟩;have D:w0.heap.size<=w.heap.size:=aB hW Z.size;rintro e c (⟨rfl,r,u⟩|⟨rfl,r,u⟩)
 .show wpListIn Fence.wide 0 P ops Q rest (a.put o.dst _) c;rw [hd];exact ht c r (aB D u.size) _ c ((hs.base n z q u).put d _ hN)
 .show wpListIn Fence.wide 0 P ops Q rest (a.put o.dst _) c;rw [hd];exact hf c r (aB D u.size) _ c ((hs.base n z q u).put d _ hN)
theorem Yem{J:Nat->World->Prop}{n:Nat}{e:Exit}(l:e= .ret\/e= .normal)(m:fn.results=#[])(j:lk H 0=some (Xx W (λ_=>False)))(b:∀k,Zm6 (J k))(c:Zm6 Jx)(h:J n W\/Jx W):X N sc e (Ylo P fn n J Jx) env H:=λa w hs=>by
 have i:=Gv (hs.hold 0 _ j);have g:a.defers=[]/\∃v,(results fn a.tmps).run P w= .ok v w/\((∃u,Ending.returned v= .returned u)/\(J n w\/Jx w)):=
  ⟨hs.defers,_,Ygh m,⟨_,rfl⟩,h.imp (λh=>b n W w h i) (λh=>c W w h i)⟩
 rcases l with rfl|rfl<;>exact g
end Go.Sky
namespace Go.Sky
open Go.RowKit (Below)
variable{w W W' w0:World}{Mf:Nat->Prop}{Hn:Hp}{a:Act}{fn:Func}{preF pre:List Pc}{lbv:List Value}
variable {P:Program} {N:Nat} {sc:Nat->Prop} {env env':Pz} {H H':Hp} {Q Q':Exit->Act->World->Prop}
def FpM:Hp->Hp->Prop
 | [],_=>True
 | (i,p)::r,H=>(p.own=true\/∀b,p.fp b->∃j q,lk H j=some q/\q.fp b)/\FpM r H
theorem FpM.lk:∀{H' H:Hp},FpM H' H->∀i p,lk H' i=some p->p.own=true\/∀b,p.fp b->∃j q,lk H j=some q/\q.fp b
 | [],_,_,_,_,h=>by cases h
 | (k,u)::r,H,h,i,p,hi=>by
  by_cases c:k=i
  .subst c;rw [Yn]at hi;cases hi;exact h.1
  .rw [Zy _ _ c]at hi;exact FpM.lk h.2 i p hi
structure Kps (sc:Nat->Prop) (w:World) (Mf:Nat->Prop) (Hn:Hp) (W:World):Prop where
 hold:∀i it,lk Hn i=some it->it.holds W
 sep:∀i j it jt,i≠j->lk Hn i=some it->lk Hn j=some jt->it.own=true->∀b,it.fp b->jt.fp b->False
 scope:∀i it,i≠0->lk Hn i=some it->∀b,it.fp b->sc b
 off:∀i it,lk Hn i=some it->it.own=false->∀b,it.fp b->b<w.heap.size\/w.heap.size+2<=b
 mf:∀i it,lk Hn i=some it->it.own=true->∀b,it.fp b->Mf b
def Mof(w:World)(H:Hp)(b:Nat):Prop:=(∃i q,lk H i=some q/\q.own=true/\q.fp b)\/w.heap.size+2<=b
def Kps.chg(h:Kps sc w Mf Hn W)(d:∀i c,lk Hn i=some c->Chg (λb=>¬c.fp b) W W'):Kps sc w Mf Hn W':=
 ⟨λi c hi=>c.stable _ _ (h.hold i c hi) (d i c hi),h.sep,h.scope,h.off,h.mf⟩
def Kps.stays(h:Kps sc w Mf Hn W)(b:Below W.heap.size W W'):Kps sc w Mf Hn W':=h.chg λ_ _ _=>Chg.of_below b
theorem Kps.put{d:Nat}{o:Obj}(h:Kps sc w (Mof w H) Hn W)(c:∀i q,lk H i=some q->∀b,q.fp b->b<w.heap.size)(p:w.heap.size<=d/\d<w.heap.size+2):Kps sc w (Mof w H) Hn (W.putObj d o):=
 h.chg λi g hi=>⟨rfl,rfl,rfl,O5,λk r m=>World.putObj_heap_other (λe=>m λl=>by
  subst e;cases ho:g.own with
  | false=>rcases h.off i g hi ho _ l with h|h<;>omega
  | true=>
   rcases h.mf i g hi ho _ l with⟨j,q,n,_,f⟩|h
   .have:=c j q n _ f;omega
   .omega)⟩
def Kps.sat(h:Kps sc w Mf Hn W)(b:a.tmps.size=N)(c:a.defers=[])(d:∀t v,lk env t=some v->a.tmps.getD t undef=v):Sat N sc env Hn a W:=⟨b,c,d,h.hold,h.sep,h.scope⟩
def Zqq(H:Hp)(w0:World):Prop:=lk H 0=some (Xx w0 (λ_=>False))/\lk H 92=none
def Mfs(sc:Nat->Prop)(w:World)(H:Hp)(b:Nat):Prop:=Mof w H b\/¬sc b
theorem Sat.ps {r F:World} {d:Hp}  (hs:Sat N sc env ((92,Xx r (Mfs sc w H))::Hn) a F) (k:lk Hn 92=none) (R:∀q,lk Hn 0=some q->q.own=false) (hb:w.heap.size+2<=r.heap.size)
  (S:FpM Hn d) (z:∀j q,lk d j=some q->∀b,q.fp b->q.own=true->Mof w H b) (o:∀j q,lk d j=some q->∀b,q.fp b->q.own=false->b<w.heap.size\/w.heap.size+2<=b) (v:∀i q,lk H i=some q->∀b,q.fp b->b<w.heap.size):Kps sc w (Mof w H) Hn F:=by
 have g:∀i c,lk Hn i=some c->lk ((92,Xx r (Mfs sc w H))::Hn) i=some c:=λi c hi=>by
  by_cases G:92=i
  .subst G;rw [k]at hi;cases hi
  .rw [Zy _ _ G];exact hi
 have x:∀i c,lk Hn i=some c->c.own=true->∀b,c.fp b->Mof w H b:=λi c hi n b f=>by
  have l:i≠92:=λe=>by subst e;rw [k]at hi;cases hi
  have s:i≠0:=λe=>by subst e;rw [R c hi]at n;cases n
  have D:=hs.scope i c s (g i c hi) b f;have:=hs.sep i 92 c _ l (g i c hi) (Yn _ _ _) n b f;by_cases m:b<r.heap.size
  .rcases(gF.1 λY=>this ⟨m,Y⟩:Mfs sc w H b)with h|h
   .exact h
   .exact absurd D h
  .exact .inr O
 refine⟨λi c hi=>hs.hold i c (g i c hi),λi j c M y hi V=>hs.sep i j c M y (g i c hi) (g j M V),λi c u hi=>hs.scope i c u (g i c hi),λi c hi n b f=>?_,x⟩;rcases S.lk i c hi with h|h
 .rw [n]at h;cases h
 .obtain⟨j,q,I,p⟩:=h b f;cases hqo:q.own with
  | false=>exact o j q I b p hqo
  | true=>
   rcases z j q I b p hqo with⟨Z,q',B,_,t⟩|h
   .exact .inl (v Z q' B b t)
   .exact .inr h
def RB(N:Nat)(sc:Nat->Prop)(Mf:Nat->Prop)(b:Hp){h i:Type}(j:h->Hp)(g:h->Prop)(k:i->Hp)(c:i->Prop)(l:World):Exit->Act->World->Prop:=λe a W=>
 (e= .normal/\∃d,g d/\FpM (j d) b/\∃env',Sat N sc env' ((92,Xx l Mf)::j d) a W)\/(e= .ret/\∃f,c f/\FpM (k f) b/\∃env',Sat N sc env' ((92,Xx l Mf)::k f) a W)
def RA(P:Program)(N:Nat)(sc:Nat->Prop)(l:Nat)(Mf:Nat->Prop)(b:Hp)(body:Code){h i:Type}(k:h->Hp)(g:h->Prop)(m:i->Hp)(f:i->Prop)(n:World):Exit->Act->World->Prop:=λe a W=>
 e= .normal/\∃c d,lk d 92=none/\(∀q,lk d 0=some q->q.own=false)/\FpM d b/\Sat N sc c ((92,Xx n Mf)::d) a W/\
  ∀j a W,Sat N sc c ((92,Xx j Mf)::d) a W->body.wpIn (Fence.wide.inRound l) 0 P (RB N sc Mf b k g m f j) a W
theorem Zz9:∀(l:List Pc) (n:Nat) (H:Hp) (j:Nat) (q:Pc),lk (adds n l H) j=some q->q∈l\/lk H j=some q
 | [],_,_,_,_,h=> .inr h
 | p::r,n,H,j,q,h=>by
  by_cases b:n=j
  .subst b;rw [show adds n (p::r) H=(n,p)::adds (n+1) r H from rfl,Yn]at h;cases h;exact .inl (bR ..)
  .rw [show adds n (p::r) H=(n,p)::adds (n+1) r H from rfl,Zy _ _ b]at h;exact(Zz9 r (n+1) H j q h).imp (bI _) id
@[reducible] def renv:List Nat->List Value->Pz->Pz
 | p::ps,v::vs,env=>renv ps vs ((p,v)::env)
 | _,_,env=>env
theorem Sat.rounds{w:World} : ∀(ps:List Nat) (vs:List Value) {env:Pz} {b:Array Value},(ps.all λp=>Nat.blt p N)=true->Sat N sc env H { tmps:=b,defers:=[] } w->
  Sat N sc (renv ps vs env) H { tmps:=(ps.zip vs).foldl (λt c=>t.setIfInBounds c.1 c.2) b,defers:=[] } w
 | [],_,_,_,_,h=>h
 | _::_,[],_,_,_,h=>h
 | p::ps,v::vs,env,b,hp,h=>by simp only [nO,aQ]at hp;exact Sat.rounds ps vs (env:=(p,v)::env) hp.2 (h.put p v hp.1)
theorem Zul    {al:Bool} {c:Type} {φ:c->Prop} {Yr:c->Value} {b:c->List Pc}  {D:Nat}
  (d:W.heap[D]? = some (.deferred (some []))) (h:Zdm P fn w0 preF al φ Yr b .ret { a with defers:=[] } (W.putObj D (.deferred none))) :
  Zih P fn w0 preF al φ Yr b .ret { a with defers:=[{ target:= .collected D,args:=#[] }] } W:=by
 obtain⟨-,v,f,e⟩:=h;exact⟨O5,.inl ⟨_,_,rfl,run_takeDeferred d,⟨v,f,e⟩⟩⟩
theorem e_rfi {g:Operand} {gf i6 g1:Nat} {ps:List Nat} {assign body:Code}   {α G:Type} {xs:List α} {ys:α->G->List Value} {F:α->G->List Pc} {lc:List Oper}    {al:Bool} {GF:Type} {φ:GF->Prop} {Yr:GF->Value} {R:GF->List Pc}
  {GG GX:Type} (S:Nat->GG->Hp) (c2:Nat->GG->Prop) (HX:GX->Hp) (c3:GX->Prop) (d0:GG)
  (hg:ev env g=some (.func (.func gf) #[] lbv.toArray)) (eg:∀args w,(callFunc gf args).run P w= .ok (.enter gf args) w) (hc:CalI P gf lbv pre xs ys F)
  (hp:∀p∈pre,p.own=false/\∃i,lk H i=some p) (i2:∀x I,(ys x I).length=ps.length) (i1:(ps.all λp=>Nat.blt p N)=true)
  (hw:∀b,w0.heap.size<=b->sc b) (h0:lk H 0=some (Xx w0 (λ_=>False)))
  (b7:c2 0 d0) (b2:HSub (S 0 d0) H) (hk:∀k u,Zqq (S k u) w0) (h8:∀gx,Zqq (HX gx) w0)
  (c5:∀k x I u,xs[k]? = some x->c2 k u->∀l Mf V a W,Sat N sc (renv ps (ys x I) env) ((92,Xx V Mf)::adds 100 (F x I) (S k u)) a W->
   assign.wpIn (Fence.wide.inRound l) 0 P (RA P N sc l Mf (adds 100 (F x I) (S k u)) body (S (k+1)) (c2 (k+1)) HX c3 V) a W)
  (i0:lc.all Zf9=true)
  (hC:∀u,c2 xs.length u->∀D od,L P N sc lc.toArray lc (Et λe a w=>e= .normal/\∃b5 H2,lk H2 92=none/\FpSub H2 (S xs.length u)/\Sat N sc b5 ((92,fx D od)::H2) a w/\X N sc .ret (Zdm P fn w0 preF al φ Yr R) b5 H2) env ((92,fx D od)::S xs.length u))
  (hX:∀gx,c3 gx->X N sc .ret (Zdm P fn w0 preF al φ Yr R) env (HX gx)) :
  E P N sc (.rangeFunc g ps.toArray assign body) (Exit.inBlock g1 (Exit.then ((Code.seq (.region i6 lc.toArray false) .ret).wp P (Zih P fn w0 preF al φ Yr R)) (Zih P fn w0 preF al φ Yr R))) env H:=λa w hs=>by
 have a0:∀i p,lk H i=some p->∀b,p.fp b->b<w.heap.size:=λi p hi b f=>p.lt w b (hs.hold i p hi) f;have i5:w0.heap.size<=w.heap.size:=(hs.hold 0 _ h0).size;refine(wpIn_wide (n:=0)).1 (wpIn_rangeFunc ?_);intro c9 h5;obtain⟨c,d⟩:∃c:LoopState->Option Code->Loop,c=λst pe=>{ state:=st,pending:=pe,fn:=c9,tmps:=a.tmps,params:=ps.toArray,assign,body,defers:=w.heap.size }:=⟨_,rfl⟩;obtain⟨W1,b6⟩:∃W1,(w.alloc (.deferred (some []))).alloc (.loop (c .ready none))=W1:=⟨_,rfl⟩;have g5:W1.heap[w.heap.size+1]? = some (.loop (c .ready none)):=by rw [<-b6];have:=World.alloc_heap_new (w.alloc (.deferred (some []))) (.loop (c .ready none));rwa [World.size_alloc]at this
 have g4:W1.heap[w.heap.size]? = some (.deferred (some [])):=by rw [<-b6];exact(Below.heap_alloc _ _ _ O5).trans (World.alloc_heap_new w _)
 have e9:Below w.heap.size w W1:=by rw [<-b6];exact((Below.refl _ w).alloc (aH _) _).alloc O5 _
 have j1:W1.heap.size=w.heap.size+2:=by rw [<-b6];simp
 have e0:(#[.func (.yield (w.heap.size+1)) #[] #[]] ++ lbv.toArray:Array Value)=(Value.func (.yield (w.heap.size+1)) #[] #[]::lbv).toArray:=O5;refine⟨w.heap.size+1,[{ target:= .collected w.heap.size,args:=#[] }],W1,{ target:= .fn (.func gf) lbv.toArray,args:=#[.func (.yield (w.heap.size+1)) #[] #[]] },W1,gf,
  (Value.func (.yield (w.heap.size+1)) #[] #[]::lbv).toArray,W1,?_,?_,λ_ _=>trivial,?_,λh=>(by cases h),?_⟩
 .rw [<-b6,d];exact run_enterLoop_outer _ _ _ _ _
 .simp only [resolve,hs.ev hg];simp [go_sem]
 .simp [invoke,go_sem,eg]
 have c1:∀(Hn:Hp) (r:Loop),Zm6 λW=>W.heap[w.heap.size+1]? = some (.loop r)/\W.heap[w.heap.size]? = some (.deferred (some []))/\W1.heap.size<=W.heap.size/\Kps sc w (Mof w H) Hn W:=λHn r W W' ⟨h1,h2,h3,h4⟩ hB=>
  ⟨(hB.block _ (bB.1 h1).1).trans h1,(hB.block _ (bB.1 h2).1).trans h2,aB h3 hB.size,h4.stays hB⟩
 have h9:¬Mof w H (w.heap.size+1):=λh=>by
  rcases h with⟨i,q,hq,_,hf⟩|h
  .have:=a0 i q hq _ hf;omega
  .omega
 have d3:¬Mof w H w.heap.size:=λh=>by
  rcases h with⟨i,q,hq,_,hf⟩|h
  .have:=a0 i q hq _ hf;omega
  .omega
 have f6:∀(Hn:Hp) (W:World),Kps sc w (Mof w H) Hn W->∀(o:Obj),Kps sc w (Mof w H) Hn (W.putObj w.heap.size o):=λHn W h o=>h.put a0 ⟨aH _,O⟩;have c0:∀(Hn:Hp) (W:World),Kps sc w (Mof w H) Hn W->∀(o:Obj),Kps sc w (Mof w H) Hn (W.putObj (w.heap.size+1) o):=λHn W h o=>h.put a0 ⟨O,O⟩;refine callsIn_wide.2 ((hc (w.heap.size+1) (λb=>(∃i q,lk H i=some q/\q.own=true/\q.fp b)\/b=w.heap.size+1)
  (λk W=>∃u,c2 k u/\(W.heap[w.heap.size+1]? = some (.loop (c .ready none))/\W.heap[w.heap.size]? = some (.deferred (some []))/\W1.heap.size<=W.heap.size/\Kps sc w (Mof w H) (S k u) W))
  (λW=>∃gx,c3 gx/\(W.heap[w.heap.size+1]? = some (.loop (c .done (some .ret)))/\W.heap[w.heap.size]? = some (.deferred (some []))/\W1.heap.size<=W.heap.size/\Kps sc w (Mof w H) (HX gx) W)) W1
  ?_ ?_ ?_ ?_ ?_ ?_).mono ?_)
 .intro p z;obtain⟨ho,i,hi⟩:=hp p z;exact p.stable _ _ (hs.hold i p hi) (Chg.of_below e9)
 .rintro p z b f (⟨i,q,hq,b1,i3⟩|rfl)
  .obtain⟨ho,j,M⟩:=hp p z;exact hs.sep i j q p (λe=>by subst e;rw [hq]at M;cases M;rw [ho]at b1;cases b1) hq M b1 b i3 f
  .obtain⟨ho,j,M⟩:=hp p z;have:=a0 j p M _ f;omega
 .rintro k W W' ⟨u,d7,h⟩ hB;exact⟨u,d7,c1 _ _ W W' h hB⟩
 .rintro W W' ⟨gx,d7,h⟩ hB;exact⟨gx,d7,c1 _ _ W W' h hB⟩
 .refine⟨d0,b7,g5,g4,aH _,λi s hi=>s.stable _ _ (hs.hold i s (b2.lk i s hi)) (Chg.of_below e9),λi j s jt b0 hi M=>hs.sep i j s jt b0 (b2.lk i s hi) (b2.lk j jt M),
   λi s b7 hi=>hs.scope i s b7 (b2.lk i s hi),λi s hi _ b f=> .inl (a0 i s (b2.lk i s hi) b f),λi s hi ho b f=> .inl ⟨i,s,b2.lk i s hi,ho,f⟩⟩
 .rintro k x I hx W V ⟨u,Y,hl,hd,f9,a2⟩ j2 hB Z;have f3:V.heap[w.heap.size+1]? = some (.loop (c .ready none)):=(hB.block _ O).trans hl;have g7:V.heap[w.heap.size]? = some (.deferred (some [])):=(hB.block _ O).trans hd;have hy:=run_yield (P:=P) (args:=(ys x I).toArray) f3 (by rw [d];simp [i2]);have b8:∀p∈F x I,∀b,p.fp b->w.heap.size+2<=b:=λp hp b f=>by have:=(Z p hp).2.2 b f;omega
  have s1:Sat N sc env (S k u) { tmps:=a.tmps,defers:=[] } V:=(a2.stays hB).sat hs.size rfl hs.env;have s2:Sat N sc env (adds 100 (F x I) (S k u)) { tmps:=a.tmps,defers:=[] } V:=s1.adds (w1:=V) _ _ λp z=>⟨(Z p z).1,(Z p z).2.1,λb f=>hw b (by have:=b8 p z b f;omega),λj jt M ho b f a5=>by have h1:=(Z p z).2.2 b f;have h2:=jt.lt W b (a2.hold j jt M) a5;omega⟩
  have c6:∀j q,lk (adds 100 (F x I) (S k u)) j=some q->(q∈F x I)\/lk (S k u) j=some q:=λj q h=>Zz9 _ _ _ j q h;have z:∀j q,lk (adds 100 (F x I) (S k u)) j=some q->∀b,q.fp b->q.own=true->Mof w H b:=λj q M b f ho=>by
   rcases c6 j q M with h|h
   .rw [(Z q h).2.1]at ho;cases ho
   .exact a2.mf j q h ho b f
  have c8:∀j q,lk (adds 100 (F x I) (S k u)) j=some q->∀b,q.fp b->q.own=false->b<w.heap.size\/w.heap.size+2<=b:=λj q M b f ho=>by
   rcases c6 j q M with h|h
   .exact .inr (b8 q h b f)
   .exact a2.off j q h ho b f
  have s3:=s2.rounds ps (ys x I) i1;have s4:Sat N sc (renv ps (ys x I) env) ((92,Xx V (Mfs sc w H))::adds 100 (F x I) (S k u)) _ V:=s3.add 92 (Xx V (Mfs sc w H)) (Chg.refl _ _) (λj jt b0 M Ic b f a5=>by
   rcases Ic with h|h
   .cases h
   .exact f.2 (.inl (z j jt M b a5 h))) (λb f=>gF.1 λhn=>f.2 (.inr hn))
  have f5:¬Mfs sc w H (w.heap.size+1):=λh=>h.elim h9 (λhn=>hn (hw _ O));have e5:¬Mfs sc w H w.heap.size:=λh=>h.elim d3 (λhn=>hn (hw _ i5));rw [d]at hy;refine⟨c9,_,assign,body,hy,roundIn_of_wpIn h5 ?_⟩;have hr:=c5 k x I u hx Y (w.heap.size+1) (Mfs sc w H) V _ V s4;have e3:(ps.toArray.zip (ys x I).toArray).foldl (λt (p,v)=>t.setIfInBounds p v) a.tmps=(ps.zip (ys x I)).foldl (λt pv=>t.setIfInBounds pv.1 pv.2) a.tmps:=O5;have f7:w.heap.size+2<=V.heap.size:=by have:=hB.size;omega
  have h7:∀(Hn:Hp),Zqq Hn w0->∀q,lk Hn 0=some q->q.own=false:=λHn h q hq=>by rw [h.1]at hq;cases hq;rfl
  rw [show(ps.toArray.zip (ys x I).toArray).foldl (λt (x:Nat×Value)=>t.setIfInBounds x.1 x.2) a.tmps=(ps.zip (ys x I)).foldl (λt pv=>t.setIfInBounds pv.1 pv.2) a.tmps from e3];refine wpIn_mono hr ?_;rintro e a1 W2 ⟨rfl,e2,H1,d1,e6,g2,a4,d6⟩;have a6:Chg (Mfs sc w H) V W2:=a4.hold 92 _ (Yn _ _ _);have a9:W2.heap[w.heap.size+1]? = some (.loop (c .ready none)):=(a6.block _ O f5).trans f3;have g9:W2.heap[w.heap.size]? = some (.deferred (some [])):=(a6.block _ O e5).trans g7;have p1:=a4.ps d1 e6 f7 g2 z c8 a0;have i8:V.heap.size<=W2.heap.size:=a6.size;obtain⟨m,y⟩:∃m,W2.putObj (w.heap.size+1) (.loop { c .ready none with state:= .busy })=m:=⟨_,rfl⟩;have i7:Sat N sc e2 ((92,Xx m (Mfs sc w H))::H1) a1 m:=by
   have p2:=c0 _ _ p1 (.loop { c .ready none with state:= .busy });rw [y]at p2;refine(p2.sat a4.size a4.defers a4.env).add 92 (Xx m (Mfs sc w H)) (Chg.refl _ _) (λj jt b0 M Ic b f a5=>?_) (λb f=>gF.1 λhn=>f.2 (.inr hn));rcases Ic with h|h
   .cases h
   .exact f.2 (.inl (p2.mf j jt M h b a5))
  have i4:W2.heap.size=m.heap.size:=by rw [<-y];simp
  have f4:m.heap[w.heap.size+1]? = some (.loop { c .ready none with state:= .busy }):=by rw [<-y];exact World.putObj_heap_same O
  have f1:m.heap[w.heap.size]? = some (.deferred (some [])):=by rw [<-y];exact(World.putObj_heap_other O).trans g9
  refine⟨m,by rw [<-y];exact run_beginRound a9 (by rw [d]),wpIn_mono (d6 m a1 m i7) ?_⟩;have c7:∀(Hn:Hp) (env':Pz) (a3:Act) (B:World),Zqq Hn w0->FpM Hn (adds 100 (F x I) (S k u))->Sat N sc env' ((92,Xx m (Mfs sc w H))::Hn) a3 B->∀(r:Loop),
    B.heap[w.heap.size+1]? = some (.loop { c .ready none with state:= .busy })/\(((B.putObj (w.heap.size+1) (.loop r)).heap[w.heap.size+1]? = some (.loop r)/\(B.putObj (w.heap.size+1) (.loop r)).heap[w.heap.size]? = some (.deferred (some []))/\
     W1.heap.size<=(B.putObj (w.heap.size+1) (.loop r)).heap.size/\Kps sc w (Mof w H) Hn (B.putObj (w.heap.size+1) (.loop r)))/\
     Chg (λb=>((∃i q,lk H i=some q/\q.own=true/\q.fp b)\/b=w.heap.size+1)\/W1.heap.size<=b) V (B.putObj (w.heap.size+1) (.loop r))):=by
   intro Hn env' a3 B d9 g3 b3 r;have a7:Chg (Mfs sc w H) m B:=b3.hold 92 _ (Yn _ _ _);have b9:=(a7.block _ O f5).trans f4;have a8:=(a7.block _ O e5).trans f1;have g0:=a7.size;have p3:=b3.ps d9.2 (h7 Hn d9) O g3 z c8 a0;refine⟨b9,⟨World.putObj_heap_same O,(World.putObj_heap_other O).trans a8,O8,c0 _ _ p3 _⟩,?_⟩;have k0:(Xx w0 (λ_=>False)).holds V:=a2.stays hB |>.hold 0 _ (hk k u).1;have k3:(Xx w0 (λ_=>False)).holds B:=p3.hold 0 _ d9.1;refine⟨?_,?_,?_,O8,λb f hn=>?_⟩
   .exact a7.os.trans ((by rw [<-y];rfl:m.os=W2.os).trans a6.os)
   .exact a7.tape.trans ((by rw [<-y];rfl:m.tape=W2.tape).trans a6.tape)
   .exact a7.output.trans ((by rw [<-y];rfl:m.output=W2.output).trans a6.output)
   .have f0:b≠w.heap.size+1:=λe=>hn (.inl (.inr e));have g6:¬Mof w H b:=λh=>by
     rcases h with h|h
     .exact hn (.inl (.inl h))
     .exact hn (.inr O)
    refine(World.putObj_heap_other f0).trans ?_;by_cases f8:sc b
    .have e7:¬Mfs sc w H b:=λh=>h.elim g6 (λh=>h f8);refine(a7.block b O e7).trans ?_;have:m.heap[b]? = W2.heap[b]?:=by rw [<-y];exact World.putObj_heap_other f0
     exact this.trans (a6.block b f e7)
    .have e8:b<w0.heap.size:=by
      rcases bA b w0.heap.size with h|h
      .exact h
      .exact absurd (hw b h) f8
     exact(k3.block b e8 (λh=>h)).trans (k0.block b e8 (λh=>h)).symm
  rintro e a3 B (⟨rfl,e4,d8,d4,env',b3⟩|⟨rfl,gx,d8,d4,env',b3⟩)
  .obtain⟨b9,d5,d2⟩:=c7 _ env' a3 B (hk (k+1) e4) d4 b3 (c .ready none);have:=run_endRound (P:=P) none b9;rw [show({ ({ c .ready none with state:= .busy } : Loop)with state:=if(none:Option Code).isNone then LoopState.ready else .done,pending:=none } : Loop)=c .ready none by rw [d];rfl]at this;exact⟨_,_,this,.inl ⟨rfl,⟨e4,d8,d5⟩,d2⟩⟩
  .obtain⟨b9,d5,d2⟩:=c7 _ env' a3 B (h8 gx) d4 b3 (c .done (some .ret));have:=run_endRound (P:=P) (some .ret) b9;rw [show({ ({ c .ready none with state:= .busy } : Loop)with state:=if(some Code.ret).isNone then LoopState.ready else .done,pending:=some .ret } : Loop)=c .done (some .ret) by rw [d];rfl]at this;exact⟨_,_,this,.inr ⟨rfl,⟨gx,d8,d5⟩,d2⟩⟩
 .have i9:∀(Hn:Hp) (W:World),Kps sc w (Mof w H) Hn W->Kps sc w (Mof w H) Hn ((W.putObj (w.heap.size+1) (.loop (c .exhausted none))).putObj w.heap.size (.deferred none)):=λHn W h=>f6 _ _ (c0 _ _ h _) _;rintro e W2 ⟨⟨v,rfl⟩,⟨u,Y,hl,hd,f9,e1⟩|⟨gx,Y,hl,hd,f9,e1⟩⟩
  .refine⟨none,_,by have:=run_endLoop (P:=P) hl (by rw [d];simp);rw [d]at this;exact this,?_⟩;obtain⟨B,c4⟩:∃B,W2.putObj (w.heap.size+1) (.loop (c .exhausted none))=B:=⟨_,rfl⟩;have p3:=c0 _ _ e1 (.loop (c .exhausted none));rw [c4]at p3;have a8:B.heap[w.heap.size]? = some (.deferred (some [])):=by rw [<-c4];exact(World.putObj_heap_other O).trans hd
   have g0:B.heap.size=W2.heap.size:=by rw [<-c4];simp
   rw [show W2.putObj (w.heap.size+1) (.loop { state:= .exhausted,pending:=none,fn:=c9,tmps:=a.tmps,params:=ps.toArray,assign:=assign,body:=body,defers:=w.heap.size })=B by rw [<-c4,d]];have s3:Sat N sc env (S xs.length u) { tmps:=a.tmps,defers:=[] } B:=p3.sat hs.size rfl hs.env;have s4:Sat N sc env ((92,fx w.heap.size (.deferred (some [])))::S xs.length u) { tmps:=a.tmps,defers:=[] } B:=s3.add 92 _ a8 (λj jt b0 M Ic b f a5=>by
    rcases Ic with h|h
    .cases h
    .have f:b=w.heap.size:=f;subst f;exact d3 (p3.mf j jt M h _ a5)) (λb f=>hw b (by have f:b=w.heap.size:=f;omega))
   rw [hs.defers];refine wp_seq (wp_region_lit (Zqk (P:=P) (ops:=lc.toArray) (Q:=Exit.then (Code.ret.wp P (Zih P fn w0 preF al φ Yr R)) (Zih P fn w0 preF al φ Yr R)) (ds:=[{ target:= .collected w.heap.size,args:=#[] }]) lc { tmps:=a.tmps,defers:=[] } B i0 ?_));refine Im (λe a' W' h=>?_) lc _ B (hC u Y _ _ _ B s4);cases e with
   | normal=>
    obtain⟨-,b5,H2,d1,h6,b4,hx⟩:=h;refine wp_ret (Zul (b4.hold 92 _ (Yn _ _ _)) ?_);have a9:∀i s,lk H2 i=some s->lk ((92,fx w.heap.size (.deferred (some [])))::H2) i=some s:=λi s hi=>by
     by_cases h1:92=i
     .subst h1;rw [d1]at hi;cases hi
     .rw [Zy _ _ h1];exact hi
    refine hx _ _ ⟨b4.size,rfl,b4.env,λi s hi=>s.stable _ _ (b4.hold i s (a9 i s hi)) ⟨rfl,rfl,rfl,O5,λk hk hn=>World.putObj_heap_other (λe=>hn λhf=>?_)⟩,λi j s jt b0 hi M=>b4.sep i j s jt b0 (a9 i s hi) (a9 j jt M),λi s b7 hi=>b4.scope i s b7 (a9 i s hi)⟩;subst e;obtain⟨q,hq,j0,f2⟩:=h6.lk i s hi;cases b1:q.own with
    | true=>exact d3 (p3.mf i q hq b1 _ (f2 _ hf))
    | false=>rcases p3.off i q hq b1 _ (f2 _ hf)with h|h<;>omega
   | _=>exact h.elim
  .refine⟨some .ret,_,by have:=run_endLoop (P:=P) hl (by rw [d];simp);rw [d]at this;exact this,wpIn_ret ?_⟩;have p3:=c0 _ _ e1 (.loop { c .done (some .ret)with state:= .exhausted });have a8:(W2.putObj (w.heap.size+1) (.loop { c .done (some .ret)with state:= .exhausted })).heap[w.heap.size]? = some (.deferred (some [])):=(World.putObj_heap_other O).trans hd;rw [d]at p3 a8;rw [hs.defers];exact Zul a8 (hX gx Y _ _ ((f6 _ _ p3 _).sat hs.size rfl hs.env))
end Go.Sky
namespace Go.Sky
variable {P:Program} {N:Nat} {sc:Nat->Prop} {env env':Pz} {H H':Hp} {Q Q':Exit->Act->World->Prop} {M:Nat->Prop}
@[reducible] def lk2 {α:Type} : List (Nat×α)->Nat->Option α
 | [],_=>none
 | (k,v)::r,n=>match Nat.beq k n with
  | true=>some v
  | false=>lk2 r n
theorem Zw3{α:Type} : ∀(e:List (Nat×α)) (n:Nat),lk2 e n=lk e n
 | [],_=>rfl
 | (k,v)::r,n=>by unfold lk2 lk;cases Nat.beq k n<;>simp [Zw3 r n]
@[reducible] def ev2 (e:Pz):Operand->Option Value
 | .tmp t=>lk2 e t
 | .const v=>some v
 | .global g=>some (.pointer (some ⟨g,0,none⟩))
 | .func f=>some (.func (.func f) #[] #[])
theorem ev2_eq(e:Pz)(x:Operand):ev2 e x=ev e x:=by cases x<;>simp [ev2,ev,Zw3]
@[reducible] def nth {α:Type} : List α->Nat->Option α
 | [],_=>none
 | x::r,n=>match n with
  | 0=>some x
  | n+1=>nth r n
theorem Zwu{α:Type} : ∀(l:List α) (n:Nat),nth l n=l[n]?
 | [],n=>by simp [nth]
 | x::r,0=>by simp [nth]
 | x::r,n+1=>by simp [nth,Zwu r n]
@[reducible] def ltb (a b:Nat):Bool:=match Nat.ble b a with
 | true=>false
 | false=>true
theorem Nm{a b:Nat}(h:ltb a b=true):Nat.blt a b=true:=by
 unfold ltb at h;cases hb:Nat.ble b a with
 | true=>rw [hb]at h;cases h
 | false=>
  have d:¬b<=a:=λc=>by rw [mX c]at hb;cases hb
  show Nat.ble (a+1) b=true;exact mX O
@[reducible] def neb (a b:Nat):Bool:=match Nat.beq a b with
 | true=>false
 | false=>true
theorem Zbz{a b:Nat}(h:neb a b=true):a≠b:=λe=>by subst e;unfold neb at h;rw [Nat.beq_refl]at h;cases h
class Som {α:Type} (a:Option α) (b:outParam α):Prop where h:a=some b
instance {α:Type} {b:α} : Som (some b) b:=⟨rfl⟩
class TB (a:Bool):Prop where h:a=true
instance:TB true:=⟨rfl⟩
def Som.e{x:Operand}{v:Value}(h:Som (ev2 env x) v):ev env x=some v:=(ev2_eq env x).symm.trans h.h
def Som.l{α:Type}{e:List (Nat×α)}{n:Nat}{v:α}(h:Som (lk2 e n) v):lk e n=some v:=(Zw3 e n).symm.trans h.h
theorem Som.n{α:Type}{l:List α}{n:Nat}{v:α}(h:Som (nth l n) v):l.toArray[n]? = some v:=by have:=(Zwu l n).symm.trans h.h;simpa using this
class AndO (s q:Prop) (r:outParam Prop):Prop where h:r->s/\q
instance (priority:=low) {s q:Prop} : AndO s q (s/\q):=⟨id⟩
instance {q:Prop} : AndO True q q:=⟨λh=>⟨aA,h⟩⟩
class Und (P:Program) (t:TypeId) (d:outParam TypeDesc):Prop where h:P.underlying t=some d
class Siz (P:Program) (t:TypeId) (k:outParam Nat):Prop where h:∀w,(sizeOf t).run P w= .ok k w
class Agg (P:Program) (t:TypeId) (b:outParam Bool):Prop where h:∀w,(isAgg t).run P w= .ok b w
class EncT {α:Type} (P:Program) (t:TypeId) (k:Nat) (enc:α->Value):Prop where h:Enc P t k enc
class RdI (P:Program) (H:Hp) (v:Value) (i:outParam Nat) {α:outParam Type} (k:outParam Nat) (enc:outParam (α->Value)) (xs:outParam (List α)):Prop where
 h:∃p,lk H i=some p/\Rd p k enc v xs
instance {α:Type} {v:Value} {i k:Nat} {enc:α->Value} {xs:List α} : RdI P ((i,Yw k enc v xs)::H) v i k enc xs:=⟨_,Yn _ _ _,Zq⟩
instance {α:Type} {v:Value} {i k:Nat} {enc:α->Value} {xs:List α} {e:TypeId} [h:EncT P e k enc]:RdI P ((i,On k e enc v xs)::H) v i k enc xs:=⟨_,Yn _ _ _,Ye h.h⟩
instance {β:Type} {v:Value} {i k:Nat} {enc:β->Value} {q:β->Pc} {zs:List β} : RdI P ((i,Ph k enc q v zs)::H) v i k enc zs:=⟨_,Yn _ _ _,Zc⟩
instance (priority:=low) {α:Type} {v:Value} {i j k:Nat} {p:Pc} {enc:α->Value} {xs:List α} [h:RdI P H v i k enc xs] [hn:TB (neb j i)]:RdI P ((j,p)::H) v i k enc xs:=
 ⟨by obtain⟨q,h1,h2⟩:=h.h;exact⟨q,by rw [Zy _ _ (Zbz hn.h)];exact h1,h2⟩⟩
class BxI (H:Hp) (b:Nat) (i:outParam Nat) (t:outParam TypeId) (l:outParam (List Value)):Prop where h:lk H i=some (box b t l.toArray)
instance {b i:Nat} {t:TypeId} {l:List Value} : BxI ((i,box b t l.toArray)::H) b i t l:=⟨Yn _ _ _⟩
instance (priority:=low) {b i j:Nat} {t:TypeId} {p:Pc} {l:List Value} [h:BxI H b i t l] [hn:TB (neb j i)]:BxI ((j,p)::H) b i t l:=⟨by rw [Zy _ _ (Zbz hn.h)];exact h.h⟩
class RxI (H:Hp) (b:Nat) (i:outParam Nat) (t:outParam TypeId) (l:outParam (List Value)):Prop where h:lk H i=some (Fc b t l.toArray)
instance {b i:Nat} {t:TypeId} {l:List Value} : RxI ((i,Fc b t l.toArray)::H) b i t l:=⟨Yn _ _ _⟩
instance (priority:=low) {b i j:Nat} {t:TypeId} {p:Pc} {l:List Value} [h:RxI H b i t l] [hn:TB (neb j i)]:RxI ((j,p)::H) b i t l:=⟨by rw [Zy _ _ (Zbz hn.h)];exact h.h⟩
class DI (P:Program) (N:Nat) (sc:Nat->Prop) (op:Go.Op) (env:Pz) (H:Hp) (v:outParam Value) (s:outParam Prop):Prop where
 h:s->∀{d:Option Tmp} {ty:TypeId} {pos:String} {af:Array Edge} {g:Option (Nat×Bool)},Mx P N sc ⟨d,op,ty,pos,af,g⟩ env H v
section
variable {x y c:Operand} {v u:Value} {t t':TypeId} {k:IntKind} {m n:Int}
instance [h:Som (ev2 env x) v]:DI P N sc (.move x) env H v True:=⟨λ_=>d_mv rfl h.e⟩
instance [h:Som (ev2 env x) v]:DI P N sc (.assign x) env H v True:=⟨λ_=>d_as rfl h.e⟩
instance {i:Nat} {vs:List Value} [h:Som (ev2 env x) (.tuple vs.toArray)] [h2:Som (nth vs i) v]:DI P N sc (.extract x i) env H v True:=⟨λ_=>Zxn rfl h.e h2.n⟩
instance {ad:Addr} [h:Som (ev2 env x) (.pointer (some ad))]:DI P N sc (.nilCheck x) env H (.pointer (some ad)) True:=⟨λ_=>d_nc rfl h.e⟩
instance {p:Prop} [Decidable p] [h:Som (ev2 env x) (.bool (decide p))]:DI P N sc (.unOp .not t x) env H (.bool (decide (¬p))) True:=⟨λ_=>Yjz rfl h.e⟩
instance (priority:=low) {b:Bool} [h:Som (ev2 env x) (.bool b)]:DI P N sc (.unOp .not t x) env H (.bool (!b)) True:=⟨λ_=>Ql rfl h.e⟩
instance (priority:=high) [h:Som (ev2 env x) (.bool true)]:DI P N sc (.unOp .not t x) env H (.bool false) True:=⟨λ_=>Ql rfl h.e⟩
instance (priority:=high) [h:Som (ev2 env x) (.bool false)]:DI P N sc (.unOp .not t x) env H (.bool true) True:=⟨λ_=>Ql rfl h.e⟩
instance [h:Som (ev2 env c) (.bool true)] [h1:Som (ev2 env x) v]:DI P N sc (.pick c x y) env H v True:=⟨λ_=>Yor rfl h.e h1.e⟩
instance [h:Som (ev2 env c) (.bool false)] [h1:Som (ev2 env y) v]:DI P N sc (.pick c x y) env H v True:=⟨λ_=>Yos rfl h.e h1.e⟩
instance [h:Som (ev2 env x) (.int k m)] [h1:Som (ev2 env y) (.int k n)]:DI P N sc (.binOp .lss t x y t') env H (.bool (decide (m<n))) True:=⟨λ_=>Yj2 rfl h.e h1.e⟩
instance [h:Som (ev2 env x) (.int k m)] [h1:Som (ev2 env y) (.int k n)]:DI P N sc (.binOp .leq t x y t') env H (.bool (decide (m<=n))) True:=⟨λ_=>d_leq rfl h.e h1.e⟩
instance [h:Som (ev2 env x) (.int k m)] [h1:Som (ev2 env y) (.int k n)]:DI P N sc (.binOp .gtr t x y t') env H (.bool (decide (n<m))) True:=⟨λ_=>Zba rfl h.e h1.e⟩
instance [h:Som (ev2 env x) (.int k m)] [h1:Som (ev2 env y) (.int k n)]:DI P N sc (.binOp .geq t x y t') env H (.bool (decide (n<=m))) True:=⟨λ_=>d_geq rfl h.e h1.e⟩
instance [h:Som (ev2 env x) (.int k m)] [h1:Som (ev2 env y) (.int k n)]:DI P N sc (.binOp .eql t x y t') env H (.bool (decide (m=n))) True:=⟨λ_=>Yj3 rfl h.e h1.e⟩
instance [h:Som (ev2 env x) (.int k m)] [h1:Som (ev2 env y) (.int k n)]:DI P N sc (.binOp .neq t x y t') env H (.bool (decide (m≠n))) True:=⟨λ_=>Yj0 rfl h.e h1.e⟩
instance {a b:Bool} [h:Som (ev2 env x) (.bool a)] [h1:Som (ev2 env y) (.bool b)] [h2:Und P t .bool]:DI P N sc (.binOp .eql t x y t') env H (.bool (a == b)) True:=⟨λ_=>d_eqb rfl h.e h1.e h2.h⟩
instance {a b:Bool} [h:Som (ev2 env x) (.bool a)] [h1:Som (ev2 env y) (.bool b)] [h2:Und P t .bool]:DI P N sc (.binOp .neq t x y t') env H (.bool (a != b)) True:=⟨λ_=>d_neb rfl h.e h1.e h2.h⟩
instance [h:Som (ev2 env x) (.int .i64 m)] [h1:Som (ev2 env y) (.int .i64 n)]:DI P N sc (.binOp .add t x y t') env H (.int .i64 (m+n)) (-9223372036854775808<=m+n/\m+n<=9223372036854775807):=⟨λs=>d_add rfl h.e h1.e s⟩
instance [h:Som (ev2 env x) (.int .i64 m)] [h1:Som (ev2 env y) (.int .i64 n)]:DI P N sc (.binOp .sub t x y t') env H (.int .i64 (m-n)) (-9223372036854775808<=m-n/\m-n<=9223372036854775807):=⟨λs=>d_sub rfl h.e h1.e s⟩
instance [h:Som (ev2 env x) (.int .i64 m)] [h1:Som (ev2 env y) (.int .i64 n)]:DI P N sc (.binOp .mul t x y t') env H (.int .i64 (m*n)) (-9223372036854775808<=m*n/\m*n<=9223372036854775807):=⟨λs=>d_mul rfl h.e h1.e s⟩
instance {i kk:Nat} {α:Type} {enc:α->Value} {xs:List α} {e:TypeId} [h:Som (ev2 env x) v] [h1:RdI P H v i kk enc xs] [h2:Und P t (.slice e)]:DI P N sc (.call { callee:= .builtin .len,args:=#[x],argTypes:=#[t] }) env H (.int .i64 xs.length) True:=
 ⟨λ_=>by obtain⟨p,h3,h4⟩:=h1.h;exact d_len rfl h.e h3 h4 h2.h⟩
instance {s:ByteArray} [h:Som (ev2 env x) (.string s)] [h2:Und P t .string]:DI P N sc (.call { callee:= .builtin .len,args:=#[x],argTypes:=#[t] }) env H (.int .i64 s.size) True:=⟨λ_=>d_lens rfl h.e h2.h⟩
end
@[reducible] def eqb (a b:Nat):Bool:=match Nat.beq a b with
 | true=>true
 | false=>false
theorem eqb_eq{a b:Nat}(h:eqb a b=true):a=b:=by
 unfold eqb at h;cases hb:Nat.beq a b with
 | true=>exact dU hb
 | false=>rw [hb]at h;cases h
@[reducible] def lenq {α:Type} : List α->Nat->Bool
 | [],n=>match n with
  | 0=>true
  | _+1=>false
 | _::r,n=>match n with
  | 0=>false
  | n+1=>lenq r n
theorem Zgk{α:Type} : ∀{l:List α} {n:Nat},lenq l n=true->l.length=n
 | [],0,_=>rfl
 | [],n+1,h=>by simp [lenq]at h
 | _::r,0,h=>by simp [lenq]at h
 | _::r,n+1,h=>by have:=Zgk (l:=r) (n:=n) (by simpa [lenq]using h);simp [this]
@[reducible] def fit0 {α β:Type} : List α->List β->Bool
 | _,[]=>true
 | l,_::vs=>match l with
  | []=>false
  | _::r=>fit0 r vs
@[reducible] def fits {α β:Type} : List α->Nat->List β->Bool
 | [],j,a=>match j with
  | 0=>fit0 ([]:List α) a
  | _+1=>false
 | x::r,j,a=>match j with
  | 0=>fit0 (x::r) a
  | j+1=>fits r j a
theorem Zqv{α β:Type} : ∀{vs:List β} {l:List α},fit0 l vs=true->vs.length<=l.length
 | [],_,_=>O5
 | _::vs,[],h=>by simp [fit0]at h
 | _::vs,_::r,h=>by have:=Zqv (vs:=vs) (l:=r) (by simpa [fit0]using h);simp;omega
theorem Yap{α β:Type} : ∀{l:List α} {j:Nat} {vs:List β},fits l j vs=true->j+vs.length<=l.length
 | [],0,vs,h=>by have:=Zqv (by simpa [fits]using h);simpa using this
 | [],j+1,vs,h=>by simp [fits]at h
 | x::r,0,vs,h=>by have:=Zqv (l:=x::r) (by simpa [fits]using h);simpa using this
 | x::r,j+1,vs,h=>by have:=Yap (l:=r) (j:=j) (by simpa [fits]using h);simp;omega
@[reducible] def seg {α:Type} : List α->Nat->Nat->List α
 | [],_,_=>[]
 | x::r,j,k=>match j with
  | j+1=>seg r j k
  | 0=>match k with
   | 0=>[]
   | k+1=>x::seg r 0 k
theorem Zjh{α:Type} : ∀(l:List α) (j k n:Nat) (u:α),(seg l j k)[n]? = some u->l[j+n]? = some u
 | [],_,_,_,_,h=>by simp [seg]at h
 | x::r,j+1,k,n,u,h=>by have:=Zjh r j k n u (by simpa [seg]using h);rw [show j+1+n=(j+n)+1 by omega];simpa using this
 | x::r,0,0,n,u,h=>by simp [seg]at h
 | x::r,0,k+1,0,u,h=>by simpa [seg]using h
 | x::r,0,k+1,n+1,u,h=>by have:=Zjh r 0 k n u (by simpa [seg]using h);rw [bZ]at this ⊢;simpa using this
class LEv {α:Type} (l:List α) (r:outParam (List α)):Prop where h:l=r
instance {α:Type} : LEv ([]:List α) []:=⟨rfl⟩
instance {α:Type} {a:α} {l r:List α} [h:LEv l r]:LEv (a::l) (a::r):=⟨by rw [h.h]⟩
class AddN (a b:Nat) (c:outParam Nat):Prop where h:a+b=c
instance (priority:=low) {a b:Nat} : AddN a b (a+b):=⟨rfl⟩
instance {b:Nat} : AddN 0 b b:=⟨bZ b⟩
instance {a:Nat} : AddN a 0 a:=⟨rfl⟩
class Df (α:Type) (d:outParam α):Prop where t:True
instance:Df Int 0:=⟨aA⟩
instance:Df Nat 0:=⟨aA⟩
section
variable {x y:Operand} {v u:Value} {t tb:TypeId} {b j i k f:Nat} {l vs ws:List Value}
instance [h:Som (ev2 env x) (.pointer (some ⟨b,j,none⟩))] [h1:Agg P t false] [h2:BxI H b i tb l] [h3:Som (nth l j) v]:DI P N sc (.load t x) env H v True:=⟨λ_=>Yec rfl h.e h2.h h1.h h3.n⟩
instance [h:Som (ev2 env x) (.pointer (some ⟨b,j,none⟩))] [h1:Agg P t true] [h2:BxI H b i tb l] [h4:Siz P t k] [h3:LEv (seg l j k) vs] [h5:TB (lenq vs k)]:DI P N sc (.load t x) env H (.agg vs.toArray) True:=
 ⟨λ_=>Ya9 rfl h.e h2.h h1.h h4.h (Zgk h5.h) (λn u hu=>by rw [<-h3.h]at hu;simpa using Zjh l j k n u hu)⟩
instance [h:Som (ev2 env x) (.pointer (some ⟨b,j,none⟩))] [h1:Agg P t false] [h2:RxI H b i tb l] [h3:Som (nth l j) v]:DI P N sc (.load t x) env H v True:=⟨λ_=>d_lr rfl h.e h2.h h1.h h3.n⟩
instance [h:Som (ev2 env x) (.pointer (some ⟨b,j,none⟩))] [h1:Agg P t true] [h2:RxI H b i tb l] [h4:Siz P t k] [h3:LEv (seg l j k) vs] [h5:TB (lenq vs k)]:DI P N sc (.load t x) env H (.agg vs.toArray) True:=
 ⟨λ_=>d_lra rfl h.e h2.h h1.h h4.h (Zgk h5.h) (λn u hu=>by rw [<-h3.h]at hu;simpa using Zjh l j k n u hu)⟩
instance {fs:List Field} {c q bo:Nat} {nm tag pk:String} {ft:TypeId} {em:Bool} [h:Som (ev2 env x) (.pointer (some ⟨b,j,none⟩))] [h1:Und P t (.struct fs.toArray)] [h2:Som (nth fs f) ⟨nm,ft,q,em,tag,pk,bo⟩] [h3:Siz P ft k] [h5:TB (neb k 0)] [h4:AddN j q c] :
  DI P N sc (.fieldAddr t x f) env H (.pointer (some ⟨b,c,none⟩)) True:=⟨λ_=>by
 obtain⟨k,rfl⟩:=Nat.exists_eq_succ_of_ne_zero (Zbz h5.h);exact d_fa rfl h.e h1.h h2.n h3.h rfl h4.h⟩
instance {α:Type} {enc:α->Value} {xs:List α} {e:TypeId} {kd:IntKind} {n:Nat} [h:Som (ev2 env x) v] [h1:Som (ev2 env y) (.int kd (n:Int))] [h2:RdI P H v i k enc xs] [h3:Und P t (.slice e)] [h4:Siz P e k] :
  DI P N sc (.indexAddr t x y) env H (.pointer (some (ead v n k))) (n<xs.length):=⟨λs=>by obtain⟨p,h5,h6⟩:=h2.h;exact Zt rfl h.e h1.e h5 h6 h3.h h4.h rfl s⟩
instance {α:Type} {enc:α->Value} {xs:List α} {e:TypeId} {kd:IntKind} {n:Nat} [h:Som (ev2 env x) v] [h1:Som (ev2 env y) (.int kd (@OfNat.ofNat Int n (@instOfNat n)))] [hl:TB (eqb n n)] [h2:RdI P H v i k enc xs] [h3:Und P t (.slice e)] [h4:Siz P e k] :
  DI P N sc (.indexAddr t x y) env H (.pointer (some (ead v (@OfNat.ofNat Nat n (instOfNatNat n)) k))) (@OfNat.ofNat Nat n (instOfNatNat n)<xs.length):=⟨λs=>by obtain⟨p,h5,h6⟩:=h2.h;exact Zt rfl h.e h1.e h5 h6 h3.h h4.h rfl s⟩
instance {α:Type} {enc:α->Value} {xs:List α} {n:Nat} {d0:α} [h:Som (ev2 env x) (.pointer (some (ead v n k)))] [h2:RdI P H v i k enc xs] [h3:EncT P t k enc] [h4:Df α d0] :
  DI P N sc (.load t x) env H (enc (xs.getD n d0)) (n<xs.length):=⟨λs=>by obtain⟨p,h5,h6⟩:=h2.h;exact Xc d0 rfl h.e h5 h6 h3.h s⟩
instance {fs:List Field} {q bo:Nat} {nm tag pk:String} {ft:TypeId} {em:Bool} [h:Som (ev2 env x) (.agg l.toArray)] [h1:Und P t (.struct fs.toArray)] [h2:Som (nth fs f) ⟨nm,ft,q,em,tag,pk,bo⟩] [h3:Agg P ft false] [h4:Som (nth l q) v] :
  DI P N sc (.field t x f) env H v True:=⟨λ_=>d_fld rfl h.e h1.h h2.n h3.h h4.n⟩
end
class Adv (n:Nat) (p:Prop) (q:outParam Prop):Prop where h:q->p
def go(n:Nat){p q:Prop}[h:Adv n p q](k:q):p:=h.h k
@[reducible] def dsto (l:List Oper) (j:Nat):Option Nat:=match nth l j with
 | some o=>o.dst
 | none=>none
theorem Dt{l:List Oper}{j e:Nat}(h:Som (dsto l j) e):(l.toArray[j]?).bind (·.dst)=some e:=by
 have h:=h.h;unfold dsto at h;rw [Zwu]at h;simp only [List.getElem?_toArray];cases hb:l[j]? with
 | none=>rw [hb]at h;cases h
 | some o=>rw [hb]at h;exact h
section
variable {n:Nat} {q r s:Prop} {c x y:Code} {id:Nat} {l:List Oper} {ops:Array Oper} {rest:List Oper} {d j t:Nat} {op:Go.Op} {ty:TypeId} {pos:String} {af:Array Edge} {v:Value} {e:Exit} {b:Bool}
instance {p:Prop} : Adv 0 p p:=⟨λk=>k⟩
instance [h:Adv n (E P N sc x (Exit.then (y.wp P Q) Q) env H) q]:Adv (n+1) (E P N sc (.seq x y) Q env H) q:=⟨λk=>e_seq (h.h k)⟩
instance [h:Adv n (L P N sc l.toArray l Q env H) q]:Adv (n+1) (E P N sc (.region id l.toArray false) Q env H) q:=⟨λk=>e_reg (h.h k)⟩
instance [h:Adv n (X N sc .normal Q env H) q]:Adv (n+1) (E P N sc .skip Q env H) q:=⟨λk=>e_skip (h.h k)⟩
instance [h:Adv n (E P N sc c (Exit.inBlock id Q) env H) q]:Adv (n+1) (E P N sc (.block id c) Q env H) q:=⟨λk=>Yog (h.h k)⟩
instance [h:Adv n (X N sc (.exit id) Q env H) q]:Adv (n+1) (E P N sc (.exit id) Q env H) q:=⟨λk=>e_exit (h.h k)⟩
instance [h:Adv n (X N sc .ret Q env H) q]:Adv (n+1) (E P N sc .ret Q env H) q:=⟨λk=>e_ret (h.h k)⟩
instance {o:Operand} [h1:Som (ev2 env o) (.bool true)] [h:Adv n (E P N sc x Q env H) q]:Adv (n+1) (E P N sc (.cond o x y) Q env H) q:=⟨λk=>Yoe h1.e (h.h k)⟩
instance {o:Operand} [h1:Som (ev2 env o) (.bool false)] [h:Adv n (E P N sc y Q env H) q]:Adv (n+1) (E P N sc (.cond o x y) Q env H) q:=⟨λk=>Yof h1.e (h.h k)⟩
instance [h:Adv n (E P N sc y Q env H) q]:Adv (n+1) (X N sc .normal (Exit.then (y.wp P Q) Q) env H) q:=⟨λk=>x_then (h.h k)⟩
instance {K:Act->World->Prop} [h:Adv n (X N sc .ret Q env H) q]:Adv (n+1) (X N sc .ret (Exit.then K Q) env H) q:=⟨λk=>x_ret (h.h k)⟩
instance {K:Act->World->Prop} [h:Adv n (X N sc (.exit id) Q env H) q]:Adv (n+1) (X N sc (.exit id) (Exit.then K Q) env H) q:=⟨λk=>x_exit (h.h k)⟩
instance [h:Adv n (X N sc .normal Q env H) q]:Adv (n+1) (X N sc .normal (Exit.inBlock id Q) env H) q:=⟨λk=>x_bn (h.h k)⟩
instance [h:Adv n (X N sc .ret Q env H) q]:Adv (n+1) (X N sc .ret (Exit.inBlock id Q) env H) q:=⟨λk=>x_br (h.h k)⟩
instance [h:Adv n (X N sc .normal Q env H) q]:Adv (n+1) (X N sc (.exit id) (Exit.inBlock id Q) env H) q:=⟨λk=>x_be (h.h k)⟩
instance (priority:=low) {id':Nat} [hn:TB (neb id' id)] [h:Adv n (X N sc (.exit id') Q env H) q]:Adv (n+1) (X N sc (.exit id') (Exit.inBlock id Q) env H) q:=⟨λk=>x_bo (Zbz hn.h) (h.h k)⟩
instance [h:Adv n (X N sc .normal Q env H) q]:Adv (n+1) (L P N sc ops [] Q env H) q:=⟨λk=>l_nil (h.h k)⟩
instance [h1:DI P N sc op env H v s] [h2:TB (ltb d N)] [h:Adv n (L P N sc ops rest Q ((d,v)::env) H) q] [h3:AndO s q r]:Adv (n+1) (L P N sc ops (⟨some d,op,ty,pos,af,none⟩::rest) Q env H) r:=
 ⟨λk=>dt (h1.h (h3.h k).1) (h.h (h3.h k).2) (Nm h2.h)⟩
instance [hj:Som (dsto l j) t] [hg:Som (lk2 env t) (.bool b)] [h4:TB (ltb t N)] [h1:DI P N sc op env H v s] [h2:TB (ltb d N)] [h:Adv n (L P N sc l.toArray rest Q ((d,v)::env) H) q] [h3:AndO s q r]:Adv (n+1) (L P N sc l.toArray (⟨some d,op,ty,pos,af,some (j,b)⟩::rest) Q env H) r:=
 ⟨λk=>Cm (h1.h (h3.h k).1) (Dt hj) hg.l (h.h (h3.h k).2) (Nm h4.h) (Nm h2.h)⟩
instance [hj:Som (dsto l j) t] [hg:Som (lk2 env t) (.bool false)] [h4:TB (ltb t N)] [h2:TB (ltb d N)] [h:Adv n (L P N sc l.toArray rest Q ((d,undef)::env) H) q]:Adv (n+1) (L P N sc l.toArray (⟨some d,op,ty,pos,af,some (j,true)⟩::rest) Q env H) q:=
 ⟨λk=>gsk (Dt hj) hg.l rfl (Nm h4.h) (Nm h2.h) (h.h k)⟩
instance [hj:Som (dsto l j) t] [hg:Som (lk2 env t) (.bool true)] [h4:TB (ltb t N)] [h2:TB (ltb d N)] [h:Adv n (L P N sc l.toArray rest Q ((d,undef)::env) H) q]:Adv (n+1) (L P N sc l.toArray (⟨some d,op,ty,pos,af,some (j,false)⟩::rest) Q env H) q:=
 ⟨λk=>gsk (Dt hj) hg.l rfl (Nm h4.h) (Nm h2.h) (h.h k)⟩
instance [hj:Som (dsto l j) t] [hg:Som (lk2 env t) undef] [h2:TB (ltb d N)] [h:Adv n (L P N sc l.toArray rest Q ((d,undef)::env) H) q]:Adv (n+1) (L P N sc l.toArray (⟨some d,op,ty,pos,af,some (j,b)⟩::rest) Q env H) q:=
 ⟨λk=>gsku (Dt hj) hg.l (Nm h2.h) (h.h k)⟩
end
end Go.Sky
namespace Go.Sky
variable {P:Program} {N:Nat} {sc:Nat->Prop} {env env':Pz} {H H':Hp} {Q Q':Exit->Act->World->Prop} {M:Nat->Prop}
class Hw (w0:World) (sc:Nat->Prop):Prop where h:∀b,w0.heap.size<=b->sc b
class EvI (env:Pz) (xs:List Operand) (vs:outParam (List Value)):Prop where h:EvL env xs vs
instance:EvI env [] []:=⟨aA⟩
instance {x:Operand} {r:List Operand} {v:Value} {vs:List Value} [h:Som (ev2 env x) v] [h2:EvI env r vs]:EvI env (x::r) (v::vs):=⟨⟨h.e,h2.h⟩⟩
class CalF (P:Program) (f:FuncId):Prop where h:∀args w,(callFunc f args).run P w= .ok (.enter f args) w
class AddI (n:Nat) (l:List Pc) (H:Hp) (H':outParam Hp):Prop where h:adds n l H=H'
instance {n:Nat} : AddI n [] H H:=⟨rfl⟩
instance {n:Nat} {p:Pc} {r:List Pc} [h:AddI (n+1) r H H']:AddI n (p::r) H ((n,p)::H'):=⟨by rw [<-h.h]⟩
class PreL (P:Program) (H:Hp) (al:Bool) (ids:List Nat) (pre:outParam (List Pc)):Prop where h:PreOk H al pre
class RoI (p:Pc):Prop where h:p.own=false
instance {α:Type} {k:Nat} {enc:α->Value} {v:Value} {xs:List α} : RoI (Yw k enc v xs):=⟨rfl⟩
instance {β:Type} {k:Nat} {enc:β->Value} {q:β->Pc} {v:Value} {zs:List β} : RoI (Ph k enc q v zs):=⟨rfl⟩
instance {b:Nat} {t:TypeId} {cs:Array Value} : RoI (Fc b t cs):=⟨rfl⟩
class LnI (P:Program) (al:Bool) (i:Nat) (p:Pc) (q:outParam Pc):Prop where
 h:i≠0->∀{H r},lk H i=some p->PreOk H al r->PreOk H al (q::r)
theorem Zvk{i:Nat}(h:i≠0):Nat.beq i 0=false:=by
 cases hb:Nat.beq i 0 with
 | true=>exact absurd (dU hb) h
 | false=>rfl
instance {al:Bool} {i:Nat} {p:Pc} [h:RoI p]:LnI P al i p p:=⟨λh0 _ _ hi hr=>Zm i hi (Zvk h0) h.h hr⟩
instance {α:Type} {i k:Nat} {e:TypeId} {enc:α->Value} {v:Value} {xs:List α} [h:EncT P e k enc]:LnI P false i (On k e enc v xs) (Yw k enc v xs):=⟨λh0 _ _ hi hr=>Yg2 i hi (Zvk h0) h.h hr⟩
instance {i b:Nat} {t:TypeId} {cs:Array Value} : LnI P false i (box b t cs) (Fc b t cs):=⟨λh0 _ _ hi hr=>Zhu i hi (Zvk h0) hr⟩
instance {al:Bool} : PreL P H al [] []:=⟨aA⟩
instance {al:Bool} {i:Nat} {ids:List Nat} {p q:Pc} {r:List Pc} [h:Som (lk2 H i) p] [h0:TB (neb i 0)] [h1:LnI P al i p q] [h2:PreL P H al ids r]:PreL P H al (i::ids) (q::r):=⟨h1.h (Zbz h0.h) h.l h2.h⟩
theorem T.conv{o:Oper}{G:Type}{φ:G->Prop}{c:G->Pz}{a b:G->Hp}(h:T P N sc M o env H φ c a)(d:∀g,a g=b g):T P N sc M o env H φ c b:=by rw [show b=a from(funext d).symm];exact h
section
variable {f:FuncId} {xs:List Operand} {ats:Array TypeId} {d:Nat} {vs fs us:List Value} {pre:List Pc} {al:Bool} {G:Type} {φ:G->Prop} {Yr:G->Value} {its:G->List Pc} {w0:World} {M0:Nat->Prop} {ty:TypeId} {pos:String} {af:Array Edge} {g:Option (Nat×Bool)}
def Zk(n:Nat)(a:List Nat)(c:Cal P f vs.toArray pre al φ Yr its){b:G->Hp}[hx:EvI env xs vs][hf:CalF P f][hp:PreL P H al a pre][h0:Som (lk2 H 0) (Xx w0 M0)][hN:TB (ltb d N)][hw:Hw w0 sc][ha:∀g,AddI n (its g) H (b g)] :
  T P N sc M ⟨some d,.call { callee:= .value (.func f),args:=xs.toArray,argTypes:=ats },ty,pos,af,g⟩ env H φ (λg=>(d,Yr g)::env) b:=
 (Xb (n:=n) c rfl rfl (Nm hN.h) hx.h hf.h hp.h h0.l hw.h).conv λg=>(ha g).h
class On1 (P:Program) (N:Nat) (sc:Nat->Prop) (env:Pz) (H:Hp) (v:Value):Prop where h:One N sc env H v
instance {k:IntKind} {n:Int} : On1 P N sc env H (.int k n):=⟨Yd rfl⟩
instance {b:Bool} : On1 P N sc env H (.bool b):=⟨Yd rfl⟩
instance {s:ByteArray} : On1 P N sc env H (.string s):=⟨Yd rfl⟩
instance {a:Option Addr} : On1 P N sc env H (.pointer a):=⟨Yd rfl⟩
instance {a:Option Addr} {m n:Nat} : On1 P N sc env H (.slice a m n):=⟨Yd rfl⟩
instance (priority:=low) {α:Type} {i k:Nat} {v:Value} {enc:α->Value} {ys:List α} [h:RdI P H v i k enc ys]:On1 P N sc env H v:=⟨by obtain⟨p,h1,h2⟩:=h.h;exact Oc h1 h2⟩
class OnL (P:Program) (N:Nat) (sc:Nat->Prop) (env:Pz) (H:Hp) (l:List Value):Prop where h:∀u∈l,One N sc env H u
instance:OnL P N sc env H []:=⟨λ_ h=>nomatch h⟩
instance {v:Value} {l:List Value} [h:On1 P N sc env H v] [h2:OnL P N sc env H l]:OnL P N sc env H (v::l):=⟨λu hu=>by
 cases hu with
 | head=>exact h.h
 | tail _ hu=>exact h2.h u hu⟩
class CeI (P:Program) (N:Nat) (sc:Nat->Prop) (env:Pz) (H:Hp) (v:Value) (l:outParam (List Value)):Prop where
 h:∀a w,Sat N sc env H a w->v.cells=l.toArray
 o:∀u∈l,One N sc env H u
instance {l:List Value} [h:OnL P N sc env H l]:CeI P N sc env H (.agg l.toArray) l:=⟨λ_ _ _=>rfl,h.h⟩
instance (priority:=low) {v:Value} [h:On1 P N sc env H v]:CeI P N sc env H v [v]:=⟨λa w hs=>Yb (h.h a w hs),λu hu=>by rw [bE.1 hu];exact h.h⟩
class ClI (v:Value) (l:outParam (List Value)):Prop where h:v.cells=l.toArray
instance {l:List Value} : ClI (.agg l.toArray) l:=⟨rfl⟩
instance {k:IntKind} {n:Int} : ClI (.int k n) [.int k n]:=⟨rfl⟩
instance {b:Bool} : ClI (.bool b) [.bool b]:=⟨rfl⟩
instance {s:ByteArray} : ClI (.string s) [.string s]:=⟨rfl⟩
instance {a:Option Addr} : ClI (.pointer a) [.pointer a]:=⟨rfl⟩
instance {a:Option Addr} {m n:Nat} : ClI (.slice a m n) [.slice a m n]:=⟨rfl⟩
class Zer (P:Program) (t:TypeId) (z:outParam Value):Prop where h:∀w,(zeroValue t).run P w= .ok z w
variable {t tb:TypeId} {l l':List Value} {v z:Value} {x y:Operand} {i j k b:Nat}
def Ya(n:Nat)[hz:Zer P t z][hc:ClI z l][h0:Som (lk2 H 0) (Xx w0 M0)][hN:TB (ltb d N)][hw:Hw w0 sc] :
  T P N sc M ⟨some d,.alloc t,ty,pos,af,g⟩ env H (G:=Nat) (λ_=>True) (λb=>(d,.pointer (some ⟨b,0,none⟩))::env) (λb=>(n,box b t l.toArray)::H):=Zjc rfl rfl (Nm hN.h) hz.h hc.h h0.l hw.h
def Yj(n:Nat)[hx:Som (ev2 env x) v][hc:ClI v l][h0:Som (lk2 H 0) (Xx w0 M0)][hN:TB (ltb d N)][hw:Hw w0 sc] :
  T P N sc M ⟨some d,.box t x,ty,pos,af,g⟩ env H (G:=Nat) (λ_=>True) (λb=>(d,.pointer (some ⟨b,0,none⟩))::env) (λb=>(n,box b t l.toArray)::H):=t_box rfl rfl (Nm hN.h) hx.e hc.h h0.l hw.h
@[reducible] def lay2 {α:Type} : List α->Nat->List α->List α
 | [],_,_=>[]
 | c::r,j,vs=>match j with
  | j+1=>c::lay2 r j vs
  | 0=>match vs with
   | []=>c::r
   | v::vs=>v::lay2 r 0 vs
theorem Zqp{α:Type} : ∀(l:List α) (j:Nat) (vs:List α),j+vs.length<=l.length->lay2 l j vs=l.take j ++ vs ++ l.drop (j+vs.length)
 | [],j,vs,h=>by have a:vs=[]:=aC (by simp only [eX]at h;omega);subst a;simp [lay2]
 | c::r,j+1,vs,h=>by rw [show j+1+vs.length=(j+vs.length)+1 by omega];simp only [lay2,kW,nL,iF];rw [Zqp r j vs (by simp at h;omega)]
 | c::r,0,[],h=>by simp [lay2]
 | c::r,0,v::vs,h=>by
  have e:0+vs.length<=r.length:=by simp only [dI]at h;omega
  have:=Zqp r 0 vs e;simp only [lay2,this,bZ,dV,iR,dI,nL,iF]
theorem Ye3 [hx:Som (ev2 env x) (.pointer (some ⟨b,j,none⟩))] [hy:Som (ev2 env y) v] [hB:BxI H b i tb l] [hi:TB (neb i 0)] [hv:CeI P N sc env H v vs] [hk:Siz P t k] [hl:TB (lenq vs k)] [hf:TB (fits l j vs)] [hr:LEv (lay2 l j vs) l']
  [h0:Som (lk2 H 0) (Xx w0 M0)] [hw:Hw w0 sc] (e:M b):T P N sc M ⟨none,.store t x y,ty,pos,af,g⟩ env H (G:=Unit) (λ_=>True) (λ_=>env) (λ_=>(i,box b tb l'.toArray)::H):=λa w hs=>by
 have c:=Yap hf.h;refine Zkk rfl rfl hx.e hy.e hB.h (Zbz hi.h) (hv.h a w hs) hk.h (Zgk hl.h) (by simpa using c) hv.o ?_ h0.l hw.h e a w hs;unfold Fp;rw [<-hr.h,Zqp l j vs c]
variable {ops:Array Oper} {rest:List Oper} {op:Go.Op} {genv:G->Pz} {gH:G->Hp} {dd:Option Tmp}
def Yh(a:T P N sc (λ_=>True) ⟨dd,op,ty,pos,af,none⟩ env H φ genv gH)(h:∀g,φ g->L P N sc ops rest Q (genv g) (gH g)):L P N sc ops (⟨dd,op,ty,pos,af,none⟩::rest) Q env H:=tt a h
def gt' {c:List Oper} {e:Nat} {a:Bool} (m:T P N sc (λ_=>True) ⟨dd,op,ty,pos,af,some (j,a)⟩ env H φ genv gH) [hj:Som (dsto c j) e] [he:Som (lk2 env e) (.bool a)] [hN:TB (ltb e N)]
  (h:∀g,φ g->L P N sc c.toArray rest Q (genv g) (gH g)):L P N sc c.toArray (⟨dd,op,ty,pos,af,some (j,a)⟩::rest) Q env H:=gtt m rfl (Dt hj) he.l (Nm hN.h) h
instance {n:Nat} {q:Prop} [hx:Som (ev2 env x) (.pointer (some ⟨b,j,none⟩))] [hy:Som (ev2 env y) v] [hB:BxI H b i tb l] [hi:TB (neb i 0)] [hv:CeI P N sc env H v vs] [hk:Siz P t k] [hl:TB (lenq vs k)] [hf:TB (fits l j vs)] [hr:LEv (lay2 l j vs) l']
  [h0:Som (lk2 H 0) (Xx w0 M0)] [hw:Hw w0 sc] [h:Adv n (L P N sc ops rest Q env ((i,box b tb l'.toArray)::H)) q]:Adv (n+1) (L P N sc ops (⟨none,.store t x y,ty,pos,af,none⟩::rest) Q env H) q:=
 ⟨λq=>Yh (Ye3 aA) λ_ _=>h.h q⟩
end
end Go.Sky
namespace Go.Sky
open Go.RowKit (Below)
variable{o:Oper}{x:Operand}{k:IntKind}{cs:Array Value}
variable {P:Program} {N:Nat} {sc:Nat->Prop} {env env':Pz} {H H':Hp} {Q Q':Exit->Act->World->Prop} {M:Nat->Prop}
theorem f_new{w0:World}{p:Pc}(i:Nat)(hi:lk H i=some p)(f:p.own=true)(d:lk H 0=some (Xx w0 (λ_=>False)))(c:i≠0:=by decide):∀a w,Sat N sc env H a w->∀b,p.fp b->w0.heap.size<=b:=λa w hs b e=>by
  rcases bA b w0.heap.size with h|h
  . exact(hs.sep i 0 p _ c hi d f b e ⟨h,λh=>h⟩).elim
  . exact h
theorem Yen {fn:Func} {pre:List Pc} {G:Type} {φ:G->Prop} {Yr:G->Value} {c:G->List Pc} {w0:World} {e:Exit} (B:e= .ret\/e= .normal)
    (g:G) (v:Value) (n:∀p∈c g,∀b,p.fp b->w0.heap.size<=b) (j:∀a w,Sat N sc env H a w->(results fn a.tmps).run P w= .ok v w) (R:Yr g=v) (F:φ g) (t:lk H 0=some (Xx w0 (λ_=>False))) (d:Give H true (c g)) :
    X N sc e (Zdm P fn w0 pre false φ Yr c) env H:=λa w hs=>by
  have l : a.defers = [] /\ ∃ v, (results fn a.tmps).run P w = .ok v w /\ (∃ g, Ending.returned v = .returned (Yr g) /\ φ g /\ Below w0.heap.size w0 w /\
        ∀p∈c g,p.holds w/\p.own=false/\∀b,p.fp b->w0.heap.size<=b\/(false=true/\∃q∈pre,q.fp b)):=by
    refine⟨hs.defers,v,j a w hs,g,by rw [R],F,Gv (hs.hold 0 _ t),λp s=>?_⟩;obtain⟨r,h|⟨u,y⟩⟩:=d.mem p s
    case inr=>exact⟨u w,r,λb m=>absurd m (y b)⟩
    obtain⟨i,S,I,hi,f,D,z⟩:=h;exact⟨f w (hs.hold i S hi),r,λb m=> .inl (n p s b m)⟩
  rcases B with rfl|rfl
  . exact l
  . exact l
section
variable {f:FuncId} {xs:List Operand} {ats:Array TypeId} {d:Nat} {vs:List Value} {pre:List Pc} {G:Type} {φ:G->Prop} {Yr:G->Value} {its:G->List Pc} {w0:World} {M0:Nat->Prop} {ty:TypeId} {pos:String} {af:Array Edge} {g:Option (Nat×Bool)}
theorem Yl8  {n:Nat} (Z:Cal P f vs.toArray pre false φ Yr its)
    (ho:o.op= .call { callee:= .value (.func f),args:=xs.toArray,argTypes:=ats }) (hd:o.dst=some d) (Y:Nat.blt d N=true)
    (r:EvL env xs vs) (t:∀args w,(callFunc f args).run P w= .ok (.enter f args) w) (v:PreOk H false pre)
    (R:lk H 0=some (Xx w0 M0)) (hw:∀b,w0.heap.size<=b->sc b) :
    T P N sc M o env H (λg=>φ g/\∀p∈its g,∀b,p.fp b->w0.heap.size<=b) (λg=>(d,Yr g)::env) (λg=>adds n (its g) H):=λa w hs K Q W=>by
  have B:w0.heap.size<=w.heap.size:=(hs.hold 0 _ R).size;have hr:(execOp a.eval o).run P w= .ok (.enter f vs.toArray) w:=by have hm:=r.map hs;simp [execOp,ho,resolve,invoke,Act.eval,Deferred.ofValue,hm,t]
  unfold Oper.wp;rw [hr];refine(Z w (λp l=>by obtain⟨i,it,_,hi,u,_,_⟩:=v.mem p l;exact u w (hs.hold i it hi))).mono ?_
  rintro e I ⟨g,rfl,hg,m,q⟩;show K (a.put o.dst (Yr g)) I;rw [hd];have z:Sat N sc env H a I:=hs.chg0 (Chg.of_below m);have c:∀p∈its g,∀b,p.fp b->w.heap.size<=b:=λp l b s=>by
    rcases(q p l).2.2 b s with h|⟨h,_⟩
    . exact h
    . cases h
  refine W g _ _ ⟨hg,λp l b s=>aB B (c p l b s)⟩ (Sat.put (z.adds (w1:=w) (its g) n ?_) d _ Y) (Chg.of_below m);intro p l;obtain⟨S,V,h3⟩:=q p l;refine⟨S,V,λb s=>hw b (aB B (c p l b s)),λj F hj D b s y=>?_⟩;have:=F.lt w b (hs.hold j F hj) y;have:=c p l b s;omega
def Ycm(n:Nat)(a:List Nat)(e:Cal P f vs.toArray pre false φ Yr its){c:G->Hp}[hx:EvI env xs vs][hf:CalF P f][hp:PreL P H false a pre][h0:Som (lk2 H 0) (Xx w0 M0)][hN:TB (ltb d N)][hw:Hw w0 sc][ha:∀g,AddI n (its g) H (c g)] :
    T P N sc M ⟨some d,.call { callee:= .value (.func f),args:=xs.toArray,argTypes:=ats },ty,pos,af,g⟩ env H (λg=>φ g/\∀p∈its g,∀b,p.fp b->w0.heap.size<=b) (λg=>(d,Yr g)::env) c:=
  (Yl8 (n:=n) e rfl rfl (Nm hN.h) hx.h hf.h hp.h h0.l hw.h).conv λg=>(ha g).h
end
theorem hw_up{w0 W:World}(h:Hw w0 sc)(a:w0.heap.size<=W.heap.size):Hw W sc:=⟨λb c=>h.h b (aB a c)⟩
theorem Zos  {y:Operand} {ats:Array TypeId}  {m n:Int} (b:o.op= .call { callee:= .builtin .min,args:=#[x,y],argTypes:=ats })
    (c:ev env x=some (.int k m)) (e:ev env y=some (.int k n)):Mx P N sc o env H (.int k (min m n)):=λa w hs=>by
  simp [execOp,b,resolve,hs.ev c,hs.ev e,invoke,builtin,Builtin.min_,Builtin.min2];by_cases h:n<m
  . rw [aF h];omega
  . rw [aD h];omega
theorem d_lbw   {t p:TypeId} {i b k:Nat}  (h:o.op= .load t x) (m:ev env x=some (.pointer (some ⟨b,0,none⟩))) (a:lk H i=some (box b p cs)) (j:∀w,(isAgg t).run P w= .ok true w) (c:∀w,(sizeOf t).run P w= .ok k w)
    (e:cs.size=k):Mx P N sc o env H (.agg cs):=by
  have:=Ya9 (P:=P) (N:=N) (sc:=sc) (vs:=cs.toList) h m a j c (by simpa using e) (λn u l=>by rw [bZ];simpa using l);simpa using this
end Go.Sky
namespace Go.Sky
variable{p:Zv->Bool}{i:Nat}{d:Zv}
abbrev Zvs:=(Int×Int×Int)×List Int×List Int×List Int
def unS(g:Zv):Zvs:=(g.1,g.2.1.2,g.2.2.1.2,g.2.2.2.2)
abbrev cA (fr:Int) (g:Zv):Int:=max fr g.1.1
abbrev cB (a:Int) (g:Zv):Int:=min a g.1.2.1
abbrev cX (fr a:Int) (g:Zv) (c:List Int):List Int:=Pa c (cA fr g-g.1.1) (cB a g-cA fr g) (g.1.2.1-g.1.1)
abbrev cO (g:Zv):Int:=g.1.2.2*(g.1.2.1-g.1.1)^5
def cG(fr a:Int)(g:Zv):Int:=Kk (cO g) (cX fr a g g.2.1.2) (cX fr a g g.2.2.1.2) (cX fr a g g.2.2.2.2)
def Ku(fr a:Int)(g:Zv):Bool:=decide (cA fr g<cB a g)
def Zg0(fr a:Int)(g:Zv):Bool:=decide (cO g/cG fr a g<=4294967296)
def Zu6(fr a:Int)(g:Zv):Zvs:=((cA fr g,cB a g,mdO (cO g) (cG fr a g)),mdL (cO g) (cG fr a g) (cX fr a g g.2.1.2),mdL (cO g) (cG fr a g) (cX fr a g g.2.2.1.2),mdL (cO g) (cG fr a g) (cX fr a g g.2.2.2.2))
def MdG(fr a:Int)(g:Zv):Prop:=Mdh (cO g) (cX fr a g g.2.1.2) (cX fr a g g.2.2.1.2) (cX fr a g g.2.2.2.2)
theorem Zqu{ps:List Zv}(hi:i<ps.length)(b:p (ps.getD i d)=true):(ps.filter p)[((ps.take i).filter p).length]? = some (ps.getD i d):=by
 have h:=fM i ps;have a:ps.drop i=ps.getD i d::ps.drop (i+1):=by rw [aG,aL hi,fP];exact eO hi
 conv=>lhs;arg 1;rw [<-h,a]
 rw [iO,fI b];simp
theorem fl_t{ps:List Zv}(hi:i<ps.length)(a:p (ps.getD i d)=true):((ps.take (i+1)).filter p).length=((ps.take i).filter p).length+1:=by rw [Pw d _ _ hi,iO,fI a,aY];rfl
theorem fl_f{ps:List Zv}(hi:i<ps.length)(a:p (ps.getD i d)=false):((ps.take (i+1)).filter p).length=((ps.take i).filter p).length:=by rw [Pw d _ _ hi,iO,iJ (by rw [a];exact cZ),aY];rfl
def Ziu{d:Int}(h:1<=d/\d<=3600000):bl (d^5).natAbs<=132:=Zoy (Zb8 O) 5 (aH _)
theorem Yj8{W:Nat}{H:Hp}{j k l:SL}{e f g:List Int}(h:∀p∈[Yw 1 Yl (Xn j) e,Yw 1 Yl (Xn k) f,Yw 1 Yl (Xn l) g],∀b,p.fp b->W<=b)(i:Nat)(n:lk H i=some (Yw 1 Yl (Xn j) e))(o:lk H (i+1)=some (Yw 1 Yl (Xn k) f))(q:lk H (i+2)=some (Yw 1 Yl (Xn l) g)) :
  ∀p∈[Yw 1 Yl (Xn j) e,Yw 1 Yl (Xn k) f,Yw 1 Yl (Xn l) g],p.own=false/\(∀b,p.fp b->W<=b)/\∃i m,lk H i=some m/\∀w,m.holds w->p.holds w:=λp c=>by
 have a:=h p c;simp only [bQ,fQ,lJ]at c;rcases c with rfl|rfl|rfl
 .exact⟨rfl,a,_,_,n,λ_ h=>h⟩
 .exact⟨rfl,a,_,_,o,λ_ h=>h⟩
 .exact⟨rfl,a,_,_,q,λ_ h=>h⟩
theorem cut_b{fr b:Int}{g:Zv}(a:SgG g)(h:Ku fr b g=true):(cA fr g-g.1.1).natAbs<=3600000/\(cB b g-cA fr g).natAbs<=3600000/\Nz (cA fr g-g.1.1)/\Nz (cB b g-cA fr g):=by have j:=cF h;have c:=a.t1;have e:=a.t2;have f:=a.t3;unfold cA cB at *;exact⟨O,O,⟨O,O⟩,⟨O,O⟩⟩
end Go.Sky

