/- Rules, arithmetic and contracts: part 14. No conditions but those that each theorem names. -/
import Derived.Test.YtpmihempjefadaaGreatAw12
import Derived.RangeFuncFrom
import Derived.RangeFuncLeaves
import Derived.OrdersIn
import Derived.TacticsIn
import Derived.RangeFuncCalls
set_option linter.all false
set_option maxHeartbeats 4000000
namespace Go.Sky
variable{a d:Int}{b:Bool}{M:Nat->Prop}{rest:List (Nat×Nat)}{i:Nat}{z d0:SL×List Int}{c:List Int}{zs:List (SL×List Int)}{f:Nat->List Int}{args:Array Value}{R:Value->World->Prop}{listed:Array Bool}
abbrev PTs:=Int×R2×R2
abbrev P0:PTs:=(0,(0,0),(0,0))
abbrev encP9 (z:PTs):Value:= .agg #[.int .i64 z.1,.bool (decide (z.2.1.1<0)),.string (Xn z.2.1.1.natAbs),.bool (decide (z.2.1.2<0)),.string (Xn z.2.1.2.natAbs),.bool (decide (z.2.2.1<0)),.string (Xn z.2.2.1.natAbs),.bool (decide (z.2.2.2<0)),.string (Xn z.2.2.2.natAbs)]
def shw(xs:List Int)(z:PTs):Bool:=if z.1=1 then plainB xs z.2.1 z.2.2 else if xs.length=0\/cmp z.2.1 z.2.2=0 then decide (0<=vlu (Nb xs) z.2.1)else decide (0<aft (Nb xs) z.2.1) && !crb (chx xs) z.2.1 z.2.2
def okpB(xs:List Int)(l:R2)(z:PTs):Bool:=decide (cmp l z.2.1=0) && decide (¬0<cmp z.2.1 z.2.2) && shw xs z
def lst(a:R2)(ps:List PTs)(i:Nat):R2:=if i=0 then a else(ps.getD (i-1) P0).2.2
def chkP(xs:List Int)(ps:List PTs)(a b:R2):Bool:=decide (0<ps.length) && (List.range ps.length).all (λk=>okpB xs (lst a ps k) (ps.getD k P0)) && decide (cmp (lst a ps ps.length) b=0)
def ValP(ps:List PTs):Prop:=∀z∈ps,(z.1=1\/z.1=2)/\Ef z.2.1/\Ef z.2.2
theorem Ef.efit{a:R2}(h:Ef a):Go.Sky.efit a=true:=by have:=h.b1;have:=h.b2;unfold Go.Sky.efit;exact aI O
theorem Xw(h:(!b)=true):b=false:=by cases b<;>simp_all
theorem Qm(h:(!b)=false):b=true:=by cases b<;>simp_all
theorem Bc {P:Program} {N:Nat} {sc:Nat->Prop} {env:Qj} {H:Hp}  {ops:Array Oper} {F:Qj->Hp->Prop}  {o:Oper} {d j e:Nat}  (q:ops[i]? = some o) (n:o.guard=some (j,b)) (p:(ops[j]?).bind (·.dst)=some e) (m:lk env e=some undef) (l:o.dst=some d) 
  (h:LD P N sc M ops F rest ((d,undef)::env) H) (k:Nat.blt d N=true:=by rfl):LD P N sc M ops F ((i,2)::rest) env H:=⟨o,d,q,l,k,λa w g=>by simp [Region.wanted,n,g.yieldedu p m],h⟩
open Go.Proofs.Tryz
open Go.Proofs
set_option synthInstance.maxHeartbeats 0
set_option synthInstance.maxSize 100000
set_option maxRecDepth 20000
set_option linter.unusedSimpArgs false
theorem Ydh{fr k q e l h:Int}{B D F m n o:Value}{x y z r s t:List Int}(G:Sgo fr k q x y z)(p:Sgo e l h r s t):Xj prog 110 #[.agg #[.int .i64 fr,.int .i64 k,.int .i64 q,B,D,F],.agg #[.int .i64 e,.int .i64 l,.int .i64 h,m,n,o]] [Ys 1 Xf B x,Ys 1 Xf D y,Ys 1 Xf F z,Ys 1 Xf m r,Ys 1 Xf n s,Ys 1 Xf o t] (.bool (Zkv k q x y z e h r s t)):=by
 refine Zd func110 ntmps110 λN I v j=>go 2 ?_;refine Zz (Zu 7) λH _=>Zz (Zu 8) λu _=>go 4 ?_;rcases(show k=e\/k≠e by omega)with g|g
 .refine Pd (λ_=>False) [(0,0),(1,0),(2,0),(3,0),(4,0),(5,0),(6,0),(8,0),(7,1),(9,1),(10,0),(11,0),(12,3)]<|go 4 ?_;refine Qb J J (Pq (dT (Yhn J J J) (vB (aI g))))<|go 3 ?_;refine Af J J J J J (Oj 8 (Zrg 1 1 G ⟨O3,O3⟩ ⟨O3,O3⟩) J J J K3 call175 (Yd 1 J J J (Yd 2 J J J (Yd 3 J J J Zs))) J v.h) (λ_ _=>?_);refine Af J J J J J (Oj 8 (Zrg 0 1 p ⟨O3,O3⟩ ⟨O3,O3⟩) J J J K3 call175 (Yd 4 J J J (Yd 5 J J J (Yd 6 J J J Zs))) J v.h) (λ_ _=>?_);refine r0g (Pq (d_eqg J J J eg179 (λw=>eqlP w))) J J J J J<|go 5 ?_;exact Yx j () results110 (by unfold Zkv;rw [aI g];rfl) aA Za
 .refine Pd (λ_=>False) [(0,0),(1,0),(2,0),(3,0),(4,0),(5,0),(6,2),(8,2),(7,2),(9,2),(10,2),(11,0),(12,3)]<|go 4 ?_;refine Qb J J (Pq (dF (Yhn J J J) (vB (aK g))))<|go 11 ?_;exact Yx j () results110 (by unfold Zkv;rw [aK g];rfl) aA Za
theorem Om{v:Value}{ps:List Ze}(t:∀g∈ps,Gin g):Xj prog 43 #[v] [Qi 6 Pz qG v ps] (.bool (Xt ps)):=by
 refine Zd func43 ntmps43 λy x u l=>?_;refine Lh (Ev (i:=1) J Yf) λs=>go 14 ?_;refine lp (G:=Nat) [0,5,6] [0,1] (λi=>[(7,.int .i64 (i:Int))]) (λi=>[]) (λi=>(i<=ps.length)/\(∀k,k<i->Zd3 ps k=true)) (λi=>ps.length-i) 0 ⟨O1,λk n=>absurd n (cK k)⟩ K1 aA ?_;rintro i ⟨hi,n⟩;refine go 6<|Zc J (λo=>?_) (λo=>?_)
 .refine go 5 ?_;have h:=t _ (Zi (d:=G0) (show i<ps.length by omega));refine Zr (Gm (ps.getD i G0) ((ps.getD i G0).2.1) 1 51 J J Zi O8)<|Zr (Gm (ps.getD i G0) ((ps.getD i G0).2.2.1) 1 52 J J Zi O8)<|Zr (Gm (ps.getD i G0) ((ps.getD i G0).2.2.2) 1 53 J J Zi O8)<|go 3 ⟨O2,?_⟩;refine dt (Of 1 G0 J J J Yf pG O2)<|Zz (Zx 2) λw _=>go 5 ?_;rcases Yat (ps.getD i G0) i with e|⟨e,j⟩|⟨e,j⟩
  .refine Pd (λ_=>False) [(0,0),(1,1),(2,0),(3,0),(4,2),(5,2),(6,2),(7,2),(8,2),(9,2),(10,2),(11,2),(12,2),(13,2),(14,2),(15,2),(16,0)]<|go 1<|Qk (Zv 2 [51,52,53] (Zjw h.f h.t h.o h.x h.y h.z)) λ_ _=>?_;refine Qb J J (Pq (dT (Yz J J) (vB (by rw [show Zak _ _ _ _ _ _=_ from e];rfl))))<|go 4 ?_;refine Bc J J J J J<|Bc J J J J J<|Bc J J J J J<|Bc J J J J J<|Bc J J J J J<|Bc J J J J J<|Bc J J J J J<|Bc J J J J J<|go 16 ?_;exact Yx l () results43 (by rw [Zx2 i O (okAt_s e)]) aA Za
  .refine Pd (λ_=>False) [(0,0),(1,1),(2,0),(3,0),(4,0),(5,0),(6,0),(7,2),(8,2),(9,2),(10,2),(11,2),(12,2),(13,2),(14,2),(15,0),(16,0)]<|go 1<|Qk (Zv 2 [51,52,53] (Zjw h.f h.t h.o h.x h.y h.z)) λ_ _=>?_;refine Qb J J (Pq (dF (Yz J J) (vB (by rw [show Zak _ _ _ _ _ _=_ from e];rfl))))<|go 2 ?_;refine r0g (Pq (dF (Zts J J J) (vB (aK O)))) J J J J J<|go 21 ⟨O,?_⟩;exact Yl (i+1) ⟨O1,λk r=>by rcases aC.1 r with m|m;exact n k m;subst m;exact Zvd e j⟩ O1 K1 aA
  .refine Zr (Gm (ps.getD (i-1) G0) ((ps.getD (i-1) G0).2.1) 1 54 J J Zi O8)<|Zr (Gm (ps.getD (i-1) G0) ((ps.getD (i-1) G0).2.2.1) 1 55 J J Zi O8)<|Zr (Gm (ps.getD (i-1) G0) ((ps.getD (i-1) G0).2.2.2) 1 56 J J Zi O8)<|Pd (λ_=>False) [(0,0),(1,1),(2,0),(3,0),(4,0),(5,0),(6,0),(7,0),(8,0),(9,0),(10,0),(11,0),(12,0),(13,1),(14,0),(15,0),(16,0)]<|go 1<|Qk (Zv 2 [51,52,53] (Zjw h.f h.t h.o h.x h.y h.z)) λ_ _=>?_;refine Qb J J (Pq (dF (Yz J J) (vB (by rw [show Zak _ _ _ _ _ _=_ from e];rfl))))<|go 2 ?_;refine r0g (Pq (dT (Zts J J J) (vB (aI O)))) J J J J J<|go 4 ⟨O,?_⟩;refine r0g (Pq (Ym 1 (i-1) J J J J Yf Zfb Zbx)) J J J J J<|r0g (Pq (Of 1 G0 J J J Yf pG)) J J J J J<|go 1 ?_;refine Af J J J J J (Oj 2 (Ydh (Iz (t _ Zi) (Cr (n (i-1) O))) (Iz h e)) J J J K2 call110 (Yd 54 J J J (Yd 55 J J J (Yd 56 J J J (Yd 51 J J J (Yd 52 J J J (Yd 53 J J J Zs)))))) J u.h) λ_ _=>go 5 ?_;refine Yp J (λp=>?_) (λp=>?_)
   .refine go 11 ?_;exact Yx l () results43 (by rw [Zx2 i O ((Zki e j).trans (Xw ‹_›))]) aA Za
   .refine go 7 ⟨O,?_⟩;exact Yl (i+1) ⟨O1,λk r=>by rcases aC.1 r with m|m;exact n k m;subst m;exact(Zki e j).trans (Qm ‹_›)⟩ O1 K1 aA
 .obtain rfl:i=ps.length:=O;refine go 11<|Zj 33 J (λq=>?_) (λq=>?_)
  .refine go 8 ?_;exact Yx l () results43 (by rw [Zot n];first|exact vB (cF.2 O)|exact vB (aK O)) aA Za
  .refine go 8 ?_;exact Yx l () results43 (by rw [Zot n];first|exact vB (cF.2 O)|exact vB (aK O)) aA Za
def Nl(c:List Int)(a b d:Int):List Int:=Yi (Ks (tzl c) a b d) (d^(6-c.length))
def Zlz(h:a.natAbs<=3600000):bl a.natAbs<=22:=(Qt 22 _).2 (bC h O3)
theorem Znq(h:bl d.natAbs<=22):∀k,k<=5->bl (d^k).natAbs<=132
 | 0,_=>by rw [dD];decide
 | k+1,g=>by
  have e:∀k,bl (d^k).natAbs<=22*k+1:=λk=>by
   induction k with
   | zero=>rw [dD];decide
   | succ k j=>rw [eF];have:=Xq (d^k) d;omega
  have:=e (k+1);omega
theorem Zp8(h:∀a∈c,Mr a)(t:1<=c.length/\c.length<=6){b:Int}(r:a.natAbs<=3600000)(s:b.natAbs<=3600000)(F:1<=d/\d<=3600000) :
  Vp (tzl c)/\¬Zlq (tzl c) a b d/\Vp (Ks (tzl c) a b d)/\bl (d^(6-c.length)).natAbs<=132/\(∀i,bl (cf (Ks (tzl c) a b d) i*d^(6-c.length)).natAbs<=65536)/\Vp (Nl c a b d)/\Sz 1000 (Nl c a b d)/\(Nl c a b d).length<=6:=by
 have w:(tzl c).length<=6:=aB (Hj c) t.2;have n:Sz 64 (tzl c):=(ab_in h).sz O3;have o:=Zlz r;have p:=Zlz s;have g:bl d.natAbs<=22:=Zlz O;have l:=cp_not (cp_nf n o p g O O);have hs:Sz 300 (Ks (tzl c) a b d):=by
  have h:=Zim (x:=a) (y:=b) (z:=d) (m:=22) n o p g ((tzl c).length-1);unfold Ks;split
  .exact Sz.nil _
  .refine(Sz.tzl h).mono ?_;have:((tzl c).length-1)*(22+1)<=5*23:=aY O O;omega
 have v:Tr (Ks (tzl c) a b d):=by
  unfold Ks;split
  .exact .inl rfl
  .exact Qq _
 have j:(Ks (tzl c) a b d).length<=6:=aB (Zev _ _ _ _) w;have u:=Znq g (6-c.length) O;have q:∀i,bl (cf (Ks (tzl c) a b d) i*d^(6-c.length)).natAbs<=500:=λi=>by have B:=hs i;have D:=Xq (cf (Ks (tzl c) a b d) i) (d^(6-c.length));omega
 have e:Sz 1000 (Nl c a b d):=λi=>by unfold Nl;rw [Qo];have:=q i;omega
 have k:(Nl c a b d).length<=6:=aB Lz j;exact⟨⟨n.mono O,Qq _,O⟩,l,⟨hs.mono O,v,O⟩,u,λi=>by have:=q i;omega,⟨e.mono O,Np,O⟩,e,k⟩
def Zr7(zs:List (SL×List Int)):List (SL×List Int):=zs ++ List.replicate (3-zs.length) ((none,0,0),[])
theorem Yfl(h:zs.length<=3):(Zr7 zs).length=3:=by unfold Zr7;rw [bE,aT];omega
theorem Yeo(hi:i<3)(h:zs.length=i):(Zr7 zs).set i z=Zr7 (zs ++ [z]):=by subst h;unfold Zr7;rw [List.set_append_right _ _ (aJ _),lB,bE,dW];congr 1;obtain⟨k,e⟩:∃k,3-zs.length=k+1:=⟨2-zs.length,O⟩;rw [e,jP,nM,show 3-(zs.length+[z].length)=k by simp;omega];rfl
theorem Zt2{t:Nat}{s:SL}(g:zs.length=i)(h:∀t,t<i->(zs.getD t d0).2=f t)(j:t<i+1):((zs ++ [(s,f i)]).getD t d0).2=f t:=by
 subst g;rw [aE];rcases aC.1 j with e|e
 .rw [cT e,<-aE];exact h t e
 .subst e;simp
theorem Ycs{x y z:List Int}{b:Int}(k:zs.length=3)(h:∀t,t<3->(zs.getD t d0).2=Nl (Ye t x y z) a b d):∃l m n:SL,zs=[(l,Nl x a b d),(m,Nl y a b d),(n,Nl z a b d)]:=by
 match zs,k with
 | [o,p,q],_=>
  have e:=h 0 O3;have g:=h 1 O3;have j:=h 2 O3;simp [Ye]at e g j;exact⟨o.1,p.1,q.1,by rw [<-e,<-g,<-j]⟩
open Go.RowKit Below
variable {P:Program} {N:Nat} {sc:Nat->Prop} {env env':Qj} {H H':Hp} {Q Q':Exit->Act->World->Prop}
def Yd1{n:Nat}{e:String}{w:World}(h:Rows P e args w R):RowsIn Fence.wide n P e args w R:=λc g _=>
 let ⟨v,w',r,s⟩:=h c g;⟨v,w',r,stepsIn_wide.2 s⟩
def noQ:Exit->Act->World->Prop:=λ_ _ _=>False
section
variable {ops:Array Oper} {C:World->World->Prop}
def wpAnyZ(P:Program)(ops:Array Oper)(ts:List Nat)(C:World->World->Prop)(Q:Exit->Act->World->Prop):Nat->Array Bool->Act->World->Prop
 | 0,_,_,_=>False
 | e+1,listed,a,w=>if Fb ops ts listed=true then wpAnyIn Fence.wide 0 P .any ops Q (e+1) listed a w else
  (Region.ready .any ops listed=[]->False)/\
  ∀i∈Region.ready .any ops listed,wpOp P ops noQ i (λh g=>C w g/\wpAnyZ P ops ts C Q e (listed.setIfInBounds i true) h g) a w
inductive Dep (ops:Array Oper) (i:Nat):Nat->Prop
 | base {j:Nat} {o:Oper} {e:Edge} : ops[j]? = some o->e∈o.after->Region.binds .any e=true->e.on=i->Dep ops i j
 | step {j:Nat} {o:Oper} {e:Edge} : ops[j]? = some o->e∈o.after->Region.binds .any e=true->Dep ops i e.on->Dep ops i j
def Yhh(ops:Array Oper)(i:Nat):Nat->List Nat
 | 0=>[]
 | k+1=>match ops[k]? with
  | some o=>if o.after.any (λe=>Region.binds .any e && (e.on == i || (Yhh ops i k).contains e.on))then k::Yhh ops i k else Yhh ops i k
  | none=>Yhh ops i k
def Clo(ops:Array Oper)(listed:Array Bool):Prop:=∀k o,ops[k]? = some o->listed.getD k true=true->∀e∈o.after,Region.binds .any e=true->listed.getD e.on true=true
theorem Yl7{l:Array Bool}{x:Nat}(h:l.getD x false=true):l.getD x true=true:=by rcases aX x l.size with e|e<;>simp_all
theorem Clo.set{j:Nat}(t:Clo ops listed)(u:j∈Region.ready .any ops listed):Clo ops (listed.setIfInBounds j true):=λk o m s e r q=>by
 obtain⟨v,w,n,g⟩:=mem_ready.1 u;have p:listed.getD e.on true=true:=by
  by_cases l:j=k
  .subst l;rw [n]at m;cases m;exact Yl7 (g _ r q)
  .rw [getD_set_ne true l]at s;exact t k o m s e r q
 by_cases h:j=e.on
 .subst h;by_cases hs:e.on<listed.size<;>simp_all
 .rw [getD_set_ne true h];exact p
end
def Zxv(ops:Array Oper)(ts:List Nat):List (Nat×Nat)->Array Bool->Bool
 | [],_=>true
 | (i,1)::rest,listed=>(Region.ready .any ops listed == [i]) && !(Fb ops ts listed) && Zxv ops ts rest (listed.setIfInBounds i true)
 | (i,3)::rest,listed=>false
 | (i,_)::rest,listed=>(Region.ready .any ops listed).contains i && Region.free .any ops listed i && !(ts.contains i) && ts.all (λj=>(Yhh ops i ops.size).contains j) && Zxv ops ts rest (listed.setIfInBounds i true)
def YL(P:Program)(N:Nat)(sc:Nat->Prop)(ops:Array Oper)(Q:Exit->Act->World->Prop)(k:Nat)(listed:Array Bool)(env:Qj)(H:Hp):Prop:=
 ∀a w,Sat N sc env H a w->wpAnyIn Fence.wide 0 P .any ops Q (k+1) listed a w
end Go.Sky
namespace Go.Sky
open Go.RowKit Below
variable {P:Program} {N:Nat} {sc:Nat->Prop} {env env':Qj} {H H':Hp} {Q Q':Exit->Act->World->Prop}
def CalY(P:Program)(f:FuncId)(d:List Value)(pre:List Pc)(i:Prop){G:Type}(j:G->Prop)(h:G->Value):Prop:=
 ∀(l:Nat) (J:World->Prop) (w:World),(∀p∈pre,p.holds w)->
  (∀g,j g->∀a,Below w.heap.size w a->YieldAt Fence.wide 0 P l #[h g] a λe c=>e= .returned (.bool false)/\J c)->
  Calls P f (.func (.yield l) #[] #[]::d).toArray w λe b=>(∃v,e= .returned v)/\((i/\Below w.heap.size w b)\/J b)
def FPostY(P:Program)(fn:Func)(w0:World)(b:Prop)(J:World->Prop):Exit->Act->World->Prop:=
 bodyPost P fn λe a=>(∃v,e= .returned v)/\((b/\Below w0.heap.size w0 a)\/J a)
def YJ(P:Program)(w0:World)(l:Nat){G:Type}(d:G->Prop)(c:G->Value)(J:World->Prop):Prop:=
 ∀g,d g->∀a,Below w0.heap.size w0 a->YieldAt Fence.wide 0 P l #[c g] a λe b=>e= .returned (.bool false)/\J b
theorem Zrx{fn:Func}{tmps:Array Value}{w:World}(a:fn.results=#[]):(results fn tmps).run P w= .ok (.tuple #[]) w:=by rw [Zj9,a];simp
end Go.Sky
namespace Go.Sky
open Go.RowKit Below
variable {P:Program} {N:Nat} {sc:Nat->Prop} {env env':Qj} {H H':Hp} {Q Q':Exit->Act->World->Prop}
end Go.Sky
namespace Go.Sky
open Go.RowKit Below
variable{f:FuncId}{vs:List Value}{pre:List Pc}{o:Oper}{a:Act}{w:World}{K K':Act->World->Prop}{r:Nat}{ρ:Operand->Value}{Q1:Exit->Act->World->Prop}
variable {P:Program} {N:Nat} {sc:Nat->Prop} {env env':Qj} {H H':Hp} {Q Q':Exit->Act->World->Prop}
def Zc9(P:Program)(fn:Func)(w0:World)(pre:List Pc)(al:Bool){G:Type}(φ:G->Prop)(val:G->Value)(c:G->List Pc):Exit->Act->World->Prop:=
  bodyPostM Fence.wide 0 P fn λe d => ∃ g, e = .returned (val g) /\ φ g /\ Below w0.heap.size w0 d /\
        ∀p∈c g,p.holds d/\p.own=false/\∀b,p.fp b->w0.heap.size<=b\/(al=true/\∃q∈pre,q.fp b)
theorem Zdy  {fn:Func} {c:Code}   {al:Bool} {G:Type} {φ:G->Prop} {val:G->Value} {k:G->List Pc} {N:Nat}
    (F:P.funcs[f]? = some fn) (d:fn.body=some c) (B:fn.ntmps=N) (s:Nat.ble vs.length N=true) (y:AllRo pre)
    (h:∀w0 (sc:Nat->Prop),(∀b,w0.heap.size<=b->sc b)->(∀b,sc b->w0.heap.size<=b\/∃q∈pre,q.fp b)->
      E P N sc c (Zc9 P fn w0 pre al φ val k) (Qf 0 vs) ((0,Zt w0 (λ_=>False))::Yg 1 pre)) :
    Cal P f vs.toArray pre al φ val k:=λw M=>by
  refine(callsIn_wide (n:=0)).1 (callsIn_of_wp_marks F d aA (wpIn_wide.2 (h w (λb=>w.heap.size<=b\/∃q∈pre,q.fp b) (λb d=> .inl d) (λb d=>d) _ w ?_)));have z:vs.length<=N:=by simpa using s
  refine⟨by simp [B];omega,rfl,λt v R=>?_,λi p hi=>?_,λi j p q I hi S x b d D=>?_,λi p m hi b d=>?_⟩
  . have l:=(Hu vs 0 t v R).2;have l:vs.toArray[t]? = some v:=by simpa using l
    have u:=(aO.1 l).1;rw [bK,eQ u,l];rfl
  . by_cases g:0=i
    . subst g;rw [Zm]at hi;cases hi;exact Chg.refl _ w
    . rw [Zh g]at hi;exact M p (Oq pre 1 i p hi).2
  . by_cases g:0=i
    . subst g;rw [Zm]at hi;cases hi;cases x
    . rw [Zh g]at hi;rw [y.mem p (Oq pre 1 i p hi).2]at x;cases x
  . rw [Zh (λe=>m e.symm)]at hi;exact .inr ⟨p,(Oq pre 1 i p hi).2,d⟩
def onlyR(Q:Exit->Act->World->Prop):Exit->Act->World->Prop:=Ir Q
def Ig:¬LetsOut (Ir Q):=λ⟨_,_,h⟩=>h
theorem Zx4(d:∀c,o.op≠ .defer c)(h:o.wp P a w K (Ir Q)):o.wpIn (Fence.wide.inRound r) 0 P a w K Q:=by
  refine⟨λ_ _=>trivial,?_⟩;unfold Oper.wp at h;show o.uponIn (Fence.wide.inRound r) 0 P a K Q ((o.semAt (some r) a.eval).run P w);rw [Oper.semAt_some r _ o d];generalize (execOp a.eval o).run P w=x at *;cases x with
  | ok n g=>
    cases n<;>simp only [Oper.upon,Oper.uponIn]at h ⊢
    case value=>exact h
    case skip=>exact h
    case defer=>exact h
    case enter f args=>
      refine⟨λh=>(by cases h),CallsIn.inRound r (callsIn_wide.2 (h.mono λe i b=>?_))⟩;cases e with
      | returned v=>exact b
      | panicked c=>exact b.elim
      | outgrown=>exact absurd b Ig
    case row row args=>exact⟨λh=>(by cases h),Yd1 (n:=0) h⟩
  | halt x g=>
    cases x<;>simp only [Oper.upon]at h
    case panic u=>exact h.elim
def Zix(l:List Oper):Prop:=∀o∈l,∀c,o.op≠ .defer c
theorem Zo7{ops:Array Oper}{r:Nat} : ∀(l:List Oper) (a:Act) (w:World),Zix l->wpList P ops (Ir Q) l a w->wpListIn (Fence.wide.inRound r) 0 P ops Q l a w
  | [],_,_,_,h=>h
  | o::l,a,w,hnd,h=>by
    unfold wpList at h;unfold wpListIn;split
    . rename_i c;simp only [c,jZ]at h;exact Oper.wpIn_mono (λa w d=>Zo7 l a w (λo b=>hnd o (bM _ b)) d) (Zx4 (hnd o (cE ..)) (h.resolve_right λh=>Ig h.2))
    . rename_i c;simp only [c]at h;exact⟨λ_ _=>trivial,Zo7 l _ w (λo b=>hnd o (bM _ b)) h⟩
def Yd7{id:Nat}{l:List Oper}(b:Zix l)(h:L P N sc l.toArray l (Ir Q) env H)(hs:Sat N sc env H a w):(Code.region id l.toArray false).wpIn (Fence.wide.inRound r) 0 P Q a w:=
  wpIn_region_lit (Zo7 l a w b (h a w hs))
def fx(l:Nat)(o:Obj):Pc:=
  { own:=false,fp:=λb=>b=l,holds:=λw=>w.heap[l]? = some o
    lt:=λw b h c=>by subst c;exact(aO.1 h).1
    stable:=λw g h d=>(d.block l (aO.1 h).1 (λe=>e rfl)).trans h }
def Zfs(o:Oper):Bool:=match o.op with
  | .build ..=>true
  | .store ..=>true
  | .load ..=>true
  | .alloc ..=>true
  | _=>false
theorem Yej(h:Zfs o=true){w':World}{d:Deferred} : (execOp ρ o).run P w≠ .ok (.defer d) w':=λb=>by
  unfold Zfs at h;cases ho:o.op<;>simp only [ho]at h<;>try (cases h;done)
  all_goals
    simp only [execOp,ho,Sem.run_bind]at b;revert b;generalize Sem.run P _ w=r;cases r<;>simp [Result.andThen,Sem.run_pure]
theorem Zkb(a:Act)(ds:List Deferred)(d:Option Tmp)(v:Value):({ a with defers:=ds } : Act).put d v={ a.put d v with defers:=ds }:=by cases d<;>rfl
theorem Yk6    {ds:List Deferred}   (i:Zfs o=true) (g:∀a w,K a w->K' { a with defers:=ds } w)
    (k:∀e a w,¬Q1 e a w) (h:o.wp P a w K Q1):o.wp P { a with defers:=ds } w K' Q:=by
  unfold Oper.wp at h ⊢;have j:=λd w'=>Yej (P:=P) i (ρ:=a.eval) (w:=w) (w':=w') (d:=d);show o.upon P _ K' Q ((execOp a.eval o).run P w);generalize (execOp a.eval o).run P w=x at *;cases x with
  | ok n w'=>
    cases n<;>simp only [Oper.upon]at h ⊢
    case value=>rw [Zkb];exact g _ _ h
    case skip=>rw [Zkb];exact g _ _ h
    case defer d=>exact absurd rfl (j d w')
    case enter f args=>
      refine h.mono λe l b=>?_;cases e with
      | returned v=>show K' (({ a with defers:=ds } : Act).put o.dst v) l;rw [Zkb];exact g _ _ b
      | panicked c=>exact(k _ _ _ b).elim
      | outgrown=>obtain⟨_,_,h⟩:=b;exact(k _ _ _ h).elim
    case row row args=>exact h.mono λ_ _ b=>by rw [Zkb];exact g _ _ b
  | halt x w'=>
    cases x<;>simp only [Oper.upon]at h
    case panic u=>exact(k _ _ _ h).elim
theorem Zo8{ops:Array Oper}{ds:List Deferred} : ∀(l:List Oper) (a:Act) (w:World),l.all Zfs=true->wpList P ops (Ir λe a w=>Q e { a with defers:=ds } w) l a w->wpList P ops Q l { a with defers:=ds } w
  | [],_,_,_,h=>h
  | o::l,a,w,hnd,h=>by
    simp only [nL,aQ]at hnd;unfold wpList at h ⊢;split
    . rename_i d;simp only [d,jZ]at h;have h:=h.resolve_right λh=>Ig h.2;refine .inl (Yk6 (Q1:=noQ) hnd.1 (λa w g=>Zo8 l a w hnd.2 g) (λ_ _ _ h=>h) ?_);unfold Oper.wp at h ⊢;revert h;generalize (execOp a.eval o).run P w=x;intro h;cases x with
      | ok n i=>
        cases n<;>simp only [Oper.upon]at h ⊢
        case value=>exact h
        case skip=>exact h
        case defer=>exact h
        case enter f args=>
          refine h.mono λe j b=>?_;cases e with
          | returned v=>exact b
          | panicked c=>exact b
          | outgrown=>exact absurd b Ig
        case row row args=>exact h
      | halt x i=>
        cases x<;>simp only [Oper.upon]at h ⊢
        case panic u=>exact h
    . rename_i d;rw [aD d]at h;rw [Zkb];exact Zo8 l _ w hnd.2 h
end Go.Sky
namespace Go.Sky
open Go.RowKit Below
variable{a:Act}{w:World}{i:Nat}
variable {P:Program} {N:Nat} {sc:Nat->Prop} {env env':Qj} {H H':Hp} {Q Q':Exit->Act->World->Prop}
abbrev ALL:Nat->Prop:=λ_=>True
def FpSub:Hp->Hp->Prop
 | [],_=>True
 | (i,p)::r,H=>(∃q,lk H i=some q/\p.own=q.own/\∀b,p.fp b->q.fp b)/\FpSub r H
theorem FpSub.lk:∀{H' H:Hp},FpSub H' H->∀i p,lk H' i=some p->∃q,lk H i=some q/\p.own=q.own/\∀b,p.fp b->q.fp b
 | [],_,_,_,_,h=>by cases h
 | (k,u)::r,H,h,i,p,hi=>by
  by_cases c:k=i
  .subst c;rw [Zm]at hi;cases hi;exact h.1
  .rw [Zh c]at hi;exact FpSub.lk h.2 i p hi
theorem Sat.re{w':World}(hs:Sat N sc env H a w)(l:∀i p,lk H' i=some p->∃q,lk H i=some q/\p.own=q.own/\∀b,p.fp b->q.fp b)(n:∀i p,lk H' i=some p->p.holds w'):Sat N ALL env H' a w':=
 ⟨hs.size,hs.defers,hs.env,n,λi j p q f hi o r b m c=>by obtain⟨s,h,g,d⟩:=l i p hi;obtain⟨t,k,_,e⟩:=l j q o;exact hs.sep i j s t f h k (g▸r) b (d b m) (e b c),λ_ _ _ _ _ _=>trivial⟩
def FpN:Hp->Hp->Prop
 | [],_=>True
 | (i,p)::r,H=>(p.own=true\/∃q,lk H i=some q/\∀b,p.fp b->q.fp b)/\FpN r H
theorem FpN.lk:∀{H' H:Hp},FpN H' H->∀i p,lk H' i=some p->p.own=true\/∃q,lk H i=some q/\∀b,p.fp b->q.fp b
 | [],_,_,_,_,h=>by cases h
 | (k,u)::r,H,h,i,p,hi=>by
  by_cases c:k=i
  .subst c;rw [Zm]at hi;cases hi;exact h.1
  .rw [Zh c]at hi;exact FpN.lk h.2 i p hi
theorem lk3{p q:Pc}{r:Pc}(h:lk ((90,p)::(91,q)::H) i=some r):(i=90/\r=p)\/(i=91/\r=q)\/(i≠90/\i≠91/\lk H i=some r):=by
 by_cases b:90=i
 .subst b;rw [Zm]at h;cases h;exact .inl ⟨rfl,rfl⟩
 .rw [Zh b]at h;by_cases c:91=i
  .subst c;rw [Zm]at h;cases h;exact .inr (.inl ⟨rfl,rfl⟩)
  .rw [Zh c]at h;exact .inr (.inr ⟨λe=>b e.symm,λe=>c e.symm,h⟩)
theorem lk3'{p q:Pc}(b:i≠90)(c:i≠91):lk ((90,p)::(91,q)::H) i=lk H i:=by rw [Zh (λe=>b e.symm),Zh (λe=>c e.symm)]
theorem Sat.turn{l D:Nat}{o m g:Obj}(hs:Sat N ALL env ((90,fx l o)::(91,fx D g)::H) a w)(f:l≠D)(r:∀i p,i≠90->i≠91->lk H i=some p->¬p.fp l) :
  Sat N ALL env ((90,fx l m)::(91,fx D g)::H) a (w.putObj l m):=by
 have q:w.heap[l]? = some o:=hs.hold 90 _ rfl;have n:w.heap[D]? = some g:=hs.hold 91 _ rfl;refine hs.re (λi p hi=>?_) (λi p hi=>?_)
 .rcases lk3 hi with⟨rfl,rfl⟩|⟨rfl,rfl⟩|⟨b,c,hi⟩
  .exact⟨_,rfl,rfl,λ_ h=>h⟩
  .exact⟨_,rfl,rfl,λ_ h=>h⟩
  .exact⟨p,by rw [lk3' b c];exact hi,rfl,λ_ h=>h⟩
 .rcases lk3 hi with⟨rfl,rfl⟩|⟨rfl,rfl⟩|⟨b,c,j⟩
  .exact World.putObj_heap_same (aO.1 q).1
  .exact(World.putObj_heap_other (λe=>f e.symm)).trans n
  .refine p.stable _ _ (hs.hold i p (by rw [lk3' b c];exact j)) ⟨rfl,rfl,rfl,O8,λk s d=>World.putObj_heap_other (λe=>d ?_)⟩;subst e;exact r i p b c j
theorem Sat.round(hs:Sat N sc env H a w)(d:Nat)(v:Value)(b:Nat.blt d N=true):Sat N sc ((d,v)::env) H { tmps:=(#[d].zip #[v]).foldl (λt (p,v)=>t.setIfInBounds p v) a.tmps,defers:=[] } w:=by
 have h:=hs.put d v b;have e:(a.put (some d) v)={ tmps:=(#[d].zip #[v]).foldl (λt (p,v)=>t.setIfInBounds p v) a.tmps,defers:=[] }:=by show({ a with tmps:=a.tmps.setIfInBounds d v } : Act)=_;rw [<-hs.defers];simp
 rw [<-e];exact h
theorem Ib{ops:Array Oper}{Q1 k:Exit->Act->World->Prop}(b:∀e a w,Q1 e a w->k e a w):∀(l:List Oper) (a:Act) (w:World),wpList P ops Q1 l a w->wpList P ops k l a w
 | [],_,_,h=>b _ _ _ h
 | o::l,a,w,h=>by
  unfold wpList at h ⊢;split
  .rename_i g;rw [aF g]at h;rcases h with h|⟨p,m,j,q⟩
   .refine .inl ?_;unfold Oper.wp at h ⊢;revert h;generalize (execOp a.eval o).run P w=x;intro h;cases x with
    | ok n j=>
     cases n<;>simp only [Oper.upon]at h ⊢
     case value=>exact Ib b l _ _ h
     case skip=>exact Ib b l _ _ h
     case defer=>exact Ib b l _ _ h
     case enter f args=>
      refine h.mono λe r d=>?_;cases e with
      | returned v=>exact Ib b l _ _ d
      | panicked c=>exact b _ _ _ d
      | outgrown=>obtain⟨a,w,h⟩:=d;exact⟨a,w,b _ _ _ h⟩
     case row row args=>exact h.mono λ_ _ d=>Ib b l _ _ d
    | halt x j=>
     cases x<;>simp only [Oper.upon]at h ⊢
     case panic u=>exact b _ _ _ h
   .exact .inr ⟨p,m,j,b _ _ _ q⟩
  .rename_i g;rw [aD g]at h;exact Ib b l _ _ h
end Go.Sky
namespace Go.Sky
open Go.RowKit Below
variable{f:FuncId}{fn:Func}{lb:List Value}{pre:List Pc}{ops:Array Oper}{o:Oper}{ts:Array Value}{rest:List Oper}{d:Nat}{w0 W:World}{M:Nat->Prop}{x:Operand}{ops':List Operand}{tys:Array TypeId}{Jx:World->Prop}
variable {P:Program} {N:Nat} {sc:Nat->Prop} {env env':Qj} {H H':Hp} {Q Q':Exit->Act->World->Prop}
def YJI(P:Program)(w0:World)(l:Nat)(M:Nat->Prop)(J:Nat->World->Prop)(Jx:World->Prop){α G:Type}(xs:List α)(ys:α->G->List Value)(h:α->G->List Pc):Prop:=
 ∀k x g,xs[k]? = some x->∀W a,J k W->w0.heap.size<=W.heap.size->Below W.heap.size W a->(∀p∈h x g,p.holds a/\p.own=false/\∀b,p.fp b->W.heap.size<=b)->
  YieldAt Fence.wide 0 P l (ys x g).toArray a λe c=>(e= .returned (.bool true)/\J (k+1) c/\Chg (λb=>M b\/w0.heap.size<=b) a c)\/(e= .returned (.bool false)/\Jx c/\Chg (λb=>M b\/w0.heap.size<=b) a c)
def Zef(J:World->Prop):Prop:=∀W a,J W->Below W.heap.size W a->J a
def Zun(P:Program)(f:FuncId)(lb:List Value)(pre:List Pc){α G:Type}(xs:List α)(ys:α->G->List Value)(a:α->G->List Pc):Prop:=
 ∀(l:Nat) (M:Nat->Prop) (J:Nat->World->Prop) (Jx:World->Prop) (w:World),
  (∀p∈pre,p.holds w)->(∀p∈pre,∀b,p.fp b->¬M b)->(∀k,Zef (J k))->Zef Jx->J 0 w->YJI P w l M J Jx xs ys a->
  Calls P f (.func (.yield l) #[] #[]::lb).toArray w λe c=>(∃v,e= .returned v)/\(J xs.length c\/Jx c)
def Yja(P:Program)(fn:Func)(n:Nat)(J:Nat->World->Prop)(Jx:World->Prop):Exit->Act->World->Prop:=
 bodyPost P fn λe a=>(∃v,e= .returned v)/\(J n a\/Jx a)
theorem Zqf   {c:Code}   {α G:Type} {xs:List α} {ys:α->G->List Value} {n:α->G->List Pc} {N:Nat}
  (hf:P.funcs[f]? = some fn) (a:fn.body=some c) (V:fn.ntmps=N) (z:Nat.ble (lb.length+1) N=true) (F:AllRo pre)
  (h:∀(l:Nat) (M:Nat->Prop) (J:Nat->World->Prop) (Jx:World->Prop) w0 (sc:Nat->Prop),(∀b,w0.heap.size<=b->sc b)->(∀p∈pre,∀b,p.fp b->b<w0.heap.size/\¬M b)->(∀k,Zef (J k))->Zef Jx->J 0 w0->YJI P w0 l M J Jx xs ys n->
   E P N sc c (Yja P fn xs.length J Jx) (Qf 0 (.func (.yield l) #[] #[]::lb)) ((0,Zt w0 (λ_=>False))::Yg 1 pre)) :
  Zun P f lb pre xs ys n:=λl M J Jx w R hm S u s Y=>by
 refine calls_of_wp hf a (h l M J Jx w (λb=>w.heap.size<=b\/∃q∈pre,q.fp b) (λb a=> .inl a) (λp m b a=>⟨p.lt w b (R p m) a,hm p m b a⟩) S u s Y _ w ?_);have I:lb.length+1<=N:=by simpa using z
 refine⟨by simp [V];omega,rfl,λt v ht=>?_,λi p hi=>?_,λi j p q a0 hi hj D b a Z=>?_,λi p y hi b a=>?_⟩
 .have r:=(Hu (.func (.yield l) #[] #[]::lb) 0 t v ht).2;have r:(Value.func (.yield l) #[] #[]::lb).toArray[t]? = some v:=by simpa using r
  have B:=(aO.1 r).1;rw [bK,eQ B,r];rfl
 .by_cases g:0=i
  .subst g;rw [Zm]at hi;cases hi;exact Chg.refl _ w
  .rw [Zh g]at hi;exact R p (Oq pre 1 i p hi).2
 .by_cases g:0=i
  .subst g;rw [Zm]at hi;cases hi;cases D
  .rw [Zh g]at hi;rw [F.mem p (Oq pre 1 i p hi).2]at D;cases D
 .rw [Zh (λe=>y e.symm)]at hi;exact .inr ⟨p,(Oq pre 1 i p hi).2,a⟩
def LI(P:Program)(N:Nat)(sc:Nat->Prop)(ops:Array Oper)(rest:List Oper)(Q:Exit->Act->World->Prop)(env:Qj)(H:Hp):Prop:=
 ∀a w,Sat N sc env H a w->wpListIn Fence.wide 0 P ops Q rest a w
def Ybt{id:Nat}{l:List Oper}(h:LI P N sc l.toArray l Q env H):E P N sc (.region id l.toArray false) Q env H:=λa w hs=>
 (wpIn_wide (n:=0)).1 (wpIn_region_lit (h a w hs))
theorem Aj(a:o.guard=none):Region.wanted o (yielded ops ts)=true:=by simp [Region.wanted,a]
theorem Pu{v:Value}(g:Mt P N sc o env H v)(c:o.dst=some d)(h:LI P N sc ops rest Q ((d,v)::env) H)(e:o.guard=none:=by rfl)(b:Nat.blt d N=true:=by rfl):LI P N sc ops (o::rest) Q env H:=λa w hs=>by unfold wpListIn;rw [aF (Aj e)];refine⟨λ_ _=>trivial,?_⟩;show o.uponIn Fence.wide 0 P a _ Q ((execOp a.eval o).run P w);rw [g a w hs];show wpListIn Fence.wide 0 P ops Q rest (a.put o.dst v) w;rw [c];exact h _ w (hs.put d v b)
def Ch(h:X N sc .normal Q env H):LI P N sc ops [] Q env H:=λa w hs=>h a w hs
theorem Sat.base {u r:World}   {a:Act} (hs:Sat N sc env H a u) (n:∀p∈pre,∀b,p.fp b->b<w0.heap.size/\¬M b) (t:AllRo pre) (c:HSub (Yg 1 pre) H)
  (l:Chg (λb=>M b\/w0.heap.size<=b) u r):Sat N sc env ((0,Zt r (λ_=>False))::Yg 1 pre) a r:=by
 refine⟨hs.size,hs.defers,hs.env,λi p hi=>?_,λi j p q D hi G s b v w=>?_,λi p m hi b v=>?_⟩
 .by_cases g:0=i
  .subst g;rw [Zm]at hi;cases hi;exact Chg.refl _ _
  .rw [Zh g]at hi;have F:=(Oq pre 1 i p hi).2;refine p.stable _ _ (hs.hold i p (c.lk i p hi)) ⟨l.os,l.tape,l.output,l.size,λk z B=>l.block k z (λy=>?_)⟩;have:=n p F k (cN.1 B);rcases y with h|h
   .exact this.2 h
   .omega
 .by_cases g:0=i
  .subst g;rw [Zm]at hi;cases hi;cases s
  .rw [Zh g]at hi;rw [t.mem p (Oq pre 1 i p hi).2]at s;cases s
 .rw [Zh (λe=>m e.symm)]at hi;exact hs.scope i p m (c.lk i p hi) b v
theorem Zsj (vs:List Value)(pre:List Pc)    {l:Nat}       {J:Nat->World->Prop}  {α G:Type} {xs:List α} {ys:α->G->List Value} {F:α->G->List Pc} 
  {k:Nat} (y:α) (g:G) (hY:YJI P w0 l M J Jx xs ys F) (hy:xs[k]? = some y) (hJ:J k W) (hW:w0.heap.size<=W.heap.size) (n:∀p∈pre,∀b,p.fp b->b<w0.heap.size/\¬M b)
  (ho:o.op= .call { callee:= .value x,args:=ops'.toArray,argTypes:=tys }) (hg:o.guard=none) (hd:o.dst=some d) (hN:Nat.blt d N=true) (hx:ev env x=some (.func (.yield l) #[] #[])) (s:EvL env ops' vs) (V:vs=ys y g)
  (h0:lk H 0=some (Zt W (λ_=>False))) (v:∀p∈F y g,p.own=false/\(∀b,p.fp b->W.heap.size<=b)/\∃i R,lk H i=some R/\∀w,R.holds w->p.holds w)
  (z:AllRo pre) (q:HSub (Yg 1 pre) H)
  (ht:∀c,J (k+1) c->w0.heap.size<=c.heap.size->LI P N sc ops rest Q ((d,.bool true)::env) ((0,Zt c (λ_=>False))::Yg 1 pre))
  (hf:∀c,Jx c->w0.heap.size<=c.heap.size->LI P N sc ops rest Q ((d,.bool false)::env) ((0,Zt c (λ_=>False))::Yg 1 pre)):LI P N sc ops (o::rest) Q env H:=λa w hs=>by
 subst V;have Z:=Ix (hs.hold 0 _ h0);obtain⟨fn,I,j,t,B,m⟩:=hY k y g hy W w hJ hW Z (λp hp=>by obtain⟨h1,h2,i,R,hi,hh⟩:=v p hp;exact⟨hh w (hs.hold i R hi),h1,h2⟩)
 have S:(o.semAt Fence.wide.round a.eval).run P w= .ok (.round l fn I j t) w:=by show(execOp a.eval o).run P w=_;have hm:=s.map hs;have Y:=hs.ev hx;simp [execOp,ho,resolve,invoke,Deferred.ofValue,hm,Y,B,Sem.run_bind]
 unfold wpListIn;rw [aF (Aj hg)];refine⟨λ_ _=>trivial,?_⟩;rw [S];refine⟨λh=>(by cases h),m.mono ?_⟩;have D:w0.heap.size<=w.heap.size:=aB hW Z.size;rintro e c (⟨rfl,r,u⟩|⟨rfl,r,u⟩)
 .show wpListIn Fence.wide 0 P ops Q rest (a.put o.dst _) c;rw [hd];exact ht c r (aB D u.size) _ c ((hs.base n z q u).put d _ hN)
 .show wpListIn Fence.wide 0 P ops Q rest (a.put o.dst _) c;rw [hd];exact hf c r (aB D u.size) _ c ((hs.base n z q u).put d _ hN)
theorem Za9{J:Nat->World->Prop}{n:Nat}{e:Exit}(l:e= .ret\/e= .normal)(m:fn.results=#[])(j:lk H 0=some (Zt W (λ_=>False)))(b:∀k,Zef (J k))(c:Zef Jx)(h:J n W\/Jx W):X N sc e (Yja P fn n J Jx) env H:=λa w hs=>by
 have i:=Ix (hs.hold 0 _ j);have g:a.defers=[]/\∃v,(results fn a.tmps).run P w= .ok v w/\((∃u,Ending.returned v= .returned u)/\(J n w\/Jx w)):=
  ⟨hs.defers,_,Zrx m,⟨_,rfl⟩,h.imp (λh=>b n W w h i) (λh=>c W w h i)⟩
 rcases l with rfl|rfl<;>exact g
end Go.Sky
namespace Go.Sky
open Go.RowKit Below
variable{w W W':World}{m:Nat}{Mf:Nat->Prop}{Hn:Hp}{a:Act}{fn:Func}{preF:List Pc}{lbv:List Value}
variable {P:Program} {N:Nat} {sc:Nat->Prop} {env env':Qj} {H H':Hp} {Q Q':Exit->Act->World->Prop}
def FpM:Hp->Hp->Prop
 | [],_=>True
 | (i,p)::r,H=>(p.own=true\/∀b,p.fp b->∃j q,lk H j=some q/\q.fp b)/\FpM r H
theorem FpM.lk:∀{H' H:Hp},FpM H' H->∀i p,lk H' i=some p->p.own=true\/∀b,p.fp b->∃j q,lk H j=some q/\q.fp b
 | [],_,_,_,_,h=>by cases h
 | (k,u)::r,H,h,i,p,hi=>by
  by_cases c:k=i
  .subst c;rw [Zm]at hi;cases hi;exact h.1
  .rw [Zh c]at hi;exact FpM.lk h.2 i p hi
structure Kps (sc:Nat->Prop) (w:World) (m:Nat) (Mf:Nat->Prop) (Hn:Hp) (W:World):Prop where
 hold:∀i it,lk Hn i=some it->it.holds W
 sep:∀i j it jt,i≠j->lk Hn i=some it->lk Hn j=some jt->it.own=true->∀b,it.fp b->jt.fp b->False
 scope:∀i it,i≠0->lk Hn i=some it->∀b,it.fp b->sc b
 off:∀i it,lk Hn i=some it->it.own=false->∀b,it.fp b->b<w.heap.size\/m<=b
 mf:∀i it,lk Hn i=some it->it.own=true->∀b,it.fp b->Mf b
def Es(m:Nat)(H:Hp)(b:Nat):Prop:=(∃i q,lk H i=some q/\q.own=true/\q.fp b)\/m<=b
def Kps.chg(h:Kps sc w m Mf Hn W)(d:∀i c,lk Hn i=some c->Chg (λb=>¬c.fp b) W W'):Kps sc w m Mf Hn W':=
 ⟨λi c hi=>c.stable _ _ (h.hold i c hi) (d i c hi),h.sep,h.scope,h.off,h.mf⟩
def Kps.stays(h:Kps sc w m Mf Hn W)(b:Below W.heap.size W W'):Kps sc w m Mf Hn W':=h.chg λ_ _ _=>Chg.of_below b
theorem Kps.put{d:Nat}{o:Obj}(h:Kps sc w m (Es m H) Hn W)(c:∀i q,lk H i=some q->∀b,q.fp b->b<w.heap.size)(r:w.heap.size<=d/\d<m):Kps sc w m (Es m H) Hn (W.putObj d o):=
 h.chg λi g hi=>⟨rfl,rfl,rfl,O8,λk s n=>World.putObj_heap_other (λe=>n λl=>by
  subst e;cases ho:g.own with
  | false=>rcases h.off i g hi ho _ l with h|h<;>omega
  | true=>
   rcases h.mf i g hi ho _ l with⟨j,q,p,_,f⟩|h
   .have:=c j q p _ f;omega
   .omega)⟩
def Kps.sat(h:Kps sc w m Mf Hn W)(b:a.tmps.size=N)(c:a.defers=[])(d:∀t v,lk env t=some v->a.tmps.getD t undef=v):Sat N sc env Hn a W:=⟨b,c,d,h.hold,h.sep,h.scope⟩
def Zbp(H:Hp)(w0:World):Prop:=lk H 0=some (Zt w0 (λ_=>False))/\lk H 92=none
theorem lk92{p:Pc}{H:Hp}{i:Nat}{q:Pc}(h:lk ((92,p)::H) i=some q):(i=92/\q=p)\/(i≠92/\lk H i=some q):=by
 by_cases b:92=i
 .subst b;rw [Zm]at h;cases h;exact .inl ⟨rfl,rfl⟩
 .rw [Zh b]at h;exact .inr ⟨λe=>b e.symm,h⟩
def Bz(sc:Nat->Prop)(m:Nat)(H:Hp)(b:Nat):Prop:=Es m H b\/¬sc b
theorem Sat.ps {t M:World} {n:Nat} {d:Hp}  (hs:Sat N sc env ((n,Zt t (Bz sc m H))::Hn) a M) (o:lk Hn n=none) (a0:n≠0) (V:∀q,lk Hn 0=some q->q.own=false) (hb:m<=t.heap.size)
  (Y:FpM Hn d) (F:∀j q,lk d j=some q->∀b,q.fp b->q.own=true->Es m H b) (r:∀j q,lk d j=some q->∀b,q.fp b->q.own=false->b<w.heap.size\/m<=b) (z:∀i q,lk H i=some q->∀b,q.fp b->b<w.heap.size):Kps sc w m (Es m H) Hn M:=by
 have g:∀i c,lk Hn i=some c->lk ((n,Zt t (Bz sc m H))::Hn) i=some c:=λi c hi=>by
  by_cases R:n=i
  .subst R;rw [o]at hi;cases hi
  .rw [Zh R];exact hi
 have B:∀i c,lk Hn i=some c->c.own=true->∀b,c.fp b->Es m H b:=λi c hi p b f=>by
  have k:i≠n:=λe=>by subst e;rw [o]at hi;cases hi
  have v:i≠0:=λe=>by subst e;rw [V c hi]at p;cases p
  have I:=hs.scope i c v (g i c hi) b f;have:=hs.sep i n c _ k (g i c hi) (Zm _ _ _) p b f;by_cases l:b<t.heap.size
  .rcases(cN.1 λu=>this ⟨l,u⟩:Bz sc m H b)with h|h
   .exact h
   .exact absurd I h
  .exact .inr O
 refine⟨λi c hi=>hs.hold i c (g i c hi),λi j c S D hi Z=>hs.sep i j c S D (g i c hi) (g j S Z),λi c y hi=>hs.scope i c y (g i c hi),λi c hi p b f=>?_,B⟩;rcases Y.lk i c hi with h|h
 .rw [p]at h;cases h
 .obtain⟨j,q,u,s⟩:=h b f;cases hqo:q.own with
  | false=>exact r j q u b s hqo
  | true=>
   rcases F j q u b s hqo with⟨i',q',G,_,x⟩|h
   .exact .inl (z i' q' G b x)
   .exact .inr h
def LpAt(l:Nat)(Mf:Nat->Prop)(W:World):Prop:=(∃r,W.heap[l]? = some (.loop r))/\¬Mf l
def RBn(n:Nat)(N:Nat)(sc:Nat->Prop)(Mf:Nat->Prop)(b:Hp){h i:Type}(j:h->Hp)(g:h->Prop)(k:i->Hp)(c:i->Prop)(l:World):Exit->Act->World->Prop:=λe a W=>
 (e= .normal/\∃d,g d/\FpM (j d) b/\∃env',Sat N sc env' ((n,Zt l Mf)::j d) a W)\/(e= .ret/\∃f,c f/\FpM (k f) b/\∃env',Sat N sc env' ((n,Zt l Mf)::k f) a W)
def RAn(n:Nat)(P:Program)(N:Nat)(sc:Nat->Prop)(l:Nat)(Mf:Nat->Prop)(b:Hp)(body:Code){i j:Type}(k:i->Hp)(h:i->Prop)(o:j->Hp)(f:j->Prop)(p:World):Exit->Act->World->Prop:=λe a W=>
 e= .normal/\∃c d,lk d n=none/\(∀q,lk d 0=some q->q.own=false)/\FpM d b/\Sat N sc c ((n,Zt p Mf)::d) a W/\
  ∀g,LpAt l Mf g->∀a W,Sat N sc c ((n,Zt g Mf)::d) a W->body.wpIn (Fence.wide.inRound l) 0 P (RBn n N sc Mf b k h o f g) a W
theorem Zf1:∀(l:List Pc) (n:Nat) (H:Hp) (j:Nat) (q:Pc),lk (adds n l H) j=some q->q∈l\/lk H j=some q
 | [],_,_,_,_,h=> .inr h
 | p::r,n,H,j,q,h=>by
  by_cases b:n=j
  .subst b;rw [show adds n (p::r) H=(n,p)::adds (n+1) r H from rfl,Zm]at h;cases h;exact .inl (cE ..)
  .rw [show adds n (p::r) H=(n,p)::adds (n+1) r H from rfl,Zh b]at h;exact(Zf1 r (n+1) H j q h).imp (bM _) id
@[reducible] def renv:List Nat->List Value->Qj->Qj
 | p::ps,v::vs,env=>renv ps vs ((p,v)::env)
 | _,_,env=>env
theorem Sat.rounds{w:World} : ∀(ps:List Nat) (vs:List Value) {env:Qj} {b:Array Value},(ps.all λp=>Nat.blt p N)=true->Sat N sc env H { tmps:=b,defers:=[] } w->
  Sat N sc (renv ps vs env) H { tmps:=(ps.zip vs).foldl (λt c=>t.setIfInBounds c.1 c.2) b,defers:=[] } w
 | [],_,_,_,_,h=>h
 | _::_,[],_,_,_,h=>h
 | p::ps,v::vs,env,b,hp,h=>by simp only [nL,aQ]at hp;exact Sat.rounds ps vs (env:=(p,v)::env) hp.2 (h.put p v hp.1)
theorem Zs3  {w0:World}  {al:Bool} {c:Type} {φ:c->Prop} {val:c->Value} {b:c->List Pc}  {D:Nat}
  (d:W.heap[D]? = some (.deferred (some []))) (h:Zag P fn w0 preF al φ val b .ret { a with defers:=[] } (W.putObj D (.deferred none))) :
  Zc9 P fn w0 preF al φ val b .ret { a with defers:=[{ target:= .collected D,args:=#[] }] } W:=by
 obtain⟨-,v,f,e⟩:=h;exact⟨O8,.inl ⟨_,_,rfl,run_takeDeferred d,⟨v,f,e⟩⟩⟩
theorem e_rfi (pre:List Pc)(w0:World) {g:Operand} {gf i7 g2:Nat} {ps:List Nat} {assign body:Code}   {α G:Type} {xs:List α} {ys:α->G->List Value} {I:α->G->List Pc} {lc:List Oper}    {al:Bool} {GF:Type} {φ:GF->Prop} {val:GF->Value} {S:GF->List Pc}
  {GG GX:Type} (V:Nat->GG->Hp) (c3:Nat->GG->Prop) (HX:GX->Hp) (c4:GX->Prop) (d2:GG)
  (hg:ev env g=some (.func (.func gf) #[] lbv.toArray)) (eg:∀args w,(callFunc gf args).run P w= .ok (.enter gf args) w) (hc:Zun P gf lbv pre xs ys I)
  (hp:∀p∈pre,p.own=false/\∃i,lk H i=some p) (i3:∀x M,(ys x M).length=ps.length) (i2:(ps.all λp=>Nat.blt p N)=true)
  (hw:∀b,w0.heap.size<=b->sc b) (h0:lk H 0=some (Zt w0 (λ_=>False)))
  (b8:c3 0 d2) (b3:HSub (V 0 d2) H) (hk:∀k y,Zbp (V k y) w0) (h9:∀gx,Zbp (HX gx) w0)
  (c6:∀k x M y,xs[k]? = some x->c3 k y->∀l Mf Y a W,Sat N sc (renv ps (ys x M) env) ((92,Zt Y Mf)::adds 100 (I x M) (V k y)) a W->
   assign.wpIn (Fence.wide.inRound l) 0 P (RAn 92 P N sc l Mf (adds 100 (I x M) (V k y)) body (V (k+1)) (c3 (k+1)) HX c4 Y) a W)
  (i1:lc.all Zfs=true)
  (hC:∀y,c3 xs.length y->∀D od,L P N sc lc.toArray lc (Ir λe a w=>e= .normal/\∃b6 H2,lk H2 92=none/\FpSub H2 (V xs.length y)/\Sat N sc b6 ((92,fx D od)::H2) a w/\X N sc .ret (Zag P fn w0 preF al φ val S) b6 H2) env ((92,fx D od)::V xs.length y))
  (hX:∀gx,c4 gx->X N sc .ret (Zag P fn w0 preF al φ val S) env (HX gx)) :
  E P N sc (.rangeFunc g ps.toArray assign body) (Exit.inBlock g2 (Exit.then ((Code.seq (.region i7 lc.toArray false) .ret).wp P (Zc9 P fn w0 preF al φ val S)) (Zc9 P fn w0 preF al φ val S))) env H:=λa w hs=>by
 have a2:∀i p,lk H i=some p->∀b,p.fp b->b<w.heap.size:=λi p hi b f=>p.lt w b (hs.hold i p hi) f;have i6:w0.heap.size<=w.heap.size:=(hs.hold 0 _ h0).size;refine(wpIn_wide (n:=0)).1 (wpIn_rangeFunc ?_);intro d1 h6;obtain⟨c,d⟩:∃c:LoopState->Option Code->Loop,c=λst pe=>{ state:=st,pending:=pe,fn:=d1,tmps:=a.tmps,params:=ps.toArray,assign:=assign,body:=body,defers:=w.heap.size }:=⟨_,rfl⟩;obtain⟨W1,b7⟩:∃W1,(w.alloc (.deferred (some []))).alloc (.loop (c .ready none))=W1:=⟨_,rfl⟩;have g6:W1.heap[w.heap.size+1]? = some (.loop (c .ready none)):=by rw [<-b7];have:=World.alloc_heap_new (w.alloc (.deferred (some []))) (.loop (c .ready none));rwa [World.size_alloc]at this
 have g5:W1.heap[w.heap.size]? = some (.deferred (some [])):=by rw [<-b7];exact(Below.heap_alloc _ _ _ O8).trans (World.alloc_heap_new w _)
 have f2:Below w.heap.size w W1:=by rw [<-b7];exact((Below.refl _ w).alloc (aJ _) _).alloc O8 _
 have j2:W1.heap.size=w.heap.size+2:=by rw [<-b7];simp
 have e0:(#[.func (.yield (w.heap.size+1)) #[] #[]] ++ lbv.toArray:Array Value)=(Value.func (.yield (w.heap.size+1)) #[] #[]::lbv).toArray:=O8;refine⟨w.heap.size+1,[{ target:= .collected w.heap.size,args:=#[] }],W1,{ target:= .fn (.func gf) lbv.toArray,args:=#[.func (.yield (w.heap.size+1)) #[] #[]] },W1,gf,
  (Value.func (.yield (w.heap.size+1)) #[] #[]::lbv).toArray,W1,?_,?_,λ_ _=>trivial,?_,λh=>(by cases h),?_⟩
 .rw [<-b7,d];exact run_enterLoop_outer _ _ _ _ _
 .simp only [resolve,hs.ev hg];simp [go_sem]
 .simp [invoke,go_sem,eg]
 have c2:∀(Hn:Hp) (r:Loop),Zef λW=>W.heap[w.heap.size+1]? = some (.loop r)/\W.heap[w.heap.size]? = some (.deferred (some []))/\W1.heap.size<=W.heap.size/\Kps sc w (w.heap.size+2) (Es (w.heap.size+2) H) Hn W:=λHn r W W' ⟨h1,h2,h3,h4⟩ hB=>
  ⟨(hB.block _ (aO.1 h1).1).trans h1,(hB.block _ (aO.1 h2).1).trans h2,aB h3 hB.size,h4.stays hB⟩
 have i0:¬Es (w.heap.size+2) H (w.heap.size+1):=λh=>by
  rcases h with⟨i,q,hq,_,hf⟩|h
  .have:=a2 i q hq _ hf;omega
  .omega
 have d5:¬Es (w.heap.size+2) H w.heap.size:=λh=>by
  rcases h with⟨i,q,hq,_,hf⟩|h
  .have:=a2 i q hq _ hf;omega
  .omega
 have f7:∀(Hn:Hp) (W:World),Kps sc w (w.heap.size+2) (Es (w.heap.size+2) H) Hn W->∀(o:Obj),Kps sc w (w.heap.size+2) (Es (w.heap.size+2) H) Hn (W.putObj w.heap.size o):=λHn W h o=>h.put a2 ⟨aJ _,O⟩;have c1:∀(Hn:Hp) (W:World),Kps sc w (w.heap.size+2) (Es (w.heap.size+2) H) Hn W->∀(o:Obj),Kps sc w (w.heap.size+2) (Es (w.heap.size+2) H) Hn (W.putObj (w.heap.size+1) o):=λHn W h o=>h.put a2 ⟨O,O⟩;refine callsIn_wide.2 ((hc (w.heap.size+1) (λb=>(∃i q,lk H i=some q/\q.own=true/\q.fp b)\/b=w.heap.size+1)
  (λk W=>∃y,c3 k y/\(W.heap[w.heap.size+1]? = some (.loop (c .ready none))/\W.heap[w.heap.size]? = some (.deferred (some []))/\W1.heap.size<=W.heap.size/\Kps sc w (w.heap.size+2) (Es (w.heap.size+2) H) (V k y) W))
  (λW=>∃gx,c4 gx/\(W.heap[w.heap.size+1]? = some (.loop (c .done (some .ret)))/\W.heap[w.heap.size]? = some (.deferred (some []))/\W1.heap.size<=W.heap.size/\Kps sc w (w.heap.size+2) (Es (w.heap.size+2) H) (HX gx) W)) W1
  ?_ ?_ ?_ ?_ ?_ ?_).mono ?_)
 .intro p B;obtain⟨ho,i,hi⟩:=hp p B;exact p.stable _ _ (hs.hold i p hi) (Chg.of_below f2)
 .rintro p B b f (⟨i,q,hq,b2,i4⟩|rfl)
  .obtain⟨ho,j,R⟩:=hp p B;exact hs.sep i j q p (λe=>by subst e;rw [hq]at R;cases R;rw [ho]at b2;cases b2) hq R b2 b i4 f
  .obtain⟨ho,j,R⟩:=hp p B;have:=a2 j p R _ f;omega
 .rintro k W W' ⟨y,d9,h⟩ hB;exact⟨y,d9,c2 _ _ W W' h hB⟩
 .rintro W W' ⟨gx,d9,h⟩ hB;exact⟨gx,d9,c2 _ _ W W' h hB⟩
 .refine⟨d2,b8,g6,g5,aJ _,λi u hi=>u.stable _ _ (hs.hold i u (b3.lk i u hi)) (Chg.of_below f2),λi j u jt b1 hi R=>hs.sep i j u jt b1 (b3.lk i u hi) (b3.lk j jt R),
   λi u b8 hi=>hs.scope i u b8 (b3.lk i u hi),λi u hi _ b f=> .inl (a2 i u (b3.lk i u hi) b f),λi u hi ho b f=> .inl ⟨i,u,b3.lk i u hi,ho,f⟩⟩
 .rintro k x M hx W Y ⟨y,Z,hl,hd,g0,a4⟩ j3 hB a0;have f6:Y.heap[w.heap.size+1]? = some (.loop (c .ready none)):=(hB.block _ O).trans hl;have g9:Y.heap[w.heap.size]? = some (.deferred (some [])):=(hB.block _ O).trans hd;have hy:=run_yield (P:=P) (args:=(ys x M).toArray) f6 (by rw [d];simp [i3]);have b9:∀p∈I x M,∀b,p.fp b->w.heap.size+2<=b:=λp hp b f=>by have:=(a0 p hp).2.2 b f;omega
  have s1:Sat N sc env (V k y) { tmps:=a.tmps,defers:=[] } Y:=(a4.stays hB).sat hs.size rfl hs.env;have s2:Sat N sc env (adds 100 (I x M) (V k y)) { tmps:=a.tmps,defers:=[] } Y:=s1.adds (w1:=Y) _ _ λp B=>⟨(a0 p B).1,(a0 p B).2.1,λb f=>hw b (by have:=b9 p B b f;omega),λj jt R ho b f a6=>by have h1:=(a0 p B).2.2 b f;have h2:=jt.lt W b (a4.hold j jt R) a6;omega⟩
  have c7:∀j q,lk (adds 100 (I x M) (V k y)) j=some q->(q∈I x M)\/lk (V k y) j=some q:=λj q h=>Zf1 _ _ _ j q h;have B:∀j q,lk (adds 100 (I x M) (V k y)) j=some q->∀b,q.fp b->q.own=true->Es (w.heap.size+2) H b:=λj q R b f ho=>by
   rcases c7 j q R with h|h
   .rw [(a0 q h).2.1]at ho;cases ho
   .exact a4.mf j q h ho b f
  have d0:∀j q,lk (adds 100 (I x M) (V k y)) j=some q->∀b,q.fp b->q.own=false->b<w.heap.size\/w.heap.size+2<=b:=λj q R b f ho=>by
   rcases c7 j q R with h|h
   .exact .inr (b9 q h b f)
   .exact a4.off j q h ho b f
  have s3:=s2.rounds ps (ys x M) i2;have s4:Sat N sc (renv ps (ys x M) env) ((92,Zt Y (Bz sc (w.heap.size+2) H))::adds 100 (I x M) (V k y)) _ Y:=s3.add 92 (Zt Y (Bz sc (w.heap.size+2) H)) (Chg.refl _ _) (λj jt b1 R Lf b f a6=>by
   rcases Lf with h|h
   .cases h
   .exact f.2 (.inl (B j jt R b a6 h))) (λb f=>cN.1 λhn=>f.2 (.inr hn))
  have e4:¬Bz sc (w.heap.size+2) H (w.heap.size+1):=λh=>h.elim i0 (λhn=>hn (hw _ O));have e8:¬Bz sc (w.heap.size+2) H w.heap.size:=λh=>h.elim d5 (λhn=>hn (hw _ i6));rw [d]at hy;refine⟨d1,_,assign,body,hy,roundIn_of_wpIn h6 ?_⟩;have hr:=c6 k x M y hx Z (w.heap.size+1) (Bz sc (w.heap.size+2) H) Y _ Y s4;have e3:(ps.toArray.zip (ys x M).toArray).foldl (λt (p,v)=>t.setIfInBounds p v) a.tmps=(ps.zip (ys x M)).foldl (λt pv=>t.setIfInBounds pv.1 pv.2) a.tmps:=O8;have f8:w.heap.size+2<=Y.heap.size:=by have:=hB.size;omega
  have h8:∀(Hn:Hp),Zbp Hn w0->∀q,lk Hn 0=some q->q.own=false:=λHn h q hq=>by rw [h.1]at hq;cases hq;rfl
  rw [show(ps.toArray.zip (ys x M).toArray).foldl (λt (x:Nat×Value)=>t.setIfInBounds x.1 x.2) a.tmps=(ps.zip (ys x M)).foldl (λt pv=>t.setIfInBounds pv.1 pv.2) a.tmps from e3];refine wpIn_mono hr ?_;rintro e a1 W2 ⟨rfl,e6,H1,d3,e9,g3,a5,d8⟩;have a7:Chg (Bz sc (w.heap.size+2) H) Y W2:=a5.hold 92 _ (Zm _ _ _);have b0:W2.heap[w.heap.size+1]? = some (.loop (c .ready none)):=(a7.block _ O e4).trans f6;have h5:W2.heap[w.heap.size]? = some (.deferred (some [])):=(a7.block _ O e8).trans g9;have p1:=a5.ps d3 O3 e9 f8 g3 B d0 a2;have i9:Y.heap.size<=W2.heap.size:=a7.size;obtain⟨s,z⟩:∃s,W2.putObj (w.heap.size+1) (.loop { c .ready none with state:= .busy })=s:=⟨_,rfl⟩;have i8:Sat N sc e6 ((92,Zt s (Bz sc (w.heap.size+2) H))::H1) a1 s:=by
   have p2:=c1 _ _ p1 (.loop { c .ready none with state:= .busy });rw [z]at p2;refine(p2.sat a5.size a5.defers a5.env).add 92 (Zt s (Bz sc (w.heap.size+2) H)) (Chg.refl _ _) (λj jt b1 R Lf b f a6=>?_) (λb f=>cN.1 λhn=>f.2 (.inr hn));rcases Lf with h|h
   .cases h
   .exact f.2 (.inl (p2.mf j jt R h b a6))
  have i5:W2.heap.size=s.heap.size:=by rw [<-z];simp
  have c9:s.heap[w.heap.size+1]? = some (.loop { c .ready none with state:= .busy }):=by rw [<-z];exact World.putObj_heap_same O
  have f4:s.heap[w.heap.size]? = some (.deferred (some [])):=by rw [<-z];exact(World.putObj_heap_other O).trans h5
  refine⟨s,by rw [<-z];exact run_beginRound b0 (by rw [d]),wpIn_mono (d8 s ⟨⟨_,c9⟩,e4⟩ a1 s i8) ?_⟩;have c8:∀(Hn:Hp) (env':Qj) (a3:Act) (F:World),Zbp Hn w0->FpM Hn (adds 100 (I x M) (V k y))->Sat N sc env' ((92,Zt s (Bz sc (w.heap.size+2) H))::Hn) a3 F->∀(r:Loop),
    F.heap[w.heap.size+1]? = some (.loop { c .ready none with state:= .busy })/\(((F.putObj (w.heap.size+1) (.loop r)).heap[w.heap.size+1]? = some (.loop r)/\(F.putObj (w.heap.size+1) (.loop r)).heap[w.heap.size]? = some (.deferred (some []))/\
     W1.heap.size<=(F.putObj (w.heap.size+1) (.loop r)).heap.size/\Kps sc w (w.heap.size+2) (Es (w.heap.size+2) H) Hn (F.putObj (w.heap.size+1) (.loop r)))/\
     Chg (λb=>((∃i q,lk H i=some q/\q.own=true/\q.fp b)\/b=w.heap.size+1)\/W1.heap.size<=b) Y (F.putObj (w.heap.size+1) (.loop r))):=by
   intro Hn env' a3 F e2 g4 b4 r;have a8:Chg (Bz sc (w.heap.size+2) H) s F:=b4.hold 92 _ (Zm _ _ _);have c0:=(a8.block _ O e4).trans c9;have a9:=(a8.block _ O e8).trans f4;have g1:=a8.size;have p3:=b4.ps e2.2 O3 (h8 Hn e2) O g4 B d0 a2;refine⟨c0,⟨World.putObj_heap_same O,(World.putObj_heap_other O).trans a9,O9,c1 _ _ p3 _⟩,?_⟩;have k0:(Zt w0 (λ_=>False)).holds Y:=a4.stays hB |>.hold 0 _ (hk k y).1;have k3:(Zt w0 (λ_=>False)).holds F:=p3.hold 0 _ e2.1;refine⟨?_,?_,?_,O9,λb f hn=>?_⟩
   .exact a8.os.trans ((by rw [<-z];rfl:s.os=W2.os).trans a7.os)
   .exact a8.tape.trans ((by rw [<-z];rfl:s.tape=W2.tape).trans a7.tape)
   .exact a8.output.trans ((by rw [<-z];rfl:s.output=W2.output).trans a7.output)
   .have f3:b≠w.heap.size+1:=λe=>hn (.inl (.inr e));have g7:¬Es (w.heap.size+2) H b:=λh=>by
     rcases h with h|h
     .exact hn (.inl (.inl h))
     .exact hn (.inr O)
    refine(World.putObj_heap_other f3).trans ?_;by_cases f9:sc b
    .have f0:¬Bz sc (w.heap.size+2) H b:=λh=>h.elim g7 (λh=>h f9);refine(a8.block b O f0).trans ?_;have:s.heap[b]? = W2.heap[b]?:=by rw [<-z];exact World.putObj_heap_other f3
     exact this.trans (a7.block b f f0)
    .have f1:b<w0.heap.size:=by
      rcases aX b w0.heap.size with h|h
      .exact h
      .exact absurd (hw b h) f9
     exact(k3.block b f1 (λh=>h)).trans (k0.block b f1 (λh=>h)).symm
  rintro e a3 F (⟨rfl,e7,e1,d6,env',b4⟩|⟨rfl,gx,e1,d6,env',b4⟩)
  .obtain⟨c0,d7,d4⟩:=c8 _ env' a3 F (hk (k+1) e7) d6 b4 (c .ready none);have:=run_endRound (P:=P) none c0;rw [show({ ({ c .ready none with state:= .busy } : Loop)with state:=if(none:Option Code).isNone then LoopState.ready else .done,pending:=none } : Loop)=c .ready none by rw [d];rfl]at this;exact⟨_,_,this,.inl ⟨rfl,⟨e7,e1,d7⟩,d4⟩⟩
  .obtain⟨c0,d7,d4⟩:=c8 _ env' a3 F (h9 gx) d6 b4 (c .done (some .ret));have:=run_endRound (P:=P) (some .ret) c0;rw [show({ ({ c .ready none with state:= .busy } : Loop)with state:=if(some Code.ret).isNone then LoopState.ready else .done,pending:=some .ret } : Loop)=c .done (some .ret) by rw [d];rfl]at this;exact⟨_,_,this,.inr ⟨rfl,⟨gx,e1,d7⟩,d4⟩⟩
 .have j0:∀(Hn:Hp) (W:World),Kps sc w (w.heap.size+2) (Es (w.heap.size+2) H) Hn W->Kps sc w (w.heap.size+2) (Es (w.heap.size+2) H) Hn ((W.putObj (w.heap.size+1) (.loop (c .exhausted none))).putObj w.heap.size (.deferred none)):=λHn W h=>f7 _ _ (c1 _ _ h _) _;rintro e W2 ⟨⟨v,rfl⟩,⟨y,Z,hl,hd,g0,e5⟩|⟨gx,Z,hl,hd,g0,e5⟩⟩
  .refine⟨none,_,by have:=run_endLoop (P:=P) hl (by rw [d];simp);rw [d]at this;exact this,?_⟩;obtain⟨F,c5⟩:∃F,W2.putObj (w.heap.size+1) (.loop (c .exhausted none))=F:=⟨_,rfl⟩;have p3:=c1 _ _ e5 (.loop (c .exhausted none));rw [c5]at p3;have a9:F.heap[w.heap.size]? = some (.deferred (some [])):=by rw [<-c5];exact(World.putObj_heap_other O).trans hd
   have g1:F.heap.size=W2.heap.size:=by rw [<-c5];simp
   rw [show W2.putObj (w.heap.size+1) (.loop { state:= .exhausted,pending:=none,fn:=d1,tmps:=a.tmps,params:=ps.toArray,assign:=assign,body:=body,defers:=w.heap.size })=F by rw [<-c5,d]];have s3:Sat N sc env (V xs.length y) { tmps:=a.tmps,defers:=[] } F:=p3.sat hs.size rfl hs.env;have s4:Sat N sc env ((92,fx w.heap.size (.deferred (some [])))::V xs.length y) { tmps:=a.tmps,defers:=[] } F:=s3.add 92 _ a9 (λj jt b1 R Lf b f a6=>by
    rcases Lf with h|h
    .cases h
    .have f:b=w.heap.size:=f;subst f;exact d5 (p3.mf j jt R h _ a6)) (λb f=>hw b (by have f:b=w.heap.size:=f;omega))
   rw [hs.defers];refine wp_seq (wp_region_lit (Zo8 (P:=P) (ops:=lc.toArray) (Q:=Exit.then (Code.ret.wp P (Zc9 P fn w0 preF al φ val S)) (Zc9 P fn w0 preF al φ val S)) (ds:=[{ target:= .collected w.heap.size,args:=#[] }]) lc { tmps:=a.tmps,defers:=[] } F i1 ?_));refine Ib (λe a' W' h=>?_) lc _ F (hC y Z _ _ _ F s4);cases e with
   | normal=>
    obtain⟨-,b6,H2,d3,h7,b5,hx⟩:=h;refine wp_ret (Zs3 (b5.hold 92 _ (Zm _ _ _)) ?_);have b0:∀i u,lk H2 i=some u->lk ((92,fx w.heap.size (.deferred (some [])))::H2) i=some u:=λi u hi=>by
     by_cases h1:92=i
     .subst h1;rw [d3]at hi;cases hi
     .rw [Zh h1];exact hi
    refine hx _ _ ⟨b5.size,rfl,b5.env,λi u hi=>u.stable _ _ (b5.hold i u (b0 i u hi)) ⟨rfl,rfl,rfl,O8,λk hk hn=>World.putObj_heap_other (λe=>hn λhf=>?_)⟩,λi j u jt b1 hi R=>b5.sep i j u jt b1 (b0 i u hi) (b0 j jt R),λi u b8 hi=>b5.scope i u b8 (b0 i u hi)⟩;subst e;obtain⟨q,hq,j1,f5⟩:=h7.lk i u hi;cases b2:q.own with
    | true=>exact d5 (p3.mf i q hq b2 _ (f5 _ hf))
    | false=>rcases p3.off i q hq b2 _ (f5 _ hf)with h|h<;>omega
   | _=>exact h.elim
  .refine⟨some .ret,_,by have:=run_endLoop (P:=P) hl (by rw [d];simp);rw [d]at this;exact this,wpIn_ret ?_⟩;have p3:=c1 _ _ e5 (.loop { c .done (some .ret)with state:= .exhausted });have a9:(W2.putObj (w.heap.size+1) (.loop { c .done (some .ret)with state:= .exhausted })).heap[w.heap.size]? = some (.deferred (some [])):=(World.putObj_heap_other O).trans hd;rw [d]at p3 a9;rw [hs.defers];exact Zs3 a9 (hX gx Z _ _ ((f7 _ _ p3 _).sat hs.size rfl hs.env))
end Go.Sky
namespace Go.Sky
open Go.Proofs.Tryz
open Go.Proofs
set_option synthInstance.maxHeartbeats 0
set_option synthInstance.maxSize 100000
set_option maxRecDepth 20000
set_option linter.unusedSimpArgs false
variable{ov x:Int}{y z c l1 l2:List Int}{s:SL}{i:Nat}{a b v u:Value}{f:Nat->Value}{zs:List (SL×List Int)}{d0:SL×List Int}{M M0:Nat->Prop}
theorem Zhy{fr Y:Int}{Z vy vz:Value}{x:List Int}(e h d:Int)(Q:Sgo fr Y ov x y z)(R:e.natAbs<=3600000)(S:h.natAbs<=3600000)(hd:1<=d/\d<=3600000):Cal prog 98 #[.agg #[.int .i64 fr,.int .i64 Y,.int .i64 ov,Z,vy,vz],.int .i64 e,.int .i64 h,.int .i64 d] [Ys 1 Xf Z x,Ys 1 Xf vy y,Ys 1 Xf vz z] true (G:=SL×SL×SL) (λg=>True) (λg=> .agg #[Xo g.1,Xo g.2.1,Xo g.2.2]) (λg=>[Ys 2 wv (Xo g.1) (Nl x e h d),Ys 2 wv (Xo g.2.1) (Nl y e h d),Ys 2 wv (Xo g.2.2) (Nl z e h d)]):=by
 refine Zd func98 ntmps98 λw0 sc W I=>?_;have a0:=Zlz R;have a1:=Zlz S;have H:bl d.natAbs<=22:=Zlz O;refine go 2<|Zz (Zu 4) λbx _=>Zz (Zx 5) λj _=>go 6 ?_;refine cl 5 [1,2,3] Zob λ_ _=>go 4<|Zr (Qa 5 (q:=box j 173 (cellsOf (Ob (α:=List Int)) (Zr7 [])).toArray) (aN (box j 173) (show _=(cellsOf (Ob (α:=List Int)) (Zr7 [])).toArray from J)) J J)<|Zr (On qZ 71) ?_;refine lp (G:=Nat×List (SL×List Int)) [1,2,3,8,14] [0,1,2,3,4] (λq=>[(15,.int .i64 (q.1:Int))]) (λq=>[(5,box j 173 (cellsOf (Ob (α:=List Int)) (Zr7 q.2)).toArray),(71,Hf qZ q.2)]) (λq=>(q.1<=3)/\(q.2.length=q.1)/\(∀t,t<q.1->(q.2.getD t Z0).2=Nl (Ye t x y z) e h d)) (λq=>3-q.1) (0,[]) ⟨O1,rfl,λt P=>absurd P (cK t)⟩ K1 K2 ?_;rintro⟨i,zs⟩ ⟨hi,k,o⟩;dsimp only at hi k o;dsimp only;have V:=Q.hc i;have n:=Q.lc i;obtain⟨q1,q2,q3,q4,q5,q6,q7,q8⟩:=Zp8 V n R S hd;have m:(6-((Ye i x y z).length:Int)).toNat=6-(Ye i x y z).length:=O;refine go 6<|Zc J (λp=>?_) (λp=>?_)
 .refine go 5<|Zr (Zg2 i 1 2 3 50 J J J J J J)<|go 2 ?_;refine dt (Znn i J J J underlying261 Zqt isAgg40 J)<|go 7 ?_;refine cl 6 [50] (Zfq V (aB n.2 O3)) λ_ _=>?_;refine Nk (Qa 6 (q:=Ys 2 wv _ (tzl (Ye i x y z))) (aN (Ys 2 wv _) (aD (Zn1 n.2))) J J)<|go 11 ?_;refine cl 6 [] (Zn e) λ_ _=>go 1 ?_;refine cl 6 [] (Zn h) λ_ _=>go 1 ?_;refine cl 6 [] (Zn d) λ_ _=>cl 7 [6] (Zoq (tzl (Ye i x y z)) e h d q1 O O O O q2) λ_ _=>?_;refine go 13 ⟨O,?_⟩;refine cl 7 [] (Ff d (6-((Ye i x y z).length:Int)) (aB H O3) O O) λ_ _=>cl 8 [7] (Ka (d^(6-((Ye i x y z).length:Int)).toNat) q3 (by rw [m];exact aB q4 O3) (by rw [m];exact q5)) λ_ _=>?_;refine l_ex (Ml 8 J Zk) (λF N=>?_);subst N;refine Nk (Qa 8 (q:=Ys 2 wv (Xo F) (Nl (Ye i x y z) e h d)) (aN (Ys 2 wv (Xo F)) (by rw [m];rfl)) J J)<|Nk (Qs (q:=qZ) (z:=(F,(Nl (Ye i x y z) e h d))) 71 8 71 J J J J J)<|go 3 ?_;refine dt (Gs i J J J underlying173 sizeOf133 J)<|tt (t_sbe 5 i 1 (enc:=Ob) (F,(Nl (Ye i x y z) e h d)) J J J J J pS (by rw [Yfl O];omega) J W.h aA) (λ_ _=>?_);refine go 7 ⟨O,?_⟩;exact Yl (i+1,zs ++ [(F,(Nl (Ye i x y z) e h d))]) ⟨O1,by rw [bE,k];rfl,λt P=>Zt2 k o P⟩ O1 K1 ⟨by rw [Yeo O k];rfl,rfl,aA⟩
 .obtain rfl:i=3:=O;refine go 6 ?_;obtain⟨r,B,D,rfl⟩:=Ycs k o;refine Zr (Zbh (q:=qZ) 71 81 (r,Nl x e h d) J J O8 J)<|Zr (Zbh (q:=qZ) 71 82 (B,Nl y e h d) J J O8 J)<|Zr (Zbh (q:=qZ) 71 83 (D,Nl z e h d) J J O8 J)<|go 1 ?_;refine dt (d_lea (i:=5) (enc:=Ob) (l:=[(r,Nl x e h d),(B,Nl y e h d),(D,Nl z e h d)]) J J J pS isAgg173 sizeOf173 J)<|tt (t_sea (i:=5) (enc:=Ob) (l:=[(r,Nl x e h d),(B,Nl y e h d),(D,Nl z e h d)]) J J J J J pS sizeOf173 J J J W.h aA) λ_ _=>go 3 ?_;exact Fm (.inl J) I (r,B,D) (λa w hs=>Fc hs results98 (Gw 5 (vs:=cellsOf Ob [(r,Nl x e h d),(B,Nl y e h d),(D,Nl z e h d)]) J J isAgg173 sizeOf173 J)) J aA J (Gk 81 J J J (Gk 82 J J J (Gk 83 J J J Za)))
theorem Ybj{s:Bool}(g:x.natAbs<=9223372036854775807)(h:sg s x):(x=0/\dg U x.natAbs=[])\/(s=true/\x<0/\dg U x.natAbs=[x.natAbs])\/(s=false/\0<x/\dg U x.natAbs=[x.natAbs]):=by
 have e:x.natAbs≠0->dg U x.natAbs=[x.natAbs]:=λj=>by have d:x.natAbs<U:=bC g O3;rw [Zcy O3 O,aU d,dI d];rfl
 rcases kC x 0 with q|q|q
 .right;left;refine⟨?_,q,e O⟩;cases s
  .have:=h.2 rfl;omega
  .rfl
 .subst q;exact .inl ⟨rfl,rfl⟩
 .right;right;refine⟨?_,q,e O⟩;cases s
  .rfl
  .have:=h.1 rfl;omega
theorem int_wn(d:x.natAbs<=9223372036854775807)(h:x<0):IntKind.i64.wrap (18446744073709551616-(x.natAbs:Int))=x:=by simp only [IntKind.wrap,IntKind.bits,IntKind.signed];simp;omega
theorem int_wp(d:x.natAbs<=9223372036854775807)(h:0<x):IntKind.i64.wrap ((([x.natAbs]:List Nat).getD 0 0:Nat):Int)=x:=by show IntKind.i64.wrap (x.natAbs:Int)=x;rw [Zeg ⟨O,O⟩];omega
theorem int_d0(d:x.natAbs<=9223372036854775807):¬((([x.natAbs]:List Nat).getD 0 0:Nat):Int)>=9223372036854775808:=by show ¬(x.natAbs:Int)>=_;omega
theorem Yfr(d:x.natAbs<=9223372036854775807):¬((([x.natAbs]:List Nat).getD 0 0:Nat):Int)>9223372036854775808:=by show ¬(x.natAbs:Int)>_;omega
theorem int_m(h:x<0)(d:x.natAbs<=9223372036854775807):(-((([x.natAbs]:List Nat).getD 0 0:Nat):Int))%18446744073709551616=18446744073709551616-(x.natAbs:Int):=by show(-(x.natAbs:Int))%_=_;omega
theorem Zqx(x:Int)(j:x.natAbs<=9223372036854775807):Xj prog 101 #[wv x] [] (.tuple #[.int .i64 x,.int .i64 0]):=by
 refine Zd func101 ntmps101 λt q p k=>?_;have m:bl x.natAbs<=65536:=aB ((Qt 63 _).2 (bC j O3)) O3;refine go 2<|Zz (Zu 1) λo _=>go 8 ?_;refine cl 1 [] (Lx ‹_›) λ_ _=>go 9 ?_;refine cl 2 [] (Oi Mm) λg n=>Zz (Zx 3) λl _=>go 6 ?_;rcases Ybj j n with⟨rfl,e⟩|⟨h,e,d⟩|⟨h,e,d⟩
 .refine go 4<|kt (aI (by rw [e];rfl))<|go 13 ?_;exact Nn k () results101 J aA Za
 .refine go 4<|kf (aK (by rw [d];simp))<|go 9<|kf (aK (by rw [d];simp))<|go 3 ?_;refine Fj (dF (Yz J J) (aN (λb=>Value.bool (!b)) h)) J J<|go 13 ⟨by rw [d];exact fL,by rw [d];exact fL,?_⟩;refine kfg (aK (by rw [d];exact Yfr j))<|go 8<|kt h<|go 10 ⟨by rw [d];exact fL,by rw [d];exact fL,?_⟩;refine dt (Ycq (18446744073709551616-(x.natAbs:Int)) J J (by rw [d];exact int_m e j))<|dt (Zgt (r:=x) J J Zap uT3 (int_wn j e))<|go 7 ?_;exact Nn k () results101 J aA Za
 .refine go 4<|kf (aK (by rw [d];simp))<|go 9<|kf (aK (by rw [d];simp))<|go 3 ?_;refine Fj (dT (Yz J J) (aN (λb=>Value.bool (!b)) h)) J J<|go 5 ⟨by rw [d];exact fL,by rw [d];exact fL,?_⟩;refine kfg (aK (by rw [d];exact int_d0 j))<|go 7 ⟨by rw [d];exact fL,by rw [d];exact fL,?_⟩;refine kfg (aK (by rw [d];exact Yfr j))<|go 8<|kf h<|go 13 ⟨by rw [d];exact fL,by rw [d];exact fL,?_⟩;refine dt (Zgt (r:=x) J J Zap uT3 (by rw [d];exact int_wp j e))<|go 5 ?_;exact Nn k () results101 J aA Za
abbrev Ygf (o:Nat) (m:Int) (g:Ze):List Int:=formP o m g.1.2.2 (g.1.2.1-g.1.1) g.2.1.2 g.2.2.1.2 g.2.2.2.2
def Yfp(o:Nat)(ps:List Ze)(m:Int):Bool:=ps.all λg=>!Zd4 (Ygf o m g)
def Yj3(p:Nat->Bool):Nat->Nat->Nat->Nat
 | 0,i,_=>i
 | f+1,i,j=>if i<j then(if p ((i+j)/2)then Yj3 p f i ((i+j)/2)else Yj3 p f ((i+j)/2+1) j)else i
def Yjv(o:Nat)(ps:List Ze):Nat:=Yj3 (λn=>Yfp o ps (n:Int)) 14 0 10001
def joG(g h:Ze):Bool:=joinB g.1.1 g.1.2.1 g.1.2.2 g.2.1.2 g.2.2.1.2 g.2.2.2.2 h.1.1 h.1.2.1 h.1.2.2 h.2.1.2 h.2.2.1.2 h.2.2.2.2
def joAll(ps:List Ze):Bool:=(List.range ps.length).all λi=>decide (i=0) || joG (ps.getD (i-1) G0) (ps.getD i G0)
def topV(ps:List Ze):Int×Int×Int:=
 if 10000<Yjv 1 ps\/10000<Yjv 2 ps then(0,0,3)else if joAll ps then((Yjv 1 ps:Int),(Yjv 2 ps:Int),0)else(0,0,10)
theorem Zx1{ps:List Ze}(k:∀g∈ps,Gin g)(j:Xt ps=true):∀g∈ps,SgG g:=λg h=>by obtain⟨i,hi,e⟩:=eD.1 h;have d:=Cr ((Oh j).1 i hi);rw [aE,aL hi,fC,e]at d;exact Iz (k g h) d
def g8(g:Ze):Bool:=decide (g.2.1.2.length<=8) && decide (g.2.2.1.2.length<=8) && decide (g.2.2.2.2.length<=8)
def fewB(ps:List Ze)(m:Nat):Bool:=(List.range ps.length).all (λi=>decide (m<i) || g8 (ps.getD i G0)) && decide (ps.length<=m)
def axc(c:List Int):Bool:=!(decide (1<=c.length) && decide (c.length<=6) && !(decide (1<c.length) && decide (c.getD (c.length-1) 0=0)))
variable {P:Program} {N:Nat} {sc:Nat->Prop} {env env':Qj} {H H':Hp}
def Cf(c:List Int)(g:Int):List Int:=if c.length=0 then [0]else c.map (· / g)
def mdO(ov g:Int):Int:=if ov/g<=4294967296 then ov/g else 0
def mdL(ov g:Int)(c:List Int):List Int:=if ov/g<=4294967296 then Cf c g else []
def Fk(ov:Int)(x y z:List Int):Int:=Ll ov (Kw 3 x y z)
structure Mdh (ov:Int) (x y z:List Int):Prop where
 o:0<ov
 b:bl ov.natAbs<=1000
 s:∀i,Sz 1000 (Ye i x y z)
 l:∀i,(Ye i x y z).length<=6
 c:∀i k,(cf (Ye i x y z) k).natAbs<=ov.natAbs*2146435072
def Zf6:∀(l:List Int) (g:Int),0<=g->0<=Ll g l
 | [],_,h=>h
 | x::l,g,h=>Zf6 l _ (lN _)
theorem Zyt:∀(l:List Int) (g:Int),Ll g l∣g/\∀x∈l,Ll g l∣x
 | [],g=>⟨mJ _,λx h=>nomatch h⟩
 | x::l,g=>by
  obtain⟨e,j⟩:=Zyt l ((Int.gcd g x:Nat):Int);exact⟨fQ e (iJ ..),λy d=>by
   rcases aZ.1 d with rfl|d
   .exact fQ e (gD ..)
   .exact j y d⟩
theorem Zvg{x:List Int}{a:Int}(hi:i<3)(h:a∈Ye i x y z):a∈Kw 3 x y z:=by
 match i,hi with
 | 0,_=>exact cW.2 (.inl (cW.2 (.inl h)))
 | 1,_=>exact cW.2 (.inl (cW.2 (.inr h)))
 | 2,_=>exact cW.2 (.inr h)
theorem Mdh.g{x:List Int}(h:Mdh ov x y z):0<Fk ov x y z/\Fk ov x y z∣ov/\∀i,i<3->∀a∈Ye i x y z,Fk ov x y z∣a:=by
 obtain⟨d,e⟩:=Zyt (Kw 3 x y z) ov;have g:=Zf6 (Kw 3 x y z) ov (eK h.o);have k:=h.o;refine⟨?_,d,λi hi a j=>e a (Zvg hi j)⟩;rcases Int.lt_or_eq_of_le g with q|q
 .exact q
 .exact absurd (Int.zero_dvd.1 (q▸d)) O
theorem Mdh.fc{x:List Int}(h:Mdh ov x y z)(i k:Nat):bl (Ll (Ll ov (Kw i x y z)) ((Ye i x y z).take k)).natAbs<=1000:=by
 have g:∀i,∀a∈Ye i x y z,bl a.natAbs<=1000:=λi a d=>by obtain⟨j,o⟩:=fI.1 d;have:=h.s i j;unfold cf at this;rw [aE,o]at this;exact this
 have n:∀a∈Kw i x y z,bl a.natAbs<=1000:=λa d=>by
  unfold Kw at d;have e:=g 0;have l:=g 1;have m:=g 2;simp only [Ye]at e l m;split at d
  .cases d
  .exact e a d
  .rcases cW.1 d with q|q
   .exact e a q
   .exact l a q
  .rcases cW.1 d with q|q
   .rcases cW.1 q with q|q
    .exact e a q
    .exact l a q
   .exact m a q
 exact Zgn (λa d=>g i a (fP d)) (Zgn n h.b)
theorem Mdh.fit{x:List Int}(h:Mdh ov x y z)(hs:ov/Fk ov x y z<=4294967296)(hi:i<3)(k:Nat):((Ye i x y z).getD k 0/Fk ov x y z).natAbs<=9223372036854775807:=by
 obtain⟨m,⟨s,e⟩,n⟩:=h.g;have r:Fk ov x y z∣(Ye i x y z).getD k 0:=by
  rcases aX k (Ye i x y z).length with q|q
  .exact n i hi _ (Zi (d:=0) q)
  .rw [aE,bQ q];exact jK _
 obtain⟨t,l⟩:=r;have j:((Ye i x y z).getD k 0).natAbs<=ov.natAbs*2146435072:=h.c i k;generalize Fk ov x y z=g at *;rw [l,fK _ O];rw [e,fK _ O]at hs;rw [l,e,cH,cH,dB]at j;have p:=Nat.le_of_mul_le_mul_left j O;have w:=h.o;have B:0<s:=by
  rw [e]at w;by_cases q:0<s
  .exact q
  .have:=gO (eK m) (show s<=0 by omega);omega
 have o:s.natAbs*2146435072<=4294967296*2146435072:=aP _ O;exact aB p (aB o O3)
def mdO_t{g:Int}(h:ov/g<=4294967296):mdO ov g=ov/g:=aF h
def Zm9{g:Int}(h:ov/g<=4294967296):mdL ov g c=Cf c g:=aF h
def mdO_f{g:Int}(h:¬ov/g<=4294967296):mdO ov g=0:=aD h
def Yfa{g:Int}(h:¬ov/g<=4294967296):mdL ov g c=[]:=aD h
def dvL_0{g:Int}(h:c.length=0):Cf c g=[0]:=aF h
def dvL_n{g:Int}(h:c.length≠0):Cf c g=c.map (· / g):=aD h
theorem Yfc{g:Int}{k:Nat}(h:k<c.length):(c.take k).map (· / g) ++ [c.getD k 0/g]=(c.take (k+1)).map (· / g):=by rw [Ps 0 _ _ h,eE];rfl
abbrev C6 (a b c:Value) (f:Nat->Value):Array Value:=#[a,b,c,f 0,f 1,f 2]
def upd(f:Nat->Value)(i:Nat)(v:Value)(j:Nat):Value:=if j=i then v else f j
theorem c6_get{c:Value}(h:i<3):(C6 a b c f)[3+i]? = some (f i):=by
 match i,h with
 | 0,_=>rfl
 | 1,_=>rfl
 | 2,_=>rfl
theorem Yh9{c:Value}(h:i<3):(C6 a b c (upd f i v))[3+i]? = some v:=by rw [c6_get h];unfold upd;rw [aF rfl]
theorem c6_lay{c:Value}(h:i<3):Gq (C6 a b c (upd f i u)) (3+i) [v]=C6 a b c (upd f i v):=by
 match i,h with
 | 0,_=>rfl
 | 1,_=>rfl
 | 2,_=>rfl
theorem Zwj{c:Value}{g:Nat->Value}(h:∀j,j<3->f j=g j):C6 a b c f=C6 a b c g:=by unfold C6;rw [h 0 O3,h 1 O3,h 2 O3]
theorem p3_sel{b:Nat}(h:i<3):Ye i (Value.pointer (some ⟨b,3,none⟩)) (Value.pointer (some ⟨b,4,none⟩)) (Value.pointer (some ⟨b,5,none⟩))= .pointer (some ⟨b,3+i,none⟩):=by
 match i,h with
 | 0,_=>rfl
 | 1,_=>rfl
 | 2,_=>rfl
theorem c3_get{c:Value}(h:i<3):(#[a,b,c]:Array Value)[0+i*1]? = some (Ye i a b c):=by
 match i,h with
 | 0,_=>rfl
 | 1,_=>rfl
 | 2,_=>rfl
def fz(zs:List (SL×List Int))(j:Nat):Value:=Xo (zs.getD j ((none,0,0),[])).1
theorem fz_upd(h:zs.length=i)(j:Nat):fz zs j=upd (fz zs) i (.slice none 0 0) j:=by
 unfold upd;split
 .rename_i e;subst e;subst h;unfold fz;rw [aE,bQ (aJ _)];rfl
 .rfl
theorem Zyv(h:zs.length=i)(j:Nat):upd (fz zs) i (Xo s) j=fz (zs ++ [(s,c)]) j:=by
 subst h;unfold upd fz;split
 .rename_i e;subst e;simp
 .rename_i e;rw [aE,aE];rcases aX j zs.length with q|q
  .rw [cT q]
  .rw [bQ q,bQ O9]
def Zsg{t:Nat}{f:Nat->List Int}(e:zs.length=i)(h:∀t,t<i->(zs.getD t d0).2=f t)(d:c=f i)(g:t<i+1):((zs ++ [(s,c)]).getD t d0).2=f t:=d▸Zt2 e h g
theorem mds_of{x:List Int}{g:Int}(k:zs.length=3)(h:∀t,t<3->(zs.getD t d0).2=Cf (Ye t x y z) g):∃l m n:SL,zs=[(l,Cf x g),(m,Cf y g),(n,Cf z g)]:=by
 match zs,k with
 | [o,p,q],_=>
  have d:=h 0 O3;have e:=h 1 O3;have j:=h 2 O3;simp [Ye]at d e j;exact⟨o.1,p.1,q.1,by rw [<-d,<-e,<-j]⟩
theorem Ydo{a b:Int} : 0<(a-b).sign↔¬a<=b:=by rw [sgp];omega
theorem t_st6 (i:Nat)(n:Nat)  {o:Oper} {x y:Operand} {t j:TypeId} {b:Nat} {e g h:Value}   {w0:World}  (D:o.op= .store t x y) (q:o.dst=none)
  (I:ev env x=some (.pointer (some ⟨b,3+n,none⟩))) (Q:ev env y=some v) (m:lk H i=some (box b j (C6 e g h (upd f n u)))) (d:i≠0) (r:∀w,(sizeOf t).run P w= .ok 1 w) (B:n<3) (l:One N sc env H v)
  (k:lk H 0=some (Zt w0 M0)) (F:∀b,w0.heap.size<=b->sc b) (p:M b) :
  T P N sc M o env H (G:=Unit) (λ_=>True) (λ_=>env) (λ_=>(i,box b j (C6 e g h (upd f n v)))::H):=by
 have:=t_stp1 (P:=P) (N:=N) (sc:=sc) (M:=M) D q I Q m d r (by show Nat.ble (3+n+1) 6=true;simp;omega) l k F p;rw [c6_lay B]at this;exact this
theorem bl_dlq{a b:Int}{n:Nat}(h:bl a.natAbs<=n)(e:0<b)(d:0<=a):bl (a/b).natAbs<=n:=(Qt n _).2 (bC (by have g:=mB b d;have j:=kS d (eK e);omega) ((Qt n _).1 h))
theorem Ygd{n:Nat}(h:∀z∈zs,∀b,(Xo z.1).ownBlock=some b->n<=b)(d:∀b,(Xo s).ownBlock=some b->n<=b):∀z∈zs ++ [(s,c)],∀b,(Xo z.1).ownBlock=some b->n<=b:=λz e=>by
 rcases cW.1 e with q|q
 .exact h z q
 .rw [bZ.1 q];exact d
theorem fr3{n:Nat}{e g j:SL}{k l m l3:List Int}(h:∀z∈[(e,k),(g,l),(j,m)],∀b,(Xo z.1).ownBlock=some b->n<=b):∀p∈[Ys 1 Xf (Xo e) l1,Ys 1 Xf (Xo g) l2,Ys 1 Xf (Xo j) l3],∀b,p.fp b->n<=b:=λp o b d=>by
 simp only [aZ,dJ,gF]at o;rcases o with rfl|rfl|rfl
 .exact h (e,k) O8 b d.2
 .exact h (g,l) O8 b d.2
 .exact h (j,m) O8 b d.2
theorem fr0{n:Nat}{l3:List Int} : ∀p∈[Ys 1 Xf (Xo (none,0,0)) l1,Ys 1 Xf (Xo (none,0,0)) l2,Ys 1 Xf (Xo (none,0,0)) l3],∀b,p.fp b->n<=b:=λp d b e=>by simp only [aZ,dJ,gF]at d;rcases d with rfl|rfl|rfl<;>cases e.2
end Go.Sky
namespace Go.Sky
open Go.RowKit Below
variable{o:Oper}{x:Operand}{k:IntKind}{cs:Array Value}
variable {P:Program} {N:Nat} {sc:Nat->Prop} {env env':Qj} {H H':Hp} {Q Q':Exit->Act->World->Prop} {M:Nat->Prop}
theorem f_new{w0:World}{p:Pc}(i:Nat)(hi:lk H i=some p)(f:p.own=true)(d:lk H 0=some (Zt w0 (λ_=>False)))(c:i≠0:=by decide):∀a w,Sat N sc env H a w->∀b,p.fp b->w0.heap.size<=b:=λa w hs b e=>by
  rcases aX b w0.heap.size with h|h
  . exact(hs.sep i 0 p _ c hi d f b e ⟨h,λh=>h⟩).elim
  . exact h
theorem Yce {fn:Func} {pre:List Pc} {G:Type} {φ:G->Prop} {val:G->Value} {c:G->List Pc} {w0:World} {e:Exit} (B:e= .ret\/e= .normal)
    (g:G) {v:Value} (n:∀p∈c g,∀b,p.fp b->w0.heap.size<=b) (j:∀a w,Sat N sc env H a w->(results fn a.tmps).run P w= .ok v w) (R:val g=v) (F:φ g) (t:lk H 0=some (Zt w0 (λ_=>False))) (d:Give H true (c g)) :
    X N sc e (Zag P fn w0 pre false φ val c) env H:=λa w hs=>by
  have l : a.defers = [] /\ ∃ v, (results fn a.tmps).run P w = .ok v w /\ (∃ g, Ending.returned v = .returned (val g) /\ φ g /\ Below w0.heap.size w0 w /\
        ∀p∈c g,p.holds w/\p.own=false/\∀b,p.fp b->w0.heap.size<=b\/(false=true/\∃q∈pre,q.fp b)):=by
    refine⟨hs.defers,v,j a w hs,g,by rw [R],F,Ix (hs.hold 0 _ t),λp s=>?_⟩;obtain⟨r,h|⟨u,y⟩⟩:=d.mem p s
    case inr=>exact⟨u w,r,λb m=>absurd m (y b)⟩
    obtain⟨i,S,I,hi,f,D,z⟩:=h;exact⟨f w (hs.hold i S hi),r,λb m=> .inl (n p s b m)⟩
  rcases B with rfl|rfl
  . exact l
  . exact l
section
variable {f:FuncId} {xs:List Operand} {ats:Array TypeId} {d:Nat} {vs:List Value} {pre:List Pc} {G:Type} {φ:G->Prop} {val:G->Value} {its:G->List Pc} {w0:World} {M0:Nat->Prop} {ty:TypeId} {pos:String} {af:Array Edge} {g:Option (Nat×Bool)}
theorem Yjw  {n:Nat} (Z:Cal P f vs.toArray pre false φ val its)
    (ho:o.op= .call { callee:= .value (.func f),args:=xs.toArray,argTypes:=ats }) (hd:o.dst=some d) (Y:Nat.blt d N=true)
    (r:EvL env xs vs) (t:∀args w,(callFunc f args).run P w= .ok (.enter f args) w) (v:PreOk H false pre)
    (R:lk H 0=some (Zt w0 M0)) (hw:∀b,w0.heap.size<=b->sc b) :
    T P N sc M o env H (λg=>φ g/\∀p∈its g,∀b,p.fp b->w0.heap.size<=b) (λg=>(d,val g)::env) (λg=>adds n (its g) H):=λa w hs K Q W=>by
  have B:w0.heap.size<=w.heap.size:=(hs.hold 0 _ R).size;have hr:(execOp a.eval o).run P w= .ok (.enter f vs.toArray) w:=by have hm:=r.map hs;simp [execOp,ho,resolve,invoke,Act.eval,Deferred.ofValue,hm,t]
  unfold Oper.wp;rw [hr];refine(Z w (λp l=>by obtain⟨i,it,_,hi,u,_,_⟩:=v.mem p l;exact u w (hs.hold i it hi))).mono ?_
  rintro e I ⟨g,rfl,hg,m,q⟩;show K (a.put o.dst (val g)) I;rw [hd];have z:Sat N sc env H a I:=hs.chg0 (Chg.of_below m);have c:∀p∈its g,∀b,p.fp b->w.heap.size<=b:=λp l b s=>by
    rcases(q p l).2.2 b s with h|⟨h,_⟩
    . exact h
    . cases h
  refine W g _ _ ⟨hg,λp l b s=>aB B (c p l b s)⟩ (Sat.put (z.adds (w1:=w) (its g) n ?_) d _ Y) (Chg.of_below m);intro p l;obtain⟨S,V,h3⟩:=q p l;refine⟨S,V,λb s=>hw b (aB B (c p l b s)),λj F hj D b s y=>?_⟩;have:=F.lt w b (hs.hold j F hj) y;have:=c p l b s;omega
def Yah(n:Nat)(a:List Nat)(e:Cal P f vs.toArray pre false φ val its){c:G->Hp}[hx:EvI env xs vs][hf:CalF P f][hp:PreL P H false a pre][h0:Som (lk2 H 0) (Zt w0 M0)][hN:TB (ltb d N)][hw:Hw w0 sc][ha:∀g,AddI n (its g) H (c g)] :
    T P N sc M ⟨some d,.call { callee:= .value (.func f),args:=xs.toArray,argTypes:=ats },ty,pos,af,g⟩ env H (λg=>φ g/\∀p∈its g,∀b,p.fp b->w0.heap.size<=b) (λg=>(d,val g)::env) c:=
  (Yjw (n:=n) e rfl rfl (Oo hN.h) hx.h hf.h hp.h h0.l hw.h).conv λg=>(ha g).h
end
theorem Yfw{w0 W:World}(h:Hw w0 sc)(a:w0.heap.size<=W.heap.size):Hw W sc:=⟨λb c=>h.h b (aB a c)⟩
theorem Znl  {y:Operand} {ats:Array TypeId}  {m n:Int} (b:o.op= .call { callee:= .builtin .min,args:=#[x,y],argTypes:=ats })
    (c:ev env x=some (.int k m)) (e:ev env y=some (.int k n)):Mt P N sc o env H (.int k (min m n)):=λa w hs=>by
  simp [execOp,b,resolve,hs.ev c,hs.ev e,invoke,builtin,Builtin.min_,Builtin.min2];by_cases h:n<m
  . rw [aF h];omega
  . rw [aD h];omega
theorem d_lbw   {t p:TypeId} {i b k:Nat}  (h:o.op= .load t x) (m:ev env x=some (.pointer (some ⟨b,0,none⟩))) (a:lk H i=some (box b p cs)) (j:∀w,(isAgg t).run P w= .ok true w) (c:∀w,(sizeOf t).run P w= .ok k w)
    (e:cs.size=k):Mt P N sc o env H (.agg cs):=by
  have:=Zzi cs.toList (P:=P) (N:=N) (sc:=sc) h m a j c (by simpa using e) (λn u l=>by rw [bR];simpa using l);simpa using this
end Go.Sky

