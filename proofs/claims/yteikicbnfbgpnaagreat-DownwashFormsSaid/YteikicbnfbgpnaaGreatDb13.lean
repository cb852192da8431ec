/- Rules, arithmetic and contracts: part 14. No conditions but those that each theorem names. -/
import Derived.Test.YteikicbnfbgpnaaGreatDb12
import Derived.RangeFuncFrom
import Derived.RangeFuncLeaves
import Derived.OrdersIn
import Derived.TacticsIn
import Derived.RangeFuncCalls
set_option linter.all false
namespace Go.Sky
variable {P:Program} {N:Nat} {sc:Nat→Prop} {env env':Qw} {H H':Hp}
def Db(c:List Int)(g:Int):List Int:=if c.length=0 then [0]else c.map (· / g)
def mdO(ov g:Int):Int:=if ov/g≤4294967296 then ov/g else 0
def mdL(ov g:Int)(c:List Int):List Int:=if ov/g≤4294967296 then Db c g else []
def Ga(ov:Int)(x y z:List Int):Int:=Nc ov (Nk 3 x y z)
structure Mdh (ov:Int) (x y z:List Int):Prop where
 o:0<ov
 b:bl ov.natAbs≤1000
 s:∀i,Sz 1000 (Zp i x y z)
 l:∀i,(Zp i x y z).length≤6
 c:∀i k,(cf (Zp i x y z) k).natAbs≤ov.natAbs*2146435072
theorem Zef:∀(l:List Int) (g:Int),0≤g→0≤Nc g l
 | [],_,h=>h
 | x :: l,g,h=>Zef l _ (Int.natCast_nonneg _)
theorem Zvj:∀(l:List Int) (g:Int),Nc g l∣g∧∀x∈l,Nc g l∣x
 | [],g=>⟨Int.dvd_refl _,fun x h=>nomatch h⟩
 | x :: l,g=>by
  obtain⟨h1,h2⟩:=Zvj l ((Int.gcd g x:Nat):Int)
  exact⟨Int.dvd_trans h1 (Int.gcd_dvd_left ..),fun y hy=>by
   rcases List.mem_cons.1 hy with rfl | hy
   ·exact Int.dvd_trans h1 (Int.gcd_dvd_right ..)
   ·exact h2 y hy⟩
theorem Zsm{x y z:List Int}{i:Nat}{a:Int}(hi:i<3)(h:a∈Zp i x y z):a∈Nk 3 x y z:=by
 match i,hi with
 | 0,_=>exact List.mem_append.2 (.inl (List.mem_append.2 (.inl h)))
 | 1,_=>exact List.mem_append.2 (.inl (List.mem_append.2 (.inr h)))
 | 2,_=>exact List.mem_append.2 (.inr h)
theorem Mdh.g{ov:Int}{x y z:List Int}(h:Mdh ov x y z):0<Ga ov x y z∧Ga ov x y z∣ov∧∀i,i<3→∀a∈Zp i x y z,Ga ov x y z∣a:=by
 obtain⟨h1,h2⟩:=Zvj (Nk 3 x y z) ov
 have h3:=Zef (Nk 3 x y z) ov (Int.le_of_lt h.o)
 have ho:=h.o
 refine⟨?_,h1,fun i hi a ha=>h2 a (Zsm hi ha)⟩
 rcases Int.lt_or_eq_of_le h3 with q | q
 ·exact q
 ·exact absurd (Int.zero_dvd.1 (q▸h1)) O
theorem Mdh.fc{ov:Int}{x y z:List Int}(h:Mdh ov x y z)(i k:Nat):bl (Nc (Nc ov (Nk i x y z)) ((Zp i x y z).take k)).natAbs≤1000:=by
 have hm:∀i,∀a∈Zp i x y z,bl a.natAbs≤1000:=fun i a ha=>by
  obtain⟨j,hj⟩:=List.mem_iff_getElem?.1 ha
  have:=h.s i j
  unfold cf at this
  rw [List.getD_eq_getElem?_getD,hj]at this
  exact this
 have hf:∀a∈Nk i x y z,bl a.natAbs≤1000:=fun a ha=>by
  unfold Nk at ha
  have h0:=hm 0
  have h1:=hm 1
  have h2:=hm 2
  simp only [Zp]at h0 h1 h2
  split at ha
  ·cases ha
  ·exact h0 a ha
  ·rcases List.mem_append.1 ha with q | q
   ·exact h0 a q
   ·exact h1 a q
  ·rcases List.mem_append.1 ha with q | q
   ·rcases List.mem_append.1 q with q | q
    ·exact h0 a q
    ·exact h1 a q
   ·exact h2 a q
 exact Zeu (fun a ha=>hm i a (List.mem_of_mem_take ha)) (Zeu hf h.b)
theorem Mdh.fit{ov:Int}{x y z:List Int}(h:Mdh ov x y z)(hs:ov/Ga ov x y z≤4294967296){i:Nat}(hi:i<3)(k:Nat):((Zp i x y z).getD k 0/Ga ov x y z).natAbs≤9223372036854775807:=by
 obtain⟨g1,⟨s,hs1⟩,g3⟩:=h.g
 have hc:Ga ov x y z∣(Zp i x y z).getD k 0:=by
  rcases Nat.lt_or_ge k (Zp i x y z).length with q | q
  ·exact g3 i hi _ (Zj (d:=0) q)
  ·rw [List.getD_eq_getElem?_getD,List.getElem?_eq_none q];exact Int.dvd_zero _
 obtain⟨t,ht⟩:=hc
 have h9:((Zp i x y z).getD k 0).natAbs≤ov.natAbs*2146435072:=h.c i k
 generalize Ga ov x y z=g at *
 rw [ht,Int.mul_ediv_cancel_left _ O]
 rw [hs1,Int.mul_ediv_cancel_left _ O]at hs
 rw [ht,hs1,Int.natAbs_mul,Int.natAbs_mul,Nat.mul_assoc]at h9
 have h8:=Nat.le_of_mul_le_mul_left h9 O
 have ho:=h.o
 have h7:0<s:=by
  rw [hs1]at ho
  by_cases q:0<s
  ·exact q
  ·have:=Int.mul_nonpos_of_nonneg_of_nonpos (Int.le_of_lt g1) (show s≤0 by omega);omega
 have h6:s.natAbs*2146435072≤4294967296*2146435072:=Nat.mul_le_mul_right _ O
 exact Nat.le_trans h8 (Nat.le_trans h6 O3)
theorem mdO_t{ov g:Int}(h:ov/g≤4294967296):mdO ov g=ov/g:=if_pos h
theorem Zk5{ov g:Int}{c:List Int}(h:ov/g≤4294967296):mdL ov g c=Db c g:=if_pos h
theorem mdO_f{ov g:Int}(h:¬ov/g≤4294967296):mdO ov g=0:=if_neg h
theorem Yb1{ov g:Int}{c:List Int}(h:¬ov/g≤4294967296):mdL ov g c=[]:=if_neg h
theorem dvL_0{c:List Int}{g:Int}(h:c.length=0):Db c g=[0]:=if_pos h
theorem dvL_n{c:List Int}{g:Int}(h:c.length≠0):Db c g=c.map (· / g):=if_neg h
theorem Yb3{c:List Int}{g:Int}{k:Nat}(h:k<c.length):(c.take k).map (· / g) ++ [c.getD k 0/g]=(c.take (k+1)).map (· / g):=by
 rw [Po 0 _ _ h,List.map_append];rfl
abbrev C6 (a b c:Value) (f:Nat→Value):Array Value:=#[a,b,c,f 0,f 1,f 2]
def upd(f:Nat→Value)(i:Nat)(v:Value)(j:Nat):Value:=if j=i then v else f j
theorem c6_get{a b c:Value}{f:Nat→Value}{i:Nat}(h:i<3):(C6 a b c f)[3+i]? = some (f i):=by
 match i,h with
 | 0,_=>rfl
 | 1,_=>rfl
 | 2,_=>rfl
theorem Yeh{a b c:Value}{f:Nat→Value}{i:Nat}{v:Value}(h:i<3):(C6 a b c (upd f i v))[3+i]? = some v:=by rw [c6_get h];unfold upd;rw [if_pos rfl]
theorem c6_lay{a b c:Value}{f:Nat→Value}{i:Nat}{u v:Value}(h:i<3):Hu (C6 a b c (upd f i u)) (3+i) [v]=C6 a b c (upd f i v):=by
 match i,h with
 | 0,_=>rfl
 | 1,_=>rfl
 | 2,_=>rfl
theorem Ztj{a b c:Value}{f g:Nat→Value}(h:∀j,j<3→f j=g j):C6 a b c f=C6 a b c g:=by
 unfold C6;rw [h 0 O3,h 1 O3,h 2 O3]
theorem p3_sel{b i:Nat}(h:i<3):Zp i (Value.pointer (some ⟨b,3,none⟩)) (Value.pointer (some ⟨b,4,none⟩)) (Value.pointer (some ⟨b,5,none⟩))= .pointer (some ⟨b,3+i,none⟩):=by
 match i,h with
 | 0,_=>rfl
 | 1,_=>rfl
 | 2,_=>rfl
theorem c3_get{a b c:Value}{i:Nat}(h:i<3):(#[a,b,c]:Array Value)[0+i*1]? = some (Zp i a b c):=by
 match i,h with
 | 0,_=>rfl
 | 1,_=>rfl
 | 2,_=>rfl
def fz(zs:List (SL×List Int))(j:Nat):Value:=Xb (zs.getD j ((none,0,0),[])).1
theorem fz_upd{zs:List (SL×List Int)}{i:Nat}(h:zs.length=i)(j:Nat):fz zs j=upd (fz zs) i (.slice none 0 0) j:=by
 unfold upd
 split
 ·rename_i e;subst e;subst h
  unfold fz;rw [List.getD_eq_getElem?_getD,List.getElem?_eq_none (Nat.le_refl _)];rfl
 ·rfl
theorem Zvk{zs:List (SL×List Int)}{i:Nat}{s:SL}{c:List Int}(h:zs.length=i)(j:Nat):upd (fz zs) i (Xb s) j=fz (zs ++ [(s,c)]) j:=by
 subst h
 unfold upd fz
 split
 ·rename_i e;subst e;simp
 ·rename_i e
  rw [List.getD_eq_getElem?_getD,List.getD_eq_getElem?_getD]
  rcases Nat.lt_or_ge j zs.length with q | q
  ·rw [List.getElem?_append_left q]
  ·rw [List.getElem?_eq_none q,List.getElem?_eq_none O8]
theorem Zpx{zs:List (SL×List Int)}{i t:Nat}{s:SL}{f:Nat→List Int}{d0:SL×List Int}{c:List Int}(hl:zs.length=i)(h:∀t,t<i→(zs.getD t d0).2=f t)(hc:c=f i)(ht:t<i+1):((zs ++ [(s,c)]).getD t d0).2=f t:=hc▸Zq3 hl h ht
theorem mds_of{zs:List (SL×List Int)}{x y z:List Int}{g:Int}{d0:SL×List Int}(hl:zs.length=3)(h:∀t,t<3→(zs.getD t d0).2=Db (Zp t x y z) g):∃s1 s2 s3:SL,zs=[(s1,Db x g),(s2,Db y g),(s3,Db z g)]:=by
 match zs,hl with
 | [z0,z1,z2],_=>
  have h0:=h 0 O3
  have h1:=h 1 O3
  have h2:=h 2 O3
  simp [Zp]at h0 h1 h2
  exact⟨z0.1,z1.1,z2.1,by rw [←h0,←h1,←h2]⟩
theorem Yab{a b:Int} : 0<(a-b).sign↔¬a≤b:=by rw [sgp];omega
theorem t_st6 {M:Nat→Prop} {o:Oper} {x y:Operand} {t tb:TypeId} {i b n:Nat} {c0 c1 c2 u:Value} {f:Nat→Value} {v:Value} {w0:World} {M0:Nat→Prop} (ho:o.op= .store t x y) (hd:o.dst=none)
  (hx:ev env x=some (.pointer (some ⟨b,3+n,none⟩))) (hy:ev env y=some v) (hH:lk H i=some (box b tb (C6 c0 c1 c2 (upd f n u)))) (hi0:i≠0) (hk:∀w,(sizeOf t).run P w= .ok 1 w) (hn:n<3) (h1:One N sc env H v)
  (h0:lk H 0=some (Xm w0 M0)) (hw:∀b,w0.heap.size≤b→sc b) (hM:M b) :
  T P N sc M o env H (G:=Unit) (fun _=>True) (fun _=>env) (fun _=>(i,box b tb (C6 c0 c1 c2 (upd f n v))) :: H):=by
 have:=t_stp1 (P:=P) (N:=N) (sc:=sc) (M:=M) ho hd hx hy hH hi0 hk (by show Nat.ble (3+n+1) 6=true;simp;omega) h1 h0 hw hM
 rw [c6_lay hn]at this
 exact this
theorem bl_dlq{a b:Int}{n:Nat}(h:bl a.natAbs≤n)(hb:0<b)(ha:0≤a):bl (a/b).natAbs≤n:=(Xw n _).2 (Nat.lt_of_le_of_lt (by
  have h1:=Int.ediv_le_self b ha
  have h2:=Int.ediv_nonneg ha (Int.le_of_lt hb)
  omega) ((Xw n _).1 h))
theorem Ycs{zs:List (SL×List Int)}{n:Nat}{s:SL}{c:List Int}(h:∀z∈zs,∀b,(Xb z.1).ownBlock=some b→n≤b)(h2:∀b,(Xb s).ownBlock=some b→n≤b):∀z∈zs ++ [(s,c)],∀b,(Xb z.1).ownBlock=some b→n≤b:=fun z hz=>by
 rcases List.mem_append.1 hz with q | q
 ·exact h z q
 ·rw [List.mem_singleton.1 q];exact h2
theorem fr3{n:Nat}{s1 s2 s3:SL}{c1 c2 c3 l1 l2 l3:List Int}(h:∀z∈[(s1,c1),(s2,c2),(s3,c3)],∀b,(Xb z.1).ownBlock=some b→n≤b):∀p∈[Yh 1 Zx (Xb s1) l1,Yh 1 Zx (Xb s2) l2,Yh 1 Zx (Xb s3) l3],∀b,p.fp b→n≤b:=fun p hp b hb=>by
 simp only [List.mem_cons,List.not_mem_nil,or_false]at hp
 rcases hp with rfl | rfl | rfl
 ·exact h (s1,c1) O7 b hb.2
 ·exact h (s2,c2) O7 b hb.2
 ·exact h (s3,c3) O7 b hb.2
theorem fr0{n:Nat}{l1 l2 l3:List Int} : ∀p∈[Yh 1 Zx (Xb (none,0,0)) l1,Yh 1 Zx (Xb (none,0,0)) l2,Yh 1 Zx (Xb (none,0,0)) l3],∀b,p.fp b→n≤b:=fun p hp b hb=>by
 simp only [List.mem_cons,List.not_mem_nil,or_false]at hp
 rcases hp with rfl | rfl | rfl<;>cases hb.2
end Go.Sky
namespace Go.Sky
open Go.RowKit (Below)
variable {P:Program} {N:Nat} {sc:Nat→Prop} {env env':Qw} {H H':Hp} {Q Q':Exit→Act→World→Prop}
theorem Yas{n:Nat}{row:String}{args:Array Value}{w:World}{R:Value→World→Prop}(h:Rows P row args w R):RowsIn Fence.wide n P row args w R:=fun c cs _=>
 let ⟨v,w',r,s⟩:=h c cs;⟨v,w',r,stepsIn_wide.2 s⟩
def noQ:Exit→Act→World→Prop:=fun _ _ _=>False
section
variable {ops:Array Oper} {C:World→World→Prop}
def wpAnyZ(P:Program)(ops:Array Oper)(ts:List Nat)(C:World→World→Prop)(Q:Exit→Act→World→Prop):Nat→Array Bool→Act→World→Prop
 | 0,_,_,_=>False
 | fuel+1,listed,a,w=>if Ee ops ts listed=true then wpAnyIn Fence.wide 0 P .any ops Q (fuel+1) listed a w else
  (Region.ready .any ops listed=[]→False)∧
  ∀i∈Region.ready .any ops listed,wpOp P ops noQ i (fun a' w'=>C w w'∧wpAnyZ P ops ts C Q fuel (listed.setIfInBounds i true) a' w') a w
inductive Dep (ops:Array Oper) (i:Nat):Nat→Prop
 | base {j:Nat} {o:Oper} {e:Edge} : ops[j]? = some o→e∈o.after→Region.binds .any e=true→e.on=i→Dep ops i j
 | step {j:Nat} {o:Oper} {e:Edge} : ops[j]? = some o→e∈o.after→Region.binds .any e=true→Dep ops i e.on→Dep ops i j
def Ydo(ops:Array Oper)(i:Nat):Nat→List Nat
 | 0=>[]
 | k+1=>match ops[k]? with
  | some o=>if o.after.any (fun e=>Region.binds .any e && (e.on == i || (Ydo ops i k).contains e.on))then k :: Ydo ops i k else Ydo ops i k
  | none=>Ydo ops i k
def Clo(ops:Array Oper)(listed:Array Bool):Prop:=∀k o,ops[k]? = some o→listed.getD k true=true→∀e∈o.after,Region.binds .any e=true→listed.getD e.on true=true
theorem Yhk{l:Array Bool}{x:Nat}(h:l.getD x false=true):l.getD x true=true:=by
 rcases Nat.lt_or_ge x l.size with h' | h'<;>simp_all
theorem Clo.set{listed:Array Bool}{j:Nat}(hc:Clo ops listed)(hj:j∈Region.ready .any ops listed):Clo ops (listed.setIfInBounds j true):=fun k o ho hk e he hb=>by
 obtain⟨hun,oj,hoj,hall⟩:=mem_ready.1 hj
 have key:listed.getD e.on true=true:=by
  by_cases hjk:j=k
  ·subst hjk
   rw [hoj]at ho;cases ho
   exact Yhk (hall _ he hb)
  ·rw [getD_set_ne true hjk]at hk
   exact hc k o ho hk e he hb
 by_cases hje:j=e.on
 ·subst hje
  by_cases hs:e.on<listed.size<;>simp_all
 ·rw [getD_set_ne true hje];exact key
end
def Zut(ops:Array Oper)(ts:List Nat):List (Nat×Nat)→Array Bool→Bool
 | [],_=>true
 | (i,1) :: rest,listed=>(Region.ready .any ops listed == [i]) && !(Ee ops ts listed) && Zut ops ts rest (listed.setIfInBounds i true)
 | (i,3) :: rest,listed=>false
 | (i,_) :: rest,listed=>(Region.ready .any ops listed).contains i && Region.free .any ops listed i && !(ts.contains i) && ts.all (fun j=>(Ydo ops i ops.size).contains j) && Zut ops ts rest (listed.setIfInBounds i true)
def YL(P:Program)(N:Nat)(sc:Nat→Prop)(ops:Array Oper)(Q:Exit→Act→World→Prop)(k:Nat)(listed:Array Bool)(env:Qw)(H:Hp):Prop:=
 ∀a w,Sat N sc env H a w→wpAnyIn Fence.wide 0 P .any ops Q (k+1) listed a w
end Go.Sky
namespace Go.Sky
open Go.RowKit (Below)
variable {P:Program} {N:Nat} {sc:Nat→Prop} {env env':Qw} {H H':Hp} {Q Q':Exit→Act→World→Prop}
def CalY(P:Program)(f:FuncId)(lb:List Value)(pre:List Pc)(φ0:Prop){G:Type}(φ1:G→Prop)(xv:G→Value):Prop:=
 ∀(l:Nat) (J:World→Prop) (w:World),(∀p∈pre,p.holds w)→
  (∀g,φ1 g→∀W1,Below w.heap.size w W1→YieldAt Fence.wide 0 P l #[xv g] W1 fun e W'=>e= .returned (.bool false)∧J W')→
  Calls P f (.func (.yield l) #[] #[] :: lb).toArray w fun e w'=>(∃v,e= .returned v)∧((φ0∧Below w.heap.size w w')∨J w')
def FPostY(P:Program)(fn:Func)(w0:World)(φ0:Prop)(J:World→Prop):Exit→Act→World→Prop:=
 bodyPost P fn fun e w'=>(∃v,e= .returned v)∧((φ0∧Below w0.heap.size w0 w')∨J w')
def YJ(P:Program)(w0:World)(l:Nat){G:Type}(φ1:G→Prop)(xv:G→Value)(J:World→Prop):Prop:=
 ∀g,φ1 g→∀W1,Below w0.heap.size w0 W1→YieldAt Fence.wide 0 P l #[xv g] W1 fun e W'=>e= .returned (.bool false)∧J W'
theorem Yav{fn:Func}{tmps:Array Value}{w:World}(hf:fn.results=#[]):(results fn tmps).run P w= .ok (.tuple #[]) w:=by
 rw [Zh3,hf];simp
end Go.Sky
namespace Go.Sky
open Go.RowKit (Below)
variable {P:Program} {N:Nat} {sc:Nat→Prop} {env env':Qw} {H H':Hp} {Q Q':Exit→Act→World→Prop}
end Go.Sky
namespace Go.Sky
open Go.RowKit (Below)
variable {P:Program} {N:Nat} {sc:Nat→Prop} {env env':Qw} {H H':Hp} {Q Q':Exit→Act→World→Prop}
def Zfs(P:Program)(fn:Func)(w0:World)(pre:List Pc)(al:Bool){G:Type}(φ:G→Prop)(Ye:G→Value)(its:G→List Pc):Exit→Act→World→Prop:=
  bodyPostM Fence.wide 0 P fn fun e w' => ∃ g, e = .returned (Ye g) ∧ φ g ∧ Below w0.heap.size w0 w' ∧
        ∀p∈its g,p.holds w'∧p.own=false∧∀b,p.fp b→w0.heap.size≤b∨(al=true∧∃q∈pre,q.fp b)
theorem Yis {f:FuncId} {fn:Func} {c:Code} {vs:List Value} {pre:List Pc} {al:Bool} {G:Type} {φ:G→Prop} {Ye:G→Value} {its:G→List Pc} {N:Nat}
    (hf:P.funcs[f]? = some fn) (hb:fn.body=some c) (hN:fn.ntmps=N) (hle:Nat.ble vs.length N=true) (hro:AllRo pre)
    (h:∀w0 (sc:Nat→Prop),(∀b,w0.heap.size≤b→sc b)→(∀b,sc b→w0.heap.size≤b∨∃q∈pre,q.fp b)→
      E P N sc c (Zfs P fn w0 pre al φ Ye its) (Pa 0 vs) ((0,Xm w0 (fun _=>False)) :: Xu 1 pre)) :
    Cal P f vs.toArray pre al φ Ye its:=fun w hp=>by
  refine(callsIn_wide (n:=0)).1 (callsIn_of_wp_marks hf hb trivial (wpIn_wide.2 (h w (fun b=>w.heap.size≤b∨∃q∈pre,q.fp b) (fun b hb=> .inl hb) (fun b hb=>hb) _ w ?_)))
  have hle':vs.length≤N:=by simpa using hle
  refine⟨by simp [hN];omega,rfl,fun t v ht=>?_,fun i p hi=>?_,fun i j p q hne hi hj ho b hb hb'=>?_,fun i p hi0 hi b hb=>?_⟩
  · have h1:=(Hk vs 0 t v ht).2
    have h1:vs.toArray[t]? = some v:=by simpa using h1
    have hlt:=(Array.getElem?_eq_some_iff.1 h1).1
    rw [Array.getD_eq_getD_getElem?,Array.getElem?_append_left hlt,h1];rfl
  · by_cases h0:0=i
    · subst h0;rw [Yb]at hi;cases hi;exact Chg.refl _ w
    · rw [Zl _ _ h0]at hi
      exact hp p (Oy pre 1 i p hi).2
  · by_cases h0:0=i
    · subst h0;rw [Yb]at hi;cases hi;cases ho
    · rw [Zl _ _ h0]at hi
      rw [hro.mem p (Oy pre 1 i p hi).2]at ho;cases ho
  · rw [Zl _ _ (fun e=>hi0 e.symm)]at hi
    exact .inr ⟨p,(Oy pre 1 i p hi).2,hb⟩
def onlyR(Q:Exit→Act→World→Prop):Exit→Act→World→Prop:=Fb Q
theorem Ew:¬LetsOut (Fb Q):=fun⟨_,_,h⟩=>h
theorem Ygv{o:Oper}{a:Act}{w:World}{K:Act→World→Prop}{r:Nat}(hnd:∀c,o.op≠ .defer c)(h:o.wp P a w K (Fb Q)):o.wpIn (Fence.wide.inRound r) 0 P a w K Q:=by
  refine⟨fun _ _=>trivial,?_⟩
  unfold Oper.wp at h
  show o.uponIn (Fence.wide.inRound r) 0 P a K Q ((o.semAt (some r) a.eval).run P w)
  rw [Oper.semAt_some r _ o hnd]
  generalize (execOp a.eval o).run P w=x at *
  cases x with
  | ok n w'=>
    cases n<;>simp only [Oper.upon,Oper.uponIn]at h ⊢
    case value=>exact h
    case skip=>exact h
    case defer=>exact h
    case enter f args=>
      refine⟨fun h=>(by cases h),CallsIn.inRound r (callsIn_wide.2 (h.mono fun e w'' he=>?_))⟩
      cases e with
      | returned v=>exact he
      | panicked c=>exact he.elim
      | outgrown=>exact absurd he Ew
    case row row args=>exact⟨fun h=>(by cases h),Yas (n:=0) h⟩
  | halt x w'=>
    cases x<;>simp only [Oper.upon]at h
    case panic u=>exact h.elim
def Zmm(l:List Oper):Prop:=∀o∈l,∀c,o.op≠ .defer c
theorem Zms{ops:Array Oper}{r:Nat} : ∀(l:List Oper) (a:Act) (w:World),Zmm l→wpList P ops (Fb Q) l a w→wpListIn (Fence.wide.inRound r) 0 P ops Q l a w
  | [],_,_,_,h=>h
  | o :: l,a,w,hnd,h=>by
    unfold wpList at h
    unfold wpListIn
    split
    · rename_i hw
      simp only [hw,if_true]at h
      exact Oper.wpIn_mono (fun a w hk=>Zms l a w (fun o ho=>hnd o (List.mem_cons_of_mem _ ho)) hk) (Ygv (hnd o (List.mem_cons_self ..)) (h.resolve_right fun h=>Ew h.2))
    · rename_i hw
      simp only [hw]at h
      exact⟨fun _ _=>trivial,Zms l _ w (fun o ho=>hnd o (List.mem_cons_of_mem _ ho)) h⟩
theorem Yax{id r:Nat}{l:List Oper}{a:Act}{w:World}(hnd:Zmm l)(h:L P N sc l.toArray l (Fb Q) env H)(hs:Sat N sc env H a w):(Code.region id l.toArray false).wpIn (Fence.wide.inRound r) 0 P Q a w:=
  wpIn_region_lit (Zms l a w hnd (h a w hs))
def fx(l:Nat)(o:Obj):Pc:=
  { own:=false,fp:=fun b=>b=l,holds:=fun w=>w.heap[l]? = some o
    lt:=fun w b h hb=>by subst hb;exact(Array.getElem?_eq_some_iff.1 h).1
    stable:=fun w w' h hc=>(hc.block l (Array.getElem?_eq_some_iff.1 h).1 (fun hn=>hn rfl)).trans h }
def Zd2(o:Oper):Bool:=match o.op with
  | .build ..=>true
  | .store ..=>true
  | .load ..=>true
  | .alloc ..=>true
  | _=>false
theorem Ybg{o:Oper}(h:Zd2 o=true){ρ:Operand→Value}{w w':World}{d:Deferred} : (execOp ρ o).run P w≠ .ok (.defer d) w':=fun he=>by
  unfold Zd2 at h
  cases ho:o.op<;>simp only [ho]at h<;>try (cases h;done)
  all_goals
    simp only [execOp,ho,Sem.run_bind]at he
    revert he
    generalize Sem.run P _ w=r
    cases r<;>simp [Result.andThen,Sem.run_pure]
theorem Zh6(a:Act)(ds:List Deferred)(d:Option Tmp)(v:Value):({ a with defers:=ds } : Act).put d v={ a.put d v with defers:=ds }:=by cases d<;>rfl
theorem Ygw {o:Oper} {a:Act} {w:World} {ds:List Deferred} {K K':Act→World→Prop} {Q1:Exit→Act→World→Prop} (hnd:Zd2 o=true) (hk:∀a w,K a w→K' { a with defers:=ds } w)
    (hq:∀e a w,¬Q1 e a w) (h:o.wp P a w K Q1):o.wp P { a with defers:=ds } w K' Q:=by
  unfold Oper.wp at h ⊢
  have hne:=fun d w'=>Ybg (P:=P) hnd (ρ:=a.eval) (w:=w) (w':=w') (d:=d)
  show o.upon P _ K' Q ((execOp a.eval o).run P w)
  generalize (execOp a.eval o).run P w=x at *
  cases x with
  | ok n w'=>
    cases n<;>simp only [Oper.upon]at h ⊢
    case value=>rw [Zh6];exact hk _ _ h
    case skip=>rw [Zh6];exact hk _ _ h
    case defer d=>exact absurd rfl (hne d w')
    case enter f args=>
      refine h.mono fun e w'' he=>?_
      cases e with
      | returned v=>show K' (({ a with defers:=ds } : Act).put o.dst v) w'';rw [Zh6];exact hk _ _ he
      | panicked c=>exact(hq _ _ _ he).elim
      | outgrown=>obtain⟨_,_,h⟩:=he;exact(hq _ _ _ h).elim
    case row row args=>exact h.mono fun _ _ he=>by rw [Zh6];exact hk _ _ he
  | halt x w'=>
    cases x<;>simp only [Oper.upon]at h
    case panic u=>exact(hq _ _ _ h).elim
theorem Zmt{ops:Array Oper}{ds:List Deferred} : ∀(l:List Oper) (a:Act) (w:World),l.all Zd2=true→wpList P ops (Fb fun e a w=>Q e { a with defers:=ds } w) l a w→wpList P ops Q l { a with defers:=ds } w
  | [],_,_,_,h=>h
  | o :: l,a,w,hnd,h=>by
    simp only [List.all_cons,Bool.and_eq_true]at hnd
    unfold wpList at h ⊢
    split
    · rename_i hw
      simp only [hw,if_true]at h
      have h:=h.resolve_right fun h=>Ew h.2
      refine .inl (Ygw (Q1:=noQ) hnd.1 (fun a w hk=>Zmt l a w hnd.2 hk) (fun _ _ _ h=>h) ?_)
      unfold Oper.wp at h ⊢
      revert h
      generalize (execOp a.eval o).run P w=x
      intro h
      cases x with
      | ok n w'=>
        cases n<;>simp only [Oper.upon]at h ⊢
        case value=>exact h
        case skip=>exact h
        case defer=>exact h
        case enter f args=>
          refine h.mono fun e w'' he=>?_
          cases e with
          | returned v=>exact he
          | panicked c=>exact he
          | outgrown=>exact absurd he Ew
        case row row args=>exact h
      | halt x w'=>
        cases x<;>simp only [Oper.upon]at h ⊢
        case panic u=>exact h
    · rename_i hw
      rw [if_neg hw]at h
      rw [Zh6]
      exact Zmt l _ w hnd.2 h
end Go.Sky
namespace Go.Sky
open Go.RowKit (Below)
variable {P:Program} {N:Nat} {sc:Nat→Prop} {env env':Qw} {H H':Hp} {Q Q':Exit→Act→World→Prop}
abbrev ALL:Nat→Prop:=fun _=>True
def FpSub:Hp→Hp→Prop
 | [],_=>True
 | (i,p) :: r,H=>(∃q,lk H i=some q∧p.own=q.own∧∀b,p.fp b→q.fp b)∧FpSub r H
theorem FpSub.lk:∀{H' H:Hp},FpSub H' H→∀i p,lk H' i=some p→∃q,lk H i=some q∧p.own=q.own∧∀b,p.fp b→q.fp b
 | [],_,_,_,_,h=>by cases h
 | (k,u) :: r,H,h,i,p,hi=>by
  by_cases hk:k=i
  ·subst hk;rw [Yb]at hi;cases hi;exact h.1
  ·rw [Zl _ _ hk]at hi;exact FpSub.lk h.2 i p hi
theorem Sat.re{a:Act}{w w':World}(hs:Sat N sc env H a w)(hf:∀i p,lk H' i=some p→∃q,lk H i=some q∧p.own=q.own∧∀b,p.fp b→q.fp b)(hh:∀i p,lk H' i=some p→p.holds w'):Sat N ALL env H' a w':=
 ⟨hs.size,hs.defers,hs.env,hh,fun i j p q hne hi hj ho b hb hb'=>by
  obtain⟨p',hp',ho',hf1⟩:=hf i p hi
  obtain⟨q',hq',_,hf2⟩:=hf j q hj
  exact hs.sep i j p' q' hne hp' hq' (ho'▸ho) b (hf1 b hb) (hf2 b hb'),fun _ _ _ _ _ _=>trivial⟩
def FpN:Hp→Hp→Prop
 | [],_=>True
 | (i,p) :: r,H=>(p.own=true∨∃q,lk H i=some q∧∀b,p.fp b→q.fp b)∧FpN r H
theorem FpN.lk:∀{H' H:Hp},FpN H' H→∀i p,lk H' i=some p→p.own=true∨∃q,lk H i=some q∧∀b,p.fp b→q.fp b
 | [],_,_,_,_,h=>by cases h
 | (k,u) :: r,H,h,i,p,hi=>by
  by_cases hk:k=i
  ·subst hk;rw [Yb]at hi;cases hi;exact h.1
  ·rw [Zl _ _ hk]at hi;exact FpN.lk h.2 i p hi
theorem lk3{p q:Pc}{i:Nat}{r:Pc}(h:lk ((90,p) :: (91,q) :: H) i=some r):(i=90∧r=p)∨(i=91∧r=q)∨(i≠90∧i≠91∧lk H i=some r):=by
 by_cases h1:90=i
 ·subst h1;rw [Yb]at h;cases h;exact .inl ⟨rfl,rfl⟩
 ·rw [Zl _ _ h1]at h
  by_cases h2:91=i
  ·subst h2;rw [Yb]at h;cases h;exact .inr (.inl ⟨rfl,rfl⟩)
  ·rw [Zl _ _ h2]at h;exact .inr (.inr ⟨fun e=>h1 e.symm,fun e=>h2 e.symm,h⟩)
theorem lk3'{p q:Pc}{i:Nat}(h1:i≠90)(h2:i≠91):lk ((90,p) :: (91,q) :: H) i=lk H i:=by
 rw [Zl _ _ (fun e=>h1 e.symm),Zl _ _ (fun e=>h2 e.symm)]
theorem Sat.turn{a:Act}{w:World}{l D:Nat}{o o2 od:Obj}(hs:Sat N ALL env ((90,fx l o) :: (91,fx D od) :: H) a w)(hne:l≠D)(hn:∀i p,i≠90→i≠91→lk H i=some p→¬p.fp l) :
  Sat N ALL env ((90,fx l o2) :: (91,fx D od) :: H) a (w.putObj l o2):=by
 have hl:w.heap[l]? = some o:=hs.hold 90 _ rfl
 have hD:w.heap[D]? = some od:=hs.hold 91 _ rfl
 refine hs.re (fun i p hi=>?_) (fun i p hi=>?_)
 ·rcases lk3 hi with⟨rfl,rfl⟩ | ⟨rfl,rfl⟩ | ⟨h1,h2,hi⟩
  ·exact⟨_,rfl,rfl,fun _ h=>h⟩
  ·exact⟨_,rfl,rfl,fun _ h=>h⟩
  ·exact⟨p,by rw [lk3' h1 h2];exact hi,rfl,fun _ h=>h⟩
 ·rcases lk3 hi with⟨rfl,rfl⟩ | ⟨rfl,rfl⟩ | ⟨h1,h2,h3⟩
  ·exact World.putObj_heap_same (Array.getElem?_eq_some_iff.1 hl).1
  ·exact(World.putObj_heap_other (fun e=>hne e.symm)).trans hD
  ·refine p.stable _ _ (hs.hold i p (by rw [lk3' h1 h2];exact h3)) ⟨rfl,rfl,rfl,O7,fun k hk hn'=>World.putObj_heap_other (fun e=>hn' ?_)⟩
   subst e
   exact hn i p h1 h2 h3
theorem Sat.round{a:Act}{w:World}(hs:Sat N sc env H a w)(d:Nat)(v:Value)(hd:Nat.blt d N=true):Sat N sc ((d,v) :: env) H { tmps:=(#[d].zip #[v]).foldl (fun t (p,v)=>t.setIfInBounds p v) a.tmps,defers:=[] } w:=by
 have h:=hs.put d v hd
 have e:(a.put (some d) v)={ tmps:=(#[d].zip #[v]).foldl (fun t (p,v)=>t.setIfInBounds p v) a.tmps,defers:=[] }:=by
  show({ a with tmps:=a.tmps.setIfInBounds d v } : Act)=_
  rw [←hs.defers];simp
 rw [←e];exact h
theorem Kc{ops:Array Oper}{Q1 Q2:Exit→Act→World→Prop}(hq:∀e a w,Q1 e a w→Q2 e a w):∀(l:List Oper) (a:Act) (w:World),wpList P ops Q1 l a w→wpList P ops Q2 l a w
 | [],_,_,h=>hq _ _ _ h
 | o :: l,a,w,h=>by
  unfold wpList at h ⊢
  split
  ·rename_i hw
   rw [if_pos hw]at h
   rcases h with h | ⟨h1,a',w',h2⟩
   ·refine .inl ?_
    unfold Oper.wp at h ⊢
    revert h
    generalize (execOp a.eval o).run P w=x
    intro h
    cases x with
    | ok n w'=>
     cases n<;>simp only [Oper.upon]at h ⊢
     case value=>exact Kc hq l _ _ h
     case skip=>exact Kc hq l _ _ h
     case defer=>exact Kc hq l _ _ h
     case enter f args=>
      refine h.mono fun e w'' he=>?_
      cases e with
      | returned v=>exact Kc hq l _ _ he
      | panicked c=>exact hq _ _ _ he
      | outgrown=>obtain⟨a,w,h⟩:=he;exact⟨a,w,hq _ _ _ h⟩
     case row row args=>exact h.mono fun _ _ he=>Kc hq l _ _ he
    | halt x w'=>
     cases x<;>simp only [Oper.upon]at h ⊢
     case panic u=>exact hq _ _ _ h
   ·exact .inr ⟨h1,a',w',hq _ _ _ h2⟩
  ·rename_i hw
   rw [if_neg hw]at h
   exact Kc hq l _ _ h
end Go.Sky
namespace Go.Sky
open Go.RowKit (Below)
variable {P:Program} {N:Nat} {sc:Nat→Prop} {env env':Qw} {H H':Hp} {Q Q':Exit→Act→World→Prop}
def YJI(P:Program)(w0:World)(l:Nat)(M:Nat→Prop)(J:Nat→World→Prop)(Jx:World→Prop){α G:Type}(xs:List α)(ys:α→G→List Value)(its:α→G→List Pc):Prop:=
 ∀k x g,xs[k]? = some x→∀W W1,J k W→w0.heap.size≤W.heap.size→Below W.heap.size W W1→(∀p∈its x g,p.holds W1∧p.own=false∧∀b,p.fp b→W.heap.size≤b)→
  YieldAt Fence.wide 0 P l (ys x g).toArray W1 fun e W'=>(e= .returned (.bool true)∧J (k+1) W'∧Chg (fun b=>M b∨w0.heap.size≤b) W1 W')∨(e= .returned (.bool false)∧Jx W'∧Chg (fun b=>M b∨w0.heap.size≤b) W1 W')
def Zju(J:World→Prop):Prop:=∀W W',J W→Below W.heap.size W W'→J W'
def CalI(P:Program)(f:FuncId)(lb:List Value)(pre:List Pc){α G:Type}(xs:List α)(ys:α→G→List Value)(its:α→G→List Pc):Prop:=
 ∀(l:Nat) (M:Nat→Prop) (J:Nat→World→Prop) (Jx:World→Prop) (w:World),
  (∀p∈pre,p.holds w)→(∀p∈pre,∀b,p.fp b→¬M b)→(∀k,Zju (J k))→Zju Jx→J 0 w→YJI P w l M J Jx xs ys its→
  Calls P f (.func (.yield l) #[] #[] :: lb).toArray w fun e w'=>(∃v,e= .returned v)∧(J xs.length w'∨Jx w')
def Yfb(P:Program)(fn:Func)(n:Nat)(J:Nat→World→Prop)(Jx:World→Prop):Exit→Act→World→Prop:=
 bodyPost P fn fun e w'=>(∃v,e= .returned v)∧(J n w'∨Jx w')
theorem Yir {f:FuncId} {fn:Func} {c:Code} {lb:List Value} {pre:List Pc} {α G:Type} {xs:List α} {ys:α→G→List Value} {its:α→G→List Pc} {N:Nat}
  (hf:P.funcs[f]? = some fn) (hb:fn.body=some c) (hN:fn.ntmps=N) (hle:Nat.ble (lb.length+1) N=true) (hro:AllRo pre)
  (h:∀(l:Nat) (M:Nat→Prop) (J:Nat→World→Prop) (Jx:World→Prop) w0 (sc:Nat→Prop),(∀b,w0.heap.size≤b→sc b)→(∀p∈pre,∀b,p.fp b→b<w0.heap.size∧¬M b)→(∀k,Zju (J k))→Zju Jx→J 0 w0→YJI P w0 l M J Jx xs ys its→
   E P N sc c (Yfb P fn xs.length J Jx) (Pa 0 (.func (.yield l) #[] #[] :: lb)) ((0,Xm w0 (fun _=>False)) :: Xu 1 pre)) :
  CalI P f lb pre xs ys its:=fun l M J Jx w hp hm hJ hJx hJ0 hY=>by
 refine calls_of_wp hf hb (h l M J Jx w (fun b=>w.heap.size≤b∨∃q∈pre,q.fp b) (fun b hb=> .inl hb) (fun p hpp b hb=>⟨p.lt w b (hp p hpp) hb,hm p hpp b hb⟩) hJ hJx hJ0 hY _ w ?_)
 have hle':lb.length+1≤N:=by simpa using hle
 refine⟨by simp [hN];omega,rfl,fun t v ht=>?_,fun i p hi=>?_,fun i j p q hne hi hj ho b hb hb'=>?_,fun i p hi0 hi b hb=>?_⟩
 ·have h1:=(Hk (.func (.yield l) #[] #[] :: lb) 0 t v ht).2
  have h1:(Value.func (.yield l) #[] #[] :: lb).toArray[t]? = some v:=by simpa using h1
  have hlt:=(Array.getElem?_eq_some_iff.1 h1).1
  rw [Array.getD_eq_getD_getElem?,Array.getElem?_append_left hlt,h1];rfl
 ·by_cases h0:0=i
  ·subst h0;rw [Yb]at hi;cases hi;exact Chg.refl _ w
  ·rw [Zl _ _ h0]at hi
   exact hp p (Oy pre 1 i p hi).2
 ·by_cases h0:0=i
  ·subst h0;rw [Yb]at hi;cases hi;cases ho
  ·rw [Zl _ _ h0]at hi
   rw [hro.mem p (Oy pre 1 i p hi).2]at ho;cases ho
 ·rw [Zl _ _ (fun e=>hi0 e.symm)]at hi
  exact .inr ⟨p,(Oy pre 1 i p hi).2,hb⟩
def LI(P:Program)(N:Nat)(sc:Nat→Prop)(ops:Array Oper)(rest:List Oper)(Q:Exit→Act→World→Prop)(env:Qw)(H:Hp):Prop:=
 ∀a w,Sat N sc env H a w→wpListIn Fence.wide 0 P ops Q rest a w
theorem e_li{id:Nat}{l:List Oper}(h:LI P N sc l.toArray l Q env H):E P N sc (.region id l.toArray false) Q env H:=fun a w hs=>
 (wpIn_wide (n:=0)).1 (wpIn_region_lit (h a w hs))
theorem Zft{ops:Array Oper}{o:Oper}{ts:Array Value}(hg:o.guard=none):Region.wanted o (yielded ops ts)=true:=by simp [Region.wanted,hg]
theorem Zim{ops:Array Oper}{o:Oper}{rest:List Oper}{d:Nat}{v:Value}(hv:Nt P N sc o env H v)(hg:o.guard=none)(hd:o.dst=some d)(hN:Nat.blt d N=true)(h:LI P N sc ops rest Q ((d,v) :: env) H):LI P N sc ops (o :: rest) Q env H:=fun a w hs=>by
 unfold wpListIn
 rw [if_pos (Zft hg)]
 refine⟨fun _ _=>trivial,?_⟩
 show o.uponIn Fence.wide 0 P a _ Q ((execOp a.eval o).run P w)
 rw [hv a w hs]
 show wpListIn Fence.wide 0 P ops Q rest (a.put o.dst v) w
 rw [hd]
 exact h _ w (hs.put d v hN)
theorem Ycc{ops:Array Oper}(h:X N sc .normal Q env H):LI P N sc ops [] Q env H:=fun a w hs=>h a w hs
theorem Sat.base {w0 W1 W':World} {M:Nat→Prop} {pre:List Pc} {a:Act} (hs:Sat N sc env H a W1) (hpre:∀p∈pre,∀b,p.fp b→b<w0.heap.size∧¬M b) (hro:AllRo pre) (hsub:HSub (Xu 1 pre) H)
  (hc:Chg (fun b=>M b∨w0.heap.size≤b) W1 W'):Sat N sc env ((0,Xm W' (fun _=>False)) :: Xu 1 pre) a W':=by
 refine⟨hs.size,hs.defers,hs.env,fun i p hi=>?_,fun i j p q hne hi hj ho b hb hb'=>?_,fun i p hi0 hi b hb=>?_⟩
 ·by_cases h0:0=i
  ·subst h0;rw [Yb]at hi;cases hi;exact Chg.refl _ _
  ·rw [Zl _ _ h0]at hi
   have hp:=(Oy pre 1 i p hi).2
   refine p.stable _ _ (hs.hold i p (hsub.lk i p hi)) ⟨hc.os,hc.tape,hc.output,hc.size,fun k hk hn=>hc.block k hk (fun hf=>?_)⟩
   have:=hpre p hp k (Classical.not_not.1 hn)
   rcases hf with h | h
   ·exact this.2 h
   ·omega
 ·by_cases h0:0=i
  ·subst h0;rw [Yb]at hi;cases hi;cases ho
  ·rw [Zl _ _ h0]at hi
   rw [hro.mem p (Oy pre 1 i p hi).2]at ho;cases ho
 ·rw [Zl _ _ (fun e=>hi0 e.symm)]at hi
  exact hs.scope i p hi0 (hsub.lk i p hi) b hb
theorem Ycb {ops:Array Oper} {rest:List Oper} {o:Oper} {d l:Nat} {x:Operand} {ops':List Operand} {tys:Array TypeId} {vs:List Value} {w0 W:World} {M:Nat→Prop} {J:Nat→World→Prop} {Jx:World→Prop} {α G:Type} {xs:List α} {ys:α→G→List Value} {its:α→G→List Pc} {pre:List Pc}
  (k:Nat) (y:α) (g:G) (hY:YJI P w0 l M J Jx xs ys its) (hy:xs[k]? = some y) (hJ:J k W) (hW:w0.heap.size≤W.heap.size) (hpre:∀p∈pre,∀b,p.fp b→b<w0.heap.size∧¬M b)
  (ho:o.op= .call { callee:= .value x,args:=ops'.toArray,argTypes:=tys }) (hg:o.guard=none) (hd:o.dst=some d) (hN:Nat.blt d N=true) (hx:ev env x=some (.func (.yield l) #[] #[])) (hargs:EvL env ops' vs) (hvs:vs=ys y g)
  (h0:lk H 0=some (Xm W (fun _=>False))) (hits:∀p∈its y g,p.own=false∧(∀b,p.fp b→W.heap.size≤b)∧∃i it,lk H i=some it∧∀w,it.holds w→p.holds w)
  (hro:AllRo pre) (hsub:HSub (Xu 1 pre) H)
  (ht:∀W',J (k+1) W'→w0.heap.size≤W'.heap.size→LI P N sc ops rest Q ((d,.bool true) :: env) ((0,Xm W' (fun _=>False)) :: Xu 1 pre))
  (hf:∀W',Jx W'→w0.heap.size≤W'.heap.size→LI P N sc ops rest Q ((d,.bool false) :: env) ((0,Xm W' (fun _=>False)) :: Xu 1 pre)):LI P N sc ops (o :: rest) Q env H:=fun a w hs=>by
 subst hvs
 have hB:=Ha (hs.hold 0 _ h0)
 obtain⟨fn,tmps,assign,body,hrun,hround⟩:=hY k y g hy W w hJ hW hB (fun p hp=>by
  obtain⟨h1,h2,i,it,hi,hh⟩:=hits p hp
  exact⟨hh w (hs.hold i it hi),h1,h2⟩)
 have hrr:(o.semAt Fence.wide.round a.eval).run P w= .ok (.round l fn tmps assign body) w:=by
  show(execOp a.eval o).run P w=_
  have hm:=hargs.map hs
  have hxx:=hs.ev hx
  simp [execOp,ho,resolve,invoke,Deferred.ofValue,hm,hxx,hrun,Sem.run_bind]
 unfold wpListIn
 rw [if_pos (Zft hg)]
 refine⟨fun _ _=>trivial,?_⟩
 rw [hrr]
 refine⟨fun h=>(by cases h),hround.mono ?_⟩
 have hsz:w0.heap.size≤w.heap.size:=Nat.le_trans hW hB.size
 rintro e W' (⟨rfl,hJ',hc⟩ | ⟨rfl,hJ',hc⟩)
 ·show wpListIn Fence.wide 0 P ops Q rest (a.put o.dst _) W'
  rw [hd]
  exact ht W' hJ' (Nat.le_trans hsz hc.size) _ W' ((hs.base hpre hro hsub hc).put d _ hN)
 ·show wpListIn Fence.wide 0 P ops Q rest (a.put o.dst _) W'
  rw [hd]
  exact hf W' hJ' (Nat.le_trans hsz hc.size) _ W' ((hs.base hpre hro hsub hc).put d _ hN)
theorem Zy4{fn:Func}{J:Nat→World→Prop}{Jx:World→Prop}{W:World}{n:Nat}{e:Exit}(he:e= .ret∨e= .normal)(hf:fn.results=#[])(h0:lk H 0=some (Xm W (fun _=>False)))(hJs:∀k,Zju (J k))(hxs:Zju Jx)(h:J n W∨Jx W):X N sc e (Yfb P fn n J Jx) env H:=fun a w hs=>by
 have hB:=Ha (hs.hold 0 _ h0)
 have key:a.defers=[]∧∃v,(results fn a.tmps).run P w= .ok v w∧((∃u,Ending.returned v= .returned u)∧(J n w∨Jx w)):=
  ⟨hs.defers,_,Yav hf,⟨_,rfl⟩,h.imp (fun h=>hJs n W w h hB) (fun h=>hxs W w h hB)⟩
 rcases he with rfl | rfl<;>exact key
end Go.Sky
namespace Go.Sky
open Go.RowKit (Below)
variable {P:Program} {N:Nat} {sc:Nat→Prop} {env env':Qw} {H H':Hp} {Q Q':Exit→Act→World→Prop}
def FpM:Hp→Hp→Prop
 | [],_=>True
 | (i,p) :: r,H=>(p.own=true∨∀b,p.fp b→∃j q,lk H j=some q∧q.fp b)∧FpM r H
theorem FpM.lk:∀{H' H:Hp},FpM H' H→∀i p,lk H' i=some p→p.own=true∨∀b,p.fp b→∃j q,lk H j=some q∧q.fp b
 | [],_,_,_,_,h=>by cases h
 | (k,u) :: r,H,h,i,p,hi=>by
  by_cases hk:k=i
  ·subst hk;rw [Yb]at hi;cases hi;exact h.1
  ·rw [Zl _ _ hk]at hi;exact FpM.lk h.2 i p hi
structure Kps (sc:Nat→Prop) (w:World) (Mf:Nat→Prop) (Hn:Hp) (W:World):Prop where
 hold:∀i it,lk Hn i=some it→it.holds W
 sep:∀i j it jt,i≠j→lk Hn i=some it→lk Hn j=some jt→it.own=true→∀b,it.fp b→jt.fp b→False
 scope:∀i it,i≠0→lk Hn i=some it→∀b,it.fp b→sc b
 off:∀i it,lk Hn i=some it→it.own=false→∀b,it.fp b→b<w.heap.size∨w.heap.size+2≤b
 mf:∀i it,lk Hn i=some it→it.own=true→∀b,it.fp b→Mf b
def Mof(w:World)(H:Hp)(b:Nat):Prop:=(∃i q,lk H i=some q∧q.own=true∧q.fp b)∨w.heap.size+2≤b
theorem Kps.chg{w:World}{Mf:Nat→Prop}{Hn:Hp}{W W':World}(h:Kps sc w Mf Hn W)(hc:∀i it,lk Hn i=some it→Chg (fun b=>¬it.fp b) W W'):Kps sc w Mf Hn W':=
 ⟨fun i it hi=>it.stable _ _ (h.hold i it hi) (hc i it hi),h.sep,h.scope,h.off,h.mf⟩
theorem Kps.stays{w:World}{Mf:Nat→Prop}{Hn:Hp}{W W':World}(h:Kps sc w Mf Hn W)(hB:Below W.heap.size W W'):Kps sc w Mf Hn W':=h.chg fun _ _ _=>Chg.of_below hB
theorem Kps.put{w:World}{Hn:Hp}{W:World}{d:Nat}{o:Obj}(h:Kps sc w (Mof w H) Hn W)(hlt:∀i q,lk H i=some q→∀b,q.fp b→b<w.heap.size)(hd:w.heap.size≤d∧d<w.heap.size+2):Kps sc w (Mof w H) Hn (W.putObj d o):=
 h.chg fun i it hi=>⟨rfl,rfl,rfl,O7,fun k hk hn=>World.putObj_heap_other (fun e=>hn fun hf=>by
  subst e
  cases ho:it.own with
  | false=>rcases h.off i it hi ho _ hf with h | h<;>omega
  | true=>
   rcases h.mf i it hi ho _ hf with⟨j,q,hq,_,hqf⟩ | h
   ·have:=hlt j q hq _ hqf;omega
   ·omega)⟩
theorem Kps.sat{w:World}{Mf:Nat→Prop}{Hn:Hp}{W:World}{a:Act}(h:Kps sc w Mf Hn W)(hsz:a.tmps.size=N)(hd:a.defers=[])(he:∀t v,lk env t=some v→a.tmps.getD t undef=v):Sat N sc env Hn a W:=⟨hsz,hd,he,h.hold,h.sep,h.scope⟩
def Zm0(H:Hp)(w0:World):Prop:=lk H 0=some (Xm w0 (fun _=>False))∧lk H 92=none
def Mfs(sc:Nat→Prop)(w:World)(H:Hp)(b:Nat):Prop:=Mof w H b∨¬sc b
theorem Sat.ps {w Wb W3:World} {Hn Hall:Hp} {a:Act} (hs:Sat N sc env ((92,Xm Wb (Mfs sc w H)) :: Hn) a W3) (h92:lk Hn 92=none) (h0:∀q,lk Hn 0=some q→q.own=false) (hb:w.heap.size+2≤Wb.heap.size)
  (hf:FpM Hn Hall) (hpp:∀j q,lk Hall j=some q→∀b,q.fp b→q.own=true→Mof w H b) (hpp2:∀j q,lk Hall j=some q→∀b,q.fp b→q.own=false→b<w.heap.size∨w.heap.size+2≤b) (hlt:∀i q,lk H i=some q→∀b,q.fp b→b<w.heap.size):Kps sc w (Mof w H) Hn W3:=by
 have hl:∀i it,lk Hn i=some it→lk ((92,Xm Wb (Mfs sc w H)) :: Hn) i=some it:=fun i it hi=>by
  by_cases h1:92=i
  ·subst h1;rw [h92]at hi;cases hi
  ·rw [Zl _ _ h1];exact hi
 have hmf:∀i it,lk Hn i=some it→it.own=true→∀b,it.fp b→Mof w H b:=fun i it hi ho b hb'=>by
  have h92i:i≠92:=fun e=>by subst e;rw [h92]at hi;cases hi
  have h0i:i≠0:=fun e=>by subst e;rw [h0 it hi]at ho;cases ho
  have hsc:=hs.scope i it h0i (hl i it hi) b hb'
  have:=hs.sep i 92 it _ h92i (hl i it hi) (Yb _ _ _) ho b hb'
  by_cases hlt':b<Wb.heap.size
  ·rcases(Classical.not_not.1 fun hn=>this ⟨hlt',hn⟩:Mfs sc w H b)with h | h
   ·exact h
   ·exact absurd hsc h
  ·exact .inr O
 refine⟨fun i it hi=>hs.hold i it (hl i it hi),fun i j it jt hne hi hj=>hs.sep i j it jt hne (hl i it hi) (hl j jt hj),fun i it hi0 hi=>hs.scope i it hi0 (hl i it hi),fun i it hi ho b hb'=>?_,hmf⟩
 rcases hf.lk i it hi with h | h
 ·rw [ho]at h;cases h
 ·obtain⟨j,q,hq,hqb⟩:=h b hb'
  cases hqo:q.own with
  | false=>exact hpp2 j q hq b hqb hqo
  | true=>
   rcases hpp j q hq b hqb hqo with⟨i',q',hq',_,hf'⟩ | h
   ·exact .inl (hlt i' q' hq' b hf')
   ·exact .inr h
def RB(N:Nat)(sc:Nat→Prop)(Mf:Nat→Prop)(Hall:Hp){GG GX:Type}(HH:GG→Hp)(inv:GG→Prop)(HX:GX→Hp)(invx:GX→Prop)(Wb:World):Exit→Act→World→Prop:=fun e a W=>
 (e= .normal∧∃gg,inv gg∧FpM (HH gg) Hall∧∃env',Sat N sc env' ((92,Xm Wb Mf) :: HH gg) a W)∨(e= .ret∧∃gx,invx gx∧FpM (HX gx) Hall∧∃env',Sat N sc env' ((92,Xm Wb Mf) :: HX gx) a W)
def RA(P:Program)(N:Nat)(sc:Nat→Prop)(l:Nat)(Mf:Nat→Prop)(Hall:Hp)(body:Code){GG GX:Type}(HH:GG→Hp)(inv:GG→Prop)(HX:GX→Hp)(invx:GX→Prop)(Wa:World):Exit→Act→World→Prop:=fun e a W=>
 e= .normal∧∃env1 H1,lk H1 92=none∧(∀q,lk H1 0=some q→q.own=false)∧FpM H1 Hall∧Sat N sc env1 ((92,Xm Wa Mf) :: H1) a W∧
  ∀Wb a W,Sat N sc env1 ((92,Xm Wb Mf) :: H1) a W→body.wpIn (Fence.wide.inRound l) 0 P (RB N sc Mf Hall HH inv HX invx Wb) a W
theorem Zu9:∀(l:List Pc) (n:Nat) (H:Hp) (j:Nat) (q:Pc),lk (adds n l H) j=some q→q∈l∨lk H j=some q
 | [],_,_,_,_,h=> .inr h
 | p :: r,n,H,j,q,h=>by
  by_cases hn:n=j
  ·subst hn;rw [show adds n (p :: r) H=(n,p) :: adds (n+1) r H from rfl,Yb]at h;cases h;exact .inl (List.mem_cons_self ..)
  ·rw [show adds n (p :: r) H=(n,p) :: adds (n+1) r H from rfl,Zl _ _ hn]at h
   exact(Zu9 r (n+1) H j q h).imp (List.mem_cons_of_mem _) id
@[reducible] def renv:List Nat→List Value→Qw→Qw
 | p :: ps,v :: vs,env=>renv ps vs ((p,v) :: env)
 | _,_,env=>env
theorem Sat.rounds{w:World} : ∀(ps:List Nat) (vs:List Value) {env:Qw} {tm:Array Value},(ps.all fun p=>Nat.blt p N)=true→Sat N sc env H { tmps:=tm,defers:=[] } w→
  Sat N sc (renv ps vs env) H { tmps:=(ps.zip vs).foldl (fun t pv=>t.setIfInBounds pv.1 pv.2) tm,defers:=[] } w
 | [],_,_,_,_,h=>h
 | _ :: _,[],_,_,_,h=>h
 | p :: ps,v :: vs,env,tm,hp,h=>by
  simp only [List.all_cons,Bool.and_eq_true]at hp
  exact Sat.rounds ps vs (env:=(p,v) :: env) hp.2 (h.put p v hp.1)
theorem Zqf {fn:Func} {w0 W:World} {preF:List Pc} {al:Bool} {GF:Type} {φ:GF→Prop} {Ye:GF→Value} {itsF:GF→List Pc} {a:Act} {D:Nat}
  (hD:W.heap[D]? = some (.deferred (some []))) (h:Zbg P fn w0 preF al φ Ye itsF .ret { a with defers:=[] } (W.putObj D (.deferred none))) :
  Zfs P fn w0 preF al φ Ye itsF .ret { a with defers:=[{ target:= .collected D,args:=#[] }] } W:=by
 obtain⟨-,v,hr,hR⟩:=h
 exact⟨O7,.inl ⟨_,_,rfl,run_takeDeferred hD,⟨v,hr,hR⟩⟩⟩
theorem e_rfi {g:Operand} {gf idc bk0:Nat} {ps:List Nat} {assign body:Code} {lbv:List Value} {pre:List Pc} {α G:Type} {xs:List α} {ys:α→G→List Value} {its:α→G→List Pc} {lc:List Oper} {fn:Func} {w0:World} {preF:List Pc} {al:Bool} {GF:Type} {φ:GF→Prop} {Ye:GF→Value} {itsF:GF→List Pc}
  {GG GX:Type} (HH:Nat→GG→Hp) (inv:Nat→GG→Prop) (HX:GX→Hp) (invx:GX→Prop) (gg0:GG)
  (hg:ev env g=some (.func (.func gf) #[] lbv.toArray)) (eg:∀args w,(callFunc gf args).run P w= .ok (.enter gf args) w) (hc:CalI P gf lbv pre xs ys its)
  (hp:∀p∈pre,p.own=false∧∃i,lk H i=some p) (hps:∀x gi,(ys x gi).length=ps.length) (hpN:(ps.all fun p=>Nat.blt p N)=true)
  (hw:∀b,w0.heap.size≤b→sc b) (h0:lk H 0=some (Xm w0 (fun _=>False)))
  (hi0:inv 0 gg0) (hs0:HSub (HH 0 gg0) H) (hk:∀k gg,Zm0 (HH k gg) w0) (hkx:∀gx,Zm0 (HX gx) w0)
  (hround:∀k x gi gg,xs[k]? = some x→inv k gg→∀l Mf Wa a W,Sat N sc (renv ps (ys x gi) env) ((92,Xm Wa Mf) :: adds 100 (its x gi) (HH k gg)) a W→
   assign.wpIn (Fence.wide.inRound l) 0 P (RA P N sc l Mf (adds 100 (its x gi) (HH k gg)) body (HH (k+1)) (inv (k+1)) HX invx Wa) a W)
  (hlc:lc.all Zd2=true)
  (hC:∀gg,inv xs.length gg→∀D od,L P N sc lc.toArray lc (Fb fun e a w=>e= .normal∧∃env2 H2,lk H2 92=none∧FpSub H2 (HH xs.length gg)∧Sat N sc env2 ((92,fx D od) :: H2) a w∧X N sc .ret (Zbg P fn w0 preF al φ Ye itsF) env2 H2) env ((92,fx D od) :: HH xs.length gg))
  (hX:∀gx,invx gx→X N sc .ret (Zbg P fn w0 preF al φ Ye itsF) env (HX gx)) :
  E P N sc (.rangeFunc g ps.toArray assign body) (Exit.inBlock bk0 (Exit.then ((Code.seq (.region idc lc.toArray false) .ret).wp P (Zfs P fn w0 preF al φ Ye itsF)) (Zfs P fn w0 preF al φ Ye itsF))) env H:=fun a w hs=>by
 have hlt:∀i p,lk H i=some p→∀b,p.fp b→b<w.heap.size:=fun i p hi b hb=>p.lt w b (hs.hold i p hi) hb
 have hw0:w0.heap.size≤w.heap.size:=(hs.hold 0 _ h0).size
 refine(wpIn_wide (n:=0)).1 (wpIn_rangeFunc ?_)
 intro fn' hfn
 obtain⟨rec,hrec⟩:∃rec:LoopState→Option Code→Loop,rec=fun st pe=>{ state:=st,pending:=pe,fn:=fn',tmps:=a.tmps,params:=ps.toArray,assign,body,defers:=w.heap.size }:=⟨_,rfl⟩
 obtain⟨W1,hW1⟩:∃W1,(w.alloc (.deferred (some []))).alloc (.loop (rec .ready none))=W1:=⟨_,rfl⟩
 have hL1:W1.heap[w.heap.size+1]? = some (.loop (rec .ready none)):=by
  rw [←hW1];have:=World.alloc_heap_new (w.alloc (.deferred (some []))) (.loop (rec .ready none));rwa [World.size_alloc]at this
 have hK1:W1.heap[w.heap.size]? = some (.deferred (some [])):=by
  rw [←hW1];exact(Below.heap_alloc _ _ _ O7).trans (World.alloc_heap_new w _)
 have hb1:Below w.heap.size w W1:=by
  rw [←hW1];exact((Below.refl _ w).alloc (Nat.le_refl _) _).alloc O7 _
 have hs1:W1.heap.size=w.heap.size+2:=by rw [←hW1];simp
 have e0:(#[.func (.yield (w.heap.size+1)) #[] #[]] ++ lbv.toArray:Array Value)=(Value.func (.yield (w.heap.size+1)) #[] #[] :: lbv).toArray:=O7
 refine⟨w.heap.size+1,[{ target:= .collected w.heap.size,args:=#[] }],W1,{ target:= .fn (.func gf) lbv.toArray,args:=#[.func (.yield (w.heap.size+1)) #[] #[]] },W1,gf,
  (Value.func (.yield (w.heap.size+1)) #[] #[] :: lbv).toArray,W1,?_,?_,fun _ _=>trivial,?_,fun h=>(by cases h),?_⟩
 ·rw [←hW1,hrec];exact run_enterLoop_outer _ _ _ _ _
 ·simp only [resolve,hs.ev hg]
  simp [go_sem]
 ·simp [invoke,go_sem,eg]
 have hstay:∀(Hn:Hp) (r:Loop),Zju fun W=>W.heap[w.heap.size+1]? = some (.loop r)∧W.heap[w.heap.size]? = some (.deferred (some []))∧W1.heap.size≤W.heap.size∧Kps sc w (Mof w H) Hn W:=fun Hn r W W' ⟨h1,h2,h3,h4⟩ hB=>
  ⟨(hB.block _ (Array.getElem?_eq_some_iff.1 h1).1).trans h1,(hB.block _ (Array.getElem?_eq_some_iff.1 h2).1).trans h2,Nat.le_trans h3 hB.size,h4.stays hB⟩
 have hlN:¬Mof w H (w.heap.size+1):=fun h=>by
  rcases h with⟨i,q,hq,_,hf⟩ | h
  ·have:=hlt i q hq _ hf;omega
  ·omega
 have hDN:¬Mof w H w.heap.size:=fun h=>by
  rcases h with⟨i,q,hq,_,hf⟩ | h
  ·have:=hlt i q hq _ hf;omega
  ·omega
 have hoD:∀(Hn:Hp) (W:World),Kps sc w (Mof w H) Hn W→∀(o:Obj),Kps sc w (Mof w H) Hn (W.putObj w.heap.size o):=fun Hn W h o=>h.put hlt ⟨Nat.le_refl _,O⟩
 have hol:∀(Hn:Hp) (W:World),Kps sc w (Mof w H) Hn W→∀(o:Obj),Kps sc w (Mof w H) Hn (W.putObj (w.heap.size+1) o):=fun Hn W h o=>h.put hlt ⟨O,O⟩
 refine callsIn_wide.2 ((hc (w.heap.size+1) (fun b=>(∃i q,lk H i=some q∧q.own=true∧q.fp b)∨b=w.heap.size+1)
  (fun k W=>∃gg,inv k gg∧(W.heap[w.heap.size+1]? = some (.loop (rec .ready none))∧W.heap[w.heap.size]? = some (.deferred (some []))∧W1.heap.size≤W.heap.size∧Kps sc w (Mof w H) (HH k gg) W))
  (fun W=>∃gx,invx gx∧(W.heap[w.heap.size+1]? = some (.loop (rec .done (some .ret)))∧W.heap[w.heap.size]? = some (.deferred (some []))∧W1.heap.size≤W.heap.size∧Kps sc w (Mof w H) (HX gx) W)) W1
  ?_ ?_ ?_ ?_ ?_ ?_).mono ?_)
 ·intro p hpp
  obtain⟨ho,i,hi⟩:=hp p hpp
  exact p.stable _ _ (hs.hold i p hi) (Chg.of_below hb1)
 ·rintro p hpp b hb (⟨i,q,hq,hqo,hqb⟩ | rfl)
  ·obtain⟨ho,j,hj⟩:=hp p hpp
   exact hs.sep i j q p (fun e=>by subst e;rw [hq]at hj;cases hj;rw [ho]at hqo;cases hqo) hq hj hqo b hqb hb
  ·obtain⟨ho,j,hj⟩:=hp p hpp
   have:=hlt j p hj _ hb;omega
 ·rintro k W W' ⟨gg,hg1,h⟩ hB;exact⟨gg,hg1,hstay _ _ W W' h hB⟩
 ·rintro W W' ⟨gx,hg1,h⟩ hB;exact⟨gx,hg1,hstay _ _ W W' h hB⟩
 ·refine⟨gg0,hi0,hL1,hK1,Nat.le_refl _,fun i it hi=>it.stable _ _ (hs.hold i it (hs0.lk i it hi)) (Chg.of_below hb1),fun i j it jt hne hi hj=>hs.sep i j it jt hne (hs0.lk i it hi) (hs0.lk j jt hj),
   fun i it hi0 hi=>hs.scope i it hi0 (hs0.lk i it hi),fun i it hi _ b hb=> .inl (hlt i it (hs0.lk i it hi) b hb),fun i it hi ho b hb=> .inl ⟨i,it,hs0.lk i it hi,ho,hb⟩⟩
 ·rintro k x gi hx W Wa ⟨gg,hinv,hl,hd,hsz,hps1⟩ hsW hB hits
  have hl':Wa.heap[w.heap.size+1]? = some (.loop (rec .ready none)):=(hB.block _ O).trans hl
  have hd':Wa.heap[w.heap.size]? = some (.deferred (some [])):=(hB.block _ O).trans hd
  have hy:=run_yield (P:=P) (args:=(ys x gi).toArray) hl' (by rw [hrec];simp [hps])
  have hitsz:∀p∈its x gi,∀b,p.fp b→w.heap.size+2≤b:=fun p hp b hb=>by have:=(hits p hp).2.2 b hb;omega
  have s1:Sat N sc env (HH k gg) { tmps:=a.tmps,defers:=[] } Wa:=(hps1.stays hB).sat hs.size rfl hs.env
  have s2:Sat N sc env (adds 100 (its x gi) (HH k gg)) { tmps:=a.tmps,defers:=[] } Wa:=s1.adds (w1:=Wa) _ _ fun p hpp=>⟨(hits p hpp).1,(hits p hpp).2.1,fun b hb=>hw b (by have:=hitsz p hpp b hb;omega),fun j jt hj ho b hb hb'=>by
   have h1:=(hits p hpp).2.2 b hb
   have h2:=jt.lt W b (hps1.hold j jt hj) hb'
   omega⟩
  have hall:∀j q,lk (adds 100 (its x gi) (HH k gg)) j=some q→(q∈its x gi)∨lk (HH k gg) j=some q:=fun j q h=>Zu9 _ _ _ j q h
  have hpp:∀j q,lk (adds 100 (its x gi) (HH k gg)) j=some q→∀b,q.fp b→q.own=true→Mof w H b:=fun j q hj b hb ho=>by
   rcases hall j q hj with h | h
   ·rw [(hits q h).2.1]at ho;cases ho
   ·exact hps1.mf j q h ho b hb
  have hpp2:∀j q,lk (adds 100 (its x gi) (HH k gg)) j=some q→∀b,q.fp b→q.own=false→b<w.heap.size∨w.heap.size+2≤b:=fun j q hj b hb ho=>by
   rcases hall j q hj with h | h
   ·exact .inr (hitsz q h b hb)
   ·exact hps1.off j q h ho b hb
  have s3:=s2.rounds ps (ys x gi) hpN
  have s4:Sat N sc (renv ps (ys x gi) env) ((92,Xm Wa (Mfs sc w H)) :: adds 100 (its x gi) (HH k gg)) _ Wa:=s3.add 92 (Xm Wa (Mfs sc w H)) (Chg.refl _ _) (fun j jt hne hj Ka b hb hb'=>by
   rcases Ka with h | h
   ·cases h
   ·exact hb.2 (.inl (hpp j jt hj b hb' h))) (fun b hb=>Classical.not_not.1 fun hn=>hb.2 (.inr hn))
  have hlM:¬Mfs sc w H (w.heap.size+1):=fun h=>h.elim hlN (fun hn=>hn (hw _ O))
  have hDM:¬Mfs sc w H w.heap.size:=fun h=>h.elim hDN (fun hn=>hn (hw _ hw0))
  rw [hrec]at hy
  refine⟨fn',_,assign,body,hy,roundIn_of_wpIn hfn ?_⟩
  have hr:=hround k x gi gg hx hinv (w.heap.size+1) (Mfs sc w H) Wa _ Wa s4
  have e3:(ps.toArray.zip (ys x gi).toArray).foldl (fun t (p,v)=>t.setIfInBounds p v) a.tmps=(ps.zip (ys x gi)).foldl (fun t pv=>t.setIfInBounds pv.1 pv.2) a.tmps:=O7
  have hsWa:w.heap.size+2≤Wa.heap.size:=by have:=hB.size;omega
  have hk0:∀(Hn:Hp),Zm0 Hn w0→∀q,lk Hn 0=some q→q.own=false:=fun Hn h q hq=>by rw [h.1]at hq;cases hq;rfl
  rw [show(ps.toArray.zip (ys x gi).toArray).foldl (fun t (x:Nat×Value)=>t.setIfInBounds x.1 x.2) a.tmps=(ps.zip (ys x gi)).foldl (fun t pv=>t.setIfInBounds pv.1 pv.2) a.tmps from e3]
  refine wpIn_mono hr ?_
  rintro e a1 W2 ⟨rfl,env1,H1,h92,hK1',hF1,hs1',hbody⟩
  have hc2:Chg (Mfs sc w H) Wa W2:=hs1'.hold 92 _ (Yb _ _ _)
  have hl2:W2.heap[w.heap.size+1]? = some (.loop (rec .ready none)):=(hc2.block _ O hlM).trans hl'
  have hd2:W2.heap[w.heap.size]? = some (.deferred (some [])):=(hc2.block _ O hDM).trans hd'
  have p1:=hs1'.ps h92 hK1' hsWa hF1 hpp hpp2 hlt
  have hsz2:Wa.heap.size≤W2.heap.size:=hc2.size
  obtain⟨W2b,hW2b⟩:∃W2b,W2.putObj (w.heap.size+1) (.loop { rec .ready none with state:= .busy })=W2b:=⟨_,rfl⟩
  have s2b:Sat N sc env1 ((92,Xm W2b (Mfs sc w H)) :: H1) a1 W2b:=by
   have p2:=hol _ _ p1 (.loop { rec .ready none with state:= .busy })
   rw [hW2b]at p2
   refine(p2.sat hs1'.size hs1'.defers hs1'.env).add 92 (Xm W2b (Mfs sc w H)) (Chg.refl _ _) (fun j jt hne hj Ka b hb hb'=>?_) (fun b hb=>Classical.not_not.1 fun hn=>hb.2 (.inr hn))
   rcases Ka with h | h
   ·cases h
   ·exact hb.2 (.inl (p2.mf j jt hj h b hb'))
  have hsz2b:W2.heap.size=W2b.heap.size:=by rw [←hW2b];simp
  have hl2b:W2b.heap[w.heap.size+1]? = some (.loop { rec .ready none with state:= .busy }):=by rw [←hW2b];exact World.putObj_heap_same O
  have hd2b:W2b.heap[w.heap.size]? = some (.deferred (some [])):=by rw [←hW2b];exact(World.putObj_heap_other O).trans hd2
  refine⟨W2b,by rw [←hW2b];exact run_beginRound hl2 (by rw [hrec]),wpIn_mono (hbody W2b a1 W2b s2b) ?_⟩
  have hfin:∀(Hn:Hp) (env':Qw) (a3:Act) (W3:World),Zm0 Hn w0→FpM Hn (adds 100 (its x gi) (HH k gg))→Sat N sc env' ((92,Xm W2b (Mfs sc w H)) :: Hn) a3 W3→∀(r:Loop),
    W3.heap[w.heap.size+1]? = some (.loop { rec .ready none with state:= .busy })∧(((W3.putObj (w.heap.size+1) (.loop r)).heap[w.heap.size+1]? = some (.loop r)∧(W3.putObj (w.heap.size+1) (.loop r)).heap[w.heap.size]? = some (.deferred (some []))∧
     W1.heap.size≤(W3.putObj (w.heap.size+1) (.loop r)).heap.size∧Kps sc w (Mof w H) Hn (W3.putObj (w.heap.size+1) (.loop r)))∧
     Chg (fun b=>((∃i q,lk H i=some q∧q.own=true∧q.fp b)∨b=w.heap.size+1)∨W1.heap.size≤b) Wa (W3.putObj (w.heap.size+1) (.loop r))):=by
   intro Hn env' a3 W3 hkn hFn hs3 r
   have hc3:Chg (Mfs sc w H) W2b W3:=hs3.hold 92 _ (Yb _ _ _)
   have hl3:=(hc3.block _ O hlM).trans hl2b
   have hd3:=(hc3.block _ O hDM).trans hd2b
   have hsz3:=hc3.size
   have p3:=hs3.ps hkn.2 (hk0 Hn hkn) O hFn hpp hpp2 hlt
   refine⟨hl3,⟨World.putObj_heap_same O,(World.putObj_heap_other O).trans hd3,O8,hol _ _ p3 _⟩,?_⟩
   have k0:(Xm w0 (fun _=>False)).holds Wa:=hps1.stays hB |>.hold 0 _ (hk k gg).1
   have k3:(Xm w0 (fun _=>False)).holds W3:=p3.hold 0 _ hkn.1
   refine⟨?_,?_,?_,O8,fun b hb hn=>?_⟩
   ·exact hc3.os.trans ((by rw [←hW2b];rfl:W2b.os=W2.os).trans hc2.os)
   ·exact hc3.tape.trans ((by rw [←hW2b];rfl:W2b.tape=W2.tape).trans hc2.tape)
   ·exact hc3.output.trans ((by rw [←hW2b];rfl:W2b.output=W2.output).trans hc2.output)
   ·have hbl:b≠w.heap.size+1:=fun e=>hn (.inl (.inr e))
    have hMb:¬Mof w H b:=fun h=>by
     rcases h with h | h
     ·exact hn (.inl (.inl h))
     ·exact hn (.inr O)
    refine(World.putObj_heap_other hbl).trans ?_
    by_cases hsb:sc b
    ·have hMf:¬Mfs sc w H b:=fun h=>h.elim hMb (fun h=>h hsb)
     refine(hc3.block b O hMf).trans ?_
     have:W2b.heap[b]? = W2.heap[b]?:=by rw [←hW2b];exact World.putObj_heap_other hbl
     exact this.trans (hc2.block b hb hMf)
    ·have hb0:b<w0.heap.size:=by
      rcases Nat.lt_or_ge b w0.heap.size with h | h
      ·exact h
      ·exact absurd (hw b h) hsb
     exact(k3.block b hb0 (fun h=>h)).trans (k0.block b hb0 (fun h=>h)).symm
  rintro e a3 W3 (⟨rfl,gg',hi',hF',env',hs3⟩ | ⟨rfl,gx,hi',hF',env',hs3⟩)
  ·obtain⟨hl3,hJ3,hC3⟩:=hfin _ env' a3 W3 (hk (k+1) gg') hF' hs3 (rec .ready none)
   have:=run_endRound (P:=P) none hl3
   rw [show({ ({ rec .ready none with state:= .busy } : Loop)with state:=if(none:Option Code).isNone then LoopState.ready else .done,pending:=none } : Loop)=rec .ready none by rw [hrec];rfl]at this
   exact⟨_,_,this,.inl ⟨rfl,⟨gg',hi',hJ3⟩,hC3⟩⟩
  ·obtain⟨hl3,hJ3,hC3⟩:=hfin _ env' a3 W3 (hkx gx) hF' hs3 (rec .done (some .ret))
   have:=run_endRound (P:=P) (some .ret) hl3
   rw [show({ ({ rec .ready none with state:= .busy } : Loop)with state:=if(some Code.ret).isNone then LoopState.ready else .done,pending:=some .ret } : Loop)=rec .done (some .ret) by rw [hrec];rfl]at this
   exact⟨_,_,this,.inr ⟨rfl,⟨gx,hi',hJ3⟩,hC3⟩⟩
 ·have hnd:∀(Hn:Hp) (W:World),Kps sc w (Mof w H) Hn W→Kps sc w (Mof w H) Hn ((W.putObj (w.heap.size+1) (.loop (rec .exhausted none))).putObj w.heap.size (.deferred none)):=fun Hn W h=>hoD _ _ (hol _ _ h _) _
  rintro e W2 ⟨⟨v,rfl⟩,⟨gg,hinv,hl,hd,hsz,hp2⟩ | ⟨gx,hinv,hl,hd,hsz,hp2⟩⟩
  ·refine⟨none,_,by have:=run_endLoop (P:=P) hl (by rw [hrec];simp);rw [hrec]at this;exact this,?_⟩
   obtain⟨W3,hW3⟩:∃W3,W2.putObj (w.heap.size+1) (.loop (rec .exhausted none))=W3:=⟨_,rfl⟩
   have p3:=hol _ _ hp2 (.loop (rec .exhausted none))
   rw [hW3]at p3
   have hd3:W3.heap[w.heap.size]? = some (.deferred (some [])):=by rw [←hW3];exact(World.putObj_heap_other O).trans hd
   have hsz3:W3.heap.size=W2.heap.size:=by rw [←hW3];simp
   rw [show W2.putObj (w.heap.size+1) (.loop { state:= .exhausted,pending:=none,fn:=fn',tmps:=a.tmps,params:=ps.toArray,assign:=assign,body:=body,defers:=w.heap.size })=W3 by rw [←hW3,hrec]]
   have s3:Sat N sc env (HH xs.length gg) { tmps:=a.tmps,defers:=[] } W3:=p3.sat hs.size rfl hs.env
   have s4:Sat N sc env ((92,fx w.heap.size (.deferred (some []))) :: HH xs.length gg) { tmps:=a.tmps,defers:=[] } W3:=s3.add 92 _ hd3 (fun j jt hne hj Ka b hb hb'=>by
    rcases Ka with h | h
    ·cases h
    ·have hb:b=w.heap.size:=hb
     subst hb
     exact hDN (p3.mf j jt hj h _ hb')) (fun b hb=>hw b (by have hb:b=w.heap.size:=hb;omega))
   rw [hs.defers]
   refine wp_seq (wp_region_lit (Zmt (P:=P) (ops:=lc.toArray) (Q:=Exit.then (Code.ret.wp P (Zfs P fn w0 preF al φ Ye itsF)) (Zfs P fn w0 preF al φ Ye itsF)) (ds:=[{ target:= .collected w.heap.size,args:=#[] }]) lc { tmps:=a.tmps,defers:=[] } W3 hlc ?_))
   refine Kc (fun e a' W' h=>?_) lc _ W3 (hC gg hinv _ _ _ W3 s4)
   cases e with
   | normal=>
    obtain⟨-,env2,H2,h92,hfs,hs5,hx⟩:=h
    refine wp_ret (Zqf (hs5.hold 92 _ (Yb _ _ _)) ?_)
    have hl2:∀i it,lk H2 i=some it→lk ((92,fx w.heap.size (.deferred (some []))) :: H2) i=some it:=fun i it hi=>by
     by_cases h1:92=i
     ·subst h1;rw [h92]at hi;cases hi
     ·rw [Zl _ _ h1];exact hi
    refine hx _ _ ⟨hs5.size,rfl,hs5.env,fun i it hi=>it.stable _ _ (hs5.hold i it (hl2 i it hi)) ⟨rfl,rfl,rfl,O7,fun k hk hn=>World.putObj_heap_other (fun e=>hn fun hf=>?_)⟩,fun i j it jt hne hi hj=>hs5.sep i j it jt hne (hl2 i it hi) (hl2 j jt hj),fun i it hi0 hi=>hs5.scope i it hi0 (hl2 i it hi)⟩
    subst e
    obtain⟨q,hq,hoq,hfq⟩:=hfs.lk i it hi
    cases hqo:q.own with
    | true=>exact hDN (p3.mf i q hq hqo _ (hfq _ hf))
    | false=>rcases p3.off i q hq hqo _ (hfq _ hf)with h | h<;>omega
   | _=>exact h.elim
  ·refine⟨some .ret,_,by have:=run_endLoop (P:=P) hl (by rw [hrec];simp);rw [hrec]at this;exact this,wpIn_ret ?_⟩
   have p3:=hol _ _ hp2 (.loop { rec .done (some .ret)with state:= .exhausted })
   have hd3:(W2.putObj (w.heap.size+1) (.loop { rec .done (some .ret)with state:= .exhausted })).heap[w.heap.size]? = some (.deferred (some [])):=(World.putObj_heap_other O).trans hd
   rw [hrec]at p3 hd3
   rw [hs.defers]
   exact Zqf hd3 (hX gx hinv _ _ ((hoD _ _ p3 _).sat hs.size rfl hs.env))
end Go.Sky
namespace Go.Sky
open Go.RowKit (Below)
variable {P:Program} {N:Nat} {sc:Nat→Prop} {env env':Qw} {H H':Hp} {Q Q':Exit→Act→World→Prop} {M:Nat→Prop}
theorem f_new{w0:World}{p:Pc}(i:Nat)(hi:lk H i=some p)(ho:p.own=true)(h0:lk H 0=some (Xm w0 (fun _=>False)))(hi0:i≠0:=by decide):∀a w,Sat N sc env H a w→∀b,p.fp b→w0.heap.size≤b:=fun a w hs b hb=>by
  rcases Nat.lt_or_ge b w0.heap.size with h | h
  · exact(hs.sep i 0 p _ hi0 hi h0 ho b hb ⟨h,fun h=>h⟩).elim
  · exact h
theorem Zy5 {fn:Func} {pre:List Pc} {G:Type} {φ:G→Prop} {Ye:G→Value} {its:G→List Pc} {w0:World} {e:Exit} (he:e= .ret∨e= .normal)
    (g:G) (v:Value) (hfr:∀p∈its g,∀b,p.fp b→w0.heap.size≤b) (hres:∀a w,Sat N sc env H a w→(results fn a.tmps).run P w= .ok v w) (hv:Ye g=v) (hg:φ g) (h0:lk H 0=some (Xm w0 (fun _=>False))) (hgive:Give H true (its g)) :
    X N sc e (Zbg P fn w0 pre false φ Ye its) env H:=fun a w hs=>by
  have key : a.defers = [] ∧ ∃ v, (results fn a.tmps).run P w = .ok v w ∧ (∃ g, Ending.returned v = .returned (Ye g) ∧ φ g ∧ Below w0.heap.size w0 w ∧
        ∀p∈its g,p.holds w∧p.own=false∧∀b,p.fp b→w0.heap.size≤b∨(false=true∧∃q∈pre,q.fp b)):=by
    refine⟨hs.defers,v,hres a w hs,g,by rw [hv],hg,Ha (hs.hold 0 _ h0),fun p hp=>?_⟩
    obtain⟨ho,h | ⟨h1,h2⟩⟩:=hgive.mem p hp
    case inr=>exact⟨h1 w,ho,fun b hb=>absurd hb (h2 b)⟩
    obtain⟨i,it,hi0,hi,himp,hfp,hal⟩:=h
    exact⟨himp w (hs.hold i it hi),ho,fun b hb=> .inl (hfr p hp b hb)⟩
  rcases he with rfl | rfl
  · exact key
  · exact key
section
variable {f:FuncId} {xs:List Operand} {ats:Array TypeId} {d:Nat} {vs:List Value} {pre:List Pc} {G:Type} {φ:G→Prop} {Ye:G→Value} {its:G→List Pc} {w0:World} {M0:Nat→Prop} {ty:TypeId} {pos:String} {af:Array Edge} {g:Option (Nat×Bool)}
theorem Yfu {o:Oper} {n:Nat} (hc:Cal P f vs.toArray pre false φ Ye its)
    (ho:o.op= .call { callee:= .value (.func f),args:=xs.toArray,argTypes:=ats }) (hd:o.dst=some d) (hN:Nat.blt d N=true)
    (hargs:EvL env xs vs) (hcall:∀args w,(callFunc f args).run P w= .ok (.enter f args) w) (hpre:PreOk H false pre)
    (h0:lk H 0=some (Xm w0 M0)) (hw:∀b,w0.heap.size≤b→sc b) :
    T P N sc M o env H (fun g=>φ g∧∀p∈its g,∀b,p.fp b→w0.heap.size≤b) (fun g=>(d,Ye g) :: env) (fun g=>adds n (its g) H):=fun a w hs K Q hK=>by
  have h9:w0.heap.size≤w.heap.size:=(hs.hold 0 _ h0).size
  have hr:(execOp a.eval o).run P w= .ok (.enter f vs.toArray) w:=by
    have hm:=hargs.map hs
    simp [execOp,ho,resolve,invoke,Act.eval,Deferred.ofValue,hm,hcall]
  unfold Oper.wp
  rw [hr]
  refine(hc w (fun p hp=>by
    obtain⟨i,it,_,hi,himp,_,_⟩:=hpre.mem p hp
    exact himp w (hs.hold i it hi))).mono ?_
  rintro e w' ⟨g,rfl,hg,hbel,hits⟩
  show K (a.put o.dst (Ye g)) w'
  rw [hd]
  have hs':Sat N sc env H a w':=hs.chg0 (Chg.of_below hbel)
  have hnew:∀p∈its g,∀b,p.fp b→w.heap.size≤b:=fun p hp b hb=>by
    rcases(hits p hp).2.2 b hb with h | ⟨h,_⟩
    · exact h
    · cases h
  refine hK g _ _ ⟨hg,fun p hp b hb=>Nat.le_trans h9 (hnew p hp b hb)⟩ (Sat.put (hs'.adds (w1:=w) (its g) n ?_) d _ hN) (Chg.of_below hbel)
  intro p hp
  obtain⟨h1,h2,h3⟩:=hits p hp
  refine⟨h1,h2,fun b hb=>hw b (Nat.le_trans h9 (hnew p hp b hb)),fun j jt hj hown b hb hb'=>?_⟩
  have:=jt.lt w b (hs.hold j jt hj) hb'
  have:=hnew p hp b hb
  omega
theorem Zw8(n:Nat)(ids:List Nat)(hc:Cal P f vs.toArray pre false φ Ye its){G':G→Hp}[hx:EvI env xs vs][hf:CalF P f][hp:PreL P H false ids pre][h0:Som (lk2 H 0) (Xm w0 M0)][hN:TB (ltb d N)][hw:Hw w0 sc][ha:∀g,AddI n (its g) H (G' g)] :
    T P N sc M ⟨some d,.call { callee:= .value (.func f),args:=xs.toArray,argTypes:=ats },ty,pos,af,g⟩ env H (fun g=>φ g∧∀p∈its g,∀b,p.fp b→w0.heap.size≤b) (fun g=>(d,Ye g) :: env) G':=
  (Yfu (n:=n) hc rfl rfl (Og hN.h) hx.h hf.h hp.h h0.l hw.h).conv fun g=>(ha g).h
end
theorem hw_up{w0 W:World}(h:Hw w0 sc)(hW:w0.heap.size≤W.heap.size):Hw W sc:=⟨fun b hb=>h.h b (Nat.le_trans hW hb)⟩
theorem d_min {o:Oper} {x y:Operand} {ats:Array TypeId} {k:IntKind} {m n:Int} (ho:o.op= .call { callee:= .builtin .min,args:=#[x,y],argTypes:=ats })
    (hx:ev env x=some (.int k m)) (hy:ev env y=some (.int k n)):Nt P N sc o env H (.int k (min m n)):=fun a w hs=>by
  simp [execOp,ho,resolve,hs.ev hx,hs.ev hy,invoke,builtin,Builtin.min_,Builtin.min2]
  by_cases h:n<m
  · rw [if_pos h];omega
  · rw [if_neg h];omega
theorem d_lbw {o:Oper} {x:Operand} {t tb:TypeId} {i b k:Nat} {cs:Array Value} (ho:o.op= .load t x) (hx:ev env x=some (.pointer (some ⟨b,0,none⟩))) (hH:lk H i=some (box b tb cs)) (ht:∀w,(isAgg t).run P w= .ok true w) (hk:∀w,(sizeOf t).run P w= .ok k w)
    (hl:cs.size=k):Nt P N sc o env H (.agg cs):=by
  have:=Zv3 (P:=P) (N:=N) (sc:=sc) (vs:=cs.toList) ho hx hH ht hk (by simpa using hl) (fun n u hu=>by rw [Nat.zero_add];simpa using hu)
  simpa using this
end Go.Sky
namespace Go.Sky
abbrev Zri:=(Int×Int×Int)×List Int×List Int×List Int
def unS(g:Zv):Zri:=(g.1,g.2.1.2,g.2.2.1.2,g.2.2.2.2)
abbrev cA (fr:Int) (g:Zv):Int:=max fr g.1.1
abbrev cB (to:Int) (g:Zv):Int:=min to g.1.2.1
abbrev cX (fr to:Int) (g:Zv) (c:List Int):List Int:=Oq c (cA fr g-g.1.1) (cB to g-cA fr g) (g.1.2.1-g.1.1)
abbrev cO (g:Zv):Int:=g.1.2.2*(g.1.2.1-g.1.1)^5
def cG(fr to:Int)(g:Zv):Int:=Ga (cO g) (cX fr to g g.2.1.2) (cX fr to g g.2.2.1.2) (cX fr to g g.2.2.2.2)
def Kt(fr to:Int)(g:Zv):Bool:=decide (cA fr g<cB to g)
def Zja(fr to:Int)(g:Zv):Bool:=decide (cO g/cG fr to g≤4294967296)
def Yd0(fr to:Int)(g:Zv):Zri:=((cA fr g,cB to g,mdO (cO g) (cG fr to g)),mdL (cO g) (cG fr to g) (cX fr to g g.2.1.2),mdL (cO g) (cG fr to g) (cX fr to g g.2.2.1.2),mdL (cO g) (cG fr to g) (cX fr to g g.2.2.2.2))
def MdG(fr to:Int)(g:Zv):Prop:=Mdh (cO g) (cX fr to g g.2.1.2) (cX fr to g g.2.2.1.2) (cX fr to g g.2.2.2.2)
theorem fl_get{ps:List Zv}{p:Zv→Bool}{i:Nat}{d:Zv}(hi:i<ps.length)(hp:p (ps.getD i d)=true):(ps.filter p)[((ps.take i).filter p).length]? = some (ps.getD i d):=by
 have h:=List.take_append_drop i ps
 have h2:ps.drop i=ps.getD i d :: ps.drop (i+1):=by
  rw [List.getD_eq_getElem?_getD,List.getElem?_eq_getElem hi,Option.getD_some]
  exact List.drop_eq_getElem_cons hi
 conv=>lhs;arg 1;rw [←h,h2]
 rw [List.filter_append,List.filter_cons_of_pos hp]
 simp
theorem fl_t{ps:List Zv}{p:Zv→Bool}{i:Nat}{d:Zv}(hi:i<ps.length)(hp:p (ps.getD i d)=true):((ps.take (i+1)).filter p).length=((ps.take i).filter p).length+1:=by
 rw [Po d _ _ hi,List.filter_append,List.filter_cons_of_pos hp,List.length_append];rfl
theorem fl_f{ps:List Zv}{p:Zv→Bool}{i:Nat}{d:Zv}(hi:i<ps.length)(hp:p (ps.getD i d)=false):((ps.take (i+1)).filter p).length=((ps.take i).filter p).length:=by
 rw [Po d _ _ hi,List.filter_append,List.filter_cons_of_neg (by rw [hp];exact Bool.false_ne_true),List.length_append];rfl
theorem Zkv{d:Int}(h:1≤d∧d≤3600000):bl (d^5).natAbs≤132:=Zld (Zjo O) 5 (Nat.le_refl _)
theorem Ydz{W:Nat}{H:Hp}{s1 s2 s3:SL}{l1 l2 l3:List Int}(h:∀p∈[Yh 1 Zx (Xb s1) l1,Yh 1 Zx (Xb s2) l2,Yh 1 Zx (Xb s3) l3],∀b,p.fp b→W≤b)(i:Nat)(h1:lk H i=some (Yh 1 Zx (Xb s1) l1))(h2:lk H (i+1)=some (Yh 1 Zx (Xb s2) l2))(h3:lk H (i+2)=some (Yh 1 Zx (Xb s3) l3)) :
  ∀p∈[Yh 1 Zx (Xb s1) l1,Yh 1 Zx (Xb s2) l2,Yh 1 Zx (Xb s3) l3],p.own=false∧(∀b,p.fp b→W≤b)∧∃i it,lk H i=some it∧∀w,it.holds w→p.holds w:=fun p hp=>by
 have h9:=h p hp
 simp only [List.mem_cons,List.not_mem_nil,or_false]at hp
 rcases hp with rfl | rfl | rfl
 ·exact⟨rfl,h9,_,_,h1,fun _ h=>h⟩
 ·exact⟨rfl,h9,_,_,h2,fun _ h=>h⟩
 ·exact⟨rfl,h9,_,_,h3,fun _ h=>h⟩
theorem cut_b{fr to:Int}{g:Zv}(hg:SgG g)(h:Kt fr to g=true):(cA fr g-g.1.1).natAbs≤3600000∧(cB to g-cA fr g).natAbs≤3600000∧Xx (cA fr g-g.1.1)∧Xx (cB to g-cA fr g):=by
 have h1:=of_decide_eq_true h
 have ht1:=hg.t1
 have ht2:=hg.t2
 have ht3:=hg.t3
 unfold cA cB at *
 exact⟨O,O,⟨O,O⟩,⟨O,O⟩⟩
theorem Yfh:∀n,n<6→∀j,j<n+1→∀k,k<j+1→(Pk n j:Int)*w60 n j k=60*(Pk (n-k) (j-k):Int):=O5
theorem Zco(f:Nat→Int)(a:Int):∀m,Zy (fun k=>a*f k) m=a*Zy f m
 | 0=>by show(0:Int)=a*0;omega
 | m+1=>by rw [Yi,Yi,Zco f a m,Int.mul_add]
theorem Yh5{c:List Int}(hl:1≤c.length∧c.length≤6){j:Nat}(hj:j<c.length):(Pk (c.length-1) j:Int)*ctl c j (j+1)=60*Kl (c.length-1) c j:=by
 unfold ctl Kl
 rw [←Zco,←Zco]
 refine Yu fun k hk=>?_
 have:=Yfh (c.length-1) O j O k O
 show(Pk (c.length-1) j:Int)*(cf c k*w60 (c.length-1) j k)=60*(cf c k*_)
 rw [Int.mul_left_comm,this,Int.mul_left_comm]
theorem Yea{n j:Nat}(h:j<n+1):(0:Int)<(Pk n j:Int):=by have:=Zg5 (n:=n) (k:=j) O;omega
theorem Zwo{c:List Int}(hl:1≤c.length∧c.length≤6){ov:Int} : Zjk c ov=true↔∀j,j<c.length→((Kl (c.length-1) c j).natAbs:Int)≤1048576*ov*(Pk (c.length-1) j:Int):=by
 have key:∀j,j<c.length→((((ctl c j (j+1)).natAbs:Int)≤62914560*ov)↔((Kl (c.length-1) c j).natAbs:Int)≤1048576*ov*(Pk (c.length-1) j:Int)):=fun j hj=>by
  have h1:=Yh5 hl hj
  have h2:=Yea (n:=c.length-1) (j:=j) O
  have h3:=congrArg Int.natAbs h1
  rw [Int.natAbs_mul,Int.natAbs_mul,Int.natAbs_natCast]at h3
  generalize (ctl c j (j+1)).natAbs=x at *
  generalize (Kl (c.length-1) c j).natAbs=y at *
  generalize Pk (c.length-1) j=q at *
  have h4:(q:Int)*(x:Int)=60*(y:Int):=by exact_mod_cast h3
  constructor
  ·intro h
   have h5:=Int.mul_le_mul_of_nonneg_left h (Int.le_of_lt h2)
   rw [h4]at h5
   have h6:(q:Int)*(62914560*ov)=60*(1048576*ov*q):=O4
   omega
  ·intro h
   have h5:60*(y:Int)≤(q:Int)*(62914560*ov):=by
    have h6:(q:Int)*(62914560*ov)=60*(1048576*ov*q):=O4
    omega
   rw [←h4]at h5
   exact Int.le_of_mul_le_mul_left h5 h2
 constructor
 ·intro h j hj
  unfold Zjk at h
  rw [List.all_eq_true]at h
  exact(key j hj).1 (of_decide_eq_true (h j (List.mem_range.2 hj)))
 ·intro h
  exact Ztk fun j hj=>(key j hj).2 (h j hj)
theorem Xk{x b:Int} : ((x.natAbs:Int)≤b)↔(-b≤x∧x≤b):=O
theorem cfb0{M x0:Int}(hM:0≤M)(h0:-(M*1)≤(x0*1)∧(x0*1)≤M*1):(-(2047*M)≤x0∧x0≤2047*M):=O
theorem bre00(c:List Int):Kl 0 c 0=cf c 0*1:=O9
theorem cfb1{M x0 x1:Int}(hM:0≤M)(h0:-(M*1)≤(x0*1)∧(x0*1)≤M*1)(h1:-(M*1)≤(x0*1+x1*1)∧(x0*1+x1*1)≤M*1):(-(2047*M)≤x0∧x0≤2047*M)∧(-(2047*M)≤x1∧x1≤2047*M):=by
 refine⟨⟨?_,?_⟩,⟨?_,?_⟩⟩<;>omega
theorem bre10(c:List Int):Kl 1 c 0=cf c 0*1:=O9
theorem bre11(c:List Int):Kl 1 c 1=cf c 0*1+cf c 1*1:=O9
theorem cfb2{M x0 x1 x2:Int}(hM:0≤M)(h0:-(M*1)≤(x0*1)∧(x0*1)≤M*1)(h1:-(M*2)≤(x0*2+x1*1)∧(x0*2+x1*1)≤M*2)(h2:-(M*1)≤(x0*1+x1*1+x2*1)∧(x0*1+x1*1+x2*1)≤M*1):(-(2047*M)≤x0∧x0≤2047*M)∧(-(2047*M)≤x1∧x1≤2047*M)∧(-(2047*M)≤x2∧x2≤2047*M):=by
 refine⟨⟨?_,?_⟩,⟨?_,?_⟩,⟨?_,?_⟩⟩<;>omega
theorem bre20(c:List Int):Kl 2 c 0=cf c 0*1:=O9
theorem bre21(c:List Int):Kl 2 c 1=cf c 0*2+cf c 1*1:=O9
theorem bre22(c:List Int):Kl 2 c 2=cf c 0*1+cf c 1*1+cf c 2*1:=O9
theorem cfb3{M x0 x1 x2 x3:Int}(hM:0≤M)(h0:-(M*1)≤(x0*1)∧(x0*1)≤M*1)(h1:-(M*3)≤(x0*3+x1*1)∧(x0*3+x1*1)≤M*3)(h2:-(M*3)≤(x0*3+x1*2+x2*1)∧(x0*3+x1*2+x2*1)≤M*3)(h3:-(M*1)≤(x0*1+x1*1+x2*1+x3*1)∧(x0*1+x1*1+x2*1+x3*1)≤M*1):(-(2047*M)≤x0∧x0≤2047*M)∧(-(2047*M)≤x1∧x1≤2047*M)∧(-(2047*M)≤x2∧x2≤2047*M)∧(-(2047*M)≤x3∧x3≤2047*M):=by
 refine⟨⟨?_,?_⟩,⟨?_,?_⟩,⟨?_,?_⟩,⟨?_,?_⟩⟩<;>omega
theorem bre30(c:List Int):Kl 3 c 0=cf c 0*1:=O9
theorem bre31(c:List Int):Kl 3 c 1=cf c 0*3+cf c 1*1:=O9
theorem bre32(c:List Int):Kl 3 c 2=cf c 0*3+cf c 1*2+cf c 2*1:=O9
theorem bre33(c:List Int):Kl 3 c 3=cf c 0*1+cf c 1*1+cf c 2*1+cf c 3*1:=O9
theorem cfb4{M x0 x1 x2 x3 x4:Int}(hM:0≤M)(h0:-(M*1)≤(x0*1)∧(x0*1)≤M*1)(h1:-(M*4)≤(x0*4+x1*1)∧(x0*4+x1*1)≤M*4)(h2:-(M*6)≤(x0*6+x1*3+x2*1)∧(x0*6+x1*3+x2*1)≤M*6)(h3:-(M*4)≤(x0*4+x1*3+x2*2+x3*1)∧(x0*4+x1*3+x2*2+x3*1)≤M*4)(h4:-(M*1)≤(x0*1+x1*1+x2*1+x3*1+x4*1)∧(x0*1+x1*1+x2*1+x3*1+x4*1)≤M*1):(-(2047*M)≤x0∧x0≤2047*M)∧(-(2047*M)≤x1∧x1≤2047*M)∧(-(2047*M)≤x2∧x2≤2047*M)∧(-(2047*M)≤x3∧x3≤2047*M)∧(-(2047*M)≤x4∧x4≤2047*M):=by
 refine⟨⟨?_,?_⟩,⟨?_,?_⟩,⟨?_,?_⟩,⟨?_,?_⟩,⟨?_,?_⟩⟩<;>omega
theorem bre40(c:List Int):Kl 4 c 0=cf c 0*1:=O9
theorem bre41(c:List Int):Kl 4 c 1=cf c 0*4+cf c 1*1:=O9
theorem bre42(c:List Int):Kl 4 c 2=cf c 0*6+cf c 1*3+cf c 2*1:=O9
theorem bre43(c:List Int):Kl 4 c 3=cf c 0*4+cf c 1*3+cf c 2*2+cf c 3*1:=O9
theorem bre44(c:List Int):Kl 4 c 4=cf c 0*1+cf c 1*1+cf c 2*1+cf c 3*1+cf c 4*1:=O9
theorem cfb5{M x0 x1 x2 x3 x4 x5:Int}(hM:0≤M)(h0:-(M*1)≤(x0*1)∧(x0*1)≤M*1)(h1:-(M*5)≤(x0*5+x1*1)∧(x0*5+x1*1)≤M*5)(h2:-(M*10)≤(x0*10+x1*4+x2*1)∧(x0*10+x1*4+x2*1)≤M*10)(h3:-(M*10)≤(x0*10+x1*6+x2*3+x3*1)∧(x0*10+x1*6+x2*3+x3*1)≤M*10)(h4:-(M*5)≤(x0*5+x1*4+x2*3+x3*2+x4*1)∧(x0*5+x1*4+x2*3+x3*2+x4*1)≤M*5)(h5:-(M*1)≤(x0*1+x1*1+x2*1+x3*1+x4*1+x5*1)∧(x0*1+x1*1+x2*1+x3*1+x4*1+x5*1)≤M*1):(-(2047*M)≤x0∧x0≤2047*M)∧(-(2047*M)≤x1∧x1≤2047*M)∧(-(2047*M)≤x2∧x2≤2047*M)∧(-(2047*M)≤x3∧x3≤2047*M)∧(-(2047*M)≤x4∧x4≤2047*M)∧(-(2047*M)≤x5∧x5≤2047*M):=by
 refine⟨⟨?_,?_⟩,⟨?_,?_⟩,⟨?_,?_⟩,⟨?_,?_⟩,⟨?_,?_⟩,⟨?_,?_⟩⟩<;>omega
theorem bre50(c:List Int):Kl 5 c 0=cf c 0*1:=O9
theorem bre51(c:List Int):Kl 5 c 1=cf c 0*5+cf c 1*1:=O9
theorem bre52(c:List Int):Kl 5 c 2=cf c 0*10+cf c 1*4+cf c 2*1:=O9
theorem bre53(c:List Int):Kl 5 c 3=cf c 0*10+cf c 1*6+cf c 2*3+cf c 3*1:=O9
theorem bre54(c:List Int):Kl 5 c 4=cf c 0*5+cf c 1*4+cf c 2*3+cf c 3*2+cf c 4*1:=O9
theorem bre55(c:List Int):Kl 5 c 5=cf c 0*1+cf c 1*1+cf c 2*1+cf c 3*1+cf c 4*1+cf c 5*1:=O9
theorem cf_brS{n:Nat}(hn:n<6){c:List Int}(hl:c.length≤n+1){M:Int}(h:∀j,j<n+1→((Kl n c j).natAbs:Int)≤M*(Pk n j:Int))(k:Nat):((cf c k).natAbs:Int)≤2047*M:=by
 have hM:0≤M:=by
  have h0:=h 0 O
  rw [Zjf]at h0;omega
 by_cases hk:k<n+1
 ·rw [Xk]
  match n,hn with
  | 0,_=>
   have h0:=Xk.1 (h 0 O3)
   rw [bre00,show(Pk 0 0:Int)=1 from rfl]at h0
   have key:=cfb0 hM h0
   obtain rfl:k=0:=O
   exact key
  | 1,_=>
   have h0:=Xk.1 (h 0 O3)
   rw [bre10,show(Pk 1 0:Int)=1 from rfl]at h0
   have h1:=Xk.1 (h 1 O3)
   rw [bre11,show(Pk 1 1:Int)=1 from rfl]at h1
   have key:=cfb1 hM h0 h1
   rcases(show k=0∨k=1 by omega)with rfl | rfl
   ·exact key.1
   ·exact key.2
  | 2,_=>
   have h0:=Xk.1 (h 0 O3)
   rw [bre20,show(Pk 2 0:Int)=1 from rfl]at h0
   have h1:=Xk.1 (h 1 O3)
   rw [bre21,show(Pk 2 1:Int)=2 from rfl]at h1
   have h2:=Xk.1 (h 2 O3)
   rw [bre22,show(Pk 2 2:Int)=1 from rfl]at h2
   have key:=cfb2 hM h0 h1 h2
   rcases(show k=0∨k=1∨k=2 by omega)with rfl | rfl | rfl
   ·exact key.1
   ·exact key.2.1
   ·exact key.2.2
  | 3,_=>
   have h0:=Xk.1 (h 0 O3)
   rw [bre30,show(Pk 3 0:Int)=1 from rfl]at h0
   have h1:=Xk.1 (h 1 O3)
   rw [bre31,show(Pk 3 1:Int)=3 from rfl]at h1
   have h2:=Xk.1 (h 2 O3)
   rw [bre32,show(Pk 3 2:Int)=3 from rfl]at h2
   have h3:=Xk.1 (h 3 O3)
   rw [bre33,show(Pk 3 3:Int)=1 from rfl]at h3
   have key:=cfb3 hM h0 h1 h2 h3
   rcases(show k=0∨k=1∨k=2∨k=3 by omega)with rfl | rfl | rfl | rfl
   ·exact key.1
   ·exact key.2.1
   ·exact key.2.2.1
   ·exact key.2.2.2
  | 4,_=>
   have h0:=Xk.1 (h 0 O3)
   rw [bre40,show(Pk 4 0:Int)=1 from rfl]at h0
   have h1:=Xk.1 (h 1 O3)
   rw [bre41,show(Pk 4 1:Int)=4 from rfl]at h1
   have h2:=Xk.1 (h 2 O3)
   rw [bre42,show(Pk 4 2:Int)=6 from rfl]at h2
   have h3:=Xk.1 (h 3 O3)
   rw [bre43,show(Pk 4 3:Int)=4 from rfl]at h3
   have h4:=Xk.1 (h 4 O3)
   rw [bre44,show(Pk 4 4:Int)=1 from rfl]at h4
   have key:=cfb4 hM h0 h1 h2 h3 h4
   rcases(show k=0∨k=1∨k=2∨k=3∨k=4 by omega)with rfl | rfl | rfl | rfl | rfl
   ·exact key.1
   ·exact key.2.1
   ·exact key.2.2.1
   ·exact key.2.2.2.1
   ·exact key.2.2.2.2
  | 5,_=>
   have h0:=Xk.1 (h 0 O3)
   rw [bre50,show(Pk 5 0:Int)=1 from rfl]at h0
   have h1:=Xk.1 (h 1 O3)
   rw [bre51,show(Pk 5 1:Int)=5 from rfl]at h1
   have h2:=Xk.1 (h 2 O3)
   rw [bre52,show(Pk 5 2:Int)=10 from rfl]at h2
   have h3:=Xk.1 (h 3 O3)
   rw [bre53,show(Pk 5 3:Int)=10 from rfl]at h3
   have h4:=Xk.1 (h 4 O3)
   rw [bre54,show(Pk 5 4:Int)=5 from rfl]at h4
   have h5:=Xk.1 (h 5 O3)
   rw [bre55,show(Pk 5 5:Int)=1 from rfl]at h5
   have key:=cfb5 hM h0 h1 h2 h3 h4 h5
   rcases(show k=0∨k=1∨k=2∨k=3∨k=4∨k=5 by omega)with rfl | rfl | rfl | rfl | rfl | rfl
   ·exact key.1
   ·exact key.2.1
   ·exact key.2.2.1
   ·exact key.2.2.2.1
   ·exact key.2.2.2.2.1
   ·exact key.2.2.2.2.2
 ·rw [Yl O];simp;omega
structure AxC (c:List Int) (ov:Int):Prop where
 l:1≤c.length∧c.length≤6
 t:¬(1<c.length∧c.getD (c.length-1) 0=0)
 b:∀j,j<c.length→((Kl (c.length-1) c j).natAbs:Int)≤1048576*ov*(Pk (c.length-1) j:Int)
theorem AxC.of{c:List Int}{ov:Int}(h:axB c ov=true):AxC c ov:=by
 unfold axB at h
 simp only [Bool.and_eq_true,Bool.not_eq_true',Bool.and_eq_false_iff,decide_eq_true_eq,decide_eq_false_iff_not]at h
 have hl:1≤c.length∧c.length≤6:=⟨h.1.1.1,h.1.1.2⟩
 exact⟨hl,fun h9=>by rcases h.1.2 with h8 | h8;exact h8 h9.1;exact h8 h9.2,(Zwo hl).1 h.2⟩
theorem AxC.to{c:List Int}{ov:Int}(h:AxC c ov):axB c ov=true:=Zwy h.l.1 h.l.2 h.t ((Zwo h.l).2 h.b)
theorem tzl_nz{c:List Int}(hz:c.getD (c.length-1) 0≠0):tzl c=c:=Ai (.inr hz)
theorem ax_tzl{c:List Int}{ov:Int}(h:AxC c ov):(tzl c=c)∨c=[0]:=by
 by_cases hz:c.getD (c.length-1) 0=0
 ·have hl:c.length=1:=by
   have h1:=h.l
   have h2:=h.t
   by_cases h3:1<c.length
   ·exact absurd ⟨h3,hz⟩ h2
   ·omega
  right
  match c,hl with
  | [x],_=>simp at hz;rw [hz]
 ·exact .inl (tzl_nz hz)
theorem Zdw{c:List Int}{ov:Int}(h:AxC c ov){a b d:Int}{t u:Rat}(ht:t*(d:Rat)=(a:Rat)+(b:Rat)*u):Zb (Oq c a b d) u=(d:Rat)^5*Zb c t:=by
 unfold Oq
 rw [Zcv]
 rcases ax_tzl h with e | e
 ·have hl:=h.l
  rw [e,Zh2 a b d ht O,Zbc]
  have:(d:Rat)^5=(d:Rat)^(6-c.length)*(d:Rat)^(c.length-1):=by rw [←Zw1];congr 1;omega
  rw [this];grind
 ·subst e
  rw [show tzl [0]=[]from by decide,show Lt [] a b d=[]from rfl]
  show _*(0:Rat)=_*(((0:Int):Rat)+t*0)
  push_cast;grind
theorem Zee{c:List Int}(a b d:Int):(Oq c a b d).length≤c.length:=Nat.le_trans (Pt _ _) (Nat.le_trans (Zc2 _ _ _ _) (Ko c))
theorem Zwn{c:List Int}{ov:Int}(h:AxC c ov){a b d:Int}(ha:0≤a)(hb:0≤b)(hab:a+b≤d)(hd:0<d):∀j,j<c.length→((Kl (c.length-1) (Oq c a b d) j).natAbs:Int)≤1048576*(ov*d^5)*(Pk (c.length-1) j:Int):=fun j hj=>by
 have hl:=h.l
 have h1:=Zee (c:=c) a b d
 have:=Yiy (c:=c) (X:=Oq c a b d) (n:=c.length-1) (m:=5) (B:=1048576*ov) O O ha hb hab hd (fun t u ht=>Zdw h ht) (fun j hj=>h.b j O) j O
 rw [Int.mul_assoc]at this
 rw [Int.mul_assoc]
 rw [Int.mul_assoc,←Int.mul_assoc ov]at this
 exact this
theorem cf_cmp{c:List Int}{ov:Int}(h:AxC c ov){a b d:Int}(ha:0≤a)(hb:0≤b)(hab:a+b≤d)(hd:0<d)(k:Nat):((cf (Oq c a b d) k).natAbs:Int)≤ov*d^5*2146435072:=by
 have hl:=h.l
 have h1:=Zee (c:=c) a b d
 have:=cf_brS (n:=c.length-1) O (c:=Oq c a b d) O (M:=1048576*(ov*d^5)) (fun j hj=>Zwn h ha hb hab hd j O) k
 omega
theorem Yaj{g:Zv}(h:seB g=true):AxC g.2.1.2 g.1.2.2∧AxC g.2.2.1.2 g.1.2.2∧AxC g.2.2.2.2 g.1.2.2:=by
 have h':Kr g.1.1 g.1.2.1 g.1.2.2 g.2.1.2 g.2.2.1.2 g.2.2.2.2=true:=h
 unfold Kr at h'
 simp only [Bool.and_eq_true]at h'
 exact⟨.of h'.1.1.1.2,.of h'.1.1.2,.of h'.1.2⟩
theorem Ydy{fr to:Int}{g:Zv}(hg:SgG g)(h:Kt fr to g=true):0≤cA fr g-g.1.1∧0<cB to g-cA fr g∧(cA fr g-g.1.1)+(cB to g-cA fr g)≤g.1.2.1-g.1.1∧0<g.1.2.1-g.1.1:=by
 have h1:=of_decide_eq_true h
 have ht1:=hg.t1
 have ht2:=hg.t2
 unfold cA cB at *
 exact⟨O,O,O,O⟩
theorem Yb2{fr to:Int}{g:Zv}(hi:Gin g)(hs:seB g=true)(h:Kt fr to g=true):MdG fr to g:=by
 have hg:SgG g:=Cz hi hs
 obtain⟨a1,a2,a3⟩:=Yaj hs
 obtain⟨c1,c2,c3,c4⟩:=Ydy hg h
 obtain⟨b1,b2,-,-⟩:=cut_b hg h
 have ht3:=hg.t3
 have ht1:=hg.t1
 have ho1:=hg.o1
 have ho2:=hg.o2
 have hdd:1≤g.1.2.1-g.1.1∧g.1.2.1-g.1.1≤3600000:=⟨O,O⟩
 have k1:=Znp hg.hx hg.lx b1 b2 hdd
 have k2:=Znp hg.hy hg.ly b1 b2 hdd
 have k3:=Znp hg.hz hg.lz b1 b2 hdd
 have hpos:0<cO g:=Int.mul_pos O (Int.pow_pos O)
 have habs:((cO g).natAbs:Int)=cO g:=O
 have hcf:∀{c:List Int},AxC c g.1.2.2→∀k,(cf (cX fr to g c) k).natAbs≤(cO g).natAbs*2146435072:=fun hc k=>by
  have:=cf_cmp hc c1 (Int.le_of_lt c2) c3 c4 k
  have e:(((cO g).natAbs*2146435072:Nat):Int)=cO g*2146435072:=by rw [Int.natCast_mul,habs];rfl
  refine Int.ofNat_le.1 ?_
  rw [e]
  exact this
 refine⟨hpos,?_,fun i=>?_,fun i=>?_,fun i k=>?_⟩
 ·have h1:bl g.1.2.2.natAbs≤40:=(Xw 40 _).2 O
  have h2:=Zkv hdd
  have:=Xa g.1.2.2 ((g.1.2.1-g.1.1)^5)
  show bl (g.1.2.2*(g.1.2.1-g.1.1)^5).natAbs≤1000
  omega
 ·exact Dr (p:=fun l:List Int=>Sz 1000 l) k1.2.2.2.2.2.2.1 k2.2.2.2.2.2.2.1 k3.2.2.2.2.2.2.1
 ·exact Dr (p:=fun l:List Int=>l.length≤6) k1.2.2.2.2.2.2.2 k2.2.2.2.2.2.2.2 k3.2.2.2.2.2.2.2
 ·exact Dr (p:=fun l:List Int=>(cf l k).natAbs≤(cO g).natAbs*2146435072) (hcf a1 k) (hcf a2 k) (hcf a3 k)
open Go.RowKit (Below)
variable {P:Program} {N:Nat} {sc:Nat→Prop} {env env':Qw} {H H':Hp} {Q Q':Exit→Act→World→Prop} {l:Nat}
def ER(P:Program)(N:Nat)(sc:Nat→Prop)(l:Nat)(c:Code)(Q:Exit→Act→World→Prop)(env:Qw)(H:Hp):Prop:=
 ∀a w,Sat N sc env H a w→c.wpIn (Fence.wide.inRound l) 0 P Q a w
def ndB(o:Oper):Bool:=match o.op with
 | .defer _=>false
 | _=>true
theorem Zk1{ops:List Oper}(h:ops.all ndB=true):Zmm ops:=fun o ho c hc=>by
 have:=List.all_eq_true.1 h o ho
 unfold ndB at this
 rw [hc]at this;cases this
theorem Zs0{id:Nat}{ops:List Oper}{y:Code}(hnd:ops.all ndB=true)(h:L P N sc ops.toArray ops (Fb (Exit.then (fun a w=>y.wpIn (Fence.wide.inRound l) 0 P Q a w) Q)) env H):ER P N sc l (.seq (.region id ops.toArray false) y) Q env H:=
 fun a w hs=>wpIn_seq (Yax (Zk1 hnd) h hs)
theorem Zvq{id:Nat}{ops:List Oper}(hnd:ops.all ndB=true)(h:L P N sc ops.toArray ops (Fb Q) env H):ER P N sc l (.region id ops.toArray false) Q env H:=
 fun a w hs=>Yax (Zk1 hnd) h hs
theorem x_er{y:Code}(h:ER P N sc l y Q env H):X N sc .normal (Fb (Exit.then (fun a w=>y.wpIn (Fence.wide.inRound l) 0 P Q a w) Q)) env H:=fun a w hs=>h a w hs
theorem x_en(h:∀a w,Sat N sc env H a w→Q .normal a w):X N sc .normal (Fb Q) env H:=fun a w hs=>h a w hs
theorem er_seq{x y:Code}(h:ER P N sc l x (Exit.then (fun a w=>y.wpIn (Fence.wide.inRound l) 0 P Q a w) Q) env H):ER P N sc l (.seq x y) Q env H:=fun a w hs=>wpIn_seq (h a w hs)
theorem Yc7{id:Nat}{c:Code}(h:ER P N sc l c (Exit.inBlock id Q) env H):ER P N sc l (.block id c) Q env H:=fun a w hs=>wpIn_block (h a w hs)
theorem Yc6{c:Operand}{x y:Code}{b:Bool}(hc:ev env c=some (.bool b))(ht:b=true→ER P N sc l x Q env H)(hf:b=false→ER P N sc l y Q env H):ER P N sc l (.cond c x y) Q env H:=fun a w hs=>by
 cases b with
 | true=>exact wpIn_cond_true (hs.ev hc) (ht rfl a w hs)
 | false=>exact wpIn_cond_false (hs.ev hc) (hf rfl a w hs)
theorem Yhp(h:∀a w,Sat N sc env H a w→Q .normal a w):ER P N sc l .skip Q env H:=fun a w hs=>wpIn_skip (h a w hs)
theorem er_ret(h:∀a w,Sat N sc env H a w→Q .ret a w):ER P N sc l .ret Q env H:=fun a w hs=>wpIn_ret (h a w hs)
theorem er_imp(himp:∀a w,Sat N sc env H a w→Sat N sc env' H' a w){c:Code}(h:ER P N sc l c Q env' H'):ER P N sc l c Q env H:=fun a w hs=>h a w (himp a w hs)
theorem Zdt{β:Type}(i k:Nat)(enc:β→Value)(q:β→Pc):∀a w,Sat N sc env H a w→Sat N sc env ((i,Pz k enc q (.slice none 0 0) []) :: H) a w:=fun a w hs=>
 hs.add i _ ⟨Zbu k enc w,fun z hz=>by cases hz⟩ (fun j' jt _ _ Ka b hb hb'=>by
  rcases hb with hb | ⟨z,hz,_⟩
  ·exact absurd rfl hb.1
  ·cases hz) (fun b hb=>by
  rcases hb with hb | ⟨z,hz,_⟩
  ·exact absurd rfl hb.1
  ·cases hz)
theorem Ycu{Hall:Hp}{zs:List Zv}{g:Zv}(i j:Nat)(h0:lk Hall i=some (Ia qG zs))(h1:lk Hall j=some (Yh 1 Zx (Xb g.2.1.1) g.2.1.2))(h2:lk Hall (j+1)=some (Yh 1 Zx (Xb g.2.2.1.1) g.2.2.1.2))(h3:lk Hall (j+2)=some (Yh 1 Zx (Xb g.2.2.2.1) g.2.2.2.2)) :
  ∀b,(Ia qG (zs ++ [g])).fp b→∃j q,lk Hall j=some q∧q.fp b:=fun b ⟨z,hz,hb⟩=>by
 rcases List.mem_append.1 hz with q | q
 ·exact⟨i,_,h0,z,q,hb⟩
 ·rw [List.mem_singleton.1 q]at hb
  obtain⟨c,hc,hb⟩:=hb
  simp only [List.mem_cons,List.not_mem_nil,or_false]at hc
  rcases hc with rfl | rfl | rfl
  ·exact⟨j,_,h1,hb⟩
  ·exact⟨j+1,_,h2,hb⟩
  ·exact⟨j+2,_,h3,hb⟩
end Go.Sky
namespace Go.Sky
theorem Zsu(u0 u1 u2 u3 u4 u5 a0 a1 a2 a3 a4 a5:Value):Instr.fill (fun i=>some (i*6,6)) ((List.range (1*6)).map ((Value.agg #[u0,u1,u2,u3,u4,u5]).cells[· % (Value.agg #[u0,u1,u2,u3,u4,u5]).cells.size]!)).toArray [(0,.agg #[a0,a1,a2,a3,a4,a5])]=some #[a0,a1,a2,a3,a4,a5]:=by
 simp [Instr.fill,Value.cells,List.range,List.range.loop]
 try rfl
theorem Zst(u0 u1 u2 u3 u4 u5 a0 a1 a2 a3 a4 a5 b0 b1 b2 b3 b4 b5:Value):Instr.fill (fun i=>some (i*6,6)) ((List.range (2*6)).map ((Value.agg #[u0,u1,u2,u3,u4,u5]).cells[· % (Value.agg #[u0,u1,u2,u3,u4,u5]).cells.size]!)).toArray [(0,.agg #[a0,a1,a2,a3,a4,a5]),(1,.agg #[b0,b1,b2,b3,b4,b5])]=some #[a0,a1,a2,a3,a4,a5,b0,b1,b2,b3,b4,b5]:=by
 simp [Instr.fill,Value.cells,List.range,List.range.loop]
 try rfl
def Py(fr to:Int)(ps:List Zv):Bool:=(ps.filter (Kt fr to)).all (Zja fr to)
def Zca(fr to:Int)(ps:List Zv):List Zri:=if Py fr to ps=true then(ps.filter (Kt fr to)).map (Yd0 fr to)else []
def Zta(fr to:Int)(ps:List Zv):Int:=if Py fr to ps=true then 0 else 7
def Zry(fr to:Int)(x:Zv)(g:SL×SL×SL):Zv:=((cA fr x,cB to x,mdO (cO x) (cG fr to x)),(g.1,mdL (cO x) (cG fr to x) (cX fr to x x.2.1.2)),(g.2.1,mdL (cO x) (cG fr to x) (cX fr to x x.2.2.1.2)),(g.2.2,mdL (cO x) (cG fr to x) (cX fr to x x.2.2.2.2)))
def Zyr(fr to:Int)(ps:List Zv)(k:Nat)(zs:List Zv):Prop:=zs.map unS=((ps.filter (Kt fr to)).take k).map (Yd0 fr to)∧((ps.filter (Kt fr to)).take k).all (Zja fr to)=true
theorem Zlm{α:Type}{xs:List α}{k:Nat}{x:α}(h:xs[k]? = some x):xs.take (k+1)=xs.take k ++ [x]:=by
 rw [List.take_add_one,h];rfl
theorem cutI_0(fr to:Int)(ps:List Zv):Zyr fr to ps 0 []:=⟨by rw [List.take_zero];rfl,by rw [List.take_zero];rfl⟩
theorem cutI_s{fr to:Int}{ps zs:List Zv}{k:Nat}{x:Zv}{g:SL×SL×SL}(h:Zyr fr to ps k zs)(hx:(ps.filter (Kt fr to))[k]? = some x)(hk:Zja fr to x=true):Zyr fr to ps (k+1) (zs ++ [Zry fr to x g]):=by
 obtain⟨h1,h2⟩:=h
 refine⟨?_,?_⟩
 ·rw [Zlm hx,List.map_append,List.map_append,h1];rfl
 ·rw [Zlm hx,List.all_append,h2];simp [hk]
theorem cutI_l{fr to:Int}{ps zs:List Zv}{k:Nat}(h:Zyr fr to ps k zs)(hk:k≤ps.length):zs.length≤ps.length:=by
 have:=congrArg List.length h.1
 rw [List.length_map,List.length_map,List.length_take]at this
 have:=List.length_filter_le (Kt fr to) ps
 omega
theorem cut_no{fr to:Int}{ps:List Zv}{k:Nat}{x:Zv}(hx:(ps.filter (Kt fr to))[k]? = some x)(hk:Zja fr to x=false):Py fr to ps=false:=by
 unfold Py
 cases hb:(ps.filter (Kt fr to)).all (Zja fr to)with
 | false=>rfl
 | true=>
  have:=List.all_eq_true.1 hb x (List.mem_of_getElem? hx)
  rw [hk]at this;cases this
theorem cutI_e{fr to:Int}{ps zs:List Zv}(h:Zyr fr to ps (ps.filter (Kt fr to)).length zs):zs.map unS=Zca fr to ps∧Zta fr to ps=0:=by
 obtain⟨h1,h2⟩:=h
 rw [List.take_length]at h1 h2
 exact⟨by unfold Zca Py;rw [if_pos h2];exact h1,by unfold Zta Py;rw [if_pos h2]⟩
theorem cut_f{fr to:Int}{ps:List Zv}(h:Py fr to ps=false):([]:List Zv).map unS=Zca fr to ps∧Zta fr to ps=7:=by
 unfold Zca Zta
 rw [if_neg (by rw [h];exact Bool.false_ne_true),if_neg (by rw [h];exact Bool.false_ne_true)]
 exact⟨rfl,rfl⟩
def spF(ps:List Zv):Int:=(ps.getD 0 G0).1.1
def spL(ps:List Zv):Int:=(ps.getD (ps.length-1) G0).1.2.1
theorem Yhb{c:List Int}{ov:Int}(h:AxC c ov)(hz:c.getD (c.length-1) 0≠0){a b d:Int}(hb:0<b)(hd:0<d):(Oq c a b d).length=c.length:=by
  have hl:=h.l
  have hle:=Zee (c:=c) a b d
  rcases Nat.lt_or_ge (Oq c a b d).length c.length with q | q
  · exfalso
    have hbq : (b : Rat) ≠ 0 := by have : (0 : Rat) < (b : Rat) := by exact_mod_cast hb
                                   grind
    have hdq : (d : Rat) ≠ 0 := by have : (0 : Rat) < (d : Rat) := by exact_mod_cast hd
                                   grind
    have hu:∀t:Rat,t*(d:Rat)=(a:Rat)+(b:Rat)*((t*d-a)/b):=fun t=>O4
    by_cases h0:(Oq c a b d).length=0
    · have e0:=List.eq_nil_of_length_eq_zero h0
      have:∀t:Rat,Zb c t=0:=fun t=>by
        have h1:=Zdw h (hu t)
        rw [e0]at h1
        have h2:(d:Rat)^5*Zb c t=0:=h1.symm
        have h3:(d:Rat)^5≠0:=by
          rw [show(d:Rat)^5=d*d*d*d*d by rw [Rat.pow_succ,Rat.pow_succ,Rat.pow_succ,Rat.pow_succ,Rat.pow_succ,Rat.pow_zero];grind]
          grind
        grind
      exact hz (Zly this _)
    · have key:∀t:Rat,Zb ((Lt (Oq c a b d) (-a) d b).map fun q=>1*q) t=Zb (c.map fun q=>b^((Oq c a b d).length-1)*d^5*q) t:=fun t=>by
        rw [Ze,Ze]
        have h1:=Zdw h (hu t)
        have h2:=Zh2 (p:=Oq c a b d) (-a) d b (t:=(t*d-a)/b) (u:=t) (by push_cast;grind) h0
        rw [h2,h1]
        push_cast
        rw [←Zbc,←Zbc];push_cast;grind
      have h1:=Od key (c.length-1)
      rw [Fv,Fv,Yl (by have:=Zc2 (Oq c a b d) (-a) d b;omega)]at h1
      have h2:b^((Oq c a b d).length-1)*d^5≠0:=Int.mul_ne_zero (Int.pow_ne_zero O) (Int.pow_ne_zero O)
      have h3:b^((Oq c a b d).length-1)*d^5*cf c (c.length-1)=0:=O
      rcases Int.mul_eq_zero.1 h3 with q | q
      · exact h2 q
      · exact hz q
  · omega
theorem Ztg{X:List Int}{G:Int}(hG:0<G)(hd:∀x∈X,G∣x)(i:Nat):cf (Db X G) i*G=cf X i:=by
  unfold Db
  split
  · rename_i h
    rw [List.eq_nil_of_length_eq_zero h]
    match i with
    | 0=>show(0:Int)*G=cf [] 0;rw [Int.zero_mul];rfl
    | i+1=>show(0:Int)*G=cf [] (i+1);rw [Int.zero_mul];rfl
  · rw [Za9 _ _ O7]
    by_cases hi:i<X.length
    · have:cf X i∈X:=Zj hi
      exact Int.ediv_mul_cancel (hd _ this)
    · rw [Yl O];simp
theorem Ygh{X:List Int}{G:Int}(hG:0<G)(hd:∀x∈X,G∣x)(u:Rat):Zb (Db X G) u*(G:Rat)=Zb X u:=by
  rw [Rat.mul_comm,←Ze]
  exact On u _ _ fun i=>by rw [Fv,Int.mul_comm,Ztg hG hd]
theorem Zfw(f g:Nat→Int)(a:Int)(h:∀k,f k*a=g k):∀m,Zy f m*a=Zy g m
  | 0=>Int.zero_mul _
  | m+1=>by rw [Yi,Yi,Int.add_mul,Zfw f g a h m,h]
theorem Yix{X:List Int}{G:Int}(hG:0<G)(hd:∀x∈X,G∣x)(n j:Nat):Kl n (Db X G) j*G=Kl n X j:=by
  unfold Kl
  exact Zfw _ _ _ (fun k=>by rw [Int.mul_right_comm,Ztg hG hd]) _
theorem Yha(X:List Int)(G:Int):(Db X G).length=max X.length 1:=by
  unfold Db;split
  · rename_i h;rw [h];rfl
  · rw [List.length_map];omega
theorem Ztt{c:List Int}{ov:Int}(h:AxC c ov){a b d G o:Int}(ha:0≤a)(hb:0<b)(hab:a+b≤d)(hd:0<d)(hG:0<G)(hv:∀x∈Oq c a b d,G∣x)(ho:o*G=ov*d^5):AxC (Db (Oq c a b d) G) o∧(Db (Oq c a b d) G).length=c.length:=by
  have hl:=h.l
  have hlen:(Db (Oq c a b d) G).length=c.length∧(1<c.length→(Oq c a b d).length=c.length):=by
    rw [Yha]
    by_cases hz:c.getD (c.length-1) 0=0
    · have:=h.t
      have hle:=Zee (c:=c) a b d
      have h1:c.length=1:=by
        by_cases h3:1<c.length
        · exact absurd ⟨h3,hz⟩ this
        · omega
      exact⟨O,fun h3=>O⟩
    · have:=Yhb h hz (a:=a) hb hd
      exact⟨O,fun _=>this⟩
  refine⟨⟨O,fun⟨h1,h2⟩=>?_,fun j hj=>?_⟩,hlen.1⟩
  · rw [hlen.1]at h1 h2
    have h3:cf (Db (Oq c a b d) G) (c.length-1)=0:=h2
    have h4:=Ztg hG hv (c.length-1)
    rw [h3,Int.zero_mul]at h4
    have h5:=hlen.2 h1
    have ht:Tr (Oq c a b d):=Xq _ _
    have h6:=ht.mem (fun e=>by rw [e]at h5;simp at h5;omega)
    rw [h5]at h6
    exact h6 h4.symm
  · rw [hlen.1]at hj ⊢
    have h1:=Zwn h ha (Int.le_of_lt hb) hab hd j hj
    rw [←Yix hG hv,←ho,Int.natAbs_mul]at h1
    have e1:((G.natAbs:Nat):Int)=G:=O
    push_cast at h1
    rw [e1]at h1
    refine Int.le_of_mul_le_mul_right (a:=G) ?_ hG
    refine Int.le_trans h1 (Int.le_of_eq ?_)
    grind
theorem Zqd{G:Int}(hG:0<G):∀(l:List Int) (o:Int),Nc (G*o) (l.map (G*·))=G*Nc o l
 | [],o=>rfl
 | x :: l,o=>by
  show Nc ((Int.gcd (G*o) (G*x):Nat):Int) (l.map (G*·))=G*Nc ((Int.gcd o x:Nat):Int) l
  rw [Int.gcd_mul_left]
  push_cast
  rw [show((G.natAbs:Nat):Int)=G by omega]
  exact Zqd hG l _
theorem Ziy{X:List Int}{G o:Int}(hG:0<G)(hd:∀x∈X,G∣x)(ho:0≤o):Nc o ((Db X G).map (G*·))=Nc o X:=by
 unfold Db
 split
 ·rename_i h
  rw [List.eq_nil_of_length_eq_zero h]
  show((Int.gcd o (G*0):Nat):Int)=o
  rw [Int.mul_zero,Int.gcd_zero_right];omega
 ·congr 1
  rw [List.map_map]
  conv=>rhs;rw [←List.map_id X]
  refine List.map_congr_left fun x hx=>?_
  show G*(x/G)=x
  exact Int.mul_ediv_cancel' (hd x hx)
theorem Yhl{X Y Z:List Int}{o o':Int}(ho:0<o)(hG:0<Ga o X Y Z)(hX:∀x∈X,Ga o X Y Z∣x)(hY:∀x∈Y,Ga o X Y Z∣x)(hZ:∀x∈Z,Ga o X Y Z∣x)(ho':Ga o X Y Z*o'=o) :
  Nc o' (Db X (Ga o X Y Z) ++ Db Y (Ga o X Y Z) ++ Db Z (Ga o X Y Z))=1:=by
 have h1:=Zqd hG (Db X (Ga o X Y Z) ++ Db Y (Ga o X Y Z) ++ Db Z (Ga o X Y Z)) o'
 rw [ho',List.map_append,List.map_append,Ig,Ig,Ziy hG hX (Int.le_of_lt ho),Ziy hG hY (Zef _ _ (Int.le_of_lt ho)),Ziy hG hZ (Zef _ _ (Zef _ _ (Int.le_of_lt ho)))]at h1
 have h2:Ga o X Y Z=Nc (Nc (Nc o X) Y) Z:=by
  show Nc o (X ++ Y ++ Z)=_
  rw [Ig,Ig]
 rw [←h2]at h1
 generalize Nc o' _=r at *
 have h3:Ga o X Y Z*r=Ga o X Y Z*1:=O
 exact Int.eq_of_mul_eq_mul_left O h3
structure Prt (q g:Zv) (G:Int):Prop where
 g0:0<G
 a0:0≤q.1.1-g.1.1
 b0:0<q.1.2.1-q.1.1
 ab:(q.1.1-g.1.1)+(q.1.2.1-q.1.1)≤g.1.2.1-g.1.1
 o:q.1.2.2*G=g.1.2.2*(g.1.2.1-g.1.1)^5
 x:∀i (t u:Rat),t*((g.1.2.1-g.1.1:Int):Rat)=((q.1.1-g.1.1:Int):Rat)+((q.1.2.1-q.1.1:Int):Rat)*u→Zb (Zp i q.2.1.2 q.2.2.1.2 q.2.2.2.2) u*(G:Rat)=((g.1.2.1-g.1.1:Int):Rat)^5*Zb (Zp i g.2.1.2 g.2.2.1.2 g.2.2.2.2) t
theorem Zsr{X:List Int}{G:Int}(h:∀k,(X.getD k 0/G).natAbs≤9223372036854775807):∀a∈Db X G,Xx a:=fun a ha=>by
 unfold Db at ha
 split at ha
 ·rw [List.mem_singleton.1 ha];exact⟨O3,O3⟩
 ·obtain⟨x,hx,rfl⟩:=List.mem_map.1 ha
  obtain⟨k,hk⟩:=List.mem_iff_getElem?.1 hx
  have:=h k
  rw [List.getD_eq_getElem?_getD,hk]at this
  simp only [Option.getD_some]at this
  exact⟨O,O⟩
theorem Zl8{c:List Int}{ov a b d G:Int}{t u:Rat}(hc:AxC c ov)(hG:0<G)(hv:∀x∈Oq c a b d,G∣x)(h:t*(d:Rat)=(a:Rat)+(b:Rat)*u):Zb (Db (Oq c a b d) G) u*(G:Rat)=(d:Rat)^5*Zb c t:=by
 rw [Ygh hG hv];exact Zdw hc h
theorem Yh3{fr to:Int}{g q:Zv}(hi:Gin g)(hs:seB g=true)(hp:Kt fr to g=true)(hk:Zja fr to g=true)(hu:unS q=Yd0 fr to g):Gin q∧seB q=true∧Prt q g (cG fr to g):=by
 have hg:SgG g:=Cz hi hs
 obtain⟨a1,a2,a3⟩:=Yaj hs
 obtain⟨c1,c2,c3,c4⟩:=Ydy hg hp
 have hM:=Yb2 hi hs hp
 obtain⟨g1,⟨o',ho'⟩,g3⟩:=hM.g
 have hG:0<cG fr to g:=g1
 have hd0:∀x∈cX fr to g g.2.1.2,cG fr to g∣x:=g3 0 O3
 have hd1:∀x∈cX fr to g g.2.2.1.2,cG fr to g∣x:=g3 1 O3
 have hd2:∀x∈cX fr to g g.2.2.2.2,cG fr to g∣x:=g3 2 O3
 have hoo:cG fr to g*o'=cO g:=ho'.symm
 have hdiv:cO g/cG fr to g=o':=by rw [←hoo];exact Int.mul_ediv_cancel_left _ O
 have hsm:cO g/cG fr to g≤4294967296:=of_decide_eq_true hk
 have ho0:0<cO g:=hM.o
 have ho1:0<o':=by
  by_cases h:0<o'
  ·exact h
  ·have:=Int.mul_nonpos_of_nonneg_of_nonpos (Int.le_of_lt hG) (show o'≤0 by omega);omega
 have hom:o'*cG fr to g=g.1.2.2*(g.1.2.1-g.1.1)^5:=by rw [Int.mul_comm];exact hoo
 obtain⟨x1,x2⟩:=Ztt a1 c1 c2 c3 c4 hG hd0 hom
 obtain⟨y1,y2⟩:=Ztt a2 c1 c2 c3 c4 hG hd1 hom
 obtain⟨z1,z2⟩:=Ztt a3 c1 c2 c3 c4 hG hd2 hom
 obtain⟨⟨qf,qt,qo⟩,⟨sx,qx⟩,⟨sy,qy⟩,⟨sz,qz⟩⟩:=q
 unfold unS Yd0 at hu
 rw [mdO_t hsm,Zk5 hsm,Zk5 hsm,Zk5 hsm,hdiv]at hu
 injection hu with h1 h2
 injection h1 with hf h1
 injection h1 with ht ho
 injection h2 with hx h2
 injection h2 with hy hz
 dsimp only at hf ht ho hx hy hz
 subst hf ht hx hy hz
 have ho:=ho.symm
 subst ho
 have hfit:=fun i (hi:i<3) k=>hM.fit (i:=i) hsm hi k
 have hc1:=of_decide_eq_true hp
 have ht1:=hg.t1
 have ht3:=hg.t3
 have hix:∀a∈Db (cX fr to g g.2.1.2) (cG fr to g),Xx a:=Zsr (hfit 0 O3)
 have hiy:∀a∈Db (cX fr to g g.2.2.1.2) (cG fr to g),Xx a:=Zsr (hfit 1 O3)
 have hiz:∀a∈Db (cX fr to g g.2.2.2.2) (cG fr to g),Xx a:=Zsr (hfit 2 O3)
 have hle:o'≤4294967296:=hdiv▸hsm
 have hba:0≤cA fr g∧cB to g≤3600000:=by unfold cA cB;exact⟨O,O⟩
 have i1:Xx (cA fr g):=⟨O,O⟩
 have i2:Xx (cB to g):=⟨O,O⟩
 have i3:Xx o':=⟨O,O⟩
 refine⟨⟨i1,i2,i3,hix,hiy,hiz⟩,?_,⟨hG,c1,c2,by show(cA fr g-g.1.1)+(cB to g-cA fr g)≤_;exact c3,hom,fun i t u htu=>?_⟩⟩
 ·show Kr (cA fr g) (cB to g) o' _ _ _=true
  unfold Kr Zw7
  simp only [Bool.and_eq_true,decide_eq_true_eq]
  exact⟨⟨⟨⟨⟨⟨⟨⟨O,O⟩,O⟩,O⟩,O⟩,x1.to⟩,y1.to⟩,z1.to⟩,Yhl ho0 hG hd0 hd1 hd2 hoo⟩
 ·have htu':t*((g.1.2.1-g.1.1:Int):Rat)=((cA fr g-g.1.1:Int):Rat)+((cB to g-cA fr g:Int):Rat)*u:=htu
  clear htu
  have k0:=Zl8 a1 hG hd0 htu'
  have k1:=Zl8 a2 hG hd1 htu'
  have k2:=Zl8 a3 hG hd2 htu'
  dsimp only
  generalize Db (cX fr to g g.2.1.2) (cG fr to g)=X at *
  generalize Db (cX fr to g g.2.2.1.2) (cG fr to g)=Y at *
  generalize Db (cX fr to g g.2.2.2.2) (cG fr to g)=Z at *
  generalize ((cG fr to g:Int):Rat)=GG at *
  generalize ((g.1.2.1-g.1.1:Int):Rat)^5=DD at *
  match i with
  | 0=>exact k0
  | 1=>exact k1
  | i+2=>exact k2
end Go.Sky

