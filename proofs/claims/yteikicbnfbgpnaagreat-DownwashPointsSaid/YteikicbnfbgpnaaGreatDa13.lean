/- Rules, arithmetic and contracts: part 14. No conditions but those that each theorem names. -/
import Derived.Test.YteikicbnfbgpnaaGreatDa12
set_option linter.all false
set_option maxHeartbeats 4000000
namespace Go.Sky
def joG(g h:Zn):Bool:=joinB g.1.1 g.1.2.1 g.1.2.2 g.2.1.2 g.2.2.1.2 g.2.2.2.2 h.1.1 h.1.2.1 h.1.2.2 h.2.1.2 h.2.2.1.2 h.2.2.2.2
def joAll(ps:List Zn):Bool:=(List.range ps.length).all fun i=>decide (i=0) || joG (ps.getD (i-1) G0) (ps.getD i G0)
def topV(ps:List Zn):Int×Int×Int:=
 if 10000<Ydg 1 ps∨10000<Ydg 2 ps then(0,0,3)else if joAll ps then((Ydg 1 ps:Int),(Ydg 2 ps:Int),0)else(0,0,10)
theorem Zs3{ps:List Zn}(hp:∀g∈ps,Gin g)(hb:Ox ps=true):∀g∈ps,SgG g:=fun g hg=>by
 obtain⟨i,hi,e⟩:=List.mem_iff_getElem.1 hg
 have h1:=Zf0 ((Ea hb).1 i hi)
 rw [List.getD_eq_getElem?_getD,List.getElem?_eq_getElem hi,Option.getD_some,e]at h1
 exact Du (hp g hg) h1
def g8(g:Zn):Bool:=decide (g.2.1.2.length≤8) && decide (g.2.2.1.2.length≤8) && decide (g.2.2.2.2.length≤8)
def fewB(ps:List Zn)(m:Nat):Bool:=(List.range ps.length).all (fun i=>decide (m<i) || g8 (ps.getD i G0)) && decide (ps.length≤m)
def axc(c:List Int):Bool:=!(decide (1≤c.length) && decide (c.length≤6) && !(decide (1<c.length) && decide (c.getD (c.length-1) 0=0)))
variable {P:Program} {N:Nat} {sc:Nat→Prop} {env env':Qj} {H H':Hp}
def Fw(c:List Int)(g:Int):List Int:=if c.length=0 then [0]else c.map (· / g)
def mdO(ov g:Int):Int:=if ov/g≤4294967296 then ov/g else 0
def mdL(ov g:Int)(c:List Int):List Int:=if ov/g≤4294967296 then Fw c g else []
def Hc(ov:Int)(x y z:List Int):Int:=Mc ov (Lf 3 x y z)
structure Mdh (ov:Int) (x y z:List Int):Prop where
 o:0<ov
 b:bl ov.natAbs≤1000
 s:∀i,Sz 1000 (Zt i x y z)
 l:∀i,(Zt i x y z).length≤6
 c:∀i k,(cf (Zt i x y z) k).natAbs≤ov.natAbs*2146435072
theorem Zdm:∀(l:List Int) (g:Int),0≤g→0≤Mc g l
 | [],_,h=>h
 | x :: l,g,h=>Zdm l _ (Int.natCast_nonneg _)
theorem Ztp:∀(l:List Int) (g:Int),Mc g l∣g∧∀x∈l,Mc g l∣x
 | [],g=>⟨Int.dvd_refl _,fun x h=>nomatch h⟩
 | x :: l,g=>by
  obtain⟨h1,h2⟩:=Ztp l ((Int.gcd g x:Nat):Int)
  exact⟨Int.dvd_trans h1 (Int.gcd_dvd_left ..),fun y hy=>by
   rcases List.mem_cons.1 hy with rfl | hy
   ·exact Int.dvd_trans h1 (Int.gcd_dvd_right ..)
   ·exact h2 y hy⟩
theorem Zqs{x y z:List Int}{i:Nat}{a:Int}(hi:i<3)(h:a∈Zt i x y z):a∈Lf 3 x y z:=by
 match i,hi with
 | 0,_=>exact List.mem_append.2 (.inl (List.mem_append.2 (.inl h)))
 | 1,_=>exact List.mem_append.2 (.inl (List.mem_append.2 (.inr h)))
 | 2,_=>exact List.mem_append.2 (.inr h)
theorem Mdh.g{ov:Int}{x y z:List Int}(h:Mdh ov x y z):0<Hc ov x y z∧Hc ov x y z∣ov∧∀i,i<3→∀a∈Zt i x y z,Hc ov x y z∣a:=by
 obtain⟨h1,h2⟩:=Ztp (Lf 3 x y z) ov
 have h3:=Zdm (Lf 3 x y z) ov (Int.le_of_lt h.o)
 have ho:=h.o
 refine⟨?_,h1,fun i hi a ha=>h2 a (Zqs hi ha)⟩
 rcases Int.lt_or_eq_of_le h3 with q | q
 ·exact q
 ·exact absurd (Int.zero_dvd.1 (q▸h1)) O
theorem Mdh.fc{ov:Int}{x y z:List Int}(h:Mdh ov x y z)(i k:Nat):bl (Mc (Mc ov (Lf i x y z)) ((Zt i x y z).take k)).natAbs≤1000:=by
 have hm:∀i,∀a∈Zt i x y z,bl a.natAbs≤1000:=fun i a ha=>by
  obtain⟨j,hj⟩:=List.mem_iff_getElem?.1 ha
  have:=h.s i j
  unfold cf at this
  rw [List.getD_eq_getElem?_getD,hj]at this
  exact this
 have hf:∀a∈Lf i x y z,bl a.natAbs≤1000:=fun a ha=>by
  unfold Lf at ha
  have h0:=hm 0
  have h1:=hm 1
  have h2:=hm 2
  simp only [Zt]at h0 h1 h2
  split at ha
  ·cases ha
  ·exact h0 a ha
  ·rcases List.mem_append.1 ha with q | q
   ·exact h0 a q
   ·exact h1 a q
  ·rcases List.mem_append.1 ha with q | q
   ·rcases List.mem_append.1 q with q | q
    ·exact h0 a q
    ·exact h1 a q
   ·exact h2 a q
 exact Zdx (fun a ha=>hm i a (List.mem_of_mem_take ha)) (Zdx hf h.b)
theorem Mdh.fit{ov:Int}{x y z:List Int}(h:Mdh ov x y z)(hs:ov/Hc ov x y z≤4294967296){i:Nat}(hi:i<3)(k:Nat):((Zt i x y z).getD k 0/Hc ov x y z).natAbs≤9223372036854775807:=by
 obtain⟨g1,⟨s,hs1⟩,g3⟩:=h.g
 have hc:Hc ov x y z∣(Zt i x y z).getD k 0:=by
  rcases Nat.lt_or_ge k (Zt i x y z).length with q | q
  ·exact g3 i hi _ (Zu (d:=0) q)
  ·rw [List.getD_eq_getElem?_getD,List.getElem?_eq_none q];exact Int.dvd_zero _
 obtain⟨t,ht⟩:=hc
 have h9:((Zt i x y z).getD k 0).natAbs≤ov.natAbs*2146435072:=h.c i k
 generalize Hc ov x y z=g at *
 rw [ht,Int.mul_ediv_cancel_left _ O]
 rw [hs1,Int.mul_ediv_cancel_left _ O]at hs
 rw [ht,hs1,Int.natAbs_mul,Int.natAbs_mul,Nat.mul_assoc]at h9
 have h8:=Nat.le_of_mul_le_mul_left h9 O
 have ho:=h.o
 have h7:0<s:=by
  rw [hs1]at ho
  by_cases q:0<s
  ·exact q
  ·have:=Int.mul_nonpos_of_nonneg_of_nonpos (Int.le_of_lt g1) (show s≤0 by omega);omega
 have h6:s.natAbs*2146435072≤4294967296*2146435072:=Nat.mul_le_mul_right _ O
 exact Nat.le_trans h8 (Nat.le_trans h6 O3)
theorem mdO_t{ov g:Int}(h:ov/g≤4294967296):mdO ov g=ov/g:=if_pos h
theorem Zjw{ov g:Int}{c:List Int}(h:ov/g≤4294967296):mdL ov g c=Fw c g:=if_pos h
theorem mdO_f{ov g:Int}(h:¬ov/g≤4294967296):mdO ov g=0:=if_neg h
theorem Zzu{ov g:Int}{c:List Int}(h:¬ov/g≤4294967296):mdL ov g c=[]:=if_neg h
theorem dvL_0{c:List Int}{g:Int}(h:c.length=0):Fw c g=[0]:=if_pos h
theorem dvL_n{c:List Int}{g:Int}(h:c.length≠0):Fw c g=c.map (· / g):=if_neg h
theorem Zzw{c:List Int}{g:Int}{k:Nat}(h:k<c.length):(c.take k).map (· / g) ++ [c.getD k 0/g]=(c.take (k+1)).map (· / g):=by
 rw [Qx 0 _ _ h,List.map_append];rfl
abbrev C6 (a b c:Value) (f:Nat→Value):Array Value:=#[a,b,c,f 0,f 1,f 2]
def upd(f:Nat→Value)(i:Nat)(v:Value)(j:Nat):Value:=if j=i then v else f j
theorem c6_get{a b c:Value}{f:Nat→Value}{i:Nat}(h:i<3):(C6 a b c f)[3+i]? = some (f i):=by
 match i,h with
 | 0,_=>rfl
 | 1,_=>rfl
 | 2,_=>rfl
theorem Yb7{a b c:Value}{f:Nat→Value}{i:Nat}{v:Value}(h:i<3):(C6 a b c (upd f i v))[3+i]? = some v:=by rw [c6_get h];unfold upd;rw [if_pos rfl]
theorem c6_lay{a b c:Value}{f:Nat→Value}{i:Nat}{u v:Value}(h:i<3):Ha (C6 a b c (upd f i u)) (3+i) [v]=C6 a b c (upd f i v):=by
 match i,h with
 | 0,_=>rfl
 | 1,_=>rfl
 | 2,_=>rfl
theorem Zrr{a b c:Value}{f g:Nat→Value}(h:∀j,j<3→f j=g j):C6 a b c f=C6 a b c g:=by
 unfold C6;rw [h 0 O3,h 1 O3,h 2 O3]
theorem p3_sel{b i:Nat}(h:i<3):Zt i (Value.pointer (some ⟨b,3,none⟩)) (Value.pointer (some ⟨b,4,none⟩)) (Value.pointer (some ⟨b,5,none⟩))= .pointer (some ⟨b,3+i,none⟩):=by
 match i,h with
 | 0,_=>rfl
 | 1,_=>rfl
 | 2,_=>rfl
theorem c3_get{a b c:Value}{i:Nat}(h:i<3):(#[a,b,c]:Array Value)[0+i*1]? = some (Zt i a b c):=by
 match i,h with
 | 0,_=>rfl
 | 1,_=>rfl
 | 2,_=>rfl
def fz(zs:List (SL×List Int))(j:Nat):Value:=Qq (zs.getD j ((none,0,0),[])).1
theorem fz_upd{zs:List (SL×List Int)}{i:Nat}(h:zs.length=i)(j:Nat):fz zs j=upd (fz zs) i (.slice none 0 0) j:=by
 unfold upd
 split
 ·rename_i e;subst e;subst h
  unfold fz;rw [List.getD_eq_getElem?_getD,List.getElem?_eq_none (Nat.le_refl _)];rfl
 ·rfl
theorem Ztq{zs:List (SL×List Int)}{i:Nat}{s:SL}{c:List Int}(h:zs.length=i)(j:Nat):upd (fz zs) i (Qq s) j=fz (zs ++ [(s,c)]) j:=by
 subst h
 unfold upd fz
 split
 ·rename_i e;subst e;simp
 ·rename_i e
  rw [List.getD_eq_getElem?_getD,List.getD_eq_getElem?_getD]
  rcases Nat.lt_or_ge j zs.length with q | q
  ·rw [List.getElem?_append_left q]
  ·rw [List.getElem?_eq_none q,List.getElem?_eq_none O8]
theorem Zoa{zs:List (SL×List Int)}{i t:Nat}{s:SL}{f:Nat→List Int}{d0:SL×List Int}{c:List Int}(hl:zs.length=i)(h:∀t,t<i→(zs.getD t d0).2=f t)(hc:c=f i)(ht:t<i+1):((zs ++ [(s,c)]).getD t d0).2=f t:=hc▸Zph hl h ht
theorem mds_of{zs:List (SL×List Int)}{x y z:List Int}{g:Int}{d0:SL×List Int}(hl:zs.length=3)(h:∀t,t<3→(zs.getD t d0).2=Fw (Zt t x y z) g):∃s1 s2 s3:SL,zs=[(s1,Fw x g),(s2,Fw y g),(s3,Fw z g)]:=by
 match zs,hl with
 | [z0,z1,z2],_=>
  have h0:=h 0 O3
  have h1:=h 1 O3
  have h2:=h 2 O3
  simp [Zt]at h0 h1 h2
  exact⟨z0.1,z1.1,z2.1,by rw [←h0,←h1,←h2]⟩
theorem Zyb{a b:Int} : 0<(a-b).sign↔¬a≤b:=by rw [sgp];omega
theorem t_st6 {M:Nat→Prop} {o:Oper} {x y:Operand} {t tb:TypeId} {i b n:Nat} {c0 c1 c2 u:Value} {f:Nat→Value} {v:Value} {w0:World} {M0:Nat→Prop} (ho:o.op= .store t x y) (hd:o.dst=none)
  (hx:ev env x=some (.pointer (some ⟨b,3+n,none⟩))) (hy:ev env y=some v) (hH:lk H i=some (box b tb (C6 c0 c1 c2 (upd f n u)))) (hi0:i≠0) (hk:∀w,(sizeOf t).run P w= .ok 1 w) (hn:n<3) (h1:One N sc env H v)
  (h0:lk H 0=some (Xe w0 M0)) (hw:∀b,w0.heap.size≤b→sc b) (hM:M b) :
  T P N sc M o env H (G:=Unit) (fun _=>True) (fun _=>env) (fun _=>(i,box b tb (C6 c0 c1 c2 (upd f n v))) :: H):=by
 have:=t_stp1 (P:=P) (N:=N) (sc:=sc) (M:=M) ho hd hx hy hH hi0 hk (by show Nat.ble (3+n+1) 6=true;simp;omega) h1 h0 hw hM
 rw [c6_lay hn]at this
 exact this
theorem bl_dlq{a b:Int}{n:Nat}(h:bl a.natAbs≤n)(hb:0<b)(ha:0≤a):bl (a/b).natAbs≤n:=(Xs n _).2 (Nat.lt_of_le_of_lt (by
  have h1:=Int.ediv_le_self b ha
  have h2:=Int.ediv_nonneg ha (Int.le_of_lt hb)
  omega) ((Xs n _).1 h))
theorem Yal{zs:List (SL×List Int)}{n:Nat}{s:SL}{c:List Int}(h:∀z∈zs,∀b,(Qq z.1).ownBlock=some b→n≤b)(h2:∀b,(Qq s).ownBlock=some b→n≤b):∀z∈zs ++ [(s,c)],∀b,(Qq z.1).ownBlock=some b→n≤b:=fun z hz=>by
 rcases List.mem_append.1 hz with q | q
 ·exact h z q
 ·rw [List.mem_singleton.1 q];exact h2
theorem fr3{n:Nat}{s1 s2 s3:SL}{c1 c2 c3 l1 l2 l3:List Int}(h:∀z∈[(s1,c1),(s2,c2),(s3,c3)],∀b,(Qq z.1).ownBlock=some b→n≤b):∀p∈[Yk 1 Yu (Qq s1) l1,Yk 1 Yu (Qq s2) l2,Yk 1 Yu (Qq s3) l3],∀b,p.fp b→n≤b:=fun p hp b hb=>by
 simp only [List.mem_cons,List.not_mem_nil,or_false]at hp
 rcases hp with rfl | rfl | rfl
 ·exact h (s1,c1) O6 b hb.2
 ·exact h (s2,c2) O6 b hb.2
 ·exact h (s3,c3) O6 b hb.2
theorem fr0{n:Nat}{l1 l2 l3:List Int} : ∀p∈[Yk 1 Yu (Qq (none,0,0)) l1,Yk 1 Yu (Qq (none,0,0)) l2,Yk 1 Yu (Qq (none,0,0)) l3],∀b,p.fp b→n≤b:=fun p hp b hb=>by
 simp only [List.mem_cons,List.not_mem_nil,or_false]at hp
 rcases hp with rfl | rfl | rfl<;>cases hb.2
end Go.Sky
namespace Go.Sky
open Go.RowKit (Below)
variable {P:Program} {N:Nat} {sc:Nat→Prop} {env env':Qj} {H H':Hp} {Q Q':Exit→Act→World→Prop} {M:Nat→Prop}
theorem f_new{w0:World}{p:Pc}(i:Nat)(hi:lk H i=some p)(ho:p.own=true)(h0:lk H 0=some (Xe w0 (fun _=>False)))(hi0:i≠0:=by decide):∀a w,Sat N sc env H a w→∀b,p.fp b→w0.heap.size≤b:=fun a w hs b hb=>by
  rcases Nat.lt_or_ge b w0.heap.size with h | h
  · exact(hs.sep i 0 p _ hi0 hi h0 ho b hb ⟨h,fun h=>h⟩).elim
  · exact h
theorem Zw8 {fn:Func} {pre:List Pc} {G:Type} {φ:G→Prop} {Zv:G→Value} {its:G→List Pc} {w0:World} {e:Exit} (he:e= .ret∨e= .normal)
    (g:G) (v:Value) (hfr:∀p∈its g,∀b,p.fp b→w0.heap.size≤b) (hres:∀a w,Sat N sc env H a w→(results fn a.tmps).run P w= .ok v w) (hv:Zv g=v) (hg:φ g) (h0:lk H 0=some (Xe w0 (fun _=>False))) (hgive:Give H true (its g)) :
    X N sc e (Zat P fn w0 pre false φ Zv its) env H:=fun a w hs=>by
  have key : a.defers = [] ∧ ∃ v, (results fn a.tmps).run P w = .ok v w ∧ (∃ g, Ending.returned v = .returned (Zv g) ∧ φ g ∧ Below w0.heap.size w0 w ∧
        ∀p∈its g,p.holds w∧p.own=false∧∀b,p.fp b→w0.heap.size≤b∨(false=true∧∃q∈pre,q.fp b)):=by
    refine⟨hs.defers,v,hres a w hs,g,by rw [hv],hg,Ie (hs.hold 0 _ h0),fun p hp=>?_⟩
    obtain⟨ho,h | ⟨h1,h2⟩⟩:=hgive.mem p hp
    case inr=>exact⟨h1 w,ho,fun b hb=>absurd hb (h2 b)⟩
    obtain⟨i,it,hi0,hi,himp,hfp,hal⟩:=h
    exact⟨himp w (hs.hold i it hi),ho,fun b hb=> .inl (hfr p hp b hb)⟩
  rcases he with rfl | rfl
  · exact key
  · exact key
section
variable {f:FuncId} {xs:List Operand} {ats:Array TypeId} {d:Nat} {vs:List Value} {pre:List Pc} {G:Type} {φ:G→Prop} {Zv:G→Value} {its:G→List Pc} {w0:World} {M0:Nat→Prop} {ty:TypeId} {pos:String} {af:Array Edge} {g:Option (Nat×Bool)}
theorem Ydj {o:Oper} {n:Nat} (hc:Cal P f vs.toArray pre false φ Zv its)
    (ho:o.op= .call { callee:= .value (.func f),args:=xs.toArray,argTypes:=ats }) (hd:o.dst=some d) (hN:Nat.blt d N=true)
    (hargs:EvL env xs vs) (hcall:∀args w,(callFunc f args).run P w= .ok (.enter f args) w) (hpre:PreOk H false pre)
    (h0:lk H 0=some (Xe w0 M0)) (hw:∀b,w0.heap.size≤b→sc b) :
    T P N sc M o env H (fun g=>φ g∧∀p∈its g,∀b,p.fp b→w0.heap.size≤b) (fun g=>(d,Zv g) :: env) (fun g=>adds n (its g) H):=fun a w hs K Q hK=>by
  have h9:w0.heap.size≤w.heap.size:=(hs.hold 0 _ h0).size
  have hr:(execOp a.eval o).run P w= .ok (.enter f vs.toArray) w:=by
    have hm:=hargs.map hs
    simp [execOp,ho,resolve,invoke,Act.eval,Deferred.ofValue,hm,hcall]
  unfold Oper.wp
  rw [hr]
  refine(hc w (fun p hp=>by
    obtain⟨i,it,_,hi,himp,_,_⟩:=hpre.mem p hp
    exact himp w (hs.hold i it hi))).mono ?_
  rintro e w' ⟨g,rfl,hg,hbel,hits⟩
  show K (a.put o.dst (Zv g)) w'
  rw [hd]
  have hs':Sat N sc env H a w':=hs.chg0 (Chg.of_below hbel)
  have hnew:∀p∈its g,∀b,p.fp b→w.heap.size≤b:=fun p hp b hb=>by
    rcases(hits p hp).2.2 b hb with h | ⟨h,_⟩
    · exact h
    · cases h
  refine hK g _ _ ⟨hg,fun p hp b hb=>Nat.le_trans h9 (hnew p hp b hb)⟩ (Sat.put (hs'.adds (w1:=w) (its g) n ?_) d _ hN) (Chg.of_below hbel)
  intro p hp
  obtain⟨h1,h2,h3⟩:=hits p hp
  refine⟨h1,h2,fun b hb=>hw b (Nat.le_trans h9 (hnew p hp b hb)),fun j jt hj hown b hb hb'=>?_⟩
  have:=jt.lt w b (hs.hold j jt hj) hb'
  have:=hnew p hp b hb
  omega
theorem Zvc(n:Nat)(ids:List Nat)(hc:Cal P f vs.toArray pre false φ Zv its){G':G→Hp}[hx:EvI env xs vs][hf:CalF P f][hp:PreL P H false ids pre][h0:Som (lk2 H 0) (Xe w0 M0)][hN:TB (ltb d N)][hw:Hw w0 sc][ha:∀g,AddI n (its g) H (G' g)] :
    T P N sc M ⟨some d,.call { callee:= .value (.func f),args:=xs.toArray,argTypes:=ats },ty,pos,af,g⟩ env H (fun g=>φ g∧∀p∈its g,∀b,p.fp b→w0.heap.size≤b) (fun g=>(d,Zv g) :: env) G':=
  (Ydj (n:=n) hc rfl rfl (Pj hN.h) hx.h hf.h hp.h h0.l hw.h).conv fun g=>(ha g).h
end
theorem hw_up{w0 W:World}(h:Hw w0 sc)(hW:w0.heap.size≤W.heap.size):Hw W sc:=⟨fun b hb=>h.h b (Nat.le_trans hW hb)⟩
theorem d_min {o:Oper} {x y:Operand} {ats:Array TypeId} {k:IntKind} {m n:Int} (ho:o.op= .call { callee:= .builtin .min,args:=#[x,y],argTypes:=ats })
    (hx:ev env x=some (.int k m)) (hy:ev env y=some (.int k n)):Oy P N sc o env H (.int k (min m n)):=fun a w hs=>by
  simp [execOp,ho,resolve,hs.ev hx,hs.ev hy,invoke,builtin,Builtin.min_,Builtin.min2]
  by_cases h:n<m
  · rw [if_pos h];omega
  · rw [if_neg h];omega
theorem d_lbw {o:Oper} {x:Operand} {t tb:TypeId} {i b k:Nat} {cs:Array Value} (ho:o.op= .load t x) (hx:ev env x=some (.pointer (some ⟨b,0,none⟩))) (hH:lk H i=some (box b tb cs)) (ht:∀w,(isAgg t).run P w= .ok true w) (hk:∀w,(sizeOf t).run P w= .ok k w)
    (hl:cs.size=k):Oy P N sc o env H (.agg cs):=by
  have:=Zua (P:=P) (N:=N) (sc:=sc) (vs:=cs.toList) ho hx hH ht hk (by simpa using hl) (fun n u hu=>by rw [Nat.zero_add];simpa using hu)
  simpa using this
end Go.Sky
namespace Go.Sky
open Go.Proofs
set_option synthInstance.maxHeartbeats 0
set_option synthInstance.maxSize 100000
set_option maxRecDepth 20000
set_option maxHeartbeats 4000000
set_option linter.unusedSimpArgs false
theorem Zax(fr to ov:Int)(vx vy vz:Value)(x y z:List Int)(hM:Mdh ov x y z):Cal Tryz.prog 230 #[.int .i64 fr,.int .i64 to,.agg #[vx,vy,vz],wv ov] [Yk 2 wv vx x,Yk 2 wv vy y,Yk 2 wv vz z] false (G:=SL×SL×SL) (fun g=>True) (fun g=> .tuple #[.agg #[.int .i64 fr,.int .i64 to,.int .i64 (mdO ov (Hc ov x y z)),Qq g.1,Qq g.2.1,Qq g.2.2],.bool (decide (ov/(Hc ov x y z)≤4294967296))]) (fun g=>[Yk 1 Yu (Qq g.1) (mdL ov (Hc ov x y z) x),Yk 1 Yu (Qq g.2.1) (mdL ov (Hc ov x y z) y),Yk 1 Yu (Qq g.2.2) (mdL ov (Hc ov x y z) z)]):=by
 refine Zd Tryz.func230 Tryz.ntmps230 fun w0 sc hw hsc=>?_
 have ho:=hM.o
 have hob:=hM.b
 obtain⟨hg1,hg2,hg3⟩:=hM.g
 have hgb:bl (Hc ov x y z).natAbs≤1000:=hM.fc 3 0
 have hq0:0≤ov/(Hc ov x y z):=Int.ediv_nonneg (Int.le_of_lt ho) (Int.le_of_lt hg1)
 refine go 2 ?_
 refine Yc (Yb 4) fun bx _=>?_
 refine Yc (Yb 5) fun bx_2 _=>?_
 refine Yc (Zr 6) fun bx_3 _=>?_
 refine go 6 ?_
 refine Yc (Zr 7) fun bx_4 _=>?_
 refine go 11 ?_
 refine lp (G:=Nat) [0,1,6,7,8,10,24] [0,1,2,3,4,5,6] (fun i=>[(25,.int .i64 (i:Int))]) (fun i=>[(7,box bx_4 80 (wc (Mc ov (Lf i x y z))))]) (fun i=>i≤3) (fun i=>3-i) 0 O1 ⟨rfl,trivial⟩ ⟨rfl,trivial⟩ ?_
 rintro i hi
 have hfc:=hM.fc i
 have hl6:=hM.l i
 refine go 6 ?_
 refine Zc rfl (fun h179=>?_) (fun h179=>?_)
 ·refine go 5 ?_
  refine Zi (Zb0 i 1 2 3 50 rfl rfl rfl rfl rfl rfl) ?_
  refine go 1 ?_
  refine dt (Zo9 (i:=i) rfl rfl rfl Tryz.underlying210 Tryz.sizeOf40 Tryz.isAgg40 rfl) ?_
  refine go 11 ?_
  refine lp (G:=Nat) [0,1,6,7,8,10,24,25,28,29] [0,1,2,3,4,5,6,50] (fun k=>[(30,.int .i64 (k:Int))]) (fun k=>[(7,box bx_4 80 (wc (Mc (Mc ov (Lf i x y z)) ((Zt i x y z).take k))))]) (fun k=>k≤(Zt i x y z).length) (fun k=>(Zt i x y z).length-k) 0 O1 ⟨rfl,trivial⟩ ⟨rfl,trivial⟩ ?_
  rintro k hk
  refine go 6 ?_
  refine Zc rfl (fun h180=>?_) (fun h180=>?_)
  ·refine go 8 ⟨O2,O2,?_⟩
   refine Yc (Zr 8) fun bx_5 _=>?_
   refine go 6 ?_
   refine cl 8 [] (Zkk (Mc (Mc ov (Lf i x y z)) ((Zt i x y z).take k)) ((Zt i x y z).getD k 0) (Nat.le_trans (hfc k) O3) (Nat.le_trans (hM.s i k) O3)) fun _ _=>?_
   refine go 8 ⟨O,?_⟩
   exact Xg (k+1) O1 O1 ⟨rfl,trivial⟩ ⟨by rw [Zem _ O];rfl,trivial⟩
  ·obtain rfl:k=(Zt i x y z).length:=O
   rw [List.take_length]
   refine go 10 ⟨O,?_⟩
   exact Xg (i+1) O1 O1 ⟨rfl,trivial⟩ ⟨by rw [Zae x y z O,Hm];rfl,trivial⟩
 ·obtain rfl:i=3:=O
  refine go 9 ?_
  refine dt (Qg (ivs:=[(0,_),(1,_)]) rfl ⟨rfl,rfl,rfl,rfl,trivial⟩ (fun a w hs=>b35_01 ((Zz rfl) a w hs) ((Zz rfl) a w hs))) ?_
  refine Yc (Zr 9) fun bx_6 _=>?_
  refine go 7 ?_
  refine cl 9 [] (Zec ov (Hc ov x y z) (Nat.le_trans hob O3) (Nat.le_trans hgb O3) O) fun _ _=>?_
  refine Yc (Zr 10) fun bx_7 _=>?_
  refine go 5 ?_
  refine Qe (fun _=>False) [(0,0),(1,1),(2,1),(3,0)] ?_
  refine go 1 ?_
  refine Yz (Zf 10 [] (Zh 4294967296 ⟨O3,O3⟩)) fun _ _=>?_
  refine Yz (Zf 10 [] (Zcm (ov/(Hc ov x y z)) 4294967296 (Nat.le_trans (bl_dlq hob hg1 (Int.le_of_lt ho)) O3) O3)) fun _ _=>?_
  refine go 3 ?_
  refine Zc rfl (fun h186=>?_) (fun h186=>?_)
  ·have hsm:¬ov/(Hc ov x y z)≤4294967296:=Zyb.1 h186
   refine go 9 ?_
   exact Zw8 (.inl rfl) ((none,0,0),(none,0,0),(none,0,0)) _ fr0 (fun a w hs=>Zvs hs Tryz.results230 (Hg (i:=6) rfl rfl Tryz.isAgg35 Tryz.sizeOf35 rfl) rfl) (by rw [mdO_f hsm,decide_eq_false hsm]) trivial rfl (Nn (Zzu hsm) (Nn (Zzu hsm) (Nn (Zzu hsm) Za)))
  ·have hsm:ov/(Hc ov x y z)≤4294967296:=Classical.not_not.1 fun h=>h186 (Zyb.2 h)
   refine go 5 ?_
   refine cl 10 [] (Zms (ov/(Hc ov x y z)) O) fun _ _=>?_
   refine go 13 ?_
   refine dt (Qg (ivs:=[(0,_),(1,_),(2,_)]) rfl ⟨rfl,rfl,rfl,rfl,rfl,rfl,trivial⟩ (fun a w hs=>Ycl ((Zz rfl) a w hs) ((Zz rfl) a w hs) ((Zz rfl) a w hs))) ?_
   refine go 4 ?_
   refine Zi (Mv 9 (q:=box bx_6 35 (C6 (.int .i64 fr) (.int .i64 to) (.int .i64 (ov/(Hc ov x y z))) (fz []))) (congrArg (box bx_6 35) (show _=(C6 (.int .i64 fr) (.int .i64 to) (.int .i64 (ov/(Hc ov x y z))) (fz []))from rfl)) rfl rfl) ?_
   refine Zi (Pb qC 71) ?_
   refine lp (G:=Nat×List (SL×List Int)) [6,8,10,15,59] [0,7,1,2,3,4,5,6,10] (fun q=>[(60,.int .i64 (q.1:Int))]) (fun q=>[(9,box bx_6 35 (C6 (.int .i64 fr) (.int .i64 to) (.int .i64 (ov/(Hc ov x y z))) (fz q.2))),(71,Gc qC q.2)]) (fun q=>(q.1≤3)∧(q.2.length=q.1)∧(∀t,t<q.1→(q.2.getD t Z0).2=Fw (Zt t x y z) (Hc ov x y z))∧(∀z∈q.2,∀b,(Qq z.1).ownBlock=some b→w0.heap.size≤b)) (fun q=>3-q.1) (0,[]) ⟨O1,rfl,fun t ht=>absurd ht (Nat.not_lt_zero t),fun z hz=>nomatch hz⟩ ⟨rfl,trivial⟩ ⟨rfl,rfl,trivial⟩ ?_
   rintro⟨i,zs⟩ ⟨hi,hzl,hzs,hfz⟩
   dsimp only at hi hzl hzs hfz
   dsimp only
   have hl6:=hM.l i
   refine go 6 ?_
   refine Zc rfl (fun h190=>?_) (fun h190=>?_)
   ·refine go 7 ?_
    refine dt (Zp (r':= .pointer (some ⟨bx_6,3+i,none⟩)) (Zo9 (i:=i) rfl rfl rfl Tryz.underlying331 Tryz.sizeOf330 Tryz.isAgg330 rfl) (p3_sel O)) ?_
    refine go 6 ?_
    refine Zi (Zb0 i 1 2 3 52 rfl rfl rfl rfl rfl rfl) ?_
    refine Zi (Nw 60 1 3 Yu) ?_
    refine go 2 ?_
    refine dt (Ic (i:=i) rfl rfl rfl Tryz.underlying210 Tryz.sizeOf40 rfl) ?_
    refine dt (Zwt (i:=4) rfl rfl rfl Tryz.isAgg40 (c3_get O)) ?_
    refine go 5 ?_
    refine lp (G:=Nat×Value) [6,8,10,15,18,59,60,66,67] [0,71,7,1,2,3,4,5,6,10,52] (fun q=>[(68,.int .i64 (q.1:Int))]) (fun q=>[(9,box bx_6 35 (C6 (.int .i64 fr) (.int .i64 to) (.int .i64 (ov/(Hc ov x y z))) (upd (fz zs) i q.2))),(60,Pu 1 3 Yu q.2 (((Zt i x y z).take q.1).map (· / (Hc ov x y z))))]) (fun q=>q.1≤(Zt i x y z).length) (fun q=>(Zt i x y z).length-q.1) (0,_) O1 ⟨rfl,trivial⟩ ⟨by rw [Zrr (fun j _=>fz_upd hzl j)];rfl,by rw [List.take_zero];rfl,trivial⟩ ?_
    rintro⟨k,vr⟩ hk
    dsimp only at hk
    dsimp only
    refine go 6 ?_
    refine Zc rfl (fun h191=>?_) (fun h191=>?_)
    ·refine go 8 ⟨O2,O2,?_⟩
     refine Yc (Zr 11) fun bx_8 _=>?_
     refine go 7 ?_
     refine cl 11 [] (Zec ((Zt i x y z).getD k 0) (Hc ov x y z) (Nat.le_trans (hM.s i k) O3) (Nat.le_trans hgb O3) O) fun _ _=>?_
     refine cl 11 [] (Zms ((Zt i x y z).getD k 0/(Hc ov x y z)) (hM.fit hsm O k)) fun _ _=>?_
     refine go 11 ?_
     refine dt (Zwt (i:=9) rfl rfl rfl Tryz.isAgg33 (Yb7 O)) ?_
     refine go 1 ?_
     refine tt (Qz (i:=12) (ivs:=[(0,_)]) (enc:=Yu) ([(Zt i x y z).getD k 0/(Hc ov x y z)]:List Int) rfl rfl ⟨rfl,rfl,trivial⟩ Tryz.underlying33 Tryz.ti3 rfl rfl rfl rfl rfl pZ.cells rfl rfl hw.h) (fun v _=>?_)
     refine tt (Kg (i:=60) (j:=12) (by_:=8) rfl rfl rfl rfl rfl rfl O3 rfl (Yj pZ) Tryz.underlying33 Tryz.ti3 rfl pZ rfl rfl rfl O8 O3 rfl hw.h) (fun v_2 _=>?_)
     refine go 1 ?_
     refine tt (t_st6 (i:=9) (n:=i) rfl rfl rfl rfl rfl O3 Tryz.sizeOf33 O (Qt (i:=60) rfl (Yj pZ)) rfl hw.h trivial) (fun _ _=>?_)
     refine go 7 ⟨O,?_⟩
     exact Xg (k+1,_) O1 O1 ⟨rfl,trivial⟩ ⟨rfl,by rw [←Zzw O];rfl,trivial⟩
    ·obtain rfl:k=(Zt i x y z).length:=O
     rw [List.take_length]
     refine go 9 ?_
     refine dt (Zwt (i:=9) rfl rfl rfl Tryz.isAgg33 (Yb7 O)) ?_
     refine go 4 ?_
     refine Zc rfl (fun h195=>?_) (fun h195=>?_)
     ·have hc0:(Zt i x y z).length=0:=by simpa using h195
      refine go 2 ?_
      refine tt (Qz (i:=13) (ivs:=[(0,_)]) (enc:=Yu) ([0]:List Int) rfl rfl ⟨rfl,rfl,trivial⟩ Tryz.underlying33 Tryz.ti3 rfl rfl rfl rfl rfl pZ.cells rfl rfl hw.h) (fun v_3 _=>?_)
      refine go 1 ?_
      refine tt (t_st6 (i:=9) (n:=i) rfl rfl rfl rfl rfl O3 Tryz.sizeOf33 O (Qt (i:=13) rfl (Yj pZ)) rfl hw.h trivial) (fun _ _=>?_)
      refine go 7 ⟨O,?_⟩
      refine Zw5 (f_new 13 rfl rfl rfl) (fun hfr=>?_)
      refine Yw (Pg 13 rfl rfl pZ) ?_
      refine Zpx (Md 13 rfl Zk) (fun sn hsn=>?_)
      subst hsn
      refine Yw (Mv 13 (q:=Yk 1 Yu (Qq sn) (Fw (Zt i x y z) (Hc ov x y z))) (congrArg (Yk 1 Yu (Qq sn)) (dvL_0 hc0).symm) rfl rfl) ?_
      refine Yw (Xl (q:=qC) (z:=(sn,Fw (Zt i x y z) (Hc ov x y z))) 71 13 71 rfl rfl rfl rfl rfl) ?_
      exact Xg (i+1,zs ++ [(sn,Fw (Zt i x y z) (Hc ov x y z))]) ⟨O1,by rw [List.length_append,hzl];rfl,fun t ht=>Zoa (f:=fun t=>Fw (Zt t x y z) (Hc ov x y z)) hzl hzs rfl ht,Yal hfz hfr⟩ O1 ⟨rfl,trivial⟩ ⟨by rw [Zrr (fun j _=>Ztq (c:=Fw (Zt i x y z) (Hc ov x y z)) hzl j)];rfl,rfl,trivial⟩
     ·have hc0:(Zt i x y z).length≠0:=by simpa using h195
      refine go 7 ⟨O,?_⟩
      refine Zw5 (f_new 60 rfl rfl rfl) (fun hfr=>?_)
      refine Yw (Pg 60 rfl rfl pZ) ?_
      refine Zpx (Md 60 rfl Zk) (fun sn hsn=>?_)
      subst hsn
      refine Yw (Mv 60 (q:=Yk 1 Yu (Qq sn) (Fw (Zt i x y z) (Hc ov x y z))) (congrArg (Yk 1 Yu (Qq sn)) (dvL_n hc0).symm) rfl rfl) ?_
      refine Yw (Xl (q:=qC) (z:=(sn,Fw (Zt i x y z) (Hc ov x y z))) 71 60 71 rfl rfl rfl rfl rfl) ?_
      exact Xg (i+1,zs ++ [(sn,Fw (Zt i x y z) (Hc ov x y z))]) ⟨O1,by rw [List.length_append,hzl];rfl,fun t ht=>Zoa (f:=fun t=>Fw (Zt t x y z) (Hc ov x y z)) hzl hzs rfl ht,Yal hfz hfr⟩ O1 ⟨rfl,trivial⟩ ⟨by rw [Zrr (fun j _=>Ztq (c:=Fw (Zt i x y z) (Hc ov x y z)) hzl j)];rfl,rfl,trivial⟩
   ·obtain rfl:i=3:=O
    refine go 6 ?_
    obtain⟨s1,s2,s3,rfl⟩:=mds_of hzl hzs
    refine Zi (Zb1 (q:=qC) 71 81 (s1,Fw x (Hc ov x y z)) rfl rfl O6 rfl) ?_
    refine Zi (Mv 81 (q:=Yk 1 Yu (Qq s1) (mdL ov (Hc ov x y z) x)) (congrArg (Yk 1 Yu (Qq s1)) (Zjw hsm).symm) rfl rfl) ?_
    refine Zi (Zb1 (q:=qC) 71 82 (s2,Fw y (Hc ov x y z)) rfl rfl O6 rfl) ?_
    refine Zi (Mv 82 (q:=Yk 1 Yu (Qq s2) (mdL ov (Hc ov x y z) y)) (congrArg (Yk 1 Yu (Qq s2)) (Zjw hsm).symm) rfl rfl) ?_
    refine Zi (Zb1 (q:=qC) 71 83 (s3,Fw z (Hc ov x y z)) rfl rfl O6 rfl) ?_
    refine Zi (Mv 83 (q:=Yk 1 Yu (Qq s3) (mdL ov (Hc ov x y z) z)) (congrArg (Yk 1 Yu (Qq s3)) (Zjw hsm).symm) rfl rfl) ?_
    refine Zi (Mv 9 (q:=box bx_6 35 #[.int .i64 fr,.int .i64 to,.int .i64 (ov/(Hc ov x y z)),Qq s1,Qq s2,Qq s3]) rfl rfl rfl) ?_
    refine go 7 ?_
    exact Zw8 (.inl rfl) (s1,s2,s3) _ (fr3 hfz) (fun a w hs=>Zvs hs Tryz.results230 (Hg (i:=6) rfl rfl Tryz.isAgg35 Tryz.sizeOf35 rfl) rfl) (by rw [mdO_t hsm,decide_eq_true hsm]) trivial rfl (Kx 81 rfl rfl rfl (Kx 82 rfl rfl rfl (Kx 83 rfl rfl rfl Za)))
abbrev Zpv:=(Int×Int×Int)×List Int×List Int×List Int
def unS(g:Zn):Zpv:=(g.1,g.2.1.2,g.2.2.1.2,g.2.2.2.2)
abbrev cA (fr:Int) (g:Zn):Int:=max fr g.1.1
abbrev cB (to:Int) (g:Zn):Int:=min to g.1.2.1
abbrev cX (fr to:Int) (g:Zn) (c:List Int):List Int:=Pt c (cA fr g-g.1.1) (cB to g-cA fr g) (g.1.2.1-g.1.1)
abbrev cO (g:Zn):Int:=g.1.2.2*(g.1.2.1-g.1.1)^5
def cG(fr to:Int)(g:Zn):Int:=Hc (cO g) (cX fr to g g.2.1.2) (cX fr to g g.2.2.1.2) (cX fr to g g.2.2.2.2)
def Kc(fr to:Int)(g:Zn):Bool:=decide (cA fr g<cB to g)
def Zh7(fr to:Int)(g:Zn):Bool:=decide (cO g/cG fr to g≤4294967296)
def Ybr(fr to:Int)(g:Zn):Zpv:=((cA fr g,cB to g,mdO (cO g) (cG fr to g)),mdL (cO g) (cG fr to g) (cX fr to g g.2.1.2),mdL (cO g) (cG fr to g) (cX fr to g g.2.2.1.2),mdL (cO g) (cG fr to g) (cX fr to g g.2.2.2.2))
def MdG(fr to:Int)(g:Zn):Prop:=Mdh (cO g) (cX fr to g g.2.1.2) (cX fr to g g.2.2.1.2) (cX fr to g g.2.2.2.2)
theorem fl_get{ps:List Zn}{p:Zn→Bool}{i:Nat}{d:Zn}(hi:i<ps.length)(hp:p (ps.getD i d)=true):(ps.filter p)[((ps.take i).filter p).length]? = some (ps.getD i d):=by
 have h:=List.take_append_drop i ps
 have h2:ps.drop i=ps.getD i d :: ps.drop (i+1):=by
  rw [List.getD_eq_getElem?_getD,List.getElem?_eq_getElem hi,Option.getD_some]
  exact List.drop_eq_getElem_cons hi
 conv=>lhs;arg 1;rw [←h,h2]
 rw [List.filter_append,List.filter_cons_of_pos hp]
 simp
theorem fl_t{ps:List Zn}{p:Zn→Bool}{i:Nat}{d:Zn}(hi:i<ps.length)(hp:p (ps.getD i d)=true):((ps.take (i+1)).filter p).length=((ps.take i).filter p).length+1:=by
 rw [Qx d _ _ hi,List.filter_append,List.filter_cons_of_pos hp,List.length_append];rfl
theorem fl_f{ps:List Zn}{p:Zn→Bool}{i:Nat}{d:Zn}(hi:i<ps.length)(hp:p (ps.getD i d)=false):((ps.take (i+1)).filter p).length=((ps.take i).filter p).length:=by
 rw [Qx d _ _ hi,List.filter_append,List.filter_cons_of_neg (by rw [hp];exact Bool.false_ne_true),List.length_append];rfl
theorem Zjm{d:Int}(h:1≤d∧d≤3600000):bl (d^5).natAbs≤132:=Zj5 (Zii O) 5 (Nat.le_refl _)
theorem Ybq{W:Nat}{H:Hp}{s1 s2 s3:SL}{l1 l2 l3:List Int}(h:∀p∈[Yk 1 Yu (Qq s1) l1,Yk 1 Yu (Qq s2) l2,Yk 1 Yu (Qq s3) l3],∀b,p.fp b→W≤b)(i:Nat)(h1:lk H i=some (Yk 1 Yu (Qq s1) l1))(h2:lk H (i+1)=some (Yk 1 Yu (Qq s2) l2))(h3:lk H (i+2)=some (Yk 1 Yu (Qq s3) l3)) :
  ∀p∈[Yk 1 Yu (Qq s1) l1,Yk 1 Yu (Qq s2) l2,Yk 1 Yu (Qq s3) l3],p.own=false∧(∀b,p.fp b→W≤b)∧∃i it,lk H i=some it∧∀w,it.holds w→p.holds w:=fun p hp=>by
 have h9:=h p hp
 simp only [List.mem_cons,List.not_mem_nil,or_false]at hp
 rcases hp with rfl | rfl | rfl
 ·exact⟨rfl,h9,_,_,h1,fun _ h=>h⟩
 ·exact⟨rfl,h9,_,_,h2,fun _ h=>h⟩
 ·exact⟨rfl,h9,_,_,h3,fun _ h=>h⟩
theorem cut_b{fr to:Int}{g:Zn}(hg:SgG g)(h:Kc fr to g=true):(cA fr g-g.1.1).natAbs≤3600000∧(cB to g-cA fr g).natAbs≤3600000∧Nc (cA fr g-g.1.1)∧Nc (cB to g-cA fr g):=by
 have h1:=of_decide_eq_true h
 have ht1:=hg.t1
 have ht2:=hg.t2
 have ht3:=hg.t3
 unfold cA cB at *
 exact⟨O,O,⟨O,O⟩,⟨O,O⟩⟩
theorem Zvi(v:Value)(ps:List Zn)(b1 b2 b3:Nat)(fr to:Int)(hsg:∀g∈ps,SgG g)(hM:∀g∈ps,Kc fr to g=true→MdG fr to g):CalI Tryz.prog 229 [.pointer (some ⟨b1,0,none⟩),.pointer (some ⟨b2,0,none⟩),.pointer (some ⟨b3,0,none⟩)] [Ir b1 38 #[v],Ir b2 3 #[.int .i64 fr],Ir b3 3 #[.int .i64 to],Ps 6 Mp qG v ps] (α:=Zn) (G:=SL×SL×SL) (ps.filter (Kc fr to)) (fun c g=>[.agg #[.int .i64 (cA fr c),.int .i64 (cB to c),.int .i64 (mdO (cO c) (cG fr to c)),Qq g.1,Qq g.2.1,Qq g.2.2],.bool (Zh7 fr to c)]) (fun c g=>[Yk 1 Yu (Qq g.1) (mdL (cO c) (cG fr to c) (cX fr to c c.2.1.2)),Yk 1 Yu (Qq g.2.1) (mdL (cO c) (cG fr to c) (cX fr to c c.2.2.1.2)),Yk 1 Yu (Qq g.2.2) (mdL (cO c) (cG fr to c) (cX fr to c c.2.2.2.2))]):=by
 refine Ygf Tryz.func229 rfl Tryz.ntmps229 rfl ⟨rfl,rfl,rfl,rfl,trivial⟩ ?_
 intro l M J Jx w0 sc hw hpre hJs hJxs hJ0 hY
 simp only [Ql,Xj]
 have hw9:=Hw.mk hw
 refine Mr (Er (i:=4) rfl Yl) (fun hlen=>?_)
 refine go 8 ?_
 refine lp (G:=Nat×World) [0,2,3,12,13] [1,2,3,4] (fun q=>[(14,.int .i64 (q.1:Int))]) (fun q=>[(0,Xe q.2 (fun _=>False))]) (fun q=>(q.1≤ps.length)∧(J ((ps.take q.1).filter (Kc fr to)).length q.2)∧(w0.heap.size≤q.2.heap.size)) (fun q=>ps.length-q.1) (0,w0) ⟨O1,hJ0,Nat.le_refl _⟩ ⟨rfl,trivial⟩ ⟨rfl,trivial⟩ ?_
 rintro⟨i,W⟩ ⟨hi,hJ,hW⟩
 dsimp only at hi hJ hW
 dsimp only
 have hw8:=hw_up hw9 hW
 refine go 6 ?_
 refine Zc rfl (fun h215=>?_) (fun h215=>?_)
 ·refine go 5 ?_
  have hgi:=hsg _ (Zu (d:=G0) (show i<ps.length by omega))
  have ht1:=hgi.t1
  have ht2:=hgi.t2
  have ht3:=hgi.t3
  have ho1:=hgi.o1
  have ho2:=hgi.o2
  refine Zi (Nv (g:=(ps.getD i G0)) (z:=(ps.getD i G0).2.1) 4 51 rfl rfl (Zu) O6) ?_
  refine Zi (Nv (g:=(ps.getD i G0)) (z:=(ps.getD i G0).2.2.1) 4 52 rfl rfl (Zu) O6) ?_
  refine Zi (Nv (g:=(ps.getD i G0)) (z:=(ps.getD i G0).2.2.2) 4 53 rfl rfl (Zu) O6) ?_
  refine go 2 ⟨O2,?_⟩
  refine dt (Lz (ii:=4) G0 rfl rfl rfl Yl pG O2) ?_
  refine Yc (Zr 5) fun bx _=>?_
  refine go 4 ?_
  refine Qe (fun _=>False) [(0,0),(1,0),(2,0),(3,0),(4,0),(5,0),(6,0),(7,0),(8,0),(9,3)] ?_
  refine go 3 ?_
  refine Qb rfl rfl (Ph (Zfb rfl rfl rfl)) ?_
  refine go 3 ?_
  refine Qb rfl rfl (Ph (d_min rfl rfl rfl)) ?_
  refine go 12 ?_
  refine Zc rfl (fun h217=>?_) (fun h217=>?_)
  ·have hcp:Kc fr to (ps.getD i G0)=false:=decide_eq_false (by unfold cA cB;omega)
   refine go 8 ⟨O,?_⟩
   exact Xg (i+1,W) ⟨O1,by rw [fl_f O hcp];exact hJ,hW⟩ O1 ⟨rfl,trivial⟩ ⟨rfl,trivial⟩
  ·have hcp:Kc fr to (ps.getD i G0)=true:=decide_eq_true (by unfold cA cB;omega)
   have hMi:=hM _ (Zu (d:=G0) (show i<ps.length by omega)) hcp
   obtain⟨hq1,hq2,hq3,hq4⟩:=cut_b hgi hcp
   refine go 12 ⟨O,?_⟩
   refine jn (G:=SL×SL×SL×Nat) [0,2,3,12,13,14] [0,1,2,3,4,51,52,53,5] (fun q=>[(10,.pointer (some ⟨q.2.2.2,0,none⟩)),(11,.bool (Zh7 fr to (ps.getD i G0)))]) (fun q=>[(90,Yk 1 Yu (Qq q.1) (mdL (cO (ps.getD i G0)) (cG fr to (ps.getD i G0)) (cX fr to (ps.getD i G0) (ps.getD i G0).2.1.2))),(91,Yk 1 Yu (Qq q.2.1) (mdL (cO (ps.getD i G0)) (cG fr to (ps.getD i G0)) (cX fr to (ps.getD i G0) (ps.getD i G0).2.2.1.2))),(92,Yk 1 Yu (Qq q.2.2.1) (mdL (cO (ps.getD i G0)) (cG fr to (ps.getD i G0)) (cX fr to (ps.getD i G0) (ps.getD i G0).2.2.2.2))),(93,box q.2.2.2 35 #[.int .i64 (cA fr (ps.getD i G0)),.int .i64 (cB to (ps.getD i G0)),.int .i64 (mdO (cO (ps.getD i G0)) (cG fr to (ps.getD i G0))),Qq q.1,Qq q.2.1,Qq q.2.2.1])]) (fun q=>(∀p∈[Yk 1 Yu (Qq q.1) (mdL (cO (ps.getD i G0)) (cG fr to (ps.getD i G0)) (cX fr to (ps.getD i G0) (ps.getD i G0).2.1.2)),Yk 1 Yu (Qq q.2.1) (mdL (cO (ps.getD i G0)) (cG fr to (ps.getD i G0)) (cX fr to (ps.getD i G0) (ps.getD i G0).2.2.1.2)),Yk 1 Yu (Qq q.2.2.1) (mdL (cO (ps.getD i G0)) (cG fr to (ps.getD i G0)) (cX fr to (ps.getD i G0) (ps.getD i G0).2.2.2.2))],∀b,p.fp b→W.heap.size≤b)) ?_ ?_
   ·refine Il [5] [24] ?_
    refine Zl (n:=11) [(0,0),(1,0),(2,0),(3,0),(4,0),(5,0),(6,0),(7,0),(8,0),(9,0),(10,0),(12,0),(13,0),(15,0)] ?_
    refine go 15 ⟨O,O,?_⟩
    refine Qw (n:=10) 11 22 ?_ ?_
    ·refine Np (Zf 6 [51,52,53] (Ze2 _ _ _ _ _ _ _ _ _ ((cA fr (ps.getD i G0))-(ps.getD i G0).1.1) ((cB to (ps.getD i G0))-(cA fr (ps.getD i G0))) ((ps.getD i G0).1.2.1-(ps.getD i G0).1.1) hgi hq1 hq2 ⟨O,O⟩)) fun⟨s,s_2,s_3⟩ _=>?_
     refine Qw (n:=9) 14 22 ?_ ?_
     ·refine Np (Zf 8 [] (Zh (ps.getD i G0).1.2.2)) fun _ _=>?_
      refine Qw (n:=8) 16 22 ?_ ?_
      ·refine Np (Zf 8 [] (Iw ((ps.getD i G0).1.2.1-(ps.getD i G0).1.1) 5 (Nat.le_trans (Zii O) O3) O3 O3)) fun _ _=>?_
       refine Qw (n:=7) 17 22 ?_ ?_
       ·refine Np (Zf 8 [] (Eh (ps.getD i G0).1.2.2 (((ps.getD i G0).1.2.1-(ps.getD i G0).1.1)^5) (Nat.le_trans (Fg ⟨O,O⟩) O3) (Nat.le_trans (Zjm ⟨O,O⟩) O3))) fun _ _=>?_
        refine Qw (n:=6) 18 22 ?_ ?_
        ·refine Np (Zvc 90 [6,7,8] (Zax (cA fr (ps.getD i G0)) (cB to (ps.getD i G0)) (cO (ps.getD i G0)) _ _ _ (cX fr to (ps.getD i G0) (ps.getD i G0).2.1.2) (cX fr to (ps.getD i G0) (ps.getD i G0).2.2.1.2) (cX fr to (ps.getD i G0) (ps.getD i G0).2.2.2.2) hMi)) fun⟨s_4,s_5,s_6⟩ ⟨_,hfr⟩=>?_
         refine Zl (n:=0) [(19,0),(20,0),(21,0),(22,1),(23,1),(24,3)] ?_
         refine go 3 ?_
         refine Yz (Nm 93) fun bx_2 ho=>?_
         refine go 3 ?_
         refine Zw ?_
         exact On (_,_,_,_) (hfr) ⟨rfl,rfl,trivial⟩ ⟨rfl,rfl,rfl,rfl,trivial⟩
        ·refine Np (Nm 93) fun bx_3 ho2=>?_
         refine Zl (n:=0) [(18,1),(19,0),(20,0),(21,0),(23,1),(24,3)] ?_
         refine Yz (Zvc 90 [6,7,8] (Zax (cA fr (ps.getD i G0)) (cB to (ps.getD i G0)) (cO (ps.getD i G0)) _ _ _ (cX fr to (ps.getD i G0) (ps.getD i G0).2.1.2) (cX fr to (ps.getD i G0) (ps.getD i G0).2.2.1.2) (cX fr to (ps.getD i G0) (ps.getD i G0).2.2.2.2) hMi)) fun⟨s_7,s_8,s_9⟩ ⟨_,hfr⟩=>?_
         refine go 6 ?_
         refine Zw ?_
         exact On (_,_,_,_) (hfr) ⟨rfl,rfl,trivial⟩ ⟨rfl,rfl,rfl,rfl,trivial⟩
       ·refine Np (Nm 93) fun bx_4 ho3=>?_
        refine Zl (n:=0) [(17,1),(18,1),(19,0),(20,0),(21,0),(23,1),(24,3)] ?_
        refine Yz (Zf 8 [] (Eh (ps.getD i G0).1.2.2 (((ps.getD i G0).1.2.1-(ps.getD i G0).1.1)^5) (Nat.le_trans (Fg ⟨O,O⟩) O3) (Nat.le_trans (Zjm ⟨O,O⟩) O3))) fun _ _=>?_
        refine Yz (Zvc 90 [6,7,8] (Zax (cA fr (ps.getD i G0)) (cB to (ps.getD i G0)) (cO (ps.getD i G0)) _ _ _ (cX fr to (ps.getD i G0) (ps.getD i G0).2.1.2) (cX fr to (ps.getD i G0) (ps.getD i G0).2.2.1.2) (cX fr to (ps.getD i G0) (ps.getD i G0).2.2.2.2) hMi)) fun⟨s_10,s_11,s_12⟩ ⟨_,hfr⟩=>?_
        refine go 6 ?_
        refine Zw ?_
        exact On (_,_,_,_) (hfr) ⟨rfl,rfl,trivial⟩ ⟨rfl,rfl,rfl,rfl,trivial⟩
      ·refine Np (Nm 93) fun bx_5 ho4=>?_
       refine Zl (n:=0) [(16,1),(17,1),(18,1),(19,0),(20,0),(21,0),(23,1),(24,3)] ?_
       refine Yz (Zf 8 [] (Iw ((ps.getD i G0).1.2.1-(ps.getD i G0).1.1) 5 (Nat.le_trans (Zii O) O3) O3 O3)) fun _ _=>?_
       refine Yz (Zf 8 [] (Eh (ps.getD i G0).1.2.2 (((ps.getD i G0).1.2.1-(ps.getD i G0).1.1)^5) (Nat.le_trans (Fg ⟨O,O⟩) O3) (Nat.le_trans (Zjm ⟨O,O⟩) O3))) fun _ _=>?_
       refine Yz (Zvc 90 [6,7,8] (Zax (cA fr (ps.getD i G0)) (cB to (ps.getD i G0)) (cO (ps.getD i G0)) _ _ _ (cX fr to (ps.getD i G0) (ps.getD i G0).2.1.2) (cX fr to (ps.getD i G0) (ps.getD i G0).2.2.1.2) (cX fr to (ps.getD i G0) (ps.getD i G0).2.2.2.2) hMi)) fun⟨s_13,s_14,s_15⟩ ⟨_,hfr⟩=>?_
       refine go 6 ?_
       refine Zw ?_
       exact On (_,_,_,_) (hfr) ⟨rfl,rfl,trivial⟩ ⟨rfl,rfl,rfl,rfl,trivial⟩
     ·refine Np (Nm 93) fun bx_6 ho5=>?_
      refine Zl (n:=0) [(14,1),(16,1),(17,1),(18,1),(19,0),(20,0),(21,0),(23,1),(24,3)] ?_
      refine Yz (Zf 8 [] (Zh (ps.getD i G0).1.2.2)) fun _ _=>?_
      refine Yz (Zf 8 [] (Iw ((ps.getD i G0).1.2.1-(ps.getD i G0).1.1) 5 (Nat.le_trans (Zii O) O3) O3 O3)) fun _ _=>?_
      refine Yz (Zf 8 [] (Eh (ps.getD i G0).1.2.2 (((ps.getD i G0).1.2.1-(ps.getD i G0).1.1)^5) (Nat.le_trans (Fg ⟨O,O⟩) O3) (Nat.le_trans (Zjm ⟨O,O⟩) O3))) fun _ _=>?_
      refine Yz (Zvc 90 [6,7,8] (Zax (cA fr (ps.getD i G0)) (cB to (ps.getD i G0)) (cO (ps.getD i G0)) _ _ _ (cX fr to (ps.getD i G0) (ps.getD i G0).2.1.2) (cX fr to (ps.getD i G0) (ps.getD i G0).2.2.1.2) (cX fr to (ps.getD i G0) (ps.getD i G0).2.2.2.2) hMi)) fun⟨s_16,s_17,s_18⟩ ⟨_,hfr⟩=>?_
      refine go 6 ?_
      refine Zw ?_
      exact On (_,_,_,_) (hfr) ⟨rfl,rfl,trivial⟩ ⟨rfl,rfl,rfl,rfl,trivial⟩
    ·refine Np (Nm 93) fun bx_7 ho6=>?_
     refine Zl (n:=0) [(11,1),(14,1),(16,1),(17,1),(18,1),(19,0),(20,0),(21,0),(23,1),(24,3)] ?_
     refine Yz (Zf 9 [51,52,53] (Ze2 _ _ _ _ _ _ _ _ _ ((cA fr (ps.getD i G0))-(ps.getD i G0).1.1) ((cB to (ps.getD i G0))-(cA fr (ps.getD i G0))) ((ps.getD i G0).1.2.1-(ps.getD i G0).1.1) hgi hq1 hq2 ⟨O,O⟩)) fun⟨s_19,s_20,s_21⟩ _=>?_
     refine Yz (Zf 11 [] (Zh (ps.getD i G0).1.2.2)) fun _ _=>?_
     refine Yz (Zf 11 [] (Iw ((ps.getD i G0).1.2.1-(ps.getD i G0).1.1) 5 (Nat.le_trans (Zii O) O3) O3 O3)) fun _ _=>?_
     refine Yz (Zf 11 [] (Eh (ps.getD i G0).1.2.2 (((ps.getD i G0).1.2.1-(ps.getD i G0).1.1)^5) (Nat.le_trans (Fg ⟨O,O⟩) O3) (Nat.le_trans (Zjm ⟨O,O⟩) O3))) fun _ _=>?_
     refine Yz (Zvc 90 [9,10,11] (Zax (cA fr (ps.getD i G0)) (cB to (ps.getD i G0)) (cO (ps.getD i G0)) _ _ _ (cX fr to (ps.getD i G0) (ps.getD i G0).2.1.2) (cX fr to (ps.getD i G0) (ps.getD i G0).2.2.1.2) (cX fr to (ps.getD i G0) (ps.getD i G0).2.2.2.2) hMi)) fun⟨s_22,s_23,s_24⟩ ⟨_,hfr⟩=>?_
     refine go 6 ?_
     refine Zw ?_
     exact On (_,_,_,_) (hfr) ⟨rfl,rfl,trivial⟩ ⟨rfl,rfl,rfl,rfl,trivial⟩
   ·rintro⟨s1,s2,s3,bj⟩ hfr
    dsimp only at hfr
    dsimp only
    refine go 1 ?_
    refine e_li ?_
    refine Zhl (d_mv rfl rfl) rfl rfl rfl ?_
    refine Zhl (d_lbw (i:=93) rfl rfl rfl Tryz.isAgg35 Tryz.sizeOf35 rfl) rfl rfl rfl ?_
    refine Zhl (d_mv rfl rfl) rfl rfl rfl ?_
    refine Zz4 (pre:=[_,_,_,_]) (vs:=[_,_]) _ (ps.getD i G0) (s1,s2,s3) hY (fl_get O hcp) hJ hW hpre rfl rfl rfl rfl rfl ⟨rfl,rfl,trivial⟩ rfl rfl (Ybq hfr 90 rfl rfl rfl) ⟨rfl,rfl,rfl,rfl,trivial⟩ ⟨rfl,rfl,rfl,rfl,trivial⟩ (fun W2 hJ2 hW2=>?_) (fun W2 hJ2 hW2=>?_)
    ·simp only [Xj]
     refine Zhl (Zp (r':= .bool false) (Xt rfl rfl) rfl) rfl rfl rfl ?_
     refine Zz5 ?_
     refine go 9 ⟨O,?_⟩
     exact Xg (i+1,W2) ⟨O1,by rw [fl_t O hcp];exact hJ2,hW2⟩ O1 ⟨rfl,trivial⟩ ⟨rfl,trivial⟩
    ·simp only [Xj]
     refine Zhl (Zp (r':= .bool true) (Xt rfl rfl) rfl) rfl rfl rfl ?_
     refine Zz5 ?_
     refine go 7 ?_
     exact Zw7 (.inl rfl) rfl rfl hJs hJxs (.inr hJ2)
 ·obtain rfl:i=ps.length:=O
  rw [List.take_length]at hJ
  refine go 4 ?_
  exact Zw7 (.inr rfl) rfl rfl hJs hJxs (.inl hJ)
open Go.RowKit (Below)
variable {P:Program} {N:Nat} {sc:Nat→Prop} {env env':Qj} {H H':Hp} {Q Q':Exit→Act→World→Prop} {l:Nat}
def ER(P:Program)(N:Nat)(sc:Nat→Prop)(l:Nat)(c:Code)(Q:Exit→Act→World→Prop)(env:Qj)(H:Hp):Prop:=
 ∀a w,Sat N sc env H a w→c.wpIn (Fence.wide.inRound l) 0 P Q a w
def ndB(o:Oper):Bool:=match o.op with
 | .defer _=>false
 | _=>true
theorem Zjq{ops:List Oper}(h:ops.all ndB=true):Zk5 ops:=fun o ho c hc=>by
 have:=List.all_eq_true.1 h o ho
 unfold ndB at this
 rw [hc]at this;cases this
theorem Zq5{id:Nat}{ops:List Oper}{y:Code}(hnd:ops.all ndB=true)(h:L P N sc ops.toArray ops (Ge (Exit.then (fun a w=>y.wpIn (Fence.wide.inRound l) 0 P Q a w) Q)) env H):ER P N sc l (.seq (.region id ops.toArray false) y) Q env H:=
 fun a w hs=>wpIn_seq (Zyu (Zjq hnd) h hs)
theorem Ztv{id:Nat}{ops:List Oper}(hnd:ops.all ndB=true)(h:L P N sc ops.toArray ops (Ge Q) env H):ER P N sc l (.region id ops.toArray false) Q env H:=
 fun a w hs=>Zyu (Zjq hnd) h hs
theorem x_er{y:Code}(h:ER P N sc l y Q env H):X N sc .normal (Ge (Exit.then (fun a w=>y.wpIn (Fence.wide.inRound l) 0 P Q a w) Q)) env H:=fun a w hs=>h a w hs
theorem x_en(h:∀a w,Sat N sc env H a w→Q .normal a w):X N sc .normal (Ge Q) env H:=fun a w hs=>h a w hs
theorem er_seq{x y:Code}(h:ER P N sc l x (Exit.then (fun a w=>y.wpIn (Fence.wide.inRound l) 0 P Q a w) Q) env H):ER P N sc l (.seq x y) Q env H:=fun a w hs=>wpIn_seq (h a w hs)
theorem Yay{id:Nat}{c:Code}(h:ER P N sc l c (Exit.inBlock id Q) env H):ER P N sc l (.block id c) Q env H:=fun a w hs=>wpIn_block (h a w hs)
theorem Yax{c:Operand}{x y:Code}{b:Bool}(hc:ev env c=some (.bool b))(ht:b=true→ER P N sc l x Q env H)(hf:b=false→ER P N sc l y Q env H):ER P N sc l (.cond c x y) Q env H:=fun a w hs=>by
 cases b with
 | true=>exact wpIn_cond_true (hs.ev hc) (ht rfl a w hs)
 | false=>exact wpIn_cond_false (hs.ev hc) (hf rfl a w hs)
theorem Yff(h:∀a w,Sat N sc env H a w→Q .normal a w):ER P N sc l .skip Q env H:=fun a w hs=>wpIn_skip (h a w hs)
theorem er_ret(h:∀a w,Sat N sc env H a w→Q .ret a w):ER P N sc l .ret Q env H:=fun a w hs=>wpIn_ret (h a w hs)
theorem er_imp(himp:∀a w,Sat N sc env H a w→Sat N sc env' H' a w){c:Code}(h:ER P N sc l c Q env' H'):ER P N sc l c Q env H:=fun a w hs=>h a w (himp a w hs)
theorem Zc0{β:Type}(i k:Nat)(enc:β→Value)(q:β→Pc):∀a w,Sat N sc env H a w→Sat N sc env ((i,Ps k enc q (.slice none 0 0) []) :: H) a w:=fun a w hs=>
 hs.add i _ ⟨Zjr k enc w,fun z hz=>by cases hz⟩ (fun j' jt _ _ Lh b hb hb'=>by
  rcases hb with hb | ⟨z,hz,_⟩
  ·exact absurd rfl hb.1
  ·cases hz) (fun b hb=>by
  rcases hb with hb | ⟨z,hz,_⟩
  ·exact absurd rfl hb.1
  ·cases hz)
theorem Yan{Hall:Hp}{zs:List Zn}{g:Zn}(i j:Nat)(h0:lk Hall i=some (Gc qG zs))(h1:lk Hall j=some (Yk 1 Yu (Qq g.2.1.1) g.2.1.2))(h2:lk Hall (j+1)=some (Yk 1 Yu (Qq g.2.2.1.1) g.2.2.1.2))(h3:lk Hall (j+2)=some (Yk 1 Yu (Qq g.2.2.2.1) g.2.2.2.2)) :
  ∀b,(Gc qG (zs ++ [g])).fp b→∃j q,lk Hall j=some q∧q.fp b:=fun b ⟨z,hz,hb⟩=>by
 rcases List.mem_append.1 hz with q | q
 ·exact⟨i,_,h0,z,q,hb⟩
 ·rw [List.mem_singleton.1 q]at hb
  obtain⟨c,hc,hb⟩:=hb
  simp only [List.mem_cons,List.not_mem_nil,or_false]at hc
  rcases hc with rfl | rfl | rfl
  ·exact⟨j,_,h1,hb⟩
  ·exact⟨j+1,_,h2,hb⟩
  ·exact⟨j+2,_,h3,hb⟩
end Go.Sky
namespace Go.Sky
theorem Zq0(u0 u1 u2 u3 u4 u5 a0 a1 a2 a3 a4 a5:Value):Instr.fill (fun i=>some (i*6,6)) ((List.range (1*6)).map ((Value.agg #[u0,u1,u2,u3,u4,u5]).cells[· % (Value.agg #[u0,u1,u2,u3,u4,u5]).cells.size]!)).toArray [(0,.agg #[a0,a1,a2,a3,a4,a5])]=some #[a0,a1,a2,a3,a4,a5]:=by
 simp [Instr.fill,Value.cells,List.range,List.range.loop]
 try rfl
def Pf(fr to:Int)(ps:List Zn):Bool:=(ps.filter (Kc fr to)).all (Zh7 fr to)
def Zbj(fr to:Int)(ps:List Zn):List Zpv:=if Pf fr to ps=true then(ps.filter (Kc fr to)).map (Ybr fr to)else []
def Zrh(fr to:Int)(ps:List Zn):Int:=if Pf fr to ps=true then 0 else 7
def Zp9(fr to:Int)(x:Zn)(g:SL×SL×SL):Zn:=((cA fr x,cB to x,mdO (cO x) (cG fr to x)),(g.1,mdL (cO x) (cG fr to x) (cX fr to x x.2.1.2)),(g.2.1,mdL (cO x) (cG fr to x) (cX fr to x x.2.2.1.2)),(g.2.2,mdL (cO x) (cG fr to x) (cX fr to x x.2.2.2.2)))
def Zwu(fr to:Int)(ps:List Zn)(k:Nat)(zs:List Zn):Prop:=zs.map unS=((ps.filter (Kc fr to)).take k).map (Ybr fr to)∧((ps.filter (Kc fr to)).take k).all (Zh7 fr to)=true
theorem Zkf{α:Type}{xs:List α}{k:Nat}{x:α}(h:xs[k]? = some x):xs.take (k+1)=xs.take k ++ [x]:=by
 rw [List.take_add_one,h];rfl
theorem cutI_0(fr to:Int)(ps:List Zn):Zwu fr to ps 0 []:=⟨by rw [List.take_zero];rfl,by rw [List.take_zero];rfl⟩
theorem cutI_s{fr to:Int}{ps zs:List Zn}{k:Nat}{x:Zn}{g:SL×SL×SL}(h:Zwu fr to ps k zs)(hx:(ps.filter (Kc fr to))[k]? = some x)(hk:Zh7 fr to x=true):Zwu fr to ps (k+1) (zs ++ [Zp9 fr to x g]):=by
 obtain⟨h1,h2⟩:=h
 refine⟨?_,?_⟩
 ·rw [Zkf hx,List.map_append,List.map_append,h1];rfl
 ·rw [Zkf hx,List.all_append,h2];simp [hk]
theorem cutI_l{fr to:Int}{ps zs:List Zn}{k:Nat}(h:Zwu fr to ps k zs)(hk:k≤ps.length):zs.length≤ps.length:=by
 have:=congrArg List.length h.1
 rw [List.length_map,List.length_map,List.length_take]at this
 have:=List.length_filter_le (Kc fr to) ps
 omega
theorem cut_no{fr to:Int}{ps:List Zn}{k:Nat}{x:Zn}(hx:(ps.filter (Kc fr to))[k]? = some x)(hk:Zh7 fr to x=false):Pf fr to ps=false:=by
 unfold Pf
 cases hb:(ps.filter (Kc fr to)).all (Zh7 fr to)with
 | false=>rfl
 | true=>
  have:=List.all_eq_true.1 hb x (List.mem_of_getElem? hx)
  rw [hk]at this;cases this
theorem cutI_e{fr to:Int}{ps zs:List Zn}(h:Zwu fr to ps (ps.filter (Kc fr to)).length zs):zs.map unS=Zbj fr to ps∧Zrh fr to ps=0:=by
 obtain⟨h1,h2⟩:=h
 rw [List.take_length]at h1 h2
 exact⟨by unfold Zbj Pf;rw [if_pos h2];exact h1,by unfold Zrh Pf;rw [if_pos h2]⟩
theorem cut_f{fr to:Int}{ps:List Zn}(h:Pf fr to ps=false):([]:List Zn).map unS=Zbj fr to ps∧Zrh fr to ps=7:=by
 unfold Zbj Zrh
 rw [if_neg (by rw [h];exact Bool.false_ne_true),if_neg (by rw [h];exact Bool.false_ne_true)]
 exact⟨rfl,rfl⟩
def spF(ps:List Zn):Int:=(ps.getD 0 G0).1.1
def spL(ps:List Zn):Int:=(ps.getD (ps.length-1) G0).1.2.1
open Go.Proofs
set_option synthInstance.maxHeartbeats 0
set_option synthInstance.maxSize 100000
set_option maxRecDepth 20000
set_option maxHeartbeats 4000000
set_option linter.unusedSimpArgs false
theorem Zx2(v:Value)(ps:List Zn)(fr to:Int):Cal Tryz.prog 181 #[v,.int .i64 fr,.int .i64 to] [Ps 6 Mp qG v ps] true (G:=Nat×Nat×Nat) (fun g=>True) (fun g=> .func (.func 229) #[] #[.pointer (some ⟨g.1,0,none⟩),.pointer (some ⟨g.2.1,0,none⟩),.pointer (some ⟨g.2.2,0,none⟩)]) (fun g=>[Ir g.1 38 #[v],Ir g.2.1 3 #[.int .i64 fr],Ir g.2.2 3 #[.int .i64 to]]):=by
 refine Zd Tryz.func181 Tryz.ntmps181 fun w0 sc hw hsc=>?_
 refine Zwm (Md 1 rfl Yl) (fun sl hsl=>?_)
 subst hsl
 refine go 2 ?_
 refine Yc (Yb 2) fun bx _=>?_
 refine Yc (Yb 3) fun bx_2 _=>?_
 refine Yc (Yb 4) fun bx_3 _=>?_
 refine go 5 ?_
 refine dt (d_mkc (vs:=[]) (us:=[_,_,_]) rfl trivial ⟨rfl,rfl,rfl,trivial⟩) ?_
 refine go 4 ?_
 refine Yw (Zgw 2 rfl rfl) ?_
 refine Yw (Zgw 3 rfl rfl) ?_
 refine Yw (Zgw 4 rfl rfl) ?_
 exact Xo hsc (_,_,_) Tryz.results181 rfl trivial (Nz 2 (Nz 3 (Nz 4 Za)))
@[reducible,instance] def encGI:EncT Tryz.prog 35 6 Mp:=⟨pG⟩
theorem Zx4(v:Value)(ps:List Zn)(fr to:Int)(hsg:∀g∈ps,SgG g)(hM:∀g∈ps,Kc fr to g=true→MdG fr to g)(hpl:ps.length≤256):Cal Tryz.prog 121 #[v,.int .i64 fr,.int .i64 to] [Ps 6 Mp qG v ps] true (G:=Value×List Zn) (fun g=>g.2.map unS=Zbj fr to ps) (fun g=> .tuple #[g.1,.int .i64 (Zrh fr to ps)]) (fun g=>[Ps 6 Mp qG g.1 g.2]):=by
 refine Ygg Tryz.func121 rfl Tryz.ntmps121 rfl ⟨rfl,trivial⟩ ?_
 intro w0 sc hw hsc;have hw:=Hw.mk hw
 simp only [Ql,Xj]
 refine go 2 ?_
 refine Yc (Zr 2) fun bx _=>?_
 refine Yc (Zr 3) fun bx_2 _=>?_
 refine go 8 ?_
 refine cl 4 [1] (Zx2 _ _ _ _) fun⟨b,b_2,b_3⟩ _=>?_
 refine go 3 ?_
 refine Zi (Nw 70 6 35 Mp) ?_
 refine Zi (Pb qG 73) ?_
 refine e_rfi (pre:=[Ir b 38 #[v],Ir b_2 3 #[.int .i64 fr],Ir b_3 3 #[.int .i64 to],Ps 6 Mp qG v ps]) (w0:=w0) (fun(_:Nat) (gg:Value×List Zn)=>[(0,Xe w0 (fun _=>False)),(1,Ps 6 Mp qG v ps),(2,box bx 38 #[gg.1]),(3,box bx_2 26 #[.int .i64 0]),(70,Pu 6 35 Mp gg.1 gg.2),(73,Gc qG gg.2)]) (fun k gg=>Zwu fr to ps k gg.2) (fun(_:Unit)=>[(0,Xe w0 (fun _=>False)),(2,box bx 38 #[.slice none 0 0]),(3,box bx_2 26 #[.int .i64 7])]) (fun _=>Pf fr to ps=false) (.slice none 0 0,[]) rfl (by intro args w;first | exact enters_of Tryz.func229 O5 rfl args w | exact Tryz.call229 args w) (Zvi v ps b b_2 b_3 fr to hsg hM) ?_ (fun _ _=>rfl) rfl hw.h rfl (cutI_0 fr to ps) ⟨rfl,rfl,rfl,rfl,rfl,rfl,trivial⟩ (fun _ _=>⟨rfl,rfl⟩) (fun _=>⟨rfl,rfl⟩) (fun k x gi gg hx hinv l Mf Wa=>?_) rfl (fun gg hinv D od=>?_) (fun _ hxx=>?_)
 ·intro p hp
  simp only [List.mem_cons,List.not_mem_nil,or_false]at hp
  rcases hp with rfl | rfl | rfl | rfl
  ·exact⟨rfl,4,rfl⟩
  ·exact⟨rfl,5,rfl⟩
  ·exact⟨rfl,6,rfl⟩
  ·exact⟨rfl,1,rfl⟩
 ·obtain⟨vr,zs⟩:=gg
  have hkl:k≤ps.length:=Nat.le_trans (Nat.le_of_lt (List.getElem?_eq_some_iff.1 hx).1) (List.length_filter_le _ _)
  have hzl:zs.length≤ps.length:=cutI_l hinv hkl
  refine er_imp (env':=[(15,.bool (Zh7 fr to x)),(14,.agg #[.int .i64 (cA fr x),.int .i64 (cB to x),.int .i64 (mdO (cO x) (cG fr to x)),Qq gi.1,Qq gi.2.1,Qq gi.2.2]),(6,.pointer (some ⟨bx,0,none⟩)),(7,.pointer (some ⟨bx_2,0,none⟩))]) (H':=[(92,Xe Wa Mf),(100,Yk 1 Yu (Qq gi.1) (mdL (cO x) (cG fr to x) (cX fr to x x.2.1.2))),(101,Yk 1 Yu (Qq gi.2.1) (mdL (cO x) (cG fr to x) (cX fr to x x.2.2.1.2))),(102,Yk 1 Yu (Qq gi.2.2) (mdL (cO x) (cG fr to x) (cX fr to x x.2.2.2.2))),(0,Xe w0 (fun _=>False)),(1,Ps 6 Mp qG v ps),(2,box bx 38 #[vr]),(3,box bx_2 26 #[.int .i64 0]),(70,Pu 6 35 Mp vr zs),(73,Gc qG zs)]) (fun a w hs=>hs.weaken ⟨rfl,rfl,rfl,rfl,trivial⟩ ⟨rfl,rfl,rfl,rfl,rfl,rfl,rfl,rfl,rfl,rfl,trivial⟩) ?_
  refine Zq5 rfl ?_
  refine Yc (Zr 8) fun b8 _=>?_
  refine go 1 ?_
  refine go 1 ?_
  refine x_er ?_
  refine Ztv rfl ?_
  refine go 1 ?_
  refine go 1 ?_
  refine x_en fun a w hs=>⟨rfl,[(8,.pointer (some ⟨b8,0,none⟩)),(9,.bool (Zh7 fr to x)),(6,.pointer (some ⟨bx,0,none⟩)),(7,.pointer (some ⟨bx_2,0,none⟩))],[(8,box b8 35 #[.int .i64 (cA fr x),.int .i64 (cB to x),.int .i64 (mdO (cO x) (cG fr to x)),Qq gi.1,Qq gi.2.1,Qq gi.2.2]),(100,Yk 1 Yu (Qq gi.1) (mdL (cO x) (cG fr to x) (cX fr to x x.2.1.2))),(101,Yk 1 Yu (Qq gi.2.1) (mdL (cO x) (cG fr to x) (cX fr to x x.2.2.1.2))),(102,Yk 1 Yu (Qq gi.2.2) (mdL (cO x) (cG fr to x) (cX fr to x x.2.2.2.2))),(0,Xe w0 (fun _=>False)),(1,Ps 6 Mp qG v ps),(2,box bx 38 #[vr]),(3,box bx_2 26 #[.int .i64 0]),(70,Pu 6 35 Mp vr zs),(73,Gc qG zs)],rfl,(fun q h=>by cases h;rfl),⟨.inl rfl,.inr (fun b hb=>⟨100,_,rfl,hb⟩),.inr (fun b hb=>⟨101,_,rfl,hb⟩),.inr (fun b hb=>⟨102,_,rfl,hb⟩),.inr (fun b hb=>⟨0,_,rfl,hb⟩),.inr (fun b hb=>⟨1,_,rfl,hb⟩),.inl rfl,.inl rfl,.inl rfl,.inr (fun b hb=>⟨73,_,rfl,hb⟩),trivial⟩,hs.weaken ⟨rfl,rfl,rfl,rfl,trivial⟩ ⟨rfl,rfl,rfl,rfl,rfl,rfl,rfl,rfl,rfl,rfl,rfl,trivial⟩,fun Wb=>?_⟩
  refine Yay ?_
  refine er_seq ?_
  refine Zq5 rfl ?_
  refine go 2 ?_
  refine go 1 ?_
  refine x_er ?_
  refine Yax rfl (fun hk=>?_) (fun hk=>?_)
  ·refine Zq5 rfl ?_
   refine go 2 ?_
   refine go 1 ?_
   refine x_er ?_
   exact er_ret fun a w hs=>Or.inr ⟨rfl,(),cut_no hx (Yb9 hk),⟨.inr (fun b hb=>⟨0,_,rfl,hb⟩),.inl rfl,.inl rfl,trivial⟩,[],hs.weaken trivial ⟨rfl,rfl,rfl,rfl,trivial⟩⟩
  ·refine Yff ?_
   refine Ztv rfl ?_
   refine go 2 ?_
   refine tt (Qz (i:=12) (ivs:=[(0,_)]) (enc:=Mp) [(Zp9 fr to x gi)] rfl rfl ⟨rfl,rfl,trivial⟩ Tryz.underlying38 Tryz.ti35 rfl rfl (Zq0 _ _ _ _ _ _ _ _ _ _ _ _) rfl rfl pG.cells rfl rfl hw.h) (fun v2 _=>?_)
   refine tt (Kg (i:=70) (j:=12) (by_:=96) rfl rfl rfl rfl rfl rfl O3 rfl (Yj pG) Tryz.underlying38 Tryz.ti35 rfl pG rfl rfl rfl O8 O3 rfl hw.h) (fun v3 _=>?_)
   refine go 2 ?_
   refine Yw (Pb qC 71) ?_
   refine Yw (Xl (q:=qC) (z:=(Zp9 fr to x gi).2.1) 71 100 71 rfl rfl rfl rfl rfl) ?_
   refine Yw (Xl (q:=qC) (z:=(Zp9 fr to x gi).2.2.1) 71 101 71 rfl rfl rfl rfl rfl) ?_
   refine Yw (Xl (q:=qC) (z:=(Zp9 fr to x gi).2.2.2) 71 102 71 rfl rfl rfl rfl rfl) ?_
   refine Yw (Xl (q:=qG) (z:=(Zp9 fr to x gi)) 73 71 73 rfl rfl rfl rfl rfl) ?_
   exact x_en fun a w hs=>Or.inl ⟨rfl,(v3,zs ++ [(Zp9 fr to x gi)]),cutI_s hinv hx (Yca hk),⟨.inr (fun b hb=>⟨0,_,rfl,hb⟩),.inr (fun b hb=>⟨1,_,rfl,hb⟩),.inl rfl,.inl rfl,.inl rfl,.inr (Yan 73 100 rfl rfl rfl rfl),trivial⟩,[],hs.weaken trivial ⟨rfl,rfl,rfl,rfl,rfl,rfl,rfl,trivial⟩⟩
 ·obtain⟨vr,zs⟩:=gg
  obtain⟨he1,he2⟩:=cutI_e hinv
  refine go 3 ?_
  refine go 1 ?_
  refine x_en fun a w hs=>⟨rfl,[(6,.pointer (some ⟨bx,0,none⟩)),(7,.pointer (some ⟨bx_2,0,none⟩))],[(0,Xe w0 (fun _=>False)),(1,Ps 6 Mp qG v ps),(2,box bx 38 #[vr]),(3,box bx_2 26 #[.int .i64 0]),(70,Pu 6 35 Mp vr zs),(73,Gc qG zs)],rfl,⟨⟨_,rfl,rfl,fun _ h=>h⟩,⟨_,rfl,rfl,fun _ h=>h⟩,⟨_,rfl,rfl,fun _ h=>h⟩,⟨_,rfl,rfl,fun _ h=>h⟩,⟨_,rfl,rfl,fun _ h=>h⟩,⟨_,rfl,rfl,fun _ h=>h⟩,trivial⟩,hs.weaken ⟨rfl,rfl,trivial⟩ ⟨rfl,rfl,rfl,rfl,rfl,rfl,rfl,trivial⟩,?_⟩
  refine Yw (Pg 70 rfl rfl pG) ?_
  refine Yw (Kz 70 73 72 rfl rfl rfl rfl) ?_
  exact Nu hsc (vr,zs) Tryz.results121 (by rw [he2]) he1 (Nz 72 Za)
 ·refine Yw (Zc0 72 6 Mp qG) ?_
  exact Nu hsc (.slice none 0 0,[]) Tryz.results121 (by rw [(cut_f hxx).2]) (cut_f hxx).1 (Nz 72 Za)
open Go.RowKit (Below)
variable {P:Program} {N:Nat} {sc:Nat→Prop} {env env':Qj} {H H':Hp} {Q Q':Exit→Act→World→Prop} {M:Nat→Prop}
def Cx(l:List Int)(r:List Value):Array Value:=(l.map (Value.int .i64) ++ r).toArray
theorem Zgc(l:List Int)(r:List Value):(Cx l r).size=l.length+r.length:=by simp [Cx]
theorem Yc6{l:List Int}{r:List Value}{j:Nat}(h:j<l.length):(Cx l r)[j]? = some (.int .i64 (l.getD j 0)):=by
 simp [Cx,List.getElem?_append_left,h,List.getD_eq_getElem?_getD]
theorem Yc5{l:List Int}{r:List Value}{j:Nat}{v:Int}(h:j<l.length):Ha (Cx l r) j [.int .i64 v]=Cx (l.set j v) r:=by
 unfold Ha Cx
 congr 1
 rw [List.set_eq_take_append_cons_drop,if_pos h,List.map_append,List.map_cons,List.map_take,List.map_drop]
 have h1:j≤(l.map (Value.int .i64)).length:=by rw [List.length_map];omega
 have h2:j+1≤(l.map (Value.int .i64)).length:=by rw [List.length_map];omega
 simp only [List.length_cons,List.length_nil,Nat.zero_add]
 rw [List.take_append_of_le_length h1,List.drop_append_of_le_length h2]
 simp
theorem Zrq(l:List Int):cellsOf Yu l=l.map (Value.int .i64):=by
 induction l with
 | nil=>rfl
 | cons x l ih=>rw [show cellsOf Yu (x :: l)=(Yu x).cells.toList ++ cellsOf Yu l from rfl,ih];rfl
theorem f_obox{e:TypeId}{v:Value}{xs:List Int}(i:Nat)(hi:lk H i=some (Pu 1 e Yu v xs))(hx:xs≠[]):∀a w,Sat N sc env H a w→∃y:Nat×Nat×List Value,
  v= .slice (some ⟨y.1,0,none⟩) xs.length y.2.1∧xs.length+y.2.2.length=y.2.1∧y.2.1≤maxLen∧w.heap[y.1]? = some (.cells (Cx xs y.2.2) e (0,0)):=fun a w hs=>by
 have hrow:w.ownsRow 0 e 1 v xs.length (cellsOf Yu xs):=hs.hold i _ hi
 rcases hrow.2 with⟨rfl,hn⟩ | ⟨g,cap,cur,rfl,hb,hg,hnc,hcm,hcs,htake⟩
 ·exact absurd (List.eq_nil_of_length_eq_zero hn) hx
 ·rw [Nat.mul_one]at hcs htake
  refine⟨(g,cap,cur.toList.drop xs.length),rfl,?_,hcm,?_⟩
  ·show xs.length+(cur.toList.drop xs.length).length=cap
   have h9:cur.toList.length=cap:=by rw [Array.length_toList];exact hcs
   rw [List.length_drop,h9];omega
  ·show w.heap[g]? = some (.cells (Cx xs (cur.toList.drop xs.length)) e (0,0))
   rw [show Cx xs (cur.toList.drop xs.length)=cur by
    unfold Cx
    rw [←Zrq,←htake,List.take_append_drop]]
   exact hg
theorem s_obox {e:TypeId} {b c:Nat} {xs:List Int} {r:List Value} {w0:World} {M0:Nat→Prop} (i:Nat) (hi:lk H i=some (Pu 1 e Yu (.slice (some ⟨b,0,none⟩) xs.length c) xs)) (hi0:Nat.beq i 0=false) (h0:lk H 0=some (Xe w0 M0)) (hw:∀b,w0.heap.size≤b→sc b)
  {a:Act} {w:World} (hs:Sat N sc env H a w) (hh:w.heap[b]? = some (.cells (Cx xs r) e (0,0))):Sat N sc env ((i,box b e (Cx xs r)) :: H) a w:=
 hs.upd hi rfl (fun e=>by subst e;simp at hi0) (Chg.refl _ w) hh (fun k hk=> .inl (by show some b=some k;rw [show k=b from hk])) h0 hw
theorem e_obox {cd:Code} {e:TypeId} {v:Value} {xs:List Int} {w0:World} {M0:Nat→Prop} (i:Nat) (hi:lk H i=some (Pu 1 e Yu v xs)) (hi0:Nat.beq i 0=false) (hx:xs≠[]) (h0:lk H 0=some (Xe w0 M0)) (hw:∀b,w0.heap.size≤b→sc b)
  (h:∀(b c:Nat) (r:List Value),v= .slice (some ⟨b,0,none⟩) xs.length c→xs.length+r.length=c→c≤maxLen→E P N sc cd Q env ((i,box b e (Cx xs r)) :: H)):E P N sc cd Q env H:=fun a w hs=>by
 obtain⟨⟨b,c,r⟩,hv,h1,h2,h3⟩:=f_obox i hi hx a w hs
 subst hv
 exact h b c r rfl h1 h2 a w (s_obox i hi hi0 h0 hw hs h3)
theorem Ydy{e:TypeId}{b c:Nat}{xs:List Int}{r:List Value}{w0:World}{M0:Nat→Prop}(i:Nat)(hi:lk H i=some (box b e (Cx xs r)))(hi0:Nat.beq i 0=false)(hc:xs.length+r.length=c)(hm:c≤maxLen)(h0:lk H 0=some (Xe w0 M0))(hw:∀b,w0.heap.size≤b→sc b) :
  ∀a w,Sat N sc env H a w→Sat N sc env ((i,Pu 1 e Yu (.slice (some ⟨b,0,none⟩) xs.length c) xs) :: H) a w:=fun a w hs=>by
 have hh:w.heap[b]? = some (.cells (Cx xs r) e (0,0)):=hs.hold i _ hi
 refine hs.upd hi rfl (fun e=>by subst e;simp at hi0) (Chg.refl _ w) ?_ (fun k hk=> .inl (by cases hk;rfl)) h0 hw
 refine⟨by rw [Zrq,List.length_map,Nat.mul_one],.inr ⟨b,c,_,rfl,Nat.zero_le _,hh,O,hm,by rw [Zgc,Nat.mul_one];exact hc,?_⟩⟩
 rw [Zrq,Nat.mul_one]
 show((xs.map (Value.int .i64)) ++ r).take xs.length=_
 rw [List.take_append_of_le_length (by rw [List.length_map];exact Nat.le_refl _),List.take_of_length_le (by rw [List.length_map];exact Nat.le_refl _)]
theorem Dr {o:Oper} {x y:Operand} {t e:TypeId} {b off n c i:Nat} {kd:IntKind} {m:Int} (ho:o.op= .indexAddr t x y) (hx:ev env x=some (.slice (some ⟨b,off,none⟩) n c)) (hy:ev env y=some (.int kd m))
  (ht:P.underlying t=some (.slice e)) (hk:∀w,(sizeOf e).run P w= .ok 1 w) (him:m=(i:Int)) (hlt:i<n):Oy P N sc o env H (.pointer (some ⟨b,off+i,none⟩)):=fun a w hs=>by
 subst him
 simp [execOp,ho,hs.ev hx,hs.ev hy,Instr.indexAt,asIntOf,run_underlying ht,hk,hlt,Pe]
theorem Zl1 {o:Oper} {x:Operand} {t e:TypeId} {ad:Option Addr} {n c:Nat} (ho:o.op= .call { callee:= .builtin .len,args:=#[x],argTypes:=#[t] })
  (hx:ev env x=some (.slice ad n c)) (ht:P.underlying t=some (.slice e)):Oy P N sc o env H (.int .i64 (n:Int)):=fun a w hs=>by
 simp [execOp,ho,resolve,hs.ev hx,invoke,builtin,Builtin.len_,run_underlying ht,goInt]
theorem Zai{o:Oper}{x:Operand}{t tb:TypeId}{i b j:Nat}{l:List Int}{r:List Value}(ho:o.op= .load t x)(hx:ev env x=some (.pointer (some ⟨b,j,none⟩)))(hH:lk H i=some (box b tb (Cx l r)))(ht:∀w,(isAgg t).run P w= .ok false w)(hj:j<l.length) :
  Oy P N sc o env H (.int .i64 (l.getD j 0)):=Zwt ho hx hH ht (Yc6 hj)
theorem Zm1 {o:Oper} {x y:Operand} {t tb:TypeId} {i b j:Nat} {l:List Int} {r:List Value} {v:Int} {w0:World} {M0:Nat→Prop} (ho:o.op= .store t x y) (hd:o.dst=none)
  (hx:ev env x=some (.pointer (some ⟨b,j,none⟩))) (hy:ev env y=some (.int .i64 v)) (hH:lk H i=some (box b tb (Cx l r))) (hi0:i≠0) (hk:∀w,(sizeOf t).run P w= .ok 1 w) (hj:j<l.length)
  (h0:lk H 0=some (Xe w0 M0)) (hw:∀b,w0.heap.size≤b→sc b) (hM:M b) :
  T P N sc M o env H (G:=Unit) (fun _=>True) (fun _=>env) (fun _=>(i,box b tb (Cx (l.set j v) r)) :: H):=by
 rw [←Yc5 hj]
 exact Zgl (vs:=[.int .i64 v]) ho hd hx hy hH hi0 rfl hk rfl (by rw [Zgc];simp;omega) (fun u hu=>Zz (by rw [List.mem_singleton.1 hu];rfl)) rfl h0 hw hM
theorem Ybh {o:Oper} {x y:Operand} {t e:TypeId} {b off n c i:Nat} {kd:IntKind} {m:Int} (ho:o.op= .slice t x (some y) none none) (hx:ev env x=some (.slice (some ⟨b,off,none⟩) n c)) (hy:ev env y=some (.int kd m))
  (ht:P.underlying t=some (.slice e)) (hk:∀w,(sizeOf e).run P w= .ok 1 w) (him:m=(i:Int)) (hlt:i<n) (hn:n≤c):Oy P N sc o env H (.slice (some ⟨b,off+i,none⟩) (n-i) (c-i)):=fun a w hs=>by
 subst him
 have h4:i≤n:=O
 have h6:i<c:=O
 simp [execOp,ho,hs.ev hx,hs.ev hy,Instr.sliceAt,Instr.slice,Instr.sliceBounds,Instr.sliceBound,asIntOf,run_underlying ht,hk,h4,h6,hn,Pe]
 intro h7;omega
theorem d_prew {o:Oper} {x y:Operand} {t e:TypeId} {b n c i:Nat} {kd:IntKind} {m:Int} (ho:o.op= .slice t x none (some y) none) (hx:ev env x=some (.slice (some ⟨b,0,none⟩) n c)) (hy:ev env y=some (.int kd m))
  (ht:P.underlying t=some (.slice e)) (hk:∀w,(sizeOf e).run P w= .ok 1 w) (him:m=(i:Int)) (hlt:i≤n) (hn:n≤c):Oy P N sc o env H (.slice (some ⟨b,0,none⟩) i c):=fun a w hs=>by
 subst him
 have h6:i≤c:=O
 simp [execOp,ho,hs.ev hx,hs.ev hy,Instr.sliceAt,Instr.slice,Instr.sliceBounds,Instr.sliceBound,asIntOf,run_underlying ht,hk,hlt,h6,Pe]
theorem t_clw {o:Oper} {x:Operand} {t te:TypeId} {i b lo n c':Nat} {l:List Int} {r:List Value} {w0:World} {M0:Nat→Prop}
  (ho:o.op= .call { callee:= .builtin .clear,args:=#[x],argTypes:=#[t] }) (hd:o.dst=none)
  (hx:ev env x=some (.slice (some ⟨b,lo,none⟩) n c')) {tb:TypeId} (hH:lk H i=some (box b tb (Cx l r))) (hi0:i≠0)
  (hn:0<n) (hlo:lo+n=l.length) (ht:P.underlying t=some (.slice te)) (hk:∀w,(sizeOf te).run P w= .ok 1 w)
  (hz:∀w,(zeroValue te).run P w= .ok (.int .i64 0) w)
  (h0:lk H 0=some (Xe w0 M0)) (hw:∀b,w0.heap.size≤b→sc b) (hM:M b) :
  T P N sc M o env H (G:=Unit) (fun _=>True) (fun _=>env) (fun _=>(i,box b tb (Cx (l.take lo) (List.replicate n (Value.int .i64 0) ++ r))) :: H):=fun a w hs K Q hK=>by
 have hb:w.heap[b]? = some (.cells (Cx l r) tb (0,0)):=hs.hold i _ hH
 have hzc:(Builtin.zeroCells (Value.int .i64 0).cells n).toList=List.replicate n (Value.int .i64 0):=by
  apply List.ext_getElem
  ·simp [Builtin.zeroCells,Value.cells]
  ·intro i h2 h3
   simp [Builtin.zeroCells,Value.cells,Nat.mod_one]
 have hst:=run_storeCells_at P b lo tb (List.replicate n (Value.int .i64 0)) 0 (Cx l r) w hb (by rw [Zgc,List.length_replicate];omega) (fun u hu=>by rw [List.eq_of_mem_replicate hu];rfl)
 simp only [Nat.add_zero,List.length_replicate]at hst
 have hcs:((Cx l r).toList.take lo ++ List.replicate n (Value.int .i64 0) ++ (Cx l r).toList.drop (lo+n)).toArray=Cx (l.take lo) (List.replicate n (Value.int .i64 0) ++ r):=by
  unfold Cx
  congr 1
  show((l.map (Value.int .i64) ++ r).take lo ++ _) ++ (l.map (Value.int .i64) ++ r).drop (lo+n)=_
  rw [List.take_append_of_le_length (by rw [List.length_map];omega),List.drop_append_of_le_length (by rw [List.length_map];omega),List.drop_eq_nil_of_le (by rw [List.length_map];omega),List.map_take,List.nil_append,List.append_assoc]
 rw [hcs]at hst
 obtain⟨m,rfl⟩:∃m,n=m+1:=⟨n-1,O⟩
 have hr2:(execOp a.eval o).run P w= .ok (.value (.tuple #[])) (w.setRow b (Cx (l.take lo) (List.replicate (m+1) (Value.int .i64 0) ++ r))):=by
  simp only [execOp,ho,resolve,invoke,builtin]
  simp [hs.ev hx,Builtin.clear_,run_underlying ht,hz,hzc,hst]
 unfold Oper.wp
 rw [hr2]
 show K (a.put o.dst _) _
 rw [hd]
 exact hK () _ _ trivial ((hs.upd hH rfl hi0 (q:=box b tb (Cx (l.take lo) (List.replicate (m+1) (Value.int .i64 0) ++ r))) (Ki (M:=fun k=>k=b) _ rfl) (setRow_heap w b _ _ tb _ hb) (fun k hk=> .inl hk) h0 hw).put_none _) (Ki _ hM)
theorem res0{a:Act}{w:World}{fn:Func}(hs:Sat N sc env H a w)(hf:fn.results=#[]):(results fn a.tmps).run P w= .ok (.tuple #[]) w:=by
 simp [results,hf]
end Go.Sky
namespace Go.Sky
def Srt(l:List Int)(n:Nat):Prop:=∀p q,p<q→q<n→l.getD p 0≤l.getD q 0
def Sst(l:List Int)(n:Nat):Prop:=∀p q,p<q→q<n→l.getD p 0<l.getD q 0
def Ycy(l:List Int)(i j:Nat):Prop:=∀p q,p<q→q≤i→q≠j→l.getD p 0≤l.getD q 0
def Sam(l m:List Int):Prop:=m.length=l.length∧∀x,x∈m↔x∈l
theorem Sam.rfl'(l:List Int):Sam l l:=⟨rfl,fun _=>Iff.rfl⟩
theorem Fv{l:List Int}{i j:Nat}{v:Int}(hi:i<l.length):(l.set i v).getD j 0=if j=i then v else l.getD j 0:=Zel hi
def swp(l:List Int)(j:Nat):List Int:=(l.set j (l.getD (j-1) 0)).set (j-1) (l.getD j 0)
theorem Ztk(l:List Int)(j:Nat):(swp l j).length=l.length:=by simp [swp]
theorem Cm{l:List Int}{j:Nat}(hj:j<l.length)(h1:1≤j)(k:Nat):(swp l j).getD k 0=if k=j-1 then l.getD j 0 else if k=j then l.getD (j-1) 0 else l.getD k 0:=by
 unfold swp
 rw [Fv (by rw [List.length_set];omega),Fv hj]
theorem Hl{l:List Int}{x:Int} : x∈l↔∃k,k<l.length∧l.getD k 0=x:=by
 constructor
 ·intro h
  obtain⟨k,hk,e⟩:=List.mem_iff_getElem.1 h
  exact⟨k,hk,by rw [List.getD_eq_getElem?_getD,List.getElem?_eq_getElem hk];exact e⟩
 ·rintro⟨k,hk,rfl⟩
  exact Zu hk
theorem Zso{l:List Int}{j:Nat}(hj:j<l.length)(h1:1≤j):Sam l (swp l j):=⟨Ztk l j,fun x=>by
 rw [Hl,Hl,Ztk]
 constructor
 ·rintro⟨k,hk,e⟩
  rw [Cm hj h1]at e
  by_cases a:k=j-1
  ·rw [if_pos a]at e;exact⟨j,hj,e⟩
  ·rw [if_neg a]at e
   by_cases b:k=j
   ·rw [if_pos b]at e;exact⟨j-1,O,e⟩
   ·rw [if_neg b]at e;exact⟨k,hk,e⟩
 ·rintro⟨k,hk,e⟩
  by_cases a:k=j-1
  ·exact⟨j,hj,by rw [Cm hj h1,if_neg O,if_pos rfl,←a];exact e⟩
  ·by_cases b:k=j
   ·exact⟨j-1,O,by rw [Cm hj h1,if_pos rfl,←b];exact e⟩
   ·exact⟨k,hk,by rw [Cm hj h1,if_neg a,if_neg b];exact e⟩⟩
theorem Sam.trans{l m n:List Int}(h:Sam l m)(h2:Sam m n):Sam l n:=⟨h2.1.trans h.1,fun x=>(h2.2 x).trans (h.2 x)⟩
theorem srtx_0{l:List Int}{i:Nat}(h:Srt l i):Ycy l i i:=fun p q h1 h2 h3=>h p q h1 O
theorem Zm7{l:List Int}{i j:Nat}(h:Ycy l i j)(hj:j<l.length)(h1:1≤j)(hji:j≤i)(hlt:l.getD j 0<l.getD (j-1) 0):Ycy (swp l j) i (j-1):=fun p q h2 h3 h4=>by
 rw [Cm hj h1,Cm hj h1,if_neg h4]
 by_cases a:q=j
 ·rw [if_pos a]
  by_cases b:p=j-1
  ·rw [if_pos b];omega
  ·rw [if_neg b,if_neg O]
   exact h p (j-1) O O O
 ·rw [if_neg a]
  by_cases b:p=j-1
  ·rw [if_pos b]
   exact h j q O h3 a
  ·rw [if_neg b]
   by_cases c:p=j
   ·rw [if_pos c];exact h (j-1) q O h3 a
   ·rw [if_neg c];exact h p q h2 h3 a
theorem Zxv{l:List Int}{i j:Nat}(h:Ycy l i j)(hj:j≤i)(hh:j=0∨(1≤j∧¬l.getD j 0<l.getD (j-1) 0)):Srt l (i+1):=fun p q h1 h2=>by
 by_cases a:q=j
 ·rcases hh with b | ⟨b,c⟩
  ·omega
  ·subst a
   by_cases d:p=q-1
   ·subst d;omega
   ·have:=h p (q-1) O O O
    omega
 ·exact h p q h1 O a
theorem srt_1(l:List Int):Srt l 1:=fun p q h1 h2=>O
structure Cmp (xs zs:List Int):Prop where
 s:Sst zs zs.length
 m:∀x,x∈zs↔x∈xs
theorem Zxu{l:List Int}{n:Nat}(h:Srt l n)(hd:∀q,1≤q→q<n→l.getD q 0≠l.getD (q-1) 0):Sst l n:=fun p q h1 h2=>by
 have h3:=hd q O h2
 have h4:=h (q-1) q O h2
 rcases Nat.lt_or_eq_of_le (show p≤q-1 by omega)with h5 | h5
 ·have:=h p (q-1) h5 O;omega
 ·subst h5;omega
theorem Yf4{l:List Int}(h:Srt l l.length)(hd:∀q,1≤q→q<l.length→l.getD q 0≠l.getD (q-1) 0):Cmp l l:=⟨Zxu h hd,fun x=>Iff.rfl⟩
structure Cml (xs l:List Int) (m k:Nat):Prop where
 k1:1≤k
 km:k<m
 ml:m≤xs.length
 ll:l.length=xs.length
 r:∀q,m≤q+1→l.getD q 0=xs.getD q 0
 s:Sst l k
 e:∀x,(∃p,p<k∧l.getD p 0=x)↔∃p,p<m∧xs.getD p 0=x
 z:l.getD (k-1) 0=xs.getD (m-1) 0
theorem cml_0{xs:List Int}{k:Nat}(hs:Srt xs xs.length)(hd:∀q,1≤q→q<k→xs.getD q 0≠xs.getD (q-1) 0)(hk:1≤k)(hl:k<xs.length)(he:xs.getD k 0=xs.getD (k-1) 0):Cml xs xs (k+1) k:=
 ⟨hk,O,O,rfl,fun q _=>rfl,Zxu (fun p q h1 h2=>hs p q h1 O) hd,fun x=>by
  constructor
  ·rintro⟨p,h1,h2⟩;exact⟨p,O,h2⟩
  ·rintro⟨p,h1,h2⟩
   by_cases a:p=k
   ·subst a;exact⟨p-1,O,by rw [←he];exact h2⟩
   ·exact⟨p,O,h2⟩,by rw [show k+1-1=k by omega];exact he.symm⟩
theorem cml_eq{xs l:List Int}{m k:Nat}(h:Cml xs l m k)(hm:m<xs.length)(he:l.getD m 0=l.getD (m-1) 0):Cml xs l (m+1) k:=by
 have h1:=h.r m O
 have h2:=h.r (m-1) (by have:=h.k1;have:=h.km;omega)
 have hk1:=h.k1
 have hkm:=h.km
 refine⟨h.k1,O,hm,h.ll,fun q hq=>h.r q O,h.s,fun x=>(h.e x).trans ⟨?_,?_⟩,?_⟩
 ·rintro⟨p,h3,h4⟩;exact⟨p,O,h4⟩
 ·rintro⟨p,h3,h4⟩
  by_cases a:p=m
  ·subst a;exact⟨p-1,O,by rw [←h4,←h1,←h2];exact he.symm⟩
  ·exact⟨p,O,h4⟩
 ·rw [h.z,show m+1-1=m by omega,←h1,←h2];exact he.symm
theorem cml_ne{xs l:List Int}{m k:Nat}(hs:Srt xs xs.length)(h:Cml xs l m k)(hm:m<xs.length)(he:l.getD m 0≠l.getD (m-1) 0):Cml xs (l.set k (l.getD m 0)) (m+1) (k+1):=by
 have h1:=h.r m O
 have hk1:=h.k1
 have hkm:=h.km
 have h2:=h.r (m-1) O
 have hll:=h.ll
 have hkl:k<l.length:=O
 have hlt:xs.getD (m-1) 0<xs.getD m 0:=by
  have:=hs (m-1) m O hm
  omega
 refine⟨O,O,hm,by rw [List.length_set];exact h.ll,fun q hq=>?_,fun p q h3 h4=>?_,fun x=>?_,?_⟩
 ·rw [Fv hkl,if_neg O];exact h.r q O
 ·rw [Fv hkl,Fv hkl,if_neg (show p≠k by omega)]
  by_cases a:q=k
  ·rw [if_pos a,h1]
   have hz:=h.z
   rcases Nat.lt_or_eq_of_le (show p≤k-1 by omega)with h5 | h5
   ·have:=h.s p (k-1) h5 O;omega
   ·subst h5;omega
  ·rw [if_neg a];exact h.s p q h3 O
 ·constructor
  ·rintro⟨p,h3,h4⟩
   rw [Fv hkl]at h4
   by_cases a:p=k
   ·rw [if_pos a,h1]at h4;exact⟨m,O,h4⟩
   ·rw [if_neg a]at h4
    obtain⟨q,h5,h6⟩:=(h.e x).1 ⟨p,O,h4⟩
    exact⟨q,O,h6⟩
  ·rintro⟨p,h3,h4⟩
   by_cases a:p=m
   ·exact⟨k,O,by rw [Fv hkl,if_pos rfl,h1,←a];exact h4⟩
   ·obtain⟨q,h5,h6⟩:=(h.e x).2 ⟨p,O,h4⟩
    exact⟨q,O,by rw [Fv hkl,if_neg O];exact h6⟩
 ·rw [show k+1-1=k by omega,Fv hkl,if_pos rfl,show m+1-1=m by omega];exact h1
theorem Zf2{l:List Int}{k p:Nat}(h:p<k):(l.take k).getD p 0=l.getD p 0:=by
 rw [List.getD_eq_getElem?_getD,List.getD_eq_getElem?_getD,List.getElem?_take_of_lt h]
theorem cml_e{xs l:List Int}{k:Nat}(h:Cml xs l xs.length k):Cmp xs (l.take k):=by
 have hk:=h.km
 have hll:=h.ll
 have hl:(l.take k).length=k:=by rw [List.length_take];omega
 refine⟨fun p q h1 h2=>?_,fun x=>?_⟩
 ·rw [hl]at h2
  rw [Zf2 O,Zf2 h2];exact h.s p q h1 h2
 ·rw [Hl,Hl,←h.e x,hl]
  constructor
  ·rintro⟨p,h1,h2⟩;rw [Zf2 h1]at h2;exact⟨p,h1,h2⟩
  ·rintro⟨p,h1,h2⟩;exact⟨p,h1,by rw [Zf2 h1];exact h2⟩
def Zhs(x:Int):List Int→List Int
 | []=>[x]
 | y :: l=>if x<y then x :: y :: l else if x=y then y :: l else y :: Zhs x l
def Inc:List Int→Prop
 | []=>True
 | x :: l=>(∀y∈l,x<y)∧Inc l
theorem Zhj{x z:Int} : ∀{l:List Int},z∈Zhs x l↔z=x∨z∈l
 | []=>by simp [Zhs]
 | y :: l=>by
  unfold Zhs
  split
  ·simp
  ·split
   ·rename_i h;subst h;simp
   ·rw [List.mem_cons,Zhj,List.mem_cons]
    constructor
    ·rintro(h | h | h)
     ·exact .inr (.inl h)
     ·exact .inl h
     ·exact .inr (.inr h)
    ·rintro(h | h | h)
     ·exact .inr (.inl h)
     ·exact .inl h
     ·exact .inr (.inr h)
theorem Zop{x:Int} : ∀{l:List Int},Inc l→Inc (Zhs x l)
 | [],_=>⟨fun y h=>(nomatch h),trivial⟩
 | y :: l,h=>by
  unfold Zhs
  split
  ·rename_i h1
   exact⟨fun z hz=>by
    rcases List.mem_cons.1 hz with rfl | hz
    ·exact h1
    ·have:=h.1 z hz;omega,h⟩
  ·split
   ·exact h
   ·refine⟨fun z hz=>?_,Zop h.2⟩
    rcases Zhj.1 hz with rfl | hz
    ·omega
    ·exact h.1 z hz
def Zm8(l:List Int):List Int:=l.foldr Zhs []
theorem Zht:∀(l:List Int),Inc (Zm8 l)
 | []=>trivial
 | x :: l=>Zop (Zht l)
theorem Zhi{z:Int} : ∀{l:List Int},z∈Zm8 l↔z∈l
 | []=>Iff.rfl
 | x :: l=>by
  show z∈Zhs x (Zm8 l)↔_
  rw [Zhj,Zhi,List.mem_cons]
theorem Yad:∀{l m:List Int},Inc l→Inc m→(∀x,x∈l↔x∈m)→l=m
 | [],[],_,_,_=>rfl
 | [],y :: m,_,_,h=>absurd ((h y).2 (List.mem_cons_self ..)) (fun h=>nomatch h)
 | x :: l,[],_,_,h=>absurd ((h x).1 (List.mem_cons_self ..)) (fun h=>nomatch h)
 | x :: l,y :: m,hl,hm,h=>by
  have e:x=y:=by
   have h1:=(h x).1 (List.mem_cons_self ..)
   have h2:=(h y).2 (List.mem_cons_self ..)
   rcases List.mem_cons.1 h1 with h3 | h3
   ·exact h3
   ·rcases List.mem_cons.1 h2 with h4 | h4
    ·exact h4.symm
    ·have:=hm.1 x h3
     have:=hl.1 y h4
     omega
  subst e
  rw [Yad hl.2 hm.2 fun z=>by
   have h1:=h z
   rw [List.mem_cons,List.mem_cons]at h1
   constructor
   ·intro h2
    rcases h1.1 (.inr h2)with h3 | h3
    ·subst h3;have:=hl.1 z h2;omega
    ·exact h3
   ·intro h2
    rcases h1.2 (.inr h2)with h3 | h3
    ·subst h3;have:=hm.1 z h2;omega
    ·exact h3]
theorem Zto:∀{l:List Int},Sst l l.length→Inc l
 | [],_=>trivial
 | x :: l,h=>⟨fun y hy=>by
  obtain⟨k,hk,rfl⟩:=Hl.1 hy
  exact h 0 (k+1) O O8,Zto fun p q h1 h2=>h (p+1) (q+1) O O8⟩
theorem Yby{xs ys zs:List Int}(h1:Sam xs ys)(h2:Cmp ys zs):zs=Zm8 xs:=
 Yad (Zto h2.s) (Zht xs) fun x=>by rw [h2.m,h1.2,Zhi]
theorem Zsc:∀{l:List Int},Inc l→Sst l l.length
 | [],_=>fun p q _ h=>absurd h (Nat.not_lt_zero _)
 | x :: l,h=>fun p q h1 h2=>by
  match p,q,h1 with
  | 0,q+1,_=>
   show x<l.getD q 0
   exact h.1 _ (Zu (by simp at h2;omega))
  | p+1,q+1,h1=>exact Zsc h.2 p q O (by simp at h2;omega)
theorem Ye4(j:Nat):j=0∨1≤j:=O
theorem hd_s{xs:List Int}{k:Nat}(h:∀q,1≤q→q<k→xs.getD q 0≠xs.getD (q-1) 0)(h2:¬xs.getD k 0=xs.getD (k-1) 0):∀q,1≤q→q<k+1→xs.getD q 0≠xs.getD (q-1) 0:=fun q h3 h4=>by
 rcases Nat.lt_succ_iff_lt_or_eq.1 h4 with h5 | h5
 ·exact h q h3 h5
 ·subst h5;exact h2
open Go.Proofs
set_option synthInstance.maxHeartbeats 0
set_option synthInstance.maxSize 100000
set_option maxRecDepth 20000
set_option maxHeartbeats 4000000
set_option linter.unusedSimpArgs false
theorem Yf3(x:Int):Cal Tryz.prog 278 #[.int .i64 x] [] false (G:=Unit) (fun _=>True) (fun _=> .bool false) (fun _=>[]):=by
 refine Zd Tryz.func278 Tryz.ntmps278 fun w0 sc hw hsc=>?_
 refine go 9 ?_
 refine kf (decide_eq_false (fun h=>h rfl)) ?_
 refine go 4 ?_
 exact Xo hsc () Tryz.results278 rfl trivial Za
theorem Ybz(x y:Int):Cal Tryz.prog 247 #[.int .i64 x,.int .i64 y] [] false (G:=Unit) (fun _=>True) (fun _=> .bool (decide (x<y))) (fun _=>[]):=by
 refine Zd Tryz.func247 Tryz.ntmps247 fun w0 sc hw hsc=>?_
 refine go 8 ?_
 refine cl 0 [] (Yf3 _) fun _ _=>?_
 refine go 14 ?_
 exact Xo hsc () Tryz.results247 rfl trivial Za
theorem Zwy(x:Nat)(hx:x<U):Cal Tryz.prog 204 #[.int .u64 (x:Int)] [] false (G:=Unit) (fun _=>True) (fun _=> .int .i64 (bl x:Int)) (fun _=>[]):=by
 refine Zd Tryz.func204 Tryz.ntmps204 fun w0 sc hw hsc=>?_
 refine go 12 ?_
 refine cl 0 [] (Zpn _ hx) fun _ _=>?_
 refine go 4 ?_
 exact Xo hsc () Tryz.results204 rfl trivial Za
set_option maxHeartbeats 1000000 in
theorem sl_ins(b c:Nat)(xs:List Int)(r:List Value)(hl1:1≤xs.length)(hl:xs.length≤12):Zau Tryz.prog 241 #[.slice (some ⟨b,0,none⟩) xs.length c,.int .i64 0,.int .i64 (xs.length:Int)] [] false b 3 (Cx xs r) (G:=List Int) (fun g=>Sam xs g∧Srt g g.length) (fun g=> .tuple #[]) (fun g=>Cx g r) (fun g=>[]):=by
 refine Hx Tryz.func241 rfl Tryz.ntmps241 rfl trivial ?_
 intro w0 sc hw hsc;have hw:=Hw.mk hw
 simp only [Ql,Xj]
 refine go 8 ⟨O,?_⟩
 refine lp (G:=Nat×List Int) [0,1,2] [0] (fun q=>[(6,.int .i64 (q.1:Int))]) (fun q=>[(1,box b 3 (Cx q.2 r))]) (fun q=>(1≤q.1)∧(q.1≤xs.length)∧(Sam xs q.2)∧(Srt q.2 q.1)) (fun q=>xs.length-q.1) (1,xs) ⟨O1,O1,Sam.rfl' xs,srt_1 xs⟩ ⟨rfl,trivial⟩ ⟨rfl,trivial⟩ ?_
 rintro⟨i,l⟩ ⟨hi1,hi2,hS,hs⟩
 dsimp only at hi1 hi2 hS hs
 dsimp only
 have hll:=hS.1
 refine go 8 ?_
 refine Zc rfl (fun h13=>?_) (fun h13=>?_)
 ·refine go 11 ?_
  refine lp (G:=Nat×List Int) [0,1,2,6] [0] (fun q=>[(7,.int .i64 (q.1:Int))]) (fun q=>[(1,box b 3 (Cx q.2 r))]) (fun q=>(q.1≤i)∧(Sam xs q.2)∧(Ycy q.2 i q.1)) (fun q=>q.1) (i,l) ⟨Nat.le_refl _,hS,srtx_0 hs⟩ ⟨rfl,trivial⟩ ⟨rfl,trivial⟩ ?_
  rintro⟨j,m⟩ ⟨hj,hS2,hx⟩
  dsimp only at hj hS2 hx
  dsimp only
  have hml:=hS2.1
  refine go 2 ?_
  rcases Ye4 j with hc1 | hc1
  ·refine Qe (fun _=>False) [(0,0),(1,0),(2,0),(3,0),(4,2),(5,2),(6,2),(7,2),(8,2),(9,2),(10,2),(11,2),(12,2),(13,2),(14,0)] ?_
   refine go 2 ?_
   refine Qb rfl rfl (Ph (Zp (r':= .bool false) (Zpa rfl rfl rfl) (congrArg Value.bool (decide_eq_false O)))) ?_
   refine go 26 ⟨O,?_⟩
   exact Xg (i+1,m) ⟨O1,O1,hS2,Zxv hx hj (.inl hc1)⟩ O1 ⟨rfl,trivial⟩ ⟨rfl,trivial⟩
  ·refine Qe (fun _=>False) [(0,0),(1,0),(2,0),(3,0),(4,0),(5,0),(6,0),(7,0),(8,0),(9,0),(10,0),(11,0),(12,0),(13,1),(14,0)] ?_
   refine go 2 ?_
   refine Qb rfl rfl (Ph (Zp (r':= .bool true) (Zpa rfl rfl rfl) (congrArg Value.bool (decide_eq_true O)))) ?_
   refine go 3 ?_
   refine r0g (Ph (Zp (r':= .pointer (some ⟨b,j,none⟩)) (Dr (i:=j) rfl rfl rfl Tryz.underlying33 Tryz.sizeOf3 O O) (by rw [Nat.zero_add]))) rfl rfl rfl rfl rfl ?_
   refine r0g (Ph (Zp (r':= .int .i64 (m.getD j 0)) (Zai (i:=1) rfl rfl rfl Tryz.isAgg3 O) (congrArg (fun q=>Value.int .i64 (m.getD q 0)) O))) rfl rfl rfl rfl rfl ?_
   refine go 3 ⟨O,?_⟩
   refine r0g (Ph (Zp (r':= .pointer (some ⟨b,j-1,none⟩)) (Dr (i:=(j-1)) rfl rfl rfl Tryz.underlying33 Tryz.sizeOf3 O O) (by rw [Nat.zero_add]))) rfl rfl rfl rfl rfl ?_
   refine r0g (Ph (Zp (r':= .int .i64 (m.getD (j-1) 0)) (Zai (i:=1) rfl rfl rfl Tryz.isAgg3 O) (congrArg (fun q=>Value.int .i64 (m.getD q 0)) O))) rfl rfl rfl rfl rfl ?_
   refine Yeb rfl rfl rfl rfl rfl (Gh (n:=1) (Ybz _ _) rfl rfl rfl ⟨rfl,rfl,trivial⟩ Tryz.call247 Yf rfl hw.h) (fun _ _=>?_)
   refine go 3 ?_
   refine Zc rfl (fun h14=>?_) (fun h14=>?_)
   ·have hlt:=h14
    refine go 4 ?_
    refine Il [] [17] ?_
    refine Zl (n:=6) [(0,0),(1,0),(2,0),(3,0),(4,0),(5,0),(6,0),(7,0),(8,0),(10,0),(11,0),(12,0)] ?_
    refine go 8 ⟨O,O,?_⟩
    refine Qb rfl rfl (Ai (Zp (r':= .pointer (some ⟨b,j-1,none⟩)) (Dr (i:=(j-1)) rfl rfl rfl Tryz.underlying33 Tryz.sizeOf3 O O) (by rw [Nat.zero_add])) trivial) ?_
    refine go 2 ?_
    refine Qb rfl rfl (Ai (Zp (r':= .pointer (some ⟨b,j,none⟩)) (Dr (i:=j) rfl rfl rfl Tryz.underlying33 Tryz.sizeOf3 O O) (by rw [Nat.zero_add])) trivial) ?_
    refine go 1 ?_
    refine Qw (n:=5) 9 13 ?_ ?_
    ·refine Zar rfl (Zbl (Zp (r':= .int .i64 (m.getD (j-1) 0)) (Zai (i:=1) rfl rfl rfl Tryz.isAgg3 O) (congrArg (fun q=>Value.int .i64 (m.getD q 0)) O)) rfl rfl) (fun _ _=>?_)
     refine Zl (n:=0) [(13,1),(14,0),(15,1),(16,0),(17,3)] ?_
     refine Bk rfl (Zbl (Zp (r':= .int .i64 (m.getD j 0)) (Zai (i:=1) rfl rfl rfl Tryz.isAgg3 O) (congrArg (fun q=>Value.int .i64 (m.getD q 0)) O)) rfl rfl) (fun _ _=>?_)
     refine Qb rfl rfl (Ai (Zp (r':= .pointer (some ⟨b,j,none⟩)) (Dr (i:=j) rfl rfl rfl Tryz.underlying33 Tryz.sizeOf3 O O) (by rw [Nat.zero_add])) trivial) ?_
     refine Bk rfl (Zm1 (i:=1) rfl rfl rfl rfl rfl O3 Tryz.sizeOf3 O rfl hw.h (fun _ h=>nomatch h)) (fun _ _=>?_)
     refine Qb rfl rfl (Ai (Zp (r':= .pointer (some ⟨b,j-1,none⟩)) (Dr (i:=(j-1)) rfl rfl rfl Tryz.underlying33 Tryz.sizeOf3 O O) (by rw [Nat.zero_add])) trivial) ?_
     refine r3' rfl (Zm1 (i:=1) rfl rfl rfl rfl rfl O3 Tryz.sizeOf3 (by rw [List.length_set];omega) rfl hw.h trivial) (fun _ _=>?_)
     refine go 1 ?_
     refine Zw ?_
     refine go 7 ⟨O,?_⟩
     exact Xg (j-1,swp m j) ⟨O1,hS2.trans (Zso O O),Zm7 hx O hc1 hj hlt⟩ O1 ⟨(congrArg (fun q:Int=>some (Value.int .i64 q)) (show(j:Int)-1=((j-1:Nat):Int) by omega)),trivial⟩ ⟨rfl,trivial⟩
    ·refine Zar rfl (Zbl (Zp (r':= .int .i64 (m.getD j 0)) (Zai (i:=1) rfl rfl rfl Tryz.isAgg3 O) (congrArg (fun q=>Value.int .i64 (m.getD q 0)) O)) rfl rfl) (fun _ _=>?_)
     refine Zl (n:=0) [(9,1),(14,0),(15,1),(16,0),(17,3)] ?_
     refine Bk rfl (Zbl (Zp (r':= .int .i64 (m.getD (j-1) 0)) (Zai (i:=1) rfl rfl rfl Tryz.isAgg3 O) (congrArg (fun q=>Value.int .i64 (m.getD q 0)) O)) rfl rfl) (fun _ _=>?_)
     refine Qb rfl rfl (Ai (Zp (r':= .pointer (some ⟨b,j,none⟩)) (Dr (i:=j) rfl rfl rfl Tryz.underlying33 Tryz.sizeOf3 O O) (by rw [Nat.zero_add])) trivial) ?_
     refine Bk rfl (Zm1 (i:=1) rfl rfl rfl rfl rfl O3 Tryz.sizeOf3 O rfl hw.h (fun _ h=>nomatch h)) (fun _ _=>?_)
     refine Qb rfl rfl (Ai (Zp (r':= .pointer (some ⟨b,j-1,none⟩)) (Dr (i:=(j-1)) rfl rfl rfl Tryz.underlying33 Tryz.sizeOf3 O O) (by rw [Nat.zero_add])) trivial) ?_
     refine r3' rfl (Zm1 (i:=1) rfl rfl rfl rfl rfl O3 Tryz.sizeOf3 (by rw [List.length_set];omega) rfl hw.h trivial) (fun _ _=>?_)
     refine go 1 ?_
     refine Zw ?_
     refine go 7 ⟨O,?_⟩
     exact Xg (j-1,swp m j) ⟨O1,hS2.trans (Zso O O),Zm7 hx O hc1 hj hlt⟩ O1 ⟨(congrArg (fun q:Int=>some (Value.int .i64 q)) (show(j:Int)-1=((j-1:Nat):Int) by omega)),trivial⟩ ⟨rfl,trivial⟩
   ·have hge:=h14
    refine go 11 ⟨O,?_⟩
    exact Xg (i+1,m) ⟨O1,O1,hS2,Zxv hx hj (.inr ⟨hc1,hge⟩)⟩ O1 ⟨rfl,trivial⟩ ⟨rfl,trivial⟩
 ·obtain rfl:i=xs.length:=O
  refine go 4 ?_
  exact Gf (.inr rfl) hsc l _ (fun a w hs=>res0 hs Tryz.results241) rfl ⟨hS,by rw [hll];exact hs⟩ 1 rfl rfl rfl rfl Za
set_option maxHeartbeats 1000000 in
theorem sl_pdq(b c:Nat)(xs:List Int)(r:List Value)(lim:Int)(hl1:1≤xs.length)(hl:xs.length≤12):Zau Tryz.prog 203 #[.slice (some ⟨b,0,none⟩) xs.length c,.int .i64 0,.int .i64 (xs.length:Int),.int .i64 lim] [] false b 3 (Cx xs r) (G:=List Int) (fun g=>Sam xs g∧Srt g g.length) (fun g=> .tuple #[]) (fun g=>Cx g r) (fun g=>[]):=by
 refine Hx Tryz.func203 rfl Tryz.ntmps203 rfl trivial ?_
 intro w0 sc hw hsc;have hw:=Hw.mk hw
 simp only [Ql,Xj]
 refine go 11 ?_
 refine lp (G:=Nat) [0] [0,1] (fun k=>[(1,.int .i64 0),(2,.int .i64 (xs.length:Int))]) (fun k=>[]) (fun k=>True) (fun k=>k) 0 trivial ⟨rfl,rfl,trivial⟩ trivial ?_
 rintro k -
 refine go 13 ⟨O,?_⟩
 refine kt (decide_eq_true O) ?_
 refine go 8 ?_
 refine tt (Xp (n:=1) (i:=1) (sl_ins _ _ _ _ hl1 hl) rfl rfl rfl ⟨rfl,rfl,rfl,trivial⟩ Tryz.call241 rfl O3 Yf rfl hw.h trivial) (fun gs hgs=>?_)
 refine go 7 ?_
 exact Gf (.inl rfl) hsc gs _ (fun a w hs=>res0 hs Tryz.results203) rfl hgs 1 rfl rfl rfl rfl Za
set_option maxHeartbeats 1000000 in
theorem Yds(b c:Nat)(xs:List Int)(r:List Value)(hl1:1≤xs.length)(hl:xs.length≤12):Zau Tryz.prog 150 #[.slice (some ⟨b,0,none⟩) xs.length c] [] false b 3 (Cx xs r) (G:=List Int) (fun g=>Sam xs g∧Srt g g.length) (fun g=> .tuple #[]) (fun g=>Cx g r) (fun g=>[]):=by
 refine Hx Tryz.func150 rfl Tryz.ntmps150 rfl trivial ?_
 intro w0 sc hw hsc;have hw:=Hw.mk hw
 simp only [Ql,Xj]
 refine go 3 ?_
 refine dt (Zl1 rfl rfl Tryz.underlying33) ?_
 refine go 7 ?_
 refine dt (Zp (r':= .int .u64 (xs.length:Int)) (Zrf rfl rfl Tryz.underlying3 Tryz.underlying230 (by simp only [U];omega)) rfl) ?_
 refine cl 1 [] (Zwy xs.length (by simp only [U];omega)) fun _ _=>?_
 refine tt (Xp (n:=1) (i:=1) (sl_pdq _ _ _ _ _ hl1 hl) rfl rfl rfl ⟨rfl,rfl,rfl,rfl,trivial⟩ Tryz.call203 rfl O3 Yf rfl hw.h trivial) (fun gs hgs=>?_)
 refine go 1 ?_
 exact Gf (.inr rfl) hsc gs _ (fun a w hs=>res0 hs Tryz.results150) rfl hgs 1 rfl rfl rfl rfl Za
set_option maxHeartbeats 1000000 in
theorem sl_cmp(b c:Nat)(xs:List Int)(r:List Value)(hl2:2≤xs.length)(hl:xs.length≤12)(hlc:xs.length≤c)(hsr:Srt xs xs.length):Zau Tryz.prog 151 #[.slice (some ⟨b,0,none⟩) xs.length c] [] false b 3 (Cx xs r) (G:=List Int×List Value) (fun g=>Cmp xs g.1∧g.1.length+g.2.length=xs.length+r.length) (fun g=> .slice (some ⟨b,0,none⟩) g.1.length c) (fun g=>Cx g.1 g.2) (fun g=>[]):=by
 refine Hx Tryz.func151 rfl Tryz.ntmps151 rfl trivial ?_
 intro w0 sc hw hsc;have hw:=Hw.mk hw
 simp only [Ql,Xj]
 refine go 9 ?_
 refine dt (Zl1 rfl rfl Tryz.underlying33) ?_
 refine kf (decide_eq_false O) ?_
 refine go 12 ?_
 refine lp (G:=Nat) [0] [0,1] (fun k=>[(3,.int .i64 (k:Int))]) (fun k=>[]) (fun k=>(1≤k)∧(k≤xs.length)∧(∀q,1≤q→q<k→xs.getD q 0≠xs.getD (q-1) 0)) (fun k=>xs.length-k) 1 ⟨O1,O1,fun q h1 h2=>absurd h2 O⟩ ⟨rfl,trivial⟩ trivial ?_
 rintro k ⟨hk1,hk2,hd⟩
 refine go 5 ?_
 refine dt (Zl1 rfl rfl Tryz.underlying33) ?_
 refine go 3 ?_
 refine Zc rfl (fun h375=>?_) (fun h375=>?_)
 ·refine go 5 ?_
  refine Qe (fun _=>False) [(0,0),(1,0),(2,0),(3,0),(4,0),(5,0),(6,0),(7,0),(8,0),(9,0)] ?_
  refine go 2 ?_
  refine Qb rfl rfl (Ph (Zp (r':= .pointer (some ⟨b,k,none⟩)) (Dr (i:=k) rfl rfl rfl Tryz.underlying33 Tryz.sizeOf3 O O) (by rw [Nat.zero_add]))) ?_
  refine Qb rfl rfl (Ph (Zp (r':= .int .i64 (xs.getD k 0)) (Zai (i:=1) rfl rfl rfl Tryz.isAgg3 O) (congrArg (fun q=>Value.int .i64 (xs.getD q 0)) O))) ?_
  refine go 3 ⟨O,?_⟩
  refine Qb rfl rfl (Ph (Zp (r':= .pointer (some ⟨b,k-1,none⟩)) (Dr (i:=(k-1)) rfl rfl rfl Tryz.underlying33 Tryz.sizeOf3 O O) (by rw [Nat.zero_add]))) ?_
  refine Qb rfl rfl (Ph (Zp (r':= .int .i64 (xs.getD (k-1) 0)) (Zai (i:=1) rfl rfl rfl Tryz.isAgg3 O) (congrArg (fun q=>Value.int .i64 (xs.getD q 0)) O))) ?_
  refine go 3 ?_
  refine Zc rfl (fun h376=>?_) (fun h376=>?_)
  ·have he:=h376
   refine go 4 ?_
   refine dt (Zp (r':= .slice (some ⟨b,k,none⟩) (xs.length-k) (c-k)) (Ybh (i:=k) rfl rfl rfl Tryz.underlying33 Tryz.sizeOf3 rfl O O) (by rw [Nat.zero_add])) ?_
   refine go 10 ?_
   refine lp (G:=Nat×Nat×List Int) [0,4] [0] (fun q=>[(5,.int .i64 (q.1:Int)),(3,.int .i64 (q.2.1:Int))]) (fun q=>[(1,box b 3 (Cx q.2.2 r))]) (fun q=>(1≤q.1)∧(Cml xs q.2.2 (k+q.1) q.2.1)) (fun q=>xs.length-k-q.1) (1,k,xs) ⟨O1,cml_0 hsr hd hk1 O he⟩ ⟨rfl,rfl,trivial⟩ ⟨rfl,trivial⟩ ?_
   rintro⟨j,kk,l⟩ ⟨hj1,hC⟩
   dsimp only at hj1 hC
   dsimp only
   have hll:=hC.ll
   have hk3:=hC.k1
   have hk4:=hC.km
   have hk5:=hC.ml
   refine go 5 ?_
   refine dt (Zl1 rfl rfl Tryz.underlying33) ?_
   refine go 3 ?_
   refine Zc rfl (fun h378=>?_) (fun h378=>?_)
   ·refine go 5 ?_
    refine Qe (fun _=>False) [(0,0),(1,0),(2,0),(3,0),(4,0),(5,0),(6,0),(7,0),(8,0),(9,0)] ?_
    refine go 2 ?_
    refine Qb rfl rfl (Ph (Dr (i:=j) rfl rfl rfl Tryz.underlying33 Tryz.sizeOf3 O O)) ?_
    refine Qb rfl rfl (Ph (Zp (r':= .int .i64 (l.getD (k+j) 0)) (Zai (i:=1) rfl rfl rfl Tryz.isAgg3 O) (congrArg (fun q=>Value.int .i64 (l.getD q 0)) O))) ?_
    refine go 3 ⟨O,?_⟩
    refine Qb rfl rfl (Ph (Dr (i:=(j-1)) rfl rfl rfl Tryz.underlying33 Tryz.sizeOf3 O O)) ?_
    refine Qb rfl rfl (Ph (Zp (r':= .int .i64 (l.getD (k+j-1) 0)) (Zai (i:=1) rfl rfl rfl Tryz.isAgg3 O) (congrArg (fun q=>Value.int .i64 (l.getD q 0)) O))) ?_
    refine go 3 ?_
    refine Zc rfl (fun h379=>?_) (fun h379=>?_)
    ·have hnq:=h379
     refine go 6 ?_
     refine dt (Dr (i:=j) rfl rfl rfl Tryz.underlying33 Tryz.sizeOf3 O O) ?_
     refine dt (Zp (r':= .int .i64 (l.getD (k+j) 0)) (Zai (i:=1) rfl rfl rfl Tryz.isAgg3 O) (congrArg (fun q=>Value.int .i64 (l.getD q 0)) O)) ?_
     refine dt (Zp (r':= .pointer (some ⟨b,kk,none⟩)) (Dr (i:=kk) rfl rfl rfl Tryz.underlying33 Tryz.sizeOf3 rfl O) (by rw [Nat.zero_add])) ?_
     refine tt (Zm1 (i:=1) rfl rfl rfl rfl rfl O3 Tryz.sizeOf3 O rfl hw.h trivial) (fun _ _=>?_)
     refine go 14 ⟨O,O,?_⟩
     exact Xg (j+1,kk+1,l.set kk (l.getD (k+j) 0)) ⟨O1,cml_ne (m:=k+j) hsr hC O hnq⟩ O1 ⟨rfl,rfl,trivial⟩ ⟨rfl,trivial⟩
    ·have hnq:=h379
     refine go 8 ⟨O,?_⟩
     exact Xg (j+1,kk,l) ⟨O1,cml_eq (m:=k+j) hC O (Decidable.not_not.1 hnq)⟩ O1 ⟨rfl,rfl,trivial⟩ ⟨rfl,trivial⟩
   ·obtain hkj:k+j=xs.length:=O
    rw [hkj]at hC
    refine go 9 ?_
    refine dt (Zp (r':= .slice (some ⟨b,kk,none⟩) (xs.length-kk) (c-kk)) (Ybh (i:=kk) rfl rfl rfl Tryz.underlying33 Tryz.sizeOf3 rfl O O) (by rw [Nat.zero_add])) ?_
    refine tt (t_clw (i:=1) rfl rfl rfl rfl O3 O O Tryz.underlying33 Tryz.sizeOf3 (fun w=>Tryz.zeroValue3 w) rfl hw.h trivial) (fun _ _=>?_)
    refine go 6 ?_
    refine dt (d_prew (i:=kk) rfl rfl rfl Tryz.underlying33 Tryz.sizeOf3 rfl O O) ?_
    refine go 9 ?_
    exact Gf (.inl rfl) hsc (l.take kk,List.replicate (xs.length-kk) (.int .i64 0) ++ r) _ (fun a w hs=>Zbi hs Tryz.results151 rfl) (by rw [List.length_take,Nat.min_eq_left O]) ⟨cml_e hC,O8⟩ 1 rfl rfl rfl rfl Za
  ·have hne:=h376
   refine go 8 ⟨O,?_⟩
   exact Xg (k+1) ⟨O1,O1,hd_s hd hne⟩ O1 ⟨rfl,trivial⟩ trivial
 ·refine go 12 ?_
  exact Gf (.inl rfl) hsc (xs,r) _ (fun a w hs=>Zbi hs Tryz.results151 rfl) rfl ⟨Yf4 hsr (fun q h1 h2=>hd q h1 O),rfl⟩ 1 rfl rfl rfl rfl Za
def Kj(f:Nat→Rat):Nat→Rat
 | 0=>0
 | n+1=>Kj f n+f n
theorem Px(f:Nat→Rat)(n:Nat):Kj f (n+1)=Kj f n+f n:=rfl
theorem Nb{f g:Nat→Rat} : ∀n,(∀i,i<n→f i=g i)→Kj f n=Kj g n
 | 0,_=>rfl
 | n+1,h=>by rw [Px,Px,Nb n fun i hi=>h i O,h n O]
theorem Gl(f:Nat→Rat):∀n,Kj f (n+1)=f 0+Kj (fun i=>f (i+1)) n
 | 0=>by show 0+f 0=f 0+0;grind
 | n+1=>by rw [Px,Gl f n,Px];grind
theorem Zg4(f g:Nat→Rat):∀n,Kj (fun i=>f i+g i) n=Kj f n+Kj g n
 | 0=>by show(0:Rat)=0+0;grind
 | n+1=>by rw [Px,Px,Px,Zg4 f g n];grind
theorem Hj(c:Rat)(f:Nat→Rat):∀n,Kj (fun i=>c*f i) n=c*Kj f n
 | 0=>by show(0:Rat)=c*0;grind
 | n+1=>by rw [Px,Px,Hj c f n];grind
theorem Zic(n:Nat):Pa n 0=1:=by cases n<;>rfl
theorem chz_s(n k:Nat):Pa (n+1) (k+1)=Pa n k+Pa n (k+1):=rfl
theorem Ych{u w:Rat}(h:u+w=1):∀n,Kj (fun j=>(Pa n j:Rat)*(u^j*w^(n-j))) (n+1)=1
 | 0=>by
  rw [Gl]
  show((Pa 0 0:Nat):Rat)*(u^0*w^0)+0=1
  rw [Zic,Rat.pow_zero,Rat.pow_zero];push_cast;grind
 | n+1=>by
  have ih:=Ych h n
  rw [Gl]
  have e1:Kj (fun i=>(Pa (n+1) (i+1):Rat)*(u^(i+1)*w^(n+1-(i+1)))) (n+1)=Kj (fun i=>u*((Pa n i:Rat)*(u^i*w^(n-i)))) (n+1)+Kj (fun i=>(Pa n (i+1):Rat)*(u^(i+1)*w^(n-i))) (n+1):=by
   rw [←Zg4]
   refine Nb _ fun i hi=>?_
   rw [chz_s,show n+1-(i+1)=n-i by omega,Rat.pow_succ]
   push_cast;grind
  have e2:Kj (fun i=>(Pa n (i+1):Rat)*(u^(i+1)*w^(n-i))) (n+1)=Kj (fun i=>(Pa n (i+1):Rat)*(u^(i+1)*w^(n-i))) n:=by
   rw [Px,Zib n (n+1) O]
   push_cast;grind
  have e3:w*Kj (fun j=>(Pa n j:Rat)*(u^j*w^(n-j))) (n+1)=w^(n+1)+Kj (fun i=>(Pa n (i+1):Rat)*(u^(i+1)*w^(n-i))) n:=by
   rw [←Hj,Gl,Zic]
   congr 1
   ·rw [Nat.sub_zero,Rat.pow_zero,Rat.pow_succ];push_cast;grind
   ·refine Nb _ fun i hi=>?_
    rw [show n-i=(n-(i+1))+1 by omega,Rat.pow_succ w]
    grind
  rw [e1,e2,Hj,ih]
  rw [ih]at e3
  rw [Zic,Rat.pow_zero,Nat.sub_zero]
  push_cast;grind
def Lr(d:Nat)(c:List Int)(j:Nat):Int:=Zs (fun i=>cf c i*(Pa (d-i) (j-i):Int)) (j+1)
theorem brS_0(d:Nat)(a:Int)(c:List Int):Lr d (a :: c) 0=a:=by
 unfold Lr
 rw [Zy,Kh]
 show 0+a*((Pa (d-0) (0-0):Nat):Int)=a
 rw [show 0-0=0 from rfl,Zic];omega
theorem brS_s(d:Nat)(a:Int)(c:List Int)(j:Nat):Lr (d+1) (a :: c) (j+1)=a*(Pa (d+1) (j+1):Int)+Lr d c j:=by
 unfold Lr
 rw [Nk]
 congr 1
 refine Yg fun i hi=>?_
 rw [show d+1-(i+1)=d-i by omega,show j+1-(i+1)=j-i by omega]
 rfl
theorem Ygk(d j:Nat):Lr d [] j=0:=by
 unfold Lr
 exact(Zd9 (m:=0) (Nat.zero_le _) fun i _ _=>by rw [show cf [] i=0 from rfl,Int.zero_mul]).trans (Kh _)
theorem bern{u w:Rat}(h:u+w=1):∀(d:Nat) (c:List Int),c.length≤d+1→Kj (fun j=>(Lr d c j:Rat)*(u^j*w^(d-j))) (d+1)=Zb c u
 | d,[],_=>by
  rw [Nb (g:=fun _=>0) (d+1) fun i hi=>by rw [Ygk];push_cast;grind]
  show Kj (fun _=>0) (d+1)=0
  have:∀n,Kj (fun _=>0) n=0:=fun n=>by
   induction n with
   | zero=>rfl
   | succ n ih=>rw [Px,ih];grind
  exact this _
 | 0,[a],_=>by
  rw [Px,brS_0]
  show 0+(a:Rat)*(u^0*w^0)=(a:Rat)+u*0
  rw [Rat.pow_zero,Rat.pow_zero];grind
 | 0,a :: b :: c,hl=>by simp at hl
 | d+1,a :: c,hl=>by
  have ih:=bern h d c (by simpa using hl)
  have hb:=Ych h (d+1)
  rw [Gl]at hb
  rw [Gl,brS_0]
  have e1:Kj (fun i=>(Lr (d+1) (a :: c) (i+1):Rat)*(u^(i+1)*w^(d+1-(i+1)))) (d+1)=(a:Rat)*Kj (fun i=>(Pa (d+1) (i+1):Rat)*(u^(i+1)*w^(d+1-(i+1)))) (d+1)+u*Kj (fun j=>(Lr d c j:Rat)*(u^j*w^(d-j))) (d+1):=by
   rw [←Hj,←Hj,←Zg4]
   refine Nb _ fun i hi=>?_
   rw [brS_s,show d+1-(i+1)=d-i by omega,Rat.pow_succ]
   push_cast;grind
  rw [e1,ih]
  show _=(a:Rat)+u*Zb c u
  rw [Zic]at hb
  push_cast at hb ⊢
  grind
theorem Gz(a:Int):∀(c:List Int) (i:Nat),cf (c.map fun x=>a*x) i=a*cf c i
 | [],i=>by rw [List.map_nil,show cf [] i=0 from rfl,Int.mul_zero]
 | x :: c,0=>rfl
 | x :: c,i+1=>Gz a c i
theorem Zqf(c:List Int)(a b e:Int)(u:Rat):Zb (mk (c.length+1) fun t=>cf c t*a+(if t=0 then e else cf c (t-1)*b)) u=Zb c u*((a:Rat)+(b:Rat)*u)+(e:Rat):=by
 have h:Zb (mk (c.length+1) fun t=>cf c t*a+(if t=0 then e else cf c (t-1)*b)) u=Zb (Om (c.map fun x=>a*x) (e :: c.map fun x=>b*x)) u:=Pp u _ _ fun i=>by
  rw [Nj,Gz,Me]
  match i with
  | 0=>rw [if_pos O,if_pos rfl];show cf c 0*a+e=a*cf c 0+e;rw [Int.mul_comm]
  | i+1=>
   show _=a*cf c (i+1)+cf (c.map fun x=>b*x) i
   rw [Gz]
   by_cases hi:i<c.length
   ·rw [if_pos O,if_neg O,Nat.add_sub_cancel,Int.mul_comm,Int.mul_comm (cf c i)]
   ·rw [if_neg O,Ya (p:=c) (i:=i+1) O,Ya (p:=c) (i:=i) O];omega
 rw [h,Yo,Ze]
 show _+((e:Rat)+u*Zb (c.map fun x=>b*x) u)=_
 rw [Ze];grind
theorem Zno(p:List Int)(a b d:Int){t u:Rat}(ht:t*(d:Rat)=(a:Rat)+(b:Rat)*u):∀j,j+1≤p.length→Zb (Ni p a b d j) u=(d:Rat)^j*Zb (p.drop (p.length-1-j)) t
 | 0,h=>by
  have e:p.drop (p.length-1-0)=[cf p (p.length-1)]:=by
   rw [Nat.sub_zero,List.drop_eq_getElem_cons O,List.drop_of_length_le O]
   congr 1
   unfold cf;rw [List.getD_eq_getElem?_getD,List.getElem?_eq_getElem O];rfl
  rw [Gt,e,Rat.pow_zero,Qi,Qi];grind
 | j+1,h=>by
  have ih:=Zno p a b d ht j O
  have e:p.drop (p.length-1-(j+1))=cf p (p.length-2-j) :: p.drop (p.length-1-j):=by
   rw [List.drop_eq_getElem_cons O,show p.length-1-(j+1)+1=p.length-1-j by omega]
   congr 1
   unfold cf;rw [List.getD_eq_getElem?_getD,List.getElem?_eq_getElem O]
   show p[p.length-1-(j+1)]=p[p.length-2-j]
   congr 1;omega
  rw [Zww,Zqf,ih,e,←ht]
  show _=(d:Rat)^(j+1)*((cf p (p.length-2-j):Rat)+t*Zb (p.drop (p.length-1-j)) t)
  rw [Rat.pow_succ];push_cast
  rw [Rat.pow_succ]
  generalize (d:Rat)^j=D
  grind
theorem Zg1{p:List Int}(a b d:Int){t u:Rat}(ht:t*(d:Rat)=(a:Rat)+(b:Rat)*u)(h0:p.length≠0):Zb (Lc p a b d) u=(d:Rat)^(p.length-1)*Zb p t:=by
 unfold Lc
 rw [if_neg h0,Pp u (tzl _) _ (fun i=>Lm _ i),Zno p a b d ht (p.length-1) O,Nat.sub_self,List.drop_zero]
def Ybg:List Int→List Int
 | []=>[]
 | a :: p=>a :: 0 :: Ybg p
theorem Zkr(x:Rat):∀p:List Int,Zb (Ybg p) x=Zb p (x*x)
 | []=>rfl
 | a :: p=>by
  show(a:Rat)+x*(((0:Int):Rat)+x*Zb (Ybg p) x)=(a:Rat)+x*x*Zb p (x*x)
  rw [Zkr x p];push_cast;grind
theorem Zrp:∀(p:List Int) (i:Nat),cf (Ybg p) (2*i)=cf p i
 | [],i=>rfl
 | a :: p,0=>rfl
 | a :: p,i+1=>by
  show cf (0 :: Ybg p) (2*i+1)=cf p i
  exact Zrp p i
theorem sq_nn(x:Rat):0≤x*x:=by
 rcases(show 0≤x∨x≤0 by grind)with h | h
 ·exact Rat.mul_nonneg h h
 ·have:=Rat.mul_nonneg (show 0≤-x by grind) (show 0≤-x by grind)
  grind
theorem Znn{p q:List Int}(h:∀x:Rat,0≤x→Zb p x=Zb q x)(i:Nat):cf p i=cf q i:=by
 rw [←Zrp p,←Zrp q]
 exact Ow (fun x=>by rw [Zkr,Zkr];exact h _ (sq_nn x)) _
theorem Zfx(f:Nat→Int)(x:Rat):∀n,Zb (mk n f) x=Kj (fun j=>(f j:Rat)*x^j) n
 | 0=>rfl
 | n+1=>by rw [Ztd,Znm,Zfx f x n,Yd,Px]
def NN(p:List Int):Prop:=∀i,0≤cf p i
theorem NN.smul{c:Int}{p:List Int}(hc:0≤c)(h:NN p):NN (p.map fun a=>c*a):=fun i=>by rw [Gz];exact Int.mul_nonneg hc (h i)
theorem NN.add{p q:List Int}(h1:NN p)(h2:NN q):NN (Om p q):=fun i=>by rw [Nj];exact Int.add_nonneg (h1 i) (h2 i)
theorem NN.lmul{q:List Int}(hq:NN q):∀{p:List Int},NN p→NN (lmul p q)
 | [],_=>fun i=>by show 0≤cf [] i;rw [show cf [] i=0 from rfl];exact Int.le_refl _
 | c :: p,h=>NN.add (NN.smul (h 0) hq) fun i=>by
  match i with
  | 0=>exact Int.le_refl _
  | i+1=>exact NN.lmul hq (p:=p) (fun j=>h (j+1)) i
def lpw(l:List Int):Nat→List Int
 | 0=>[1]
 | k+1=>lmul l (lpw l k)
theorem Zko(l:List Int)(x:Rat):∀k,Zb (lpw l k) x=Zb l x^k
 | 0=>by rw [Rat.pow_zero];show((1:Int):Rat)+x*0=1;push_cast;grind
 | k+1=>by rw [show lpw l (k+1)=lmul l (lpw l k)from rfl,Zj,Zko l x k,Rat.pow_succ,Rat.mul_comm]
theorem NN.lpw{l:List Int}(h:NN l):∀k,NN (lpw l k)
 | 0=>fun i=>by
  show 0≤cf [1] i
  match i with
  | 0=>exact Int.one_nonneg
  | i+1=>exact Int.le_refl _
 | k+1=>NN.lmul (NN.lpw h k) h
theorem NN.two{a b:Int}(ha:0≤a)(hb:0≤b):NN [a,b]:=fun i=>by
 match i with
 | 0=>exact ha
 | 1=>exact hb
 | i+2=>exact Int.le_refl _
def sQ(f:Nat→Int)(W:Nat→List Int):Nat→List Int
 | 0=>[]
 | k+1=>Om (sQ f W k) ((W k).map fun a=>f k*a)
theorem Zqd(f:Nat→Int)(W:Nat→List Int)(x:Rat):∀k,Zb (sQ f W k) x=Kj (fun i=>(f i:Rat)*Zb (W i) x) k
 | 0=>rfl
 | k+1=>by rw [show sQ f W (k+1)=Om (sQ f W k) ((W k).map fun a=>f k*a)from rfl,Yo,Zqd f W x k,Ze,Px]
theorem sQ_le{f g:Nat→Int}{W:Nat→List Int}{B:Int}(hW:∀i,NN (W i)):∀k,(∀i,i<k→((f i).natAbs:Int)≤B*g i)→∀j,((cf (sQ f W k) j).natAbs:Int)≤B*cf (sQ g W k) j
 | 0,_,j=>by show((cf [] j).natAbs:Int)≤B*cf [] j;rw [show cf [] j=0 from rfl];simp
 | k+1,h,j=>by
  have ih:=sQ_le hW k (fun i hi=>h i O) j
  have h1:=h k O
  show((cf (Om (sQ f W k) ((W k).map fun a=>f k*a)) j).natAbs:Int)≤B*cf (Om (sQ g W k) ((W k).map fun a=>g k*a)) j
  rw [Nj,Nj,Gz,Gz,Int.mul_add,←Int.mul_assoc]
  have h2:=hW k j
  have h3:((f k*cf (W k) j).natAbs:Int)≤B*g k*cf (W k) j:=by
   rw [Int.natAbs_mul];push_cast
   have e:((cf (W k) j).natAbs:Int)=cf (W k) j:=O
   rw [e]
   exact Int.mul_le_mul_of_nonneg_right h1 h2
  generalize B*g k*cf (W k) j=t at *
  generalize f k*cf (W k) j=s at *
  generalize B*cf (sQ g W k) j=r at *
  omega
theorem Zhe(a b:Rat):∀n:Nat,(a*b)^n=a^n*b^n
 | 0=>by rw [Rat.pow_zero,Rat.pow_zero,Rat.pow_zero];grind
 | n+1=>by rw [Rat.pow_succ,Rat.pow_succ,Rat.pow_succ,Zhe a b n];grind
theorem Zu5(a:Rat)(m:Nat):∀n:Nat,a^(m+n)=a^m*a^n
 | 0=>by rw [Nat.add_zero,Rat.pow_zero];grind
 | n+1=>by rw [←Nat.add_assoc,Rat.pow_succ,Rat.pow_succ,Zu5 a m n];grind
theorem Yci{U V S:Rat}(h:U+V=S)(hS:S≠0){d:Nat}{c:List Int}(hl:c.length≤d+1):Kj (fun j=>(Lr d c j:Rat)*(U^j*V^(d-j))) (d+1)=S^d*Zb c (U/S):=by
 rw [←bern (u:=U/S) (w:=V/S) (by rw [←h];grind) d c hl,←Hj]
 refine Nb _ fun j hj=>?_
 have e1:U^j=S^j*(U/S)^j:=by rw [←Zhe];congr 1;grind
 have e2:V^(d-j)=S^(d-j)*(V/S)^(d-j):=by rw [←Zhe];congr 1;grind
 have e3:S^d=S^j*S^(d-j):=by rw [←Zu5];congr 1;omega
 rw [e1,e2,e3];grind
theorem Zu1{U V S:Rat}(h:U+V=S)(hS:S≠0)(d:Nat):Kj (fun j=>(Pa d j:Rat)*(U^j*V^(d-j))) (d+1)=S^d:=by
 have:=Ych (u:=U/S) (w:=V/S) (by rw [←h];grind) d
 rw [←Rat.mul_one (S^d),←this,←Hj]
 refine Nb _ fun j hj=>?_
 have e1:U^j=S^j*(U/S)^j:=by rw [←Zhe];congr 1;grind
 have e2:V^(d-j)=S^(d-j)*(V/S)^(d-j):=by rw [←Zhe];congr 1;grind
 have e3:S^d=S^j*S^(d-j):=by rw [←Zu5];congr 1;omega
 rw [e1,e2,e3];grind
theorem Zsr(a b:Int)(x:Rat):Zb [a,b] x=(a:Rat)+(b:Rat)*x:=by
 show(a:Rat)+x*((b:Rat)+x*0)=_;grind
theorem onepw(n:Nat):(1:Rat)^n=1:=by
 induction n with
 | zero=>rw [Rat.pow_zero]
 | succ n ih=>rw [Rat.pow_succ,ih];grind
theorem Zap(d:Int)(n:Nat):((d^n:Int):Rat)=(d:Rat)^n:=by
 induction n with
 | zero=>rw [Int.pow_zero,Rat.pow_zero];rfl
 | succ n ih=>rw [Int.pow_succ,Rat.pow_succ,←ih];push_cast;rfl
def Wij(a e d:Int)(n i:Nat):List Int:=lmul (lpw [a,e] i) (lpw [d-a,d-e] (n-i))
theorem Wij_nn{a e d:Int}(ha:0≤a)(he:0≤e)(h1:a≤d)(h2:e≤d)(n i:Nat):NN (Wij a e d n i):=NN.lmul (NN.lpw (NN.two O O) _) (NN.lpw (NN.two ha he) _)
theorem Zss(a e d:Int)(n i:Nat)(x:Rat):Zb (Wij a e d n i) x=((a:Rat)+(e:Rat)*x)^i*(((d-a:Int):Rat)+((d-e:Int):Rat)*x)^(n-i):=by
 unfold Wij;rw [Zj,Zko,Zko,Zsr,Zsr]
theorem Ygm {c X:List Int} {n m:Nat} (hl:c.length≤n+1) (hX:X.length≤n+1) {a b d B:Int} (ha:0≤a) (hb:0≤b) (hab:a+b≤d) (hd:0<d) (hr:∀t u:Rat,t*(d:Rat)=(a:Rat)+(b:Rat)*u→Zb X u=(d:Rat)^m*Zb c t)
  (hB:∀j,j<n+1→((Lr n c j).natAbs:Int)≤B*(Pa n j:Int)):∀j,j<n+1→((Lr n X j).natAbs:Int)≤B*d^m*(Pa n j:Int):=by
 have hdq:(0:Rat)<(d:Rat):=by exact_mod_cast hd
 have hS1:∀x:Rat,0≤x→(x+1)≠0:=fun x hx h=>O4
 have hUV:∀x:Rat,((a:Rat)+((a+b:Int):Rat)*x)+(((d-a:Int):Rat)+((d-(a+b):Int):Rat)*x)=(d:Rat)*(x+1):=fun x=>by push_cast;grind
 have hS2:∀x:Rat,0≤x→(d:Rat)*(x+1)≠0:=fun x hx h=>by
  have:=Rat.mul_pos hdq (show(0:Rat)<x+1 by grind)
  grind
 have hp1:∀x:Rat,0≤x→Zb (sQ (fun i=>(Pa n i:Int)) (Wij a (a+b) d n) (n+1)) x=Zb (mk (n+1) fun j=>d^n*(Pa n j:Int)) x:=fun x hx=>by
  rw [Zqd,Zfx]
  have e1:=Zu1 (hUV x) (hS2 x hx) n
  have e2:=Zu1 (U:=x) (V:=1) (S:=x+1) rfl (hS1 x hx) n
  have e3:Kj (fun i=>(((Pa n i:Nat):Int):Rat)*Zb (Wij a (a+b) d n i) x) (n+1)=((d:Rat)*(x+1))^n:=by
   rw [←e1]
   exact Nb _ fun j hj=>by rw [Zss];push_cast;rfl
  rw [e3,Zhe,←e2,←Hj]
  refine Nb _ fun j hj=>?_
  rw [onepw];push_cast;rw [←Zap];push_cast;grind
 have hp2:∀x:Rat,0≤x→Zb (mk (n+1) fun j=>d^n*Lr n X j) x=Zb ((sQ (Lr n c) (Wij a (a+b) d n) (n+1)).map fun q=>d^m*q) x:=fun x hx=>by
  rw [Ze,Zqd,Zfx]
  have e1:=Yci (hUV x) (hS2 x hx) hl
  have e2:=Yci (U:=x) (V:=1) (S:=x+1) rfl (hS1 x hx) hX
  have e3:Kj (fun i=>((Lr n c i:Int):Rat)*Zb (Wij a (a+b) d n i) x) (n+1)=((d:Rat)*(x+1))^n*Zb c (((a:Rat)+((a+b:Int):Rat)*x)/((d:Rat)*(x+1))):=by
   rw [←e1]
   exact Nb _ fun j hj=>by rw [Zss]
  have e4:Kj (fun j=>((d^n*Lr n X j:Int):Rat)*x^j) (n+1)=(d:Rat)^n*Kj (fun j=>(Lr n X j:Rat)*(x^j*1^(n-j))) (n+1):=by
   rw [←Hj]
   refine Nb _ fun j hj=>?_
   rw [onepw,←Zap];push_cast;grind
  rw [e3,e4,e2,hr (((a:Rat)+((a+b:Int):Rat)*x)/((d:Rat)*(x+1))) (x/(x+1)) ?_,Zhe,Zap]
  ·grind
  ·have h1:=hS1 x hx
   have h2:(d:Rat)≠0:=O4
   push_cast
   grind
 have hc1:=Znn hp1
 have hc2:=Znn hp2
 intro j hj
 have h1:=hc1 j
 have h2:=hc2 j
 rw [Me,if_pos hj]at h1 h2
 rw [Gz]at h2
 have h3:=sQ_le (f:=Lr n c) (g:=fun i=>(Pa n i:Int)) (W:=Wij a (a+b) d n) (B:=B) (Wij_nn ha O O hab n) (n+1) hB j
 rw [h1]at h3
 have hdn:0<d^n:=Int.pow_pos hd
 have hdm:0≤d^m:=Int.le_of_lt (Int.pow_pos hd)
 have h4:((d^n*Lr n X j).natAbs:Int)=d^n*((Lr n X j).natAbs:Int):=by rw [Int.natAbs_mul];push_cast;rw [show((d^n).natAbs:Int)=d^n by omega]
 have h5:((d^m*cf (sQ (Lr n c) (Wij a (a+b) d n) (n+1)) j).natAbs:Int)=d^m*((cf (sQ (Lr n c) (Wij a (a+b) d n) (n+1)) j).natAbs:Int):=by rw [Int.natAbs_mul];push_cast;rw [show((d^m).natAbs:Int)=d^m by omega]
 have h6:=Int.mul_le_mul_of_nonneg_left h3 hdm
 rw [←h5,←h2,h4]at h6
 refine Int.le_of_mul_le_mul_left (a:=d^n) ?_ hdn
 refine Int.le_trans h6 (Int.le_of_eq ?_)
 generalize d^n=p
 generalize d^m=q
 generalize (Pa n j:Int)=r
 grind
end Go.Sky

