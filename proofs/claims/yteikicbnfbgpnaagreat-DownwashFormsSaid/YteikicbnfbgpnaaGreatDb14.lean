/- Rules, arithmetic and contracts: part 15. No conditions but those that each theorem names. -/
import Derived.Test.YteikicbnfbgpnaaGreatDb13
set_option linter.all false
namespace Go.Sky
theorem cgb0{M x0:Int}(hM:0≤M)(h0:-(M*1)≤(x0*1)∧(x0*1)≤M*1):(-(80*M)≤x0∧x0≤80*M):=O
theorem cgb1{M x0 x1:Int}(hM:0≤M)(h0:-(M*1)≤(x0*1)∧(x0*1)≤M*1)(h1:-(M*1)≤(x0*1+x1*1)∧(x0*1+x1*1)≤M*1):(-(80*M)≤x0∧x0≤80*M)∧(-(80*M)≤x1∧x1≤80*M):=by
 refine⟨⟨?_,?_⟩,⟨?_,?_⟩⟩<;>omega
theorem cgb2{M x0 x1 x2:Int}(hM:0≤M)(h0:-(M*1)≤(x0*1)∧(x0*1)≤M*1)(h1:-(M*2)≤(x0*2+x1*1)∧(x0*2+x1*1)≤M*2)(h2:-(M*1)≤(x0*1+x1*1+x2*1)∧(x0*1+x1*1+x2*1)≤M*1):(-(80*M)≤x0∧x0≤80*M)∧(-(80*M)≤x1∧x1≤80*M)∧(-(80*M)≤x2∧x2≤80*M):=by
 refine⟨⟨?_,?_⟩,⟨?_,?_⟩,⟨?_,?_⟩⟩<;>omega
theorem cgb3{M x0 x1 x2 x3:Int}(hM:0≤M)(h0:-(M*1)≤(x0*1)∧(x0*1)≤M*1)(h1:-(M*3)≤(x0*3+x1*1)∧(x0*3+x1*1)≤M*3)(h2:-(M*3)≤(x0*3+x1*2+x2*1)∧(x0*3+x1*2+x2*1)≤M*3)(h3:-(M*1)≤(x0*1+x1*1+x2*1+x3*1)∧(x0*1+x1*1+x2*1+x3*1)≤M*1):(-(80*M)≤x0∧x0≤80*M)∧(-(80*M)≤x1∧x1≤80*M)∧(-(80*M)≤x2∧x2≤80*M)∧(-(80*M)≤x3∧x3≤80*M):=by
 refine⟨⟨?_,?_⟩,⟨?_,?_⟩,⟨?_,?_⟩,⟨?_,?_⟩⟩<;>omega
theorem cgb4{M x0 x1 x2 x3 x4:Int}(hM:0≤M)(h0:-(M*1)≤(x0*1)∧(x0*1)≤M*1)(h1:-(M*4)≤(x0*4+x1*1)∧(x0*4+x1*1)≤M*4)(h2:-(M*6)≤(x0*6+x1*3+x2*1)∧(x0*6+x1*3+x2*1)≤M*6)(h3:-(M*4)≤(x0*4+x1*3+x2*2+x3*1)∧(x0*4+x1*3+x2*2+x3*1)≤M*4)(h4:-(M*1)≤(x0*1+x1*1+x2*1+x3*1+x4*1)∧(x0*1+x1*1+x2*1+x3*1+x4*1)≤M*1):(-(80*M)≤x0∧x0≤80*M)∧(-(80*M)≤x1∧x1≤80*M)∧(-(80*M)≤x2∧x2≤80*M)∧(-(80*M)≤x3∧x3≤80*M)∧(-(80*M)≤x4∧x4≤80*M):=by
 refine⟨⟨?_,?_⟩,⟨?_,?_⟩,⟨?_,?_⟩,⟨?_,?_⟩,⟨?_,?_⟩⟩<;>omega
theorem cgb5{M x0 x1 x2 x3 x4 x5:Int}(hM:0≤M)(h0:-(M*1)≤(x0*1)∧(x0*1)≤M*1)(h1:-(M*5)≤(x0*5+x1*1)∧(x0*5+x1*1)≤M*5)(h2:-(M*10)≤(x0*10+x1*4+x2*1)∧(x0*10+x1*4+x2*1)≤M*10)(h3:-(M*10)≤(x0*10+x1*6+x2*3+x3*1)∧(x0*10+x1*6+x2*3+x3*1)≤M*10)(h4:-(M*5)≤(x0*5+x1*4+x2*3+x3*2+x4*1)∧(x0*5+x1*4+x2*3+x3*2+x4*1)≤M*5)(h5:-(M*1)≤(x0*1+x1*1+x2*1+x3*1+x4*1+x5*1)∧(x0*1+x1*1+x2*1+x3*1+x4*1+x5*1)≤M*1):(-(80*M)≤x0∧x0≤80*M)∧(-(80*M)≤x1∧x1≤80*M)∧(-(80*M)≤x2∧x2≤80*M)∧(-(80*M)≤x3∧x3≤80*M)∧(-(80*M)≤x4∧x4≤80*M)∧(-(80*M)≤x5∧x5≤80*M):=by
 refine⟨⟨?_,?_⟩,⟨?_,?_⟩,⟨?_,?_⟩,⟨?_,?_⟩,⟨?_,?_⟩,⟨?_,?_⟩⟩<;>omega
theorem cg_brS{n:Nat}(hn:n<6){c:List Int}(hl:c.length≤n+1){M:Int}(h:∀j,j<n+1→((Kl n c j).natAbs:Int)≤M*(Pk n j:Int))(k:Nat):((cf c k).natAbs:Int)≤80*M:=by
 have hM:0≤M:=by
  have h0:=h 0 O
  rw [Zjf]at h0;omega
 by_cases hk:k<n+1
 ·rw [Xk]
  match n,hn with
  | 0,_=>
   have h0:=Xk.1 (h 0 O3)
   rw [bre00,show(Pk 0 0:Int)=1 from rfl]at h0
   have key:=cgb0 hM h0
   obtain rfl:k=0:=O
   exact key
  | 1,_=>
   have h0:=Xk.1 (h 0 O3)
   rw [bre10,show(Pk 1 0:Int)=1 from rfl]at h0
   have h1:=Xk.1 (h 1 O3)
   rw [bre11,show(Pk 1 1:Int)=1 from rfl]at h1
   have key:=cgb1 hM h0 h1
   rcases(show k=0∨k=1 by omega)with rfl | rfl
   ·exact key.1
   ·exact key.2
  | 2,_=>
   have h0:=Xk.1 (h 0 O3)
   rw [bre20,show(Pk 2 0:Int)=1 from rfl]at h0
   have h1:=Xk.1 (h 1 O3)
   rw [bre21,show(Pk 2 1:Int)=2 from rfl]at h1
   have h2:=Xk.1 (h 2 O3)
   rw [bre22,show(Pk 2 2:Int)=1 from rfl]at h2
   have key:=cgb2 hM h0 h1 h2
   rcases(show k=0∨k=1∨k=2 by omega)with rfl | rfl | rfl
   ·exact key.1
   ·exact key.2.1
   ·exact key.2.2
  | 3,_=>
   have h0:=Xk.1 (h 0 O3)
   rw [bre30,show(Pk 3 0:Int)=1 from rfl]at h0
   have h1:=Xk.1 (h 1 O3)
   rw [bre31,show(Pk 3 1:Int)=3 from rfl]at h1
   have h2:=Xk.1 (h 2 O3)
   rw [bre32,show(Pk 3 2:Int)=3 from rfl]at h2
   have h3:=Xk.1 (h 3 O3)
   rw [bre33,show(Pk 3 3:Int)=1 from rfl]at h3
   have key:=cgb3 hM h0 h1 h2 h3
   rcases(show k=0∨k=1∨k=2∨k=3 by omega)with rfl | rfl | rfl | rfl
   ·exact key.1
   ·exact key.2.1
   ·exact key.2.2.1
   ·exact key.2.2.2
  | 4,_=>
   have h0:=Xk.1 (h 0 O3)
   rw [bre40,show(Pk 4 0:Int)=1 from rfl]at h0
   have h1:=Xk.1 (h 1 O3)
   rw [bre41,show(Pk 4 1:Int)=4 from rfl]at h1
   have h2:=Xk.1 (h 2 O3)
   rw [bre42,show(Pk 4 2:Int)=6 from rfl]at h2
   have h3:=Xk.1 (h 3 O3)
   rw [bre43,show(Pk 4 3:Int)=4 from rfl]at h3
   have h4:=Xk.1 (h 4 O3)
   rw [bre44,show(Pk 4 4:Int)=1 from rfl]at h4
   have key:=cgb4 hM h0 h1 h2 h3 h4
   rcases(show k=0∨k=1∨k=2∨k=3∨k=4 by omega)with rfl | rfl | rfl | rfl | rfl
   ·exact key.1
   ·exact key.2.1
   ·exact key.2.2.1
   ·exact key.2.2.2.1
   ·exact key.2.2.2.2
  | 5,_=>
   have h0:=Xk.1 (h 0 O3)
   rw [bre50,show(Pk 5 0:Int)=1 from rfl]at h0
   have h1:=Xk.1 (h 1 O3)
   rw [bre51,show(Pk 5 1:Int)=5 from rfl]at h1
   have h2:=Xk.1 (h 2 O3)
   rw [bre52,show(Pk 5 2:Int)=10 from rfl]at h2
   have h3:=Xk.1 (h 3 O3)
   rw [bre53,show(Pk 5 3:Int)=10 from rfl]at h3
   have h4:=Xk.1 (h 4 O3)
   rw [bre54,show(Pk 5 4:Int)=5 from rfl]at h4
   have h5:=Xk.1 (h 5 O3)
   rw [bre55,show(Pk 5 5:Int)=1 from rfl]at h5
   have key:=cgb5 hM h0 h1 h2 h3 h4 h5
   rcases(show k=0∨k=1∨k=2∨k=3∨k=4∨k=5 by omega)with rfl | rfl | rfl | rfl | rfl | rfl
   ·exact key.1
   ·exact key.2.1
   ·exact key.2.2.1
   ·exact key.2.2.2.1
   ·exact key.2.2.2.2.1
   ·exact key.2.2.2.2.2
 ·rw [Yl O];simp;omega
theorem AxC.cg{c:List Int}{ov:Int}(h:AxC c ov)(k:Nat):((cf c k).natAbs:Int)≤83886080*ov:=by
 have hl:=h.l
 have:=cg_brS (n:=c.length-1) O (c:=c) O (M:=1048576*ov) (fun j hj=>h.b j O) k
 omega
open Go.RowKit (Below)
variable {P:Program} {N:Nat} {sc:Nat→Prop} {env env':Qw} {H H':Hp} {Q Q':Exit→Act→World→Prop} {M:Nat→Prop}
def Ad(l:List Int)(r:List Value):Array Value:=(l.map (Value.int .i64) ++ r).toArray
theorem Zhc(l:List Int)(r:List Value):(Ad l r).size=l.length+r.length:=by simp [Ad]
theorem Yfg{l:List Int}{r:List Value}{j:Nat}(h:j<l.length):(Ad l r)[j]? = some (.int .i64 (l.getD j 0)):=by
 simp [Ad,List.getElem?_append_left,h,List.getD_eq_getElem?_getD]
theorem Yff{l:List Int}{r:List Value}{j:Nat}{v:Int}(h:j<l.length):Hu (Ad l r) j [.int .i64 v]=Ad (l.set j v) r:=by
 unfold Hu Ad
 congr 1
 rw [List.set_eq_take_append_cons_drop,if_pos h,List.map_append,List.map_cons,List.map_take,List.map_drop]
 have h1:j≤(l.map (Value.int .i64)).length:=by rw [List.length_map];omega
 have h2:j+1≤(l.map (Value.int .i64)).length:=by rw [List.length_map];omega
 simp only [List.length_cons,List.length_nil,Nat.zero_add]
 rw [List.take_append_of_le_length h1,List.drop_append_of_le_length h2]
 simp
theorem Zti(l:List Int):cellsOf Zx l=l.map (Value.int .i64):=by
 induction l with
 | nil=>rfl
 | cons x l ih=>rw [show cellsOf Zx (x :: l)=(Zx x).cells.toList ++ cellsOf Zx l from rfl,ih];rfl
theorem f_obox{e:TypeId}{v:Value}{xs:List Int}(i:Nat)(hi:lk H i=some (Oa 1 e Zx v xs))(hx:xs≠[]):∀a w,Sat N sc env H a w→∃y:Nat×Nat×List Value,
  v= .slice (some ⟨y.1,0,none⟩) xs.length y.2.1∧xs.length+y.2.2.length=y.2.1∧y.2.1≤maxLen∧w.heap[y.1]? = some (.cells (Ad xs y.2.2) e (0,0)):=fun a w hs=>by
 have hrow:w.ownsRow 0 e 1 v xs.length (cellsOf Zx xs):=hs.hold i _ hi
 rcases hrow.2 with⟨rfl,hn⟩ | ⟨g,cap,cur,rfl,hb,hg,hnc,hcm,hcs,htake⟩
 ·exact absurd (List.eq_nil_of_length_eq_zero hn) hx
 ·rw [Nat.mul_one]at hcs htake
  refine⟨(g,cap,cur.toList.drop xs.length),rfl,?_,hcm,?_⟩
  ·show xs.length+(cur.toList.drop xs.length).length=cap
   have h9:cur.toList.length=cap:=by rw [Array.length_toList];exact hcs
   rw [List.length_drop,h9];omega
  ·show w.heap[g]? = some (.cells (Ad xs (cur.toList.drop xs.length)) e (0,0))
   rw [show Ad xs (cur.toList.drop xs.length)=cur by
    unfold Ad
    rw [←Zti,←htake,List.take_append_drop]]
   exact hg
theorem s_obox {e:TypeId} {b c:Nat} {xs:List Int} {r:List Value} {w0:World} {M0:Nat→Prop} (i:Nat) (hi:lk H i=some (Oa 1 e Zx (.slice (some ⟨b,0,none⟩) xs.length c) xs)) (hi0:Nat.beq i 0=false) (h0:lk H 0=some (Xm w0 M0)) (hw:∀b,w0.heap.size≤b→sc b)
  {a:Act} {w:World} (hs:Sat N sc env H a w) (hh:w.heap[b]? = some (.cells (Ad xs r) e (0,0))):Sat N sc env ((i,box b e (Ad xs r)) :: H) a w:=
 hs.upd hi rfl (fun e=>by subst e;simp at hi0) (Chg.refl _ w) hh (fun k hk=> .inl (by show some b=some k;rw [show k=b from hk])) h0 hw
theorem e_obox {cd:Code} {e:TypeId} {v:Value} {xs:List Int} {w0:World} {M0:Nat→Prop} (i:Nat) (hi:lk H i=some (Oa 1 e Zx v xs)) (hi0:Nat.beq i 0=false) (hx:xs≠[]) (h0:lk H 0=some (Xm w0 M0)) (hw:∀b,w0.heap.size≤b→sc b)
  (h:∀(b c:Nat) (r:List Value),v= .slice (some ⟨b,0,none⟩) xs.length c→xs.length+r.length=c→c≤maxLen→E P N sc cd Q env ((i,box b e (Ad xs r)) :: H)):E P N sc cd Q env H:=fun a w hs=>by
 obtain⟨⟨b,c,r⟩,hv,h1,h2,h3⟩:=f_obox i hi hx a w hs
 subst hv
 exact h b c r rfl h1 h2 a w (s_obox i hi hi0 h0 hw hs h3)
theorem Yga{e:TypeId}{b c:Nat}{xs:List Int}{r:List Value}{w0:World}{M0:Nat→Prop}(i:Nat)(hi:lk H i=some (box b e (Ad xs r)))(hi0:Nat.beq i 0=false)(hc:xs.length+r.length=c)(hm:c≤maxLen)(h0:lk H 0=some (Xm w0 M0))(hw:∀b,w0.heap.size≤b→sc b) :
  ∀a w,Sat N sc env H a w→Sat N sc env ((i,Oa 1 e Zx (.slice (some ⟨b,0,none⟩) xs.length c) xs) :: H) a w:=fun a w hs=>by
 have hh:w.heap[b]? = some (.cells (Ad xs r) e (0,0)):=hs.hold i _ hi
 refine hs.upd hi rfl (fun e=>by subst e;simp at hi0) (Chg.refl _ w) ?_ (fun k hk=> .inl (by cases hk;rfl)) h0 hw
 refine⟨by rw [Zti,List.length_map,Nat.mul_one],.inr ⟨b,c,_,rfl,Nat.zero_le _,hh,O,hm,by rw [Zhc,Nat.mul_one];exact hc,?_⟩⟩
 rw [Zti,Nat.mul_one]
 show((xs.map (Value.int .i64)) ++ r).take xs.length=_
 rw [List.take_append_of_le_length (by rw [List.length_map];exact Nat.le_refl _),List.take_of_length_le (by rw [List.length_map];exact Nat.le_refl _)]
theorem Cr {o:Oper} {x y:Operand} {t e:TypeId} {b off n c i:Nat} {kd:IntKind} {m:Int} (ho:o.op= .indexAddr t x y) (hx:ev env x=some (.slice (some ⟨b,off,none⟩) n c)) (hy:ev env y=some (.int kd m))
  (ht:P.underlying t=some (.slice e)) (hk:∀w,(sizeOf e).run P w= .ok 1 w) (him:m=(i:Int)) (hlt:i<n):Nt P N sc o env H (.pointer (some ⟨b,off+i,none⟩)):=fun a w hs=>by
 subst him
 simp [execOp,ho,hs.ev hx,hs.ev hy,Instr.indexAt,asIntOf,run_underlying ht,hk,hlt,Pq]
theorem Znk {o:Oper} {x:Operand} {t e:TypeId} {ad:Option Addr} {n c:Nat} (ho:o.op= .call { callee:= .builtin .len,args:=#[x],argTypes:=#[t] })
  (hx:ev env x=some (.slice ad n c)) (ht:P.underlying t=some (.slice e)):Nt P N sc o env H (.int .i64 (n:Int)):=fun a w hs=>by
 simp [execOp,ho,resolve,hs.ev hx,invoke,builtin,Builtin.len_,run_underlying ht,goInt]
theorem Za6{o:Oper}{x:Operand}{t tb:TypeId}{i b j:Nat}{l:List Int}{r:List Value}(ho:o.op= .load t x)(hx:ev env x=some (.pointer (some ⟨b,j,none⟩)))(hH:lk H i=some (box b tb (Ad l r)))(ht:∀w,(isAgg t).run P w= .ok false w)(hj:j<l.length) :
  Nt P N sc o env H (.int .i64 (l.getD j 0)):=Zyq ho hx hH ht (Yfg hj)
theorem Zok {o:Oper} {x y:Operand} {t tb:TypeId} {i b j:Nat} {l:List Int} {r:List Value} {v:Int} {w0:World} {M0:Nat→Prop} (ho:o.op= .store t x y) (hd:o.dst=none)
  (hx:ev env x=some (.pointer (some ⟨b,j,none⟩))) (hy:ev env y=some (.int .i64 v)) (hH:lk H i=some (box b tb (Ad l r))) (hi0:i≠0) (hk:∀w,(sizeOf t).run P w= .ok 1 w) (hj:j<l.length)
  (h0:lk H 0=some (Xm w0 M0)) (hw:∀b,w0.heap.size≤b→sc b) (hM:M b) :
  T P N sc M o env H (G:=Unit) (fun _=>True) (fun _=>env) (fun _=>(i,box b tb (Ad (l.set j v) r)) :: H):=by
 rw [←Yff hj]
 exact Zhl (vs:=[.int .i64 v]) ho hd hx hy hH hi0 rfl hk rfl (by rw [Zhc];simp;omega) (fun u hu=>Yo (by rw [List.mem_singleton.1 hu];rfl)) rfl h0 hw hM
theorem Ydr {o:Oper} {x y:Operand} {t e:TypeId} {b off n c i:Nat} {kd:IntKind} {m:Int} (ho:o.op= .slice t x (some y) none none) (hx:ev env x=some (.slice (some ⟨b,off,none⟩) n c)) (hy:ev env y=some (.int kd m))
  (ht:P.underlying t=some (.slice e)) (hk:∀w,(sizeOf e).run P w= .ok 1 w) (him:m=(i:Int)) (hlt:i<n) (hn:n≤c):Nt P N sc o env H (.slice (some ⟨b,off+i,none⟩) (n-i) (c-i)):=fun a w hs=>by
 subst him
 have h4:i≤n:=O
 have h6:i<c:=O
 simp [execOp,ho,hs.ev hx,hs.ev hy,Instr.sliceAt,Instr.slice,Instr.sliceBounds,Instr.sliceBound,asIntOf,run_underlying ht,hk,h4,h6,hn,Pq]
 intro h7;omega
theorem d_prew {o:Oper} {x y:Operand} {t e:TypeId} {b n c i:Nat} {kd:IntKind} {m:Int} (ho:o.op= .slice t x none (some y) none) (hx:ev env x=some (.slice (some ⟨b,0,none⟩) n c)) (hy:ev env y=some (.int kd m))
  (ht:P.underlying t=some (.slice e)) (hk:∀w,(sizeOf e).run P w= .ok 1 w) (him:m=(i:Int)) (hlt:i≤n) (hn:n≤c):Nt P N sc o env H (.slice (some ⟨b,0,none⟩) i c):=fun a w hs=>by
 subst him
 have h6:i≤c:=O
 simp [execOp,ho,hs.ev hx,hs.ev hy,Instr.sliceAt,Instr.slice,Instr.sliceBounds,Instr.sliceBound,asIntOf,run_underlying ht,hk,hlt,h6,Pq]
theorem t_clw {o:Oper} {x:Operand} {t te:TypeId} {i b lo n c':Nat} {l:List Int} {r:List Value} {w0:World} {M0:Nat→Prop}
  (ho:o.op= .call { callee:= .builtin .clear,args:=#[x],argTypes:=#[t] }) (hd:o.dst=none)
  (hx:ev env x=some (.slice (some ⟨b,lo,none⟩) n c')) {tb:TypeId} (hH:lk H i=some (box b tb (Ad l r))) (hi0:i≠0)
  (hn:0<n) (hlo:lo+n=l.length) (ht:P.underlying t=some (.slice te)) (hk:∀w,(sizeOf te).run P w= .ok 1 w)
  (hz:∀w,(zeroValue te).run P w= .ok (.int .i64 0) w)
  (h0:lk H 0=some (Xm w0 M0)) (hw:∀b,w0.heap.size≤b→sc b) (hM:M b) :
  T P N sc M o env H (G:=Unit) (fun _=>True) (fun _=>env) (fun _=>(i,box b tb (Ad (l.take lo) (List.replicate n (Value.int .i64 0) ++ r))) :: H):=fun a w hs K Q hK=>by
 have hb:w.heap[b]? = some (.cells (Ad l r) tb (0,0)):=hs.hold i _ hH
 have hzc:(Builtin.zeroCells (Value.int .i64 0).cells n).toList=List.replicate n (Value.int .i64 0):=by
  apply List.ext_getElem
  ·simp [Builtin.zeroCells,Value.cells]
  ·intro i h2 h3
   simp [Builtin.zeroCells,Value.cells,Nat.mod_one]
 have hst:=run_storeCells_at P b lo tb (List.replicate n (Value.int .i64 0)) 0 (Ad l r) w hb (by rw [Zhc,List.length_replicate];omega) (fun u hu=>by rw [List.eq_of_mem_replicate hu];rfl)
 simp only [Nat.add_zero,List.length_replicate]at hst
 have hcs:((Ad l r).toList.take lo ++ List.replicate n (Value.int .i64 0) ++ (Ad l r).toList.drop (lo+n)).toArray=Ad (l.take lo) (List.replicate n (Value.int .i64 0) ++ r):=by
  unfold Ad
  congr 1
  show((l.map (Value.int .i64) ++ r).take lo ++ _) ++ (l.map (Value.int .i64) ++ r).drop (lo+n)=_
  rw [List.take_append_of_le_length (by rw [List.length_map];omega),List.drop_append_of_le_length (by rw [List.length_map];omega),List.drop_eq_nil_of_le (by rw [List.length_map];omega),List.map_take,List.nil_append,List.append_assoc]
 rw [hcs]at hst
 obtain⟨m,rfl⟩:∃m,n=m+1:=⟨n-1,O⟩
 have hr2:(execOp a.eval o).run P w= .ok (.value (.tuple #[])) (w.setRow b (Ad (l.take lo) (List.replicate (m+1) (Value.int .i64 0) ++ r))):=by
  simp only [execOp,ho,resolve,invoke,builtin]
  simp [hs.ev hx,Builtin.clear_,run_underlying ht,hz,hzc,hst]
 unfold Oper.wp
 rw [hr2]
 show K (a.put o.dst _) _
 rw [hd]
 exact hK () _ _ trivial ((hs.upd hH rfl hi0 (q:=box b tb (Ad (l.take lo) (List.replicate (m+1) (Value.int .i64 0) ++ r))) (Kx (M:=fun k=>k=b) _ rfl) (setRow_heap w b _ _ tb _ hb) (fun k hk=> .inl hk) h0 hw).put_none _) (Kx _ hM)
theorem res0{a:Act}{w:World}{fn:Func}(hs:Sat N sc env H a w)(hf:fn.results=#[]):(results fn a.tmps).run P w= .ok (.tuple #[]) w:=by
 simp [results,hf]
end Go.Sky
namespace Go.Sky
def Srt(l:List Int)(n:Nat):Prop:=∀p q,p<q→q<n→l.getD p 0≤l.getD q 0
def Sst(l:List Int)(n:Nat):Prop:=∀p q,p<q→q<n→l.getD p 0<l.getD q 0
def Ye7(l:List Int)(i j:Nat):Prop:=∀p q,p<q→q≤i→q≠j→l.getD p 0≤l.getD q 0
def Sam(l m:List Int):Prop:=m.length=l.length∧∀x,x∈m↔x∈l
theorem Sam.rfl'(l:List Int):Sam l l:=⟨rfl,fun _=>Iff.rfl⟩
theorem Da{l:List Int}{i j:Nat}{v:Int}(hi:i<l.length):(l.set i v).getD j 0=if j=i then v else l.getD j 0:=Zfj hi
def swp(l:List Int)(j:Nat):List Int:=(l.set j (l.getD (j-1) 0)).set (j-1) (l.getD j 0)
theorem Zvd(l:List Int)(j:Nat):(swp l j).length=l.length:=by simp [swp]
theorem Br{l:List Int}{j:Nat}(hj:j<l.length)(h1:1≤j)(k:Nat):(swp l j).getD k 0=if k=j-1 then l.getD j 0 else if k=j then l.getD (j-1) 0 else l.getD k 0:=by
 unfold swp
 rw [Da (by rw [List.length_set];omega),Da hj]
theorem Gl{l:List Int}{x:Int} : x∈l↔∃k,k<l.length∧l.getD k 0=x:=by
 constructor
 ·intro h
  obtain⟨k,hk,e⟩:=List.mem_iff_getElem.1 h
  exact⟨k,hk,by rw [List.getD_eq_getElem?_getD,List.getElem?_eq_getElem hk];exact e⟩
 ·rintro⟨k,hk,rfl⟩
  exact Zj hk
theorem Zuj{l:List Int}{j:Nat}(hj:j<l.length)(h1:1≤j):Sam l (swp l j):=⟨Zvd l j,fun x=>by
 rw [Gl,Gl,Zvd]
 constructor
 ·rintro⟨k,hk,e⟩
  rw [Br hj h1]at e
  by_cases a:k=j-1
  ·rw [if_pos a]at e;exact⟨j,hj,e⟩
  ·rw [if_neg a]at e
   by_cases b:k=j
   ·rw [if_pos b]at e;exact⟨j-1,O,e⟩
   ·rw [if_neg b]at e;exact⟨k,hk,e⟩
 ·rintro⟨k,hk,e⟩
  by_cases a:k=j-1
  ·exact⟨j,hj,by rw [Br hj h1,if_neg O,if_pos rfl,←a];exact e⟩
  ·by_cases b:k=j
   ·exact⟨j-1,O,by rw [Br hj h1,if_pos rfl,←b];exact e⟩
   ·exact⟨k,hk,by rw [Br hj h1,if_neg a,if_neg b];exact e⟩⟩
theorem Sam.trans{l m n:List Int}(h:Sam l m)(h2:Sam m n):Sam l n:=⟨h2.1.trans h.1,fun x=>(h2.2 x).trans (h.2 x)⟩
theorem srtx_0{l:List Int}{i:Nat}(h:Srt l i):Ye7 l i i:=fun p q h1 h2 h3=>h p q h1 O
theorem Zoq{l:List Int}{i j:Nat}(h:Ye7 l i j)(hj:j<l.length)(h1:1≤j)(hji:j≤i)(hlt:l.getD j 0<l.getD (j-1) 0):Ye7 (swp l j) i (j-1):=fun p q h2 h3 h4=>by
 rw [Br hj h1,Br hj h1,if_neg h4]
 by_cases a:q=j
 ·rw [if_pos a]
  by_cases b:p=j-1
  ·rw [if_pos b];omega
  ·rw [if_neg b,if_neg O]
   exact h p (j-1) O O O
 ·rw [if_neg a]
  by_cases b:p=j-1
  ·rw [if_pos b]
   exact h j q O h3 a
  ·rw [if_neg b]
   by_cases c:p=j
   ·rw [if_pos c];exact h (j-1) q O h3 a
   ·rw [if_neg c];exact h p q h2 h3 a
theorem Zzt{l:List Int}{i j:Nat}(h:Ye7 l i j)(hj:j≤i)(hh:j=0∨(1≤j∧¬l.getD j 0<l.getD (j-1) 0)):Srt l (i+1):=fun p q h1 h2=>by
 by_cases a:q=j
 ·rcases hh with b | ⟨b,c⟩
  ·omega
  ·subst a
   by_cases d:p=q-1
   ·subst d;omega
   ·have:=h p (q-1) O O O
    omega
 ·exact h p q h1 O a
theorem srt_1(l:List Int):Srt l 1:=fun p q h1 h2=>O
structure Cmp (xs zs:List Int):Prop where
 s:Sst zs zs.length
 m:∀x,x∈zs↔x∈xs
theorem Zzs{l:List Int}{n:Nat}(h:Srt l n)(hd:∀q,1≤q→q<n→l.getD q 0≠l.getD (q-1) 0):Sst l n:=fun p q h1 h2=>by
 have h3:=hd q O h2
 have h4:=h (q-1) q O h2
 rcases Nat.lt_or_eq_of_le (show p≤q-1 by omega)with h5 | h5
 ·have:=h p (q-1) h5 O;omega
 ·subst h5;omega
theorem Yif{l:List Int}(h:Srt l l.length)(hd:∀q,1≤q→q<l.length→l.getD q 0≠l.getD (q-1) 0):Cmp l l:=⟨Zzs h hd,fun x=>Iff.rfl⟩
structure Cml (xs l:List Int) (m k:Nat):Prop where
 k1:1≤k
 km:k<m
 ml:m≤xs.length
 ll:l.length=xs.length
 r:∀q,m≤q+1→l.getD q 0=xs.getD q 0
 s:Sst l k
 e:∀x,(∃p,p<k∧l.getD p 0=x)↔∃p,p<m∧xs.getD p 0=x
 z:l.getD (k-1) 0=xs.getD (m-1) 0
theorem cml_0{xs:List Int}{k:Nat}(hs:Srt xs xs.length)(hd:∀q,1≤q→q<k→xs.getD q 0≠xs.getD (q-1) 0)(hk:1≤k)(hl:k<xs.length)(he:xs.getD k 0=xs.getD (k-1) 0):Cml xs xs (k+1) k:=
 ⟨hk,O,O,rfl,fun q _=>rfl,Zzs (fun p q h1 h2=>hs p q h1 O) hd,fun x=>by
  constructor
  ·rintro⟨p,h1,h2⟩;exact⟨p,O,h2⟩
  ·rintro⟨p,h1,h2⟩
   by_cases a:p=k
   ·subst a;exact⟨p-1,O,by rw [←he];exact h2⟩
   ·exact⟨p,O,h2⟩,by rw [show k+1-1=k by omega];exact he.symm⟩
theorem cml_eq{xs l:List Int}{m k:Nat}(h:Cml xs l m k)(hm:m<xs.length)(he:l.getD m 0=l.getD (m-1) 0):Cml xs l (m+1) k:=by
 have h1:=h.r m O
 have h2:=h.r (m-1) (by have:=h.k1;have:=h.km;omega)
 have hk1:=h.k1
 have hkm:=h.km
 refine⟨h.k1,O,hm,h.ll,fun q hq=>h.r q O,h.s,fun x=>(h.e x).trans ⟨?_,?_⟩,?_⟩
 ·rintro⟨p,h3,h4⟩;exact⟨p,O,h4⟩
 ·rintro⟨p,h3,h4⟩
  by_cases a:p=m
  ·subst a;exact⟨p-1,O,by rw [←h4,←h1,←h2];exact he.symm⟩
  ·exact⟨p,O,h4⟩
 ·rw [h.z,show m+1-1=m by omega,←h1,←h2];exact he.symm
theorem cml_ne{xs l:List Int}{m k:Nat}(hs:Srt xs xs.length)(h:Cml xs l m k)(hm:m<xs.length)(he:l.getD m 0≠l.getD (m-1) 0):Cml xs (l.set k (l.getD m 0)) (m+1) (k+1):=by
 have h1:=h.r m O
 have hk1:=h.k1
 have hkm:=h.km
 have h2:=h.r (m-1) O
 have hll:=h.ll
 have hkl:k<l.length:=O
 have hlt:xs.getD (m-1) 0<xs.getD m 0:=by
  have:=hs (m-1) m O hm
  omega
 refine⟨O,O,hm,by rw [List.length_set];exact h.ll,fun q hq=>?_,fun p q h3 h4=>?_,fun x=>?_,?_⟩
 ·rw [Da hkl,if_neg O];exact h.r q O
 ·rw [Da hkl,Da hkl,if_neg (show p≠k by omega)]
  by_cases a:q=k
  ·rw [if_pos a,h1]
   have hz:=h.z
   rcases Nat.lt_or_eq_of_le (show p≤k-1 by omega)with h5 | h5
   ·have:=h.s p (k-1) h5 O;omega
   ·subst h5;omega
  ·rw [if_neg a];exact h.s p q h3 O
 ·constructor
  ·rintro⟨p,h3,h4⟩
   rw [Da hkl]at h4
   by_cases a:p=k
   ·rw [if_pos a,h1]at h4;exact⟨m,O,h4⟩
   ·rw [if_neg a]at h4
    obtain⟨q,h5,h6⟩:=(h.e x).1 ⟨p,O,h4⟩
    exact⟨q,O,h6⟩
  ·rintro⟨p,h3,h4⟩
   by_cases a:p=m
   ·exact⟨k,O,by rw [Da hkl,if_pos rfl,h1,←a];exact h4⟩
   ·obtain⟨q,h5,h6⟩:=(h.e x).2 ⟨p,O,h4⟩
    exact⟨q,O,by rw [Da hkl,if_neg O];exact h6⟩
 ·rw [show k+1-1=k by omega,Da hkl,if_pos rfl,show m+1-1=m by omega];exact h1
theorem Zg0{l:List Int}{k p:Nat}(h:p<k):(l.take k).getD p 0=l.getD p 0:=by
 rw [List.getD_eq_getElem?_getD,List.getD_eq_getElem?_getD,List.getElem?_take_of_lt h]
theorem cml_e{xs l:List Int}{k:Nat}(h:Cml xs l xs.length k):Cmp xs (l.take k):=by
 have hk:=h.km
 have hll:=h.ll
 have hl:(l.take k).length=k:=by rw [List.length_take];omega
 refine⟨fun p q h1 h2=>?_,fun x=>?_⟩
 ·rw [hl]at h2
  rw [Zg0 O,Zg0 h2];exact h.s p q h1 h2
 ·rw [Gl,Gl,←h.e x,hl]
  constructor
  ·rintro⟨p,h1,h2⟩;rw [Zg0 h1]at h2;exact⟨p,h1,h2⟩
  ·rintro⟨p,h1,h2⟩;exact⟨p,h1,by rw [Zg0 h1];exact h2⟩
def Ziu(x:Int):List Int→List Int
 | []=>[x]
 | y :: l=>if x<y then x :: y :: l else if x=y then y :: l else y :: Ziu x l
def Inc:List Int→Prop
 | []=>True
 | x :: l=>(∀y∈l,x<y)∧Inc l
theorem Zik{x z:Int} : ∀{l:List Int},z∈Ziu x l↔z=x∨z∈l
 | []=>by simp [Ziu]
 | y :: l=>by
  unfold Ziu
  split
  ·simp
  ·split
   ·rename_i h;subst h;simp
   ·rw [List.mem_cons,Zik,List.mem_cons]
    constructor
    ·rintro(h | h | h)
     ·exact .inr (.inl h)
     ·exact .inl h
     ·exact .inr (.inr h)
    ·rintro(h | h | h)
     ·exact .inr (.inl h)
     ·exact .inl h
     ·exact .inr (.inr h)
theorem Zqb{x:Int} : ∀{l:List Int},Inc l→Inc (Ziu x l)
 | [],_=>⟨fun y h=>(nomatch h),trivial⟩
 | y :: l,h=>by
  unfold Ziu
  split
  ·rename_i h1
   exact⟨fun z hz=>by
    rcases List.mem_cons.1 hz with rfl | hz
    ·exact h1
    ·have:=h.1 z hz;omega,h⟩
  ·split
   ·exact h
   ·refine⟨fun z hz=>?_,Zqb h.2⟩
    rcases Zik.1 hz with rfl | hz
    ·omega
    ·exact h.1 z hz
def Zor(l:List Int):List Int:=l.foldr Ziu []
theorem Ziv:∀(l:List Int),Inc (Zor l)
 | []=>trivial
 | x :: l=>Zqb (Ziv l)
theorem Zij{z:Int} : ∀{l:List Int},z∈Zor l↔z∈l
 | []=>Iff.rfl
 | x :: l=>by
  show z∈Ziu x (Zor l)↔_
  rw [Zik,Zij,List.mem_cons]
theorem Yck:∀{l m:List Int},Inc l→Inc m→(∀x,x∈l↔x∈m)→l=m
 | [],[],_,_,_=>rfl
 | [],y :: m,_,_,h=>absurd ((h y).2 (List.mem_cons_self ..)) (fun h=>nomatch h)
 | x :: l,[],_,_,h=>absurd ((h x).1 (List.mem_cons_self ..)) (fun h=>nomatch h)
 | x :: l,y :: m,hl,hm,h=>by
  have e:x=y:=by
   have h1:=(h x).1 (List.mem_cons_self ..)
   have h2:=(h y).2 (List.mem_cons_self ..)
   rcases List.mem_cons.1 h1 with h3 | h3
   ·exact h3
   ·rcases List.mem_cons.1 h2 with h4 | h4
    ·exact h4.symm
    ·have:=hm.1 x h3
     have:=hl.1 y h4
     omega
  subst e
  rw [Yck hl.2 hm.2 fun z=>by
   have h1:=h z
   rw [List.mem_cons,List.mem_cons]at h1
   constructor
   ·intro h2
    rcases h1.1 (.inr h2)with h3 | h3
    ·subst h3;have:=hl.1 z h2;omega
    ·exact h3
   ·intro h2
    rcases h1.2 (.inr h2)with h3 | h3
    ·subst h3;have:=hm.1 z h2;omega
    ·exact h3]
theorem Zvi:∀{l:List Int},Sst l l.length→Inc l
 | [],_=>trivial
 | x :: l,h=>⟨fun y hy=>by
  obtain⟨k,hk,rfl⟩:=Gl.1 hy
  exact h 0 (k+1) O O8,Zvi fun p q h1 h2=>h (p+1) (q+1) O O8⟩
theorem Yd8{xs ys zs:List Int}(h1:Sam xs ys)(h2:Cmp ys zs):zs=Zor xs:=
 Yck (Zvi h2.s) (Ziv xs) fun x=>by rw [h2.m,h1.2,Zij]
theorem Zt7:∀{l:List Int},Inc l→Sst l l.length
 | [],_=>fun p q _ h=>absurd h (Nat.not_lt_zero _)
 | x :: l,h=>fun p q h1 h2=>by
  match p,q,h1 with
  | 0,q+1,_=>
   show x<l.getD q 0
   exact h.1 _ (Zj (by simp at h2;omega))
  | p+1,q+1,h1=>exact Zt7 h.2 p q O (by simp at h2;omega)
theorem Yhe(j:Nat):j=0∨1≤j:=O
theorem hd_s{xs:List Int}{k:Nat}(h:∀q,1≤q→q<k→xs.getD q 0≠xs.getD (q-1) 0)(h2:¬xs.getD k 0=xs.getD (k-1) 0):∀q,1≤q→q<k+1→xs.getD q 0≠xs.getD (q-1) 0:=fun q h3 h4=>by
 rcases Nat.lt_succ_iff_lt_or_eq.1 h4 with h5 | h5
 ·exact h q h3 h5
 ·subst h5;exact h2
theorem Zuv(c:List Int)(a:Int):∀k,plS c a 1 k=Zy (fun k=>cf c k*a^k) k
  | 0=>rfl
  | k+1=>by
    show plS c a 1 k+plT c a 1 k=_
    rw [Yi,Zuv c a k]
    congr 1
    show c.getD k 0*(a^k*1^_)=cf c k*a^k
    rw [Int.one_pow,Int.mul_one];rfl
theorem Zku(f:Nat→Int):∀n,((Zy f n:Int):Rat)=Ky (fun i=>(f i:Rat)) n
  | 0=>rfl
  | n+1=>by rw [Yi,Ow,←Zku f n];push_cast;rfl
theorem Ybh(c:List Int)(a:Int):((pl c a 1:Int):Rat)=Zb c (a:Rat):=by
  unfold pl
  rw [Zuv,Zku]
  conv=>rhs;rw [←Zbw c]
  rw [Zgw]
  exact Nv _ fun i hi=>by rw [←Zbc];push_cast;rfl
theorem Prt.pl{q g:Zv}{G:Int}(h:Prt q g G){a a':Int}(ht:a*(g.1.2.1-g.1.1)=(q.1.1-g.1.1)+(q.1.2.1-q.1.1)*a')(i:Nat) :
    Sky.pl (Zp i q.2.1.2 q.2.2.1.2 q.2.2.2.2) a' 1*G=Sky.pl (Zp i g.2.1.2 g.2.2.1.2 g.2.2.2.2) a 1*(g.1.2.1-g.1.1)^5:=by
  have h1:=h.x i (a:Rat) (a':Rat) (by exact_mod_cast ht)
  rw [←Ybh,←Ybh,←Zbc]at h1
  have h2:((Sky.pl (Zp i q.2.1.2 q.2.2.1.2 q.2.2.2.2) a' 1*G:Int):Rat)=((Sky.pl (Zp i g.2.1.2 g.2.2.1.2 g.2.2.2.2) a 1*(g.1.2.1-g.1.1)^5:Int):Rat):=by
    rw [Rat.intCast_mul,Rat.intCast_mul,h1,Rat.mul_comm]
  exact_mod_cast h2
structure Chn (ps:List Zv):Prop where
 lt:∀g∈ps,g.1.1<g.1.2.1
 eq:∀(i:Nat) (g h:Zv),ps[i]? = some g→ps[i+1]? = some h→g.1.2.1=h.1.1
theorem Chn.tail{g:Zv}{r:List Zv}(h:Chn (g :: r)):Chn r:=⟨fun x hx=>h.lt x (List.mem_cons_of_mem _ hx),fun i x y hx hy=>h.eq (i+1) x y hx hy⟩
theorem Chn.ge:∀{r:List Zv} {g:Zv},Chn (g :: r)→∀x∈r,g.1.2.1≤x.1.1
 | [],_,_,_,hx=>nomatch hx
 | h :: r,g,hc,x,hx=>by
  have h1:=hc.eq 0 g h rfl rfl
  rcases List.mem_cons.1 hx with rfl | hx
  ·omega
  ·have:=Chn.ge hc.tail x hx
   have:=hc.lt h O7
   omega
theorem Zm4{fr to:Int} : ∀{ps:List Zv},Chn ps→∀(j:Nat) (f f':Zv),(ps.filter (Kt fr to))[j]? = some f→(ps.filter (Kt fr to))[j+1]? = some f'→∃i:Nat,ps[i]? = some f∧ps[i+1]? = some f'
 | [],_,j,f,f',h,_=>by simp at h
 | g :: r,hc,j,f,f',h1,h2=>by
  cases hp:Kt fr to g with
  | false=>
   rw [List.filter_cons_of_neg (by rw [hp];exact Bool.false_ne_true)]at h1 h2
   obtain⟨i,a,b⟩:=Zm4 hc.tail j f f' h1 h2
   exact⟨i+1,a,b⟩
  | true=>
   rw [List.filter_cons_of_pos hp]at h1 h2
   match j with
   | j+1=>
    obtain⟨i,a,b⟩:=Zm4 hc.tail j f f' h1 h2
    exact⟨i+1,a,b⟩
   | 0=>
    obtain rfl:g=f:=by simpa using h1
    have h2:(r.filter (Kt fr to))[0]? = some f':=h2
    have hm:f'∈r.filter (Kt fr to):=List.mem_of_getElem? h2
    obtain⟨hm1,hm2⟩:=List.mem_filter.1 hm
    match r,hc,h2,hm1 with
    | h :: r,hc,h2,hm1=>
     have e1:=hc.eq 0 g h rfl rfl
     have l1:=hc.lt h O7
     have c1:=of_decide_eq_true hp
     have c2:=of_decide_eq_true hm2
     have hh:Kt fr to h=true:=by
      refine decide_eq_true ?_
      unfold cA cB at *
      rcases List.mem_cons.1 hm1 with rfl | q
      ·exact c2
      ·have:=Chn.ge hc.tail f' q
       omega
     rw [List.filter_cons_of_pos hh]at h2
     obtain rfl:h=f':=by simpa using h2
     exact⟨0,rfl,rfl⟩
theorem getD_some{α:Type}{l:List α}{i:Nat}{x d:α}(h:l[i]? = some x):l.getD i d=x:=by rw [List.getD_eq_getElem?_getD,h];rfl
theorem Zd5{ps:List Zv}(hi:∀g∈ps,Gin g)(hb:Nr ps=true):Chn ps∧(∀g∈ps,seB g=true)∧∀(i:Nat) (g h:Zv),ps[i]? = some g→ps[i+1]? = some h→meG g h=true:=by
 obtain⟨h1,h2,h3⟩:=Dj hb
 have hse:∀g∈ps,seB g=true:=fun g hg=>by
  obtain⟨i,hi',e⟩:=List.mem_iff_getElem.1 hg
  have:=Zgy (h1 i hi')
  rw [List.getD_eq_getElem?_getD,List.getElem?_eq_getElem hi',Option.getD_some,e]at this
  exact this
 have hme:∀(i:Nat) (g h:Zv),ps[i]? = some g→ps[i+1]? = some h→meG g h=true:=fun i g h hg hh=>by
  have hlt:=(List.getElem?_eq_some_iff.1 hh).1
  have:=h1 (i+1) hlt
  rw [Zsf (Zgy this) O,Nat.add_sub_cancel,getD_some hg,getD_some hh]at this
  exact this
 refine⟨⟨fun g hg=>(Cz (hi g hg) (hse g hg)).t2,fun i g h hg hh=>?_⟩,hse,hme⟩
 have:=hme i g h hg hh
 unfold meG Zpw at this
 rw [Bool.and_eq_true,decide_eq_true_iff]at this
 exact this.1
structure Pat (fr to:Int) (ps qs:List Zv):Prop where
 gin:∀q∈qs,Gin q
 pb:Nr qs=true
 len:qs.length=(ps.filter (Kt fr to)).length
 prt:∀(j:Nat) (q:Zv),qs[j]? = some q→∃f:Zv,(ps.filter (Kt fr to))[j]? = some f∧f∈ps∧Prt q f (cG fr to f)
 nxt:∀(j:Nat) (q r:Zv),qs[j]? = some q→qs[j+1]? = some r→∃(i:Nat) (f h:Zv),ps[i]? = some f∧ps[i+1]? = some h∧Prt q f (cG fr to f)∧Prt r h (cG fr to h)∧q.1.2.1=f.1.2.1∧r.1.1=h.1.1
theorem Ydx{fr to:Int} : ∀{ps:List Zv},Chn ps→ps≠[]→spF ps≤fr→fr<to→to≤spL ps→ps.filter (Kt fr to)≠[]
 | [],_,h,_,_,_=>absurd rfl h
 | g :: r,hc,_,h1,h2,h3=>by
  have l1:=hc.lt g O7
  have h1:g.1.1≤fr:=h1
  by_cases hp:Kt fr to g=true
  ·rw [List.filter_cons_of_pos hp];exact List.cons_ne_nil _ _
  ·have hp2:¬cA fr g<cB to g:=fun h=>hp (decide_eq_true h)
   have e:g.1.2.1≤fr:=by unfold cA cB at hp2;omega
   rw [List.filter_cons_of_neg hp]
   match r,hc,h3 with
   | [],_,h3=>
    have h3:to≤g.1.2.1:=h3
    omega
   | h :: r,hc,h3=>
    have e1:=hc.eq 0 g h rfl rfl
    refine Ydx hc.tail (List.cons_ne_nil _ _) (by show h.1.1≤fr;omega) h2 ?_
    have:spL (g :: h :: r)=spL (h :: r):=by unfold spL;simp
    rw [←this];exact h3
def jqP(fr to ov:Int)(x y z:List Int)(fr2 to2 ov2:Int)(x2 y2 z2:List Int)(i:Nat):Prop:=qr (bgS (Zp i x2 y2 z2)) (Ci [ov2,to2-fr2])=qr (enS (Zp i x y z)) (Ci [ov,to-fr])
def refS(o:Nat)(x y z:List Int):Nat→List Int
 | 0=>[]
 | i+1=>Ei (refS o x y z i) (Xs (dN o (tzl (Zp i x y z))) (dN o (tzl (Zp i x y z))))
def refC(o:Nat)(m ov T:Int):Int:=m^2*ov^2*T^(2*o)
def refF(o:Nat)(m ov T:Int)(x y z:List Int):List Int:=Bb (tzl [refC o m ov T]) (Zm (refS o x y z 3) (1000^(2*o)))
theorem ps_Cm(a b:Int):PS.C (a*b)=PS.C a*PS.C b:=PS.ext' fun i=>by rw [PS.C_mul_c];cases i<;>simp [PS.C]
theorem Zxk(p:List Int)(k:Int):Xs (Zm p k) (Zm p k)=Zm (Xs p p) (k*k):=(Xo _ _).ps_inj (Xq _ _) (by
 rw [Zl7,Zkx,Zkx,Zl7,ps_Cm];grind)
theorem sz_one{c:Int}{n:Nat}(h:bl c.natAbs≤n):Sz n [c]:=Sz.of_mem fun t ht=>by rw [List.mem_singleton.1 ht];exact h
def frB(ps:List Zv)(sp ac:Int)(i:Nat):Int:=
 if 0<i∧joG (ps.getD (i-1) G0) (ps.getD i G0)=false then 1 else if Zc1 (Ycv 1 sp (ps.getD i G0))=true then 2 else if Zc1 (Ycv 2 ac (ps.getD i G0))=true then 3 else 0
def fiB(ps:List Zv)(sp ac:Int):Option (Nat×Int):=((List.range ps.length).find? fun i=>decide (frB ps sp ac i≠0)).map fun i=>(i,frB ps sp ac i)
def fiI(o:Option (Nat×Int)):Int:=match o with
 | none=>0
 | some g=>g.1
def fiC(o:Option (Nat×Int)):Int:=match o with
 | none=>0
 | some g=>g.2
abbrev firV (o:Option (Nat×Int)):Value:= .tuple #[.agg #[.int .i64 (fiI o),.int .i64 (fiC o)],.bool o.isSome,.int .i64 0]
theorem Yd4{p:List Int}(h:Tr p)(h0:p≠[]):(0:Rat)<(Ym p:Rat):=by
 have h1:=Dx h h0
 have h2:=Oe p
 exact_mod_cast (show 0<Ym p by omega)
def spd(o:Nat)(x y z:List Int)(u:Rat):Rat:=Zb (refS o x y z 3) u
def lstB(o:Nat)(ps:List Zv):Nat:=Yfz (fun n=>Ycf o ps (n:Int)) 14 0 10000
def lsV(o:Nat)(ps:List Zv):Nat:=if Ycf o ps 10000 then lstB o ps else 0
theorem Zw6(a b:Bool):a=false∨(a=true∧b=false)∨(a=true∧b=true):=by cases a<;>cases b<;>simp
def dR(o:Nat)(c:List Int)(u:Rat):Rat:=Zb (dN o (tzl c)) u
theorem Prt.num{q g:Zv}{G:Int}(h:Prt q g G):∃v s:Rat,0≤v∧0<s∧v+s≤1∧s*((g.1.2.1-g.1.1:Int):Rat)=((q.1.2.1-q.1.1:Int):Rat)∧v*((g.1.2.1-g.1.1:Int):Rat)=((q.1.1-g.1.1:Int):Rat)∧(0:Rat)<((g.1.2.1-g.1.1:Int):Rat)∧
  ∀i (u:Rat),Zb (Zp i q.2.1.2 q.2.2.1.2 q.2.2.2.2) u*(G:Rat)=((g.1.2.1-g.1.1:Int):Rat)^5*Zb (Zp i g.2.1.2 g.2.2.1.2 g.2.2.2.2) (v+s*u):=by
 have h1:=h.a0
 have h2:=h.b0
 have h3:=h.ab
 have hx:=h.x
 generalize g.1.2.1-g.1.1=d at *
 generalize q.1.2.1-q.1.1=b at *
 generalize q.1.1-g.1.1=a at *
 have hd:(0:Rat)<(d:Rat):=by exact_mod_cast (show 0<d by omega)
 have ha:(0:Rat)≤(a:Rat):=by exact_mod_cast h1
 have hb:(0:Rat)<(b:Rat):=by exact_mod_cast h2
 have hab:(a:Rat)+(b:Rat)≤(d:Rat):=by exact_mod_cast h3
 have hi:0<(d:Rat)⁻¹:=Rat.inv_pos.2 hd
 have e1:(a:Rat)/d*d=a:=Rat.div_mul_cancel O4
 have e2:(b:Rat)/d*d=b:=Rat.div_mul_cancel O4
 refine⟨(a:Rat)/d,(b:Rat)/d,?_,?_,?_,e2,e1,hd,fun i u=>hx i _ u (by
  have e3:(b:Rat)/d*u*d=((b:Rat)/d*d)*u:=by rw [Rat.mul_assoc,Rat.mul_comm u,←Rat.mul_assoc]
  rw [Rat.add_mul,e1,e3,e2])⟩
 ·rw [Rat.div_def];exact Rat.mul_nonneg ha (Rat.le_of_lt hi)
 ·rw [Rat.div_def];exact Rat.mul_pos hb hi
 ·have:((a:Rat)/d+b/d)*d≤1*d:=by rw [Rat.add_mul,e1,e2];grind
  exact Rat.le_of_mul_le_mul_right this hd
theorem Zs9{fr to:Int}{ps:List Zv}(h:Py fr to ps=true):Zta fr to ps=0:=if_pos h
theorem Yd2{fr to:Int}{ps:List Zv}(h:Py fr to ps=false):Zta fr to ps=7:=if_neg (by rw [h];exact Bool.false_ne_true)
theorem lh_M{fr to:Int}{ps:List Zv}(hi:∀g∈ps,Gin g)(hb:Nr ps=true):∀g∈ps,Kt fr to g=true→MdG fr to g:=fun g hg hc=>Yb2 (hi g hg) ((Zd5 hi hb).2.1 g hg) hc
def inn(fr to:Int)(ps:List Zv):List Int:=(ps.filter fun g=>decide (fr<g.1.1) && decide (g.1.1<to)).map fun g=>g.1.1
theorem inn_t{fr to:Int}{ps:List Zv}{k:Nat}(hk:k<ps.length)(h1:fr<(ps.getD k G0).1.1)(h2:(ps.getD k G0).1.1<to):inn fr to (ps.take (k+1))=inn fr to (ps.take k) ++ [(ps.getD k G0).1.1]:=by
  unfold inn
  rw [Zlm (x:=ps.getD k G0) (by rw [List.getD_eq_getElem?_getD,List.getElem?_eq_getElem hk];rfl),List.filter_append,List.map_append]
  rw [show List.filter (fun g:Zv=>decide (fr<g.1.1) && decide (g.1.1<to)) [ps.getD k G0]=[ps.getD k G0]from List.filter_cons_of_pos (by rw [decide_eq_true h1,decide_eq_true h2];rfl)]
  rfl
theorem inn_f{fr to:Int}{ps:List Zv}{k:Nat}(hk:k<ps.length)(h:¬(fr<(ps.getD k G0).1.1∧(ps.getD k G0).1.1<to)):inn fr to (ps.take (k+1))=inn fr to (ps.take k):=by
  unfold inn
  rw [Zlm (x:=ps.getD k G0) (by rw [List.getD_eq_getElem?_getD,List.getElem?_eq_getElem hk];rfl),List.filter_append,List.map_append]
  rw [show List.filter (fun g:Zv=>decide (fr<g.1.1) && decide (g.1.1<to)) [ps.getD k G0]=[] by
    rw [List.filter_cons_of_neg (fun h9=>by rw [Bool.and_eq_true]at h9;exact h ⟨of_decide_eq_true h9.1,of_decide_eq_true h9.2⟩)];rfl]
  simp
theorem Zmw(fr to:Int)(ps:List Zv):(inn fr to ps).length≤ps.length:=by
  unfold inn;rw [List.length_map];exact List.length_filter_le _ _
theorem Zu7{fr to x:Int}{ps:List Zv} : x∈inn fr to ps↔∃g∈ps,g.1.1=x∧fr<x∧x<to:=by
  unfold inn
  rw [List.mem_map]
  constructor
  · rintro⟨g,hg,rfl⟩
    obtain⟨h1,h2⟩:=List.mem_filter.1 hg
    simp only [Bool.and_eq_true,decide_eq_true_eq]at h2
    exact⟨g,h1,rfl,h2.1,h2.2⟩
  · rintro⟨g,hg,rfl,h1,h2⟩
    exact⟨g,List.mem_filter.2 ⟨hg,by simp [h1,h2]⟩,rfl⟩
def cmF(a b:List Zv):Int:=max (spF a) (spF b)
def cmL(a b:List Zv):Int:=min (spL a) (spL b)
def Zdl(a b:List Zv)(i:Nat):List Int:=cmF a b :: cmL a b :: ((if 1≤i then inn (cmF a b) (cmL a b) a else []) ++ (if 2≤i then inn (cmF a b) (cmL a b) b else []))
def Lc(a b:List Zv):List Int:=Zor (Zdl a b 2)
def Gz{α:Type _}(i:Nat)(a b:α):α:=if i=0 then a else b
theorem tms_s{a b:List Zv}{i:Nat}(h:i<2):Zdl a b (i+1)=Zdl a b i ++ inn (cmF a b) (cmL a b) (Gz i a b):=by
  match i,h with
  | 0,_=>simp [Zdl,Gz]
  | 1,_=>simp [Zdl,Gz]
theorem Zgz{a b:List Zv}{x:Int} : x∈Lc a b↔x=cmF a b∨x=cmL a b∨(cmF a b<x∧x<cmL a b∧((∃g∈a,g.1.1=x)∨∃g∈b,g.1.1=x)):=by
  unfold Lc
  rw [Zij]
  show x∈cmF a b :: cmL a b :: (inn _ _ a ++ inn _ _ b)↔_
  rw [List.mem_cons,List.mem_cons,List.mem_append,Zu7,Zu7]
  constructor
  · rintro(h | h | ⟨g,h1,h2,h3,h4⟩ | ⟨g,h1,h2,h3,h4⟩)
    · exact .inl h
    · exact .inr (.inl h)
    · exact .inr (.inr ⟨h3,h4,.inl ⟨g,h1,h2⟩⟩)
    · exact .inr (.inr ⟨h3,h4,.inr ⟨g,h1,h2⟩⟩)
  · rintro(h | h | ⟨h3,h4,⟨g,h1,h2⟩ | ⟨g,h1,h2⟩⟩)
    · exact .inl h
    · exact .inr (.inl h)
    · exact .inr (.inr (.inl ⟨g,h1,h2,h3,h4⟩))
    · exact .inr (.inr (.inr ⟨g,h1,h2,h3,h4⟩))
theorem Yiv(a b:List Zv):Sst (Lc a b) (Lc a b).length:=Zt7 (Ziv _)
theorem Zp7(x:Int):∀l:List Int,(Ziu x l).length≤l.length+1
  | []=>Nat.le_refl _
  | y :: l=>by
    have:=Zp7 x l
    unfold Ziu
    split
    · exact Nat.le_refl _
    · split
      · exact Nat.le_succ _
      · simp only [List.length_cons];omega
theorem Zp4:∀l:List Int,(Zor l).length≤l.length
  | []=>Nat.le_refl _
  | x :: l=>by
    have:=Zp4 l
    have:=Zp7 x (Zor l)
    show(Ziu x (Zor l)).length≤_
    simp only [List.length_cons];omega
theorem Zmv(a b:List Zv)(i:Nat):(Zdl a b i).length≤2+a.length+b.length:=by
  have h1:=Zmw (cmF a b) (cmL a b) a
  have h2:=Zmw (cmF a b) (cmL a b) b
  unfold Zdl
  split<;>split<;>simp<;>omega
theorem Zve(a b:List Zv):(Lc a b).length≤2+a.length+b.length:=Nat.le_trans (Zp4 _) (Zmv a b 2)
structure Bks (a b:List Zv):Prop where
  two:2≤(Lc a b).length
  hd:(Lc a b).getD 0 0=cmF a b
  ls:(Lc a b).getD ((Lc a b).length-1) 0=cmL a b
  lt:∀k,k+1<(Lc a b).length→cmF a b≤(Lc a b).getD k 0∧(Lc a b).getD k 0<(Lc a b).getD (k+1) 0∧(Lc a b).getD (k+1) 0≤cmL a b
  no:∀k,k+1<(Lc a b).length→∀g,g∈a∨g∈b→¬((Lc a b).getD k 0<g.1.1∧g.1.1<(Lc a b).getD (k+1) 0)
theorem bks{a b:List Zv}(h:cmF a b<cmL a b):Bks a b:=by
  have hs:=Yiv a b
  have hF:cmF a b∈Lc a b:=Zgz.2 (.inl rfl)
  have hL:cmL a b∈Lc a b:=Zgz.2 (.inr (.inl rfl))
  have hb:∀x∈Lc a b,cmF a b≤x∧x≤cmL a b:=fun x hx=>by
    rcases Zgz.1 hx with h1 | h1 | ⟨h1,h2,_⟩<;>omega
  obtain⟨i,hi,ei⟩:=Gl.1 hF
  obtain⟨j,hj,ej⟩:=Gl.1 hL
  have two:2≤(Lc a b).length:=by
    by_cases e:i=j
    · subst e;omega
    · omega
  have hd:(Lc a b).getD 0 0=cmF a b:=by
    by_cases e:i=0
    · subst e;exact ei
    · have h1:=hs 0 i O hi
      have h2:=(hb _ (Zj (zs:=Lc a b) (i:=0) (d:=0))).1
      omega
  have ls:(Lc a b).getD ((Lc a b).length-1) 0=cmL a b:=by
    by_cases e:j=(Lc a b).length-1
    · rw [←e];exact ej
    · have h1:=hs j ((Lc a b).length-1) O O
      have h2:=(hb _ (Zj (zs:=Lc a b) (i:=(Lc a b).length-1) (d:=0))).2
      omega
  refine⟨two,hd,ls,fun k hk=>⟨(hb _ (Zj)).1,hs k (k+1) O hk,(hb _ (Zj hk)).2⟩,fun k hk g hg h9=>?_⟩
  have h1:=(hb _ (Zj (zs:=Lc a b) (i:=k) (d:=0))).1
  have h2:=(hb _ (Zj (zs:=Lc a b) (i:=k+1) (d:=0) hk)).2
  have hm:g.1.1∈Lc a b:=Zgz.2 (.inr (.inr ⟨O,O,by
    rcases hg with hg | hg
    · exact .inl ⟨g,hg,rfl⟩
    · exact .inr ⟨g,hg,rfl⟩⟩))
  obtain⟨q,hq,eq⟩:=Gl.1 hm
  rcases Nat.lt_trichotomy q k with c | c | c
  · have:=hs q k c O;omega
  · subst c;omega
  · rcases Nat.lt_trichotomy q (k+1)with d | d | d
    · omega
    · subst d;omega
    · have:=hs (k+1) q d hq;omega
theorem Zv7{fr to:Int}{g:Zv}(h:Kt fr to g=true):fr<g.1.2.1∧g.1.1<to:=by
  unfold Kt cA cB at h
  have:=of_decide_eq_true h
  exact⟨O,O⟩
theorem Zv6{fr to:Int}{ps:List Zv}(hc:Chn ps)(hne:ps≠[])(h1:spF ps≤fr)(h2:fr<to)(h3:to≤spL ps)(hno:∀g∈ps,¬(fr<g.1.1∧g.1.1<to)):(ps.filter (Kt fr to)).length=1:=by
  have h4:=Ydx hc hne h1 h2 h3
  have h5:0<(ps.filter (Kt fr to)).length:=List.length_pos_iff.2 h4
  rcases Nat.lt_or_ge 1 (ps.filter (Kt fr to)).length with h6 | h6
  · exfalso
    have e0:=List.getElem?_eq_getElem h5
    have e1:=List.getElem?_eq_getElem h6
    obtain⟨i,f1,f2⟩:=Zm4 hc 0 _ _ e0 e1
    have m0:=(List.mem_filter.1 (List.getElem_mem h5)).2
    have m1:=(List.mem_filter.1 (List.getElem_mem h6)).2
    have hm1:=(List.mem_filter.1 (List.getElem_mem h6)).1
    have he:=hc.eq i _ _ f1 f2
    have c0:=Zv7 m0
    have c1:=Zv7 m1
    exact hno _ hm1 ⟨O,O⟩
  · omega
def Zgi(ts:List Int)(ps:List Zv):Nat→List Zri
  | 0=>[]
  | n+1=>Zgi ts ps n ++ Zca (ts.getD n 0) (ts.getD (n+1) 0) ps
def Eo(ts:List Int)(a b:List Zv):Nat→Bool
  | 0=>true
  | n+1=>Eo ts a b n && (Py (ts.getD n 0) (ts.getD (n+1) 0) a && Py (ts.getD n 0) (ts.getD (n+1) 0) b)
def Ztd(a b:List Zv):Bool:=Eo (Lc a b) a b ((Lc a b).length-1)
def Bv(a b:List Zv):Int:=if cmF a b≥cmL a b then 9 else if Ztd a b then 0 else 7
def Ii(a b ps:List Zv):List Zri:=if Bv a b=0 then Zgi (Lc a b) ps ((Lc a b).length-1)else []
theorem Zq1{ts:List Int}{a b:List Zv} : ∀{n m:Nat},n≤m→Eo ts a b m=true→Eo ts a b n=true
  | n, 0, h, hk => by obtain rfl : n = 0 := by omega
                      rfl
  | n,m+1,h,hk=>by
    rcases Nat.lt_or_ge m n with h1 | h1
    · obtain rfl:n=m+1:=O
      exact hk
    · refine Zq1 h1 ?_
      have:Eo ts a b (m+1)=(Eo ts a b m && (Py (ts.getD m 0) (ts.getD (m+1) 0) a && Py (ts.getD m 0) (ts.getD (m+1) 0) b)):=rfl
      rw [this,Bool.and_eq_true]at hk
      exact hk.1
def tik(a b:List Zv)(i k:Nat):List Int:=Zdl a b i ++ inn (cmF a b) (cmL a b) ((Gz i a b).take k)
theorem tik_0(a b:List Zv)(i:Nat):tik a b i 0=Zdl a b i:=by
  unfold tik;rw [List.take_zero];exact List.append_nil _
theorem tik_t{a b:List Zv}{i k:Nat}(hk:k<(Gz i a b).length)(h1:cmF a b<((Gz i a b).getD k G0).1.1)(h2:((Gz i a b).getD k G0).1.1<cmL a b):tik a b i (k+1)=tik a b i k ++ [((Gz i a b).getD k G0).1.1]:=by
  unfold tik;rw [inn_t hk h1 h2,List.append_assoc]
theorem tik_f{a b:List Zv}{i k:Nat}(hk:k<(Gz i a b).length)(h:¬(cmF a b<((Gz i a b).getD k G0).1.1∧((Gz i a b).getD k G0).1.1<cmL a b)):tik a b i (k+1)=tik a b i k:=by
  unfold tik;rw [inn_f hk h]
theorem tik_e{a b:List Zv}{i:Nat}(hi:i<2):tik a b i (Gz i a b).length=Zdl a b (i+1):=by
  unfold tik;rw [List.take_length,tms_s hi]
theorem Zp5(a b:List Zv)(i:Nat):(Gz i a b).length≤a.length+b.length:=by
  unfold Gz;split<;>omega
theorem Yg9(a b:List Zv)(i k:Nat):(tik a b i k).length≤2+2*(a.length+b.length):=by
  have h1:=Zmv a b i
  have h2:=Zmw (cmF a b) (cmL a b) ((Gz i a b).take k)
  have h3:=Zp5 a b i
  have h4:((Gz i a b).take k).length≤(Gz i a b).length:=List.length_take_le' _ _
  unfold tik;rw [List.length_append];omega
theorem tms_ne(a b:List Zv)(i:Nat):Zdl a b i≠[]:=fun h=>nomatch h
theorem tms_2(a b:List Zv)(i:Nat):2≤(Zdl a b i).length:=by unfold Zdl;simp
section
variable {P:Program} {N:Nat} {sc:Nat→Prop} {env:Qw} {H:Hp}
theorem Ygb{sa sb sd:SL}{a b:List Zv}(i j k n:Nat)(hj:lk H j=some (Pz 6 Mo qG (Xb sa) a))(hk:lk H k=some (Pz 6 Mo qG (Xb sb) b))(hj0:Nat.beq j 0=false)(hk0:Nat.beq k 0=false)(hi:i<2) :
    ∀a' w,Sat N sc env H a' w→Sat N sc env ((n,Pz 6 Mo qG (Xb ([sa,sb].getD i sd)) (Gz i a b)) :: H) a' w:=by
  match i,hi with
  | 0,_=>exact Zcd j n hj hj0 rfl (fun _ h=>h) (fun _ h=>h) rfl
  | 1,_=>exact Zcd k n hk hk0 rfl (fun _ h=>h) (fun _ h=>h) rfl
end
theorem Yd5{a b:List Zv}(h:cmF a b≥cmL a b)(ps:List Zv):Bv a b=9∧Ii a b ps=[]:=by
  have e:Bv a b=9:=if_pos h
  exact⟨e,by unfold Ii;rw [e];rfl⟩
theorem Zlb{a b:List Zv}(h:¬cmF a b≥cmL a b){n:Nat}(hn:n+1<(Lc a b).length)(hc:(Py ((Lc a b).getD n 0) ((Lc a b).getD (n+1) 0) a && Py ((Lc a b).getD n 0) ((Lc a b).getD (n+1) 0) b)=false)(ps:List Zv):Bv a b=7∧Ii a b ps=[]:=by
  have k:Ztd a b=false:=by
    cases hk:Ztd a b with
    | false=>rfl
    | true=>
      have h1:=Zq1 (n:=n+1) O hk
      have h2:Eo (Lc a b) a b (n+1)=(Eo (Lc a b) a b n && (Py ((Lc a b).getD n 0) ((Lc a b).getD (n+1) 0) a && Py ((Lc a b).getD n 0) ((Lc a b).getD (n+1) 0) b)):=rfl
      rw [h2,hc,Bool.and_false]at h1
      exact h1.symm
  have e:Bv a b=7:=by unfold Bv;rw [if_neg h,k];rfl
  exact⟨e,by unfold Ii;rw [e];rfl⟩
theorem Yd6{a b:List Zv}(h:¬cmF a b≥cmL a b){n:Nat}(hn:n+1=(Lc a b).length)(hc:Eo (Lc a b) a b n=true):Bv a b=0∧∀ps,Ii a b ps=Zgi (Lc a b) ps n:=by
  have k:Ztd a b=true:=by unfold Ztd;rw [show(Lc a b).length-1=n by omega];exact hc
  have e:Bv a b=0:=by unfold Bv;rw [if_neg h,k];rfl
  exact⟨e,fun ps=>by unfold Ii;rw [e,if_pos rfl,show(Lc a b).length-1=n by omega]⟩
theorem com_k{a b:List Zv}{n:Nat}(h:Eo (Lc a b) a b n=true)(h1:Py ((Lc a b).getD n 0) ((Lc a b).getD (n+1) 0) a=true)(h2:Py ((Lc a b).getD n 0) ((Lc a b).getD (n+1) 0) b=true):Eo (Lc a b) a b (n+1)=true:=by
  show(Eo (Lc a b) a b n && (_ && _))=true
  rw [h,h1,h2];rfl
theorem com_z{ts:List Int}{ps zs us:List Zv}{n:Nat}(h:zs.map unS=Zgi ts ps n)(hu:us.map unS=Zca (ts.getD n 0) (ts.getD (n+1) 0) ps):(zs ++ us).map unS=Zgi ts ps (n+1):=by
  rw [List.map_append,h,hu];rfl
theorem com_u{ps us:List Zv}{fr to:Int}(hi:∀g∈ps,Gin g)(hb:Nr ps=true)(h1:spF ps≤fr)(h2:fr<to)(h3:to≤spL ps)(hno:∀g∈ps,¬(fr<g.1.1∧g.1.1<to))(hc:Py fr to ps=true)(hu:us.map unS=Zca fr to ps):us.length=1:=by
  have hl:=(Dj hb).2.1
  have h4:=Zv6 (Zd5 hi hb).1 (fun e=>by rw [e]at hl;simp at hl) h1 h2 h3 hno
  have h5:=congrArg List.length hu
  rw [List.length_map]at h5
  rw [h5]
  unfold Zca
  rw [if_pos hc,List.length_map,h4]
theorem com_ua{a b us:List Zv}{n:Nat}(hi:∀g∈a,Gin g)(hb:Nr a=true)(B:Bks a b)(hn:n+1<(Lc a b).length)(hc:Py ((Lc a b).getD n 0) ((Lc a b).getD (n+1) 0) a=true)(hu:us.map unS=Zca ((Lc a b).getD n 0) ((Lc a b).getD (n+1) 0) a):us.length=1:=by
  obtain⟨h1,h2,h3⟩:=B.lt n hn
  unfold cmF at h1
  unfold cmL at h3
  exact com_u hi hb O h2 O (fun g hg=>B.no n hn g (.inl hg)) hc hu
theorem com_ub{a b us:List Zv}{n:Nat}(hi:∀g∈b,Gin g)(hb:Nr b=true)(B:Bks a b)(hn:n+1<(Lc a b).length)(hc:Py ((Lc a b).getD n 0) ((Lc a b).getD (n+1) 0) b=true)(hu:us.map unS=Zca ((Lc a b).getD n 0) ((Lc a b).getD (n+1) 0) b):us.length=1:=by
  obtain⟨h1,h2,h3⟩:=B.lt n hn
  unfold cmF at h1
  unfold cmL at h3
  exact com_u hi hb O h2 O (fun g hg=>B.no n hn g (.inr hg)) hc hu
theorem Ztv{a b:Bool}(h:a=false):(a && b)=false:=by rw [h];rfl
theorem Ztu{a b:Bool}(h:b=false):(a && b)=false:=by rw [h];exact Bool.and_false _
end Go.Sky
namespace Go.Sky
section
variable {P:Program} {N:Nat} {sc:Nat→Prop} {env:Qw} {H:Hp}
theorem d_ix4 {o:Oper} {x y:Operand} {t e:TypeId} {i:Nat} {kd:IntKind} {m n0 n1 n2 n3:Int} (ho:o.op= .index t x y) (hx:ev env x=some (.agg #[.int .i64 n0,.int .i64 n1,.int .i64 n2,.int .i64 n3])) (hy:ev env y=some (.int kd m))
  (ht:P.underlying t=some (.array 4 e)) (hk:∀w,(sizeOf e).run P w= .ok 1 w) (ha:∀w,(isAgg e).run P w= .ok false w) (him:m=(i:Int)) (hlt:i<4):Nt P N sc o env H (.int .i64 ([n0,n1,n2,n3].getD i 0)):=fun a w hs=>by
 subst him
 have h3:i=0∨i=1∨i=2∨i=3:=O
 rcases h3 with rfl | rfl | rfl | rfl<;>simp [execOp,ho,hs.ev hx,hs.ev hy,Instr.index,asIntOf,run_underlying ht,hk,ha,asAgg,part]
theorem d_ix9 {o:Oper} {x y:Operand} {t e:TypeId} {i:Nat} {kd:IntKind} {m n0 n1 n2:Int} {v0 v1 v2 u0 u1 u2:Value} (ho:o.op= .index t x y) (hx:ev env x=some (.agg #[v0,u0,.int .i64 n0,v1,u1,.int .i64 n1,v2,u2,.int .i64 n2])) (hy:ev env y=some (.int kd m))
  (ht:P.underlying t=some (.array 3 e)) (hk:∀w,(sizeOf e).run P w= .ok 3 w) (ha:∀w,(isAgg e).run P w= .ok true w) (him:m=(i:Int)) (hlt:i<3):Nt P N sc o env H (.agg #[Zp i v0 v1 v2,Zp i u0 u1 u2,.int .i64 (Zp i n0 n1 n2)]):=fun a w hs=>by
 subst him
 have h3:i=0∨i=1∨i=2:=O
 rcases h3 with rfl | rfl | rfl<;>simp [execOp,ho,hs.ev hx,hs.ev hy,Instr.index,asIntOf,run_underlying ht,hk,ha,asAgg,part,Zp]
end
def KA:Nat:=360287970189639680
theorem AxC.ka{c:List Int}{ov:Int}(h:AxC c ov)(h1:1≤ov)(h2:ov≤4294967296):Ab KA (tzl c):=fun k=>by
 have:=h.cg k
 rw [Lj]
 unfold KA;omega
def BG:Nat:=2^250*2^250
theorem bl_two{a b x:Nat}(h:x<2^a*2^b):bl x≤a+b:=(Xw (a+b) x).2 (by rw [Nat.pow_add];exact h)
theorem Zra{x:Nat}(h:x<BG):bl x≤500:=bl_two (a:=250) (b:=250) h
theorem Ab.sg{M:Nat}{p:List Int}(h:Ab M p)(hM:M<BG):Sz 500 p:=fun i=>Zra (Nat.lt_of_le_of_lt (h i) hM)
theorem Gb{M:Nat}{p:List Int}(h:Ab M p)(hM:M<BG)(ht:Tr p)(hl:p.length≤25):Vp p:=⟨(h.sg hM).mono O3,ht,hl⟩
theorem Zo1{M:Nat}{p:List Int}{c:Int}(h:Ab M p)(hM:M*c.natAbs<BG)(i:Nat):bl (cf p i*c).natAbs≤65536:=by
 have h1:=Gw h c i
 rw [Yr]at h1
 exact Nat.le_trans (Zra (Nat.lt_of_le_of_lt h1 hM)) O3
theorem ad_ab{M K:Nat}{p q:List Int}(h:Ab M p)(h2:Ab K q)(hM:M+K<BG)(i:Nat):bl (cf p i+cf q i).natAbs≤65536∧bl (cf p i-cf q i).natAbs≤65536:=by
 have a:=h i
 have b:=h2 i
 exact⟨Nat.le_trans (Zra (Nat.lt_of_le_of_lt (by omega:_≤M+K) hM)) O3,Nat.le_trans (Zra (Nat.lt_of_le_of_lt (by omega:_≤M+K) hM)) O3⟩
theorem mf_ab{M:Nat}{p:List Int}(h:Ab M p)(hM:M<BG)(hl:p.length≤11):¬Ck p p:=fun hF=>by
 have m:=Pd (h.sg hM)
 rcases hF.2.2 with w | w<;>omega
def dfP(p q:List Int)(a b:Int):List Int:=Bb (Zm (tzl p) b) (Zm (tzl q) a)
def dfK(p q:List Int)(a b k:Int):List Int:=Zm (dfP p q a b) k
def sqK(p q:List Int)(a b k:Int):List Int:=Xs (dfK p q a b k) (dfK p q a b k)
def sqP(p q:List Int)(a b:Int):List Int:=Xs (dfP p q a b) (dfP p q a b)
def KD:Nat:=KA*4294967296+KA*4294967296
structure FmX (p q:List Int) (a b k:Int):Prop where
 v1:Vp (tzl p)
 v2:Vp (tzl q)
 b1:bl b.natAbs≤65536
 a1:bl a.natAbs≤65536
 k1:bl k.natAbs≤65536
 s1:∀i,bl (cf (tzl p) i*b).natAbs≤65536
 s2:∀i,bl (cf (tzl q) i*a).natAbs≤65536
 v3:Vp (Zm (tzl p) b)
 v4:Vp (Zm (tzl q) a)
 s3:∀i,bl (cf (Zm (tzl p) b) i-cf (Zm (tzl q) a) i).natAbs≤65536
 v5:Vp (dfP p q a b)
 s4:∀i,bl (cf (dfP p q a b) i*k).natAbs≤65536
 v6:Vp (dfK p q a b k)
 m6:¬Ck (dfK p q a b k) (dfK p q a b k)
 v7:Vp (sqK p q a b k)
 ab:Ab (6*((KD*100)*(KD*100))) (sqK p q a b k)
 l:(sqK p q a b k).length≤11
 m5:¬Ck (dfP p q a b) (dfP p q a b)
 v8:Vp (sqP p q a b)
 ab8:Ab (6*((KD*100)*(KD*100))) (sqP p q a b)
 l8:(sqP p q a b).length≤11
theorem fmX{p q:List Int}{a b k:Int}(hp:Ab KA (tzl p))(hq:Ab KA (tzl q))(lp:p.length≤6)(lq:q.length≤6)(ha:1≤a∧a≤4294967296)(hb:1≤b∧b≤4294967296)(hk:1≤k∧k≤100):FmX p q a b k:=by
 have lp':(tzl p).length≤6:=Nat.le_trans (Ko p) lp
 have lq':(tzl q).length≤6:=Nat.le_trans (Ko q) lq
 have p1:Ab (KA*4294967296) (Zm (tzl p) b):=(Gw hp b).mono (Nat.mul_le_mul_left _ O)
 have q1:Ab (KA*4294967296) (Zm (tzl q) a):=(Gw hq a).mono (Nat.mul_le_mul_left _ O)
 have d1:Ab KD (dfP p q a b):=Ye4 p1 q1
 have d2:Ab (KD*100) (dfK p q a b k):=(Gw d1 k).mono (Nat.mul_le_mul_left _ O)
 have d3:Ab (KD*100) (dfP p q a b):=d1.mono O5
 have l3:(Zm (tzl p) b).length≤6:=Nat.le_trans (Pt _ _) lp'
 have l4:(Zm (tzl q) a).length≤6:=Nat.le_trans (Pt _ _) lq'
 have l5:(dfP p q a b).length≤6:=Zvf l3 l4
 have l6:(dfK p q a b k).length≤6:=Nat.le_trans (Pt _ _) l5
 have t5:Tr (dfP p q a b):=Xp _
 have t6:Tr (dfK p q a b k):=Xp _
 have a7:=Ye5 d2 d2 l6
 have a8:=Ye5 d3 d3 l5
 have l7:=Zvg t6 t6 l6 l6
 have l8:=Zvg t5 t5 l5 l5
 have bb:∀c:Int,1≤c∧c≤4294967296→bl c.natAbs≤65536:=fun c hc=>Nat.le_trans ((Xw 40 _).2 O) O5
 have mm:∀c:Int,1≤c∧c≤4294967296→KA*c.natAbs<BG:=fun c hc=>Nat.lt_of_le_of_lt (Nat.mul_le_mul_left KA (by omega:c.natAbs≤4294967296)) O5
 exact⟨Gb hp O5 (Xp _) O,Gb hq O5 (Xp _) O,bb b hb,bb a ha,bb k O,Zo1 hp (mm b hb),Zo1 hq (mm a ha),
  Gb p1 O5 (Xp _) O,Gb q1 O5 (Xp _) O,fun i=>(ad_ab p1 q1 O5 i).2,Gb d1 O5 t5 O,
  Zo1 d1 (Nat.lt_of_le_of_lt (Nat.mul_le_mul_left KD (by omega:k.natAbs≤100)) O5),Gb d2 O5 t6 O,mf_ab d2 O5 O,Gb a7 O5 (Xo _ _) (by have:(sqK p q a b k).length≤_:=l7;omega),a7,l7,
  mf_ab d3 O5 O,Gb a8 O5 (Xo _ _) (by have:(sqP p q a b).length≤_:=l8;omega),a8,l8⟩
def ngC(ns:List Int):Nat→List Int
 | 0=>[-1]
 | i+1=>Zm (Zm (ngC ns i) (ns.getD i 0)) (ns.getD i 0)
def sqN(ns:List Int):Nat→Nat
 | 0=>1
 | i+1=>sqN ns i*(ns.getD i 0).natAbs*(ns.getD i 0).natAbs
theorem Zsk(ns:List Int):∀i,Ab (sqN ns i) (ngC ns i)∧(ngC ns i).length≤1∧Tr (ngC ns i)
 | 0=>⟨fun i=>by
   match i with
   | 0=>show(cf [-1] 0).natAbs≤1;decide
   | i+1=>show(cf [-1] (i+1)).natAbs≤1;rw [Yl O7];decide,Nat.le_refl _,show Tr [-1]from .inr O3⟩
 | i+1=>by
  obtain⟨h1,h2,h3⟩:=Zsk ns i
  exact⟨Gw (Gw h1 _) _,Nat.le_trans (Pt _ _) (Nat.le_trans (Pt _ _) h2),Xp _⟩
theorem Zzy{ns:List Int}{B:Nat}(h:∀i,(ns.getD i 0).natAbs≤B):∀i,sqN ns i≤(B*B)^i
 | 0=>Nat.le_refl _
 | i+1=>by
  rw [Nat.pow_succ,←Nat.mul_assoc]
  exact Nat.mul_le_mul (Nat.mul_le_mul (Zzy h i) (h i)) (h i)
structure NgX (ns:List Int) (i:Nat):Prop where
 b:bl (ns.getD i 0).natAbs≤65536
 inn:Xx (ns.getD i 0)
 v:Vp (ngC ns i)
 s:∀k,bl (cf (ngC ns i) k*ns.getD i 0).natAbs≤65536
 v2:Vp (Zm (ngC ns i) (ns.getD i 0))
 s2:∀k,bl (cf (Zm (ngC ns i) (ns.getD i 0)) k*ns.getD i 0).natAbs≤65536
theorem ngX{ns:List Int}(h:∀i,(ns.getD i 0).natAbs≤4294967296){i:Nat}(hi:i≤4):NgX ns i:=by
 obtain⟨h1,h2,h3⟩:=Zsk ns i
 have e:=Zzy h i
 have e2:(4294967296*4294967296)^i≤(4294967296*4294967296)^4:=Nat.pow_le_pow_right O5 hi
 have h4:Ab ((4294967296*4294967296)^4) (ngC ns i):=h1.mono (Nat.le_trans e e2)
 have hb:=h i
 have h5:Ab ((4294967296*4294967296)^4*4294967296) (Zm (ngC ns i) (ns.getD i 0)):=(Gw h4 _).mono (Nat.mul_le_mul_left _ hb)
 have m1:(4294967296*4294967296)^4*(ns.getD i 0).natAbs<BG:=Nat.lt_of_le_of_lt (Nat.mul_le_mul_left _ hb) O5
 have m2:(4294967296*4294967296)^4*4294967296*(ns.getD i 0).natAbs<BG:=Nat.lt_of_le_of_lt (Nat.mul_le_mul_left _ hb) O5
 exact⟨Nat.le_trans ((Xw 40 _).2 O) O5,⟨O,O⟩,Gb h4 O5 h3 O,Zo1 h4 m1,Gb h5 O5 (Xp _) (Nat.le_trans (Pt _ _) O),Zo1 h5 m2⟩
def smP(c:List Int)(f:Nat→List Int):Nat→List Int
 | 0=>c
 | i+1=>Ei (smP c f i) (f i)
theorem Zz5{c:List Int}{f:Nat→List Int}{C F:Nat}(hc:Ab C c)(lc:c.length≤11)(tc:Tr c)(hf:∀i,Ab F (f i))(lf:∀i,(f i).length≤11):∀i,Ab (C+i*F) (smP c f i)∧(smP c f i).length≤11∧Tr (smP c f i)
 | 0=>⟨by rw [Nat.zero_mul];exact hc,lc,tc⟩
 | i+1=>by
  obtain⟨h1,h2,h3⟩:=Zz5 hc lc tc hf lf i
  exact⟨by rw [Nat.succ_mul,←Nat.add_assoc];exact Zty h1 (hf i),Zmx h2 (lf i),Xp _⟩
structure SmX (c:List Int) (f:Nat→List Int):Prop where
 v:∀i,i≤3→Vp (smP c f i)
 s:∀i,i<3→∀k,bl (cf (smP c f i) k+cf (f i) k).natAbs≤65536
 d:Cvd (Zt (smP c f 3))
theorem smX{c:List Int}{f:Nat→List Int}(hc:Ab (2^190) c)(lc:c.length≤1)(tc:Tr c)(hf:∀i,Ab (6*((KD*100)*(KD*100))) (f i))(lf:∀i,(f i).length≤11):SmX c f:=by
 have key:=Zz5 hc O tc hf lf
 have bd:∀i,i≤3→2^190+i*(6*((KD*100)*(KD*100)))<2^205:=fun i hi=>Nat.lt_of_le_of_lt (Nat.add_le_add_left (Nat.mul_le_mul_right _ hi) _) O5
 have bd2:(2:Nat)^205<BG:=O5
 refine⟨fun i hi=>?_,fun i hi k=>?_,?_⟩
 ·obtain⟨h1,h2,h3⟩:=key i
  exact Gb h1 (Nat.lt_trans (bd i hi) bd2) h3 O
 ·obtain⟨h1,h2,h3⟩:=key i
  refine(ad_ab h1 (hf i) ?_ k).1
  have:=bd (i+1) hi
  rw [Nat.succ_mul]at this
  have e:=Nat.lt_trans this bd2
  omega
 ·obtain⟨h1,h2,h3⟩:=key 3
  have hs:=h1.sz (bd 3 (Nat.le_refl _))
  exact⟨Kj (Gb h1 (Nat.lt_trans (bd 3 (Nat.le_refl _)) bd2) h3 O),Gd hs,by rw [Zr];exact h2⟩
end Go.Sky
namespace Go.Sky
theorem fill33(u0 u1 u2 u3 u4 u5 u6 u7 u8 a0 a1 a2 b0 b1 b2 c0 c1 c2:Value):Instr.fill (fun i=>some (i*3,3)) #[u0,u1,u2,u3,u4,u5,u6,u7,u8] [(0,.agg #[a0,a1,a2]),(1,.agg #[b0,b1,b2]),(2,.agg #[c0,c1,c2])]=some #[a0,a1,a2,b0,b1,b2,c0,c1,c2]:=by
 simp [Instr.fill,Value.cells]
theorem fillG(u0 u1 u2 a0 a1 a2:Value):Instr.fill (fun i=>some (i*3,3)) ((List.range (1*3)).map ((Value.agg #[u0,u1,u2]).cells[· % (Value.agg #[u0,u1,u2]).cells.size]!)).toArray [(0,.agg #[a0,a1,a2])]=some #[a0,a1,a2]:=by
 simp [Instr.fill,Value.cells,List.range,List.range.loop]
 try rfl
def Zye(m:Int)(l:List Int):Bool:=l.all fun x=>decide (-m≤x) && decide (x≤m)
theorem insB_t{m:Int}{l:List Int}(h:∀i,i<l.length→-m≤l.getD i 0∧l.getD i 0≤m):Zye m l=true:=List.all_eq_true.2 fun x hx=>by
 obtain⟨k,hk,rfl⟩:=Gl.1 hx
 obtain⟨h1,h2⟩:=h k hk
 rw [decide_eq_true h1,decide_eq_true h2];rfl
theorem Yci{m:Int}{l:List Int}{i:Nat}(hi:i<l.length)(h:¬(-m≤l.getD i 0∧l.getD i 0≤m)):Zye m l=false:=by
 cases hb:Zye m l with
 | false=>rfl
 | true=>
  have:=List.all_eq_true.1 hb _ (Zj (d:=0) hi)
  rw [Bool.and_eq_true]at this
  exact absurd ⟨of_decide_eq_true this.1,of_decide_eq_true this.2⟩ h
def ptB(x y z:Int):Bool:=Zye 1048576 [x,y,z]
theorem pt_b{x y z:Int}(h:ptB x y z=true):(-1048576≤x∧x≤1048576)∧(-1048576≤y∧y≤1048576)∧(-1048576≤z∧z≤1048576):=by
 unfold ptB Zye at h
 simp only [List.all_cons,List.all_nil,Bool.and_true,Bool.and_eq_true,decide_eq_true_eq]at h
 exact h
def znB(D n d:Int):Bool:=decide (1≤D∧D≤4194304∧1≤n∧n≤d∧d≤100)
theorem Yfd{D n d:Int}(h:znB D n d=true):1≤D∧D≤4194304∧1≤n∧n≤d∧d≤100:=of_decide_eq_true h
theorem Zb7{x y:Int}{A B:Nat}(hx:x.natAbs≤A)(hy:y.natAbs≤B):(x*y).natAbs≤A*B:=by rw [Int.natAbs_mul];exact Nat.mul_le_mul hx hy
def ptsB(ax ay az bx b_y bz D n d:Int):Bool:=decide (D*d*(D*d)≤(ax-bx)*d*((ax-bx)*d)+(ay-b_y)*d*((ay-b_y)*d)+(az-bz)*n*((az-bz)*n))
def fqZ(n d ov ov2:Int)(x y z x2 y2 z2:List Int)(i:Nat):List Int:=sqK (Zp i x y z) (Zp i x2 y2 z2) ov ov2 (Zp i d d n)
def cnZ(D d ov ov2:Int):List Int:=ngC [D,d,ov,ov2] 4
def smZ(D n d ov ov2:Int)(x y z x2 y2 z2:List Int)(i:Nat):List Int:=smP (cnZ D d ov ov2) (fqZ n d ov ov2 x y z x2 y2 z2) i
def fmZ(D n d ov ov2:Int)(x y z x2 y2 z2:List Int):List Int:=Zt (smZ D n d ov ov2 x y z x2 y2 z2 3)
structure FzX (D n d ov ov2:Int) (x y z x2 y2 z2:List Int):Prop where
 X:∀i,FmX (Zp i x y z) (Zp i x2 y2 z2) ov ov2 (Zp i d d n)
 K:∀i,Xx (Zp i d d n)
 N:∀i,i≤4→NgX [D,d,ov,ov2] i
 Q:SmX (cnZ D d ov ov2) (fqZ n d ov ov2 x y z x2 y2 z2)
theorem Ba{fr to ov:Int}{x y z:List Int}(h:Kr fr to ov x y z=true)(i:Nat):Ab KA (tzl (Zp i x y z)):=by
 unfold Kr Zw7 at h
 simp only [Bool.and_eq_true,decide_eq_true_eq]at h
 obtain⟨⟨⟨⟨⟨⟨⟨⟨a1,a2⟩,a3⟩,a4⟩,a5⟩,b1⟩,b2⟩,b3⟩,-⟩:=h
 exact Dr (p:=fun l=>Ab KA (tzl l)) ((AxC.of b1).ka a4 a5) ((AxC.of b2).ka a4 a5) ((AxC.of b3).ka a4 a5)
theorem fzX{fr to ov fr2 to2 ov2 D n d:Int}{x y z x2 y2 z2:List Int}(hS:Sgo fr to ov x y z)(hS2:Sgo fr2 to2 ov2 x2 y2 z2)(hA:∀i,Ab KA (tzl (Zp i x y z)))(hA2:∀i,Ab KA (tzl (Zp i x2 y2 z2)))(hz:znB D n d=true):FzX D n d ov ov2 x y z x2 y2 z2:=by
 obtain⟨z1,z2',z3,z4,z5⟩:=Yfd hz
 have o1:=hS.o1
 have o2:=hS.o2
 have o3:=hS2.o1
 have o4:=hS2.o2
 have hk:∀i,1≤Zp i d d n∧Zp i d d n≤100:=fun i=>Dr (p:=fun k:Int=>1≤k∧k≤100) ⟨O,O⟩ ⟨O,O⟩ ⟨O,O⟩
 have hX:∀i,FmX (Zp i x y z) (Zp i x2 y2 z2) ov ov2 (Zp i d d n):=fun i=>fmX (hA i) (hA2 i) (hS.lc i).2 (hS2.lc i).2 ⟨o1,o2⟩ ⟨o3,o4⟩ (hk i)
 have hn:∀i,([D,d,ov,ov2].getD i 0).natAbs≤4294967296:=fun i=>by
  match i with
  | 0=>show D.natAbs≤_;omega
  | 1=>show d.natAbs≤_;omega
  | 2=>show ov.natAbs≤_;omega
  | 3=>show ov2.natAbs≤_;omega
  | i+4=>show(0:Int).natAbs≤_;decide
 refine⟨hX,fun i=>?_,fun i hi=>ngX hn hi,?_⟩
 ·obtain⟨h1,h2⟩:=hk i;exact⟨O,O⟩
 ·obtain⟨h1,h2,h3⟩:=Zsk [D,d,ov,ov2] 4
  refine smX (h1.mono ?_) h2 h3 (fun i=>(hX i).ab) (fun i=>(hX i).l)
  show 1*D.natAbs*D.natAbs*d.natAbs*d.natAbs*ov.natAbs*ov.natAbs*ov2.natAbs*ov2.natAbs≤2^190
  refine Nat.le_trans (Nat.mul_le_mul (Nat.mul_le_mul (Nat.mul_le_mul (Nat.mul_le_mul (Nat.mul_le_mul (Nat.mul_le_mul (Nat.mul_le_mul (Nat.mul_le_mul (Nat.le_refl 1) (show D.natAbs≤4194304 by omega)) (show D.natAbs≤4194304 by omega)) (show d.natAbs≤100 by omega)) (show d.natAbs≤100 by omega)) (show ov.natAbs≤4294967296 by omega)) (show ov.natAbs≤4294967296 by omega)) (show ov2.natAbs≤4294967296 by omega)) (show ov2.natAbs≤4294967296 by omega)) O5
theorem Zvl{D n d ov ov2:Int}{x y z x2 y2 z2:List Int}(h:FzX D n d ov ov2 x y z x2 y2 z2):Cvd (fmZ D n d ov ov2 x y z x2 y2 z2):=by
 unfold fmZ smZ;exact h.Q.d
theorem tzlm1:(if 25<(tzl [(-1:Int)]).length then []else tzl [-1])=[-1]:=O3
theorem Yc3{a b c:Bool}{fr fr2 to to2:Int}(h:¬(a=true∧b=true∧fr=fr2∧to=to2∧c=true)):a=false∨(a=true∧b=false)∨(a=true∧b=true∧fr≠fr2)∨(a=true∧b=true∧fr=fr2∧to≠to2)∨(a=true∧b=true∧fr=fr2∧to=to2∧c=false):=by
 cases a<;>cases b<;>cases c<;>simp_all<;>omega
abbrev GpT:=(Int×Int)×(SL×List Int)
abbrev Zi5 (g:GpT):Value:= .agg #[.int .i64 g.1.1,.int .i64 g.1.2,Xb g.2.1]
abbrev qGp (g:GpT):Pc:=Yh 2 wv (Xb g.2.1) g.2.2
abbrev Gp0:GpT:=((0,0),((none,0,0),[]))
abbrev GpU:=Int×Int×List Int
def unP(g:GpT):GpU:=(g.1.1,g.1.2,g.2.2)
def gpZ(D n d:Int)(g h:Zri):GpU:=(g.1.1,g.1.2.1,fmZ D n d g.1.2.2 h.1.2.2 g.2.1 g.2.2.1 g.2.2.2 h.2.1 h.2.2.1 h.2.2.2)
def Bd(D n d:Int)(a b:List Zv):List GpU:=List.zipWith (gpZ D n d) (Ii a b a) (Ii a b b)
def Zj5(a b:List Zv):Int:=if Bv a b=9 then 0 else Bv a b
theorem Ztc{a b:List Zv}(h:Bv a b≠0)(ps:List Zv):Ii a b ps=[]:=if_neg h
theorem gapZ_0{D n d:Int}{a b:List Zv}(h:Bv a b≠0):Bd D n d a b=[]:=by unfold Bd;rw [Ztc h];rfl
theorem Zir{ts:List Int}{a b ps:List Zv}(hone:∀k,Py (ts.getD k 0) (ts.getD (k+1) 0) a=true→Py (ts.getD k 0) (ts.getD (k+1) 0) b=true→k+1<ts.length→(Zca (ts.getD k 0) (ts.getD (k+1) 0) ps).length=1):∀n,n+1≤ts.length→Eo ts a b n=true→(Zgi ts ps n).length=n
 | 0,_,_=>rfl
 | n+1,hn,hk=>by
  have h1:Eo ts a b (n+1)=(Eo ts a b n && (Py (ts.getD n 0) (ts.getD (n+1) 0) a && Py (ts.getD n 0) (ts.getD (n+1) 0) b)):=rfl
  rw [h1,Bool.and_eq_true,Bool.and_eq_true]at hk
  show(Zgi ts ps n ++ Zca _ _ ps).length=_
  rw [List.length_append,Zir hone n O hk.1,hone n hk.2.1 hk.2.2 O]
theorem Yd1{ps:List Zv}{fr to:Int}(hi:∀g∈ps,Gin g)(hb:Nr ps=true)(h1:spF ps≤fr)(h2:fr<to)(h3:to≤spL ps)(hno:∀g∈ps,¬(fr<g.1.1∧g.1.1<to))(hc:Py fr to ps=true):(Zca fr to ps).length=1:=by
 have hl:=(Dj hb).2.1
 unfold Zca
 rw [if_pos hc,List.length_map,Zv6 (Zd5 hi hb).1 (fun e=>by rw [e]at hl;simp at hl) h1 h2 h3 hno]
theorem comE_0{a b:List Zv}(h:Bv a b=0):¬cmF a b≥cmL a b∧Ztd a b=true:=by
 unfold Bv at h
 by_cases h1:cmF a b≥cmL a b
 ·rw [if_pos h1]at h;exact absurd h O3
 ·rw [if_neg h1]at h
  cases hk:Ztd a b with
  | true=>exact⟨h1,rfl⟩
  | false=>rw [hk]at h;exact absurd h O3
theorem Zwa{a b:List Zv}(hpa:∀g∈a,Gin g)(hpb:∀g∈b,Gin g)(hba:Nr a=true)(hbb:Nr b=true):(Ii a b a).length=(Ii a b b).length∧(Ii a b a).length≤2+a.length+b.length:=by
 by_cases h:Bv a b=0
 ·obtain⟨h1,h2⟩:=comE_0 h
  have B:=bks (a:=a) (b:=b) O
  have two:=B.two
  have e:∀ps,Ii a b ps=Zgi (Lc a b) ps ((Lc a b).length-1):=fun ps=>if_pos h
  have ha:=Zir (ts:=Lc a b) (a:=a) (b:=b) (ps:=a) (fun k h3 h4 h5=>by
   obtain⟨c1,c2,c3⟩:=B.lt k h5
   unfold cmF at c1
   unfold cmL at c3
   exact Yd1 hpa hba O c2 O (fun g hg=>B.no k h5 g (.inl hg)) h3) ((Lc a b).length-1) O h2
  have hb:=Zir (ts:=Lc a b) (a:=a) (b:=b) (ps:=b) (fun k h3 h4 h5=>by
   obtain⟨c1,c2,c3⟩:=B.lt k h5
   unfold cmF at c1
   unfold cmL at c3
   exact Yd1 hpb hbb O c2 O (fun g hg=>B.no k h5 g (.inr hg)) h4) ((Lc a b).length-1) O h2
  have hl:=Zve a b
  rw [e,e,ha,hb]
  exact⟨rfl,O⟩
 ·rw [Ztc h,Ztc h];exact⟨rfl,Nat.zero_le _⟩
theorem Znn{a b ps zs:List Zv}(hi:∀g∈ps,Gin g)(hb:Nr ps=true)(hz:zs.map unS=Ii a b ps):∀q∈zs,Gin q∧seB q=true:=by
 have key:∀n,∀u∈Zgi (Lc a b) ps n,∃(fr to:Int) (g:Zv),g∈ps∧Kt fr to g=true∧Zja fr to g=true∧u=Yd0 fr to g:=fun n=>by
  induction n with
  | zero=>intro u hu;cases hu
  | succ n ih=>
   intro u hu
   rcases List.mem_append.1 (show u∈Zgi (Lc a b) ps n ++ _ from hu)with h | h
   ·exact ih u h
   ·unfold Zca at h
    split at h
    ·rename_i hc
     obtain⟨g,hg,rfl⟩:=List.mem_map.1 h
     obtain⟨h1,h2⟩:=List.mem_filter.1 hg
     exact⟨_,_,g,h1,h2,List.all_eq_true.1 hc g hg,rfl⟩
    ·cases h
 intro q hq
 have hm:unS q∈Ii a b ps:=by rw [←hz];exact List.mem_map.2 ⟨q,hq,rfl⟩
 unfold Ii at hm
 split at hm
 ·obtain⟨fr,to,g,h1,h2,h3,h4⟩:=key _ _ hm
  have:=Yh3 (hi g h1) ((Zd5 hi hb).2.1 g h1) h2 h3 h4
  exact⟨this.1,this.2.1⟩
 ·cases hm
theorem zip_s{α β γ:Type}{f:α→β→γ} : ∀{l:List α} {m:List β} {k:Nat} {x:α} {y:β},l[k]? = some x→m[k]? = some y→(List.zipWith f l m).take (k+1)=(List.zipWith f l m).take k ++ [f x y]
 | [],_,_,_,_,h,_=>by simp at h
 | _ :: _,[],_,_,_,_,h=>by simp at h
 | a :: l,b :: m,0,x,y,h,h2=>by simp at h h2;subst h;subst h2;simp
 | a :: l,b :: m,k+1,x,y,h,h2=>by
  have:=zip_s (f:=f) (l:=l) (m:=m) (k:=k) (by simpa using h) (by simpa using h2)
  simp only [List.zipWith_cons_cons,List.take_succ_cons,this,List.cons_append]
def gpY(q:Zv)(g:SL×List Int):GpT:=((q.1.1,q.1.2.1),g)
theorem Yhi{D n d:Int}{a b xs ys:List Zv}{zs:List GpT}{k:Nat}{g:SL×List Int}(hx:xs.map unS=Ii a b a)(hy:ys.map unS=Ii a b b)(h:zs.map unP=(Bd D n d a b).take k)(hk:k<xs.length)(hk2:k<ys.length)(hg:g.2=fmZ D n d (xs.getD k G0).1.2.2 (ys.getD k G0).1.2.2 (xs.getD k G0).2.1.2 (xs.getD k G0).2.2.1.2 (xs.getD k G0).2.2.2.2 (ys.getD k G0).2.1.2 (ys.getD k G0).2.2.1.2 (ys.getD k G0).2.2.2.2) :
  (zs ++ [gpY (xs.getD k G0) g]).map unP=(Bd D n d a b).take (k+1):=by
 have e1:(Ii a b a)[k]? = some (unS (xs.getD k G0)):=by rw [←hx,List.getElem?_map,List.getElem?_eq_getElem hk,List.getD_eq_getElem?_getD,List.getElem?_eq_getElem hk];rfl
 have e2:(Ii a b b)[k]? = some (unS (ys.getD k G0)):=by rw [←hy,List.getElem?_map,List.getElem?_eq_getElem hk2,List.getD_eq_getElem?_getD,List.getElem?_eq_getElem hk2];rfl
 unfold Bd at h ⊢
 rw [zip_s e1 e2,List.map_append,h,List.map_cons,List.map_nil]
 simp only [gpY,unP,gpZ,unS]
 rw [hg]
theorem gp_all{D n d:Int}{a b xs:List Zv}{zs:List GpT}(hx:xs.map unS=Ii a b a)(hl:(Ii a b a).length=(Ii a b b).length)(h:zs.map unP=(Bd D n d a b).take xs.length):zs.map unP=Bd D n d a b:=by
 rw [h,List.take_of_length_le]
 have e:=congrArg List.length hx
 rw [List.length_map]at e
 unfold Bd
 rw [List.length_zipWith];omega
theorem gapE_9{a b:List Zv}(h:Bv a b=9):Zj5 a b=0:=if_pos h
theorem gapE_n{a b:List Zv}(h:¬Bv a b=9):Zj5 a b=Bv a b:=if_neg h
theorem inI_o{fr to ov:Int}{x y z:List Int}(h:Sgo fr to ov x y z):Xx ov:=⟨by have:=h.o1;omega,by have:=h.o2;omega⟩
def Yct(l:List GpU):Option GpU:=l.find? fun g=>Zc1 g.2.2
def Zj6(l:List GpU):Int×Int×Bool:=match Yct l with
 | some g=>(g.1,g.2.1,true)
 | none=>(0,0,false)
theorem fst_n{l:List GpU}(h:∀i,i<l.length→Zc1 (l.getD i (0,0,[])).2.2=false):Zj6 l=(0,0,false):=by
 have:Yct l=none:=List.find?_eq_none.2 fun g hg=>by
  obtain⟨i,hi,rfl⟩:=List.mem_iff_getElem.1 hg
  have:=h i hi
  rw [List.getD_eq_getElem?_getD,List.getElem?_eq_getElem hi]at this
  rw [show Zc1 (l[i]).2.2=false from this];exact Bool.false_ne_true
 unfold Zj6;rw [this]
theorem fst_s:∀{l:List GpU} {k:Nat},k<l.length→(∀i,i<k→Zc1 (l.getD i (0,0,[])).2.2=false)→Zc1 (l.getD k (0,0,[])).2.2=true→Yct l=some (l.getD k (0,0,[]))
 | [],_,hk,_,_=>absurd hk (Nat.not_lt_zero _)
 | g :: l,0,_,_,h2=>List.find?_cons_of_pos (by exact h2)
 | g :: l,k+1,hk,h1,h2=>by
  have e:Yct (g :: l)=Yct l:=List.find?_cons_of_neg (by rw [show Zc1 g.2.2=false from h1 0 (Nat.succ_pos _)];exact Bool.false_ne_true)
  rw [e]
  exact fst_s (l:=l) (k:=k) (by simpa using hk) (fun i hi=>h1 (i+1) O) h2
theorem Zdg(zs:List GpT)(k:Nat):(zs.map unP).getD k (0,0,[])=unP (zs.getD k Gp0):=by
 rw [List.getD_eq_getElem?_getD,List.getElem?_map,List.getD_eq_getElem?_getD]
 cases zs[k]?<;>rfl
theorem cvd_gp{D n d:Int}{a b:List Zv}(hpa:∀g∈a,Gin g)(hpb:∀g∈b,Gin g)(hba:Nr a=true)(hbb:Nr b=true)(hz:znB D n d=true){xs ys:List Zv}(hx:xs.map unS=Ii a b a)(hy:ys.map unS=Ii a b b):∀g∈Bd D n d a b,Cvd g.2.2:=fun g hg=>by
 unfold Bd at hg
 obtain⟨k,hk,e⟩:=List.mem_iff_getElem.1 hg
 rw [List.getElem_zipWith]at e
 subst e
 rw [List.length_zipWith]at hk
 have hka:k<(Ii a b a).length:=O
 have hkb:k<(Ii a b b).length:=O
 have q1:(Ii a b a)[k]∈xs.map unS:=by rw [hx];exact List.getElem_mem hka
 have q2:(Ii a b b)[k]∈ys.map unS:=by rw [hy];exact List.getElem_mem hkb
 obtain⟨q,hq,eq⟩:=List.mem_map.1 q1
 obtain⟨r,hr,er⟩:=List.mem_map.1 q2
 obtain⟨c1,c2⟩:=Znn hpa hba hx q hq
 obtain⟨c3,c4⟩:=Znn hpb hbb hy r hr
 rw [←eq,←er]
 simp only [gpZ,unS]
 exact Zvl (fzX (Cz c1 c2) (Cz c3 c4) (Ba c2) (Ba c4) hz)
def mkS(u:Zri):Zv:=(u.1,((none,0,0),u.2.1),((none,0,0),u.2.2.1),((none,0,0),u.2.2.2))
theorem un_mk(l:List Zri):(l.map mkS).map unS=l:=by
 rw [List.map_map];exact List.map_id' _
theorem cvd_at{D n d:Int}{a b:List Zv}(hpa:∀g∈a,Gin g)(hpb:∀g∈b,Gin g)(hba:Nr a=true)(hbb:Nr b=true)(hz:znB D n d=true){zs:List GpT}(h:zs.map unP=Bd D n d a b){k:Nat}(hk:k<zs.length):Cvd (zs.getD k Gp0).2.2:=by
 have hm:unP (zs.getD k Gp0)∈Bd D n d a b:=by rw [←h];exact List.mem_map.2 ⟨_,Zj hk,rfl⟩
 exact cvd_gp hpa hpb hba hbb hz (un_mk (Ii a b a)) (un_mk (Ii a b b)) _ hm
theorem fst_at{l:List GpU}{zs:List GpT}(h:zs.map unP=l){k:Nat}(hk:k<zs.length)(hz:∀i,i<k→Zc1 (zs.getD i Gp0).2.2=false)(hn:Zc1 (zs.getD k Gp0).2.2=true):Zj6 l=((zs.getD k Gp0).1.1,(zs.getD k Gp0).1.2,true):=by
 subst h
 have:=fst_s (l:=zs.map unP) (k:=k) (by rw [List.length_map];exact hk) (fun i hi=>by rw [Zdg];exact hz i hi) (by rw [Zdg];exact hn)
 unfold Zj6
 rw [this,Zdg]
 rfl
theorem fst_no{l:List GpU}{zs:List GpT}(h:zs.map unP=l)(hz:∀i,i<zs.length→Zc1 (zs.getD i Gp0).2.2=false):Zj6 l=(0,0,false):=by
 subst h
 exact fst_n fun i hi=>by rw [Zdg];exact hz i (by rw [List.length_map]at hi;exact hi)
theorem Yhm{D n d:Int}{a b:List Zv}(hpa:∀g∈a,Gin g)(hpb:∀g∈b,Gin g)(hba:Nr a=true)(hbb:Nr b=true){zs:List GpT}(h:zs.map unP=Bd D n d a b):zs.length≤2+a.length+b.length:=by
 have h1:=Zwa hpa hpb hba hbb
 have e:=congrArg List.length h
 rw [List.length_map]at e
 unfold Bd at e
 rw [List.length_zipWith]at e
 omega
def apZ(D n d:Int)(a b:List Zv):Bool:=decide (Zj5 a b=0) && !(Zj6 (Bd D n d a b)).2.2
theorem ap_t{D n d:Int}{a b:List Zv}(h:Zj5 a b=0):apZ D n d a b=!(Zj6 (Bd D n d a b)).2.2:=by unfold apZ;rw [decide_eq_true h];rfl
theorem ap_f{D n d:Int}{a b:List Zv}(h:¬Zj5 a b=0):apZ D n d a b=false:=by unfold apZ;rw [decide_eq_false h];rfl
def Fd(a b k:Int):List Int:=if b-a=0∨k=2 then [a]else if k=1 then [a,b-a]else [a,0,0,10*(b-a),-15*(b-a),6*(b-a)]
theorem tmL_0{a b k:Int}(h:b-a=0∨k=2):Fd a b k=[a]:=if_pos h
theorem tmL_1{a b k:Int}(h:¬(b-a=0∨k=2))(h1:k=1):Fd a b k=[a,b-a]:=(if_neg h).trans (if_pos h1)
theorem tmL_2{a b k:Int}(h:¬(b-a=0∨k=2))(h1:k≠1):Fd a b k=[a,0,0,10*(b-a),-15*(b-a),6*(b-a)]:=(if_neg h).trans (if_neg h1)
def lineG(k:Int)(s:SL×SL×SL):Zv:=((0,1000,1),(s.1,Fd 0 300 k),(s.2.1,Fd 0 400 k),(s.2.2,Fd 0 0 k))
def stayG(s:SL×SL×SL):Zv:=((1000,2000,1),(s.1,Fd 0 0 2),(s.2.1,Fd 0 0 2),(s.2.2,Fd 0 0 2))
theorem Pp{l:List Int}(h:l.all (fun a=>decide (-9223372036854775808≤a∧a≤9223372036854775807))=true):∀a∈l,Xx a:=fun a ha=>by
 have:=List.all_eq_true.1 h a ha
 simp only [decide_eq_true_eq]at this;exact this
def Ms(ax ay az bx b_y bz k:Int)(s:SL×SL×SL):Zv:=((0,1000,1),(s.1,Fd ax bx k),(s.2.1,Fd ay b_y k),(s.2.2,Fd az bz k))
theorem kn_f1:fmZ 100 1 2 1 1 (Fd 0 0 2) (Fd 0 0 2) (Fd 0 0 2) (Fd 0 0 2) (Fd 0 0 2) (Fd 200 200 2)=[]:=O5
theorem kn_f2:fmZ 100 1 2 1 1 (Fd 0 0 2) (Fd 0 0 2) (Fd 0 0 2) (Fd 0 0 2) (Fd 0 0 2) (Fd 100 100 2)=tzl [-1]:=O5
theorem kn_e1(s t:SL×SL×SL):Zj5 [Ms 0 0 0 400 0 0 1 s] [Ms 200 0 200 200 0 200 2 t]=0:=O6
theorem kn_a1(s t:SL×SL×SL):apZ 100 1 2 [Ms 0 0 0 400 0 0 1 s] [Ms 200 0 200 200 0 200 2 t]=true:=O6
theorem kn_a2(s t:SL×SL×SL):apZ 101 1 2 [Ms 0 0 0 400 0 0 1 s] [Ms 200 0 200 200 0 200 2 t]=false:=O6
theorem kn_p1(s:SL×SL×SL):Nr [Ms 0 0 0 400 0 0 1 s]=true:=O6
theorem kn_p2(s:SL×SL×SL):Nr [Ms 200 0 200 200 0 200 2 s]=true:=O6
theorem kn_s0:Kr 0 1000 1 (Fd 0 0 2) (Fd 0 0 2) (Fd 0 0 2)=true:=O5
theorem kn_s1:Kr 0 1000 1 (Fd 0 0 2) (Fd 0 0 2) (Fd 200 200 2)=true:=O5
theorem kn_s2:Kr 0 1000 1 (Fd 0 0 2) (Fd 0 0 2) (Fd 100 100 2)=true:=O5
theorem kn_g1(s:SL×SL×SL):∀g∈[Ms 0 0 0 400 0 0 1 s],Gin g:=fun g hg=>by
 rw [List.mem_singleton.1 hg]
 exact⟨show Xx (0:Int)from⟨O3,O3⟩,show Xx (1000:Int)from⟨O3,O3⟩,show Xx (1:Int)from⟨O3,O3⟩,show ∀a∈Fd 0 400 1,Xx a from Pp O3,show ∀a∈Fd 0 0 1,Xx a from Pp O3,show ∀a∈Fd 0 0 1,Xx a from Pp O3⟩
theorem kn_g2(s:SL×SL×SL):∀g∈[Ms 200 0 200 200 0 200 2 s],Gin g:=fun g hg=>by
 rw [List.mem_singleton.1 hg]
 exact⟨show Xx (0:Int)from⟨O3,O3⟩,show Xx (1000:Int)from⟨O3,O3⟩,show Xx (1:Int)from⟨O3,O3⟩,show ∀a∈Fd 200 200 2,Xx a from Pp O3,show ∀a∈Fd 0 0 2,Xx a from Pp O3,show ∀a∈Fd 200 200 2,Xx a from Pp O3⟩
theorem sm_bl{x:Int}{M:Nat}(h:x.natAbs≤1000000000000000000000000)(hM:80≤M):bl x.natAbs≤M:=Nat.le_trans ((Xw 80 _).2 (Nat.lt_of_le_of_lt h O3)) hM
theorem pt_1:ptB 0 0 0=true:=O3
theorem to_m1{gs:List (Int×SL)}(hg:Yf gs=tzl [-1]):Sz 1000000 (Yf gs)∧gs.length≤1000:=by
 have h7:=congrArg List.length hg
 rw [Qt]at h7
 have h8:(tzl [(-1:Int)]).length=1:=O3
 refine⟨?_,O⟩
 rw [hg]
 exact(Sz.tzl (Zgo (fun x hx=>by rw [List.mem_singleton.1 hx];exact⟨O3,O3⟩))).mono O
end Go.Sky

