/- rules, arithmetic and contracts: part 8
   Proved without conditions of its own: each theorem bears its own. -/
import Derived.Test.YtcmiiammekgooaaGreatSd06
import Derived.Test.YtcmiiammekgooaaGreatSd05
import Derived.Test.YtcmiiammekgooaaGreatSd04
import Derived.Scope
import Derived.Test.YtcmiiammekgooaaGreatSd02
import Derived.Test.YtcmiiammekgooaaGreatSd03
import Derived.Deep.Strs
import Derived.Test.YtcmiiammekgooaaGreatSd01
set_option linter.all false
namespace Go.Sky
def Ec(xs:List Int)(m:Int):List Int:=Zoi xs (tzl [m])
theorem Zii(xs:List Int)(m:Int)(x:Rat):rev (Ec xs m) x=rev xs x-m:=by
 have h:rev (Ec xs m) x=rev (Hn xs ([m].map fun a=>-1*a)) x:=Nk x _ _ fun i=>by
  unfold Ec
  rw [Ci,Le,Kq]
  match i with
  | 0=>show cf xs 0-m=cf xs 0 + -1*m;omega
  | i+1=>show cf xs (i+1)-cf [m] (i+1)=cf xs (i+1)+cf [-1*m] (i+1);rw [show cf [m] (i+1)=0 from rfl,show cf [-1*m] (i+1)=0 from rfl];omega
 rw [h,Xu,Zy,Pv];push_cast;grind
theorem Ziv{xs:List Int}{m:Int}(hd:Cvd xs)(hs:Sz 40 xs)(hm:bl m.natAbs≤50):Cvd (Ec xs m)∧(∀i,bl (cf xs i-cf (tzl [m]) i).natAbs≤65536)∧Vp (tzl [m]):=by
 have hl:=hd.l
 have hc:∀i,bl (cf [m] i).natAbs≤50:=fun i=>by
  match i with
  | 0=>exact hm
  | i+1=>rw [show cf [m] (i+1)=0 from rfl];simp [Lf]
 have hz:∀i,bl (cf xs i-cf (tzl [m]) i).natAbs≤51:=fun i=>by
  have h1:=hs i
  have h2:=hc i
  rw [Kq,Int.sub_eq_add_neg]
  have h3:=Lv (cf xs i) (-cf [m] i)
  rw [Int.natAbs_neg]at h3
  omega
 have ht:(tzl [m]).length≤1:=Gp [m]
 have hv:Vp (tzl [m]):=⟨fun i=>by rw [Kq];have:=hc i;omega,Om _,by omega⟩
 have hsz:Sz 51 (Ec xs m):=fun i=>by unfold Ec;rw [Ci];exact hz i
 have hlen:(Ec xs m).length≤7:=by
  unfold Ec Zoi
  refine Nat.le_trans (Gp _) ?_
  rw [Xi];omega
 exact⟨⟨⟨hsz.mono (by omega),Om _,by omega⟩,hsz.mono (by omega),hlen⟩,fun i=>Nat.le_trans (hz i) (by omega),hv⟩
def Aj(xs:List Int)(m:Int):Prop:=∃x:Rat,0≤x∧x≤1∧rev xs x<(m:Rat)
theorem Zvt(xs:List Int)(m:Int):Zfb (Ec xs m) 0 1↔Aj xs m:=by
 constructor
 ·rintro⟨x,a,b,c⟩;rw [Zii]at c;exact⟨x,a,b,by grind⟩
 ·rintro⟨x,a,b,c⟩;exact⟨x,a,b,by rw [Zii];grind⟩
theorem Zrm{xs:List Int}{m n:Int}(h:Aj xs m)(hmn:m≤n):Aj xs n:=by
 obtain⟨x,a,b,c⟩:=h
 have:(m:Rat)≤(n:Rat):=by exact_mod_cast hmn
 exact⟨x,a,b,by grind⟩
def lws:List Int→Int
 | []=>0
 | c :: p=>-(c.natAbs:Int)+lws p
theorem Zrl:∀p q:List Int,lws (p ++ q)=lws p+lws q
 | [],q=>by show lws q=0+lws q;omega
 | c :: p,q=>by show -(c.natAbs:Int)+lws (p ++ q)=-(c.natAbs:Int)+lws p+lws q;rw [Zrl p q];omega
theorem Bb{xs:List Int}{i:Nat}(h:i<xs.length):lws (xs.take (i+1))=lws (xs.take i) + -((cf xs i).natAbs:Int):=by
 rw [On 0 xs i h,Zrl];show lws (xs.take i)+(-((cf xs i).natAbs:Int)+0)=_;omega
theorem lws_b{n:Nat} : ∀p:List Int,(∀c∈p,c.natAbs≤n)→-((p.length*n:Nat):Int)≤lws p∧lws p≤0
 | [],_=>by show -((0*n:Nat):Int)≤0∧(0:Int)≤0;omega
 | c :: p,h=>by
  have h1:=lws_b p fun d hd=>h d (List.mem_cons_of_mem _ hd)
  have h2:=h c List.mem_cons_self
  show -(((p.length+1)*n:Nat):Int)≤-(c.natAbs:Int)+lws p∧-(c.natAbs:Int)+lws p≤0
  rw [Nat.succ_mul];omega
theorem Zrk{x:Rat}(h0:0≤x)(h1:x≤1):∀p:List Int,((lws p:Int):Rat)≤rev p x
 | []=>by show((0:Int):Rat)≤0;exact Rat.le_refl
 | c :: p=>by
  have ih:=Zrk h0 h1 p
  have hb:=(lws_b (n:=p.foldl (fun m c=>max m c.natAbs) 0) p (fun c hc=>by
   have:∀(l:List Int) (a:Nat),(a≤l.foldl (fun m c=>max m c.natAbs) a)∧∀c∈l,c.natAbs≤l.foldl (fun m c=>max m c.natAbs) a:=fun l=>by
    induction l with
    | nil=>intro a;exact⟨Nat.le_refl _,fun c hc=>absurd hc (by simp)⟩
    | cons d l ih=>
     intro a
     obtain⟨i1,i2⟩:=ih (max a d.natAbs)
     refine⟨Nat.le_trans (Nat.le_max_left _ _) i1,fun c hc=>?_⟩
     rcases List.mem_cons.1 hc with rfl | hc
     ·exact Nat.le_trans (Nat.le_max_right _ _) i1
     ·exact i2 c hc
   exact(this p 0).2 c hc)).2
  have hb':((lws p:Int):Rat)≤0:=by exact_mod_cast hb
  have hc:((-(c.natAbs:Int):Int):Rat)≤(c:Rat):=by exact_mod_cast (show -(c.natAbs:Int)≤c by omega)
  have hm:=Rat.mul_nonneg (show 0≤1-x by grind) (show 0≤-((lws p:Int):Rat) by grind)
  have hm2:=Rat.mul_nonneg h0 (show 0≤rev p x-((lws p:Int):Rat) by grind)
  show((-(c.natAbs:Int)+lws p:Int):Rat)≤(c:Rat)+x*rev p x
  push_cast at hc ⊢
  grind
theorem Zvu(xs:List Int):¬Aj xs (lws xs):=by
 rintro⟨x,a,b,c⟩
 have:=Zrk a b xs;grind
theorem rev_at0(xs:List Int):rev xs 0=((cf xs 0:Int):Rat):=by
 cases xs with
 | nil=>rfl
 | cons c p=>show(c:Rat)+0*rev p 0=(c:Rat);grind
theorem Zrn(xs:List Int):Aj xs (cf xs 0+1):=by
 refine⟨0,by grind,by decide,?_⟩
 rw [rev_at0]
 push_cast;grind
theorem Zkp{xs:List Int}{l h:Int}(h1:¬Aj xs l)(h2:Aj xs h):l<h:=by
 rcases Int.lt_or_le l h with q | q
 ·exact q
 ·exact absurd (Zrm h2 q) h1
theorem Zo8{c:Int}(h:c≠0):wv (-(c.natAbs:Int))= .agg #[.bool true,.string (Qc c.natAbs)]:=by
 unfold wv
 rw [decide_eq_true (by omega),Int.natAbs_neg,Int.natAbs_natCast]
theorem tzl_one{x:Int}(h:x≠0):tzl [x]=[x]:=by
 unfold tzl
 simp [List.dropWhile,h]
theorem Zav{z:Int}(h:z.natAbs≤17592186044416):bl z.natAbs≤45:=(Md 45 _).2 (Nat.lt_of_le_of_lt h (by decide))
theorem Zmv:¬Aj [] 0∧Aj [] (0+1):=⟨fun⟨x,a,b,c⟩=>absurd c (by show ¬(0:Rat)<((0:Int):Rat);decide),⟨0,by decide,by decide,by show(0:Rat)<(((0:Int)+1:Int):Rat);decide⟩⟩
theorem Zcl{xs:List Int}(hs:Sz 40 xs)(i:Nat):(cf xs i).natAbs<1099511627776:=(Md 40 _).1 (hs i)
theorem Zae{xs:List Int}(hs:Sz 40 xs)(hl:xs.length≤7)(i:Nat):-7696581394432≤lws (xs.take i)∧lws (xs.take i)≤0:=by
 obtain⟨h1,h2⟩:=lws_b (n:=1099511627776) (xs.take i) fun c hc=>by
  obtain⟨k,hk,rfl⟩:=List.mem_iff_getElem.1 hc
  have h9:=Zcl hs k
  rw [List.length_take]at hk
  have e:(xs.take i)[k]=cf xs k:=by rw [List.getElem_take];unfold cf;rw [List.getD_eq_getElem?_getD,List.getElem?_eq_getElem (by omega)];rfl
  rw [e];omega
 have h3:(xs.take i).length*1099511627776≤7*1099511627776:=Nat.mul_le_mul_right _ (by rw [List.length_take];omega)
 exact⟨by omega,h2⟩
structure FlI (xs:List Int) (lo hi:Int):Prop where
 l:¬Aj xs lo
 h:Aj xs hi
 b1:-8796093022208≤lo
 b2:hi≤8796093022208
theorem FlI.lt{xs:List Int}{lo hi:Int}(h:FlI xs lo hi):lo<hi:=Zkp h.l h.h
theorem FlI.start{xs:List Int}(hs:Sz 40 xs)(hl:xs.length≤7){i:Nat}(hi:xs.length≤i):FlI xs (lws (xs.take i)) (cf xs 0+1):=by
 have h1:=Zae hs hl i
 have h2:=Zcl hs 0
 refine⟨by rw [List.take_of_length_le hi];exact Zvu xs,Zrn xs,by omega,by omega⟩
theorem Zu5:qv (0,1)=0∧qv (1,1)=1:=by unfold qv;exact⟨by decide +kernel,by decide +kernel⟩
theorem Bc{xs:List Int}{m:Int}(h:Cvd (Ec xs m)):ngb (Pj (Ec xs m)) (chx (Ec xs m)) (0,1) (1,1)=true↔Aj xs m:=by
 have:=Ew h (a:=(0,1)) (b:=(1,1)) (by decide) (by decide) (by rw [Zu5.1,Zu5.2];decide)
 rw [Zu5.1,Zu5.2]at this
 exact this.trans (Zvt xs m)
theorem bstr_0{n:Nat}(h:(Qc n).size=0):n=0:=by
 rw [Lm]at h
 have:=(Po (by omega:2≤256) n).1 h;omega
theorem Zth{c:Int}(h:¬(Qc c.natAbs).size=0):c≠0:=fun e=>h (by rw [e,Lm];exact(Po (by omega:2≤256) 0).2 rfl)
theorem Zp1{a b:Int}(h:(a-b).sign≤0):a≤b:=by
 rcases Int.lt_or_le b a with q | q
 ·rw [Int.sign_eq_one_of_pos (by omega)]at h;omega
 ·exact q
theorem Zp2{a b:Int}(h:¬(a-b).sign≤0):b<a:=by
 rcases Int.lt_or_le b a with q | q
 ·exact q
 ·exfalso
  rcases Int.lt_or_eq_of_le q with w | w
  ·rw [Int.sign_eq_neg_one_of_neg (by omega)]at h;omega
  ·rw [w,Int.sub_self]at h;exact h (by decide)
variable {P:Program} {N:Nat} {sc:Nat→Prop} {env env':Env} {H H':Hp} {Q Q':Exit→Act→World→Prop}
theorem Zj0(w:World)(g:Nat)(cs:Array Value)(t:TypeId)(fr:Nat×Nat)(hg:w.heap[g]? = some (.cells cs t fr)):w.setRow g cs=w:=by
 obtain⟨hlt,hv⟩:=Array.getElem?_eq_some_iff.1 hg
 have h:(w.setRow g cs).heap=w.heap:=by
  apply Array.ext_getElem?
  intro i
  by_cases h:g=i
  ·subst h;rw [setRow_heap w g cs cs t fr hg,hg]
  ·unfold World.setRow
   dsimp only
   rw [Array.getElem?_modify,if_neg h]
 have e:w.setRow g cs={ w with heap:=(w.setRow g cs).heap }:=rfl
 rw [e,h]
theorem Zoa {M:Nat→Prop} {o:Oper} {x y:Operand} {t tb:TypeId} {i b j k:Nat} {cs:Array Value} {v:Value} {vs:List Value} (ho:o.op= .store t x y) (hd:o.dst=none)
  (hx:ev env x=some (.pointer (some ⟨b,j,none⟩))) (hy:ev env y=some v) (hH:lk H i=some (Zfo b tb cs)) (hv:v.cells=vs.toArray) (hk:∀w,(sizeOf t).run P w= .ok k w) (hlen:vs.length=k)
  (hfit:Nat.ble (j+vs.length) cs.size=true) (h1:∀u∈vs,u.oneCell'=true) (hset:Bx cs j vs=cs) :
  T P N sc M o env H (G:=Unit) (fun _=>True) (fun _=>env) (fun _=>H):=fun a w hs K Q hK=>by
 have hb:w.heap[b]? = some (.cells cs tb (0,0)):=hs.hold i _ hH
 have hst:=run_storeCells_at P b j tb vs 0 cs w hb (by simpa using Nat.le_of_ble_eq_true hfit) h1
 simp only [Nat.add_zero]at hst
 have hr:(execOp a.eval o).run P w= .ok .skip (w.setRow b (Bx cs j vs)):=by
  simp [execOp,ho,hs.ev hx,hs.ev hy,Instr.storeAt,Instr.sureAddr,storeVar,hv,hk,hlen,hst,Bx]
 rw [hset,Zj0 w b cs tb _ hb]at hr
 unfold Oper.wp
 rw [hr]
 show K (a.put o.dst _) _
 rw [hd]
 exact hK () _ _ trivial (hs.put_none undef) (Chg.refl _ _)
theorem Zsk{c:Code}(h:E P N sc c (Exit.noGoto Q) env H):E P N sc (.scope c) Q env H:=fun a w hs=>wp_scope_straight (h a w hs)
theorem Zt0(h:X N sc .ret Q env H):X N sc .ret (Exit.noGoto Q) env H:=h
theorem e_label{l:Nat}(h:X N sc .normal Q env H):E P N sc (.label l) Q env H:=fun a w hs=>wp_label (h a w hs)
theorem t_stp1 {M:Nat→Prop} {o:Oper} {x y:Operand} {t tb:TypeId} {i b j:Nat} {cs:Array Value} {v:Value} {w0:World} {M0:Nat→Prop} (ho:o.op= .store t x y) (hd:o.dst=none)
  (hx:ev env x=some (.pointer (some ⟨b,j,none⟩))) (hy:ev env y=some v) (hH:lk H i=some (box b tb cs)) (hk:∀w,(sizeOf t).run P w= .ok 1 w) (hfit:Nat.ble (j+1) cs.size=true) (h1:One N sc env H v)
  (h0:lk H 0=some (Ix w0 M0)) (hw:∀b,w0.heap.size≤b→sc b) (hM:M b) (hi0:i≠0:=by decide) :
  T P N sc M o env H (G:=Unit) (fun _=>True) (fun _=>env) (fun _=>(i,box b tb (Bx cs j [v])) :: H):=fun a w hs=>
 Zjr (cs':=#[]) (vs:=[v]) ho hd hx hy hH hi0 (Mr (h1 a w hs)) hk rfl hfit ⟨h1,trivial⟩ h0 hw hM a w hs
theorem pre_dZ{v:Value}{zs:List (SL×List Int)}{al:Bool}{r:List Pc}{z:SL×List Int}(i:Nat)(hi:lk H i=some (Zan 1 Zaz (fun y:SL×List Int=>slp 2 wv (svv y.1) y.2) v zs))(hi0:Nat.beq i 0=false)(hz:z∈zs)(h:PreOk H al r):PreOk H al (slp 2 wv (svv z.1) z.2 :: r):=Zmh (q:=fun y:SL×List Int=>slp 2 wv (svv y.1) y.2) (z:=z) i hi hi0 hz h
theorem d_lr2 {o:Oper} {x:Operand} {t tb:TypeId} {i b j:Nat} {cs:Array Value} {v0 v1:Value} (ho:o.op= .load t x) (hx:ev env x=some (.pointer (some ⟨b,j,none⟩))) (hH:lk H i=some (Zfo b tb cs)) (ht:∀w,(isAgg t).run P w= .ok true w) (hk:∀w,(sizeOf t).run P w= .ok 2 w)
  (h0:cs[j]? = some v0) (h1:cs[j+1]? = some v1):Det P N sc o env H (.agg #[v0,v1]):=
 d_lra (vs:=[v0,v1]) ho hx hH ht hk rfl (fun n u hn=>by
  match n,hn with
  | 0,hn=>simp at hn;subst hn;exact h0
  | 1,hn=>simp at hn;subst hn;exact h1)
end Go.Sky
namespace Go.Sky
variable {P:Program} {N:Nat} {sc:Nat→Prop} {env env':Env} {H H':Hp} {Q Q':Exit→Act→World→Prop}
def Zex(l:List Int):Array Value:=(l.map (Value.int .i64)).toArray
theorem Zh0(l:List Int):(Zex l).size=l.length:=by simp [Zex]
theorem Zt3{l:List Int}{j:Nat}(h:j<l.length):(Zex l)[j]? = some (.int .i64 (l.getD j 0)):=by
 simp [Zex,List.getElem?_eq_getElem h,List.getD_eq_getElem?_getD]
theorem Zt2{l:List Int}{j:Nat}{v:Int}(h:j<l.length):Bx (Zex l) j [.int .i64 v]=Zex (l.set j v):=by
 unfold Bx Zex
 congr 1
 rw [List.set_eq_take_append_cons_drop,if_pos h,List.map_append,List.map_cons,List.map_take,List.map_drop]
 simp
theorem Zem {o:Oper} {x y:Operand} {t e:TypeId} {b off i k len:Nat} {kd:IntKind} {m:Int} (ho:o.op= .indexAddr t x y) (hx:ev env x=some (.pointer (some ⟨b,off,none⟩))) (hy:ev env y=some (.int kd m))
  (ht:P.underlying t=some (.array len e)) (hk:∀w,(sizeOf e).run P w= .ok k w) (him:m=(i:Int):=by omega) (hlt:i<len:=by omega):Det P N sc o env H (.pointer (some ⟨b,off+i*k,none⟩)):=fun a w hs=>by
 subst him
 simp [execOp,ho,hs.ev hx,hs.ev hy,Instr.indexAt,Instr.sureAddr,asIntOf,run_underlying ht,hk,hlt,Nw]
theorem d_lw{o:Oper}{x:Operand}{t tb:TypeId}{i b j:Nat}{l:List Int}(ho:o.op= .load t x)(hx:ev env x=some (.pointer (some ⟨b,j,none⟩)))(hH:lk H i=some (box b tb (Zex l)))(ht:∀w,(isAgg t).run P w= .ok false w)(hj:j<l.length:=by omega) :
  Det P N sc o env H (.int .i64 (l.getD j 0)):=Pr ho hx hH ht (Zt3 hj)
theorem d_lwa{o:Oper}{x:Operand}{t tb:TypeId}{i b k:Nat}{l:List Int}(ho:o.op= .load t x)(hx:ev env x=some (.pointer (some ⟨b,0,none⟩)))(hH:lk H i=some (box b tb (Zex l)))(ht:∀w,(isAgg t).run P w= .ok true w)(hk:∀w,(sizeOf t).run P w= .ok k w)(hl:l.length=k) :
  Det P N sc o env H (.agg (Zex l)):=
 Zwh (vs:=l.map (Value.int .i64)) ho hx hH ht hk (by simpa using hl) (fun n u hu=>by rw [Nat.zero_add];simpa [Zex]using hu)
theorem Zpk {M:Nat→Prop} {o:Oper} {x y:Operand} {t tb:TypeId} {i b j:Nat} {l:List Int} {v:Int} {w0:World} {M0:Nat→Prop} (ho:o.op= .store t x y) (hd:o.dst=none)
  (hx:ev env x=some (.pointer (some ⟨b,j,none⟩))) (hy:ev env y=some (.int .i64 v)) (hH:lk H i=some (box b tb (Zex l))) (hk:∀w,(sizeOf t).run P w= .ok 1 w) 
  (h0:lk H 0=some (Ix w0 M0)) (hw:∀b,w0.heap.size≤b→sc b) (hM:M b) (hi0:i≠0:=by decide) (hj:j<l.length:=by omega) :
  T P N sc M o env H (G:=Unit) (fun _=>True) (fun _=>env) (fun _=>(i,box b tb (Zex (l.set j v))) :: H):=by
 rw [←Zt2 hj]
 exact Zt8 (vs:=[.int .i64 v]) ho hd hx hy hH hi0 rfl hk rfl (by rw [Zh0];exact hj) (fun u hu=>Zb (by rw [List.mem_singleton.1 hu];rfl)) rfl h0 hw hM
theorem t_stwa {M:Nat→Prop} {o:Oper} {x y:Operand} {t tb:TypeId} {i b k:Nat} {cs:Array Value} {l:List Int} {w0:World} {M0:Nat→Prop} (ho:o.op= .store t x y) (hd:o.dst=none)
  (hx:ev env x=some (.pointer (some ⟨b,0,none⟩))) (hy:ev env y=some (.agg (Zex l))) (hH:lk H i=some (box b tb cs)) (hk:∀w,(sizeOf t).run P w= .ok k w) (hl:l.length=k) (hc:cs.size=k)
  (h0:lk H 0=some (Ix w0 M0)) (hw:∀b,w0.heap.size≤b→sc b) (hM:M b) (hi0:i≠0:=by decide) :
  T P N sc M o env H (G:=Unit) (fun _=>True) (fun _=>env) (fun _=>(i,box b tb (Zex l)) :: H):=
 Zt8 (vs:=l.map (Value.int .i64)) ho hd hx hy hH hi0 rfl hk (by simpa using hl) (by simp;omega) (fun u hu=>Zb (by obtain⟨z,_,rfl⟩:=List.mem_map.1 hu;rfl)) (by
  unfold Bx Zex
  rw [List.take_zero,List.nil_append,Nat.zero_add,List.drop_eq_nil_of_le (by simp;omega),List.append_nil]) h0 hw hM
def chz:Nat→Nat→Nat
 | _,0=>1
 | 0,_+1=>0
 | n+1,k+1=>chz n k+chz n (k+1)
theorem Zs9:∀n k,chz n k≤2^n
 | 0,0=>by decide
 | _+1,0=>Nat.two_pow_pos _
 | 0,_+1=>Nat.zero_le _
 | n+1,k+1=>by
  have h1:=Zs9 n k
  have h2:=Zs9 n (k+1)
  show chz n k+chz n (k+1)≤2^(n+1)
  rw [Nat.pow_succ];omega
theorem Znr:∀n k,n<k→chz n k=0
 | _,0,h=>absurd h (Nat.not_lt_zero _)
 | 0,_+1,_=>rfl
 | n+1,k+1,h=>by
  show chz n k+chz n (k+1)=0
  rw [Znr n k (by omega),Znr n (k+1) (by omega)]
structure Tab (l:List Int) (n k:Nat):Prop where
 len:l.length=625
 eq:∀r c,r<25→c<25→l.getD (r*25+c) 0=if r<n∨(r=n∧c<k)then(chz r c:Int)else 0
theorem Zr0{l:List Int}{i j:Nat}{v:Int}(hi:i<l.length):(l.set i v).getD j 0=if j=i then v else l.getD j 0:=by
 rw [List.getD_eq_getElem?_getD,List.getD_eq_getElem?_getD,List.getElem?_set]
 by_cases h:i=j
 ·subst h;rw [if_pos rfl,if_pos hi,if_pos rfl];rfl
 ·rw [if_neg h,if_neg (fun e=>h e.symm)]
theorem Tab.start:Tab (List.replicate 625 0) 0 0:=⟨List.length_replicate,fun r c hr hc=>by
 rw [if_neg (by omega),List.getD_eq_getElem?_getD]
 rw [List.getElem?_replicate]
 split<;>rfl⟩
theorem Tab.step{l:List Int}{n k:Nat}{v:Int}(h:Tab l n k)(hn:n<25)(hk:k<25)(hv:v=(chz n k:Int)){j:Nat}(hj:j=n*25+k):Tab (l.set j v) n (k+1):=by
 subst hj
 have hl:=h.len
 refine⟨by rw [List.length_set];exact hl,fun r c hr hc=>?_⟩
 rw [Zr0 (by omega),h.eq r c hr hc]
 by_cases e:r*25+c=n*25+k
 ·have e1:r=n:=by omega
  have e2:c=k:=by omega
  subst e1;subst e2
  rw [if_pos rfl,if_pos (by omega)];exact hv
 ·rw [if_neg e]
  have:¬(r=n∧c=k):=fun⟨e1,e2⟩=>e (by rw [e1,e2])
  by_cases g:r<n∨(r=n∧c<k)
  ·rw [if_pos g,if_pos (by omega)]
  ·rw [if_neg g,if_neg (by omega)]
theorem Tab.row{l:List Int}{n k:Nat}(h:Tab l n k)(hk:n<k):Tab l (n+1) 0:=⟨h.len,fun r c hr hc=>by
 rw [h.eq r c hr hc]
 by_cases g:r<n∨(r=n∧c<k)
 ·rw [if_pos g,if_pos (by omega)]
 ·rw [if_neg g]
  by_cases g2:r<n+1∨(r=n+1∧c<0)
  ·rw [if_pos g2,Znr r c (by omega)];rfl
  ·rw [if_neg g2]⟩
theorem Tab.get{l:List Int}{n k r c:Nat}(h:Tab l n k)(hr:r<25)(hc:c<25)(hlt:r<n∨(r=n∧c<k)){j:Nat}(hj:j=r*25+c):l.getD j 0=(chz r c:Int):=by
 rw [hj,h.eq r c hr hc,if_pos hlt]
theorem Zs8{n k:Nat}(hn:1≤n:=by omega)(hk:1≤k:=by omega):chz n k=chz (n-1) (k-1)+chz (n-1) k:=by
 obtain⟨m,rfl⟩:∃m,n=m+1:=⟨n-1,by omega⟩
 obtain⟨j,rfl⟩:∃j,k=j+1:=⟨k-1,by omega⟩
 rfl
theorem Zwj{n k:Nat}(h:n≤24:=by omega):chz n k≤16777216:=Nat.le_trans (Zs9 n k) (Nat.le_trans (Nat.pow_le_pow_right (by decide) h) (by decide))
end Go.Sky
namespace Go.Sky
structure Ef (a:R2):Prop where
 p:0<a.2
 b1:bl a.1.natAbs≤512
 b2:bl a.2.natAbs≤512
theorem E32.ef{a:R2}(h:E32 a):Ef a:=⟨h.p,Nat.le_trans h.b1 (by decide),Nat.le_trans h.b2 (by decide)⟩
def plx(a b:R2):Int:=a.1*b.2
def ply(a b:R2):Int:=b.1*a.2
def pld(a b:R2):Int:=a.2*b.2
def plc(xs:List Int)(a b:R2):List Int:=Az xs (plx a b) (ply a b-plx a b) (pld a b)
def Ze3(c:List Int)(d j:Nat)(i:Nat):Int:=Qa (fun i=>cf c i*(chz (d-i) (j-i):Int)) i
def Ds(xs:List Int)(a b:R2):Bool:=if xs.length=0 then true else(List.range xs.length).all fun j=>decide (0≤Ze3 (plc xs a b) (xs.length-1) j (min (j+1) (plc xs a b).length))
theorem Zau{x y:Int}{m n:Nat}(hx:bl x.natAbs≤m)(hy:bl y.natAbs≤n):bl (x*y).natAbs≤m+n:=by have:=Qb x y;omega
theorem pl_sz{xs:List Int}{a b:R2}(hd:Cvd xs)(ha:Ef a)(hb:Ef b) :
  bl (plx a b).natAbs≤1024∧bl (ply a b).natAbs≤1024∧bl (pld a b).natAbs≤1024∧bl (ply a b-plx a b).natAbs≤1025∧0<pld a b∧¬Znn xs (plx a b) (ply a b-plx a b) (pld a b)∧Sz 7000 (plc xs a b)∧(plc xs a b).length≤xs.length:=by
 have h1:bl (plx a b).natAbs≤1024:=Zau ha.b1 hb.b2
 have h2:bl (ply a b).natAbs≤1024:=Zau hb.b1 ha.b2
 have h3:bl (pld a b).natAbs≤1024:=Zau ha.b2 hb.b2
 have h4:bl (ply a b-plx a b).natAbs≤1025:=by have:=Ah (ply a b) (plx a b);omega
 have hl:=hd.l
 have hm:=Oo hd.s
 have hmz:msz [plx a b,ply a b-plx a b,pld a b]≤1025:=Oo (Sz.of_mem fun y hy=>by
  rcases List.mem_cons.1 hy with rfl | hy
  ·omega
  ·rcases List.mem_cons.1 hy with rfl | hy
   ·omega
   ·rw [List.mem_singleton.1 hy];omega)
 have hk:(xs.length-1)*(msz [plx a b,ply a b-plx a b,pld a b]+1)≤6*1026:=Nat.mul_le_mul (by omega) (by omega)
 refine⟨h1,h2,h3,h4,Int.mul_pos ha.p hb.p,fun hF=>?_,?_,Zot _ _ _ _⟩
 ·have:=hF.2;omega
 ·have hc:=Zgi (x:=plx a b) (y:=ply a b-plx a b) (z:=pld a b) (m:=1025) hd.s (by omega) h4 (by omega) (xs.length-1)
  unfold plc Az
  split
  ·exact Sz.nil _
  ·refine(Sz.tzl hc).mono ?_
   have:(xs.length-1)*(1025+1)≤6*1026:=Nat.mul_le_mul (by omega) (by omega)
   omega
theorem Zij(c:List Int)(d j i:Nat):Ze3 c d j (i+1)=Ze3 c d j i+cf c i*(chz (d-i) (j-i):Int):=rfl
theorem chz_bl{n k:Nat}(h:n≤24):bl ((chz n k:Nat):Int).natAbs≤25:=by
 rw [Int.natAbs_natCast];exact(Md 25 _).2 (Nat.lt_of_le_of_lt (Zwj h) (by decide))
theorem Zg3{c:List Int}{d j:Nat}(hc:Sz 7000 c)(hd:d≤24):∀i,bl (Ze3 c d j i).natAbs≤7025+i
 | 0=>by show bl (0:Int).natAbs≤7025;simp [Lf]
 | i+1=>by
  have h1:=Zg3 hc hd (j:=j) i
  have h2:bl (cf c i*(chz (d-i) (j-i):Int)).natAbs≤7000+25:=Zau (hc i) (chz_bl (by omega))
  rw [Zij]
  have:=Lv (Ze3 c d j i) (cf c i*(chz (d-i) (j-i):Int))
  omega
theorem Zqy{xs:List Int}{a b:R2}(h:xs.length=0):Ds xs a b=true:=by unfold Ds;rw [if_pos h]
theorem plain_t{xs:List Int}{a b:R2}(h:xs.length≠0)(hz:∀k,k<xs.length→0≤Ze3 (plc xs a b) (xs.length-1) k (min (k+1) (plc xs a b).length)):Ds xs a b=true:=by
 unfold Ds;rw [if_neg h,List.all_eq_true]
 intro j hj
 exact decide_eq_true (hz j (List.mem_range.1 hj))
theorem Zqz{xs:List Int}{a b:R2}{k:Nat}(h:xs.length≠0)(hk:k<xs.length)(hz:Ze3 (plc xs a b) (xs.length-1) k (min (k+1) (plc xs a b).length)<0):Ds xs a b=false:=by
 unfold Ds;rw [if_neg h,Bool.eq_false_iff]
 intro hA
 have:=of_decide_eq_true (List.all_eq_true.1 hA k (List.mem_range.2 hk))
 omega
abbrev PTs:=Int×R2×R2
abbrev P0:PTs:=(0,(0,0),(0,0))
abbrev Zeh (z:PTs):Value:= .agg #[.int .i64 z.1,.bool (decide (z.2.1.1<0)),.string (Qc z.2.1.1.natAbs),.bool (decide (z.2.1.2<0)),.string (Qc z.2.1.2.natAbs),.bool (decide (z.2.2.1<0)),.string (Qc z.2.2.1.natAbs),.bool (decide (z.2.2.2<0)),.string (Qc z.2.2.2.natAbs)]
def shw(xs:List Int)(z:PTs):Bool:=if z.1=1 then Ds xs z.2.1 z.2.2 else if xs.length=0∨cmp z.2.1 z.2.2=0 then decide (0≤vlu (Pj xs) z.2.1)else decide (0<aft (Pj xs) z.2.1) && !crb (chx xs) z.2.1 z.2.2
def Zop(xs:List Int)(l:R2)(z:PTs):Bool:=decide (cmp l z.2.1=0) && decide (¬0<cmp z.2.1 z.2.2) && shw xs z
def lst(a:R2)(ps:List PTs)(i:Nat):R2:=if i=0 then a else(ps.getD (i-1) P0).2.2
def Zjj(xs:List Int)(ps:List PTs)(a b:R2):Bool:=decide (0<ps.length) && (List.range ps.length).all (fun k=>Zop xs (lst a ps k) (ps.getD k P0)) && decide (cmp (lst a ps ps.length) b=0)
def ValP(ps:List PTs):Prop:=∀z∈ps,(z.1=1∨z.1=2)∧Ef z.2.1∧Ef z.2.2
theorem chk_all{xs:List Int}{ps:List PTs}{a b:R2}{i:Nat}(hi:i=ps.length)(h:∀k,k<i→Zop xs (lst a ps k) (ps.getD k P0)=true):Zjj xs ps a b=(decide (0<ps.length) && decide (cmp (lst a ps i) b=0)):=by
 subst hi
 unfold Zjj
 rw [List.all_eq_true.2 (fun k hk=>h k (List.mem_range.1 hk)),Bool.and_true]
theorem Df{xs:List Int}{ps:List PTs}{a b:R2}{k:Nat}(hk:k<ps.length)(h:Zop xs (lst a ps k) (ps.getD k P0)=false)(c:Bool):Zjj xs ps a b=(false && c):=by
 unfold Zjj
 have:(List.range ps.length).all (fun k=>Zop xs (lst a ps k) (ps.getD k P0))=false:=by
  rw [Bool.eq_false_iff]
  intro hA
  have:=List.all_eq_true.1 hA k (List.mem_range.2 hk)
  rw [h]at this;exact absurd this (by decide)
 rw [this];simp
theorem okp_c{xs:List Int}{l:R2}{z:PTs}(h:¬cmp l z.2.1=0):Zop xs l z=false:=by unfold Zop;rw [decide_eq_false h];rfl
theorem okp_o{xs:List Int}{l:R2}{z:PTs}(h:0<cmp z.2.1 z.2.2):Zop xs l z=false:=by unfold Zop;rw [decide_eq_false (show ¬¬0<cmp z.2.1 z.2.2 from fun e=>e h),Bool.and_false];rfl
theorem Zg5{xs:List Int}{l:R2}{z:PTs}(h1:cmp l z.2.1=0)(h2:¬0<cmp z.2.1 z.2.2):Zop xs l z=shw xs z:=by unfold Zop;rw [decide_eq_true h1,decide_eq_true h2];rfl
theorem Ze1{xs:List Int}{z:PTs}(h:z.1=1):shw xs z=Ds xs z.2.1 z.2.2:=if_pos h
theorem Zez{xs:List Int}{z:PTs}(h:¬z.1=1)(h2:xs.length=0∨cmp z.2.1 z.2.2=0):shw xs z=decide (0≤vlu (Pj xs) z.2.1):=by unfold shw;rw [if_neg h,if_pos h2]
theorem Ze0{xs:List Int}{z:PTs}(h:¬z.1=1)(h2:¬xs.length=0)(h3:¬cmp z.2.1 z.2.2=0):shw xs z=(decide (0<aft (Pj xs) z.2.1) && !crb (chx xs) z.2.1 z.2.2):=by
 unfold shw;rw [if_neg h,if_neg (fun e=>by rcases e with e | e;exact h2 e;exact h3 e)]
theorem Ef.efit{a:R2}(h:Ef a):Go.Sky.efit a=true:=by
 have:=h.b1
 have:=h.b2
 unfold Go.Sky.efit;exact decide_eq_true (by omega)
theorem lst_ef{a:R2}{ps:List PTs}(ha:Ef a)(hp:ValP ps){i:Nat}(hi:i≤ps.length):Ef (lst a ps i):=by
 unfold lst
 split
 ·exact ha
 ·exact(hp _ (Pu)).2.2
theorem Kc{b:Bool}(h:(!b)=true):b=false:=by cases b<;>simp_all
theorem Gz{b:Bool}(h:(!b)=false):b=true:=by cases b<;>simp_all
theorem Zax{p:Prop}[Decidable p]{b c:Bool}(h:p)(e:b=c):(decide p && b)=c:=by rw [decide_eq_true h,Bool.true_and,e]
theorem Zjg{p:Prop}[Decidable p]{b:Bool}(h:¬p):(decide p && b)=false:=by rw [decide_eq_false h,Bool.false_and]
theorem fill19(u0 u1 u2 u3 u4 u5 u6 u7 u8 a0 a1 a2 a3 a4 a5 a6 a7 a8:Value):Instr.fill (fun i=>some (i*9,9)) ((List.range (1*9)).map ((Value.agg #[u0,u1,u2,u3,u4,u5,u6,u7,u8]).cells[· % (Value.agg #[u0,u1,u2,u3,u4,u5,u6,u7,u8]).cells.size]!)).toArray [(0,.agg #[a0,a1,a2,a3,a4,a5,a6,a7,a8])]=some #[a0,a1,a2,a3,a4,a5,a6,a7,a8]:=by
 simp [Instr.fill,Value.cells,List.range,List.range.loop]
 try rfl
theorem sz_lit{l:List Int}(h:litb l=true):Sz 40 l:=Sz.of_mem fun x hx=>by
 unfold litb at h
 rw [Bool.and_eq_true]at h
 have h1:=List.all_eq_true.1 h.1 x hx
 simp only [Bool.and_eq_true,decide_eq_true_eq]at h1
 exact(Md 40 _).2 (by omega)
theorem Zen{l:List Int}(h:litb l=true)(h2:l.length≤7:=by decide):Cvd l:=⟨vp_b h,(sz_lit h).mono (by omega),h2⟩
theorem Zpn{l:List Int}(h:litb l=true):Sz 40 l:=sz_lit h
theorem Zt5{k:Int}{a b:R2}(ha:Ef a)(hb:Ef b)(h:k=1∨k=2:=by decide):ValP [(k,a,b)]:=fun z hz=>by
 rw [List.mem_singleton.1 hz];exact⟨h,ha,hb⟩
theorem Zr3{xs:List Int}{r m:Int}(h:¬Aj xs r∧Aj xs (r+1)∧bl r.natAbs≤60)(c1:Cvd (Ec xs m))(c2:Cvd (Ec xs (m+1)))(h1:ngb (Pj (Ec xs m)) (chx (Ec xs m)) (0,1) (1,1)=false)(h2:ngb (Pj (Ec xs (m+1))) (chx (Ec xs (m+1))) (0,1) (1,1)=true):r=m:=by
 have l1:¬Aj xs m:=fun e=>by rw [(Bc c1).2 e]at h1;exact absurd h1 (by decide)
 have l2:Aj xs (m+1):=(Bc c2).1 h2
 have a1:=Zkp h.1 l2
 have a2:=Zkp l1 h.2.1
 omega
theorem r2u {P:Program} {N:Nat} {sc:Nat→Prop} {env:Env} {H:Hp} {M:Nat→Prop} {ops:Array Oper} {F:Env→Hp→Prop} {rest:List (Nat×Nat)} {o:Oper} {i d j e:Nat} {b:Bool} (ho:ops[i]? = some o) (hg:o.guard=some (j,b)) (hj:(ops[j]?).bind (·.dst)=some e) (he:lk env e=some undef) (hd:o.dst=some d) 
  (h:LD P N sc M ops F rest ((d,undef) :: env) H) (hN:Nat.blt d N=true:=by rfl):LD P N sc M ops F ((i,2) :: rest) env H:=⟨o,d,ho,hd,hN,fun a w hsat=>by simp [Region.wanted,hg,hsat.yieldedu hj he],h⟩
def smR(r:RWL):Bool:=(r.all fun c=>decide (c.2.size≤4)) && decide (r.length≤7)
theorem smR_no{r:RWL}{i:Nat}(hi:i<r.length)(h:(4:Int)<((r.getD i (false,⟨#[]⟩)).2.size:Int)):smR r=false:=by
 unfold smR
 rw [show(r.all fun c=>decide (c.2.size≤4))=false from ?_]
 ·simp
 ·rw [List.all_eq_false]
  refine⟨r.getD i (false,⟨#[]⟩),Pu hi,?_⟩
  rw [decide_eq_false (by omega)];decide
theorem smR_yes{r:RWL}(h:∀k,k<r.length→(r.getD k (false,⟨#[]⟩)).2.size≤4):smR r=decide ((r.length:Int)≤7):=by
 unfold smR
 rw [show(r.all fun c=>decide (c.2.size≤4))=true from ?_,Bool.true_and]
 ·exact decide_eq_decide.2 (by omega)
 ·rw [List.all_eq_true]
  intro c hc
  obtain⟨k,hk,rfl⟩:=List.mem_iff_getElem.1 hc
  have:=h k hk
  rw [List.getD_eq_getElem?_getD,List.getElem?_eq_getElem hk]at this
  exact decide_eq_true this
theorem smR_le{r:RWL}(h:smR r=true):r.length≤7∧∀c∈r,c.2.size≤4:=by
 unfold smR at h
 rw [Bool.and_eq_true,List.all_eq_true]at h
 exact⟨of_decide_eq_true h.2,fun c hc=>of_decide_eq_true (h.1 c hc)⟩
def enR(z:RZ):Bool:=decide (z.1.2.size≤4) && decide (z.2.2.size≤4)
theorem enR_3{z:RZ}(h1:¬(4:Int)<(z.1.2.size:Int))(h2:¬(4:Int)<(z.2.2.size:Int)):enR z=true:=by unfold enR;rw [decide_eq_true (by omega),decide_eq_true (by omega)];rfl
structure RI (xs q:List Int):Prop where
 v:Vp q
 ne:q≠[]
 s:Sz 200 q
 l:q.length≤7
 d:Dp xs (nrm q)
theorem RI.start{xs:List Int}(h:Cvd xs)(h0:xs≠[]):RI xs xs:=⟨h.v,h0,h.s.mono (by omega),h.l,Dp.start h.v.tr h0⟩
theorem sz_pm1{q:List Int}{n:Nat}{e:Int}(he:e=1∨e=-1)(h:Sz n q):Sz n (Xr q e):=fun i=>by
 rw [Qh]
 have:=h i
 rcases he with rfl | rfl
 ·rw [Int.mul_one];exact this
 ·rw [Int.mul_neg_one,Int.natAbs_neg];exact this
theorem RI.step{xs q:List Int}(h:Cvd xs)(h0:xs≠[])(hI:RI xs q) :
  Tr (sqf 13 q)∧msz (sqf 13 q)≤330∧(sqf 13 q).length≤7∧0<(sqf 13 q).length∧Ql q≠0∧Sz 200 (Xr (Xg q) 1)∧Tr (Xr (Xg q) 1)∧(Xr (Xg q) 1).length=q.length∧pdv (Xr (Xg q) 1) (sqf 13 q)∧
  Vp (Lp 13 q)∧Lp 13 q≠[]∧Sz 200 (Lp 13 q)∧(Lp 13 q).length≤7∧Ql (Lp 13 q)≠0∧Xg (Lp 13 q)=Lp 13 q∧
  Tr (sqf 13 (Lp 13 q))∧msz (sqf 13 (Lp 13 q))≤330∧(sqf 13 (Lp 13 q)).length≤7∧0<(sqf 13 (Lp 13 q)).length∧pdv (sqf 13 q) (sqf 13 (Lp 13 q))∧Sz 500 (Iq (sqf 13 q) (sqf 13 (Lp 13 q)))∧(Iq (sqf 13 q) (sqf 13 (Lp 13 q))).length≤7∧
  pdv (Lp 13 q) (sqf 13 (Lp 13 q))∧RI xs (Zcc 13 q)∧((sqf 13 q).length≠1→(Zcc 13 q).length<q.length):=by
 have hl:=h.l
 have hD:=hI.d
 have hok0:=(hD.ok h.v.tr h0 h.s (by omega) (by omega) (show xs.length≤13+1 by omega)).2
 have hok:Zal 13 q:=by unfold Zal at hok0 ⊢;rwa [hD.2.2.1]at hok0
 have hg:=hD.next hok0
 have hgn:gcf 13 (nrm q)=gcf 13 q:=Zhf hD.2.2.1
 have hsn:sqf 13 (nrm q)=sqf 13 q:=Fd hD.2.2.1
 rw [hgn]at hg
 have hok2:=(hg.ok h.v.tr h0 h.s (by omega) (by omega) (show xs.length≤13+1 by omega)).2
 have hg2:=hg.next hok2
 obtain⟨⟨e,he,r1,r2,r3,r4,r5,r6⟩,r7,r8,r9,r10,r11,r12⟩:=Zfm hI.v.tr hI.ne hok hok2
 obtain⟨-,-,-,-,-,-,-,-,-,-,-,a12,a13,a14,-,a16,-,-⟩:=Za7 h h0 hD
 obtain⟨-,-,-,-,-,-,-,-,-,-,-,b12,b13,b14,-,b16,b17,-⟩:=Za7 h h0 hg
 rw [hsn]at a12 a13 a14 a16
 have hsl:sqf 13 (Lp 13 q)=sqf 13 (gcf 13 q):=Fd (by rw [r7,hg.2.2.1])
 obtain⟨g1,g2⟩:=Zei h h0 hg
 obtain⟨g3,g4⟩:=Zei h h0 hg2
 have e0:e≠0:=by rcases he with rfl | rfl<;>decide
 have hLs:Sz 200 (Lp 13 q):=by rw [r3];exact sz_pm1 he g1
 have hLl:(Lp 13 q).length≤7:=by rw [r3];have:=Ct (gcf 13 q) e;omega
 have hLv:Vp (Lp 13 q):=⟨hLs.mono (by omega),r9,by omega⟩
 have hRs:Sz 200 (Zcc 13 q):=by rw [r6];exact sz_pm1 he g3
 have hRl:(Zcc 13 q).length≤(gcf 13 (gcf 13 q)).length:=by rw [r6];exact Ct _ e
 obtain⟨o1,o2,o3,o4⟩:=Hz hI.v.tr hI.ne hok hok2
 have hK:kkR 24 13*(24+1)^13<2^130:=by decide +kernel
 have hos:=Hu (L:=13) (R:=24) o3 b12.tr a13 a16 a12.tr (by omega) (by decide) hK o2
 have hlq:=Pw o3 b12.tr o4 b16
 rw [←o2]at hlq
 have lb:=List.length_pos_iff.2 b16
 have la:=List.length_pos_iff.2 a16
 have lo:=List.length_pos_iff.2 o4
 have hm:Xr (Xg q) 1=Xg q:=by
  refine(Qu _ _).ext (Xn hI.v.tr) fun i=>?_
  rw [Qh,Int.mul_one]
 have hx:=Pa hI.v.tr hI.ne hok
 have hx2:=Pa hg.1 hg.2.1 hok2
 rw [hsl]
 refine⟨a12.tr,Oo a13,by omega,la,hI.v.ne hI.ne,by rw [hm];exact Gq hI.s,Qu _ _,by rw [hm,Ym],by rw [r1];exact r2,hLv,r10,hLs,hLl,hLv.ne r10,r4,b12.tr,Oo b13,b14,lb,o1,hos.mono (by omega),?_,r5,⟨⟨hRs.mono (by omega),r11,by omega⟩,r12,hRs,by omega,by rw [r8];exact hg2⟩,fun hne=>?_⟩
 ·show(Bk 13 q).length≤7;omega
 ·have h1:=hx.2.2.2.2
  have h2:=hx2.2.2.2.2
  omega
theorem Zvb{F n:Nat}{p:List Int}(hp:Tr p)(h0:p≠[])(hs:Sz n p)(hn:n≤130)(hl:p.length≤13)(hF:p.length≤F+1):∀(f:Nat) (q:List Int),Dp p q→q.length≤f→∃a:List Int,Tr a∧q=Nr a (Zce F f q):=by
 intro f
 induction f with
 | zero=>intro q hq hlq;have:=List.length_pos_iff.2 hq.2.1;omega
 | succ f ih=>
  intro q hq hlq
  have hok:=(hq.ok hp h0 hs hn hl hF).2
  have hg:=hq.next hok
  have hok2:=(hg.ok hp h0 hs hn hl hF).2
  have hg2:=hg.next hok2
  unfold Zce
  by_cases c1:(sqf F q).length=1
  ·rw [if_pos c1]
   obtain⟨s1,s2,s3⟩:=Zdk hq.1 hq.2.1 hok c1
   refine⟨[1],.inr (show cf [1] 0≠0 by decide),hq.1.ext (Qv _ _) fun i=>Ny (fun x=>?_) i⟩
   rw [Yw,s1,nrm1 hq.1 hq.2.2.1 s2,Pv];push_cast;grind
  ·rw [if_neg c1]
   have lq:2≤q.length:=by
    obtain⟨f1,f2,f3,f4,f5,f6⟩:=Ou (F:=F) hq.1 hq.2.1 hok
    obtain⟨a1,a2,a3,a4,a5⟩:=Pa hq.1 hq.2.1 hok
    have l1:=List.length_pos_iff.2 f3
    have l2:=List.length_pos_iff.2 a2
    omega
   have lt1:=Zi0 hq.1 hq.2.1 hok lq
   obtain⟨a1,a2,a3,a4,a5⟩:=Pa hq.1 hq.2.1 hok
   obtain⟨b1,b2,b3,b4,b5⟩:=Pa hg.1 hg.2.1 hok2
   obtain⟨-,t2,t3,-,-,-⟩:=Ou (F:=F) hg.1 hg.2.1 hok2
   have lb:=List.length_pos_iff.2 t3
   obtain⟨A,hA,hB⟩:=ih _ hg2 (by omega)
   obtain⟨-,o2,o3,o4⟩:=Hz hq.1 hq.2.1 hok hok2
   rw [hq.2.2.1]at a4
   rw [a3]at b4
   refine⟨Nr (Nr (sqf F (gcf F q)) (sqf F (gcf F q))) A,Qv _ _,hq.1.ext (Qv _ _) fun i=>Ny (fun x=>?_) i⟩
   have e1:rev q x=rev (sqf F q) x*rev (gcf F q) x:=by rw [←Yw,←a4]
   have e2:rev (sqf F q) x=rev (Bk F q) x*rev (sqf F (gcf F q)) x:=by rw [←Yw,←o2]
   have e3:rev (gcf F q) x=rev (sqf F (gcf F q)) x*rev (gcf F (gcf F q)) x:=by rw [←Yw,←b4]
   have e4:rev (gcf F (gcf F q)) x=rev A x*rev (Zce F f (gcf F (gcf F q))) x:=by rw [←Yw,←hB]
   rw [Yw,Yw,Yw,Yw,e1,e2,e3,e4]
   show _=_*(rev (Bk F q) x*_)
   generalize rev (sqf F (gcf F q)) x=S
   grind
theorem RI.size{xs q:List Int}(h:Cvd xs)(h0:xs≠[])(hI:RI xs q){f:Nat}(hf:q.length≤f):Tr (rodd 13 f q)∧Sz 400 (rodd 13 f q)∧(rodd 13 f q).length≤7:=by
 have hl:=h.l
 have hD:=hI.d
 have e:rodd 13 f q=Zce 13 f (nrm q):=by
  rw [rodd_eq h.v.tr h0 h.s (by omega) (by omega) (by omega) f q hI.v.tr hI.ne hD]
  exact Zmn hD.2.2.1.symm f
 have hlq:=Pk hI.v.tr
 have hll:=hI.l
 obtain⟨A,hA,hB⟩:=Zvb h.v.tr h0 h.s (by omega) (by omega) (show xs.length≤13+1 by omega) f (nrm q) hD (by omega)
 obtain⟨d1,d2⟩:=Zei h h0 hD
 have hok0:=(hD.ok h.v.tr h0 h.s (by omega) (by omega) (show xs.length≤13+1 by omega)).2
 have ht:=Zj9 (F:=13) (p:=xs) (f:=f) hD.1 hD.2.1 hok0
 rw [e]
 have hK:kkR 24 13*(24+1)^13<2^130:=by decide +kernel
 have p0:Zce 13 f (nrm q)≠[]:=fun e2=>hD.2.1 (by rw [hB,e2,Cw])
 have a0:A≠[]:=fun e2=>hD.2.1 (by rw [hB,e2,Km])
 have hl2:=Pw hA ht a0 p0
 rw [←hB]at hl2
 have:=List.length_pos_iff.2 a0
 exact⟨ht,(Hu (L:=13) (R:=24) ht hA d1 hD.2.1 hD.1 (by omega) (by decide) hK (by rw [Dr];exact hB)).mono (by omega),by omega⟩
theorem sm_dec{r:RWL}(h:smR r=true)(hok:okP r=true):Cvd (dec r)∧Sz 32 (dec r)∧(dec r).length=r.length:=by
 obtain⟨h1,h2⟩:=smR_le h
 obtain⟨h3,h4⟩:=Znm hok
 have h5:=congrArg List.length h4
 rw [List.length_map]at h5
 have hs:Sz 32 (dec r):=Sz.of_mem fun c hc=>by
  have h6:=h2 (wr c) (by rw [h4];exact List.mem_map_of_mem hc)
  exact Zje 4 h6
 exact⟨⟨h3,hs.mono (by omega),by omega⟩,hs,h5.symm⟩
noncomputable def odR (r:RWL):List Int×Int:=if okP r=true then(if(dec r).length=0 then([],3)else(Ev (dec r),0))else([],2)
theorem Zr4{p:List Int}{a:R2}(ha:0<a.2):fat a.1 a.2 p<0↔rev p (qv a)<0:=by
  rw [show fat a.1 a.2 p=rsg (rev p (qv a))from Zhh ha p]
  rcases Pe (rev p (qv a))with⟨h5,h6⟩ | ⟨h5,h6⟩ | ⟨h5,h6⟩
  · rw [h6];constructor
    · intro h;exact absurd h (by decide)
    · intro h;grind
  · rw [h6];exact⟨fun _=>h5,fun _=>by decide⟩
  · rw [h6,h5];constructor
    · intro h;exact absurd h (by decide)
    · intro h;exact absurd h (by decide)
abbrev rqz (a:R2):RZ:=((decide (a.1<0),Qc a.1.natAbs),(decide (a.2<0),Qc a.2.natAbs))
theorem bl_b4{n:Nat}(h:(Qc n).size≤4):bl n≤32:=Zje 4 h
theorem e32_q{z:RZ}(hq:qOK z=true)(he:enR z=true):∃a:R2,E32 a∧z=rqz a:=by
 obtain⟨h1,h2,h3,h4⟩:=q_ok hq
 refine⟨(qx z,qy z),?_,h4⟩
 rw [h4]at he
 unfold enR at he
 rw [Bool.and_eq_true]at he
 exact⟨h3,bl_b4 (of_decide_eq_true he.1),bl_b4 (of_decide_eq_true he.2)⟩
theorem Fnd.fat{xs:List Int}{s t:Rat}{m:R2}(h:Fnd xs s t m):Go.Sky.fat m.1 m.2 xs<0:=(Zr4 h.lw.1).2 h.ng
abbrev PRw:=Int×RZ×RZ
abbrev P0r:PRw:=(0,Q0,Q0)
abbrev Aa (z:PRw):Value:= .agg #[.int .i64 z.1,.bool z.2.1.1.1,.string z.2.1.1.2,.bool z.2.1.2.1,.string z.2.1.2.2,.bool z.2.2.1.1,.string z.2.2.1.2,.bool z.2.2.2.1,.string z.2.2.2.2]
def Zu2(z:PTs):PRw:=(z.1,rqz z.2.1,rqz z.2.2)
def vpz(z:PRw):Prop:=(z.1=1∨z.1=2)∧qOK z.2.1=true∧qOK z.2.2=true
noncomputable def qxy (z:RZ):R2:=(qx z,qy z)
def fpz(z:PRw):Prop:=efit (qxy z.2.1)=true∧efit (qxy z.2.2)=true
theorem Zqn{z:RZ}(h:qOK z=true):z=rqz (qxy z):=(q_ok h).2.2.2
theorem Zsh{z:RZ}(h:qOK z=true)(hf:efit (qxy z)=true):Ef (qxy z):=by
 unfold efit at hf
 have:=of_decide_eq_true hf
 obtain⟨-,-,h3,-⟩:=q_ok h
 exact⟨h3,by omega,by omega⟩
theorem Zuk(u:Value)(ps:List PTs)(w:World)(h:(slp 9 Aa u (ps.map Zu2)).holds w):(slp 9 Zeh u ps).holds w:=by
 obtain⟨⟨a,c,h0,h1,h2,h3⟩,hb⟩:=h
 rw [List.length_map]at h0 h1
 refine⟨⟨a,c,h0,h1,h2,?_⟩,hb⟩
 rcases h3 with h3 | ⟨g,off,h3,h4⟩
 ·left;simpa using h3
 ·right
  refine⟨g,off,h3,fun i x hi j t hj=>?_⟩
  exact h4 i (Zu2 x) (by rw [List.getElem?_map,hi];rfl) j t hj
theorem Zvh{ls:List PRw}(hv:∀z∈ls,vpz z)(hf:∀z∈ls,fpz z):∃ps:List PTs,ls=ps.map Zu2∧ValP ps:=by
 refine⟨ls.map fun z=>(z.1,qxy z.2.1,qxy z.2.2),?_,fun z hz=>?_⟩
 ·rw [List.map_map]
  conv=>lhs;rw [←List.map_id ls]
  refine List.map_congr_left fun z hz=>?_
  obtain⟨-,v2,v3⟩:=hv z hz
  show z=(z.1,rqz (qxy z.2.1),rqz (qxy z.2.2))
  rw [←Zqn v2,←Zqn v3]
 ·obtain⟨y,hy,rfl⟩:=List.mem_map.1 hz
  obtain⟨v1,v2,v3⟩:=hv y hy
  obtain⟨f1,f2⟩:=hf y hy
  exact⟨v1,Zsh v2 f1,Zsh v3 f2⟩
def BadE(ls:List PRw)(e:Int):Prop:=(¬(ls.length≤200∧∀z∈ls,vpz z)→e=2)∧(¬(∀z∈ls,fpz z)→e≠0)
theorem Zhe{ls:List PRw}{P:PRw→Prop}{i:Nat}(hi:i=ls.length)(h:∀k,k<i→P (ls.getD k P0r)):∀z∈ls,P z:=fun z hz=>by
 subst hi
 obtain⟨k,hk,rfl⟩:=List.mem_iff_getElem.1 hz
 have:=h k hk
 rwa [List.getD_eq_getElem?_getD,List.getElem?_eq_getElem hk]at this
theorem Ztn{ls:List PRw}{i:Nat}{e:Int}(hi:i=ls.length)(hl:ls.length≤200)(hv:∀k,k<i→vpz (ls.getD k P0r))(he:e≠0):BadE ls e:=
 ⟨fun h=>absurd ⟨hl,Zhe hi hv⟩ h,fun _=>he⟩
theorem BadE.ne{ls:List PRw}{e:Int}(hb:¬((ls.length≤200∧∀z∈ls,vpz z)∧∀z∈ls,fpz z))(h:BadE ls e):e≠0:=by
 by_cases hv:ls.length≤200∧∀z∈ls,vpz z
 ·exact h.2 fun hf=>hb ⟨hv,hf⟩
 ·rw [h.1 hv];decide
theorem Zbi{ls:List PRw}{i:Nat}{fl:Bool}(h:fl=true∨∀k,k<i→fpz (ls.getD k P0r))(hf:fl=false)(h1:(!efit (qxy (ls.getD i P0r).2.1))=false):(!efit (qxy (ls.getD i P0r).2.2))=true∨∀k,k<i+1→fpz (ls.getD k P0r):=by
 cases e:efit (qxy (ls.getD i P0r).2.2)with
 | false=>exact .inl rfl
 | true=>
  refine .inr fun k hk=>?_
  rcases Nat.lt_succ_iff_lt_or_eq.1 hk with h9 | h9
  ·exact h.resolve_left (by rw [hf];decide) k h9
  ·subst h9;exact⟨Gz h1,e⟩
open Go.ChangeShapes Go.WideShapes Go.ChangeAt Go.RowKit Go.Joins Go.Deep
open Go.Proofs
variable {P:Program} {W:World} {H:Type} {enc:TypeId×Value→H}
theorem Zdy {base:Nat} {spare:Nat→Bool} {held:Bool} {fuel:Nat} {t e:TypeId} {g0 g1 f0 f1:Field} {cs:List Value} {x:DataW H×List MemPlace}
  (hg:P.underlying t=some (.struct #[g0,g1])) (ht:P.underlying e=some (.struct #[f0,f1])) (hC4:P.cellsOf t=4) (hC:P.cellsOf e=2) (hg0:g0.type=e) (hg1:g1.type=e) (hp0:g0.offset=0) (hp1:g1.offset=2)
  (hc0:P.cellsOf f0.type=1) (hc1:P.cellsOf f1.type=1) (h0:P.underlying f0.type=some .bool) (h1:P.underlying f1.type=some .string) (ho0:f0.offset=0) (ho1:f1.offset=1)
  (h:DataW.trod enc P W base spare held fuel t cs=some x):∃z:RZ,cs=[.bool z.1.1,.string z.1.2,.bool z.2.1,.string z.2.2]:=by
 obtain⟨y0,y1,n,hx,hl,e0,e1⟩:=trod_struct2 hg h
 rw [hg0,hp0,hC]at e0
 rw [hg1,hp1,hC]at e1
 obtain⟨b,s,hb,_⟩:=Fn ht hC ho0 ho1 hc0 hc1 h0 h1 e0
 obtain⟨c,u,hc,_⟩:=Fn ht hC ho0 ho1 hc0 hc1 h0 h1 e1
 refine⟨((b,s),(c,u)),?_⟩
 rw [hC4]at hl
 match cs,hl with
 | [a,b',c',d'],_=>simp_all
theorem Zom {base:Nat} {spare:Nat→Bool} {held:Bool} {fuel:Nat} {q t e:TypeId} {k0 k1 k2 g0 g1 f0 f1:Field} {cs:List Value} {x:DataW H×List MemPlace}
  (hq:P.underlying q=some (.struct #[k0,k1,k2])) (hC9:P.cellsOf q=9) (hk:P.underlying k0.type=some (.int .i64)) (hkc:P.cellsOf k0.type=1) (hk0:k0.offset=0) (hk1:k1.offset=1) (hk2:k2.offset=5) (ht1:k1.type=t) (ht2:k2.type=t)
  (hg:P.underlying t=some (.struct #[g0,g1])) (ht:P.underlying e=some (.struct #[f0,f1])) (hC4:P.cellsOf t=4) (hC:P.cellsOf e=2) (hg0:g0.type=e) (hg1:g1.type=e) (hp0:g0.offset=0) (hp1:g1.offset=2)
  (hc0:P.cellsOf f0.type=1) (hc1:P.cellsOf f1.type=1) (h0:P.underlying f0.type=some .bool) (h1:P.underlying f1.type=some .string) (ho0:f0.offset=0) (ho1:f1.offset=1)
  (h:DataW.trod enc P W base spare held fuel q cs=some x):∃z:PRw,cs=(Aa z).cells.toList:=by
 obtain⟨y0,y1,y2,n,hx,hl,e0,e1,e2⟩:=trod_struct3 hq h
 rw [hk0,hkc]at e0
 rw [hk1,ht1,hC4]at e1
 rw [hk2,ht2,hC4]at e2
 obtain⟨m,hm,_⟩:=DataW.trod_int hk e0
 obtain⟨z1,hz1⟩:=Zdy hg ht hC4 hC hg0 hg1 hp0 hp1 hc0 hc1 h0 h1 ho0 ho1 e1
 obtain⟨z2,hz2⟩:=Zdy hg ht hC4 hC hg0 hg1 hp0 hp1 hc0 hc1 h0 h1 ho0 ho1 e2
 refine⟨(m,z1,z2),?_⟩
 rw [hC9]at hl
 match cs,hl with
 | [a,b,c,d,e',f,g,h',i],_=>simp_all [Value.cells]
theorem Zoo {tt q t e:TypeId} {k0 k1 k2 g0 g1 f0 f1:Field} {v:Value} {d:DataW H} {p:List MemPlace} (hs:P.underlying tt=some (.slice q))
  (hq:P.underlying q=some (.struct #[k0,k1,k2])) (hC9:P.cellsOf q=9) (hk:P.underlying k0.type=some (.int .i64)) (hkc:P.cellsOf k0.type=1) (hk0:k0.offset=0) (hk1:k1.offset=1) (hk2:k2.offset=5) (ht1:k1.type=t) (ht2:k2.type=t)
  (hg:P.underlying t=some (.struct #[g0,g1])) (ht:P.underlying e=some (.struct #[f0,f1])) (hC4:P.cellsOf t=4) (hC:P.cellsOf e=2) (hg0:g0.type=e) (hg1:g1.type=e) (hp0:g0.offset=0) (hp1:g1.offset=2)
  (hc0:P.cellsOf f0.type=1) (hc1:P.cellsOf f1.type=1) (h0:P.underlying f0.type=some .bool) (h1:P.underlying f1.type=some .string) (ho0:f0.offset=0) (ho1:f1.offset=1)
  {r:Reach} {b0:Nat} (hv:Value.okWide P W r b0 tt v) (h:DataW.Trod enc P W 0 (fun _=>true) true tt v d p):∃ls:List PRw,(slp 9 Aa v ls).holds W:=by
 obtain⟨a0,len,cap,rfl⟩:=okWide_slice hs hv
 obtain⟨fuel,hf⟩:=h
 rcases open_slice hs hf with⟨hcs,_⟩ | ⟨a,len',cap',m,n,D,Pl,hcs,_,hl,hm,hmm,hx,hel⟩
 ·simp [Value.cells]at hcs
  obtain⟨rfl,rfl,rfl⟩:=hcs
  exact⟨[],Zac 9 Aa W⟩
 ·simp [Value.cells]at hcs
  obtain⟨rfl,rfl,rfl⟩:=hcs
  simp at hmm
  subst hmm
  obtain⟨xs,hxl,hxs⟩:=Ae (p:=fun i (z:PRw)=>W.cells? 0 (a.add (i*9)) 9=some (Aa z).cells.toList) len fun i hi=>by
   obtain⟨cs',h2,h3⟩:=hel i (by omega)
   rw [hC9]at h2
   obtain⟨z,rfl⟩:=Zom hq hC9 hk hkc hk0 hk1 hk2 ht1 ht2 hg ht hC4 hC hg0 hg1 hp0 hp1 hc0 hc1 h0 h1 ho0 ho1 h3
   exact⟨z,h2⟩
  refine⟨xs,⟨some a,m,by rw [hxl],by omega,hm,?_⟩,fun b hb=>?_⟩
  ·rcases Nat.eq_zero_or_pos len with hz | hz
   ·exact .inl (List.eq_nil_of_length_eq_zero (by omega))
   ·right
    obtain⟨g,off,spot⟩:=a
    obtain⟨hsp,_⟩:=Ba hs hv
    simp only at hsp
    subst hsp
    refine⟨g,off,rfl,fun i x hi j u hj=>?_⟩
    obtain⟨_,_,hc⟩:=World.cells?_some (hxs i x hi)
    have hj2:j<9:=by
     rcases Nat.lt_or_ge j 9 with h | h
     ·exact h
     ·rw [List.getElem?_eq_none (by simp [Value.cells];omega)]at hj;cases hj
    have:=hc j hj2
    simp only [Nw]at this
    rw [this]
    exact hj
  ·cases hb
   exact(Ba hs hv).2
end Go.Sky
namespace Go.Sky
open Go.Proofs.Tryz
open Go.Proofs
set_option maxRecDepth 20000
set_option maxHeartbeats 4000000
set_option linter.unusedSimpArgs false
theorem Zvm(v:Value)(xs:List Nat):Cal prog 127 #[v] [slp 1 It v xs] true (G:=Unit) (fun _=>True) (fun _=>Fl v (tz xs).length) (fun _=>[slp 1 It (Fl v (tz xs).length) (tz xs)]):=by
 refine Yd func127 J ntmps127 J K1 ?_
 intro w0 sc hw hsc
 simp only [Zq,Zp]
 refine Oe (Zr6 (i:=1) J Zi) fun hself=>Oe (Lu (i:=1) J Zi) fun hlen=>Zc<|Zg<|as_ J<|Zf<|Za<|Zc<|Zm<|Mm [] [(0,_)] (fun(k:Nat)=>[(0,Fl v k)]) (fun(k:Nat)=>[(1,slp 1 It (Fl v k) (xs.take k))]) (fun(k:Nat)=>(k≤xs.length)∧(tz (xs.take k)=tz xs)) (fun(k:Nat)=>k) xs.length ⟨Nat.le_refl _,by rw [List.take_length]⟩ ⟨by rw [hself];rfl,trivial⟩ ⟨by rw [hself,List.take_length];rfl,rfl,trivial⟩ ?_
 rintro k ⟨hk,ht⟩
 simp only [CA,NA]
 have hl:(xs.take k).length=k:=by rw [List.length_take];omega
 refine Zc<|Zc<|Zg<|mv J<|dt (Yc J J (i:=1) J Zi Xp)<|dt (Qr J J J)<|mv J<|Qp (d:=6) J (fun s21=>?_) (fun s21=>?_)
 ·refine gdt (Yf J J) J J<|gdt (Yf J J) J J<|gdt (Yc J J (i:=1) J Zi Xp) J J<|gdt (Qo J J J ⟨by omega,by omega⟩) J J<|gdt (Xf (ii:=1) (i:=k-1) J J J J Zi Xp Nx) J J<|gdt (Xx (ii:=1) 0 J J J Zi pU) J J<|gdt (Pg J J J) J J<|dt (Yi J J J)<|Zf<|Za<|Zr J (fun h21=>?_) (fun h21=>?_)
  ·have hstep:=Zph hk (by omega) (by omega:(xs.take k).getD (k-1) 0=0)
   exact Zj<|Za<|Zm<|Zg<|mv J<|mv J<|dt (Yc J J (i:=1) J Zi Xp)<|dt (Qo J J J ⟨by omega,by omega⟩)<|dt (Zwf (ii:=1) (i:=k-1) J J J J Zi Xp Nx)<|as_ J<|Zf<|Og<|Nq (s_pre 1 1 (k-1) J J)<|Xq (k-1) ⟨by first | omega | (dsimp only<;>omega),by rw [←ht,←hstep]⟩ (by first | omega | (dsimp only<;>omega)) ⟨by rw [←Ha v k (k-1)];rfl,trivial⟩ ⟨by rw [Ha,List.take_take,Nat.min_eq_left (by omega)];rfl,rfl,trivial⟩
  ·refine Yx<|Zu<|Zu<|Nc<|Za<|Zc<|Zg<|mv J<|as_ J<|Zf<|Za<|Zt ?_
   have hx:tz xs=xs.take k:=by rw [←ht];exact Zc9 hk (by omega)
   exact Yl (.inl J) hsc () _ (fun a w hs=>Np hs results127 J) (by rw [hx,hl]) trivial J (Yh 1 J J J (by rw [hx,hl]) Zk)
 ·refine gsk J J J<|gsk J J J<|gsk J J J<|gsk J J J<|gsk J J J<|gsk J J J<|gsk J J J<|dt (Zo J J J)<|Zf<|Za<|Zw J<|Yx<|Zu<|Zu<|Nc<|Za<|Zc<|Zg<|mv J<|as_ J<|Zf<|Za<|Zt ?_
  have hx:tz xs=xs.take k:=by rw [←ht];exact Zc9 hk (by omega)
  exact Yl (.inl J) hsc () _ (fun a w hs=>Np hs results127 J) (by rw [hx,hl]) trivial J (Yh 1 J J J (by rw [hx,hl]) Zk)
theorem Oa(v:Value)(xs:List Nat):Cal prog 127 #[v] [slp 1 It v xs] false (G:=Unit) (fun _=>True) (fun _=>Fl v (tz xs).length) (fun _=>[]):=(Zvm v xs).bare
theorem Zre(v w:Value)(x y:Nat)(hx:bl x≤4294967296)(hy:bl y≤4294967296):Cal prog 171 #[v,w] [dgp v x,dgp w y] false (G:=Value) (fun r=>True) (fun r=>r) (fun r=>[dgp r (x+y)]):=by
 refine Yd func171 J ntmps171 J K2 ?_
 intro w0 sc hw hsc
 simp only [Zq,Zp]
 have hX:=Ma x
 have hY:=Ma y
 refine Zc<|Zg<|as_ J<|Zf<|Za<|Dc [] [(0,_),(1,_),(2,_)] (fun(q:Value×Value×Nat×Nat)=>[(0,q.1),(1,q.2.1)]) (fun(q:Value×Value×Nat×Nat)=>[(91,dgp q.1 q.2.2.1),(92,dgp q.2.1 q.2.2.2)]) (fun(q:Value×Value×Nat×Nat)=>(q.2.2.1+q.2.2.2=x+y)∧((dg U q.2.2.2).length≤(dg U q.2.2.1).length)∧((dg U q.2.2.1).length≤1099511627776)) trivial K3 ?_ ?_
 ·refine Zc<|Zg<|mv J<|dt (Yc J J (i:=1) J Zi Xp)<|mv J<|dt (Yc J J (i:=2) J Zi Xp)<|dt (Qd J J J)<|Zf<|Za<|Zr J (fun h73=>?_) (fun h73=>?_)
  ·exact Zg<|mv J<|mv J<|as_ J<|as_ J<|Zf<|Nq (Kt 2 91 J J J)<|Nq (Kt 1 92 J J J)<|Qz (w,v,y,x) ⟨by first | omega | (dsimp only<;>omega),by first | omega | (dsimp only<;>omega),by first | omega | (dsimp only<;>omega)⟩ K2 K5
  ·exact Zj<|Nq (Kt 1 91 J J J)<|Nq (Kt 2 92 J J J)<|Qz (v,w,x,y) ⟨by first | omega | (dsimp only<;>omega),by first | omega | (dsimp only<;>omega),by first | omega | (dsimp only<;>omega)⟩ K2 K5
 ·rintro⟨va,vb,a,b⟩ ⟨hs,hl,hla⟩
  dsimp only at hs hl hla
  simp only [CA,NA]
  refine Zc<|Zg<|mv J<|dt (Yc J J (i:=91) J Zi Xp)<|dt (Yu J J J ⟨by omega,by omega⟩)<|tt (Di (i:=3) (n:=(dg U a).length+1) (by_:=8) (enc:=It) 0 J J J J Xp ti149 J pU.cells pU.pos J J J hw) J fun v _=>as_ J<|Zf<|Za<|Zc<|Zg<|as_ J<|Zf<|Za<|Zc<|Zc<|Zg<|mv J<|dt (Yc J J (i:=91) J Zi Xp)<|mv J<|Zf<|Za<|Zm<|Mm [(0,_),(1,_),(5,_),(21,_)] [(0,_),(91,_),(92,_),(1,_),(2,_)] (fun(q:Nat×List Nat×Nat)=>[(22,.int .i64 (q.1:Int)),(6,.int .u64 (q.2.2:Int))]) (fun(q:Nat×List Nat×Nat)=>[(3,osl 1 149 It v q.2.1)]) (fun(q:Nat×List Nat×Nat)=>(q.1≤(dg U a).length)∧(q.2.1.length=(dg U a).length+1)∧(∀d∈q.2.1,d<U)∧(q.2.2≤1)∧(val U (q.2.1.take q.1)+q.2.2*U^q.1=val U ((dg U a).take q.1)+val U ((dg U b).take q.1))) (fun(q:Nat×List Nat×Nat)=>(dg U a).length-q.1) (0,List.replicate ((dg U a).length+1) 0,0) ⟨by first | omega | (dsimp only<;>omega),by simp,Nb _ Pb,by first | omega | (dsimp only<;>omega),by simp [val]⟩ K6 K6 ?_
  rintro⟨k,o,c⟩ ⟨hk,hol,hoa,hc,hv⟩
  dsimp only at hk hol hoa hc hv
  simp only [CA,NA]
  refine Zc<|Zg<|dt (Qd J J J)<|Zf<|Za<|Zc<|Zr J (fun h78=>?_) (fun h78=>?_)
  ·refine Zj<|Za<|Zc<|Zm<|Zc<|Zg<|mv J<|as_ J<|Zf<|Za<|Zc<|Zg<|as_ J<|Zf<|Za<|Dc [(0,_),(1,_),(5,_),(6,_),(7,_),(21,_),(22,_)] [(0,_),(3,_),(91,_),(92,_),(1,_),(2,_)] (fun(_:Unit)=>[(8,.int .u64 ((dg U b).getD k 0:Int))]) (fun(_:Unit)=>[]) (fun(_:Unit)=>True) K7 K6 ?_ ?_
   ·refine Zc<|Zg<|mv J<|mv J<|dt (Yc J J (i:=92) J Zi Xp)<|dt (Qd J J J)<|Zf<|Za<|Zr J (fun h80=>?_) (fun h80=>?_)
    ·refine Zg<|mv J<|mv J<|dt (Xf (ii:=92) J J J J Zi Xp Nx J (by first | omega | (simp only [List.length_set];omega)))<|dt (Xx (ii:=92) 0 J J J Zi pU (by first | omega | (simp only [List.length_set];omega)))<|as_ J<|Zf ?_
     try (have hz:(dg U b).getD k 0=0:=by simp [List.getD,List.getElem?_eq_none (by omega:(dg U b).length≤k)])
     exact Qz () trivial ⟨by first | rfl | (rw [hz];rfl),rfl,rfl,rfl,rfl,rfl,rfl,rfl,trivial⟩ K6
    ·refine Zj ?_
     try (have hz:(dg U b).getD k 0=0:=by simp [List.getD,List.getElem?_eq_none (by omega:(dg U b).length≤k)])
     exact Qz () trivial ⟨by first | rfl | (rw [hz];rfl),rfl,rfl,rfl,rfl,rfl,rfl,rfl,trivial⟩ K6
   ·rintro _ -
    simp only [CA,NA]
    exact Zg<|mv J<|mv J<|mv J<|mv J<|dt (Xf (ii:=91) J J J J Zi Xp Nx J (by first | omega | (simp only [List.length_set];omega)))<|dt (Xx (ii:=91) 0 J J J Zi pU (by first | omega | (simp only [List.length_set];omega)))<|mv J<|mv J<|dt (Zlb J J J J (by omega) Zew)<|mv J<|dt (Ya J J J)<|dt (Ya J J J)<|dt (Xf (ii:=3) J J J J (Yk pU) Xp Nx J (by first | omega | (simp only [List.length_set];omega)))<|tt (Ih (i:=3) (enc:=It) _ J J J J J J pU J hw (by decide) (by first | omega | (simp only [List.length_set];omega))) J fun _ _=>as_ J<|Zf<|Og<|Za<|Zg<|dt (Yu J J J ⟨by omega,by omega⟩)<|mv J<|Zf<|Xq (k+1,_,_) ⟨by first | omega | (dsimp only<;>omega),by simp;omega,Ln hoa _ _ (Nat.mod_lt _ Pb),by have h1:=Qj Pb (Lh Qt a) k;have h2:=Qj Pb (Lh Qt b) k;simp only [U]at *;omega,Zwq hv (by omega)⟩ (by first | omega | (dsimp only<;>omega)) K6 K6
  ·refine Yx<|Zu<|Zu<|Nc<|Za<|Zc ?_
   obtain rfl:k=(dg U a).length:=by omega
   refine Zg<|mv J<|mv J<|dt (Yc J J (i:=91) J Zi Xp)<|mv J<|dt (Xf (ii:=3) J J J J (Yk pU) Xp Nx J (by first | omega | (simp only [List.length_set];omega)))<|tt (Ih (i:=3) (enc:=It) _ J J J J J J pU J hw (by decide) (by first | omega | (simp only [List.length_set];omega))) J fun _ _=>Zf<|Za<|Zc<|Zg<|mv J<|tt (Zh (n:=3) (Oa _ _) J J J K1 call127 (Xw 3 J J pU Ze) J hw) J fun _ _=>Px (Zhx 3 J J pU)<|as_ J<|Zf<|Za<|Zt ?_
   have hx:tz (o.set (dg U a).length c)=dg U (x+y):=by
    rw [←Ky Qt _ (Ln hoa _ _ (by simp only [U];omega)),←hs]
    congr 1
    conv=>rhs;rw [←Mw Qt a,←Mw Qt b]
    rw [List.take_of_length_le (Nat.le_refl (dg U a).length),Nd U (dg U b) _ hl]at hv
    rw [←hv,←Gl U o _ c (by omega),Nd _ _ _ (by simp;omega)]
   exact Yl (.inl J) hsc _ _ (fun a w hs=>Np hs results171 J) J trivial J (Pq 3 J J pU hx Zk)
theorem Zd8(v w:Value)(x y:Nat)(hx:bl x≤4294967296)(hxy:y≤x:=by omega):Cal prog 173 #[v,w] [dgp v x,dgp w y] false (G:=Value) (fun r=>True) (fun r=>r) (fun r=>[dgp r (x-y)]):=by
 refine Yd func173 J ntmps173 J K2 ?_
 intro w0 sc hw hsc
 simp only [Zq,Zp]
 have hX:=Ma x
 have hY:=Ma y
 have hm:=Nu hxy
 refine Zc<|Zg<|as_ J<|Zf<|Za<|Zc<|Zg<|mv J<|dt (Yc J J (i:=1) J Zi Xp)<|tt (Di (i:=3) (n:=(dg U x).length) (by_:=8) (enc:=It) 0 J J J J Xp ti149 J pU.cells pU.pos J J J hw) J fun v _=>as_ J<|Zf<|Za<|Zc<|Zg<|as_ J<|Zf<|Za<|Zc<|Zc<|Zg<|mv J<|dt (Yc J J (i:=1) J Zi Xp)<|mv J<|Zf<|Za<|Zm<|Mm [(0,_),(1,_),(5,_),(13,_)] [(0,_),(1,_),(2,_)] (fun(q:Nat×List Nat×Nat)=>[(14,.int .i64 (q.1:Int)),(6,.int .u64 (q.2.2:Int))]) (fun(q:Nat×List Nat×Nat)=>[(3,osl 1 149 It v q.2.1)]) (fun(q:Nat×List Nat×Nat)=>(q.1≤(dg U x).length)∧(q.2.1.length=(dg U x).length)∧(∀d∈q.2.1,d<U)∧(q.2.2≤1)∧(val U (q.2.1.take q.1)+val U ((dg U y).take q.1)=val U ((dg U x).take q.1)+q.2.2*U^q.1)) (fun(q:Nat×List Nat×Nat)=>(dg U x).length-q.1) (0,List.replicate ((dg U x).length) 0,0) ⟨by first | omega | (dsimp only<;>omega),by simp,Nb _ Pb,by first | omega | (dsimp only<;>omega),by simp [val]⟩ K6 K4 ?_
 rintro⟨k,o,c⟩ ⟨hk,hol,hoa,hc,hv⟩
 dsimp only at hk hol hoa hc hv
 simp only [CA,NA]
 refine Zc<|Zg<|dt (Qd J J J)<|Zf<|Za<|Zc<|Zr J (fun h93=>?_) (fun h93=>?_)
 ·refine Zj<|Za<|Zc<|Zm<|Zc<|Zg<|mv J<|as_ J<|Zf<|Za<|Zc<|Zg<|as_ J<|Zf<|Za<|Dc [(0,_),(1,_),(5,_),(6,_),(7,_),(13,_),(14,_)] [(0,_),(3,_),(1,_),(2,_)] (fun(_:Unit)=>[(8,.int .u64 ((dg U y).getD k 0:Int))]) (fun(_:Unit)=>[]) (fun(_:Unit)=>True) K7 K4 ?_ ?_
  ·refine Zc<|Zg<|mv J<|mv J<|dt (Yc J J (i:=2) J Zi Xp)<|dt (Qd J J J)<|Zf<|Za<|Zr J (fun h95=>?_) (fun h95=>?_)
   ·refine Zg<|mv J<|mv J<|dt (Xf (ii:=2) J J J J Zi Xp Nx J (by first | omega | (simp only [List.length_set];omega)))<|dt (Xx (ii:=2) 0 J J J Zi pU (by first | omega | (simp only [List.length_set];omega)))<|as_ J<|Zf ?_
    try (have hz:(dg U y).getD k 0=0:=by simp [List.getD,List.getElem?_eq_none (by omega:(dg U y).length≤k)])
    exact Qz () trivial ⟨by first | rfl | (rw [hz];rfl),rfl,rfl,rfl,rfl,rfl,rfl,rfl,trivial⟩ K4
   ·refine Zj ?_
    try (have hz:(dg U y).getD k 0=0:=by simp [List.getD,List.getElem?_eq_none (by omega:(dg U y).length≤k)])
    exact Qz () trivial ⟨by first | rfl | (rw [hz];rfl),rfl,rfl,rfl,rfl,rfl,rfl,rfl,trivial⟩ K4
  ·rintro _ -
   simp only [CA,NA]
   exact Zg<|mv J<|mv J<|mv J<|mv J<|dt (Xf (ii:=1) J J J J Zi Xp Nx J (by first | omega | (simp only [List.length_set];omega)))<|dt (Xx (ii:=1) 0 J J J Zi pU (by first | omega | (simp only [List.length_set];omega)))<|mv J<|mv J<|dt (d_sub64 J J J J (by omega) Zpp)<|mv J<|dt (Ya J J J)<|dt (Ya J J J)<|dt (Xf (ii:=3) J J J J (Yk pU) Xp Nx J (by first | omega | (simp only [List.length_set];omega)))<|tt (Ih (i:=3) (enc:=It) _ J J J J J J pU J hw (by decide) (by first | omega | (simp only [List.length_set];omega))) J fun _ _=>as_ J<|Zf<|Og<|Za<|Zg<|dt (Yu J J J ⟨by omega,by omega⟩)<|mv J<|Zf<|Xq (k+1,_,_) ⟨by first | omega | (dsimp only<;>omega),by simp;omega,Ln hoa _ _ (Nat.mod_lt _ Pb),brw_le _ _ _,Zud hc (Qj Pb (Lh Qt x) k) (Qj Pb (Lh Qt y) k) hv (by omega)⟩ (by first | omega | (dsimp only<;>omega)) K6 K4
 ·refine Yx<|Zu<|Zu<|Nc<|Za<|Zc<|Zg<|mv J<|tt (Zh (n:=3) (Oa _ _) J J J K1 call127 (Xw 3 J J pU Ze) J hw) J fun _ _=>Px (Zhx 3 J J pU)<|as_ J<|Zf<|Za<|Zt ?_
  obtain rfl:k=(dg U x).length:=by omega
  have hx:tz o=dg U (x-y):=by
   rw [←Ky Qt _ hoa]
   congr 1
   have hly:(dg U y).length≤(dg U x).length:=by omega
   rw [Nd U o _ (by omega),Nd U (dg U y) _ hly,Nd U (dg U x) _ (Nat.le_refl _),Mw Qt,Mw Qt]at hv
   have h1:=Zfd Pb o hoa
   rw [hol]at h1
   have h0:c=0∨c=1:=by omega
   rcases h0 with rfl | rfl<;>omega
  exact Yl (.inl J) hsc _ _ (fun a w hs=>Np hs results173 J) J trivial J (Pq 3 J J pU hx Zk)
theorem Bu(v w:Value)(x y:Nat)(hx:bl x≤4294967296)(hy:bl y≤4294967296):Cal prog 172 #[v,w] [dgp v x,dgp w y] false (G:=Int) (fun r=>(r<0↔x<y)∧(0<r↔y<x)) (fun r=> .int .i64 r) (fun r=>[]):=by
 refine Yd func172 J ntmps172 J K2 ?_
 intro w0 sc hw hsc
 simp only [Zq,Zp]
 have hX:=Ma x
 have hY:=Ma y
 refine Zc<|Zg<|as_ J<|Zf<|Za<|Zc<|Zc<|Zg<|mv J<|dt (Yc J J (i:=1) J Zi Xp)<|mv J<|dt (Yc J J (i:=2) J Zi Xp)<|dt (Xo J J J)<|Zf<|Za<|Zr J (fun h57=>?_) (fun h57=>?_)
 ·exact Zc<|Zg<|mv J<|dt (Yc J J (i:=1) J Zi Xp)<|mv J<|dt (Yc J J (i:=2) J Zi Xp)<|dt (Qo J J J ⟨by omega,by omega⟩)<|as_ J<|Zf<|Za<|Zt<|Ys<|Yl (.inl J) hsc _ _ (fun a w hs=>Np hs results172 J) J ⟨⟨fun h=>Ce Qt (by omega),fun h=>by have:=Nu (Nat.le_of_lt h);omega⟩,⟨fun h=>Ce Qt (by omega),fun h=>by have:=Nu (Nat.le_of_lt h);omega⟩⟩ J Zk
 ·have hlen:(dg U x).length=(dg U y).length:=by omega
  refine Zj<|Za<|Zc<|Zc<|Zg<|mv J<|dt (Yc J J (i:=1) J Zi Xp)<|dt (Qo J J J ⟨by omega,by omega⟩)<|as_ J<|Zf<|Za<|Zm<|Mm [(0,_),(1,_)] [(0,_),(1,_),(2,_)] (fun(k:Nat)=>[(5,.int .i64 ((k:Int)-1))]) (fun(k:Nat)=>[]) (fun(k:Nat)=>(k≤(dg U x).length)∧((dg U x).drop k=(dg U y).drop k)) (fun(k:Nat)=>k) (dg U x).length ⟨by first | omega | (dsimp only<;>omega),by rw [List.drop_length,hlen,List.drop_length]⟩ K3 K3 ?_
  rintro k ⟨hk,hd⟩
  simp only [CA,NA]
  refine Zc<|Zc<|Zg<|mv J<|dt (Kj J J J)<|Zf<|Za<|Zr J (fun h60=>?_) (fun h60=>?_)
  ·refine Zj<|Za<|Zc<|Zm<|Zm<|Zc<|Qf (fun _=>False) [(0,0),(1,0),(2,0),(3,0),(4,0),(5,0),(6,0),(7,0),(8,0),(9,0)] ?_ ?_
   ·kernel_rfl
   refine r0' J J (st0 (Yf J J))<|r0' J J (st0 (Yf J J))<|r0' J J (st0 (Xf (ii:=1) (i:=k-1) J J J J Zi Xp Nx))<|r0' J J (st0 (Xx (ii:=1) 0 J J J Zi pU (by first | omega | (simp only [List.length_set];omega))))<|r0' J J (st0 (Yf J J))<|r0' J J (st0 (Yf J J))<|r0' J J (st0 (Xf (ii:=2) (i:=k-1) J J J J Zi Xp Nx))<|r0' J J (st0 (Xx (ii:=2) 0 J J J Zi pU (by first | omega | (simp only [List.length_set];omega))))<|r0' J J (st0 (Qd J J J))<|r0' J J (st0 (Ot J J))<|Py<|Za<|Zr J (fun h62=>?_) (fun h62=>?_)
   ·refine Zc<|Zg<|as_ J<|Zf<|Za<|Zt<|Lx<|Lx<|Ys<|Ys<|Lx<|Ys ?_
    have hlt:=Znp Pb (xs:=dg U x) (ys:=dg U y) (Lh Qt x) (k:=k-1) (by omega) (by omega) (by rw [show k-1+1=k by omega];exact hd) (by omega)
    rw [Mw Qt,Mw Qt]at hlt
    exact Yl (.inl J) hsc (-1) _ (fun a w hs=>Np hs results172 J) J (by omega) J Zk
   ·refine Zc<|Qf (fun _=>False) [(0,0),(1,0),(2,0),(3,0),(4,0),(5,0),(6,0),(7,0),(8,0),(9,0)] ?_ ?_
    ·kernel_rfl
    refine r0' J J (st0 (Yf J J))<|r0' J J (st0 (Yf J J))<|r0' J J (st0 (Xf (ii:=1) (i:=k-1) J J J J Zi Xp Nx))<|r0' J J (st0 (Xx (ii:=1) 0 J J J Zi pU (by first | omega | (simp only [List.length_set];omega))))<|r0' J J (st0 (Yf J J))<|r0' J J (st0 (Yf J J))<|r0' J J (st0 (Xf (ii:=2) (i:=k-1) J J J J Zi Xp Nx))<|r0' J J (st0 (Xx (ii:=2) 0 J J J Zi pU (by first | omega | (simp only [List.length_set];omega))))<|r0' J J (st0 (Qr J J J))<|r0' J J (st0 (Ot J J))<|Py<|Za<|Zr J (fun h64=>?_) (fun h64=>?_)
    ·refine Zc<|Zg<|as_ J<|Zf<|Za<|Zt<|Lx<|Lx<|Ys<|Ys<|Lx<|Ys ?_
     have hlt:=Znp Pb (xs:=dg U y) (ys:=dg U x) (Lh Qt y) (k:=k-1) (by omega) (by omega) (by rw [show k-1+1=k by omega];exact hd.symm) (by omega)
     rw [Mw Qt,Mw Qt]at hlt
     exact Yl (.inl J) hsc 1 _ (fun a w hs=>Np hs results172 J) J (by omega) J Zk
    ·exact Zj<|Og<|Og<|Za<|Zg<|mv J<|dt (Qo J J J ⟨by omega,by omega⟩)<|as_ J<|Zf<|Xq (k-1) ⟨by first | omega | (dsimp only<;>omega),by have:=Zb7 (xs:=dg U x) (ys:=dg U y) (k:=k-1) (by omega) (by omega) (by rw [show k-1+1=k by omega];exact hd) (by omega);exact this⟩ (by first | omega | (dsimp only<;>omega)) ⟨by rw [show(((k-1:Nat):Int)-1)=(k:Int)-1-1 by omega];rfl,rfl,rfl,trivial⟩ K3
  ·refine Yx<|Zu<|Zu<|Nc<|Za<|Zc<|Zg<|as_ J<|Zf<|Za<|Zt ?_
   obtain rfl:k=0:=by omega
   have heq:x=y:=(Zek Qt).1 (by simpa using hd)
   exact Yl (.inl J) hsc 0 _ (fun a w hs=>Np hs results172 J) J (by omega) J Zk
theorem Zwn(x y:Nat)(hx:x<U)(hy:y<U):Mv prog 199 #[.int .u64 (x:Int),.int .u64 (y:Int)] [] (.tuple #[.int .u64 ((x*y/U:Nat):Int),.int .u64 ((x*y%U:Nat):Int)]):=by
 refine Yd func199 J ntmps199 J trivial ?_
 intro w0 sc hw hsc
 simp only [Zq,Zp]
 simp only [U]at hx hy
 exact Zc<|Zg<|as_ J<|as_ J<|Zf<|Za<|Zc<|Zg<|mv J<|dt (Zpg J J J hx)<|as_ J<|Zf<|Za<|Zc<|Zg<|mv J<|dt (Gm (n:=32) (n':=4294967296) J J J J J)<|as_ J<|Zf<|Za<|Zc<|Zg<|mv J<|dt (Zpg J J J hy)<|as_ J<|Zf<|Za<|Zc<|Zg<|mv J<|dt (Gm (n:=32) (n':=4294967296) J J J J J)<|as_ J<|Zf<|Za<|Zc<|Zg<|mv J<|mv J<|dt (Bj J J J)<|as_ J<|Zf<|Za<|Zc<|Zg<|mv J<|mv J<|dt (Bj J J J)<|mv J<|dt (Gm (n:=32) (n':=4294967296) J J J J J)<|dt (Br J J J)<|as_ J<|Zf<|Za<|Zc<|Zg<|mv J<|dt (Zpg J J J (Nat.mod_lt _ Pb))<|as_ J<|Zf<|Za<|Zc<|Zg<|mv J<|dt (Gm (n:=32) (n':=4294967296) J J J J J)<|as_ J<|Zf<|Za<|Zc<|Zg<|mv J<|mv J<|mv J<|dt (Bj J J J)<|dt (Br J J J)<|as_ J<|Zf<|Za<|Zc<|Zg<|mv J<|mv J<|dt (Bj J J J)<|mv J<|dt (Br J J J)<|mv J<|dt (Gm (n:=32) (n':=4294967296) J J J J J)<|dt (Br J J J)<|as_ J<|Zf<|Za<|Zc<|Zg<|mv J<|mv J<|dt (Bj J J J)<|as_ J<|Zf<|Za<|Zt<|Yl (.inl J) hsc () _ (fun a w hs=>Ns hs results199 J J) (by rw [Zvo hx hy _ _ rfl rfl]) trivial J Zk
theorem Zrc(v w:Value)(x y:Nat)(hx:bl x≤4294967296)(hy:bl y≤4294967296):Cal prog 194 #[v,w] [dgp v x,dgp w y] false (G:=Value) (fun r=>True) (fun r=>r) (fun r=>[dgp r (x*y)]):=by
 refine Yd func194 J ntmps194 J K2 ?_
 intro w0 sc hw hsc
 simp only [Zq,Zp]
 have hX:=Ma x
 have hY:=Ma y
 refine Zc<|Zg<|as_ J<|Zf<|Za<|Zc<|Zg<|mv J<|dt (Yc J J (i:=1) J Zi Xp)<|mv J<|dt (Yc J J (i:=2) J Zi Xp)<|dt (Yu J J J ⟨by omega,by omega⟩)<|tt (Di (i:=3) (n:=(dg U x).length+(dg U y).length) (by_:=8) (enc:=It) 0 J J J J Xp ti149 J pU.cells pU.pos J J J hw) J fun v _=>as_ J<|Zf<|Za<|Zc<|Zc<|Zg<|mv J<|dt (Yc J J (i:=1) J Zi Xp)<|mv J<|Zf<|Za<|Zm<|Mm [(1,_),(5,_),(20,_),(21,_)] [(0,_),(1,_),(2,_)] (fun(q:Nat×List Nat)=>[(22,.int .i64 (q.1:Int))]) (fun(q:Nat×List Nat)=>[(3,osl 1 149 It v q.2)]) (fun(q:Nat×List Nat)=>(q.1≤(dg U x).length)∧(q.2.length=(dg U x).length+(dg U y).length)∧(∀d∈q.2,d<U)∧(∀j,q.1+(dg U y).length≤j→q.2.getD j 0=0)∧(val U (q.2.take (q.1+(dg U y).length))=val U ((dg U x).take q.1)*y)) (fun(q:Nat×List Nat)=>(dg U x).length-q.1) (0,List.replicate ((dg U x).length+(dg U y).length) 0) ⟨by first | omega | (dsimp only<;>omega),by simp,Nb _ Pb,fun j _=>Lz _ j,by simp [val,List.take_replicate,Kv]⟩ K5 K4 ?_
 rintro⟨i,o⟩ ⟨hi,hol,hoa,hz,hv⟩
 dsimp only at hi hol hoa hz hv
 simp only [CA,NA]
 refine Zc<|Zg<|dt (Qd J J J)<|Zf<|Za<|Zc<|Zr J (fun h106=>?_) (fun h106=>?_)
 ·refine Zj<|Za<|Zc<|Zm<|Zc<|Zg<|mv J<|dt (Xf (ii:=1) J J J J Zi Xp Nx J (by first | omega | (simp only [List.length_set];omega)))<|dt (Xx (ii:=1) 0 J J J Zi pU (by first | omega | (simp only [List.length_set];omega)))<|as_ J<|as_ J<|Zf<|Za<|Zc<|Zg<|as_ J<|Zf<|Za<|Zc<|Zc<|Zg<|mv J<|dt (Yc J J (i:=2) J Zi Xp)<|mv J<|Zf<|Za<|Zm<|Mm [(1,_),(5,_),(6,_),(7,_),(20,_),(21,_),(22,_),(27,_),(28,_)] [(0,_),(1,_),(2,_)] (fun(q:Nat×List Nat×Nat)=>[(29,.int .i64 (q.1:Int)),(8,.int .u64 (q.2.2:Int))]) (fun(q:Nat×List Nat×Nat)=>[(3,osl 1 149 It v q.2.1)]) (fun(q:Nat×List Nat×Nat)=>(q.1≤(dg U y).length)∧(q.2.1.length=(dg U x).length+(dg U y).length)∧(∀d∈q.2.1,d<U)∧(∀j,i+(dg U y).length≤j→q.2.1.getD j 0=0)∧(q.2.2<U)∧(val U (q.2.1.take (i+(dg U y).length))+q.2.2*U^(i+q.1)=val U ((dg U x).take i)*y+(dg U x).getD i 0*U^i*val U ((dg U y).take q.1))) (fun(q:Nat×List Nat×Nat)=>(dg U y).length-q.1) (0,o,0) ⟨by first | omega | (dsimp only<;>omega),hol,hoa,hz,Pb,by rw [hv];simp [val]⟩ K11 K4 ?_
  rintro⟨k,p,c⟩ ⟨hk,hpl,hpa,hpz,hcU,hpv⟩
  dsimp only at hk hpl hpa hpz hcU hpv
  simp only [CA,NA]
  have hdig:=Zrg (Qj Pb (Lh Qt x) i) (Qj Pb (Lh Qt y) k) (Qj Pb hpa (i+k)) hcU
  refine Zc<|Zg<|dt (Qd J J J)<|Zf<|Za<|Zc<|Zr J (fun h108=>?_) (fun h108=>?_)
  ·refine Zj<|Za<|Zc<|Zm<|Zc<|Zg<|mv J<|dt (Xf (ii:=2) J J J J Zi Xp Nx J (by first | omega | (simp only [List.length_set];omega)))<|dt (Xx (ii:=2) 0 J J J Zi pU (by first | omega | (simp only [List.length_set];omega)))<|as_ J<|as_ J<|Zf<|Za<|Zc<|Zg<|mv J<|mv J<|tt (Zh (n:=3) (Zwn _ _ (Qj Pb (Lh Qt _) _) (Qj Pb (Lh Qt _) _)) J J J K2 call199 Ze J hw) J fun _ _=>mv J<|dt (Ya J J J)<|dt (Ya J J J)<|as_ J<|as_ J<|Zf<|Za<|Zc<|Zg<|mv J<|mv J<|mv J<|mv J<|dt (Yu J J J ⟨by omega,by omega⟩)<|dt (Xf (ii:=3) (i:=i+k) J J J J (Yk pU) Xp Nx)<|dt (Xx (ii:=3) 0 J J J (Yk pU) pU (by first | omega | (simp only [List.length_set];omega)))<|dt (Zlb (c:=0) J J J J (by omega) Zew)<|mv J<|dt (Ya J J J)<|dt (Ya J J J)<|as_ J<|as_ J<|Zf<|Za<|Zc<|Zg<|mv J<|mv J<|dt (Br J J J)<|as_ J<|Zf<|Za<|Zc<|Zg<|mv J<|mv J<|dt (Zlb (c:=0) J J J J (by omega) Zew)<|mv J<|dt (Ya J J J)<|dt (Ya J J J)<|as_ J<|as_ J<|Zf<|Za<|Zg<|mv J<|mv J<|mv J<|dt (Yu J J J ⟨by omega,by omega⟩)<|mv J<|mv J<|mv J<|dt (Br J J J)<|dt (Xf (ii:=3) (i:=i+k) J J J J (Yk pU) Xp Nx) ?_
   exact tt (Ih (i:=3) (enc:=It) _ J J J J J J pU J hw (by decide) (by first | omega | (simp only [List.length_set];omega))) J fun _ _=>as_ J<|Zf<|Og<|Za<|Zg<|dt (Yu J J J ⟨by omega,by omega⟩)<|mv J<|Zf<|Xq (k+1,_,_) ⟨by first | omega | (dsimp only<;>omega),by simp;omega,Ln hpa _ _ (Nat.mod_lt _ Pb),fun j hj=>by rw [Na _ _ _ _ _ (by omega),if_neg (by omega)];exact hpz j hj,hdig.2,Zvn hpv (by omega) (by omega) hdig.1⟩ (by first | omega | (dsimp only<;>omega)) K11 K4
  ·refine Yx<|Zu<|Zu<|Nc<|Za ?_
   obtain rfl:k=(dg U y).length:=by omega
   have hfin:=hpv
   rw [List.take_of_length_le (Nat.le_refl (dg U y).length),Mw Qt]at hfin
   exact Zg<|mv J<|mv J<|mv J<|dt (Yc J J (i:=2) J Zi Xp)<|dt (Yu J J J ⟨by omega,by omega⟩)<|mv J<|dt (Xf (ii:=3) (i:=i+(dg U y).length) J J J J (Yk pU) Xp Nx)<|tt (Ih (i:=3) (enc:=It) _ J J J J J J pU J hw (by decide) (by first | omega | (simp only [List.length_set];omega))) J fun _ _=>Zf<|Og<|Za<|Zg<|dt (Yu J J J ⟨by omega,by omega⟩)<|mv J<|Zf<|Xq (i+1,_) ⟨by first | omega | (dsimp only<;>omega),by simp;omega,Ln hpa _ _ hcU,fun j hj=>by rw [Na _ _ _ _ _ (by omega),if_neg (by omega)];exact hpz j (by omega),by dsimp only;rw [show i+1+(dg U y).length=i+(dg U y).length+1 by omega,Gl _ _ _ _ (by omega),Qk,Nat.add_mul,←hfin]⟩ (by first | omega | (dsimp only<;>omega)) K5 K4
 ·refine Yx<|Zu<|Zu<|Nc<|Za<|Zc<|Zg<|mv J<|tt (Zh (n:=3) (Oa _ _) J J J K1 call127 (Xw 3 J J pU Ze) J hw) J fun _ _=>Px (Zhx 3 J J pU)<|as_ J<|Zf<|Za<|Zt ?_
  obtain rfl:i=(dg U x).length:=by omega
  have hx:tz o=dg U (x*y):=by
   rw [←Ky Qt _ hoa]
   congr 1
   rw [Nd U o _ (by omega),List.take_of_length_le (Nat.le_refl _),Mw Qt]at hv
   exact hv
  exact Yl (.inl J) hsc _ _ (fun a w hs=>Np hs results194 J) J trivial J (Pq 3 J J pU hx Zk)
set_option maxHeartbeats 1000000 in
theorem Zwo(x:Nat)(hx:x<U):Mv prog 198 #[.int .u64 (x:Int)] [] (.int .i64 (bl x:Int)):=by
 refine Yd func198 J ntmps198 J trivial ?_
 intro w0 sc hw hsc
 simp only [Zq,Zp]
 simp only [U]at hx
 have e32:=Kr x 32
 have e16:=Kr x 16
 have e8:=Kr x 8
 have e24:=Kr x 24
 have e40:=Kr x 40
 have e48:=Kr x 48
 have e56:=Kr x 56
 have f32:=Zch 32 x
 have f16:=Zch 16 x
 have f8:=Zch 8 x
 have f24:=Zch 24 x
 have f40:=Zch 40 x
 have f48:=Zch 48 x
 have f56:=Zch 56 x
 have d1:=Nat.div_div_eq_div_mul x (2^32) (2^16)
 have d2:=Nat.div_div_eq_div_mul x (2^32) (2^8)
 have d3:=Nat.div_div_eq_div_mul x (2^16) (2^8)
 have d4:=Nat.div_div_eq_div_mul (x/2^32) (2^16) (2^8)
 have d5:=Nat.div_div_eq_div_mul x (2^32) (2^16*2^8)
 simp only [Nat.reducePow,Nat.reduceMul]at *
 refine Zc<|Zg<|as_ J<|Zf<|Za<|Zc<|Zc<|Zg<|mv J<|dt (Kj J J J)<|Zf<|Za<|Zr J (fun h338=>?_) (fun h338=>?_)
 ·refine Zc<|Zg<|mv J<|dt (Gm (n:=32) (n':=4294967296) J J J J J)<|as_ J<|Zf<|Za<|Zg<|as_ J<|Zf<|Za<|Zc<|Zc<|Zg<|mv J<|dt (Kj J J J)<|Zf<|Za<|Zr J (fun h342=>?_) (fun h342=>?_)
  ·refine Zc<|Zg<|mv J<|dt (Gm (n:=16) (n':=65536) J J J J J)<|as_ J<|Zf<|Za<|Zg<|mv J<|dt (Yu J J J ⟨by omega,by omega⟩)<|as_ J<|Zf<|Za<|Zc<|Zc<|Zg<|mv J<|dt (Kj J J J)<|Zf<|Za<|Zr J (fun h346=>?_) (fun h346=>?_)
   ·exact Zc<|Zg<|mv J<|dt (Gm (n:=8) (n':=256) J J J J J)<|as_ J<|Zf<|Za<|Zg<|mv J<|dt (Yu J J J ⟨by omega,by omega⟩)<|as_ J<|Zf<|Za<|Zc<|Zg<|mv J<|mv J<|dt (Ze7 J J Zc8 uT5)<|dt (Zi8 J J J uT9 J (by omega) (by decide) (by decide +kernel))<|dt (Zap J J uT5 uT3 (Ca _))<|dt (Yu J J J (Gx _ (by omega) (by omega)))<|as_ J<|Zf<|Za<|Zt<|xU hsc results198 J J (Dy (n:=x) (by omega) (by first | omega | (simp only [Nat.div_div_eq_div_mul,Nat.reduceMul,e32,e16,e8,e24,e40,e48,e56];omega))).symm
   ·exact Zj<|Za<|Zc<|Zg<|mv J<|mv J<|dt (Ze7 J J Zc8 uT5)<|dt (Zi8 J J J uT9 J (by omega) (by decide) (by decide +kernel))<|dt (Zap J J uT5 uT3 (Ca _))<|dt (Yu J J J (Gx _ (by omega) (by omega)))<|as_ J<|Zf<|Za<|Zt<|xU hsc results198 J J (Dy (n:=x) (by omega) (by first | omega | (simp only [Nat.div_div_eq_div_mul,Nat.reduceMul,e32,e16,e8,e24,e40,e48,e56];omega))).symm
  ·refine Zj<|Za<|Zc<|Zc<|Zg<|mv J<|dt (Kj J J J)<|Zf<|Za<|Zr J (fun h346_2=>?_) (fun h346_2=>?_)
   ·exact Zc<|Zg<|mv J<|dt (Gm (n:=8) (n':=256) J J J J J)<|as_ J<|Zf<|Za<|Zg<|mv J<|dt (Yu J J J ⟨by omega,by omega⟩)<|as_ J<|Zf<|Za<|Zc<|Zg<|mv J<|mv J<|dt (Ze7 J J Zc8 uT5)<|dt (Zi8 J J J uT9 J (by omega) (by decide) (by decide +kernel))<|dt (Zap J J uT5 uT3 (Ca _))<|dt (Yu J J J (Gx _ (by omega) (by omega)))<|as_ J<|Zf<|Za<|Zt<|xU hsc results198 J J (Dy (n:=x) (by omega) (by first | omega | (simp only [Nat.div_div_eq_div_mul,Nat.reduceMul,e32,e16,e8,e24,e40,e48,e56];omega))).symm
   ·exact Zj<|Za<|Zc<|Zg<|mv J<|mv J<|dt (Ze7 J J Zc8 uT5)<|dt (Zi8 J J J uT9 J (by omega) (by decide) (by decide +kernel))<|dt (Zap J J uT5 uT3 (Ca _))<|dt (Yu J J J (Gx _ (by omega) (by omega)))<|as_ J<|Zf<|Za<|Zt<|xU hsc results198 J J (Dy (n:=x) (by omega) (by first | omega | (simp only [Nat.div_div_eq_div_mul,Nat.reduceMul,e32,e16,e8,e24,e40,e48,e56];omega))).symm
 ·refine Zj<|Za<|Zc<|Zc<|Zg<|mv J<|dt (Kj J J J)<|Zf<|Za<|Zr J (fun h342_2=>?_) (fun h342_2=>?_)
  ·refine Zc<|Zg<|mv J<|dt (Gm (n:=16) (n':=65536) J J J J J)<|as_ J<|Zf<|Za<|Zg<|mv J<|dt (Yu J J J ⟨by omega,by omega⟩)<|as_ J<|Zf<|Za<|Zc<|Zc<|Zg<|mv J<|dt (Kj J J J)<|Zf<|Za<|Zr J (fun h346_3=>?_) (fun h346_3=>?_)
   ·exact Zc<|Zg<|mv J<|dt (Gm (n:=8) (n':=256) J J J J J)<|as_ J<|Zf<|Za<|Zg<|mv J<|dt (Yu J J J ⟨by omega,by omega⟩)<|as_ J<|Zf<|Za<|Zc<|Zg<|mv J<|mv J<|dt (Ze7 J J Zc8 uT5)<|dt (Zi8 J J J uT9 J (by omega) (by decide) (by decide +kernel))<|dt (Zap J J uT5 uT3 (Ca _))<|dt (Yu J J J (Gx _ (by omega) (by omega)))<|as_ J<|Zf<|Za<|Zt<|xU hsc results198 J J (Dy (n:=x) (by omega) (by first | omega | (simp only [Nat.div_div_eq_div_mul,Nat.reduceMul,e32,e16,e8,e24,e40,e48,e56];omega))).symm
   ·exact Zj<|Za<|Zc<|Zg<|mv J<|mv J<|dt (Ze7 J J Zc8 uT5)<|dt (Zi8 J J J uT9 J (by omega) (by decide) (by decide +kernel))<|dt (Zap J J uT5 uT3 (Ca _))<|dt (Yu J J J (Gx _ (by omega) (by omega)))<|as_ J<|Zf<|Za<|Zt<|xU hsc results198 J J (Dy (n:=x) (by omega) (by first | omega | (simp only [Nat.div_div_eq_div_mul,Nat.reduceMul,e32,e16,e8,e24,e40,e48,e56];omega))).symm
  ·refine Zj<|Za<|Zc<|Zc<|Zg<|mv J<|dt (Kj J J J)<|Zf<|Za<|Zr J (fun h346_4=>?_) (fun h346_4=>?_)
   ·exact Zc<|Zg<|mv J<|dt (Gm (n:=8) (n':=256) J J J J J)<|as_ J<|Zf<|Za<|Zg<|mv J<|dt (Yu J J J ⟨by omega,by omega⟩)<|as_ J<|Zf<|Za<|Zc<|Zg<|mv J<|mv J<|dt (Ze7 J J Zc8 uT5)<|dt (Zi8 J J J uT9 J (by omega) (by decide) (by decide +kernel))<|dt (Zap J J uT5 uT3 (Ca _))<|dt (Yu J J J (Gx _ (by omega) (by omega)))<|as_ J<|Zf<|Za<|Zt<|xU hsc results198 J J (Dy (n:=x) (by omega) (by first | omega | (simp only [Nat.div_div_eq_div_mul,Nat.reduceMul,e32,e16,e8,e24,e40,e48,e56];omega))).symm
   ·exact Zj<|Za<|Zc<|Zg<|mv J<|mv J<|dt (Ze7 J J Zc8 uT5)<|dt (Zi8 J J J uT9 J (by omega) (by decide) (by decide +kernel))<|dt (Zap J J uT5 uT3 (Ca _))<|dt (Yu J J J (Gx _ (by omega) (by omega)))<|as_ J<|Zf<|Za<|Zt<|xU hsc results198 J J (Dy (n:=x) (by omega) (by first | omega | (simp only [Nat.div_div_eq_div_mul,Nat.reduceMul,e32,e16,e8,e24,e40,e48,e56];omega))).symm
theorem Zll(x:Nat)(hx:x<U):Mv prog 189 #[.int .u64 (x:Int)] [] (.int .i64 ((64-bl x:Nat):Int)):=by
 refine Yd func189 J ntmps189 J trivial ?_
 intro w0 sc hw hsc
 simp only [Zq,Zp]
 have hb:bl x≤64:=(Md 64 x).2 hx
 exact Zc<|Zg<|as_ J<|Zf<|Za<|Zc<|Zg<|mv J<|tt (Zh (n:=0) (Zwo _ hx) J J J K1 call198 Ze J hw) J fun _ _=>dt (Qo J J J ⟨by omega,by omega⟩)<|as_ J<|Zf<|Za<|Zt<|xU hsc results189 J J (by congr 1;omega)
theorem Zg8(v:Value)(x:Nat)(hx:bl x≤1099511627776:=by omega):Mv prog 168 #[v] [dgp v x] (.int .i64 (bl x:Int)):=by
 refine Yd func168 J ntmps168 J K1 ?_
 intro w0 sc hw hsc
 simp only [Zq,Zp]
 have hX:=Ma x
 refine Zc<|Zg<|as_ J<|Zf<|Za<|Zc<|Zc<|Zg<|mv J<|dt (Yc J J (i:=1) J Zi Xp)<|dt (Pg J J J)<|Zf<|Za<|Zr J (fun h39=>?_) (fun h39=>?_)
 ·refine Zc<|Zg<|as_ J<|Zf<|Za<|Zt<|Ys ?_
  have h0:x=0:=(Po Qt x).1 (by omega)
  exact xU hsc results168 J J (by rw [h0];rfl)
 ·have hp:0<x:=by rcases Nat.eq_zero_or_pos x with rfl | h;(simp [Iu]at h39);exact h
  obtain⟨z1,z2,z3,z4⟩:=Zpx hp
  exact Zj<|Za<|Zc<|Zg<|mv J<|dt (Yc J J (i:=1) J Zi Xp)<|dt (Cf J J J ⟨by omega,by omega⟩)<|mv J<|mv J<|dt (Yc J J (i:=1) J Zi Xp)<|dt (Qo J J J ⟨by omega,by omega⟩)<|dt (Xf (ii:=1) (i:=(dg U x).length-1) J J J J Zi Xp Nx)<|dt (Xx (ii:=1) 0 J J J Zi pU (by first | omega | (simp only [List.length_set];omega)))<|tt (Zh (n:=1) (Zll _ (Qj Pb (Lh Qt _) _)) J J J K1 call189 Ze J hw) J fun _ _=>dt (Qo J J J ⟨by omega,by omega⟩)<|as_ J<|Zf<|Za<|Zt<|xU hsc results168 J J (by congr 1;omega)
end Go.Sky

