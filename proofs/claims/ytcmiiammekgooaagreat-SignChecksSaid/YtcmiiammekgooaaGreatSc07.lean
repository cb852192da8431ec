/- Rules, arithmetic and contracts: part 8. No conditions but those that each theorem names. -/
import Derived.Test.YtcmiiammekgooaaGreatSc06
import Derived.Scope
import Derived.Deep.Strs
set_option linter.all false
namespace Go.Sky
def Ej(xs:List Int)(m:Int):List Int:=Zan xs (tzl [m])
theorem Zmq(xs:List Int)(m:Int)(x:Rat):Zw (Ej xs m) x=Zw xs x-m:=by
 have h:Zw (Ej xs m) x=Zw (Kq xs ([m].map fun a=>-1*a)) x:=Kh x _ _ fun i=>by
  unfold Ej
  rw [Hu,Hb,Km]
  match i with
  | 0=>show cf xs 0-m=cf xs 0 + -1*m;omega
  | i+1=>show cf xs (i+1)-cf [m] (i+1)=cf xs (i+1)+cf [-1*m] (i+1);rw [show cf [m] (i+1)=0 from rfl,show cf [-1*m] (i+1)=0 from rfl];omega
 rw [h,Pe,Yq,Nu];push_cast;grind
theorem Zm1{xs:List Int}{m:Int}(hd:Cvd xs)(hs:Sz 40 xs)(hm:bl m.natAbs≤50):Cvd (Ej xs m)∧(∀i,bl (cf xs i-cf (tzl [m]) i).natAbs≤65536)∧Vp (tzl [m]):=by
 have hl:=hd.l
 have hc:∀i,bl (cf [m] i).natAbs≤50:=fun i=>by
  match i with
  | 0=>exact hm
  | i+1=>rw [show cf [m] (i+1)=0 from rfl];simp [Ly]
 have hz:∀i,bl (cf xs i-cf (tzl [m]) i).natAbs≤51:=fun i=>by
  have h1:=hs i
  have h2:=hc i
  rw [Km,Int.sub_eq_add_neg]
  have h3:=Ky (cf xs i) (-cf [m] i)
  rw [Int.natAbs_neg]at h3
  omega
 have ht:(tzl [m]).length≤1:=Hc [m]
 have hv:Vp (tzl [m]):=⟨fun i=>by rw [Km];have:=hc i;omega,Nr _,by omega⟩
 have hsz:Sz 51 (Ej xs m):=fun i=>by unfold Ej;rw [Hu];exact hz i
 have hlen:(Ej xs m).length≤7:=by
  unfold Ej Zan
  refine Nat.le_trans (Hc _) ?_
  rw [Qp];omega
 exact⟨⟨⟨hsz.mono (by omega),Nr _,by omega⟩,hsz.mono (by omega),hlen⟩,fun i=>Nat.le_trans (hz i) (by omega),hv⟩
def Ep(xs:List Int)(m:Int):Prop:=∃x:Rat,0≤x∧x≤1∧Zw xs x<(m:Rat)
theorem Ybp(xs:List Int)(m:Int):Zub (Ej xs m) 0 1↔Ep xs m:=by
 constructor
 ·rintro⟨x,a,b,c⟩;rw [Zmq]at c;exact⟨x,a,b,by grind⟩
 ·rintro⟨x,a,b,c⟩;exact⟨x,a,b,by rw [Zmq];grind⟩
theorem Zx9{xs:List Int}{m n:Int}(h:Ep xs m)(hmn:m≤n):Ep xs n:=by
 obtain⟨x,a,b,c⟩:=h
 have:(m:Rat)≤(n:Rat):=by exact_mod_cast hmn
 exact⟨x,a,b,by grind⟩
def lws:List Int→Int
 | []=>0
 | c :: p=>-(c.natAbs:Int)+lws p
theorem Zvv:∀p q:List Int,lws (p ++ q)=lws p+lws q
 | [],q=>by show lws q=0+lws q;omega
 | c :: p,q=>by show -(c.natAbs:Int)+lws (p ++ q)=-(c.natAbs:Int)+lws p+lws q;rw [Zvv p q];omega
theorem Za8{xs:List Int}{i:Nat}(h:i<xs.length):lws (xs.take (i+1))=lws (xs.take i) + -((cf xs i).natAbs:Int):=by
 rw [Mc 0 xs i h,Zvv];show lws (xs.take i)+(-((cf xs i).natAbs:Int)+0)=_;omega
theorem Ybm{n:Nat} : ∀p:List Int,(∀c∈p,c.natAbs≤n)→-((p.length*n:Nat):Int)≤lws p∧lws p≤0
 | [],_=>by show -((0*n:Nat):Int)≤0∧(0:Int)≤0;omega
 | c :: p,h=>by
  have h1:=Ybm p fun d hd=>h d (List.mem_cons_of_mem _ hd)
  have h2:=h c List.mem_cons_self
  show -(((p.length+1)*n:Nat):Int)≤-(c.natAbs:Int)+lws p∧-(c.natAbs:Int)+lws p≤0
  rw [Nat.succ_mul];omega
theorem Zvu{x:Rat}(h0:0≤x)(h1:x≤1):∀p:List Int,((lws p:Int):Rat)≤Zw p x
 | []=>by show((0:Int):Rat)≤0;exact Rat.le_refl
 | c :: p=>by
  have ih:=Zvu h0 h1 p
  have hb:=(Ybm (n:=p.foldl (fun m c=>max m c.natAbs) 0) p (fun c hc=>by
   have:∀(l:List Int) (a:Nat),(a≤l.foldl (fun m c=>max m c.natAbs) a)∧∀c∈l,c.natAbs≤l.foldl (fun m c=>max m c.natAbs) a:=fun l=>by
    induction l with
    | nil=>intro a;exact⟨Nat.le_refl _,fun c hc=>absurd hc (by simp)⟩
    | cons d l ih=>
     intro a
     obtain⟨i1,i2⟩:=ih (max a d.natAbs)
     refine⟨Nat.le_trans (Nat.le_max_left _ _) i1,fun c hc=>?_⟩
     rcases List.mem_cons.1 hc with rfl | hc
     ·exact Nat.le_trans (Nat.le_max_right _ _) i1
     ·exact i2 c hc
   exact(this p 0).2 c hc)).2
  have hb':((lws p:Int):Rat)≤0:=by exact_mod_cast hb
  have hc:((-(c.natAbs:Int):Int):Rat)≤(c:Rat):=by exact_mod_cast (show -(c.natAbs:Int)≤c by omega)
  have hm:=Rat.mul_nonneg (show 0≤1-x by grind) (show 0≤-((lws p:Int):Rat) by grind)
  have hm2:=Rat.mul_nonneg h0 (show 0≤Zw p x-((lws p:Int):Rat) by grind)
  show((-(c.natAbs:Int)+lws p:Int):Rat)≤(c:Rat)+x*Zw p x
  push_cast at hc ⊢
  grind
theorem Ybq(xs:List Int):¬Ep xs (lws xs):=by
 rintro⟨x,a,b,c⟩
 have:=Zvu a b xs;grind
theorem Yd5(xs:List Int):Zw xs 0=((cf xs 0:Int):Rat):=by
 cases xs with
 | nil=>rfl
 | cons c p=>show(c:Rat)+0*Zw p 0=(c:Rat);grind
theorem Zya(xs:List Int):Ep xs (cf xs 0+1):=by
 refine⟨0,by grind,by decide,?_⟩
 rw [Yd5]
 push_cast;grind
theorem Zox{xs:List Int}{l h:Int}(h1:¬Ep xs l)(h2:Ep xs h):l<h:=by
 rcases Int.lt_or_le l h with q | q
 ·exact q
 ·exact absurd (Zx9 h2 q) h1
theorem Zud{c:Int}(h:c≠0):wv (-(c.natAbs:Int))= .agg #[.bool true,.string (Xp c.natAbs)]:=by
 unfold wv
 rw [decide_eq_true (by omega),Int.natAbs_neg,Int.natAbs_natCast]
theorem Yde{x:Int}(h:x≠0):tzl [x]=[x]:=by
 unfold tzl
 simp [List.dropWhile,h]
theorem Zah{z:Int}(h:z.natAbs≤17592186044416):bl z.natAbs≤45:=(Mo 45 _).2 (Nat.lt_of_le_of_lt h (by decide))
theorem Zre:¬Ep [] 0∧Ep [] (0+1):=⟨fun⟨x,a,b,c⟩=>absurd c (by show ¬(0:Rat)<((0:Int):Rat);decide),⟨0,by decide,by decide,by show(0:Rat)<(((0:Int)+1:Int):Rat);decide⟩⟩
theorem Zfz{xs:List Int}(hs:Sz 40 xs)(i:Nat):(cf xs i).natAbs<1099511627776:=(Mo 40 _).1 (hs i)
theorem Zc5{xs:List Int}(hs:Sz 40 xs)(hl:xs.length≤7)(i:Nat):-7696581394432≤lws (xs.take i)∧lws (xs.take i)≤0:=by
 obtain⟨h1,h2⟩:=Ybm (n:=1099511627776) (xs.take i) fun c hc=>by
  obtain⟨k,hk,rfl⟩:=List.mem_iff_getElem.1 hc
  have h9:=Zfz hs k
  rw [List.length_take]at hk
  have e:(xs.take i)[k]=cf xs k:=by rw [List.getElem_take];unfold cf;rw [List.getD_eq_getElem?_getD,List.getElem?_eq_getElem (by omega)];rfl
  rw [e];omega
 have h3:(xs.take i).length*1099511627776≤7*1099511627776:=Nat.mul_le_mul_right _ (by rw [List.length_take];omega)
 exact⟨by omega,h2⟩
structure FlI (xs:List Int) (lo hi:Int):Prop where
 l:¬Ep xs lo
 h:Ep xs hi
 b1:-8796093022208≤lo
 b2:hi≤8796093022208
theorem FlI.lt{xs:List Int}{lo hi:Int}(h:FlI xs lo hi):lo<hi:=Zox h.l h.h
theorem FlI.start{xs:List Int}(hs:Sz 40 xs)(hl:xs.length≤7){i:Nat}(hi:xs.length≤i):FlI xs (lws (xs.take i)) (cf xs 0+1):=by
 have h1:=Zc5 hs hl i
 have h2:=Zfz hs 0
 refine⟨by rw [List.take_of_length_le hi];exact Ybq xs,Zya xs,by omega,by omega⟩
theorem Zvd:qv (0,1)=0∧qv (1,1)=1:=by unfold qv;exact⟨by decide +kernel,by decide +kernel⟩
theorem Za9{xs:List Int}{m:Int}(h:Cvd (Ej xs m)):ngb (Ol (Ej xs m)) (Bb (Ej xs m)) (0,1) (1,1)=true↔Ep xs m:=by
 have:=Zot h (a:=(0,1)) (b:=(1,1)) (by decide) (by decide) (by rw [Zvd.1,Zvd.2];decide)
 rw [Zvd.1,Zvd.2]at this
 exact this.trans (Ybp xs m)
theorem Ycu{n:Nat}(h:(Xp n).size=0):n=0:=by
 rw [Hj]at h
 have:=(Nn (by omega:2≤256) n).1 h;omega
theorem Zw1{c:Int}(h:¬(Xp c.natAbs).size=0):c≠0:=fun e=>h (by rw [e,Hj];exact(Nn (by omega:2≤256) 0).2 rfl)
theorem Zus{a b:Int}(h:(a-b).sign≤0):a≤b:=by
 rcases Int.lt_or_le b a with q | q
 ·rw [Int.sign_eq_one_of_pos (by omega)]at h;omega
 ·exact q
theorem Zut{a b:Int}(h:¬(a-b).sign≤0):b<a:=by
 rcases Int.lt_or_le b a with q | q
 ·exact q
 ·exfalso
  rcases Int.lt_or_eq_of_le q with w | w
  ·rw [Int.sign_eq_neg_one_of_neg (by omega)]at h;omega
  ·rw [w,Int.sub_self]at h;exact h (by decide)
variable {P:Program} {N:Nat} {sc:Nat→Prop} {env env':Kr} {H H':Hp} {Q Q':Exit→Act→World→Prop}
theorem Zqj(w:World)(g:Nat)(cs:Array Value)(t:TypeId)(fr:Nat×Nat)(hg:w.heap[g]? = some (.cells cs t fr)):w.setRow g cs=w:=by
 obtain⟨hlt,hv⟩:=Array.getElem?_eq_some_iff.1 hg
 have h:(w.setRow g cs).heap=w.heap:=by
  apply Array.ext_getElem?
  intro i
  by_cases h:g=i
  ·subst h;rw [setRow_heap w g cs cs t fr hg,hg]
  ·unfold World.setRow
   dsimp only
   rw [Array.getElem?_modify,if_neg h]
 have e:w.setRow g cs={ w with heap:=(w.setRow g cs).heap }:=rfl
 rw [e,h]
theorem Zme {M:Nat→Prop} {o:Oper} {x y:Operand} {t tb:TypeId} {i b j k:Nat} {cs:Array Value} {v:Value} {vs:List Value} (ho:o.op= .store t x y) (hd:o.dst=none)
  (hx:ev env x=some (.pointer (some ⟨b,j,none⟩))) (hy:ev env y=some v) (hH:lk H i=some (Za0 b tb cs)) (hv:v.cells=vs.toArray) (hk:∀w,(sizeOf t).run P w= .ok k w) (hlen:vs.length=k)
  (hfit:Nat.ble (j+vs.length) cs.size=true) (h1:∀u∈vs,u.oneCell'=true) (hset:Aj cs j vs=cs) :
  T P N sc M o env H (G:=Unit) (fun _=>True) (fun _=>env) (fun _=>H):=fun a w hs K Q hK=>by
 have hb:w.heap[b]? = some (.cells cs tb (0,0)):=hs.hold i _ hH
 have hst:=run_storeCells_at P b j tb vs 0 cs w hb (by simpa using Nat.le_of_ble_eq_true hfit) h1
 simp only [Nat.add_zero]at hst
 have hr:(execOp a.eval o).run P w= .ok .skip (w.setRow b (Aj cs j vs)):=by
  simp [execOp,ho,hs.ev hx,hs.ev hy,Instr.storeAt,Instr.sureAddr,storeVar,hv,hk,hlen,hst,Aj]
 rw [hset,Zqj w b cs tb _ hb]at hr
 unfold Oper.wp
 rw [hr]
 show K (a.put o.dst _) _
 rw [hd]
 exact hK () _ _ trivial (hs.put_none undef) (Chg.refl _ _)
theorem Zi8{c:Code}(h:E P N sc c (Exit.noGoto Q) env H):E P N sc (.scope c) Q env H:=fun a w hs=>wp_scope_straight (h a w hs)
theorem Zl5(h:X N sc .ret Q env H):X N sc .ret (Exit.noGoto Q) env H:=h
theorem Yfa{l:Nat}(h:X N sc .normal Q env H):E P N sc (.label l) Q env H:=fun a w hs=>wp_label (h a w hs)
theorem Zy7 {M:Nat→Prop} {o:Oper} {x y:Operand} {t tb:TypeId} {i b j:Nat} {cs:Array Value} {v:Value} {w0:World} {M0:Nat→Prop} (ho:o.op= .store t x y) (hd:o.dst=none)
  (hx:ev env x=some (.pointer (some ⟨b,j,none⟩))) (hy:ev env y=some v) (hH:lk H i=some (box b tb cs)) (hk:∀w,(sizeOf t).run P w= .ok 1 w) (hfit:Nat.ble (j+1) cs.size=true) (h1:One N sc env H v)
  (h0:lk H 0=some (Lj w0 M0)) (hw:∀b,w0.heap.size≤b→sc b) (hM:M b) (hi0:i≠0:=by decide) :
  T P N sc M o env H (G:=Unit) (fun _=>True) (fun _=>env) (fun _=>(i,box b tb (Aj cs j [v])) :: H):=fun a w hs=>
 Zjv (cs':=#[]) (vs:=[v]) ho hd hx hy hH (Iu (h1 a w hs)) hk rfl hfit ⟨h1,trivial⟩ h0 hw hM hi0 a w hs
theorem Yan{v:Value}{zs:List (SL×List Int)}{al:Bool}{r:List Pc}{z:SL×List Int}(i:Nat)(hi:lk H i=some (Ec 1 Gu (fun y:SL×List Int=>Px 2 wv (svv y.1) y.2) v zs))(hi0:Nat.beq i 0=false)(hz:z∈zs)(h:PreOk H al r):PreOk H al (Px 2 wv (svv z.1) z.2 :: r):=Zqy (q:=fun y:SL×List Int=>Px 2 wv (svv y.1) y.2) (z:=z) i hi hi0 hz h
theorem d_lr2 {o:Oper} {x:Operand} {t tb:TypeId} {i b j:Nat} {cs:Array Value} {v0 v1:Value} (ho:o.op= .load t x) (hx:ev env x=some (.pointer (some ⟨b,j,none⟩))) (hH:lk H i=some (Za0 b tb cs)) (ht:∀w,(isAgg t).run P w= .ok true w) (hk:∀w,(sizeOf t).run P w= .ok 2 w)
  (h0:cs[j]? = some v0) (h1:cs[j+1]? = some v1):Ia P N sc o env H (.agg #[v0,v1]):=
 d_lra (vs:=[v0,v1]) ho hx hH ht hk rfl (fun n u hn=>by
  match n,hn with
  | 0,hn=>simp at hn;subst hn;exact h0
  | 1,hn=>simp at hn;subst hn;exact h1)
end Go.Sky
namespace Go.Sky
variable {P:Program} {N:Nat} {sc:Nat→Prop} {env env':Kr} {H H':Hp} {Q Q':Exit→Act→World→Prop}
def Zai(l:List Int):Array Value:=(l.map (Value.int .i64)).toArray
theorem Zl7(l:List Int):(Zai l).size=l.length:=by simp [Zai]
theorem Zy0{l:List Int}{j:Nat}(h:j<l.length):(Zai l)[j]? = some (.int .i64 (l.getD j 0)):=by
 simp [Zai,List.getElem?_eq_getElem h,List.getD_eq_getElem?_getD]
theorem Zyz{l:List Int}{j:Nat}{v:Int}(h:j<l.length):Aj (Zai l) j [.int .i64 v]=Zai (l.set j v):=by
 unfold Aj Zai
 congr 1
 rw [List.set_eq_take_append_cons_drop,if_pos h,List.map_append,List.map_cons,List.map_take,List.map_drop]
 simp
theorem Zdj {o:Oper} {x y:Operand} {t e:TypeId} {b off i k len:Nat} {kd:IntKind} {m:Int} (ho:o.op= .indexAddr t x y) (hx:ev env x=some (.pointer (some ⟨b,off,none⟩))) (hy:ev env y=some (.int kd m))
  (ht:P.underlying t=some (.array len e)) (hk:∀w,(sizeOf e).run P w= .ok k w) (him:m=(i:Int):=by omega) (hlt:i<len:=by omega):Ia P N sc o env H (.pointer (some ⟨b,off+i*k,none⟩)):=fun a w hs=>by
 subst him
 simp [execOp,ho,hs.ev hx,hs.ev hy,Instr.indexAt,Instr.sureAddr,asIntOf,run_underlying ht,hk,hlt,Mv]
theorem Ycm{o:Oper}{x:Operand}{t tb:TypeId}{i b j:Nat}{l:List Int}(ho:o.op= .load t x)(hx:ev env x=some (.pointer (some ⟨b,j,none⟩)))(hH:lk H i=some (box b tb (Zai l)))(ht:∀w,(isAgg t).run P w= .ok false w)(hj:j<l.length:=by omega) :
  Ia P N sc o env H (.int .i64 (l.getD j 0)):=Qw ho hx hH ht (Zy0 hj)
theorem d_lwa{o:Oper}{x:Operand}{t tb:TypeId}{i b k:Nat}{l:List Int}(ho:o.op= .load t x)(hx:ev env x=some (.pointer (some ⟨b,0,none⟩)))(hH:lk H i=some (box b tb (Zai l)))(ht:∀w,(isAgg t).run P w= .ok true w)(hk:∀w,(sizeOf t).run P w= .ok k w)(hl:l.length=k) :
  Ia P N sc o env H (.agg (Zai l)):=
 Zwf (vs:=l.map (Value.int .i64)) ho hx hH ht hk (by simpa using hl) (fun n u hu=>by rw [Nat.zero_add];simpa [Zai]using hu)
theorem Zsu {M:Nat→Prop} {o:Oper} {x y:Operand} {t tb:TypeId} {i b j:Nat} {l:List Int} {v:Int} {w0:World} {M0:Nat→Prop} (ho:o.op= .store t x y) (hd:o.dst=none)
  (hx:ev env x=some (.pointer (some ⟨b,j,none⟩))) (hy:ev env y=some (.int .i64 v)) (hH:lk H i=some (box b tb (Zai l))) (hk:∀w,(sizeOf t).run P w= .ok 1 w) 
  (h0:lk H 0=some (Lj w0 M0)) (hw:∀b,w0.heap.size≤b→sc b) (hM:M b) (hi0:i≠0:=by decide) (hj:j<l.length:=by omega) :
  T P N sc M o env H (G:=Unit) (fun _=>True) (fun _=>env) (fun _=>(i,box b tb (Zai (l.set j v))) :: H):=by
 rw [←Zyz hj]
 exact Zul (vs:=[.int .i64 v]) ho hd hx hy hH hi0 rfl hk rfl (by rw [Zl7];exact hj) (fun u hu=>Zf (by rw [List.mem_singleton.1 hu];rfl)) rfl h0 hw hM
theorem Zy6 {M:Nat→Prop} {o:Oper} {x y:Operand} {t tb:TypeId} {i b k:Nat} {cs:Array Value} {l:List Int} {w0:World} {M0:Nat→Prop} (ho:o.op= .store t x y) (hd:o.dst=none)
  (hx:ev env x=some (.pointer (some ⟨b,0,none⟩))) (hy:ev env y=some (.agg (Zai l))) (hH:lk H i=some (box b tb cs)) (hk:∀w,(sizeOf t).run P w= .ok k w) (hl:l.length=k) (hc:cs.size=k)
  (h0:lk H 0=some (Lj w0 M0)) (hw:∀b,w0.heap.size≤b→sc b) (hM:M b) (hi0:i≠0:=by decide) :
  T P N sc M o env H (G:=Unit) (fun _=>True) (fun _=>env) (fun _=>(i,box b tb (Zai l)) :: H):=
 Zul (vs:=l.map (Value.int .i64)) ho hd hx hy hH hi0 rfl hk (by simpa using hl) (by simp;omega) (fun u hu=>Zf (by obtain⟨z,_,rfl⟩:=List.mem_map.1 hu;rfl)) (by
  unfold Aj Zai
  rw [List.take_zero,List.nil_append,Nat.zero_add,List.drop_eq_nil_of_le (by simp;omega),List.append_nil]) h0 hw hM
def Fd:Nat→Nat→Nat
 | _,0=>1
 | 0,_+1=>0
 | n+1,k+1=>Fd n k+Fd n (k+1)
theorem Zt0:∀n k,Fd n k≤2^n
 | 0,0=>by decide
 | _+1,0=>Nat.two_pow_pos _
 | 0,_+1=>Nat.zero_le _
 | n+1,k+1=>by
  have h1:=Zt0 n k
  have h2:=Zt0 n (k+1)
  show Fd n k+Fd n (k+1)≤2^(n+1)
  rw [Nat.pow_succ];omega
theorem Zla:∀n k,n<k→Fd n k=0
 | _,0,h=>absurd h (Nat.not_lt_zero _)
 | 0,_+1,_=>rfl
 | n+1,k+1,h=>by
  show Fd n k+Fd n (k+1)=0
  rw [Zla n k (by omega),Zla n (k+1) (by omega)]
structure Tab (l:List Int) (n k:Nat):Prop where
 len:l.length=625
 eq:∀r c,r<25→c<25→l.getD (r*25+c) 0=if r<n∨(r=n∧c<k)then(Fd r c:Int)else 0
theorem Zyl{l:List Int}{i j:Nat}{v:Int}(hi:i<l.length):(l.set i v).getD j 0=if j=i then v else l.getD j 0:=by
 rw [List.getD_eq_getElem?_getD,List.getD_eq_getElem?_getD,List.getElem?_set]
 by_cases h:i=j
 ·subst h;rw [if_pos rfl,if_pos hi,if_pos rfl];rfl
 ·rw [if_neg h,if_neg (fun e=>h e.symm)]
theorem Tab.start:Tab (List.replicate 625 0) 0 0:=⟨List.length_replicate,fun r c hr hc=>by
 rw [if_neg (by omega),List.getD_eq_getElem?_getD]
 rw [List.getElem?_replicate]
 split<;>rfl⟩
theorem Tab.step{l:List Int}{n k:Nat}{v:Int}(h:Tab l n k)(hn:n<25)(hk:k<25)(hv:v=(Fd n k:Int)){j:Nat}(hj:j=n*25+k):Tab (l.set j v) n (k+1):=by
 subst hj
 have hl:=h.len
 refine⟨by rw [List.length_set];exact hl,fun r c hr hc=>?_⟩
 rw [Zyl (by omega),h.eq r c hr hc]
 by_cases e:r*25+c=n*25+k
 ·have e1:r=n:=by omega
  have e2:c=k:=by omega
  subst e1;subst e2
  rw [if_pos rfl,if_pos (by omega)];exact hv
 ·rw [if_neg e]
  have:¬(r=n∧c=k):=fun⟨e1,e2⟩=>e (by rw [e1,e2])
  by_cases g:r<n∨(r=n∧c<k)
  ·rw [if_pos g,if_pos (by omega)]
  ·rw [if_neg g,if_neg (by omega)]
theorem Tab.row{l:List Int}{n k:Nat}(h:Tab l n k)(hk:n<k):Tab l (n+1) 0:=⟨h.len,fun r c hr hc=>by
 rw [h.eq r c hr hc]
 by_cases g:r<n∨(r=n∧c<k)
 ·rw [if_pos g,if_pos (by omega)]
 ·rw [if_neg g]
  by_cases g2:r<n+1∨(r=n+1∧c<0)
  ·rw [if_pos g2,Zla r c (by omega)];rfl
  ·rw [if_neg g2]⟩
theorem Tab.get{l:List Int}{n k r c:Nat}(h:Tab l n k)(hr:r<25)(hc:c<25)(hlt:r<n∨(r=n∧c<k)){j:Nat}(hj:j=r*25+c):l.getD j 0=(Fd r c:Int):=by
 rw [hj,h.eq r c hr hc,if_pos hlt]
theorem Zws{n k:Nat}(hn:1≤n:=by omega)(hk:1≤k:=by omega):Fd n k=Fd (n-1) (k-1)+Fd (n-1) k:=by
 obtain⟨m,rfl⟩:∃m,n=m+1:=⟨n-1,by omega⟩
 obtain⟨j,rfl⟩:∃j,k=j+1:=⟨k-1,by omega⟩
 rfl
theorem Znc{n k:Nat}(h:n≤24:=by omega):Fd n k≤16777216:=Nat.le_trans (Zt0 n k) (Nat.le_trans (Nat.pow_le_pow_right (by decide) h) (by decide))
end Go.Sky
namespace Go.Sky
structure Ef (a:R2):Prop where
 p:0<a.2
 b1:bl a.1.natAbs≤512
 b2:bl a.2.natAbs≤512
theorem E32.ef{a:R2}(h:E32 a):Ef a:=⟨h.p,Nat.le_trans h.b1 (by decide),Nat.le_trans h.b2 (by decide)⟩
def plx(a b:R2):Int:=a.1*b.2
def ply(a b:R2):Int:=b.1*a.2
def pld(a b:R2):Int:=a.2*b.2
def Fl(xs:List Int)(a b:R2):List Int:=Zap xs (plx a b) (ply a b-plx a b) (pld a b)
def Cp(c:List Int)(d j:Nat)(i:Nat):Int:=Qr (fun i=>cf c i*(Fd (d-i) (j-i):Int)) i
def Zao(xs:List Int)(a b:R2):Bool:=if xs.length=0 then true else(List.range xs.length).all fun j=>decide (0≤Cp (Fl xs a b) (xs.length-1) j (min (j+1) (Fl xs a b).length))
theorem Zbl{x y:Int}{m n:Nat}(hx:bl x.natAbs≤m)(hy:bl y.natAbs≤n):bl (x*y).natAbs≤m+n:=by have:=Qk x y;omega
theorem pl_sz{xs:List Int}{a b:R2}(hd:Cvd xs)(ha:Ef a)(hb:Ef b) :
  bl (plx a b).natAbs≤1024∧bl (ply a b).natAbs≤1024∧bl (pld a b).natAbs≤1024∧bl (ply a b-plx a b).natAbs≤1025∧0<pld a b∧¬Zpg xs (plx a b) (ply a b-plx a b) (pld a b)∧Sz 7000 (Fl xs a b)∧(Fl xs a b).length≤xs.length:=by
 have h1:bl (plx a b).natAbs≤1024:=Zbl ha.b1 hb.b2
 have h2:bl (ply a b).natAbs≤1024:=Zbl hb.b1 ha.b2
 have h3:bl (pld a b).natAbs≤1024:=Zbl ha.b2 hb.b2
 have h4:bl (ply a b-plx a b).natAbs≤1025:=by have:=Cj (ply a b) (plx a b);omega
 have hl:=hd.l
 have hm:=Oi hd.s
 have hmz:Pi [plx a b,ply a b-plx a b,pld a b]≤1025:=Oi (Sz.of_mem fun y hy=>by
  rcases List.mem_cons.1 hy with rfl | hy
  ·omega
  ·rcases List.mem_cons.1 hy with rfl | hy
   ·omega
   ·rw [List.mem_singleton.1 hy];omega)
 have hk:(xs.length-1)*(Pi [plx a b,ply a b-plx a b,pld a b]+1)≤6*1026:=Nat.mul_le_mul (by omega) (by omega)
 refine⟨h1,h2,h3,h4,Int.mul_pos ha.p hb.p,fun hF=>?_,?_,Ztp _ _ _ _⟩
 ·have:=hF.2;omega
 ·have hc:=Ziu (x:=plx a b) (y:=ply a b-plx a b) (z:=pld a b) (m:=1025) hd.s (by omega) h4 (by omega) (xs.length-1)
  unfold Fl Zap
  split
  ·exact Sz.nil _
  ·refine(Sz.tzl hc).mono ?_
   have:(xs.length-1)*(1025+1)≤6*1026:=Nat.mul_le_mul (by omega) (by omega)
   omega
theorem Zd3(c:List Int)(d j i:Nat):Cp c d j (i+1)=Cp c d j i+cf c i*(Fd (d-i) (j-i):Int):=rfl
theorem Zt1{n k:Nat}(h:n≤24):bl ((Fd n k:Nat):Int).natAbs≤25:=by
 rw [Int.natAbs_natCast];exact(Mo 25 _).2 (Nat.lt_of_le_of_lt (Znc h) (by decide))
theorem Zb0{c:List Int}{d j:Nat}(hc:Sz 7000 c)(hd:d≤24):∀i,bl (Cp c d j i).natAbs≤7025+i
 | 0=>by show bl (0:Int).natAbs≤7025;simp [Ly]
 | i+1=>by
  have h1:=Zb0 hc hd (j:=j) i
  have h2:bl (cf c i*(Fd (d-i) (j-i):Int)).natAbs≤7000+25:=Zbl (hc i) (Zt1 (by omega))
  rw [Zd3]
  have:=Ky (Cp c d j i) (cf c i*(Fd (d-i) (j-i):Int))
  omega
theorem Zmv{xs:List Int}{a b:R2}(h:xs.length=0):Zao xs a b=true:=by unfold Zao;rw [if_pos h]
theorem Zvj{xs:List Int}{a b:R2}(h:xs.length≠0)(hz:∀k,k<xs.length→0≤Cp (Fl xs a b) (xs.length-1) k (min (k+1) (Fl xs a b).length)):Zao xs a b=true:=by
 unfold Zao;rw [if_neg h,List.all_eq_true]
 intro j hj
 exact decide_eq_true (hz j (List.mem_range.1 hj))
theorem Zi2{xs:List Int}{a b:R2}{k:Nat}(h:xs.length≠0)(hk:k<xs.length)(hz:Cp (Fl xs a b) (xs.length-1) k (min (k+1) (Fl xs a b).length)<0):Zao xs a b=false:=by
 unfold Zao;rw [if_neg h,Bool.eq_false_iff]
 intro hA
 have:=of_decide_eq_true (List.all_eq_true.1 hA k (List.mem_range.2 hk))
 omega
abbrev PTs:=Int×R2×R2
abbrev P0:PTs:=(0,(0,0),(0,0))
abbrev Zaf (z:PTs):Value:= .agg #[.int .i64 z.1,.bool (decide (z.2.1.1<0)),.string (Xp z.2.1.1.natAbs),.bool (decide (z.2.1.2<0)),.string (Xp z.2.1.2.natAbs),.bool (decide (z.2.2.1<0)),.string (Xp z.2.2.1.natAbs),.bool (decide (z.2.2.2<0)),.string (Xp z.2.2.2.natAbs)]
def shw(xs:List Int)(z:PTs):Bool:=if z.1=1 then Zao xs z.2.1 z.2.2 else if xs.length=0∨Ba z.2.1 z.2.2=0 then decide (0≤vlu (Ol xs) z.2.1)else decide (0<aft (Ol xs) z.2.1) && !crb (Bb xs) z.2.1 z.2.2
def Zil(xs:List Int)(l:R2)(z:PTs):Bool:=decide (Ba l z.2.1=0) && decide (¬0<Ba z.2.1 z.2.2) && shw xs z
def lst(a:R2)(ps:List PTs)(i:Nat):R2:=if i=0 then a else(ps.getD (i-1) P0).2.2
def Zem(xs:List Int)(ps:List PTs)(a b:R2):Bool:=decide (0<ps.length) && (List.range ps.length).all (fun k=>Zil xs (lst a ps k) (ps.getD k P0)) && decide (Ba (lst a ps ps.length) b=0)
def Zsm(ps:List PTs):Prop:=∀z∈ps,(z.1=1∨z.1=2)∧Ef z.2.1∧Ef z.2.2
theorem Zpl{xs:List Int}{ps:List PTs}{a b:R2}{i:Nat}(hi:i=ps.length)(h:∀k,k<i→Zil xs (lst a ps k) (ps.getD k P0)=true):Zem xs ps a b=(decide (0<ps.length) && decide (Ba (lst a ps i) b=0)):=by
 subst hi
 unfold Zem
 rw [List.all_eq_true.2 (fun k hk=>h k (List.mem_range.1 hk)),Bool.and_true]
theorem Fo{xs:List Int}{ps:List PTs}{a b:R2}{k:Nat}(hk:k<ps.length)(h:Zil xs (lst a ps k) (ps.getD k P0)=false)(c:Bool):Zem xs ps a b=(false && c):=by
 unfold Zem
 have:(List.range ps.length).all (fun k=>Zil xs (lst a ps k) (ps.getD k P0))=false:=by
  rw [Bool.eq_false_iff]
  intro hA
  have:=List.all_eq_true.1 hA k (List.mem_range.2 hk)
  rw [h]at this;exact absurd this (by decide)
 rw [this];simp
theorem Ya5{xs:List Int}{l:R2}{z:PTs}(h:¬Ba l z.2.1=0):Zil xs l z=false:=by unfold Zil;rw [decide_eq_false h];rfl
theorem Ya4{xs:List Int}{l:R2}{z:PTs}(h:0<Ba z.2.1 z.2.2):Zil xs l z=false:=by unfold Zil;rw [decide_eq_false (show ¬¬0<Ba z.2.1 z.2.2 from fun e=>e h),Bool.and_false];rfl
theorem Zc3{xs:List Int}{l:R2}{z:PTs}(h1:Ba l z.2.1=0)(h2:¬0<Ba z.2.1 z.2.2):Zil xs l z=shw xs z:=by unfold Zil;rw [decide_eq_true h1,decide_eq_true h2];rfl
theorem Zeo{xs:List Int}{z:PTs}(h:z.1=1):shw xs z=Zao xs z.2.1 z.2.2:=if_pos h
theorem Zcr{xs:List Int}{z:PTs}(h:¬z.1=1)(h2:xs.length=0∨Ba z.2.1 z.2.2=0):shw xs z=decide (0≤vlu (Ol xs) z.2.1):=by unfold shw;rw [if_neg h,if_pos h2]
theorem Zcs{xs:List Int}{z:PTs}(h:¬z.1=1)(h2:¬xs.length=0)(h3:¬Ba z.2.1 z.2.2=0):shw xs z=(decide (0<aft (Ol xs) z.2.1) && !crb (Bb xs) z.2.1 z.2.2):=by
 unfold shw;rw [if_neg h,if_neg (fun e=>by rcases e with e | e;exact h2 e;exact h3 e)]
theorem Ef.efit{a:R2}(h:Ef a):Go.Sky.efit a=true:=by
 have:=h.b1
 have:=h.b2
 unfold Go.Sky.efit;exact decide_eq_true (by omega)
theorem Ybr{a:R2}{ps:List PTs}(ha:Ef a)(hp:Zsm ps){i:Nat}(hi:i≤ps.length):Ef (lst a ps i):=by
 unfold lst
 split
 ·exact ha
 ·exact(hp _ (Xj)).2.2
theorem Gd{b:Bool}(h:(!b)=true):b=false:=by cases b<;>simp_all
theorem Ic{b:Bool}(h:(!b)=false):b=true:=by cases b<;>simp_all
theorem Zcc{p:Prop}[Decidable p]{b c:Bool}(h:p)(e:b=c):(decide p && b)=c:=by rw [decide_eq_true h,Bool.true_and,e]
theorem Zlk{p:Prop}[Decidable p]{b:Bool}(h:¬p):(decide p && b)=false:=by rw [decide_eq_false h,Bool.false_and]
theorem Yb7(u0 u1 u2 u3 u4 u5 u6 u7 u8 a0 a1 a2 a3 a4 a5 a6 a7 a8:Value):Instr.fill (fun i=>some (i*9,9)) ((List.range (1*9)).map ((Value.agg #[u0,u1,u2,u3,u4,u5,u6,u7,u8]).cells[· % (Value.agg #[u0,u1,u2,u3,u4,u5,u6,u7,u8]).cells.size]!)).toArray [(0,.agg #[a0,a1,a2,a3,a4,a5,a6,a7,a8])]=some #[a0,a1,a2,a3,a4,a5,a6,a7,a8]:=by
 simp [Instr.fill,Value.cells,List.range,List.range.loop]
 try rfl
theorem Zzc{l:List Int}(h:Zyb l=true):Sz 40 l:=Sz.of_mem fun x hx=>by
 unfold Zyb at h
 rw [Bool.and_eq_true]at h
 have h1:=List.all_eq_true.1 h.1 x hx
 simp only [Bool.and_eq_true,decide_eq_true_eq]at h1
 exact(Mo 40 _).2 (by omega)
theorem Al{l:List Int}(h:Zyb l=true)(h2:l.length≤7:=by decide):Cvd l:=⟨vp_b h,(Zzc h).mono (by omega),h2⟩
theorem Zsv{l:List Int}(h:Zyb l=true):Sz 40 l:=Zzc h
theorem Zug{k:Int}{a b:R2}(ha:Ef a)(hb:Ef b)(h:k=1∨k=2:=by decide):Zsm [(k,a,b)]:=fun z hz=>by
 rw [List.mem_singleton.1 hz];exact⟨h,ha,hb⟩
theorem Ztq{xs:List Int}{r m:Int}(h:¬Ep xs r∧Ep xs (r+1)∧bl r.natAbs≤60)(c1:Cvd (Ej xs m))(c2:Cvd (Ej xs (m+1)))(h1:ngb (Ol (Ej xs m)) (Bb (Ej xs m)) (0,1) (1,1)=false)(h2:ngb (Ol (Ej xs (m+1))) (Bb (Ej xs (m+1))) (0,1) (1,1)=true):r=m:=by
 have l1:¬Ep xs m:=fun e=>by rw [(Za9 c1).2 e]at h1;exact absurd h1 (by decide)
 have l2:Ep xs (m+1):=(Za9 c2).1 h2
 have a1:=Zox h.1 l2
 have a2:=Zox l1 h.2.1
 omega
def smR(r:RWL):Bool:=(r.all fun c=>decide (c.2.size≤4)) && decide (r.length≤7)
theorem smR_no{r:RWL}{i:Nat}(hi:i<r.length)(h:(4:Int)<((r.getD i (false,⟨#[]⟩)).2.size:Int)):smR r=false:=by
 unfold smR
 rw [show(r.all fun c=>decide (c.2.size≤4))=false from ?_]
 ·simp
 ·rw [List.all_eq_false]
  refine⟨r.getD i (false,⟨#[]⟩),Xj hi,?_⟩
  rw [decide_eq_false (by omega)];decide
theorem Ydr{r:RWL}(h:∀k,k<r.length→(r.getD k (false,⟨#[]⟩)).2.size≤4):smR r=decide ((r.length:Int)≤7):=by
 unfold smR
 rw [show(r.all fun c=>decide (c.2.size≤4))=true from ?_,Bool.true_and]
 ·exact decide_eq_decide.2 (by omega)
 ·rw [List.all_eq_true]
  intro c hc
  obtain⟨k,hk,rfl⟩:=List.mem_iff_getElem.1 hc
  have:=h k hk
  rw [List.getD_eq_getElem?_getD,List.getElem?_eq_getElem hk]at this
  exact decide_eq_true this
theorem smR_le{r:RWL}(h:smR r=true):r.length≤7∧∀c∈r,c.2.size≤4:=by
 unfold smR at h
 rw [Bool.and_eq_true,List.all_eq_true]at h
 exact⟨of_decide_eq_true h.2,fun c hc=>of_decide_eq_true (h.1 c hc)⟩
def enR(z:RZ):Bool:=decide (z.1.2.size≤4) && decide (z.2.2.size≤4)
theorem enR_1{z:RZ}(h:(4:Int)<(z.1.2.size:Int)):enR z=false:=by unfold enR;rw [decide_eq_false (by omega),Bool.false_and]
theorem enR_2{z:RZ}(h:(4:Int)<(z.2.2.size:Int)):enR z=false:=by unfold enR;rw [decide_eq_false (p:=z.2.2.size≤4) (by omega),Bool.and_false]
theorem enR_3{z:RZ}(h1:¬(4:Int)<(z.1.2.size:Int))(h2:¬(4:Int)<(z.2.2.size:Int)):enR z=true:=by unfold enR;rw [decide_eq_true (by omega),decide_eq_true (by omega)];rfl
theorem Zo8{zs:List RZ}{i:Nat}(hi:i<zs.length)(h:enR (zs.getD i Q0)=false):zs.all enR=false:=by
 rw [List.all_eq_false];exact⟨zs.getD i Q0,Xj hi,by rw [h];decide⟩
theorem Ye7{zs:List RZ}(h:∀k,k<zs.length→enR (zs.getD k Q0)=true):zs.all enR=true:=by
 rw [List.all_eq_true]
 intro c hc
 obtain⟨k,hk,rfl⟩:=List.mem_iff_getElem.1 hc
 have:=h k hk
 rwa [List.getD_eq_getElem?_getD,List.getElem?_eq_getElem hk]at this
theorem Ycs{xs:List Int}(hx:Tr xs)(h0:xs≠[])(hs:Sz 260 xs)(hl:xs.length≤8):Ar 13 xs∧Sz 390 (sqf 13 xs)∧(sqf 13 xs).length≤8:=by
 obtain⟨h1,h2,h3,h4⟩:=chF 13 hx h0 hs (by omega) (by omega) (by omega)
 exact⟨h1,h2,by omega⟩
theorem Zmh{xs:List Int}(hv:Vp xs)(h0:xs≠[])(hs:Sz 260 xs)(hl:xs.length≤8) :
  Vp (Qj xs)∧Vp (Qi (Qj xs))∧eok 13 (Qj xs) (Qi (Qj xs))∧Kn (Xf (eu 13 (Qj xs) (Qi (Qj xs))))=Ms 13 (Qj xs) (Qi (Qj xs))∧
  Vp (Ms 13 (Qj xs) (Qi (Qj xs)))∧Ms 13 (Qj xs) (Qi (Qj xs))≠[]∧pdv (Qj xs) (Ms 13 (Qj xs) (Qi (Qj xs)))∧
  Pi (Qj xs)≤260∧Pi (Ms 13 (Qj xs) (Qi (Qj xs)))≤390∧(Qj xs).length≤8∧Vp (sqf 13 xs)∧sqf 13 xs≠[]∧Qj (sqf 13 xs)=sqf 13 xs∧(Ms 13 (Qj xs) (Qi (Qj xs))).length≤8:=by
 have hn:=Znp hs
 have hln:=Ng hv.tr
 have ht:Tr (Qj xs):=Mp (Qf hv.tr)
 have hd:=Fh hn (by omega)
 have hld:=Nv (Qj xs)
 have htd:Tr (Qi (Qj xs)):=Mz ht
 have m1:=Oi hn
 have m2:=Oi hd
 have l0:=List.length_pos_iff.2 h0
 obtain⟨hC,hq,hql⟩:=Ycs hv.tr h0 hs hl
 have hok:eok 13 (gA (Qj xs) (Qi (Qj xs))) (gB (Qj xs) (Qi (Qj xs))):=hC.1.2.2.1
 have hok2:eok 13 (Qj xs) (Qi (Qj xs)):=
  (Zv8 (n:=265) (s:=5) (K:=271) (by omega) ht htd (hn.mono (by omega)) hd (by omega) (by omega) (Ya8 (by omega) (by omega) (by omega)) (Nat.le_trans (Nat.mul_le_mul (show(Qj xs).length+1≤9 by omega) (show 265+1≤300 by omega)) (by decide)) (by omega)).1
 obtain⟨f1,f2,f3,f4,f5,f6⟩:=Mi (F:=13) hv.tr h0 hok
 have hg:=Zdt (F:=13) ht htd
 have hn0:=Zhs hv.tr h0
 have hK:kkR 24 13*(24+1)^13<2^130:=by decide +kernel
 have hgs:=Fy (L:=13) (R:=24) hg f2 hn hn0 ht (by omega) (by decide) hK (by rw [Bt];exact f4)
 have hvn:=Zsr hv
 have hvd:Vp (Qi (Qj xs)):=⟨hd.mono (by omega),htd,by omega⟩
 have hlq:=Nz f2 hg f3 f5
 rw [←f4]at hlq
 have lq:=List.length_pos_iff.2 f3
 exact⟨hvn,hvd,hok2,Ye3 ht htd hok2 hok,Zuf hvn hvd hok,f5,f1,m1,Oi hgs,by omega,Zjm hv h0 hC.1,f3,f6,by omega⟩
structure RI (xs q:List Int):Prop where
 v:Vp q
 ne:q≠[]
 s:Sz 200 q
 l:q.length≤7
 d:Dp xs (Qj q)
theorem RI.start{xs:List Int}(h:Cvd xs)(h0:xs≠[]):RI xs xs:=⟨h.v,h0,h.s.mono (by omega),h.l,Dp.start h.v.tr h0⟩
theorem Zzb{q:List Int}{n:Nat}{e:Int}(he:e=1∨e=-1)(h:Sz n q):Sz n (Xw q e):=fun i=>by
 rw [Qo]
 have:=h i
 rcases he with rfl | rfl
 ·rw [Int.mul_one];exact this
 ·rw [Int.mul_neg_one,Int.natAbs_neg];exact this
theorem RI.step{xs q:List Int}(h:Cvd xs)(h0:xs≠[])(hI:RI xs q) :
  Tr (sqf 13 q)∧Pi (sqf 13 q)≤330∧(sqf 13 q).length≤7∧0<(sqf 13 q).length∧Ql q≠0∧Sz 200 (Xw (Xf q) 1)∧Tr (Xw (Xf q) 1)∧(Xw (Xf q) 1).length=q.length∧pdv (Xw (Xf q) 1) (sqf 13 q)∧
  Vp (Mr 13 q)∧Mr 13 q≠[]∧Sz 200 (Mr 13 q)∧(Mr 13 q).length≤7∧Ql (Mr 13 q)≠0∧Xf (Mr 13 q)=Mr 13 q∧
  Tr (sqf 13 (Mr 13 q))∧Pi (sqf 13 (Mr 13 q))≤330∧(sqf 13 (Mr 13 q)).length≤7∧0<(sqf 13 (Mr 13 q)).length∧pdv (sqf 13 q) (sqf 13 (Mr 13 q))∧Sz 500 (Kt (sqf 13 q) (sqf 13 (Mr 13 q)))∧(Kt (sqf 13 q) (sqf 13 (Mr 13 q))).length≤7∧
  pdv (Mr 13 q) (sqf 13 (Mr 13 q))∧RI xs (Ab 13 q)∧((sqf 13 q).length≠1→(Ab 13 q).length<q.length):=by
 have hl:=h.l
 have hD:=hI.d
 have hok0:=(hD.ok h.v.tr h0 h.s (by omega) (by omega) (show xs.length≤13+1 by omega)).2
 have hok:Ez 13 q:=by unfold Ez at hok0 ⊢;rwa [hD.2.2.1]at hok0
 have hg:=hD.next hok0
 have hgn:Nw 13 (Qj q)=Nw 13 q:=Zi6 hD.2.2.1
 have hsn:sqf 13 (Qj q)=sqf 13 q:=Cd hD.2.2.1
 rw [hgn]at hg
 have hok2:=(hg.ok h.v.tr h0 h.s (by omega) (by omega) (show xs.length≤13+1 by omega)).2
 have hg2:=hg.next hok2
 obtain⟨⟨e,he,r1,r2,r3,r4,r5,r6⟩,r7,r8,r9,r10,r11,r12⟩:=Zj6 hI.v.tr hI.ne hok hok2
 obtain⟨-,-,-,-,-,-,-,-,-,-,-,a12,a13,a14,-,a16,-,-⟩:=Zd2 h h0 hD
 obtain⟨-,-,-,-,-,-,-,-,-,-,-,b12,b13,b14,-,b16,b17,-⟩:=Zd2 h h0 hg
 rw [hsn]at a12 a13 a14 a16
 have hsl:sqf 13 (Mr 13 q)=sqf 13 (Nw 13 q):=Cd (by rw [r7,hg.2.2.1])
 obtain⟨g1,g2⟩:=Zg2 h h0 hg
 obtain⟨g3,g4⟩:=Zg2 h h0 hg2
 have e0:e≠0:=by rcases he with rfl | rfl<;>decide
 have hLs:Sz 200 (Mr 13 q):=by rw [r3];exact Zzb he g1
 have hLl:(Mr 13 q).length≤7:=by rw [r3];have:=Hq (Nw 13 q) e;omega
 have hLv:Vp (Mr 13 q):=⟨hLs.mono (by omega),r9,by omega⟩
 have hRs:Sz 200 (Ab 13 q):=by rw [r6];exact Zzb he g3
 have hRl:(Ab 13 q).length≤(Nw 13 (Nw 13 q)).length:=by rw [r6];exact Hq _ e
 obtain⟨o1,o2,o3,o4⟩:=Cr hI.v.tr hI.ne hok hok2
 have hK:kkR 24 13*(24+1)^13<2^130:=by decide +kernel
 have hos:=Fy (L:=13) (R:=24) o3 b12.tr a13 a16 a12.tr (by omega) (by decide) hK o2
 have hlq:=Nz o3 b12.tr o4 b16
 rw [←o2]at hlq
 have lb:=List.length_pos_iff.2 b16
 have la:=List.length_pos_iff.2 a16
 have lo:=List.length_pos_iff.2 o4
 have hm:Xw (Xf q) 1=Xf q:=by
  refine(Oh _ _).ext (Qf hI.v.tr) fun i=>?_
  rw [Qo,Int.mul_one]
 have hx:=Nb hI.v.tr hI.ne hok
 have hx2:=Nb hg.1 hg.2.1 hok2
 rw [hsl]
 refine⟨a12.tr,Oi a13,by omega,la,hI.v.ne hI.ne,by rw [hm];exact Fg hI.s,Oh _ _,by rw [hm,Xd],by rw [r1];exact r2,hLv,r10,hLs,hLl,hLv.ne r10,r4,b12.tr,Oi b13,b14,lb,o1,hos.mono (by omega),?_,r5,⟨⟨hRs.mono (by omega),r11,by omega⟩,r12,hRs,by omega,by rw [r8];exact hg2⟩,fun hne=>?_⟩
 ·show(Be 13 q).length≤7;omega
 ·have h1:=hx.2.2.2.2
  have h2:=hx2.2.2.2.2
  omega
theorem rodd_1{F f:Nat}{p:List Int}(h:(sqf F p).length=1):Zcz F f p=sqf F p:=by
 cases f with
 | zero=>rfl
 | succ f=>unfold Zcz;rw [if_pos h]
theorem rodd_s{F f:Nat}{p:List Int}(h:(sqf F p).length≠1):Zcz F (f+1) p=Ou (Kt (sqf F p) (sqf F (Mr F p))) (Zcz F f (Ab F p)):=by
 conv=>lhs;unfold Zcz
 rw [if_neg h]
theorem Yau{F n:Nat}{p:List Int}(hp:Tr p)(h0:p≠[])(hs:Sz n p)(hn:n≤130)(hl:p.length≤13)(hF:p.length≤F+1):∀(f:Nat) (q:List Int),Dp p q→q.length≤f→∃a:List Int,Tr a∧q=Ou a (Cw F f q):=by
 intro f
 induction f with
 | zero=>intro q hq hlq;have:=List.length_pos_iff.2 hq.2.1;omega
 | succ f ih=>
  intro q hq hlq
  have hok:=(hq.ok hp h0 hs hn hl hF).2
  have hg:=hq.next hok
  have hok2:=(hg.ok hp h0 hs hn hl hF).2
  have hg2:=hg.next hok2
  unfold Cw
  by_cases c1:(sqf F q).length=1
  ·rw [if_pos c1]
   obtain⟨s1,s2,s3⟩:=Zf1 hq.1 hq.2.1 hok c1
   refine⟨[1],.inr (show cf [1] 0≠0 by decide),hq.1.ext (Om _ _) fun i=>Lr (fun x=>?_) i⟩
   rw [Xy,s1,Yep hq.1 hq.2.2.1 s2,Nu];push_cast;grind
  ·rw [if_neg c1]
   have lq:2≤q.length:=by
    obtain⟨f1,f2,f3,f4,f5,f6⟩:=Mi (F:=F) hq.1 hq.2.1 hok
    obtain⟨a1,a2,a3,a4,a5⟩:=Nb hq.1 hq.2.1 hok
    have l1:=List.length_pos_iff.2 f3
    have l2:=List.length_pos_iff.2 a2
    omega
   have lt1:=Zk0 hq.1 hq.2.1 hok lq
   obtain⟨a1,a2,a3,a4,a5⟩:=Nb hq.1 hq.2.1 hok
   obtain⟨b1,b2,b3,b4,b5⟩:=Nb hg.1 hg.2.1 hok2
   obtain⟨-,t2,t3,-,-,-⟩:=Mi (F:=F) hg.1 hg.2.1 hok2
   have lb:=List.length_pos_iff.2 t3
   obtain⟨A,hA,hB⟩:=ih _ hg2 (by omega)
   obtain⟨-,o2,o3,o4⟩:=Cr hq.1 hq.2.1 hok hok2
   rw [hq.2.2.1]at a4
   rw [a3]at b4
   refine⟨Ou (Ou (sqf F (Nw F q)) (sqf F (Nw F q))) A,Om _ _,hq.1.ext (Om _ _) fun i=>Lr (fun x=>?_) i⟩
   have e1:Zw q x=Zw (sqf F q) x*Zw (Nw F q) x:=by rw [←Xy,←a4]
   have e2:Zw (sqf F q) x=Zw (Be F q) x*Zw (sqf F (Nw F q)) x:=by rw [←Xy,←o2]
   have e3:Zw (Nw F q) x=Zw (sqf F (Nw F q)) x*Zw (Nw F (Nw F q)) x:=by rw [←Xy,←b4]
   have e4:Zw (Nw F (Nw F q)) x=Zw A x*Zw (Cw F f (Nw F (Nw F q))) x:=by rw [←Xy,←hB]
   rw [Xy,Xy,Xy,Xy,e1,e2,e3,e4]
   show _=_*(Zw (Be F q) x*_)
   generalize Zw (sqf F (Nw F q)) x=S
   grind
theorem RI.size{xs q:List Int}(h:Cvd xs)(h0:xs≠[])(hI:RI xs q){f:Nat}(hf:q.length≤f):Tr (Zcz 13 f q)∧Sz 400 (Zcz 13 f q)∧(Zcz 13 f q).length≤7:=by
 have hl:=h.l
 have hD:=hI.d
 have e:Zcz 13 f q=Cw 13 f (Qj q):=by
  rw [Zu5 h.v.tr h0 h.s (by omega) (by omega) (by omega) f q hI.v.tr hI.ne hD]
  exact Zkd hD.2.2.1.symm f
 have hlq:=Ng hI.v.tr
 have hll:=hI.l
 obtain⟨A,hA,hB⟩:=Yau h.v.tr h0 h.s (by omega) (by omega) (show xs.length≤13+1 by omega) f (Qj q) hD (by omega)
 obtain⟨d1,d2⟩:=Zg2 h h0 hD
 have hok0:=(hD.ok h.v.tr h0 h.s (by omega) (by omega) (show xs.length≤13+1 by omega)).2
 have ht:=Zi1 (F:=13) (p:=xs) (f:=f) hD.1 hD.2.1 hok0
 rw [e]
 have hK:kkR 24 13*(24+1)^13<2^130:=by decide +kernel
 have p0:Cw 13 f (Qj q)≠[]:=fun e2=>hD.2.1 (by rw [hB,e2,Zfc])
 have a0:A≠[]:=fun e2=>hD.2.1 (by rw [hB,e2,Fw])
 have hl2:=Nz hA ht a0 p0
 rw [←hB]at hl2
 have:=List.length_pos_iff.2 a0
 exact⟨ht,(Fy (L:=13) (R:=24) ht hA d1 hD.2.1 hD.1 (by omega) (by decide) hK (by rw [Bt];exact hB)).mono (by omega),by omega⟩
theorem Zxp{xs:List Int}(h:Cvd xs)(h0:xs≠[]):Zcz 13 xs.length xs=Kf xs:=by
 have hl:=h.l
 exact(Ya7 h.v.tr h0 h.s (by omega) (by omega) (show xs.length≤13+1 by omega)).symm
theorem Zzn{r:RWL}(h:smR r=true)(hok:okP r=true):Cvd (dec r)∧Sz 32 (dec r)∧(dec r).length=r.length:=by
 obtain⟨h1,h2⟩:=smR_le h
 obtain⟨h3,h4⟩:=Zpc hok
 have h5:=congrArg List.length h4
 rw [List.length_map]at h5
 have hs:Sz 32 (dec r):=Sz.of_mem fun c hc=>by
  have h6:=h2 (wr c) (by rw [h4];exact List.mem_map_of_mem hc)
  exact Zne 4 h6
 exact⟨⟨h3,hs.mono (by omega),by omega⟩,hs,h5.symm⟩
noncomputable def odR (r:RWL):List Int×Int:=if okP r=true then(if(dec r).length=0 then([],3)else(Kf (dec r),0))else([],2)
theorem Zv2(x y:Int):fat x y []=0:=by unfold fat;rw [show pev [] x y=0 from rfl];rfl
theorem Zk6{p:List Int}(h:p.length=0):Ol p=[]:=by unfold Ol;rw [h];rfl
theorem Zxc(p:List Int)(x y:Int):vlu (Ol p) (x,y)=fat x y p:=by
  by_cases h:p.length=0
  · obtain rfl:=List.eq_nil_of_length_eq_zero h
    rw [Zk6 h,Zv2];rfl
  · rw [Zei h];rfl
theorem Zm4(a:Int)(l:List Int):Zio (a :: l)=if a≠0 then a else Zio l:=by
  by_cases h:a=0
  · rw [if_neg (fun e=>e h)]
    subst h
    rfl
  · rw [if_pos h]
    unfold Zio
    simp [h]
theorem Zsk{p:List Int}{x y:Int}(h:p.length=0∨fat x y p≠0):aft (Ol p) (x,y)=fat x y p:=by
  by_cases h0:p.length=0
  · obtain rfl:=List.eq_nil_of_length_eq_zero h0
    rw [Zk6 h0,Zv2];rfl
  · have h1:=h.resolve_left h0
    rw [Zei h0]
    unfold aft
    rw [List.map_cons,Zm4,if_pos h1]
theorem aft_go{p:List Int}{x y:Int}(h0:p.length≠0)(h1:fat x y p=0):aft (Ol p) (x,y)=aft (Ol (Qi p)) (x,y):=by
  rw [Zei h0]
  unfold aft
  rw [List.map_cons,Zm4,if_neg (fun e=>e h1)]
theorem Zxb{p:List Int}{k:Nat}(hv:Vp p)(hs:Sz k p)(hk:k≤60000):Vp (Qi p):=by
  have hl:=hv.len
  have h:=Fh hs (by omega)
  exact⟨h.mono (by omega),Mz hv.tr,by have:=Nv p;omega⟩
theorem Zwn{p:List Int}(h:p.length≠0)(x y:Int):cnt 13 (Kf p) x y=chv (Bb p) (x,y):=by rw [Zpk h];rfl
theorem Ycr{p:List Int}(hd:Cvd p)(h:p.length≠0){x y:Int}(hy:0<y):fat x y ((Bb p).getD 0 [])=0↔fat x y (Kf p)=0:=by
  have hne:p≠[]:=fun e=>h (by rw [e];rfl)
  obtain⟨o1,-⟩:=Zb3 hd hne
  rw [Zpk h]
  have e:(chn 13 (Kf p)).getD 0 []=sqf 13 (Kf p):=by
    unfold chn Li
    split<;>rfl
  rw [e]
  have z:=o1.zero ((x:Rat)/(y:Rat))
  rw [Zeg hy _,Zeg hy _]
  constructor
  · intro h1
    have := z.1 (by rcases Na (Zw (sqf 13 (Kf p)) ((x : Rat) / (y : Rat))) with ⟨h5, h6⟩ | ⟨h5, h6⟩ | ⟨h5, h6⟩
                    · rw [h6]at h1;exact absurd h1 (by decide)
                    · rw [h6]at h1;exact absurd h1 (by decide)
                    · exact h5)
    rw [this];decide
  · intro h1
    have := z.2 (by rcases Na (Zw (Kf p) ((x : Rat) / (y : Rat))) with ⟨h5, h6⟩ | ⟨h5, h6⟩ | ⟨h5, h6⟩
                    · rw [h6]at h1;exact absurd h1 (by decide)
                    · rw [h6]at h1;exact absurd h1 (by decide)
                    · exact h5)
    rw [this];decide
theorem Zwt{p:List Int}(h:p.length≠0):(Bb p).length≠0:=by
  rw [Zpk h]
  unfold chn Li
  split<;>simp
theorem Yfk{p:List Int}(h:p.length=0)(a b:R2):crb (Bb p) a b=false:=by
  unfold Bb;rw [if_pos h];rfl
theorem crx_t{p:List Int}(hd:Cvd p)(h:p.length≠0){x y x2 y2:Int}(hy:0<y2)(hz:fat x2 y2 (Kf p)=0):crb (Bb p) (x,y) (x2,y2)=decide (0<chv (Bb p) (x,y)-chv (Bb p) (x2,y2)-1):=by
  unfold crb;rw [if_neg (Zwt h),if_pos ((Ycr hd h hy).2 hz)]
theorem crx_f{p:List Int}(hd:Cvd p)(h:p.length≠0){x y x2 y2:Int}(hy:0<y2)(hz:¬fat x2 y2 (Kf p)=0):crb (Bb p) (x,y) (x2,y2)=decide (0<chv (Bb p) (x,y)-chv (Bb p) (x2,y2)):=by
  unfold crb;rw [if_neg (Zwt h),if_neg (fun e=>hz ((Ycr hd h hy).1 e)),Int.sub_zero]
theorem Ye5{p:List Int}{a:R2}(ha:0<a.2):fat a.1 a.2 p<0↔Zw p (qv a)<0:=by
  rw [show fat a.1 a.2 p=Ev (Zw p (qv a))from Zeg ha p]
  rcases Na (Zw p (qv a))with⟨h5,h6⟩ | ⟨h5,h6⟩ | ⟨h5,h6⟩
  · rw [h6];constructor
    · intro h;exact absurd h (by decide)
    · intro h;grind
  · rw [h6];exact⟨fun _=>h5,fun _=>by decide⟩
  · rw [h6,h5];constructor
    · intro h;exact absurd h (by decide)
    · intro h;exact absurd h (by decide)
abbrev rqz (a:R2):RZ:=((decide (a.1<0),Xp a.1.natAbs),(decide (a.2<0),Xp a.2.natAbs))
theorem bl_b4{n:Nat}(h:(Xp n).size≤4):bl n≤32:=Zne 4 h
theorem e32_q{z:RZ}(hq:Bd z=true)(he:enR z=true):∃a:R2,E32 a∧z=rqz a:=by
 obtain⟨h1,h2,h3,h4⟩:=Yed hq
 refine⟨(qx z,qy z),?_,h4⟩
 rw [h4]at he
 unfold enR at he
 rw [Bool.and_eq_true]at he
 exact⟨h3,bl_b4 (of_decide_eq_true he.1),bl_b4 (of_decide_eq_true he.2)⟩
theorem Zl4{z1 z2:RZ}(h:[z1,z2].all enR=true):enR z1=true∧enR z2=true:=by
 simpa using h
theorem Fnd.fat{xs:List Int}{s t:Rat}{m:R2}(h:Fnd xs s t m):Go.Sky.fat m.1 m.2 xs<0:=(Ye5 h.lw.1).2 h.ng
abbrev Cv:=Int×RZ×RZ
abbrev P0r:Cv:=(0,Q0,Q0)
abbrev Hh (z:Cv):Value:= .agg #[.int .i64 z.1,.bool z.2.1.1.1,.string z.2.1.1.2,.bool z.2.1.2.1,.string z.2.1.2.2,.bool z.2.2.1.1,.string z.2.2.1.2,.bool z.2.2.2.1,.string z.2.2.2.2]
def Yd9(z:PTs):Cv:=(z.1,rqz z.2.1,rqz z.2.2)
def vpz(z:Cv):Prop:=(z.1=1∨z.1=2)∧Bd z.2.1=true∧Bd z.2.2=true
noncomputable def Fa (z:RZ):R2:=(qx z,qy z)
def fpz(z:Cv):Prop:=efit (Fa z.2.1)=true∧efit (Fa z.2.2)=true
theorem Zoc{z:RZ}(h:Bd z=true):z=rqz (Fa z):=(Yed h).2.2.2
theorem Zqc(u:Value)(ps:List PTs)(w:World)(h:(Px 9 Hh u (ps.map Yd9)).holds w):(Px 9 Zaf u ps).holds w:=by
 obtain⟨⟨a,c,h0,h1,h2,h3⟩,hb⟩:=h
 rw [List.length_map]at h0 h1
 refine⟨⟨a,c,h0,h1,h2,?_⟩,hb⟩
 rcases h3 with h3 | ⟨g,off,h3,h4⟩
 ·left;simpa using h3
 ·right
  refine⟨g,off,h3,fun i x hi j t hj=>?_⟩
  exact h4 i (Yd9 x) (by rw [List.getElem?_map,hi];rfl) j t hj
def BadE(ls:List Cv)(e:Int):Prop:=(¬(ls.length≤200∧∀z∈ls,vpz z)→e=2)∧(¬(∀z∈ls,fpz z)→e≠0)
theorem Zdb{ls:List Cv}{P:Cv→Prop}{i:Nat}(hi:i=ls.length)(h:∀k,k<i→P (ls.getD k P0r)):∀z∈ls,P z:=fun z hz=>by
 subst hi
 obtain⟨k,hk,rfl⟩:=List.mem_iff_getElem.1 hz
 have:=h k hk
 rwa [List.getD_eq_getElem?_getD,List.getElem?_eq_getElem hk]at this
theorem Zw5{ls:List Cv}{i:Nat}{e:Int}(hi:i=ls.length)(hl:ls.length≤200)(hv:∀k,k<i→vpz (ls.getD k P0r))(he:e≠0):BadE ls e:=
 ⟨fun h=>absurd ⟨hl,Zdb hi hv⟩ h,fun _=>he⟩
theorem BadE.ne{ls:List Cv}{e:Int}(hb:¬((ls.length≤200∧∀z∈ls,vpz z)∧∀z∈ls,fpz z))(h:BadE ls e):e≠0:=by
 by_cases hv:ls.length≤200∧∀z∈ls,vpz z
 ·exact h.2 fun hf=>hb ⟨hv,hf⟩
 ·rw [h.1 hv];decide
theorem Zef{ls:List Cv}{i:Nat}{fl:Bool}(h:fl=true∨∀k,k<i→fpz (ls.getD k P0r))(hf:fl=false)(h1:(!efit (Fa (ls.getD i P0r).2.1))=false):(!efit (Fa (ls.getD i P0r).2.2))=true∨∀k,k<i+1→fpz (ls.getD k P0r):=by
 cases e:efit (Fa (ls.getD i P0r).2.2)with
 | false=>exact .inl rfl
 | true=>
  refine .inr fun k hk=>?_
  rcases Nat.lt_succ_iff_lt_or_eq.1 hk with h9 | h9
  ·exact h.resolve_left (by rw [hf];decide) k h9
  ·subst h9;exact⟨Ic h1,e⟩
open Go.ChangeShapes Go.WideShapes Go.ChangeAt Go.RowKit Go.Joins Go.Deep
open Go.Proofs
variable {P:Program} {W:World} {H:Type} {enc:TypeId×Value→H}
theorem Zh9 {base:Nat} {spare:Nat→Bool} {held:Bool} {fuel:Nat} {t e:TypeId} {g0 g1 f0 f1:Field} {cs:List Value} {x:DataW H×List MemPlace}
  (hg:P.underlying t=some (.struct #[g0,g1])) (ht:P.underlying e=some (.struct #[f0,f1])) (hC4:P.cellsOf t=4) (hC:P.cellsOf e=2) (hg0:g0.type=e) (hg1:g1.type=e) (hp0:g0.offset=0) (hp1:g1.offset=2)
  (hc0:P.cellsOf f0.type=1) (hc1:P.cellsOf f1.type=1) (h0:P.underlying f0.type=some .bool) (h1:P.underlying f1.type=some .string) (ho0:f0.offset=0) (ho1:f1.offset=1)
  (h:DataW.trod enc P W base spare held fuel t cs=some x):∃z:RZ,cs=[.bool z.1.1,.string z.1.2,.bool z.2.1,.string z.2.2]:=by
 obtain⟨y0,y1,n,hx,hl,e0,e1⟩:=trod_struct2 hg h
 rw [hg0,hp0,hC]at e0
 rw [hg1,hp1,hC]at e1
 obtain⟨b,s,hb,_⟩:=Bw ht hC ho0 ho1 hc0 hc1 h0 h1 e0
 obtain⟨c,u,hc,_⟩:=Bw ht hC ho0 ho1 hc0 hc1 h0 h1 e1
 refine⟨((b,s),(c,u)),?_⟩
 rw [hC4]at hl
 match cs,hl with
 | [a,b',c',d'],_=>simp_all
theorem Zte {base:Nat} {spare:Nat→Bool} {held:Bool} {fuel:Nat} {q t e:TypeId} {k0 k1 k2 g0 g1 f0 f1:Field} {cs:List Value} {x:DataW H×List MemPlace}
  (hq:P.underlying q=some (.struct #[k0,k1,k2])) (hC9:P.cellsOf q=9) (hk:P.underlying k0.type=some (.int .i64)) (hkc:P.cellsOf k0.type=1) (hk0:k0.offset=0) (hk1:k1.offset=1) (hk2:k2.offset=5) (ht1:k1.type=t) (ht2:k2.type=t)
  (hg:P.underlying t=some (.struct #[g0,g1])) (ht:P.underlying e=some (.struct #[f0,f1])) (hC4:P.cellsOf t=4) (hC:P.cellsOf e=2) (hg0:g0.type=e) (hg1:g1.type=e) (hp0:g0.offset=0) (hp1:g1.offset=2)
  (hc0:P.cellsOf f0.type=1) (hc1:P.cellsOf f1.type=1) (h0:P.underlying f0.type=some .bool) (h1:P.underlying f1.type=some .string) (ho0:f0.offset=0) (ho1:f1.offset=1)
  (h:DataW.trod enc P W base spare held fuel q cs=some x):∃z:Cv,cs=(Hh z).cells.toList:=by
 obtain⟨y0,y1,y2,n,hx,hl,e0,e1,e2⟩:=trod_struct3 hq h
 rw [hk0,hkc]at e0
 rw [hk1,ht1,hC4]at e1
 rw [hk2,ht2,hC4]at e2
 obtain⟨m,hm,_⟩:=DataW.trod_int hk e0
 obtain⟨z1,hz1⟩:=Zh9 hg ht hC4 hC hg0 hg1 hp0 hp1 hc0 hc1 h0 h1 ho0 ho1 e1
 obtain⟨z2,hz2⟩:=Zh9 hg ht hC4 hC hg0 hg1 hp0 hp1 hc0 hc1 h0 h1 ho0 ho1 e2
 refine⟨(m,z1,z2),?_⟩
 rw [hC9]at hl
 match cs,hl with
 | [a,b,c,d,e',f,g,h',i],_=>simp_all [Value.cells]
theorem Zth {t0 q t e:TypeId} {k0 k1 k2 g0 g1 f0 f1:Field} {v:Value} {d:DataW H} {p:List MemPlace} (hs:P.underlying t0=some (.slice q))
  (hq:P.underlying q=some (.struct #[k0,k1,k2])) (hC9:P.cellsOf q=9) (hk:P.underlying k0.type=some (.int .i64)) (hkc:P.cellsOf k0.type=1) (hk0:k0.offset=0) (hk1:k1.offset=1) (hk2:k2.offset=5) (ht1:k1.type=t) (ht2:k2.type=t)
  (hg:P.underlying t=some (.struct #[g0,g1])) (ht:P.underlying e=some (.struct #[f0,f1])) (hC4:P.cellsOf t=4) (hC:P.cellsOf e=2) (hg0:g0.type=e) (hg1:g1.type=e) (hp0:g0.offset=0) (hp1:g1.offset=2)
  (hc0:P.cellsOf f0.type=1) (hc1:P.cellsOf f1.type=1) (h0:P.underlying f0.type=some .bool) (h1:P.underlying f1.type=some .string) (ho0:f0.offset=0) (ho1:f1.offset=1)
  {r:Reach} {b0:Nat} (hv:Value.okWide P W r b0 t0 v) (h:DataW.Trod enc P W 0 (fun _=>true) true t0 v d p):∃ls:List Cv,(Px 9 Hh v ls).holds W:=by
 obtain⟨a0,len,cap,rfl⟩:=okWide_slice hs hv
 obtain⟨fuel,hf⟩:=h
 rcases open_slice hs hf with⟨hcs,_⟩ | ⟨a,len',cap',m,n,D,Pl,hcs,_,hl,hm,hmm,hx,hel⟩
 ·simp [Value.cells]at hcs
  obtain⟨rfl,rfl,rfl⟩:=hcs
  exact⟨[],Za7 9 Hh W⟩
 ·simp [Value.cells]at hcs
  obtain⟨rfl,rfl,rfl⟩:=hcs
  simp at hmm
  subst hmm
  obtain⟨xs,hxl,hxs⟩:=Zdl (p:=fun i (z:Cv)=>W.cells? 0 (a.add (i*9)) 9=some (Hh z).cells.toList) len fun i hi=>by
   obtain⟨cs',h2,h3⟩:=hel i (by omega)
   rw [hC9]at h2
   obtain⟨z,rfl⟩:=Zte hq hC9 hk hkc hk0 hk1 hk2 ht1 ht2 hg ht hC4 hC hg0 hg1 hp0 hp1 hc0 hc1 h0 h1 ho0 ho1 h3
   exact⟨z,h2⟩
  refine⟨xs,⟨some a,m,by rw [hxl],by omega,hm,?_⟩,fun b hb=>?_⟩
  ·rcases Nat.eq_zero_or_pos len with hz | hz
   ·exact .inl (List.eq_nil_of_length_eq_zero (by omega))
   ·right
    obtain⟨g,off,spot⟩:=a
    obtain⟨hsp,_⟩:=Zb1 hs hv
    simp only at hsp
    subst hsp
    refine⟨g,off,rfl,fun i x hi j u hj=>?_⟩
    obtain⟨_,_,hc⟩:=World.cells?_some (hxs i x hi)
    have hj2:j<9:=by
     rcases Nat.lt_or_ge j 9 with h | h
     ·exact h
     ·rw [List.getElem?_eq_none (by simp [Value.cells];omega)]at hj;cases hj
    have:=hc j hj2
    simp only [Mv]at this
    rw [this]
    exact hj
  ·cases hb
   exact(Zb1 hs hv).2
end Go.Sky
namespace Go.Sky
open Go.Proofs.Tryz
open Go.Proofs
set_option maxRecDepth 20000
set_option maxHeartbeats 4000000
set_option linter.unusedSimpArgs false
theorem Ybc(v:Value)(xs:List Nat):Cal prog 127 #[v] [Px 1 Lm v xs] true (G:=Unit) (fun _=>True) (fun _=>Iy v (tz xs).length) (fun _=>[Px 1 Lm (Iy v (tz xs).length) (tz xs)]):=by
 refine Yi func127 J ntmps127 J K1 fun w0 sc hw hsc=>?_
 simp only [Zu,Zt]
 refine Nl (Zts (i:=1) J Zi) fun hself=>Nl (Kk (i:=1) J Zi) fun hlen=>Zb<|Ze<|Zp J<|Zc<|Za<|Zb<|Zo<|Oc [] [(0,_)] (fun(k:Nat)=>[(0,Iy v k)]) (fun(k:Nat)=>[(1,Px 1 Lm (Iy v k) (xs.take k))]) (fun(k:Nat)=>(k≤xs.length)∧(tz (xs.take k)=tz xs)) (fun(k:Nat)=>k) xs.length ⟨Nat.le_refl _,by rw [List.take_length]⟩ ⟨by rw [hself];rfl,trivial⟩ ⟨by rw [hself,List.take_length];rfl,rfl,trivial⟩ ?_
 rintro k ⟨hk,ht⟩
 simp only [CA,NA]
 have hl:(xs.take k).length=k:=by rw [List.length_take];omega
 refine Zb<|Zb<|Ze<|mv J<|dt (Yf J J (i:=1) J Zi Qa)<|dt (Pw J J J)<|mv J<|Pf (d:=6) J (fun s21=>?_) (fun s21=>?_)
 ·refine Xh (Yd J J) J J<|Xh (Yd J J) J J<|Xh (Yf J J (i:=1) J Zi Qa) J J<|Xh (Qd J J J) J J<|Xh (Xc (ii:=1) (i:=k-1) J J J J Zi Qa Mk) J J<|Xh (Xr (ii:=1) 0 J J J Zi pU) J J<|Xh (Pj J J J) J J<|dt (Yy J J J)<|Zc<|Za<|Zr J (fun h21=>?_) (fun h21=>?_)
  ·have hstep:=Zui hk (by omega) (by omega:(xs.take k).getD (k-1) 0=0)
   exact Zk<|Za<|Zo<|Ze<|mv J<|mv J<|dt (Yf J J (i:=1) J Zi Qa)<|dt (Qd J J J)<|dt (Zwe (ii:=1) (i:=k-1) J J J J Zi Qa Mk)<|Zp J<|Zc<|Qn<|Qu (Zzy 1 1 (k-1) J J)<|Xk (k-1) ⟨by first | omega | (dsimp only<;>omega),by rw [←ht,←hstep]⟩ (by first | omega | (dsimp only<;>omega)) ⟨by rw [←Eg v k (k-1)];rfl,trivial⟩ ⟨by rw [Eg,List.take_take,Nat.min_eq_left (by omega)];rfl,rfl,trivial⟩
  ·refine Yx<|Zx<|Zx<|Pd<|Za<|Zb<|Ze<|mv J<|Zp J<|Zc<|Za<|Zq ?_
   have hx:tz xs=xs.take k:=by rw [←ht];exact Zfw hk (by omega)
   exact xG hsc () results127 J (by rw [hx,hl]) trivial J (Xe 1 J J J (by rw [hx,hl]) Zm)
 ·refine Xt J J J<|Xt J J J<|Xt J J J<|Xt J J J<|Xt J J J<|Xt J J J<|Xt J J J<|dt (Yh J J J)<|Zc<|Za<|Yp J<|Yx<|Zx<|Zx<|Pd<|Za<|Zb<|Ze<|mv J<|Zp J<|Zc<|Za<|Zq ?_
  have hx:tz xs=xs.take k:=by rw [←ht];exact Zfw hk (by omega)
  exact xG hsc () results127 J (by rw [hx,hl]) trivial J (Xe 1 J J J (by rw [hx,hl]) Zm)
theorem Me(v:Value)(xs:List Nat):Cal prog 127 #[v] [Px 1 Lm v xs] false (G:=Unit) (fun _=>True) (fun _=>Iy v (tz xs).length) (fun _=>[]):=(Ybc v xs).bare
theorem Zvr(v w:Value)(x y:Nat)(hx:bl x≤4294967296)(hy:bl y≤4294967296):Cal prog 171 #[v,w] [Da v x,Da w y] false (G:=Value) (fun r=>True) (fun r=>r) (fun r=>[Da r (x+y)]):=by
 refine Yi func171 J ntmps171 J K2 fun w0 sc hw hsc=>?_
 simp only [Zu,Zt]
 have hX:=Lv x
 have hY:=Lv y
 refine Zb<|Ze<|Zp J<|Zc<|Za<|Iz [] [(0,_),(1,_),(2,_)] (fun(q:Value×Value×Nat×Nat)=>[(0,q.1),(1,q.2.1)]) (fun(q:Value×Value×Nat×Nat)=>[(91,Da q.1 q.2.2.1),(92,Da q.2.1 q.2.2.2)]) (fun(q:Value×Value×Nat×Nat)=>(q.2.2.1+q.2.2.2=x+y)∧((dg U q.2.2.2).length≤(dg U q.2.2.1).length)∧((dg U q.2.2.1).length≤1099511627776)) trivial K3 ?_ ?_
 ·refine Zb<|Ze<|mv J<|dt (Yf J J (i:=1) J Zi Qa)<|mv J<|dt (Yf J J (i:=2) J Zi Qa)<|dt (Xv J J J)<|Zc<|Za<|Zr J (fun h73=>?_) (fun h73=>?_)
  ·exact Ze<|mv J<|mv J<|Zp J<|Zp J<|Zc<|Qu (Pu 2 91 J J J)<|Qu (Pu 1 92 J J J)<|Xo (w,v,y,x) ⟨by first | omega | (dsimp only<;>omega),by first | omega | (dsimp only<;>omega),by first | omega | (dsimp only<;>omega)⟩ K2 K5
  ·exact Zk<|Qu (Pu 1 91 J J J)<|Qu (Pu 2 92 J J J)<|Xo (v,w,x,y) ⟨by first | omega | (dsimp only<;>omega),by first | omega | (dsimp only<;>omega),by first | omega | (dsimp only<;>omega)⟩ K2 K5
 ·rintro⟨va,vb,a,b⟩ ⟨hs,hl,hla⟩
  dsimp only at hs hl hla
  simp only [CA,NA]
  refine Zb<|Ze<|mv J<|dt (Yf J J (i:=91) J Zi Qa)<|dt (Ys J J J)<|tt (Ge (i:=3) (n:=(dg U a).length+1) (by_:=8) (enc:=Lm) 0 J J J J Qa ti149 J pU.cells pU.pos J J J hw) fun v _=>Zp J<|Zc<|Za<|Zb<|Ze<|Zp J<|Zc<|Za<|Zb<|Zb<|Ze<|mv J<|dt (Yf J J (i:=91) J Zi Qa)<|mv J<|Zc<|Za<|Zo<|Oc [(0,_),(1,_),(5,_),(21,_)] [(0,_),(91,_),(92,_),(1,_),(2,_)] (fun(q:Nat×List Nat×Nat)=>[(22,.int .i64 (q.1:Int)),(6,.int .u64 (q.2.2:Int))]) (fun(q:Nat×List Nat×Nat)=>[(3,Ld 1 149 Lm v q.2.1)]) (fun(q:Nat×List Nat×Nat)=>(q.1≤(dg U a).length)∧(q.2.1.length=(dg U a).length+1)∧(∀d∈q.2.1,d<U)∧(q.2.2≤1)∧(Qm U (q.2.1.take q.1)+q.2.2*U^q.1=Qm U ((dg U a).take q.1)+Qm U ((dg U b).take q.1))) (fun(q:Nat×List Nat×Nat)=>(dg U a).length-q.1) (0,List.replicate ((dg U a).length+1) 0,0) ⟨by first | omega | (dsimp only<;>omega),by simp,My _ Ps,by first | omega | (dsimp only<;>omega),by simp [Qm]⟩ K6 K6 ?_
  rintro⟨k,o,c⟩ ⟨hk,hol,hoa,hc,hv⟩
  dsimp only at hk hol hoa hc hv
  simp only [CA,NA]
  refine Zb<|Ze<|dt (Xv J J J)<|Zc<|Za<|Zb<|Zr J (fun h78=>?_) (fun h78=>?_)
  ·refine Zk<|Za<|Zb<|Zo<|Zb<|Ze<|mv J<|Zp J<|Zc<|Za<|Zb<|Ze<|Zp J<|Zc<|Za<|Iz [(0,_),(1,_),(5,_),(6,_),(7,_),(21,_),(22,_)] [(0,_),(3,_),(91,_),(92,_),(1,_),(2,_)] (fun(_:Unit)=>[(8,.int .u64 ((dg U b).getD k 0:Int))]) (fun(_:Unit)=>[]) (fun(_:Unit)=>True) K7 K6 ?_ ?_
   ·refine Zb<|Ze<|mv J<|mv J<|dt (Yf J J (i:=92) J Zi Qa)<|dt (Xv J J J)<|Zc<|Za<|Zr J (fun h80=>?_) (fun h80=>?_)
    ·refine Ze<|mv J<|mv J<|dt (Xc (ii:=92) J J J J Zi Qa Mk J (by first | omega | (simp only [List.length_set];omega)))<|dt (Xr (ii:=92) 0 J J J Zi pU (by first | omega | (simp only [List.length_set];omega)))<|Zp J<|Zc ?_
     try (have hz:(dg U b).getD k 0=0:=by simp [List.getD,List.getElem?_eq_none (by omega:(dg U b).length≤k)])
     exact Xo () trivial ⟨by first | rfl | (rw [hz];rfl),rfl,rfl,rfl,rfl,rfl,rfl,rfl,trivial⟩ K6
    ·refine Zk ?_
     try (have hz:(dg U b).getD k 0=0:=by simp [List.getD,List.getElem?_eq_none (by omega:(dg U b).length≤k)])
     exact Xo () trivial ⟨by first | rfl | (rw [hz];rfl),rfl,rfl,rfl,rfl,rfl,rfl,rfl,trivial⟩ K6
   ·rintro _ -
    simp only [CA,NA]
    exact Ze<|mv J<|mv J<|mv J<|mv J<|dt (Xc (ii:=91) J J J J Zi Qa Mk J (by first | omega | (simp only [List.length_set];omega)))<|dt (Xr (ii:=91) 0 J J J Zi pU (by first | omega | (simp only [List.length_set];omega)))<|mv J<|mv J<|dt (Zpe J J J J (by omega) Zhz)<|mv J<|dt (Zz J J J)<|dt (Zz J J J)<|dt (Xc (ii:=3) J J J J (Xa pU) Qa Mk J (by first | omega | (simp only [List.length_set];omega)))<|tt (Im (i:=3) (enc:=Lm) _ J J J J J J pU J hw (by decide) (by first | omega | (simp only [List.length_set];omega))) fun _ _=>Zp J<|Zc<|Qn<|Za<|Ze<|dt (Ys J J J)<|mv J<|Zc<|Xk (k+1,_,_) ⟨by first | omega | (dsimp only<;>omega),by simp;omega,Kz hoa _ _ (Nat.mod_lt _ Ps),by have h1:=Pk Ps (Lf Pm a) k;have h2:=Pk Ps (Lf Pm b) k;simp only [U]at *;omega,Yc3 hv (by omega)⟩ (by first | omega | (dsimp only<;>omega)) K6 K6
  ·refine Yx<|Zx<|Zx<|Pd<|Za<|Zb ?_
   obtain rfl:k=(dg U a).length:=by omega
   refine Ze<|mv J<|mv J<|dt (Yf J J (i:=91) J Zi Qa)<|mv J<|dt (Xc (ii:=3) J J J J (Xa pU) Qa Mk J (by first | omega | (simp only [List.length_set];omega)))<|tt (Im (i:=3) (enc:=Lm) _ J J J J J J pU J hw (by decide) (by first | omega | (simp only [List.length_set];omega))) fun _ _=>Zc<|Za<|Zb<|Ze<|mv J<|tt (Zh (n:=3) (Me _ _) J J J K1 call127 (Qt 3 J J pU Zg) J hw) fun _ _=>Pp (Zay 3 J J pU)<|Zp J<|Zc<|Za<|Zq ?_
   have hx:tz (o.set (dg U a).length c)=dg U (x+y):=by
    rw [←Ix Pm _ (Kz hoa _ _ (by simp only [U];omega)),←hs]
    congr 1
    conv=>rhs;rw [←Ka Pm a,←Ka Pm b]
    rw [List.take_of_length_le (Nat.le_refl (dg U a).length),Lq U (dg U b) _ hl]at hv
    rw [←hv,←Bg U o _ c (by omega),Lq _ _ _ (by simp;omega)]
   exact xG hsc _ results171 J J trivial J (Nj 3 J J pU hx Zm)
theorem Zgo(v w:Value)(x y:Nat)(hx:bl x≤4294967296)(hxy:y≤x:=by omega):Cal prog 173 #[v,w] [Da v x,Da w y] false (G:=Value) (fun r=>True) (fun r=>r) (fun r=>[Da r (x-y)]):=by
 refine Yi func173 J ntmps173 J K2 fun w0 sc hw hsc=>?_
 simp only [Zu,Zt]
 have hX:=Lv x
 have hY:=Lv y
 have hm:=Ny hxy
 refine Zb<|Ze<|Zp J<|Zc<|Za<|Zb<|Ze<|mv J<|dt (Yf J J (i:=1) J Zi Qa)<|tt (Ge (i:=3) (n:=(dg U x).length) (by_:=8) (enc:=Lm) 0 J J J J Qa ti149 J pU.cells pU.pos J J J hw) fun v _=>Zp J<|Zc<|Za<|Zb<|Ze<|Zp J<|Zc<|Za<|Zb<|Zb<|Ze<|mv J<|dt (Yf J J (i:=1) J Zi Qa)<|mv J<|Zc<|Za<|Zo<|Oc [(0,_),(1,_),(5,_),(13,_)] [(0,_),(1,_),(2,_)] (fun(q:Nat×List Nat×Nat)=>[(14,.int .i64 (q.1:Int)),(6,.int .u64 (q.2.2:Int))]) (fun(q:Nat×List Nat×Nat)=>[(3,Ld 1 149 Lm v q.2.1)]) (fun(q:Nat×List Nat×Nat)=>(q.1≤(dg U x).length)∧(q.2.1.length=(dg U x).length)∧(∀d∈q.2.1,d<U)∧(q.2.2≤1)∧(Qm U (q.2.1.take q.1)+Qm U ((dg U y).take q.1)=Qm U ((dg U x).take q.1)+q.2.2*U^q.1)) (fun(q:Nat×List Nat×Nat)=>(dg U x).length-q.1) (0,List.replicate ((dg U x).length) 0,0) ⟨by first | omega | (dsimp only<;>omega),by simp,My _ Ps,by first | omega | (dsimp only<;>omega),by simp [Qm]⟩ K6 K4 ?_
 rintro⟨k,o,c⟩ ⟨hk,hol,hoa,hc,hv⟩
 dsimp only at hk hol hoa hc hv
 simp only [CA,NA]
 refine Zb<|Ze<|dt (Xv J J J)<|Zc<|Za<|Zb<|Zr J (fun h93=>?_) (fun h93=>?_)
 ·refine Zk<|Za<|Zb<|Zo<|Zb<|Ze<|mv J<|Zp J<|Zc<|Za<|Zb<|Ze<|Zp J<|Zc<|Za<|Iz [(0,_),(1,_),(5,_),(6,_),(7,_),(13,_),(14,_)] [(0,_),(3,_),(1,_),(2,_)] (fun(_:Unit)=>[(8,.int .u64 ((dg U y).getD k 0:Int))]) (fun(_:Unit)=>[]) (fun(_:Unit)=>True) K7 K4 ?_ ?_
  ·refine Zb<|Ze<|mv J<|mv J<|dt (Yf J J (i:=2) J Zi Qa)<|dt (Xv J J J)<|Zc<|Za<|Zr J (fun h95=>?_) (fun h95=>?_)
   ·refine Ze<|mv J<|mv J<|dt (Xc (ii:=2) J J J J Zi Qa Mk J (by first | omega | (simp only [List.length_set];omega)))<|dt (Xr (ii:=2) 0 J J J Zi pU (by first | omega | (simp only [List.length_set];omega)))<|Zp J<|Zc ?_
    try (have hz:(dg U y).getD k 0=0:=by simp [List.getD,List.getElem?_eq_none (by omega:(dg U y).length≤k)])
    exact Xo () trivial ⟨by first | rfl | (rw [hz];rfl),rfl,rfl,rfl,rfl,rfl,rfl,rfl,trivial⟩ K4
   ·refine Zk ?_
    try (have hz:(dg U y).getD k 0=0:=by simp [List.getD,List.getElem?_eq_none (by omega:(dg U y).length≤k)])
    exact Xo () trivial ⟨by first | rfl | (rw [hz];rfl),rfl,rfl,rfl,rfl,rfl,rfl,rfl,trivial⟩ K4
  ·rintro _ -
   simp only [CA,NA]
   exact Ze<|mv J<|mv J<|mv J<|mv J<|dt (Xc (ii:=1) J J J J Zi Qa Mk J (by first | omega | (simp only [List.length_set];omega)))<|dt (Xr (ii:=1) 0 J J J Zi pU (by first | omega | (simp only [List.length_set];omega)))<|mv J<|mv J<|dt (Yfi J J J J (by omega) Zxf)<|mv J<|dt (Zz J J J)<|dt (Zz J J J)<|dt (Xc (ii:=3) J J J J (Xa pU) Qa Mk J (by first | omega | (simp only [List.length_set];omega)))<|tt (Im (i:=3) (enc:=Lm) _ J J J J J J pU J hw (by decide) (by first | omega | (simp only [List.length_set];omega))) fun _ _=>Zp J<|Zc<|Qn<|Za<|Ze<|dt (Ys J J J)<|mv J<|Zc<|Xk (k+1,_,_) ⟨by first | omega | (dsimp only<;>omega),by simp;omega,Kz hoa _ _ (Nat.mod_lt _ Ps),Ycv _ _ _,Zzf hc (Pk Ps (Lf Pm x) k) (Pk Ps (Lf Pm y) k) hv (by omega)⟩ (by first | omega | (dsimp only<;>omega)) K6 K4
 ·refine Yx<|Zx<|Zx<|Pd<|Za<|Zb<|Ze<|mv J<|tt (Zh (n:=3) (Me _ _) J J J K1 call127 (Qt 3 J J pU Zg) J hw) fun _ _=>Pp (Zay 3 J J pU)<|Zp J<|Zc<|Za<|Zq ?_
  obtain rfl:k=(dg U x).length:=by omega
  have hx:tz o=dg U (x-y):=by
   rw [←Ix Pm _ hoa]
   congr 1
   have hly:(dg U y).length≤(dg U x).length:=by omega
   rw [Lq U o _ (by omega),Lq U (dg U y) _ hly,Lq U (dg U x) _ (Nat.le_refl _),Ka Pm,Ka Pm]at hv
   have h1:=Zhg Ps o hoa
   rw [hol]at h1
   have h0:c=0∨c=1:=by omega
   rcases h0 with rfl | rfl<;>omega
  exact xG hsc _ results173 J J trivial J (Nj 3 J J pU hx Zm)
theorem Zc4(v w:Value)(x y:Nat)(hx:bl x≤4294967296)(hy:bl y≤4294967296):Cal prog 172 #[v,w] [Da v x,Da w y] false (G:=Int) (fun r=>(r<0↔x<y)∧(0<r↔y<x)) (fun r=> .int .i64 r) (fun r=>[]):=by
 refine Yi func172 J ntmps172 J K2 fun w0 sc hw hsc=>?_
 simp only [Zu,Zt]
 have hX:=Lv x
 have hY:=Lv y
 refine Zb<|Ze<|Zp J<|Zc<|Za<|Zb<|Zb<|Ze<|mv J<|dt (Yf J J (i:=1) J Zi Qa)<|mv J<|dt (Yf J J (i:=2) J Zi Qa)<|dt (Xz J J J)<|Zc<|Za<|Zr J (fun h57=>?_) (fun h57=>?_)
 ·exact Zb<|Ze<|mv J<|dt (Yf J J (i:=1) J Zi Qa)<|mv J<|dt (Yf J J (i:=2) J Zi Qa)<|dt (Qd J J J)<|Zp J<|Zc<|Za<|Zq<|Yn<|xG hsc _ results172 J J ⟨⟨fun h=>Zbe Pm (by omega),fun h=>by have:=Ny (Nat.le_of_lt h);omega⟩,⟨fun h=>Zbe Pm (by omega),fun h=>by have:=Ny (Nat.le_of_lt h);omega⟩⟩ J Zm
 ·have hlen:(dg U x).length=(dg U y).length:=by omega
  refine Zk<|Za<|Zb<|Zb<|Ze<|mv J<|dt (Yf J J (i:=1) J Zi Qa)<|dt (Qd J J J)<|Zp J<|Zc<|Za<|Zo<|Oc [(0,_),(1,_)] [(0,_),(1,_),(2,_)] (fun(k:Nat)=>[(5,.int .i64 ((k:Int)-1))]) (fun(k:Nat)=>[]) (fun(k:Nat)=>(k≤(dg U x).length)∧((dg U x).drop k=(dg U y).drop k)) (fun(k:Nat)=>k) (dg U x).length ⟨by first | omega | (dsimp only<;>omega),by rw [List.drop_length,hlen,List.drop_length]⟩ K3 K3 ?_
  rintro k ⟨hk,hd⟩
  simp only [CA,NA]
  refine Zb<|Zb<|Ze<|mv J<|dt (Lg J J J)<|Zc<|Za<|Zr J (fun h60=>?_) (fun h60=>?_)
  ·refine Zk<|Za<|Zb<|Zo<|Zo<|Zb<|Qs (fun _=>False) [(0,0),(1,0),(2,0),(3,0),(4,0),(5,0),(6,0),(7,0),(8,0),(9,0)] ?_ ?_
   ·kernel_rfl
   refine Zs J J (Yt (Yd J J))<|Zs J J (Yt (Yd J J))<|Zs J J (Yt (Xc (ii:=1) (i:=k-1) J J J J Zi Qa Mk))<|Zs J J (Yt (Xr (ii:=1) 0 J J J Zi pU (by first | omega | (simp only [List.length_set];omega))))<|Zs J J (Yt (Yd J J))<|Zs J J (Yt (Yd J J))<|Zs J J (Yt (Xc (ii:=2) (i:=k-1) J J J J Zi Qa Mk))<|Zs J J (Yt (Xr (ii:=2) 0 J J J Zi pU (by first | omega | (simp only [List.length_set];omega))))<|Zs J J (Yt (Xv J J J))<|Zs J J (Yt (Mb J J))<|Ob<|Za<|Zr J (fun h62=>?_) (fun h62=>?_)
   ·refine Zb<|Ze<|Zp J<|Zc<|Za<|Zq<|Nq<|Nq<|Yn<|Yn<|Nq<|Yn ?_
    have hlt:=Zpi Ps (xs:=dg U x) (ys:=dg U y) (Lf Pm x) (k:=k-1) (by omega) (by omega) (by rw [show k-1+1=k by omega];exact hd) (by omega)
    rw [Ka Pm,Ka Pm]at hlt
    exact Yu (.inl J) hsc (-1) _ (fun a w hs=>Ni hs results172 J) J (by omega) J Zm
   ·refine Zb<|Qs (fun _=>False) [(0,0),(1,0),(2,0),(3,0),(4,0),(5,0),(6,0),(7,0),(8,0),(9,0)] ?_ ?_
    ·kernel_rfl
    refine Zs J J (Yt (Yd J J))<|Zs J J (Yt (Yd J J))<|Zs J J (Yt (Xc (ii:=1) (i:=k-1) J J J J Zi Qa Mk))<|Zs J J (Yt (Xr (ii:=1) 0 J J J Zi pU (by first | omega | (simp only [List.length_set];omega))))<|Zs J J (Yt (Yd J J))<|Zs J J (Yt (Yd J J))<|Zs J J (Yt (Xc (ii:=2) (i:=k-1) J J J J Zi Qa Mk))<|Zs J J (Yt (Xr (ii:=2) 0 J J J Zi pU (by first | omega | (simp only [List.length_set];omega))))<|Zs J J (Yt (Pw J J J))<|Zs J J (Yt (Mb J J))<|Ob<|Za<|Zr J (fun h64=>?_) (fun h64=>?_)
    ·refine Zb<|Ze<|Zp J<|Zc<|Za<|Zq<|Nq<|Nq<|Yn<|Yn<|Nq<|Yn ?_
     have hlt:=Zpi Ps (xs:=dg U y) (ys:=dg U x) (Lf Pm y) (k:=k-1) (by omega) (by omega) (by rw [show k-1+1=k by omega];exact hd.symm) (by omega)
     rw [Ka Pm,Ka Pm]at hlt
     exact Yu (.inl J) hsc 1 _ (fun a w hs=>Ni hs results172 J) J (by omega) J Zm
    ·exact Zk<|Qn<|Qn<|Za<|Ze<|mv J<|dt (Qd J J J)<|Zp J<|Zc<|Xk (k-1) ⟨by first | omega | (dsimp only<;>omega),by have:=Zg1 (xs:=dg U x) (ys:=dg U y) (k:=k-1) (by omega) (by omega) (by rw [show k-1+1=k by omega];exact hd) (by omega);exact this⟩ (by first | omega | (dsimp only<;>omega)) ⟨by rw [show(((k-1:Nat):Int)-1)=(k:Int)-1-1 by omega];rfl,rfl,rfl,trivial⟩ K3
  ·refine Yx<|Zx<|Zx<|Pd<|Za<|Zb<|Ze<|Zp J<|Zc<|Za<|Zq ?_
   obtain rfl:k=0:=by omega
   have heq:x=y:=(Zhw Pm).1 (by simpa using hd)
   exact Yu (.inl J) hsc 0 _ (fun a w hs=>Ni hs results172 J) J (by omega) J Zm
theorem Ycy(x y:Nat)(hx:x<U)(hy:y<U):On prog 199 #[.int .u64 (x:Int),.int .u64 (y:Int)] [] (.tuple #[.int .u64 ((x*y/U:Nat):Int),.int .u64 ((x*y%U:Nat):Int)]):=by
 refine Yi func199 J ntmps199 J trivial fun w0 sc hw hsc=>?_
 simp only [Zu,Zt]
 simp only [U]at hx hy
 exact Zb<|Ze<|Zp J<|Zp J<|Zc<|Za<|Zb<|Ze<|mv J<|dt (Zp4 J J J hx)<|Zp J<|Zc<|Za<|Zb<|Ze<|mv J<|dt (Er (n:=32) (n':=4294967296) J J J J J)<|Zp J<|Zc<|Za<|Zb<|Ze<|mv J<|dt (Zp4 J J J hy)<|Zp J<|Zc<|Za<|Zb<|Ze<|mv J<|dt (Er (n:=32) (n':=4294967296) J J J J J)<|Zp J<|Zc<|Za<|Zb<|Ze<|mv J<|mv J<|dt (Bc J J J)<|Zp J<|Zc<|Za<|Zb<|Ze<|mv J<|mv J<|dt (Bc J J J)<|mv J<|dt (Er (n:=32) (n':=4294967296) J J J J J)<|dt (Bx J J J)<|Zp J<|Zc<|Za<|Zb<|Ze<|mv J<|dt (Zp4 J J J (Nat.mod_lt _ Ps))<|Zp J<|Zc<|Za<|Zb<|Ze<|mv J<|dt (Er (n:=32) (n':=4294967296) J J J J J)<|Zp J<|Zc<|Za<|Zb<|Ze<|mv J<|mv J<|mv J<|dt (Bc J J J)<|dt (Bx J J J)<|Zp J<|Zc<|Za<|Zb<|Ze<|mv J<|mv J<|dt (Bc J J J)<|mv J<|dt (Bx J J J)<|mv J<|dt (Er (n:=32) (n':=4294967296) J J J J J)<|dt (Bx J J J)<|Zp J<|Zc<|Za<|Zb<|Ze<|mv J<|mv J<|dt (Bc J J J)<|Zp J<|Zc<|Za<|Zq<|Yu (.inl J) hsc () _ (fun a w hs=>Og hs results199 J J) (by rw [Ybf hx hy _ _ rfl rfl]) trivial J Zm
theorem Zvp(v w:Value)(x y:Nat)(hx:bl x≤4294967296)(hy:bl y≤4294967296):Cal prog 194 #[v,w] [Da v x,Da w y] false (G:=Value) (fun r=>True) (fun r=>r) (fun r=>[Da r (x*y)]):=by
 refine Yi func194 J ntmps194 J K2 fun w0 sc hw hsc=>?_
 simp only [Zu,Zt]
 have hX:=Lv x
 have hY:=Lv y
 refine Zb<|Ze<|Zp J<|Zc<|Za<|Zb<|Ze<|mv J<|dt (Yf J J (i:=1) J Zi Qa)<|mv J<|dt (Yf J J (i:=2) J Zi Qa)<|dt (Ys J J J)<|tt (Ge (i:=3) (n:=(dg U x).length+(dg U y).length) (by_:=8) (enc:=Lm) 0 J J J J Qa ti149 J pU.cells pU.pos J J J hw) fun v _=>Zp J<|Zc<|Za<|Zb<|Zb<|Ze<|mv J<|dt (Yf J J (i:=1) J Zi Qa)<|mv J<|Zc<|Za<|Zo<|Oc [(1,_),(5,_),(20,_),(21,_)] [(0,_),(1,_),(2,_)] (fun(q:Nat×List Nat)=>[(22,.int .i64 (q.1:Int))]) (fun(q:Nat×List Nat)=>[(3,Ld 1 149 Lm v q.2)]) (fun(q:Nat×List Nat)=>(q.1≤(dg U x).length)∧(q.2.length=(dg U x).length+(dg U y).length)∧(∀d∈q.2,d<U)∧(∀j,q.1+(dg U y).length≤j→q.2.getD j 0=0)∧(Qm U (q.2.take (q.1+(dg U y).length))=Qm U ((dg U x).take q.1)*y)) (fun(q:Nat×List Nat)=>(dg U x).length-q.1) (0,List.replicate ((dg U x).length+(dg U y).length) 0) ⟨by first | omega | (dsimp only<;>omega),by simp,My _ Ps,fun j _=>Hg _ j,by simp [Qm,List.take_replicate,Ff]⟩ K5 K4 ?_
 rintro⟨i,o⟩ ⟨hi,hol,hoa,hz,hv⟩
 dsimp only at hi hol hoa hz hv
 simp only [CA,NA]
 refine Zb<|Ze<|dt (Xv J J J)<|Zc<|Za<|Zb<|Zr J (fun h106=>?_) (fun h106=>?_)
 ·refine Zk<|Za<|Zb<|Zo<|Zb<|Ze<|mv J<|dt (Xc (ii:=1) J J J J Zi Qa Mk J (by first | omega | (simp only [List.length_set];omega)))<|dt (Xr (ii:=1) 0 J J J Zi pU (by first | omega | (simp only [List.length_set];omega)))<|Zp J<|Zp J<|Zc<|Za<|Zb<|Ze<|Zp J<|Zc<|Za<|Zb<|Zb<|Ze<|mv J<|dt (Yf J J (i:=2) J Zi Qa)<|mv J<|Zc<|Za<|Zo<|Oc [(1,_),(5,_),(6,_),(7,_),(20,_),(21,_),(22,_),(27,_),(28,_)] [(0,_),(1,_),(2,_)] (fun(q:Nat×List Nat×Nat)=>[(29,.int .i64 (q.1:Int)),(8,.int .u64 (q.2.2:Int))]) (fun(q:Nat×List Nat×Nat)=>[(3,Ld 1 149 Lm v q.2.1)]) (fun(q:Nat×List Nat×Nat)=>(q.1≤(dg U y).length)∧(q.2.1.length=(dg U x).length+(dg U y).length)∧(∀d∈q.2.1,d<U)∧(∀j,i+(dg U y).length≤j→q.2.1.getD j 0=0)∧(q.2.2<U)∧(Qm U (q.2.1.take (i+(dg U y).length))+q.2.2*U^(i+q.1)=Qm U ((dg U x).take i)*y+(dg U x).getD i 0*U^i*Qm U ((dg U y).take q.1))) (fun(q:Nat×List Nat×Nat)=>(dg U y).length-q.1) (0,o,0) ⟨by first | omega | (dsimp only<;>omega),hol,hoa,hz,Ps,by rw [hv];simp [Qm]⟩ K11 K4 ?_
  rintro⟨k,p,c⟩ ⟨hk,hpl,hpa,hpz,hcU,hpv⟩
  dsimp only at hk hpl hpa hpz hcU hpv
  simp only [CA,NA]
  have hdig:=Zx5 (Pk Ps (Lf Pm x) i) (Pk Ps (Lf Pm y) k) (Pk Ps hpa (i+k)) hcU
  refine Zb<|Ze<|dt (Xv J J J)<|Zc<|Za<|Zb<|Zr J (fun h108=>?_) (fun h108=>?_)
  ·refine Zk<|Za<|Zb<|Zo<|Zb<|Ze<|mv J<|dt (Xc (ii:=2) J J J J Zi Qa Mk J (by first | omega | (simp only [List.length_set];omega)))<|dt (Xr (ii:=2) 0 J J J Zi pU (by first | omega | (simp only [List.length_set];omega)))<|Zp J<|Zp J<|Zc<|Za<|Zb<|Ze<|mv J<|mv J<|tt (Zh (n:=3) (Ycy _ _ (Pk Ps (Lf Pm _) _) (Pk Ps (Lf Pm _) _)) J J J K2 call199 Zg J hw) fun _ _=>mv J<|dt (Zz J J J)<|dt (Zz J J J)<|Zp J<|Zp J<|Zc<|Za<|Zb<|Ze<|mv J<|mv J<|mv J<|mv J<|dt (Ys J J J)<|dt (Xc (ii:=3) (i:=i+k) J J J J (Xa pU) Qa Mk)<|dt (Xr (ii:=3) 0 J J J (Xa pU) pU (by first | omega | (simp only [List.length_set];omega)))<|dt (Zpe (c:=0) J J J J (by omega) Zhz)<|mv J<|dt (Zz J J J)<|dt (Zz J J J)<|Zp J<|Zp J<|Zc<|Za<|Zb<|Ze<|mv J<|mv J<|dt (Bx J J J)<|Zp J<|Zc<|Za<|Zb<|Ze<|mv J<|mv J<|dt (Zpe (c:=0) J J J J (by omega) Zhz)<|mv J<|dt (Zz J J J)<|dt (Zz J J J)<|Zp J<|Zp J<|Zc<|Za<|Ze<|mv J<|mv J<|mv J<|dt (Ys J J J)<|mv J<|mv J<|mv J<|dt (Bx J J J)<|dt (Xc (ii:=3) (i:=i+k) J J J J (Xa pU) Qa Mk) ?_
   exact tt (Im (i:=3) (enc:=Lm) _ J J J J J J pU J hw (by decide) (by first | omega | (simp only [List.length_set];omega))) fun _ _=>Zp J<|Zc<|Qn<|Za<|Ze<|dt (Ys J J J)<|mv J<|Zc<|Xk (k+1,_,_) ⟨by first | omega | (dsimp only<;>omega),by simp;omega,Kz hpa _ _ (Nat.mod_lt _ Ps),fun j hj=>by rw [Mt _ _ _ _ _ (by omega),if_neg (by omega)];exact hpz j hj,hdig.2,Ybe hpv (by omega) (by omega) hdig.1⟩ (by first | omega | (dsimp only<;>omega)) K11 K4
  ·refine Yx<|Zx<|Zx<|Pd<|Za ?_
   obtain rfl:k=(dg U y).length:=by omega
   have hfin:=hpv
   rw [List.take_of_length_le (Nat.le_refl (dg U y).length),Ka Pm]at hfin
   exact Ze<|mv J<|mv J<|mv J<|dt (Yf J J (i:=2) J Zi Qa)<|dt (Ys J J J)<|mv J<|dt (Xc (ii:=3) (i:=i+(dg U y).length) J J J J (Xa pU) Qa Mk)<|tt (Im (i:=3) (enc:=Lm) _ J J J J J J pU J hw (by decide) (by first | omega | (simp only [List.length_set];omega))) fun _ _=>Zc<|Qn<|Za<|Ze<|dt (Ys J J J)<|mv J<|Zc<|Xk (i+1,_) ⟨by first | omega | (dsimp only<;>omega),by simp;omega,Kz hpa _ _ hcU,fun j hj=>by rw [Mt _ _ _ _ _ (by omega),if_neg (by omega)];exact hpz j (by omega),by dsimp only;rw [show i+1+(dg U y).length=i+(dg U y).length+1 by omega,Bg _ _ _ _ (by omega),Of,Nat.add_mul,←hfin]⟩ (by first | omega | (dsimp only<;>omega)) K5 K4
 ·refine Yx<|Zx<|Zx<|Pd<|Za<|Zb<|Ze<|mv J<|tt (Zh (n:=3) (Me _ _) J J J K1 call127 (Qt 3 J J pU Zg) J hw) fun _ _=>Pp (Zay 3 J J pU)<|Zp J<|Zc<|Za<|Zq ?_
  obtain rfl:i=(dg U x).length:=by omega
  have hx:tz o=dg U (x*y):=by
   rw [←Ix Pm _ hoa]
   congr 1
   rw [Lq U o _ (by omega),List.take_of_length_le (Nat.le_refl _),Ka Pm]at hv
   exact hv
  exact xG hsc _ results194 J J trivial J (Nj 3 J J pU hx Zm)
set_option maxHeartbeats 1000000 in
theorem Ycz(x:Nat)(hx:x<U):On prog 198 #[.int .u64 (x:Int)] [] (.int .i64 (bl x:Int)):=by
 refine Yi func198 J ntmps198 J trivial fun w0 sc hw hsc=>?_
 simp only [Zu,Zt]
 simp only [U]at hx
 have e32:=Gq x 32
 have e16:=Gq x 16
 have e8:=Gq x 8
 have e24:=Gq x 24
 have e40:=Gq x 40
 have e48:=Gq x 48
 have e56:=Gq x 56
 have f32:=Zci 32 x
 have f16:=Zci 16 x
 have f8:=Zci 8 x
 have f24:=Zci 24 x
 have f40:=Zci 40 x
 have f48:=Zci 48 x
 have f56:=Zci 56 x
 have d1:=Nat.div_div_eq_div_mul x (2^32) (2^16)
 have d2:=Nat.div_div_eq_div_mul x (2^32) (2^8)
 have d3:=Nat.div_div_eq_div_mul x (2^16) (2^8)
 have d4:=Nat.div_div_eq_div_mul (x/2^32) (2^16) (2^8)
 have d5:=Nat.div_div_eq_div_mul x (2^32) (2^16*2^8)
 simp only [Nat.reducePow,Nat.reduceMul]at *
 refine Zb<|Ze<|Zp J<|Zc<|Za<|Zb<|Zb<|Ze<|mv J<|dt (Lg J J J)<|Zc<|Za<|Zr J (fun h338=>?_) (fun h338=>?_)
 ·refine Zb<|Ze<|mv J<|dt (Er (n:=32) (n':=4294967296) J J J J J)<|Zp J<|Zc<|Za<|Ze<|Zp J<|Zc<|Za<|Zb<|Zb<|Ze<|mv J<|dt (Lg J J J)<|Zc<|Za<|Zr J (fun h342=>?_) (fun h342=>?_)
  ·refine Zb<|Ze<|mv J<|dt (Er (n:=16) (n':=65536) J J J J J)<|Zp J<|Zc<|Za<|Ze<|mv J<|dt (Ys J J J)<|Zp J<|Zc<|Za<|Zb<|Zb<|Ze<|mv J<|dt (Lg J J J)<|Zc<|Za<|Zr J (fun h346=>?_) (fun h346=>?_)
   ·exact Zb<|Ze<|mv J<|dt (Er (n:=8) (n':=256) J J J J J)<|Zp J<|Zc<|Za<|Ze<|mv J<|dt (Ys J J J)<|Zp J<|Zc<|Za<|Zb<|Ze<|mv J<|mv J<|dt (Zey J J Zcn uT5)<|dt (Zif J J J uT9 J (by omega) (by decide) (by decide +kernel))<|dt (Zb9 J J uT5 uT3 (Zad _))<|dt (Ys J J J (Cs _ (by omega) (by omega)))<|Zp J<|Zc<|Za<|Zq<|xU hsc results198 J J (Zac (n:=x) (by omega) (by first | omega | (simp only [Nat.div_div_eq_div_mul,Nat.reduceMul,e32,e16,e8,e24,e40,e48,e56];omega))).symm
   ·exact Zk<|Za<|Zb<|Ze<|mv J<|mv J<|dt (Zey J J Zcn uT5)<|dt (Zif J J J uT9 J (by omega) (by decide) (by decide +kernel))<|dt (Zb9 J J uT5 uT3 (Zad _))<|dt (Ys J J J (Cs _ (by omega) (by omega)))<|Zp J<|Zc<|Za<|Zq<|xU hsc results198 J J (Zac (n:=x) (by omega) (by first | omega | (simp only [Nat.div_div_eq_div_mul,Nat.reduceMul,e32,e16,e8,e24,e40,e48,e56];omega))).symm
  ·refine Zk<|Za<|Zb<|Zb<|Ze<|mv J<|dt (Lg J J J)<|Zc<|Za<|Zr J (fun h346_2=>?_) (fun h346_2=>?_)
   ·exact Zb<|Ze<|mv J<|dt (Er (n:=8) (n':=256) J J J J J)<|Zp J<|Zc<|Za<|Ze<|mv J<|dt (Ys J J J)<|Zp J<|Zc<|Za<|Zb<|Ze<|mv J<|mv J<|dt (Zey J J Zcn uT5)<|dt (Zif J J J uT9 J (by omega) (by decide) (by decide +kernel))<|dt (Zb9 J J uT5 uT3 (Zad _))<|dt (Ys J J J (Cs _ (by omega) (by omega)))<|Zp J<|Zc<|Za<|Zq<|xU hsc results198 J J (Zac (n:=x) (by omega) (by first | omega | (simp only [Nat.div_div_eq_div_mul,Nat.reduceMul,e32,e16,e8,e24,e40,e48,e56];omega))).symm
   ·exact Zk<|Za<|Zb<|Ze<|mv J<|mv J<|dt (Zey J J Zcn uT5)<|dt (Zif J J J uT9 J (by omega) (by decide) (by decide +kernel))<|dt (Zb9 J J uT5 uT3 (Zad _))<|dt (Ys J J J (Cs _ (by omega) (by omega)))<|Zp J<|Zc<|Za<|Zq<|xU hsc results198 J J (Zac (n:=x) (by omega) (by first | omega | (simp only [Nat.div_div_eq_div_mul,Nat.reduceMul,e32,e16,e8,e24,e40,e48,e56];omega))).symm
 ·refine Zk<|Za<|Zb<|Zb<|Ze<|mv J<|dt (Lg J J J)<|Zc<|Za<|Zr J (fun h342_2=>?_) (fun h342_2=>?_)
  ·refine Zb<|Ze<|mv J<|dt (Er (n:=16) (n':=65536) J J J J J)<|Zp J<|Zc<|Za<|Ze<|mv J<|dt (Ys J J J)<|Zp J<|Zc<|Za<|Zb<|Zb<|Ze<|mv J<|dt (Lg J J J)<|Zc<|Za<|Zr J (fun h346_3=>?_) (fun h346_3=>?_)
   ·exact Zb<|Ze<|mv J<|dt (Er (n:=8) (n':=256) J J J J J)<|Zp J<|Zc<|Za<|Ze<|mv J<|dt (Ys J J J)<|Zp J<|Zc<|Za<|Zb<|Ze<|mv J<|mv J<|dt (Zey J J Zcn uT5)<|dt (Zif J J J uT9 J (by omega) (by decide) (by decide +kernel))<|dt (Zb9 J J uT5 uT3 (Zad _))<|dt (Ys J J J (Cs _ (by omega) (by omega)))<|Zp J<|Zc<|Za<|Zq<|xU hsc results198 J J (Zac (n:=x) (by omega) (by first | omega | (simp only [Nat.div_div_eq_div_mul,Nat.reduceMul,e32,e16,e8,e24,e40,e48,e56];omega))).symm
   ·exact Zk<|Za<|Zb<|Ze<|mv J<|mv J<|dt (Zey J J Zcn uT5)<|dt (Zif J J J uT9 J (by omega) (by decide) (by decide +kernel))<|dt (Zb9 J J uT5 uT3 (Zad _))<|dt (Ys J J J (Cs _ (by omega) (by omega)))<|Zp J<|Zc<|Za<|Zq<|xU hsc results198 J J (Zac (n:=x) (by omega) (by first | omega | (simp only [Nat.div_div_eq_div_mul,Nat.reduceMul,e32,e16,e8,e24,e40,e48,e56];omega))).symm
  ·refine Zk<|Za<|Zb<|Zb<|Ze<|mv J<|dt (Lg J J J)<|Zc<|Za<|Zr J (fun h346_4=>?_) (fun h346_4=>?_)
   ·exact Zb<|Ze<|mv J<|dt (Er (n:=8) (n':=256) J J J J J)<|Zp J<|Zc<|Za<|Ze<|mv J<|dt (Ys J J J)<|Zp J<|Zc<|Za<|Zb<|Ze<|mv J<|mv J<|dt (Zey J J Zcn uT5)<|dt (Zif J J J uT9 J (by omega) (by decide) (by decide +kernel))<|dt (Zb9 J J uT5 uT3 (Zad _))<|dt (Ys J J J (Cs _ (by omega) (by omega)))<|Zp J<|Zc<|Za<|Zq<|xU hsc results198 J J (Zac (n:=x) (by omega) (by first | omega | (simp only [Nat.div_div_eq_div_mul,Nat.reduceMul,e32,e16,e8,e24,e40,e48,e56];omega))).symm
   ·exact Zk<|Za<|Zb<|Ze<|mv J<|mv J<|dt (Zey J J Zcn uT5)<|dt (Zif J J J uT9 J (by omega) (by decide) (by decide +kernel))<|dt (Zb9 J J uT5 uT3 (Zad _))<|dt (Ys J J J (Cs _ (by omega) (by omega)))<|Zp J<|Zc<|Za<|Zq<|xU hsc results198 J J (Zac (n:=x) (by omega) (by first | omega | (simp only [Nat.div_div_eq_div_mul,Nat.reduceMul,e32,e16,e8,e24,e40,e48,e56];omega))).symm
theorem Zpw(x:Nat)(hx:x<U):On prog 189 #[.int .u64 (x:Int)] [] (.int .i64 ((64-bl x:Nat):Int)):=by
 refine Yi func189 J ntmps189 J trivial fun w0 sc hw hsc=>?_
 simp only [Zu,Zt]
 have hb:bl x≤64:=(Mo 64 x).2 hx
 exact Zb<|Ze<|Zp J<|Zc<|Za<|Zb<|Ze<|mv J<|tt (Zh (n:=0) (Ycz _ hx) J J J K1 call198 Zg J hw) fun _ _=>dt (Qd J J J)<|Zp J<|Zc<|Za<|Zq<|xU hsc results189 J J (by congr 1;omega)
theorem Zkl(v:Value)(x:Nat)(hx:bl x≤1099511627776:=by omega):On prog 168 #[v] [Da v x] (.int .i64 (bl x:Int)):=by
 refine Yi func168 J ntmps168 J K1 fun w0 sc hw hsc=>?_
 simp only [Zu,Zt]
 have hX:=Lv x
 refine Zb<|Ze<|Zp J<|Zc<|Za<|Zb<|Zb<|Ze<|mv J<|dt (Yf J J (i:=1) J Zi Qa)<|dt (Pj J J J)<|Zc<|Za<|Zr J (fun h39=>?_) (fun h39=>?_)
 ·refine Zb<|Ze<|Zp J<|Zc<|Za<|Zq<|Yn ?_
  have h0:x=0:=(Nn Pm x).1 (by omega)
  exact xU hsc results168 J J (by rw [h0];rfl)
 ·have hp:0<x:=by rcases Nat.eq_zero_or_pos x with rfl | h;(simp [Gv]at h39);exact h
  obtain⟨z1,z2,z3,z4⟩:=Zuq hp
  exact Zk<|Za<|Zb<|Ze<|mv J<|dt (Yf J J (i:=1) J Zi Qa)<|dt (Db J J J)<|mv J<|mv J<|dt (Yf J J (i:=1) J Zi Qa)<|dt (Qd J J J)<|dt (Xc (ii:=1) (i:=(dg U x).length-1) J J J J Zi Qa Mk)<|dt (Xr (ii:=1) 0 J J J Zi pU (by first | omega | (simp only [List.length_set];omega)))<|tt (Zh (n:=1) (Zpw _ (Pk Ps (Lf Pm _) _)) J J J K1 call189 Zg J hw) fun _ _=>dt (Qd J J J)<|Zp J<|Zc<|Za<|Zq<|xU hsc results168 J J (by congr 1;omega)
end Go.Sky

