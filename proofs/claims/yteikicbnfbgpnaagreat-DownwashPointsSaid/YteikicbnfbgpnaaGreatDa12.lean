/- Rules, arithmetic and contracts: part 13. No conditions but those that each theorem names. -/
import Derived.Test.YteikicbnfbgpnaaGreatDa11
import Derived.ChangeKeysEq
import Derived.RangeFuncFrom
import Derived.RangeFuncLeaves
import Derived.OrdersIn
import Derived.TacticsIn
import Derived.RangeFuncCalls
set_option linter.all false
set_option maxHeartbeats 4000000
namespace Go.Sky
open Go.Proofs
set_option synthInstance.maxHeartbeats 0
set_option synthInstance.maxSize 100000
set_option maxRecDepth 20000
set_option maxHeartbeats 4000000
set_option linter.unusedSimpArgs false
theorem Zna(fr to ov:Int)(vx vy vz:Value)(x y z:List Int)(a d:Int)(hS:Sgo fr to ov x y z)(ha:0≤a∧a≤3600000)(hd:1≤d∧d≤3600000):Cal Tryz.prog 177 #[.agg #[.int .i64 fr,.int .i64 to,.int .i64 ov,vx,vy,vz],.int .i64 a,.int .i64 d] [Yk 1 Yu vx x,Yk 1 Yu vy y,Yk 1 Yu vz z] false (G:=Unit) (fun _=>True) (fun _=>plV (pl x a d/(gS ov a d x y z 3)) (pl y a d/(gS ov a d x y z 3)) (pl z a d/(gS ov a d x y z 3)) (ov*d^5/(gS ov a d x y z 3))) (fun _=>[]):=by
 refine Zd Tryz.func177 Tryz.ntmps177 fun w0 sc hw hsc=>?_
 have hba:bl a.natAbs≤60:=(Xs 60 _).2 O
 have hbd:bl d.natAbs≤60:=(Xs 60 _).2 O
 have ho1:=hS.o1
 have ho2:=hS.o2
 obtain⟨k1,k2⟩:=Yak hS ha hd 0
 refine go 2 ?_
 refine Yc (Yb 4) fun bx _=>?_
 refine Yc (Zr 5) fun bx_2 _=>?_
 refine go 4 ?_
 refine Yc (Zr 6) fun bx_3 _=>?_
 refine go 6 ?_
 refine cl 6 [] (Zh ov) fun _ _=>?_
 refine go 1 ?_
 refine cl 6 [] (Iw d 5 hbd O3 O3) fun _ _=>?_
 refine cl 6 [] (Eh ov (d^5) (Nat.le_trans ((Xs 40 _).2 O) (by decide:40≤30000)) (Nat.le_trans (Zrt (a:=d) ⟨O,O⟩ (k:=5) O3) O3)) fun _ _=>?_
 refine Yc (Zr 7) fun bx_4 _=>?_
 refine go 6 ?_
 refine Yc (Zr 8) fun bx_5 _=>?_
 refine go 7 ?_
 refine cl 8 [1,2,3] (Zkl _ _ _ _ _ _ _ _ _) fun _ _=>?_
 refine go 4 ?_
 refine Zi (Mv 6 (q:=box bx_3 166 (cellsOf wv (List.replicate 3 (0:Int))).toArray) (congrArg (box bx_3 166) (show _=(cellsOf wv (List.replicate 3 (0:Int))).toArray from rfl)) rfl rfl) ?_
 refine lp (G:=Nat) [1,2,6,7,8,9,22] [0,1,2,3,4,5,7] (fun i=>[(23,.int .i64 (i:Int))]) (fun i=>[(6,box bx_3 166 (cellsOf wv (atS a d x y z i)).toArray),(8,box bx_5 80 (wc (gS ov a d x y z i)))]) (fun i=>i≤3) (fun i=>3-i) 0 O1 ⟨rfl,trivial⟩ ⟨rfl,rfl,trivial⟩ ?_
 rintro i hi
 have hc:=hS.hc i
 have hlc:=hS.lc i
 obtain⟨g1,g2⟩:=Yak hS ha hd i
 refine go 6 ?_
 refine Zc rfl (fun h103=>?_) (fun h103=>?_)
 ·refine go 5 ?_
  refine Zi (Zb0 i 1 2 3 50 rfl rfl rfl rfl rfl rfl) ?_
  refine go 2 ?_
  refine dt (Zo9 (i:=i) rfl rfl rfl Tryz.underlying182 Tryz.sizeOf33 Tryz.isAgg33 rfl) ?_
  refine go 13 ?_
  refine lp (G:=Nat) [1,2,6,7,8,9,10,22,23,27,28] [0,8,1,2,3,4,5,7,50] (fun k=>[(29,.int .i64 (k:Int))]) (fun k=>[(6,box bx_3 166 (cellsOf wv ((atS a d x y z i).set i (plS (Zt i x y z) a d k))).toArray)]) (fun k=>k≤(Zt i x y z).length) (fun k=>(Zt i x y z).length-k) 0 O1 ⟨rfl,trivial⟩ ⟨by rw [show((atS a d x y z i).set i (plS (Zt i x y z) a d 0))=(atS a d x y z i)from(Ycq a d x y z O).symm];rfl,trivial⟩ ?_
  rintro k hk
  refine go 6 ?_
  refine Zc rfl (fun h104=>?_) (fun h104=>?_)
  ·refine go 13 ⟨O2,O2,?_⟩
   refine Qe (fun _=>False) [(0,0),(1,0),(2,0),(3,0),(4,0),(6,0),(7,0),(9,0),(10,0),(11,0),(5,1),(8,1),(12,1),(13,1),(14,1),(15,1),(16,0),(17,3)] ?_
   refine go 2 ?_
   refine Qb rfl rfl (Ph (Ic (i:=i) rfl rfl rfl Tryz.underlying166 Tryz.sizeOf80 rfl)) ?_
   refine Qb rfl rfl (Ph (Zp (r':=wv (plS (Zt i x y z) a d k)) (Zo8 (i:=6) (enc:=wv) (j:=i) (l:=((atS a d x y z i).set i (plS (Zt i x y z) a d k))) 0 rfl rfl rfl pV (by rw [List.length_set,Fu];omega)) (congrArg wv (Zng _ (by rw [Fu];omega))))) ?_
   refine go 6 ⟨O,?_⟩
   refine Yz (Zf 8 [] (Zh ((Zt i x y z).getD k 0) (Ik hc k))) fun _ _=>?_
   refine Yz (Zf 8 [] (Iw a (k:Int) hba O O)) fun _ _=>?_
   refine Yz (Zf 8 [] (Iw d (5-(k:Int)) hbd O O)) fun _ _=>?_
   refine Yz (Zf 8 [] (Eh (a^k) (d^(5-(k:Int)).toNat) (Nat.le_trans (Zrt ha O) O3) (Nat.le_trans (Zrt (a:=d) ⟨O,O⟩ O) O3))) fun _ _=>?_
   refine Yz (Zf 8 [] (Eh ((Zt i x y z).getD k 0) (a^k*d^(5-(k:Int)).toNat) (Nat.le_trans (Fg (Ik hc k)) O3) (Nat.le_trans (Ycd hc ha hd (k:=k) O).1 O3))) fun _ _=>?_
   refine Yz (Zf 8 [] (Zx5 (plS (Zt i x y z) a d k) (plT (Zt i x y z) a d k) (Nat.le_trans (Zeu hc ha hd O) O3) (Nat.le_trans (Ycd hc ha hd O).2 O3))) fun _ _=>?_
   refine Qb rfl rfl (Ph (Ic (i:=i) rfl rfl rfl Tryz.underlying166 Tryz.sizeOf80 rfl)) ?_
   refine r3' rfl (t_sbe (i:=6) (j:=i) (k:=2) (enc:=wv) ((plS (Zt i x y z) a d k)+plT (Zt i x y z) a d k) rfl rfl rfl rfl rfl pV (by rw [List.length_set,Fu];omega) rfl hw.h trivial) (fun _ _=>?_)
   refine go 7 ⟨O,?_⟩
   exact Xg (k+1) O1 O1 ⟨rfl,trivial⟩ ⟨by rw [List.set_set];rfl,trivial⟩
  ·obtain rfl:k=(Zt i x y z).length:=O
   refine go 5 ?_
   refine Qe (fun _=>False) [(0,0),(1,0),(2,0),(3,0),(4,1),(5,3)] ?_
   refine go 2 ?_
   refine Qb rfl rfl (Ph (Ic (i:=i) rfl rfl rfl Tryz.underlying166 Tryz.sizeOf80 rfl)) ?_
   refine Qb rfl rfl (Ph (Zp (r':=wv (pl (Zt i x y z) a d)) (Zo8 (i:=6) (enc:=wv) (j:=i) (l:=((atS a d x y z i).set i (pl (Zt i x y z) a d))) 0 rfl rfl rfl pV (by rw [List.length_set,Fu];omega)) (congrArg wv (Zng _ (by rw [Fu];omega))))) ?_
   refine Yz (Zf 8 [] (Zkk (gS ov a d x y z i) (pl (Zt i x y z) a d) (Nat.le_trans g2 O3) (Nat.le_trans (Zeu hc ha hd hlc.2) O3))) fun _ _=>?_
   refine go 8 ⟨O,?_⟩
   exact Xg (i+1) O1 O1 ⟨rfl,trivial⟩ ⟨rfl,rfl,trivial⟩
 ·obtain rfl:i=3:=O
  refine go 6 ?_
  refine Qe (fun _=>False) [(0,0),(1,0),(2,0),(4,0),(5,0),(6,0),(8,0),(9,0),(10,0),(12,0),(13,0),(3,1),(7,1),(11,1),(14,1),(15,0),(16,3)] ?_
  refine Qb rfl rfl (Ph (Ic (i:=0) rfl rfl rfl Tryz.underlying166 Tryz.sizeOf80 rfl)) ?_
  refine Qb rfl rfl (Ph (Zp (r':=wv (pl x a d)) (Zo8 (i:=6) (enc:=wv) (j:=0) (l:=(atS a d x y z 3)) 0 rfl rfl rfl pV (by rw [Fu];decide)) (congrArg wv rfl))) ?_
  refine go 1 ?_
  refine Qb rfl rfl (Ph (Ic (i:=1) rfl rfl rfl Tryz.underlying166 Tryz.sizeOf80 rfl)) ?_
  refine Qb rfl rfl (Ph (Zp (r':=wv (pl y a d)) (Zo8 (i:=6) (enc:=wv) (j:=1) (l:=(atS a d x y z 3)) 0 rfl rfl rfl pV (by rw [Fu];decide)) (congrArg wv rfl))) ?_
  refine go 1 ?_
  refine Qb rfl rfl (Ph (Ic (i:=2) rfl rfl rfl Tryz.underlying166 Tryz.sizeOf80 rfl)) ?_
  refine Qb rfl rfl (Ph (Zp (r':=wv (pl z a d)) (Zo8 (i:=6) (enc:=wv) (j:=2) (l:=(atS a d x y z 3)) 0 rfl rfl rfl pV (by rw [Fu];decide)) (congrArg wv rfl))) ?_
  refine go 3 ?_
  refine Yz (Zf 8 [] (Zec (pl x a d) (gS ov a d x y z 3) (Nat.le_trans (Zeu hS.hx ha hd hS.lx.2) O3) (Nat.le_trans g2 O3) O)) fun _ _=>?_
  refine Yz (Zf 8 [] (Zec (pl y a d) (gS ov a d x y z 3) (Nat.le_trans (Zeu hS.hy ha hd hS.ly.2) O3) (Nat.le_trans g2 O3) O)) fun _ _=>?_
  refine Yz (Zf 8 [] (Zec (pl z a d) (gS ov a d x y z 3) (Nat.le_trans (Zeu hS.hz ha hd hS.lz.2) O3) (Nat.le_trans g2 O3) O)) fun _ _=>?_
  refine Yz (Zf 8 [] (Zec (ov*d^5) (gS ov a d x y z 3) (Nat.le_trans k2 O3) (Nat.le_trans g2 O3) O)) fun _ _=>?_
  refine Qb rfl rfl (Ph (Qg (ivs:=[(0,_),(1,_),(2,_),(3,_)]) rfl ⟨rfl,rfl,rfl,rfl,rfl,rfl,rfl,rfl,trivial⟩ (fun a w hs=>Zw0))) ?_
  refine go 4 ?_
  exact Xo hsc () Tryz.results177 rfl trivial Za
theorem eg162:Tryz.prog.eqGuardType Tryz.prog.depth 162=false:=O5
theorem eqlP(w:World)(p q r o p' q' r' o':Int):(binOp .eql 162 (plV p q r o) (plV p' q' r' o')).run Tryz.prog w= .ok (.bool (decide (p=p'∧q=q'∧r=r'∧o=o'))) w:=by
 have sh:Tryz.prog.stoodInHeld 162=false:=O5
 have hu:Tryz.prog.underlying 162=some (.struct (Tryz.prog.fieldsOf 162)):=by unfold Program.fieldsOf;rw [Tryz.underlying162]
 rw [run_eql_struct,run_equalIn_agg w 9999 162 _ _ hu sh]
 unfold Program.fieldsOf
 rw [Tryz.underlying162]
 simp [Op.eqFields,part,Tryz.isAgg80,Tryz.sizeOf80,in80,Yaz]
 by_cases h1:p=p'<;>by_cases h2:q=q'<;>by_cases h3:r=r'<;>by_cases h4:o=o'<;>simp_all
def litb(l:List Int):Bool:=(l.all fun x=>decide (-1000000≤x) && decide (x≤1000000)) && (decide (tzl l=l) && decide (l.length≤25))
instance eokDec:∀f a b,Decidable (eok f a b)
 | 0,_,b=>inferInstanceAs (Decidable (b=[]))
 | f+1,a,b=>@instDecidableOr _ _ _ (@instDecidableAnd _ _ _ (eokDec f b (Zx (Xm a b))))
def lessx(xs:List Int)(m:Int):List Int:=Bz xs (tzl [m])
def Zpw(xs:List Int)(m:Int):Prop:=∃x:Rat,0≤x∧x≤1∧Zb xs x<(m:Rat)
theorem Zv8{xs:List Int}{m n:Int}(h:Zpw xs m)(hmn:m≤n):Zpw xs n:=by
 obtain⟨x,a,b,c⟩:=h
 have:(m:Rat)≤(n:Rat):=by exact_mod_cast hmn
 exact⟨x,a,b,O4⟩
def lws:List Int→Int
 | []=>0
 | c :: p=>-(c.natAbs:Int)+lws p
theorem Zz0{n:Nat} : ∀p:List Int,(∀c∈p,c.natAbs≤n)→-((p.length*n:Nat):Int)≤lws p∧lws p≤0
 | [],_=>by show -((0*n:Nat):Int)≤0∧(0:Int)≤0;omega
 | c :: p,h=>by
  have h1:=Zz0 p fun d hd=>h d (List.mem_cons_of_mem _ hd)
  have h2:=h c List.mem_cons_self
  show -(((p.length+1)*n:Nat):Int)≤-(c.natAbs:Int)+lws p∧-(c.natAbs:Int)+lws p≤0
  rw [Nat.succ_mul];omega
theorem Ztf{x:Rat}(h0:0≤x)(h1:x≤1):∀p:List Int,((lws p:Int):Rat)≤Zb p x
 | []=>by show((0:Int):Rat)≤0;exact Rat.le_refl
 | c :: p=>by
  have ih:=Ztf h0 h1 p
  have hb:=(Zz0 (n:=p.foldl (fun m c=>max m c.natAbs) 0) p (fun c hc=>by
   have:∀(l:List Int) (a:Nat),(a≤l.foldl (fun m c=>max m c.natAbs) a)∧∀c∈l,c.natAbs≤l.foldl (fun m c=>max m c.natAbs) a:=fun l=>by
    induction l with
    | nil=>intro a;exact⟨Nat.le_refl _,fun c hc=>absurd hc O6⟩
    | cons d l ih=>
     intro a
     obtain⟨i1,i2⟩:=ih (max a d.natAbs)
     refine⟨Nat.le_trans (Nat.le_max_left _ _) i1,fun c hc=>?_⟩
     rcases List.mem_cons.1 hc with rfl | hc
     ·exact Nat.le_trans (Nat.le_max_right _ _) i1
     ·exact i2 c hc
   exact(this p 0).2 c hc)).2
  have hb':((lws p:Int):Rat)≤0:=by exact_mod_cast hb
  have hc:((-(c.natAbs:Int):Int):Rat)≤(c:Rat):=by exact_mod_cast (show -(c.natAbs:Int)≤c by omega)
  have hm:=Rat.mul_nonneg (show 0≤1-x by grind) (show 0≤-((lws p:Int):Rat) by grind)
  have hm2:=Rat.mul_nonneg h0 (show 0≤Zb p x-((lws p:Int):Rat) by grind)
  show((-(c.natAbs:Int)+lws p:Int):Rat)≤(c:Rat)+x*Zb p x
  push_cast at hc ⊢
  grind
theorem Zz3(xs:List Int):¬Zpw xs (lws xs):=by
 rintro⟨x,a,b,c⟩
 have:=Ztf a b xs;grind
theorem Yd6(xs:List Int):Zb xs 0=((cf xs 0:Int):Rat):=by
 cases xs with
 | nil=>rfl
 | cons c p=>show(c:Rat)+0*Zb p 0=(c:Rat);grind
theorem Zv9(xs:List Int):Zpw xs (cf xs 0+1):=by
 refine⟨0,O4,O3,?_⟩
 rw [Yd6]
 push_cast;grind
theorem Yes{xs:List Int}{l h:Int}(h1:¬Zpw xs l)(h2:Zpw xs h):l<h:=by
 rcases Int.lt_or_le l h with q | q
 ·exact q
 ·exact absurd (Zv8 h2 q) h1
theorem Zm4{xs:List Int}(hs:Sz 40 xs)(i:Nat):(cf xs i).natAbs<1099511627776:=(Xs 40 _).1 (hs i)
theorem Zzz{xs:List Int}(hs:Sz 40 xs)(hl:xs.length≤9)(i:Nat):-9895604649984≤lws (xs.take i)∧lws (xs.take i)≤0:=by
 obtain⟨h1,h2⟩:=Zz0 (n:=1099511627776) (xs.take i) fun c hc=>by
  obtain⟨k,hk,rfl⟩:=List.mem_iff_getElem.1 hc
  have h9:=Zm4 hs k
  rw [List.length_take]at hk
  have e:(xs.take i)[k]=cf xs k:=by rw [List.getElem_take];unfold cf;rw [List.getD_eq_getElem?_getD,List.getElem?_eq_getElem O];rfl
  rw [e];omega
 have h3:(xs.take i).length*1099511627776≤9*1099511627776:=Nat.mul_le_mul_right _ (by rw [List.length_take];omega)
 exact⟨O,h2⟩
structure FlI (xs:List Int) (lo hi:Int):Prop where
 l:¬Zpw xs lo
 h:Zpw xs hi
 b1:-17592186044416≤lo
 b2:hi≤17592186044416
theorem FlI.lt{xs:List Int}{lo hi:Int}(h:FlI xs lo hi):lo<hi:=Yes h.l h.h
theorem FlI.start{xs:List Int}(hs:Sz 40 xs)(hl:xs.length≤9){i:Nat}(hi:xs.length≤i):FlI xs (lws (xs.take i)) (cf xs 0+1):=by
 have h1:=Zzz hs hl i
 have h2:=Zm4 hs 0
 refine⟨by rw [List.take_of_length_le hi];exact Zz3 xs,Zv9 xs,O,O⟩
structure Ef (a:R2):Prop where
 p:0<a.2
 b1:bl a.1.natAbs≤512
 b2:bl a.2.natAbs≤512
theorem E32.ef{a:R2}(h:E32 a):Ef a:=⟨h.p,Nat.le_trans h.b1 O3,Nat.le_trans h.b2 O3⟩
def plx(a b:R2):Int:=a.1*b.2
def ply(a b:R2):Int:=b.1*a.2
def pld(a b:R2):Int:=a.2*b.2
def plc(xs:List Int)(a b:R2):List Int:=Lc xs (plx a b) (ply a b-plx a b) (pld a b)
def psum(c:List Int)(d j:Nat)(i:Nat):Int:=Zs (fun i=>cf c i*(Pa (d-i) (j-i):Int)) i
def plainB(xs:List Int)(a b:R2):Bool:=if xs.length=0 then true else(List.range xs.length).all fun j=>decide (0≤psum (plc xs a b) (xs.length-1) j (min (j+1) (plc xs a b).length))
abbrev PTs:=Int×R2×R2
abbrev P0:PTs:=(0,(0,0),(0,0))
abbrev encP9 (z:PTs):Value:= .agg #[.int .i64 z.1,.bool (decide (z.2.1.1<0)),.string (Xn z.2.1.1.natAbs),.bool (decide (z.2.1.2<0)),.string (Xn z.2.1.2.natAbs),.bool (decide (z.2.2.1<0)),.string (Xn z.2.2.1.natAbs),.bool (decide (z.2.2.2<0)),.string (Xn z.2.2.2.natAbs)]
def shw(xs:List Int)(z:PTs):Bool:=if z.1=1 then plainB xs z.2.1 z.2.2 else if xs.length=0∨cmp z.2.1 z.2.2=0 then decide (0≤vlu (Pd xs) z.2.1)else decide (0<aft (Pd xs) z.2.1) && !crb (chx xs) z.2.1 z.2.2
def okpB(xs:List Int)(l:R2)(z:PTs):Bool:=decide (cmp l z.2.1=0) && decide (¬0<cmp z.2.1 z.2.2) && shw xs z
def lst(a:R2)(ps:List PTs)(i:Nat):R2:=if i=0 then a else(ps.getD (i-1) P0).2.2
def chkP(xs:List Int)(ps:List PTs)(a b:R2):Bool:=decide (0<ps.length) && (List.range ps.length).all (fun k=>okpB xs (lst a ps k) (ps.getD k P0)) && decide (cmp (lst a ps ps.length) b=0)
def ValP(ps:List PTs):Prop:=∀z∈ps,(z.1=1∨z.1=2)∧Ef z.2.1∧Ef z.2.2
theorem Ef.efit{a:R2}(h:Ef a):Go.Sky.efit a=true:=by
 have:=h.b1
 have:=h.b2
 unfold Go.Sky.efit;exact decide_eq_true O
theorem Yb9{b:Bool}(h:(!b)=true):b=false:=by cases b<;>simp_all
theorem Yca{b:Bool}(h:(!b)=false):b=true:=by cases b<;>simp_all
theorem r2u {P:Program} {N:Nat} {sc:Nat→Prop} {env:Qj} {H:Hp} {M:Nat→Prop} {ops:Array Oper} {F:Qj→Hp→Prop} {rest:List (Nat×Nat)} {o:Oper} {i d j e:Nat} {b:Bool} (ho:ops[i]? = some o) (hg:o.guard=some (j,b)) (hj:(ops[j]?).bind (·.dst)=some e) (he:lk env e=some undef) (hd:o.dst=some d) 
  (h:LD P N sc M ops F rest ((d,undef) :: env) H) (hN:Nat.blt d N=true:=by rfl):LD P N sc M ops F ((i,2) :: rest) env H:=⟨o,d,ho,hd,hN,fun a w hsat=>by simp [Region.wanted,hg,hsat.yieldedu hj he],h⟩
theorem Zx3(fr to ov fr2 to2 ov2:Int)(vx vy vz vx2 vy2 vz2:Value)(x y z x2 y2 z2:List Int)(hS:Sgo fr to ov x y z)(hS2:Sgo fr2 to2 ov2 x2 y2 z2):Cal Tryz.prog 159 #[.agg #[.int .i64 fr,.int .i64 to,.int .i64 ov,vx,vy,vz],.agg #[.int .i64 fr2,.int .i64 to2,.int .i64 ov2,vx2,vy2,vz2]] [Yk 1 Yu vx x,Yk 1 Yu vy y,Yk 1 Yu vz z,Yk 1 Yu vx2 x2,Yk 1 Yu vy2 y2,Yk 1 Yu vz2 z2] false (G:=Unit) (fun _=>True) (fun _=> .bool (Zn9 to ov x y z fr2 ov2 x2 y2 z2)) (fun _=>[]):=by
 refine Zd Tryz.func159 Tryz.ntmps159 fun w0 sc hw hsc=>?_
 refine go 2 ?_
 refine Yc (Yb 7) fun bx _=>?_
 refine Yc (Yb 8) fun bx_2 _=>?_
 refine go 4 ?_
 rcases(show to=fr2∨to≠fr2 by omega)with hc1 | hc1
 ·refine Qe (fun _=>False) [(0,0),(1,0),(2,0),(3,0),(4,0),(5,0),(6,0),(8,0),(7,1),(9,1),(10,0),(11,0),(12,3)] ?_
  refine go 4 ?_
  refine Qb rfl rfl (Ph (Zp (r':= .bool true) (Ybl rfl rfl rfl) (congrArg Value.bool (decide_eq_true hc1)))) ?_
  refine go 3 ?_
  refine Yeb rfl rfl rfl rfl rfl (Gh (n:=8) (Zna _ _ _ _ _ _ _ _ _ 1 1 hS ⟨O3,O3⟩ ⟨O3,O3⟩) rfl rfl rfl ⟨rfl,rfl,rfl,trivial⟩ Tryz.call177 (Yi 1 rfl rfl rfl (Yi 2 rfl rfl rfl (Yi 3 rfl rfl rfl Yf))) rfl hw.h) (fun _ _=>?_)
  refine Yeb rfl rfl rfl rfl rfl (Gh (n:=8) (Zna _ _ _ _ _ _ _ _ _ 0 1 hS2 ⟨O3,O3⟩ ⟨O3,O3⟩) rfl rfl rfl ⟨rfl,rfl,rfl,trivial⟩ Tryz.call177 (Yi 4 rfl rfl rfl (Yi 5 rfl rfl rfl (Yi 6 rfl rfl rfl Yf))) rfl hw.h) (fun _ _=>?_)
  refine r0g (Ph (Ybm rfl rfl rfl eg162 (fun w=>eqlP w _ _ _ _ _ _ _ _))) rfl rfl rfl rfl rfl ?_
  refine go 5 ?_
  exact Xo hsc () Tryz.results159 (by unfold Zn9;rw [decide_eq_true hc1];rfl) trivial Za
 ·refine Qe (fun _=>False) [(0,0),(1,0),(2,0),(3,0),(4,0),(5,0),(6,2),(8,2),(7,2),(9,2),(10,2),(11,0),(12,3)] ?_
  refine go 4 ?_
  refine Qb rfl rfl (Ph (Zp (r':= .bool false) (Ybl rfl rfl rfl) (congrArg Value.bool (decide_eq_false hc1)))) ?_
  refine go 11 ?_
  exact Xo hsc () Tryz.results159 (by unfold Zn9;rw [decide_eq_false hc1];rfl) trivial Za
theorem Zcw(v:Value)(ps:List Zn)(hp:∀g∈ps,Gin g):Cal Tryz.prog 89 #[v] [Ps 6 Mp qG v ps] false (G:=Unit) (fun _=>True) (fun _=> .bool (Ox ps)) (fun _=>[]):=by
 refine Zd Tryz.func89 Tryz.ntmps89 fun w0 sc hw hsc=>?_
 refine Mr (Er (i:=1) rfl Yl) (fun hlen=>?_)
 refine go 14 ?_
 refine lp (G:=Nat) [0,5,6] [0,1] (fun i=>[(7,.int .i64 (i:Int))]) (fun i=>[]) (fun i=>(i≤ps.length)∧(∀k,k<i→Zb8 ps k=true)) (fun i=>ps.length-i) 0 ⟨O1,fun k hk=>absurd hk (Nat.not_lt_zero k)⟩ ⟨rfl,trivial⟩ trivial ?_
 rintro i ⟨hi,hk⟩
 refine go 6 ?_
 refine Zc rfl (fun h117=>?_) (fun h117=>?_)
 ·refine go 5 ?_
  have hg:=hp _ (Zu (d:=G0) (show i<ps.length by omega))
  refine Zi (Nv (g:=(ps.getD i G0)) (z:=(ps.getD i G0).2.1) 1 51 rfl rfl (Zu) O6) ?_
  refine Zi (Nv (g:=(ps.getD i G0)) (z:=(ps.getD i G0).2.2.1) 1 52 rfl rfl (Zu) O6) ?_
  refine Zi (Nv (g:=(ps.getD i G0)) (z:=(ps.getD i G0).2.2.2) 1 53 rfl rfl (Zu) O6) ?_
  refine go 3 ⟨O2,?_⟩
  refine dt (Lz (ii:=1) G0 rfl rfl rfl Yl pG O2) ?_
  refine Yc (Zr 2) fun bx _=>?_
  refine go 5 ?_
  rcases Zvn (ps.getD i G0) i with hc1 | ⟨hc1,hc2⟩ | ⟨hc1,hc2⟩
  ·refine Qe (fun _=>False) [(0,0),(1,1),(2,0),(3,0),(4,2),(5,2),(6,2),(7,2),(8,2),(9,2),(10,2),(11,2),(12,2),(13,2),(14,2),(15,2),(16,0)] ?_
   refine go 1 ?_
   refine Yz (Zf 2 [51,52,53] (Aj _ _ _ _ _ _ _ _ _ hg.f hg.t hg.o hg.x hg.y hg.z)) fun _ _=>?_
   refine Qb rfl rfl (Ph (Zp (r':= .bool true) (Xt rfl rfl) (congrArg Value.bool (by rw [show Fi _ _ _ _ _ _=_ from hc1];rfl)))) ?_
   refine go 4 ?_
   refine r2u rfl rfl rfl rfl rfl ?_
   refine r2u rfl rfl rfl rfl rfl ?_
   refine r2u rfl rfl rfl rfl rfl ?_
   refine r2u rfl rfl rfl rfl rfl ?_
   refine r2u rfl rfl rfl rfl rfl ?_
   refine r2u rfl rfl rfl rfl rfl ?_
   refine r2u rfl rfl rfl rfl rfl ?_
   refine r2u rfl rfl rfl rfl rfl ?_
   refine go 16 ?_
   exact Xo hsc () Tryz.results89 (by rw [Zs4 (i:=i) O (okAt_s hc1)]) trivial Za
  ·refine Qe (fun _=>False) [(0,0),(1,1),(2,0),(3,0),(4,0),(5,0),(6,0),(7,2),(8,2),(9,2),(10,2),(11,2),(12,2),(13,2),(14,2),(15,0),(16,0)] ?_
   refine go 1 ?_
   refine Yz (Zf 2 [51,52,53] (Aj _ _ _ _ _ _ _ _ _ hg.f hg.t hg.o hg.x hg.y hg.z)) fun _ _=>?_
   refine Qb rfl rfl (Ph (Zp (r':= .bool false) (Xt rfl rfl) (congrArg Value.bool (by rw [show Fi _ _ _ _ _ _=_ from hc1];rfl)))) ?_
   refine go 2 ?_
   refine r0g (Ph (Zp (r':= .bool false) (Zpa rfl rfl rfl) (congrArg Value.bool (decide_eq_false O)))) rfl rfl rfl rfl rfl ?_
   refine go 21 ⟨O,?_⟩
   exact Xg (i+1) ⟨O1,fun k h9=>by rcases Nat.lt_succ_iff_lt_or_eq.1 h9 with h8 | h8;exact hk k h8;subst h8;exact okAt_0 hc1 hc2⟩ O1 ⟨rfl,trivial⟩ trivial
  ·refine Zi (Nv (g:=(ps.getD (i-1) G0)) (z:=(ps.getD (i-1) G0).2.1) 1 54 rfl rfl (Zu) O6) ?_
   refine Zi (Nv (g:=(ps.getD (i-1) G0)) (z:=(ps.getD (i-1) G0).2.2.1) 1 55 rfl rfl (Zu) O6) ?_
   refine Zi (Nv (g:=(ps.getD (i-1) G0)) (z:=(ps.getD (i-1) G0).2.2.2) 1 56 rfl rfl (Zu) O6) ?_
   refine Qe (fun _=>False) [(0,0),(1,1),(2,0),(3,0),(4,0),(5,0),(6,0),(7,0),(8,0),(9,0),(10,0),(11,0),(12,0),(13,1),(14,0),(15,0),(16,0)] ?_
   refine go 1 ?_
   refine Yz (Zf 2 [51,52,53] (Aj _ _ _ _ _ _ _ _ _ hg.f hg.t hg.o hg.x hg.y hg.z)) fun _ _=>?_
   refine Qb rfl rfl (Ph (Zp (r':= .bool false) (Xt rfl rfl) (congrArg Value.bool (by rw [show Fi _ _ _ _ _ _=_ from hc1];rfl)))) ?_
   refine go 2 ?_
   refine r0g (Ph (Zp (r':= .bool true) (Zpa rfl rfl rfl) (congrArg Value.bool (decide_eq_true O)))) rfl rfl rfl rfl rfl ?_
   refine go 4 ⟨O,?_⟩
   refine r0g (Ph (Ym (ii:=1) (i:=(i-1)) rfl rfl rfl rfl Yl Tryz.underlying38 Tryz.sizeOf35)) rfl rfl rfl rfl rfl ?_
   refine r0g (Ph (Lz (ii:=1) G0 rfl rfl rfl Yl pG)) rfl rfl rfl rfl rfl ?_
   refine go 1 ?_
   refine Yeb rfl rfl rfl rfl rfl (Gh (n:=2) (Zx3 _ _ _ _ _ _ _ _ _ _ _ _ _ _ _ _ _ _ (Du (hp _ (Zu)) (Zf0 (hk (i-1) O))) (Du hg hc1)) rfl rfl rfl ⟨rfl,rfl,trivial⟩ Tryz.call159 (Yi 54 rfl rfl rfl (Yi 55 rfl rfl rfl (Yi 56 rfl rfl rfl (Yi 51 rfl rfl rfl (Yi 52 rfl rfl rfl (Yi 53 rfl rfl rfl Yf)))))) rfl hw.h) (fun _ _=>?_)
   refine go 5 ?_
   refine My rfl (fun h118=>?_) (fun h118=>?_)
   ·refine go 11 ?_
    exact Xo hsc () Tryz.results89 (by rw [Zs4 (i:=i) O ((Zql hc1 hc2).trans (Yb9 ‹_›))]) trivial Za
   ·refine go 7 ⟨O,?_⟩
    exact Xg (i+1) ⟨O1,fun k h9=>by rcases Nat.lt_succ_iff_lt_or_eq.1 h9 with h8 | h8;exact hk k h8;subst h8;exact(Zql hc1 hc2).trans (Yca ‹_›)⟩ O1 ⟨rfl,trivial⟩ trivial
 ·obtain rfl:i=ps.length:=O
  refine go 11 ?_
  refine Yv (d:=33) rfl (fun s122=>?_) (fun s122=>?_)
  ·refine go 8 ?_
   exact Xo hsc () Tryz.results89 (by rw [Zs5 hk];first | exact congrArg Value.bool (decide_eq_decide.2 O) | exact congrArg Value.bool (decide_eq_false O)) trivial Za
  ·refine go 8 ?_
   exact Xo hsc () Tryz.results89 (by rw [Zs5 hk];first | exact congrArg Value.bool (decide_eq_decide.2 O) | exact congrArg Value.bool (decide_eq_false O)) trivial Za
def Pt(c:List Int)(a b d:Int):List Int:=Yp (Lc (tzl c) a b d) (d^(6-c.length))
theorem Zii{a:Int}(h:a.natAbs≤3600000):bl a.natAbs≤22:=(Xs 22 _).2 (Nat.lt_of_le_of_lt h O3)
theorem Zj5{d:Int}(h:bl d.natAbs≤22):∀k,k≤5→bl (d^k).natAbs≤132
 | 0,_=>by rw [Int.pow_zero];decide
 | k+1,hk=>by
  have key:∀k,bl (d^k).natAbs≤22*k+1:=fun k=>by
   induction k with
   | zero=>rw [Int.pow_zero];decide
   | succ k ih=>rw [Int.pow_succ];have:=Xb (d^k) d;omega
  have:=key (k+1);omega
theorem Zl6{c:List Int}(hc:∀a∈c,Nc a)(hl:1≤c.length∧c.length≤6){a b d:Int}(ha:a.natAbs≤3600000)(hb:b.natAbs≤3600000)(hd:1≤d∧d≤3600000) :
  Vp (tzl c)∧¬Zh8 (tzl c) a b d∧Vp (Lc (tzl c) a b d)∧bl (d^(6-c.length)).natAbs≤132∧(∀i,bl (cf (Lc (tzl c) a b d) i*d^(6-c.length)).natAbs≤65536)∧Vp (Pt c a b d)∧Sz 1000 (Pt c a b d)∧(Pt c a b d).length≤6:=by
 have l0:(tzl c).length≤6:=Nat.le_trans (Ke c) hl.2
 have s0:Sz 64 (tzl c):=(ab_in hc).sz O3
 have b1:=Zii ha
 have b2:=Zii hb
 have b3:bl d.natAbs≤22:=Zii O
 have hnf:=cp_not (cp_nf s0 b1 b2 b3 O O)
 have hs:Sz 300 (Lc (tzl c) a b d):=by
  have hc:=Zfp (x:=a) (y:=b) (z:=d) (m:=22) s0 b1 b2 b3 ((tzl c).length-1)
  unfold Lc
  split
  ·exact Sz.nil _
  ·refine(Sz.tzl hc).mono ?_
   have:((tzl c).length-1)*(22+1)≤5*23:=Nat.mul_le_mul O O
   omega
 have ht:Tr (Lc (tzl c) a b d):=by
  unfold Lc
  split
  ·exact .inl rfl
  ·exact Xv _
 have hl2:(Lc (tzl c) a b d).length≤6:=Nat.le_trans (Zcb _ _ _ _) l0
 have hp:=Zj5 b3 (6-c.length) O
 have hq:∀i,bl (cf (Lc (tzl c) a b d) i*d^(6-c.length)).natAbs≤500:=fun i=>by
  have h1:=hs i
  have h2:=Xb (cf (Lc (tzl c) a b d) i) (d^(6-c.length))
  omega
 have hs3:Sz 1000 (Pt c a b d):=fun i=>by unfold Pt;rw [Xq];have:=hq i;omega
 have hl3:(Pt c a b d).length≤6:=Nat.le_trans (Mj _ _) hl2
 exact⟨⟨s0.mono O,Xv _,O⟩,hnf,⟨hs.mono O,ht,O⟩,hp,fun i=>by have:=hq i;omega,⟨hs3.mono O,Pw _ _,O⟩,hs3,hl3⟩
def Zn1(zs:List (SL×List Int)):List (SL×List Int):=zs ++ List.replicate (3-zs.length) ((none,0,0),[])
theorem Zz7{zs:List (SL×List Int)}(h:zs.length≤3):(Zn1 zs).length=3:=by unfold Zn1;rw [List.length_append,List.length_replicate];omega
theorem Zze{zs:List (SL×List Int)}{i:Nat}{z:SL×List Int}(hi:i<3)(h:zs.length=i):(Zn1 zs).set i z=Zn1 (zs ++ [z]):=by
 subst h
 unfold Zn1
 rw [List.set_append_right _ _ (Nat.le_refl _),Nat.sub_self,List.length_append,List.append_assoc]
 congr 1
 obtain⟨k,hk⟩:∃k,3-zs.length=k+1:=⟨2-zs.length,O⟩
 rw [hk,List.replicate_succ,List.set_cons_zero,show 3-(zs.length+[z].length)=k by simp;omega]
 rfl
theorem Zph{zs:List (SL×List Int)}{i t:Nat}{s:SL}{f:Nat→List Int}{d0:SL×List Int}(hl:zs.length=i)(h:∀t,t<i→(zs.getD t d0).2=f t)(ht:t<i+1):((zs ++ [(s,f i)]).getD t d0).2=f t:=by
 subst hl
 rw [List.getD_eq_getElem?_getD]
 rcases Nat.lt_succ_iff_lt_or_eq.1 ht with h9 | h9
 ·rw [List.getElem?_append_left h9,←List.getD_eq_getElem?_getD];exact h t h9
 ·subst h9;simp
theorem Zxj{zs:List (SL×List Int)}{x y z:List Int}{a b d:Int}{d0:SL×List Int}(hl:zs.length=3)(h:∀t,t<3→(zs.getD t d0).2=Pt (Zt t x y z) a b d):∃s1 s2 s3:SL,zs=[(s1,Pt x a b d),(s2,Pt y a b d),(s3,Pt z a b d)]:=by
 match zs,hl with
 | [z0,z1,z2],_=>
  have h0:=h 0 O3
  have h1:=h 1 O3
  have h2:=h 2 O3
  simp [Zt]at h0 h1 h2
  exact⟨z0.1,z1.1,z2.1,by rw [←h0,←h1,←h2]⟩
open Go.RowKit (Below)
variable {P:Program} {N:Nat} {sc:Nat→Prop} {env env':Qj} {H H':Hp} {Q Q':Exit→Act→World→Prop}
theorem Zyo{n:Nat}{row:String}{args:Array Value}{w:World}{R:Value→World→Prop}(h:Rows P row args w R):RowsIn Fence.wide n P row args w R:=fun c cs _=>
 let ⟨v,w',r,s⟩:=h c cs;⟨v,w',r,stepsIn_wide.2 s⟩
def noQ:Exit→Act→World→Prop:=fun _ _ _=>False
section
variable {ops:Array Oper} {C:World→World→Prop}
def wpAnyZ(P:Program)(ops:Array Oper)(ts:List Nat)(C:World→World→Prop)(Q:Exit→Act→World→Prop):Nat→Array Bool→Act→World→Prop
 | 0,_,_,_=>False
 | fuel+1,listed,a,w=>if Fh ops ts listed=true then wpAnyIn Fence.wide 0 P .any ops Q (fuel+1) listed a w else
  (Region.ready .any ops listed=[]→False)∧
  ∀i∈Region.ready .any ops listed,wpOp P ops noQ i (fun a' w'=>C w w'∧wpAnyZ P ops ts C Q fuel (listed.setIfInBounds i true) a' w') a w
inductive Dep (ops:Array Oper) (i:Nat):Nat→Prop
 | base {j:Nat} {o:Oper} {e:Edge} : ops[j]? = some o→e∈o.after→Region.binds .any e=true→e.on=i→Dep ops i j
 | step {j:Nat} {o:Oper} {e:Edge} : ops[j]? = some o→e∈o.after→Region.binds .any e=true→Dep ops i e.on→Dep ops i j
def Ybe(ops:Array Oper)(i:Nat):Nat→List Nat
 | 0=>[]
 | k+1=>match ops[k]? with
  | some o=>if o.after.any (fun e=>Region.binds .any e && (e.on == i || (Ybe ops i k).contains e.on))then k :: Ybe ops i k else Ybe ops i k
  | none=>Ybe ops i k
def Clo(ops:Array Oper)(listed:Array Bool):Prop:=∀k o,ops[k]? = some o→listed.getD k true=true→∀e∈o.after,Region.binds .any e=true→listed.getD e.on true=true
theorem Ye9{l:Array Bool}{x:Nat}(h:l.getD x false=true):l.getD x true=true:=by
 rcases Nat.lt_or_ge x l.size with h' | h'<;>simp_all
theorem Clo.set{listed:Array Bool}{j:Nat}(hc:Clo ops listed)(hj:j∈Region.ready .any ops listed):Clo ops (listed.setIfInBounds j true):=fun k o ho hk e he hb=>by
 obtain⟨hun,oj,hoj,hall⟩:=mem_ready.1 hj
 have key:listed.getD e.on true=true:=by
  by_cases hjk:j=k
  ·subst hjk
   rw [hoj]at ho;cases ho
   exact Ye9 (hall _ he hb)
  ·rw [getD_set_ne true hjk]at hk
   exact hc k o ho hk e he hb
 by_cases hje:j=e.on
 ·subst hje
  by_cases hs:e.on<listed.size<;>simp_all
 ·rw [getD_set_ne true hje];exact key
end
def Zsx(ops:Array Oper)(ts:List Nat):List (Nat×Nat)→Array Bool→Bool
 | [],_=>true
 | (i,1) :: rest,listed=>(Region.ready .any ops listed == [i]) && !(Fh ops ts listed) && Zsx ops ts rest (listed.setIfInBounds i true)
 | (i,3) :: rest,listed=>false
 | (i,_) :: rest,listed=>(Region.ready .any ops listed).contains i && Region.free .any ops listed i && !(ts.contains i) && ts.all (fun j=>(Ybe ops i ops.size).contains j) && Zsx ops ts rest (listed.setIfInBounds i true)
def YL(P:Program)(N:Nat)(sc:Nat→Prop)(ops:Array Oper)(Q:Exit→Act→World→Prop)(k:Nat)(listed:Array Bool)(env:Qj)(H:Hp):Prop:=
 ∀a w,Sat N sc env H a w→wpAnyIn Fence.wide 0 P .any ops Q (k+1) listed a w
end Go.Sky
namespace Go.Sky
open Go.RowKit (Below)
variable {P:Program} {N:Nat} {sc:Nat→Prop} {env env':Qj} {H H':Hp} {Q Q':Exit→Act→World→Prop}
def CalY(P:Program)(f:FuncId)(lb:List Value)(pre:List Pc)(φ0:Prop){G:Type}(φ1:G→Prop)(xv:G→Value):Prop:=
 ∀(l:Nat) (J:World→Prop) (w:World),(∀p∈pre,p.holds w)→
  (∀g,φ1 g→∀W1,Below w.heap.size w W1→YieldAt Fence.wide 0 P l #[xv g] W1 fun e W'=>e= .returned (.bool false)∧J W')→
  Calls P f (.func (.yield l) #[] #[] :: lb).toArray w fun e w'=>(∃v,e= .returned v)∧((φ0∧Below w.heap.size w w')∨J w')
def FPostY(P:Program)(fn:Func)(w0:World)(φ0:Prop)(J:World→Prop):Exit→Act→World→Prop:=
 bodyPost P fn fun e w'=>(∃v,e= .returned v)∧((φ0∧Below w0.heap.size w0 w')∨J w')
def YJ(P:Program)(w0:World)(l:Nat){G:Type}(φ1:G→Prop)(xv:G→Value)(J:World→Prop):Prop:=
 ∀g,φ1 g→∀W1,Below w0.heap.size w0 W1→YieldAt Fence.wide 0 P l #[xv g] W1 fun e W'=>e= .returned (.bool false)∧J W'
theorem Zys{fn:Func}{tmps:Array Value}{w:World}(hf:fn.results=#[]):(results fn tmps).run P w= .ok (.tuple #[]) w:=by
 rw [Zg2,hf];simp
end Go.Sky
namespace Go.Sky
open Go.RowKit (Below)
variable {P:Program} {N:Nat} {sc:Nat→Prop} {env env':Qj} {H H':Hp} {Q Q':Exit→Act→World→Prop}
end Go.Sky
namespace Go.Sky
open Go.RowKit (Below)
variable {P:Program} {N:Nat} {sc:Nat→Prop} {env env':Qj} {H H':Hp} {Q Q':Exit→Act→World→Prop}
def Zew(P:Program)(fn:Func)(w0:World)(pre:List Pc)(al:Bool){G:Type}(φ:G→Prop)(Zv:G→Value)(its:G→List Pc):Exit→Act→World→Prop:=
  bodyPostM Fence.wide 0 P fn fun e w' => ∃ g, e = .returned (Zv g) ∧ φ g ∧ Below w0.heap.size w0 w' ∧
        ∀p∈its g,p.holds w'∧p.own=false∧∀b,p.fp b→w0.heap.size≤b∨(al=true∧∃q∈pre,q.fp b)
theorem Ygg {f:FuncId} {fn:Func} {c:Code} {vs:List Value} {pre:List Pc} {al:Bool} {G:Type} {φ:G→Prop} {Zv:G→Value} {its:G→List Pc} {N:Nat}
    (hf:P.funcs[f]? = some fn) (hb:fn.body=some c) (hN:fn.ntmps=N) (hle:Nat.ble vs.length N=true) (hro:AllRo pre)
    (h:∀w0 (sc:Nat→Prop),(∀b,w0.heap.size≤b→sc b)→(∀b,sc b→w0.heap.size≤b∨∃q∈pre,q.fp b)→
      E P N sc c (Zew P fn w0 pre al φ Zv its) (Ql 0 vs) ((0,Xe w0 (fun _=>False)) :: Xj 1 pre)) :
    Cal P f vs.toArray pre al φ Zv its:=fun w hp=>by
  refine(callsIn_wide (n:=0)).1 (callsIn_of_wp_marks hf hb trivial (wpIn_wide.2 (h w (fun b=>w.heap.size≤b∨∃q∈pre,q.fp b) (fun b hb=> .inl hb) (fun b hb=>hb) _ w ?_)))
  have hle':vs.length≤N:=by simpa using hle
  refine⟨by simp [hN];omega,rfl,fun t v ht=>?_,fun i p hi=>?_,fun i j p q hne hi hj ho b hb hb'=>?_,fun i p hi0 hi b hb=>?_⟩
  · have h1:=(Iu vs 0 t v ht).2
    have h1:vs.toArray[t]? = some v:=by simpa using h1
    have hlt:=(Array.getElem?_eq_some_iff.1 h1).1
    rw [Array.getD_eq_getD_getElem?,Array.getElem?_append_left hlt,h1];rfl
  · by_cases h0:0=i
    · subst h0;rw [Zq]at hi;cases hi;exact Chg.refl _ w
    · rw [Zg _ _ h0]at hi
      exact hp p (Pz pre 1 i p hi).2
  · by_cases h0:0=i
    · subst h0;rw [Zq]at hi;cases hi;cases ho
    · rw [Zg _ _ h0]at hi
      rw [hro.mem p (Pz pre 1 i p hi).2]at ho;cases ho
  · rw [Zg _ _ (fun e=>hi0 e.symm)]at hi
    exact .inr ⟨p,(Pz pre 1 i p hi).2,hb⟩
def onlyR(Q:Exit→Act→World→Prop):Exit→Act→World→Prop:=Ge Q
theorem Fs:¬LetsOut (Ge Q):=fun⟨_,_,h⟩=>h
theorem Yej{o:Oper}{a:Act}{w:World}{K:Act→World→Prop}{r:Nat}(hnd:∀c,o.op≠ .defer c)(h:o.wp P a w K (Ge Q)):o.wpIn (Fence.wide.inRound r) 0 P a w K Q:=by
  refine⟨fun _ _=>trivial,?_⟩
  unfold Oper.wp at h
  show o.uponIn (Fence.wide.inRound r) 0 P a K Q ((o.semAt (some r) a.eval).run P w)
  rw [Oper.semAt_some r _ o hnd]
  generalize (execOp a.eval o).run P w=x at *
  cases x with
  | ok n w'=>
    cases n<;>simp only [Oper.upon,Oper.uponIn]at h ⊢
    case value=>exact h
    case skip=>exact h
    case defer=>exact h
    case enter f args=>
      refine⟨fun h=>(by cases h),CallsIn.inRound r (callsIn_wide.2 (h.mono fun e w'' he=>?_))⟩
      cases e with
      | returned v=>exact he
      | panicked c=>exact he.elim
      | outgrown=>exact absurd he Fs
    case row row args=>exact⟨fun h=>(by cases h),Zyo (n:=0) h⟩
  | halt x w'=>
    cases x<;>simp only [Oper.upon]at h
    case panic u=>exact h.elim
def Zk5(l:List Oper):Prop:=∀o∈l,∀c,o.op≠ .defer c
theorem Zla{ops:Array Oper}{r:Nat} : ∀(l:List Oper) (a:Act) (w:World),Zk5 l→wpList P ops (Ge Q) l a w→wpListIn (Fence.wide.inRound r) 0 P ops Q l a w
  | [],_,_,_,h=>h
  | o :: l,a,w,hnd,h=>by
    unfold wpList at h
    unfold wpListIn
    split
    · rename_i hw
      simp only [hw,if_true]at h
      exact Oper.wpIn_mono (fun a w hk=>Zla l a w (fun o ho=>hnd o (List.mem_cons_of_mem _ ho)) hk) (Yej (hnd o (List.mem_cons_self ..)) (h.resolve_right fun h=>Fs h.2))
    · rename_i hw
      simp only [hw]at h
      exact⟨fun _ _=>trivial,Zla l _ w (fun o ho=>hnd o (List.mem_cons_of_mem _ ho)) h⟩
theorem Zyu{id r:Nat}{l:List Oper}{a:Act}{w:World}(hnd:Zk5 l)(h:L P N sc l.toArray l (Ge Q) env H)(hs:Sat N sc env H a w):(Code.region id l.toArray false).wpIn (Fence.wide.inRound r) 0 P Q a w:=
  wpIn_region_lit (Zla l a w hnd (h a w hs))
def fx(l:Nat)(o:Obj):Pc:=
  { own:=false,fp:=fun b=>b=l,holds:=fun w=>w.heap[l]? = some o
    lt:=fun w b h hb=>by subst hb;exact(Array.getElem?_eq_some_iff.1 h).1
    stable:=fun w w' h hc=>(hc.block l (Array.getElem?_eq_some_iff.1 h).1 (fun hn=>hn rfl)).trans h }
def Zda(o:Oper):Bool:=match o.op with
  | .build ..=>true
  | .store ..=>true
  | .load ..=>true
  | .alloc ..=>true
  | _=>false
theorem Zy9{o:Oper}(h:Zda o=true){ρ:Operand→Value}{w w':World}{d:Deferred} : (execOp ρ o).run P w≠ .ok (.defer d) w':=fun he=>by
  unfold Zda at h
  cases ho:o.op<;>simp only [ho]at h<;>try (cases h;done)
  all_goals
    simp only [execOp,ho,Sem.run_bind]at he
    revert he
    generalize Sem.run P _ w=r
    cases r<;>simp [Result.andThen,Sem.run_pure]
theorem Zg5(a:Act)(ds:List Deferred)(d:Option Tmp)(v:Value):({ a with defers:=ds } : Act).put d v={ a.put d v with defers:=ds }:=by cases d<;>rfl
theorem Yek {o:Oper} {a:Act} {w:World} {ds:List Deferred} {K K':Act→World→Prop} {Q1:Exit→Act→World→Prop} (hnd:Zda o=true) (hk:∀a w,K a w→K' { a with defers:=ds } w)
    (hq:∀e a w,¬Q1 e a w) (h:o.wp P a w K Q1):o.wp P { a with defers:=ds } w K' Q:=by
  unfold Oper.wp at h ⊢
  have hne:=fun d w'=>Zy9 (P:=P) hnd (ρ:=a.eval) (w:=w) (w':=w') (d:=d)
  show o.upon P _ K' Q ((execOp a.eval o).run P w)
  generalize (execOp a.eval o).run P w=x at *
  cases x with
  | ok n w'=>
    cases n<;>simp only [Oper.upon]at h ⊢
    case value=>rw [Zg5];exact hk _ _ h
    case skip=>rw [Zg5];exact hk _ _ h
    case defer d=>exact absurd rfl (hne d w')
    case enter f args=>
      refine h.mono fun e w'' he=>?_
      cases e with
      | returned v=>show K' (({ a with defers:=ds } : Act).put o.dst v) w'';rw [Zg5];exact hk _ _ he
      | panicked c=>exact(hq _ _ _ he).elim
      | outgrown=>obtain⟨_,_,h⟩:=he;exact(hq _ _ _ h).elim
    case row row args=>exact h.mono fun _ _ he=>by rw [Zg5];exact hk _ _ he
  | halt x w'=>
    cases x<;>simp only [Oper.upon]at h
    case panic u=>exact(hq _ _ _ h).elim
theorem Zlb{ops:Array Oper}{ds:List Deferred} : ∀(l:List Oper) (a:Act) (w:World),l.all Zda=true→wpList P ops (Ge fun e a w=>Q e { a with defers:=ds } w) l a w→wpList P ops Q l { a with defers:=ds } w
  | [],_,_,_,h=>h
  | o :: l,a,w,hnd,h=>by
    simp only [List.all_cons,Bool.and_eq_true]at hnd
    unfold wpList at h ⊢
    split
    · rename_i hw
      simp only [hw,if_true]at h
      have h:=h.resolve_right fun h=>Fs h.2
      refine .inl (Yek (Q1:=noQ) hnd.1 (fun a w hk=>Zlb l a w hnd.2 hk) (fun _ _ _ h=>h) ?_)
      unfold Oper.wp at h ⊢
      revert h
      generalize (execOp a.eval o).run P w=x
      intro h
      cases x with
      | ok n w'=>
        cases n<;>simp only [Oper.upon]at h ⊢
        case value=>exact h
        case skip=>exact h
        case defer=>exact h
        case enter f args=>
          refine h.mono fun e w'' he=>?_
          cases e with
          | returned v=>exact he
          | panicked c=>exact he
          | outgrown=>exact absurd he Fs
        case row row args=>exact h
      | halt x w'=>
        cases x<;>simp only [Oper.upon]at h ⊢
        case panic u=>exact h
    · rename_i hw
      rw [if_neg hw]at h
      rw [Zg5]
      exact Zlb l _ w hnd.2 h
end Go.Sky
namespace Go.Sky
open Go.RowKit (Below)
variable {P:Program} {N:Nat} {sc:Nat→Prop} {env env':Qj} {H H':Hp} {Q Q':Exit→Act→World→Prop}
abbrev ALL:Nat→Prop:=fun _=>True
def FpSub:Hp→Hp→Prop
 | [],_=>True
 | (i,p) :: r,H=>(∃q,lk H i=some q∧p.own=q.own∧∀b,p.fp b→q.fp b)∧FpSub r H
theorem FpSub.lk:∀{H' H:Hp},FpSub H' H→∀i p,lk H' i=some p→∃q,lk H i=some q∧p.own=q.own∧∀b,p.fp b→q.fp b
 | [],_,_,_,_,h=>by cases h
 | (k,u) :: r,H,h,i,p,hi=>by
  by_cases hk:k=i
  ·subst hk;rw [Zq]at hi;cases hi;exact h.1
  ·rw [Zg _ _ hk]at hi;exact FpSub.lk h.2 i p hi
theorem Sat.re{a:Act}{w w':World}(hs:Sat N sc env H a w)(hf:∀i p,lk H' i=some p→∃q,lk H i=some q∧p.own=q.own∧∀b,p.fp b→q.fp b)(hh:∀i p,lk H' i=some p→p.holds w'):Sat N ALL env H' a w':=
 ⟨hs.size,hs.defers,hs.env,hh,fun i j p q hne hi hj ho b hb hb'=>by
  obtain⟨p',hp',ho',hf1⟩:=hf i p hi
  obtain⟨q',hq',_,hf2⟩:=hf j q hj
  exact hs.sep i j p' q' hne hp' hq' (ho'▸ho) b (hf1 b hb) (hf2 b hb'),fun _ _ _ _ _ _=>trivial⟩
def FpN:Hp→Hp→Prop
 | [],_=>True
 | (i,p) :: r,H=>(p.own=true∨∃q,lk H i=some q∧∀b,p.fp b→q.fp b)∧FpN r H
theorem FpN.lk:∀{H' H:Hp},FpN H' H→∀i p,lk H' i=some p→p.own=true∨∃q,lk H i=some q∧∀b,p.fp b→q.fp b
 | [],_,_,_,_,h=>by cases h
 | (k,u) :: r,H,h,i,p,hi=>by
  by_cases hk:k=i
  ·subst hk;rw [Zq]at hi;cases hi;exact h.1
  ·rw [Zg _ _ hk]at hi;exact FpN.lk h.2 i p hi
theorem lk3{p q:Pc}{i:Nat}{r:Pc}(h:lk ((90,p) :: (91,q) :: H) i=some r):(i=90∧r=p)∨(i=91∧r=q)∨(i≠90∧i≠91∧lk H i=some r):=by
 by_cases h1:90=i
 ·subst h1;rw [Zq]at h;cases h;exact .inl ⟨rfl,rfl⟩
 ·rw [Zg _ _ h1]at h
  by_cases h2:91=i
  ·subst h2;rw [Zq]at h;cases h;exact .inr (.inl ⟨rfl,rfl⟩)
  ·rw [Zg _ _ h2]at h;exact .inr (.inr ⟨fun e=>h1 e.symm,fun e=>h2 e.symm,h⟩)
theorem lk3'{p q:Pc}{i:Nat}(h1:i≠90)(h2:i≠91):lk ((90,p) :: (91,q) :: H) i=lk H i:=by
 rw [Zg _ _ (fun e=>h1 e.symm),Zg _ _ (fun e=>h2 e.symm)]
theorem Sat.turn{a:Act}{w:World}{l D:Nat}{o o2 od:Obj}(hs:Sat N ALL env ((90,fx l o) :: (91,fx D od) :: H) a w)(hne:l≠D)(hn:∀i p,i≠90→i≠91→lk H i=some p→¬p.fp l) :
  Sat N ALL env ((90,fx l o2) :: (91,fx D od) :: H) a (w.putObj l o2):=by
 have hl:w.heap[l]? = some o:=hs.hold 90 _ rfl
 have hD:w.heap[D]? = some od:=hs.hold 91 _ rfl
 refine hs.re (fun i p hi=>?_) (fun i p hi=>?_)
 ·rcases lk3 hi with⟨rfl,rfl⟩ | ⟨rfl,rfl⟩ | ⟨h1,h2,hi⟩
  ·exact⟨_,rfl,rfl,fun _ h=>h⟩
  ·exact⟨_,rfl,rfl,fun _ h=>h⟩
  ·exact⟨p,by rw [lk3' h1 h2];exact hi,rfl,fun _ h=>h⟩
 ·rcases lk3 hi with⟨rfl,rfl⟩ | ⟨rfl,rfl⟩ | ⟨h1,h2,h3⟩
  ·exact World.putObj_heap_same (Array.getElem?_eq_some_iff.1 hl).1
  ·exact(World.putObj_heap_other (fun e=>hne e.symm)).trans hD
  ·refine p.stable _ _ (hs.hold i p (by rw [lk3' h1 h2];exact h3)) ⟨rfl,rfl,rfl,O6,fun k hk hn'=>World.putObj_heap_other (fun e=>hn' ?_)⟩
   subst e
   exact hn i p h1 h2 h3
theorem Sat.round{a:Act}{w:World}(hs:Sat N sc env H a w)(d:Nat)(v:Value)(hd:Nat.blt d N=true):Sat N sc ((d,v) :: env) H { tmps:=(#[d].zip #[v]).foldl (fun t (p,v)=>t.setIfInBounds p v) a.tmps,defers:=[] } w:=by
 have h:=hs.put d v hd
 have e:(a.put (some d) v)={ tmps:=(#[d].zip #[v]).foldl (fun t (p,v)=>t.setIfInBounds p v) a.tmps,defers:=[] }:=by
  show({ a with tmps:=a.tmps.setIfInBounds d v } : Act)=_
  rw [←hs.defers];simp
 rw [←e];exact h
theorem Li{ops:Array Oper}{Q1 Q2:Exit→Act→World→Prop}(hq:∀e a w,Q1 e a w→Q2 e a w):∀(l:List Oper) (a:Act) (w:World),wpList P ops Q1 l a w→wpList P ops Q2 l a w
 | [],_,_,h=>hq _ _ _ h
 | o :: l,a,w,h=>by
  unfold wpList at h ⊢
  split
  ·rename_i hw
   rw [if_pos hw]at h
   rcases h with h | ⟨h1,a',w',h2⟩
   ·refine .inl ?_
    unfold Oper.wp at h ⊢
    revert h
    generalize (execOp a.eval o).run P w=x
    intro h
    cases x with
    | ok n w'=>
     cases n<;>simp only [Oper.upon]at h ⊢
     case value=>exact Li hq l _ _ h
     case skip=>exact Li hq l _ _ h
     case defer=>exact Li hq l _ _ h
     case enter f args=>
      refine h.mono fun e w'' he=>?_
      cases e with
      | returned v=>exact Li hq l _ _ he
      | panicked c=>exact hq _ _ _ he
      | outgrown=>obtain⟨a,w,h⟩:=he;exact⟨a,w,hq _ _ _ h⟩
     case row row args=>exact h.mono fun _ _ he=>Li hq l _ _ he
    | halt x w'=>
     cases x<;>simp only [Oper.upon]at h ⊢
     case panic u=>exact hq _ _ _ h
   ·exact .inr ⟨h1,a',w',hq _ _ _ h2⟩
  ·rename_i hw
   rw [if_neg hw]at h
   exact Li hq l _ _ h
end Go.Sky
namespace Go.Sky
open Go.RowKit (Below)
variable {P:Program} {N:Nat} {sc:Nat→Prop} {env env':Qj} {H H':Hp} {Q Q':Exit→Act→World→Prop}
def YJI(P:Program)(w0:World)(l:Nat)(M:Nat→Prop)(J:Nat→World→Prop)(Jx:World→Prop){α G:Type}(xs:List α)(ys:α→G→List Value)(its:α→G→List Pc):Prop:=
 ∀k x g,xs[k]? = some x→∀W W1,J k W→w0.heap.size≤W.heap.size→Below W.heap.size W W1→(∀p∈its x g,p.holds W1∧p.own=false∧∀b,p.fp b→W.heap.size≤b)→
  YieldAt Fence.wide 0 P l (ys x g).toArray W1 fun e W'=>(e= .returned (.bool true)∧J (k+1) W'∧Chg (fun b=>M b∨w0.heap.size≤b) W1 W')∨(e= .returned (.bool false)∧Jx W'∧Chg (fun b=>M b∨w0.heap.size≤b) W1 W')
def Zin(J:World→Prop):Prop:=∀W W',J W→Below W.heap.size W W'→J W'
def CalI(P:Program)(f:FuncId)(lb:List Value)(pre:List Pc){α G:Type}(xs:List α)(ys:α→G→List Value)(its:α→G→List Pc):Prop:=
 ∀(l:Nat) (M:Nat→Prop) (J:Nat→World→Prop) (Jx:World→Prop) (w:World),
  (∀p∈pre,p.holds w)→(∀p∈pre,∀b,p.fp b→¬M b)→(∀k,Zin (J k))→Zin Jx→J 0 w→YJI P w l M J Jx xs ys its→
  Calls P f (.func (.yield l) #[] #[] :: lb).toArray w fun e w'=>(∃v,e= .returned v)∧(J xs.length w'∨Jx w')
def Yc2(P:Program)(fn:Func)(n:Nat)(J:Nat→World→Prop)(Jx:World→Prop):Exit→Act→World→Prop:=
 bodyPost P fn fun e w'=>(∃v,e= .returned v)∧(J n w'∨Jx w')
theorem Ygf {f:FuncId} {fn:Func} {c:Code} {lb:List Value} {pre:List Pc} {α G:Type} {xs:List α} {ys:α→G→List Value} {its:α→G→List Pc} {N:Nat}
  (hf:P.funcs[f]? = some fn) (hb:fn.body=some c) (hN:fn.ntmps=N) (hle:Nat.ble (lb.length+1) N=true) (hro:AllRo pre)
  (h:∀(l:Nat) (M:Nat→Prop) (J:Nat→World→Prop) (Jx:World→Prop) w0 (sc:Nat→Prop),(∀b,w0.heap.size≤b→sc b)→(∀p∈pre,∀b,p.fp b→b<w0.heap.size∧¬M b)→(∀k,Zin (J k))→Zin Jx→J 0 w0→YJI P w0 l M J Jx xs ys its→
   E P N sc c (Yc2 P fn xs.length J Jx) (Ql 0 (.func (.yield l) #[] #[] :: lb)) ((0,Xe w0 (fun _=>False)) :: Xj 1 pre)) :
  CalI P f lb pre xs ys its:=fun l M J Jx w hp hm hJ hJx hJ0 hY=>by
 refine calls_of_wp hf hb (h l M J Jx w (fun b=>w.heap.size≤b∨∃q∈pre,q.fp b) (fun b hb=> .inl hb) (fun p hpp b hb=>⟨p.lt w b (hp p hpp) hb,hm p hpp b hb⟩) hJ hJx hJ0 hY _ w ?_)
 have hle':lb.length+1≤N:=by simpa using hle
 refine⟨by simp [hN];omega,rfl,fun t v ht=>?_,fun i p hi=>?_,fun i j p q hne hi hj ho b hb hb'=>?_,fun i p hi0 hi b hb=>?_⟩
 ·have h1:=(Iu (.func (.yield l) #[] #[] :: lb) 0 t v ht).2
  have h1:(Value.func (.yield l) #[] #[] :: lb).toArray[t]? = some v:=by simpa using h1
  have hlt:=(Array.getElem?_eq_some_iff.1 h1).1
  rw [Array.getD_eq_getD_getElem?,Array.getElem?_append_left hlt,h1];rfl
 ·by_cases h0:0=i
  ·subst h0;rw [Zq]at hi;cases hi;exact Chg.refl _ w
  ·rw [Zg _ _ h0]at hi
   exact hp p (Pz pre 1 i p hi).2
 ·by_cases h0:0=i
  ·subst h0;rw [Zq]at hi;cases hi;cases ho
  ·rw [Zg _ _ h0]at hi
   rw [hro.mem p (Pz pre 1 i p hi).2]at ho;cases ho
 ·rw [Zg _ _ (fun e=>hi0 e.symm)]at hi
  exact .inr ⟨p,(Pz pre 1 i p hi).2,hb⟩
def LI(P:Program)(N:Nat)(sc:Nat→Prop)(ops:Array Oper)(rest:List Oper)(Q:Exit→Act→World→Prop)(env:Qj)(H:Hp):Prop:=
 ∀a w,Sat N sc env H a w→wpListIn Fence.wide 0 P ops Q rest a w
theorem e_li{id:Nat}{l:List Oper}(h:LI P N sc l.toArray l Q env H):E P N sc (.region id l.toArray false) Q env H:=fun a w hs=>
 (wpIn_wide (n:=0)).1 (wpIn_region_lit (h a w hs))
theorem Zex{ops:Array Oper}{o:Oper}{ts:Array Value}(hg:o.guard=none):Region.wanted o (yielded ops ts)=true:=by simp [Region.wanted,hg]
theorem Zhl{ops:Array Oper}{o:Oper}{rest:List Oper}{d:Nat}{v:Value}(hv:Oy P N sc o env H v)(hg:o.guard=none)(hd:o.dst=some d)(hN:Nat.blt d N=true)(h:LI P N sc ops rest Q ((d,v) :: env) H):LI P N sc ops (o :: rest) Q env H:=fun a w hs=>by
 unfold wpListIn
 rw [if_pos (Zex hg)]
 refine⟨fun _ _=>trivial,?_⟩
 show o.uponIn Fence.wide 0 P a _ Q ((execOp a.eval o).run P w)
 rw [hv a w hs]
 show wpListIn Fence.wide 0 P ops Q rest (a.put o.dst v) w
 rw [hd]
 exact h _ w (hs.put d v hN)
theorem Zz5{ops:Array Oper}(h:X N sc .normal Q env H):LI P N sc ops [] Q env H:=fun a w hs=>h a w hs
theorem Sat.base {w0 W1 W':World} {M:Nat→Prop} {pre:List Pc} {a:Act} (hs:Sat N sc env H a W1) (hpre:∀p∈pre,∀b,p.fp b→b<w0.heap.size∧¬M b) (hro:AllRo pre) (hsub:HSub (Xj 1 pre) H)
  (hc:Chg (fun b=>M b∨w0.heap.size≤b) W1 W'):Sat N sc env ((0,Xe W' (fun _=>False)) :: Xj 1 pre) a W':=by
 refine⟨hs.size,hs.defers,hs.env,fun i p hi=>?_,fun i j p q hne hi hj ho b hb hb'=>?_,fun i p hi0 hi b hb=>?_⟩
 ·by_cases h0:0=i
  ·subst h0;rw [Zq]at hi;cases hi;exact Chg.refl _ _
  ·rw [Zg _ _ h0]at hi
   have hp:=(Pz pre 1 i p hi).2
   refine p.stable _ _ (hs.hold i p (hsub.lk i p hi)) ⟨hc.os,hc.tape,hc.output,hc.size,fun k hk hn=>hc.block k hk (fun hf=>?_)⟩
   have:=hpre p hp k (Classical.not_not.1 hn)
   rcases hf with h | h
   ·exact this.2 h
   ·omega
 ·by_cases h0:0=i
  ·subst h0;rw [Zq]at hi;cases hi;cases ho
  ·rw [Zg _ _ h0]at hi
   rw [hro.mem p (Pz pre 1 i p hi).2]at ho;cases ho
 ·rw [Zg _ _ (fun e=>hi0 e.symm)]at hi
  exact hs.scope i p hi0 (hsub.lk i p hi) b hb
theorem Zz4 {ops:Array Oper} {rest:List Oper} {o:Oper} {d l:Nat} {x:Operand} {ops':List Operand} {tys:Array TypeId} {vs:List Value} {w0 W:World} {M:Nat→Prop} {J:Nat→World→Prop} {Jx:World→Prop} {α G:Type} {xs:List α} {ys:α→G→List Value} {its:α→G→List Pc} {pre:List Pc}
  (k:Nat) (y:α) (g:G) (hY:YJI P w0 l M J Jx xs ys its) (hy:xs[k]? = some y) (hJ:J k W) (hW:w0.heap.size≤W.heap.size) (hpre:∀p∈pre,∀b,p.fp b→b<w0.heap.size∧¬M b)
  (ho:o.op= .call { callee:= .value x,args:=ops'.toArray,argTypes:=tys }) (hg:o.guard=none) (hd:o.dst=some d) (hN:Nat.blt d N=true) (hx:ev env x=some (.func (.yield l) #[] #[])) (hargs:EvL env ops' vs) (hvs:vs=ys y g)
  (h0:lk H 0=some (Xe W (fun _=>False))) (hits:∀p∈its y g,p.own=false∧(∀b,p.fp b→W.heap.size≤b)∧∃i it,lk H i=some it∧∀w,it.holds w→p.holds w)
  (hro:AllRo pre) (hsub:HSub (Xj 1 pre) H)
  (ht:∀W',J (k+1) W'→w0.heap.size≤W'.heap.size→LI P N sc ops rest Q ((d,.bool true) :: env) ((0,Xe W' (fun _=>False)) :: Xj 1 pre))
  (hf:∀W',Jx W'→w0.heap.size≤W'.heap.size→LI P N sc ops rest Q ((d,.bool false) :: env) ((0,Xe W' (fun _=>False)) :: Xj 1 pre)):LI P N sc ops (o :: rest) Q env H:=fun a w hs=>by
 subst hvs
 have hB:=Ie (hs.hold 0 _ h0)
 obtain⟨fn,tmps,assign,body,hrun,hround⟩:=hY k y g hy W w hJ hW hB (fun p hp=>by
  obtain⟨h1,h2,i,it,hi,hh⟩:=hits p hp
  exact⟨hh w (hs.hold i it hi),h1,h2⟩)
 have hrr:(o.semAt Fence.wide.round a.eval).run P w= .ok (.round l fn tmps assign body) w:=by
  show(execOp a.eval o).run P w=_
  have hm:=hargs.map hs
  have hxx:=hs.ev hx
  simp [execOp,ho,resolve,invoke,Deferred.ofValue,hm,hxx,hrun,Sem.run_bind]
 unfold wpListIn
 rw [if_pos (Zex hg)]
 refine⟨fun _ _=>trivial,?_⟩
 rw [hrr]
 refine⟨fun h=>(by cases h),hround.mono ?_⟩
 have hsz:w0.heap.size≤w.heap.size:=Nat.le_trans hW hB.size
 rintro e W' (⟨rfl,hJ',hc⟩ | ⟨rfl,hJ',hc⟩)
 ·show wpListIn Fence.wide 0 P ops Q rest (a.put o.dst _) W'
  rw [hd]
  exact ht W' hJ' (Nat.le_trans hsz hc.size) _ W' ((hs.base hpre hro hsub hc).put d _ hN)
 ·show wpListIn Fence.wide 0 P ops Q rest (a.put o.dst _) W'
  rw [hd]
  exact hf W' hJ' (Nat.le_trans hsz hc.size) _ W' ((hs.base hpre hro hsub hc).put d _ hN)
theorem Zw7{fn:Func}{J:Nat→World→Prop}{Jx:World→Prop}{W:World}{n:Nat}{e:Exit}(he:e= .ret∨e= .normal)(hf:fn.results=#[])(h0:lk H 0=some (Xe W (fun _=>False)))(hJs:∀k,Zin (J k))(hxs:Zin Jx)(h:J n W∨Jx W):X N sc e (Yc2 P fn n J Jx) env H:=fun a w hs=>by
 have hB:=Ie (hs.hold 0 _ h0)
 have key:a.defers=[]∧∃v,(results fn a.tmps).run P w= .ok v w∧((∃u,Ending.returned v= .returned u)∧(J n w∨Jx w)):=
  ⟨hs.defers,_,Zys hf,⟨_,rfl⟩,h.imp (fun h=>hJs n W w h hB) (fun h=>hxs W w h hB)⟩
 rcases he with rfl | rfl<;>exact key
end Go.Sky
namespace Go.Sky
open Go.RowKit (Below)
variable {P:Program} {N:Nat} {sc:Nat→Prop} {env env':Qj} {H H':Hp} {Q Q':Exit→Act→World→Prop}
def FpM:Hp→Hp→Prop
 | [],_=>True
 | (i,p) :: r,H=>(p.own=true∨∀b,p.fp b→∃j q,lk H j=some q∧q.fp b)∧FpM r H
theorem FpM.lk:∀{H' H:Hp},FpM H' H→∀i p,lk H' i=some p→p.own=true∨∀b,p.fp b→∃j q,lk H j=some q∧q.fp b
 | [],_,_,_,_,h=>by cases h
 | (k,u) :: r,H,h,i,p,hi=>by
  by_cases hk:k=i
  ·subst hk;rw [Zq]at hi;cases hi;exact h.1
  ·rw [Zg _ _ hk]at hi;exact FpM.lk h.2 i p hi
structure Kps (sc:Nat→Prop) (w:World) (Mf:Nat→Prop) (Hn:Hp) (W:World):Prop where
 hold:∀i it,lk Hn i=some it→it.holds W
 sep:∀i j it jt,i≠j→lk Hn i=some it→lk Hn j=some jt→it.own=true→∀b,it.fp b→jt.fp b→False
 scope:∀i it,i≠0→lk Hn i=some it→∀b,it.fp b→sc b
 off:∀i it,lk Hn i=some it→it.own=false→∀b,it.fp b→b<w.heap.size∨w.heap.size+2≤b
 mf:∀i it,lk Hn i=some it→it.own=true→∀b,it.fp b→Mf b
def Mof(w:World)(H:Hp)(b:Nat):Prop:=(∃i q,lk H i=some q∧q.own=true∧q.fp b)∨w.heap.size+2≤b
theorem Kps.chg{w:World}{Mf:Nat→Prop}{Hn:Hp}{W W':World}(h:Kps sc w Mf Hn W)(hc:∀i it,lk Hn i=some it→Chg (fun b=>¬it.fp b) W W'):Kps sc w Mf Hn W':=
 ⟨fun i it hi=>it.stable _ _ (h.hold i it hi) (hc i it hi),h.sep,h.scope,h.off,h.mf⟩
theorem Kps.stays{w:World}{Mf:Nat→Prop}{Hn:Hp}{W W':World}(h:Kps sc w Mf Hn W)(hB:Below W.heap.size W W'):Kps sc w Mf Hn W':=h.chg fun _ _ _=>Chg.of_below hB
theorem Kps.put{w:World}{Hn:Hp}{W:World}{d:Nat}{o:Obj}(h:Kps sc w (Mof w H) Hn W)(hlt:∀i q,lk H i=some q→∀b,q.fp b→b<w.heap.size)(hd:w.heap.size≤d∧d<w.heap.size+2):Kps sc w (Mof w H) Hn (W.putObj d o):=
 h.chg fun i it hi=>⟨rfl,rfl,rfl,O6,fun k hk hn=>World.putObj_heap_other (fun e=>hn fun hf=>by
  subst e
  cases ho:it.own with
  | false=>rcases h.off i it hi ho _ hf with h | h<;>omega
  | true=>
   rcases h.mf i it hi ho _ hf with⟨j,q,hq,_,hqf⟩ | h
   ·have:=hlt j q hq _ hqf;omega
   ·omega)⟩
theorem Kps.sat{w:World}{Mf:Nat→Prop}{Hn:Hp}{W:World}{a:Act}(h:Kps sc w Mf Hn W)(hsz:a.tmps.size=N)(hd:a.defers=[])(he:∀t v,lk env t=some v→a.tmps.getD t undef=v):Sat N sc env Hn a W:=⟨hsz,hd,he,h.hold,h.sep,h.scope⟩
def Zlh(H:Hp)(w0:World):Prop:=lk H 0=some (Xe w0 (fun _=>False))∧lk H 92=none
def Mfs(sc:Nat→Prop)(w:World)(H:Hp)(b:Nat):Prop:=Mof w H b∨¬sc b
theorem Sat.ps {w Wb W3:World} {Hn Hall:Hp} {a:Act} (hs:Sat N sc env ((92,Xe Wb (Mfs sc w H)) :: Hn) a W3) (h92:lk Hn 92=none) (h0:∀q,lk Hn 0=some q→q.own=false) (hb:w.heap.size+2≤Wb.heap.size)
  (hf:FpM Hn Hall) (hpp:∀j q,lk Hall j=some q→∀b,q.fp b→q.own=true→Mof w H b) (hpp2:∀j q,lk Hall j=some q→∀b,q.fp b→q.own=false→b<w.heap.size∨w.heap.size+2≤b) (hlt:∀i q,lk H i=some q→∀b,q.fp b→b<w.heap.size):Kps sc w (Mof w H) Hn W3:=by
 have hl:∀i it,lk Hn i=some it→lk ((92,Xe Wb (Mfs sc w H)) :: Hn) i=some it:=fun i it hi=>by
  by_cases h1:92=i
  ·subst h1;rw [h92]at hi;cases hi
  ·rw [Zg _ _ h1];exact hi
 have hmf:∀i it,lk Hn i=some it→it.own=true→∀b,it.fp b→Mof w H b:=fun i it hi ho b hb'=>by
  have h92i:i≠92:=fun e=>by subst e;rw [h92]at hi;cases hi
  have h0i:i≠0:=fun e=>by subst e;rw [h0 it hi]at ho;cases ho
  have hsc:=hs.scope i it h0i (hl i it hi) b hb'
  have:=hs.sep i 92 it _ h92i (hl i it hi) (Zq _ _ _) ho b hb'
  by_cases hlt':b<Wb.heap.size
  ·rcases(Classical.not_not.1 fun hn=>this ⟨hlt',hn⟩:Mfs sc w H b)with h | h
   ·exact h
   ·exact absurd hsc h
  ·exact .inr O
 refine⟨fun i it hi=>hs.hold i it (hl i it hi),fun i j it jt hne hi hj=>hs.sep i j it jt hne (hl i it hi) (hl j jt hj),fun i it hi0 hi=>hs.scope i it hi0 (hl i it hi),fun i it hi ho b hb'=>?_,hmf⟩
 rcases hf.lk i it hi with h | h
 ·rw [ho]at h;cases h
 ·obtain⟨j,q,hq,hqb⟩:=h b hb'
  cases hqo:q.own with
  | false=>exact hpp2 j q hq b hqb hqo
  | true=>
   rcases hpp j q hq b hqb hqo with⟨i',q',hq',_,hf'⟩ | h
   ·exact .inl (hlt i' q' hq' b hf')
   ·exact .inr h
def RB(N:Nat)(sc:Nat→Prop)(Mf:Nat→Prop)(Hall:Hp){GG GX:Type}(HH:GG→Hp)(inv:GG→Prop)(HX:GX→Hp)(invx:GX→Prop)(Wb:World):Exit→Act→World→Prop:=fun e a W=>
 (e= .normal∧∃gg,inv gg∧FpM (HH gg) Hall∧∃env',Sat N sc env' ((92,Xe Wb Mf) :: HH gg) a W)∨(e= .ret∧∃gx,invx gx∧FpM (HX gx) Hall∧∃env',Sat N sc env' ((92,Xe Wb Mf) :: HX gx) a W)
def RA(P:Program)(N:Nat)(sc:Nat→Prop)(l:Nat)(Mf:Nat→Prop)(Hall:Hp)(body:Code){GG GX:Type}(HH:GG→Hp)(inv:GG→Prop)(HX:GX→Hp)(invx:GX→Prop)(Wa:World):Exit→Act→World→Prop:=fun e a W=>
 e= .normal∧∃env1 H1,lk H1 92=none∧(∀q,lk H1 0=some q→q.own=false)∧FpM H1 Hall∧Sat N sc env1 ((92,Xe Wa Mf) :: H1) a W∧
  ∀Wb a W,Sat N sc env1 ((92,Xe Wb Mf) :: H1) a W→body.wpIn (Fence.wide.inRound l) 0 P (RB N sc Mf Hall HH inv HX invx Wb) a W
theorem Ztg:∀(l:List Pc) (n:Nat) (H:Hp) (j:Nat) (q:Pc),lk (adds n l H) j=some q→q∈l∨lk H j=some q
 | [],_,_,_,_,h=> .inr h
 | p :: r,n,H,j,q,h=>by
  by_cases hn:n=j
  ·subst hn;rw [show adds n (p :: r) H=(n,p) :: adds (n+1) r H from rfl,Zq]at h;cases h;exact .inl (List.mem_cons_self ..)
  ·rw [show adds n (p :: r) H=(n,p) :: adds (n+1) r H from rfl,Zg _ _ hn]at h
   exact(Ztg r (n+1) H j q h).imp (List.mem_cons_of_mem _) id
@[reducible] def renv:List Nat→List Value→Qj→Qj
 | p :: ps,v :: vs,env=>renv ps vs ((p,v) :: env)
 | _,_,env=>env
theorem Sat.rounds{w:World} : ∀(ps:List Nat) (vs:List Value) {env:Qj} {tm:Array Value},(ps.all fun p=>Nat.blt p N)=true→Sat N sc env H { tmps:=tm,defers:=[] } w→
  Sat N sc (renv ps vs env) H { tmps:=(ps.zip vs).foldl (fun t pv=>t.setIfInBounds pv.1 pv.2) tm,defers:=[] } w
 | [],_,_,_,_,h=>h
 | _ :: _,[],_,_,_,h=>h
 | p :: ps,v :: vs,env,tm,hp,h=>by
  simp only [List.all_cons,Bool.and_eq_true]at hp
  exact Sat.rounds ps vs (env:=(p,v) :: env) hp.2 (h.put p v hp.1)
theorem Zot {fn:Func} {w0 W:World} {preF:List Pc} {al:Bool} {GF:Type} {φ:GF→Prop} {Zv:GF→Value} {itsF:GF→List Pc} {a:Act} {D:Nat}
  (hD:W.heap[D]? = some (.deferred (some []))) (h:Zat P fn w0 preF al φ Zv itsF .ret { a with defers:=[] } (W.putObj D (.deferred none))) :
  Zew P fn w0 preF al φ Zv itsF .ret { a with defers:=[{ target:= .collected D,args:=#[] }] } W:=by
 obtain⟨-,v,hr,hR⟩:=h
 exact⟨O6,.inl ⟨_,_,rfl,run_takeDeferred hD,⟨v,hr,hR⟩⟩⟩
theorem e_rfi {g:Operand} {gf idc bk0:Nat} {ps:List Nat} {assign body:Code} {lbv:List Value} {pre:List Pc} {α G:Type} {xs:List α} {ys:α→G→List Value} {its:α→G→List Pc} {lc:List Oper} {fn:Func} {w0:World} {preF:List Pc} {al:Bool} {GF:Type} {φ:GF→Prop} {Zv:GF→Value} {itsF:GF→List Pc}
  {GG GX:Type} (HH:Nat→GG→Hp) (inv:Nat→GG→Prop) (HX:GX→Hp) (invx:GX→Prop) (gg0:GG)
  (hg:ev env g=some (.func (.func gf) #[] lbv.toArray)) (eg:∀args w,(callFunc gf args).run P w= .ok (.enter gf args) w) (hc:CalI P gf lbv pre xs ys its)
  (hp:∀p∈pre,p.own=false∧∃i,lk H i=some p) (hps:∀x gi,(ys x gi).length=ps.length) (hpN:(ps.all fun p=>Nat.blt p N)=true)
  (hw:∀b,w0.heap.size≤b→sc b) (h0:lk H 0=some (Xe w0 (fun _=>False)))
  (hi0:inv 0 gg0) (hs0:HSub (HH 0 gg0) H) (hk:∀k gg,Zlh (HH k gg) w0) (hkx:∀gx,Zlh (HX gx) w0)
  (hround:∀k x gi gg,xs[k]? = some x→inv k gg→∀l Mf Wa a W,Sat N sc (renv ps (ys x gi) env) ((92,Xe Wa Mf) :: adds 100 (its x gi) (HH k gg)) a W→
   assign.wpIn (Fence.wide.inRound l) 0 P (RA P N sc l Mf (adds 100 (its x gi) (HH k gg)) body (HH (k+1)) (inv (k+1)) HX invx Wa) a W)
  (hlc:lc.all Zda=true)
  (hC:∀gg,inv xs.length gg→∀D od,L P N sc lc.toArray lc (Ge fun e a w=>e= .normal∧∃env2 H2,lk H2 92=none∧FpSub H2 (HH xs.length gg)∧Sat N sc env2 ((92,fx D od) :: H2) a w∧X N sc .ret (Zat P fn w0 preF al φ Zv itsF) env2 H2) env ((92,fx D od) :: HH xs.length gg))
  (hX:∀gx,invx gx→X N sc .ret (Zat P fn w0 preF al φ Zv itsF) env (HX gx)) :
  E P N sc (.rangeFunc g ps.toArray assign body) (Exit.inBlock bk0 (Exit.then ((Code.seq (.region idc lc.toArray false) .ret).wp P (Zew P fn w0 preF al φ Zv itsF)) (Zew P fn w0 preF al φ Zv itsF))) env H:=fun a w hs=>by
 have hlt:∀i p,lk H i=some p→∀b,p.fp b→b<w.heap.size:=fun i p hi b hb=>p.lt w b (hs.hold i p hi) hb
 have hw0:w0.heap.size≤w.heap.size:=(hs.hold 0 _ h0).size
 refine(wpIn_wide (n:=0)).1 (wpIn_rangeFunc ?_)
 intro fn' hfn
 obtain⟨rec,hrec⟩:∃rec:LoopState→Option Code→Loop,rec=fun st pe=>{ state:=st,pending:=pe,fn:=fn',tmps:=a.tmps,params:=ps.toArray,assign,body,defers:=w.heap.size }:=⟨_,rfl⟩
 obtain⟨W1,hW1⟩:∃W1,(w.alloc (.deferred (some []))).alloc (.loop (rec .ready none))=W1:=⟨_,rfl⟩
 have hL1:W1.heap[w.heap.size+1]? = some (.loop (rec .ready none)):=by
  rw [←hW1];have:=World.alloc_heap_new (w.alloc (.deferred (some []))) (.loop (rec .ready none));rwa [World.size_alloc]at this
 have hK1:W1.heap[w.heap.size]? = some (.deferred (some [])):=by
  rw [←hW1];exact(Below.heap_alloc _ _ _ O6).trans (World.alloc_heap_new w _)
 have hb1:Below w.heap.size w W1:=by
  rw [←hW1];exact((Below.refl _ w).alloc (Nat.le_refl _) _).alloc O6 _
 have hs1:W1.heap.size=w.heap.size+2:=by rw [←hW1];simp
 have e0:(#[.func (.yield (w.heap.size+1)) #[] #[]] ++ lbv.toArray:Array Value)=(Value.func (.yield (w.heap.size+1)) #[] #[] :: lbv).toArray:=O6
 refine⟨w.heap.size+1,[{ target:= .collected w.heap.size,args:=#[] }],W1,{ target:= .fn (.func gf) lbv.toArray,args:=#[.func (.yield (w.heap.size+1)) #[] #[]] },W1,gf,
  (Value.func (.yield (w.heap.size+1)) #[] #[] :: lbv).toArray,W1,?_,?_,fun _ _=>trivial,?_,fun h=>(by cases h),?_⟩
 ·rw [←hW1,hrec];exact run_enterLoop_outer _ _ _ _ _
 ·simp only [resolve,hs.ev hg]
  simp [go_sem]
 ·simp [invoke,go_sem,eg]
 have hstay:∀(Hn:Hp) (r:Loop),Zin fun W=>W.heap[w.heap.size+1]? = some (.loop r)∧W.heap[w.heap.size]? = some (.deferred (some []))∧W1.heap.size≤W.heap.size∧Kps sc w (Mof w H) Hn W:=fun Hn r W W' ⟨h1,h2,h3,h4⟩ hB=>
  ⟨(hB.block _ (Array.getElem?_eq_some_iff.1 h1).1).trans h1,(hB.block _ (Array.getElem?_eq_some_iff.1 h2).1).trans h2,Nat.le_trans h3 hB.size,h4.stays hB⟩
 have hlN:¬Mof w H (w.heap.size+1):=fun h=>by
  rcases h with⟨i,q,hq,_,hf⟩ | h
  ·have:=hlt i q hq _ hf;omega
  ·omega
 have hDN:¬Mof w H w.heap.size:=fun h=>by
  rcases h with⟨i,q,hq,_,hf⟩ | h
  ·have:=hlt i q hq _ hf;omega
  ·omega
 have hoD:∀(Hn:Hp) (W:World),Kps sc w (Mof w H) Hn W→∀(o:Obj),Kps sc w (Mof w H) Hn (W.putObj w.heap.size o):=fun Hn W h o=>h.put hlt ⟨Nat.le_refl _,O⟩
 have hol:∀(Hn:Hp) (W:World),Kps sc w (Mof w H) Hn W→∀(o:Obj),Kps sc w (Mof w H) Hn (W.putObj (w.heap.size+1) o):=fun Hn W h o=>h.put hlt ⟨O,O⟩
 refine callsIn_wide.2 ((hc (w.heap.size+1) (fun b=>(∃i q,lk H i=some q∧q.own=true∧q.fp b)∨b=w.heap.size+1)
  (fun k W=>∃gg,inv k gg∧(W.heap[w.heap.size+1]? = some (.loop (rec .ready none))∧W.heap[w.heap.size]? = some (.deferred (some []))∧W1.heap.size≤W.heap.size∧Kps sc w (Mof w H) (HH k gg) W))
  (fun W=>∃gx,invx gx∧(W.heap[w.heap.size+1]? = some (.loop (rec .done (some .ret)))∧W.heap[w.heap.size]? = some (.deferred (some []))∧W1.heap.size≤W.heap.size∧Kps sc w (Mof w H) (HX gx) W)) W1
  ?_ ?_ ?_ ?_ ?_ ?_).mono ?_)
 ·intro p hpp
  obtain⟨ho,i,hi⟩:=hp p hpp
  exact p.stable _ _ (hs.hold i p hi) (Chg.of_below hb1)
 ·rintro p hpp b hb (⟨i,q,hq,hqo,hqb⟩ | rfl)
  ·obtain⟨ho,j,hj⟩:=hp p hpp
   exact hs.sep i j q p (fun e=>by subst e;rw [hq]at hj;cases hj;rw [ho]at hqo;cases hqo) hq hj hqo b hqb hb
  ·obtain⟨ho,j,hj⟩:=hp p hpp
   have:=hlt j p hj _ hb;omega
 ·rintro k W W' ⟨gg,hg1,h⟩ hB;exact⟨gg,hg1,hstay _ _ W W' h hB⟩
 ·rintro W W' ⟨gx,hg1,h⟩ hB;exact⟨gx,hg1,hstay _ _ W W' h hB⟩
 ·refine⟨gg0,hi0,hL1,hK1,Nat.le_refl _,fun i it hi=>it.stable _ _ (hs.hold i it (hs0.lk i it hi)) (Chg.of_below hb1),fun i j it jt hne hi hj=>hs.sep i j it jt hne (hs0.lk i it hi) (hs0.lk j jt hj),
   fun i it hi0 hi=>hs.scope i it hi0 (hs0.lk i it hi),fun i it hi _ b hb=> .inl (hlt i it (hs0.lk i it hi) b hb),fun i it hi ho b hb=> .inl ⟨i,it,hs0.lk i it hi,ho,hb⟩⟩
 ·rintro k x gi hx W Wa ⟨gg,hinv,hl,hd,hsz,hps1⟩ hsW hB hits
  have hl':Wa.heap[w.heap.size+1]? = some (.loop (rec .ready none)):=(hB.block _ O).trans hl
  have hd':Wa.heap[w.heap.size]? = some (.deferred (some [])):=(hB.block _ O).trans hd
  have hy:=run_yield (P:=P) (args:=(ys x gi).toArray) hl' (by rw [hrec];simp [hps])
  have hitsz:∀p∈its x gi,∀b,p.fp b→w.heap.size+2≤b:=fun p hp b hb=>by have:=(hits p hp).2.2 b hb;omega
  have s1:Sat N sc env (HH k gg) { tmps:=a.tmps,defers:=[] } Wa:=(hps1.stays hB).sat hs.size rfl hs.env
  have s2:Sat N sc env (adds 100 (its x gi) (HH k gg)) { tmps:=a.tmps,defers:=[] } Wa:=s1.adds (w1:=Wa) _ _ fun p hpp=>⟨(hits p hpp).1,(hits p hpp).2.1,fun b hb=>hw b (by have:=hitsz p hpp b hb;omega),fun j jt hj ho b hb hb'=>by
   have h1:=(hits p hpp).2.2 b hb
   have h2:=jt.lt W b (hps1.hold j jt hj) hb'
   omega⟩
  have hall:∀j q,lk (adds 100 (its x gi) (HH k gg)) j=some q→(q∈its x gi)∨lk (HH k gg) j=some q:=fun j q h=>Ztg _ _ _ j q h
  have hpp:∀j q,lk (adds 100 (its x gi) (HH k gg)) j=some q→∀b,q.fp b→q.own=true→Mof w H b:=fun j q hj b hb ho=>by
   rcases hall j q hj with h | h
   ·rw [(hits q h).2.1]at ho;cases ho
   ·exact hps1.mf j q h ho b hb
  have hpp2:∀j q,lk (adds 100 (its x gi) (HH k gg)) j=some q→∀b,q.fp b→q.own=false→b<w.heap.size∨w.heap.size+2≤b:=fun j q hj b hb ho=>by
   rcases hall j q hj with h | h
   ·exact .inr (hitsz q h b hb)
   ·exact hps1.off j q h ho b hb
  have s3:=s2.rounds ps (ys x gi) hpN
  have s4:Sat N sc (renv ps (ys x gi) env) ((92,Xe Wa (Mfs sc w H)) :: adds 100 (its x gi) (HH k gg)) _ Wa:=s3.add 92 (Xe Wa (Mfs sc w H)) (Chg.refl _ _) (fun j jt hne hj Lh b hb hb'=>by
   rcases Lh with h | h
   ·cases h
   ·exact hb.2 (.inl (hpp j jt hj b hb' h))) (fun b hb=>Classical.not_not.1 fun hn=>hb.2 (.inr hn))
  have hlM:¬Mfs sc w H (w.heap.size+1):=fun h=>h.elim hlN (fun hn=>hn (hw _ O))
  have hDM:¬Mfs sc w H w.heap.size:=fun h=>h.elim hDN (fun hn=>hn (hw _ hw0))
  rw [hrec]at hy
  refine⟨fn',_,assign,body,hy,roundIn_of_wpIn hfn ?_⟩
  have hr:=hround k x gi gg hx hinv (w.heap.size+1) (Mfs sc w H) Wa _ Wa s4
  have e3:(ps.toArray.zip (ys x gi).toArray).foldl (fun t (p,v)=>t.setIfInBounds p v) a.tmps=(ps.zip (ys x gi)).foldl (fun t pv=>t.setIfInBounds pv.1 pv.2) a.tmps:=O6
  have hsWa:w.heap.size+2≤Wa.heap.size:=by have:=hB.size;omega
  have hk0:∀(Hn:Hp),Zlh Hn w0→∀q,lk Hn 0=some q→q.own=false:=fun Hn h q hq=>by rw [h.1]at hq;cases hq;rfl
  rw [show(ps.toArray.zip (ys x gi).toArray).foldl (fun t (x:Nat×Value)=>t.setIfInBounds x.1 x.2) a.tmps=(ps.zip (ys x gi)).foldl (fun t pv=>t.setIfInBounds pv.1 pv.2) a.tmps from e3]
  refine wpIn_mono hr ?_
  rintro e a1 W2 ⟨rfl,env1,H1,h92,hK1',hF1,hs1',hbody⟩
  have hc2:Chg (Mfs sc w H) Wa W2:=hs1'.hold 92 _ (Zq _ _ _)
  have hl2:W2.heap[w.heap.size+1]? = some (.loop (rec .ready none)):=(hc2.block _ O hlM).trans hl'
  have hd2:W2.heap[w.heap.size]? = some (.deferred (some [])):=(hc2.block _ O hDM).trans hd'
  have p1:=hs1'.ps h92 hK1' hsWa hF1 hpp hpp2 hlt
  have hsz2:Wa.heap.size≤W2.heap.size:=hc2.size
  obtain⟨W2b,hW2b⟩:∃W2b,W2.putObj (w.heap.size+1) (.loop { rec .ready none with state:= .busy })=W2b:=⟨_,rfl⟩
  have s2b:Sat N sc env1 ((92,Xe W2b (Mfs sc w H)) :: H1) a1 W2b:=by
   have p2:=hol _ _ p1 (.loop { rec .ready none with state:= .busy })
   rw [hW2b]at p2
   refine(p2.sat hs1'.size hs1'.defers hs1'.env).add 92 (Xe W2b (Mfs sc w H)) (Chg.refl _ _) (fun j jt hne hj Lh b hb hb'=>?_) (fun b hb=>Classical.not_not.1 fun hn=>hb.2 (.inr hn))
   rcases Lh with h | h
   ·cases h
   ·exact hb.2 (.inl (p2.mf j jt hj h b hb'))
  have hsz2b:W2.heap.size=W2b.heap.size:=by rw [←hW2b];simp
  have hl2b:W2b.heap[w.heap.size+1]? = some (.loop { rec .ready none with state:= .busy }):=by rw [←hW2b];exact World.putObj_heap_same O
  have hd2b:W2b.heap[w.heap.size]? = some (.deferred (some [])):=by rw [←hW2b];exact(World.putObj_heap_other O).trans hd2
  refine⟨W2b,by rw [←hW2b];exact run_beginRound hl2 (by rw [hrec]),wpIn_mono (hbody W2b a1 W2b s2b) ?_⟩
  have hfin:∀(Hn:Hp) (env':Qj) (a3:Act) (W3:World),Zlh Hn w0→FpM Hn (adds 100 (its x gi) (HH k gg))→Sat N sc env' ((92,Xe W2b (Mfs sc w H)) :: Hn) a3 W3→∀(r:Loop),
    W3.heap[w.heap.size+1]? = some (.loop { rec .ready none with state:= .busy })∧(((W3.putObj (w.heap.size+1) (.loop r)).heap[w.heap.size+1]? = some (.loop r)∧(W3.putObj (w.heap.size+1) (.loop r)).heap[w.heap.size]? = some (.deferred (some []))∧
     W1.heap.size≤(W3.putObj (w.heap.size+1) (.loop r)).heap.size∧Kps sc w (Mof w H) Hn (W3.putObj (w.heap.size+1) (.loop r)))∧
     Chg (fun b=>((∃i q,lk H i=some q∧q.own=true∧q.fp b)∨b=w.heap.size+1)∨W1.heap.size≤b) Wa (W3.putObj (w.heap.size+1) (.loop r))):=by
   intro Hn env' a3 W3 hkn hFn hs3 r
   have hc3:Chg (Mfs sc w H) W2b W3:=hs3.hold 92 _ (Zq _ _ _)
   have hl3:=(hc3.block _ O hlM).trans hl2b
   have hd3:=(hc3.block _ O hDM).trans hd2b
   have hsz3:=hc3.size
   have p3:=hs3.ps hkn.2 (hk0 Hn hkn) O hFn hpp hpp2 hlt
   refine⟨hl3,⟨World.putObj_heap_same O,(World.putObj_heap_other O).trans hd3,O8,hol _ _ p3 _⟩,?_⟩
   have k0:(Xe w0 (fun _=>False)).holds Wa:=hps1.stays hB |>.hold 0 _ (hk k gg).1
   have k3:(Xe w0 (fun _=>False)).holds W3:=p3.hold 0 _ hkn.1
   refine⟨?_,?_,?_,O8,fun b hb hn=>?_⟩
   ·exact hc3.os.trans ((by rw [←hW2b];rfl:W2b.os=W2.os).trans hc2.os)
   ·exact hc3.tape.trans ((by rw [←hW2b];rfl:W2b.tape=W2.tape).trans hc2.tape)
   ·exact hc3.output.trans ((by rw [←hW2b];rfl:W2b.output=W2.output).trans hc2.output)
   ·have hbl:b≠w.heap.size+1:=fun e=>hn (.inl (.inr e))
    have hMb:¬Mof w H b:=fun h=>by
     rcases h with h | h
     ·exact hn (.inl (.inl h))
     ·exact hn (.inr O)
    refine(World.putObj_heap_other hbl).trans ?_
    by_cases hsb:sc b
    ·have hMf:¬Mfs sc w H b:=fun h=>h.elim hMb (fun h=>h hsb)
     refine(hc3.block b O hMf).trans ?_
     have:W2b.heap[b]? = W2.heap[b]?:=by rw [←hW2b];exact World.putObj_heap_other hbl
     exact this.trans (hc2.block b hb hMf)
    ·have hb0:b<w0.heap.size:=by
      rcases Nat.lt_or_ge b w0.heap.size with h | h
      ·exact h
      ·exact absurd (hw b h) hsb
     exact(k3.block b hb0 (fun h=>h)).trans (k0.block b hb0 (fun h=>h)).symm
  rintro e a3 W3 (⟨rfl,gg',hi',hF',env',hs3⟩ | ⟨rfl,gx,hi',hF',env',hs3⟩)
  ·obtain⟨hl3,hJ3,hC3⟩:=hfin _ env' a3 W3 (hk (k+1) gg') hF' hs3 (rec .ready none)
   have:=run_endRound (P:=P) none hl3
   rw [show({ ({ rec .ready none with state:= .busy } : Loop)with state:=if(none:Option Code).isNone then LoopState.ready else .done,pending:=none } : Loop)=rec .ready none by rw [hrec];rfl]at this
   exact⟨_,_,this,.inl ⟨rfl,⟨gg',hi',hJ3⟩,hC3⟩⟩
  ·obtain⟨hl3,hJ3,hC3⟩:=hfin _ env' a3 W3 (hkx gx) hF' hs3 (rec .done (some .ret))
   have:=run_endRound (P:=P) (some .ret) hl3
   rw [show({ ({ rec .ready none with state:= .busy } : Loop)with state:=if(some Code.ret).isNone then LoopState.ready else .done,pending:=some .ret } : Loop)=rec .done (some .ret) by rw [hrec];rfl]at this
   exact⟨_,_,this,.inr ⟨rfl,⟨gx,hi',hJ3⟩,hC3⟩⟩
 ·have hnd:∀(Hn:Hp) (W:World),Kps sc w (Mof w H) Hn W→Kps sc w (Mof w H) Hn ((W.putObj (w.heap.size+1) (.loop (rec .exhausted none))).putObj w.heap.size (.deferred none)):=fun Hn W h=>hoD _ _ (hol _ _ h _) _
  rintro e W2 ⟨⟨v,rfl⟩,⟨gg,hinv,hl,hd,hsz,hp2⟩ | ⟨gx,hinv,hl,hd,hsz,hp2⟩⟩
  ·refine⟨none,_,by have:=run_endLoop (P:=P) hl (by rw [hrec];simp);rw [hrec]at this;exact this,?_⟩
   obtain⟨W3,hW3⟩:∃W3,W2.putObj (w.heap.size+1) (.loop (rec .exhausted none))=W3:=⟨_,rfl⟩
   have p3:=hol _ _ hp2 (.loop (rec .exhausted none))
   rw [hW3]at p3
   have hd3:W3.heap[w.heap.size]? = some (.deferred (some [])):=by rw [←hW3];exact(World.putObj_heap_other O).trans hd
   have hsz3:W3.heap.size=W2.heap.size:=by rw [←hW3];simp
   rw [show W2.putObj (w.heap.size+1) (.loop { state:= .exhausted,pending:=none,fn:=fn',tmps:=a.tmps,params:=ps.toArray,assign:=assign,body:=body,defers:=w.heap.size })=W3 by rw [←hW3,hrec]]
   have s3:Sat N sc env (HH xs.length gg) { tmps:=a.tmps,defers:=[] } W3:=p3.sat hs.size rfl hs.env
   have s4:Sat N sc env ((92,fx w.heap.size (.deferred (some []))) :: HH xs.length gg) { tmps:=a.tmps,defers:=[] } W3:=s3.add 92 _ hd3 (fun j jt hne hj Lh b hb hb'=>by
    rcases Lh with h | h
    ·cases h
    ·have hb:b=w.heap.size:=hb
     subst hb
     exact hDN (p3.mf j jt hj h _ hb')) (fun b hb=>hw b (by have hb:b=w.heap.size:=hb;omega))
   rw [hs.defers]
   refine wp_seq (wp_region_lit (Zlb (P:=P) (ops:=lc.toArray) (Q:=Exit.then (Code.ret.wp P (Zew P fn w0 preF al φ Zv itsF)) (Zew P fn w0 preF al φ Zv itsF)) (ds:=[{ target:= .collected w.heap.size,args:=#[] }]) lc { tmps:=a.tmps,defers:=[] } W3 hlc ?_))
   refine Li (fun e a' W' h=>?_) lc _ W3 (hC gg hinv _ _ _ W3 s4)
   cases e with
   | normal=>
    obtain⟨-,env2,H2,h92,hfs,hs5,hx⟩:=h
    refine wp_ret (Zot (hs5.hold 92 _ (Zq _ _ _)) ?_)
    have hl2:∀i it,lk H2 i=some it→lk ((92,fx w.heap.size (.deferred (some []))) :: H2) i=some it:=fun i it hi=>by
     by_cases h1:92=i
     ·subst h1;rw [h92]at hi;cases hi
     ·rw [Zg _ _ h1];exact hi
    refine hx _ _ ⟨hs5.size,rfl,hs5.env,fun i it hi=>it.stable _ _ (hs5.hold i it (hl2 i it hi)) ⟨rfl,rfl,rfl,O6,fun k hk hn=>World.putObj_heap_other (fun e=>hn fun hf=>?_)⟩,fun i j it jt hne hi hj=>hs5.sep i j it jt hne (hl2 i it hi) (hl2 j jt hj),fun i it hi0 hi=>hs5.scope i it hi0 (hl2 i it hi)⟩
    subst e
    obtain⟨q,hq,hoq,hfq⟩:=hfs.lk i it hi
    cases hqo:q.own with
    | true=>exact hDN (p3.mf i q hq hqo _ (hfq _ hf))
    | false=>rcases p3.off i q hq hqo _ (hfq _ hf)with h | h<;>omega
   | _=>exact h.elim
  ·refine⟨some .ret,_,by have:=run_endLoop (P:=P) hl (by rw [hrec];simp);rw [hrec]at this;exact this,wpIn_ret ?_⟩
   have p3:=hol _ _ hp2 (.loop { rec .done (some .ret)with state:= .exhausted })
   have hd3:(W2.putObj (w.heap.size+1) (.loop { rec .done (some .ret)with state:= .exhausted })).heap[w.heap.size]? = some (.deferred (some [])):=(World.putObj_heap_other O).trans hd
   rw [hrec]at p3 hd3
   rw [hs.defers]
   exact Zot hd3 (hX gx hinv _ _ ((hoD _ _ p3 _).sat hs.size rfl hs.env))
end Go.Sky
namespace Go.Sky
open Go.Proofs
set_option synthInstance.maxHeartbeats 0
set_option synthInstance.maxSize 100000
set_option maxRecDepth 20000
set_option maxHeartbeats 4000000
set_option linter.unusedSimpArgs false
theorem Ze2(fr to ov:Int)(vx vy vz:Value)(x y z:List Int)(ca cb cd:Int)(hS:Sgo fr to ov x y z)(ha:ca.natAbs≤3600000)(hb:cb.natAbs≤3600000)(hd:1≤cd∧cd≤3600000):Cal Tryz.prog 231 #[.agg #[.int .i64 fr,.int .i64 to,.int .i64 ov,vx,vy,vz],.int .i64 ca,.int .i64 cb,.int .i64 cd] [Yk 1 Yu vx x,Yk 1 Yu vy y,Yk 1 Yu vz z] true (G:=SL×SL×SL) (fun g=>True) (fun g=> .agg #[Qq g.1,Qq g.2.1,Qq g.2.2]) (fun g=>[Yk 2 wv (Qq g.1) (Pt x ca cb cd),Yk 2 wv (Qq g.2.1) (Pt y ca cb cd),Yk 2 wv (Qq g.2.2) (Pt z ca cb cd)]):=by
 refine Zd Tryz.func231 Tryz.ntmps231 fun w0 sc hw hsc=>?_
 have hba:=Zii ha
 have hbb:=Zii hb
 have hbd:bl cd.natAbs≤22:=Zii O
 refine go 2 ?_
 refine Yc (Yb 4) fun bx _=>?_
 refine Yc (Zr 5) fun bx_2 _=>?_
 refine go 6 ?_
 refine cl 5 [1,2,3] (Zkl _ _ _ _ _ _ _ _ _) fun _ _=>?_
 refine go 4 ?_
 refine Zi (Mv 5 (q:=box bx_2 210 (cellsOf (Kr (α:=List Int)) (Zn1 [])).toArray) (congrArg (box bx_2 210) (show _=(cellsOf (Kr (α:=List Int)) (Zn1 [])).toArray from rfl)) rfl rfl) ?_
 refine Zi (Pb qZ 71) ?_
 refine lp (G:=Nat×List (SL×List Int)) [1,2,3,8,14] [0,1,2,3,4] (fun q=>[(15,.int .i64 (q.1:Int))]) (fun q=>[(5,box bx_2 210 (cellsOf (Kr (α:=List Int)) (Zn1 q.2)).toArray),(71,Gc qZ q.2)]) (fun q=>(q.1≤3)∧(q.2.length=q.1)∧(∀t,t<q.1→(q.2.getD t Z0).2=Pt (Zt t x y z) ca cb cd)) (fun q=>3-q.1) (0,[]) ⟨O1,rfl,fun t ht=>absurd ht (Nat.not_lt_zero t)⟩ ⟨rfl,trivial⟩ ⟨rfl,rfl,trivial⟩ ?_
 rintro⟨i,zs⟩ ⟨hi,hzl,hzs⟩
 dsimp only at hi hzl hzs
 dsimp only
 have hc:=hS.hc i
 have hlc:=hS.lc i
 obtain⟨q1,q2,q3,q4,q5,q6,q7,q8⟩:=Zl6 hc hlc ha hb hd
 have hex:(6-((Zt i x y z).length:Int)).toNat=6-(Zt i x y z).length:=O
 refine go 6 ?_
 refine Zc rfl (fun h204=>?_) (fun h204=>?_)
 ·refine go 5 ?_
  refine Zi (Zb0 i 1 2 3 50 rfl rfl rfl rfl rfl rfl) ?_
  refine go 2 ?_
  refine dt (Zo9 (i:=i) rfl rfl rfl Tryz.underlying182 Tryz.sizeOf33 Tryz.isAgg33 rfl) ?_
  refine go 7 ?_
  refine cl 6 [50] (Zc8 _ _ hc (Nat.le_trans hlc.2 O3)) fun _ _=>?_
  refine Xu (Mv 6 (q:=Yk 2 wv _ (tzl (Zt i x y z))) (congrArg (Yk 2 wv _) (if_neg (Zkb hlc.2))) rfl rfl) ?_
  refine go 11 ?_
  refine cl 6 [] (Zh ca) fun _ _=>?_
  refine go 1 ?_
  refine cl 6 [] (Zh cb) fun _ _=>?_
  refine go 1 ?_
  refine cl 6 [] (Zh cd) fun _ _=>?_
  refine cl 7 [6] (Zky _ (tzl (Zt i x y z)) ca cb cd q1 O O O O q2) fun _ _=>?_
  refine go 13 ⟨O,?_⟩
  refine cl 7 [] (Iw cd (6-((Zt i x y z).length:Int)) (Nat.le_trans hbd O3) O O) fun _ _=>?_
  refine cl 8 [7] (Nr _ _ (cd^(6-((Zt i x y z).length:Int)).toNat) q3 (by rw [hex];exact Nat.le_trans q4 O3) (by rw [hex];exact q5)) fun _ _=>?_
  refine Ye3 (Md 8 rfl Zk) (fun sn hsn=>?_)
  subst hsn
  refine Xu (Mv 8 (q:=Yk 2 wv (Qq sn) (Pt (Zt i x y z) ca cb cd)) (congrArg (Yk 2 wv (Qq sn)) (by rw [hex];rfl)) rfl rfl) ?_
  refine Xu (Xl (q:=qZ) (z:=(sn,(Pt (Zt i x y z) ca cb cd))) 71 8 71 rfl rfl rfl rfl rfl) ?_
  refine go 3 ?_
  refine dt (Ic (i:=i) rfl rfl rfl Tryz.underlying210 Tryz.sizeOf40 rfl) ?_
  refine tt (t_sbe (i:=5) (j:=i) (k:=1) (enc:=Kr) (sn,(Pt (Zt i x y z) ca cb cd)) rfl rfl rfl rfl rfl pS (by rw [Zz7 O];omega) rfl hw.h trivial) (fun _ _=>?_)
  refine go 7 ⟨O,?_⟩
  exact Xg (i+1,zs ++ [(sn,(Pt (Zt i x y z) ca cb cd))]) ⟨O1,by rw [List.length_append,hzl];rfl,fun t ht=>Zph hzl hzs ht⟩ O1 ⟨rfl,trivial⟩ ⟨by rw [Zze O hzl];rfl,rfl,trivial⟩
 ·obtain rfl:i=3:=O
  refine go 6 ?_
  obtain⟨s1,s2,s3,rfl⟩:=Zxj hzl hzs
  refine Zi (Zb1 (q:=qZ) 71 81 (s1,Pt x ca cb cd) rfl rfl O6 rfl) ?_
  refine Zi (Zb1 (q:=qZ) 71 82 (s2,Pt y ca cb cd) rfl rfl O6 rfl) ?_
  refine Zi (Zb1 (q:=qZ) 71 83 (s3,Pt z ca cb cd) rfl rfl O6 rfl) ?_
  refine go 1 ?_
  refine dt (d_lea (i:=5) (enc:=Kr) (l:=[(s1,Pt x ca cb cd),(s2,Pt y ca cb cd),(s3,Pt z ca cb cd)]) rfl rfl rfl pS Tryz.isAgg210 Tryz.sizeOf210 rfl) ?_
  refine tt (t_sea (i:=5) (enc:=Kr) (l:=[(s1,Pt x ca cb cd),(s2,Pt y ca cb cd),(s3,Pt z ca cb cd)]) rfl rfl rfl rfl rfl O3 pS Tryz.sizeOf210 rfl rfl rfl hw.h trivial) (fun _ _=>?_)
  refine go 3 ?_
  exact Zmo (.inl rfl) hsc (s1,s2,s3) _ (fun a w hs=>Zbi hs Tryz.results231 (Hg (i:=5) (vs:=cellsOf Kr [(s1,Pt x ca cb cd),(s2,Pt y ca cb cd),(s3,Pt z ca cb cd)]) rfl rfl Tryz.isAgg210 Tryz.sizeOf210 rfl)) rfl trivial rfl (Kx 81 rfl rfl rfl (Kx 82 rfl rfl rfl (Kx 83 rfl rfl rfl Za)))
theorem Zwh{x:Int}{s:Bool}(hx:x.natAbs≤9223372036854775807)(h:sg s x):(x=0∧dg U x.natAbs=[])∨(s=true∧x<0∧dg U x.natAbs=[x.natAbs])∨(s=false∧0<x∧dg U x.natAbs=[x.natAbs]):=by
 have hd:x.natAbs≠0→dg U x.natAbs=[x.natAbs]:=fun h0=>by
  have hU:x.natAbs<U:=Nat.lt_of_le_of_lt hx O3
  rw [Zag O3 O,Nat.mod_eq_of_lt hU,Nat.div_eq_of_lt hU];rfl
 rcases Int.lt_trichotomy x 0 with q | q | q
 ·right;left
  refine⟨?_,q,hd O⟩
  cases s
  ·have:=h.2 rfl;omega
  ·rfl
 ·subst q;exact .inl ⟨rfl,rfl⟩
 ·right;right
  refine⟨?_,q,hd O⟩
  cases s
  ·rfl
  ·have:=h.1 rfl;omega
theorem int_wn{x:Int}(hx:x.natAbs≤9223372036854775807)(h:x<0):IntKind.i64.wrap (18446744073709551616-(x.natAbs:Int))=x:=by
 simp only [IntKind.wrap,IntKind.bits,IntKind.signed]
 simp
 omega
theorem int_wp{x:Int}(hx:x.natAbs≤9223372036854775807)(h:0<x):IntKind.i64.wrap ((([x.natAbs]:List Nat).getD 0 0:Nat):Int)=x:=by
 show IntKind.i64.wrap (x.natAbs:Int)=x
 rw [Cy ⟨O,O⟩];omega
theorem int_d0{x:Int}(hx:x.natAbs≤9223372036854775807):¬((([x.natAbs]:List Nat).getD 0 0:Nat):Int)≥9223372036854775808:=by
 show ¬(x.natAbs:Int)≥_
 omega
theorem Yaa{x:Int}(hx:x.natAbs≤9223372036854775807):¬((([x.natAbs]:List Nat).getD 0 0:Nat):Int)>9223372036854775808:=by
 show ¬(x.natAbs:Int)>_
 omega
theorem int_m{x:Int}(h:x<0)(hx:x.natAbs≤9223372036854775807):(-((([x.natAbs]:List Nat).getD 0 0:Nat):Int))%18446744073709551616=18446744073709551616-(x.natAbs:Int):=by
 show(-(x.natAbs:Int))%_=_
 omega
theorem Zms(x:Int)(hx:x.natAbs≤9223372036854775807):Cal Tryz.prog 113 #[wv x] [] false (G:=Unit) (fun _=>True) (fun _=> .tuple #[.int .i64 x,.int .i64 0]) (fun _=>[]):=by
 refine Zd Tryz.func113 Tryz.ntmps113 fun w0 sc hw hsc=>?_
 have hbx:bl x.natAbs≤65536:=Nat.le_trans ((Xs 63 _).2 (Nat.lt_of_le_of_lt hx O3)) O3
 refine go 2 ?_
 refine Yc (Yb 1) fun bx _=>?_
 refine go 8 ?_
 refine cl 1 [] (Mi _ ‹_›) fun _ _=>?_
 refine go 9 ?_
 refine cl 2 [] (Xi _ _ (Yn _)) fun g hg=>?_
 refine Yc (Zr 3) fun bx_2 _=>?_
 refine go 6 ?_
 rcases Zwh hx hg with⟨rfl,hc2⟩ | ⟨hc1,hc2,hc3⟩ | ⟨hc1,hc2,hc3⟩
 ·refine go 4 ?_
  refine kt (decide_eq_true (by rw [hc2];rfl)) ?_
  refine go 13 ?_
  exact Nu hsc () Tryz.results113 rfl trivial Za
 ·refine go 4 ?_
  refine kf (decide_eq_false (by rw [hc3];simp)) ?_
  refine go 9 ?_
  refine kf (decide_eq_false (by rw [hc3];simp)) ?_
  refine go 3 ?_
  refine Da (Zp (r':= .bool false) (Xt rfl rfl) (congrArg (fun b=>Value.bool (!b)) hc1)) rfl rfl ?_
  refine go 13 ⟨by rw [hc3];exact Nat.zero_lt_one,by rw [hc3];exact Nat.zero_lt_one,?_⟩
  refine kfg (decide_eq_false (by rw [hc3];exact Yaa hx)) ?_
  refine go 8 ?_
  refine kt hc1 ?_
  refine go 10 ⟨by rw [hc3];exact Nat.zero_lt_one,by rw [hc3];exact Nat.zero_lt_one,?_⟩
  refine dt (Zxh (r:=18446744073709551616-(x.natAbs:Int)) rfl rfl (by rw [hc3];exact int_m hc2 hx)) ?_
  refine dt (Zd3 (r:=x) rfl rfl Tryz.underlying232 Tryz.underlying3 (int_wn hx hc2)) ?_
  refine go 7 ?_
  exact Nu hsc () Tryz.results113 rfl trivial Za
 ·refine go 4 ?_
  refine kf (decide_eq_false (by rw [hc3];simp)) ?_
  refine go 9 ?_
  refine kf (decide_eq_false (by rw [hc3];simp)) ?_
  refine go 3 ?_
  refine Da (Zp (r':= .bool true) (Xt rfl rfl) (congrArg (fun b=>Value.bool (!b)) hc1)) rfl rfl ?_
  refine go 5 ⟨by rw [hc3];exact Nat.zero_lt_one,by rw [hc3];exact Nat.zero_lt_one,?_⟩
  refine kfg (decide_eq_false (by rw [hc3];exact int_d0 hx)) ?_
  refine go 7 ⟨by rw [hc3];exact Nat.zero_lt_one,by rw [hc3];exact Nat.zero_lt_one,?_⟩
  refine kfg (decide_eq_false (by rw [hc3];exact Yaa hx)) ?_
  refine go 8 ?_
  refine kf hc1 ?_
  refine go 13 ⟨by rw [hc3];exact Nat.zero_lt_one,by rw [hc3];exact Nat.zero_lt_one,?_⟩
  refine dt (Zd3 (r:=x) rfl rfl Tryz.underlying232 Tryz.underlying3 (by rw [hc3];exact int_wp hx hc2)) ?_
  refine go 5 ?_
  exact Nu hsc () Tryz.results113 rfl trivial Za
abbrev Yao (o:Nat) (m:Int) (g:Zn):List Int:=formP o m g.1.2.2 (g.1.2.1-g.1.1) g.2.1.2 g.2.2.1.2 g.2.2.2.2
def Zz8(o:Nat)(ps:List Zn)(m:Int):Bool:=ps.all fun g=>!Zca (Yao o m g)
def Ydo(p:Nat→Bool):Nat→Nat→Nat→Nat
 | 0,i,_=>i
 | f+1,i,j=>if i<j then(if p ((i+j)/2)then Ydo p f i ((i+j)/2)else Ydo p f ((i+j)/2+1) j)else i
def Ydg(o:Nat)(ps:List Zn):Nat:=Ydo (fun n=>Zz8 o ps (n:Int)) 14 0 10001
end Go.Sky

