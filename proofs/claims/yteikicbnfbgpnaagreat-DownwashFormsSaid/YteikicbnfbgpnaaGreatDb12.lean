/- Rules, arithmetic and contracts: part 13. No conditions but those that each theorem names. -/
import Derived.Test.YteikicbnfbgpnaaGreatDb11
import Derived.ChangeKeysEq
set_option linter.all false
set_option maxHeartbeats 4000000
namespace Go.Sky
open Go.Proofs
set_option synthInstance.maxHeartbeats 0
set_option synthInstance.maxSize 100000
set_option maxRecDepth 20000
set_option maxHeartbeats 4000000
set_option linter.unusedSimpArgs false
theorem Zot(fr to ov:Int)(vx vy vz:Value)(x y z:List Int)(a d:Int)(hS:Sgo fr to ov x y z)(ha:0≤a∧a≤3600000)(hd:1≤d∧d≤3600000):Cal Tryz.prog 177 #[.agg #[.int .i64 fr,.int .i64 to,.int .i64 ov,vx,vy,vz],.int .i64 a,.int .i64 d] [Yh 1 Zx vx x,Yh 1 Zx vy y,Yh 1 Zx vz z] false (G:=Unit) (fun _=>True) (fun _=>plV (pl x a d/(gS ov a d x y z 3)) (pl y a d/(gS ov a d x y z 3)) (pl z a d/(gS ov a d x y z 3)) (ov*d^5/(gS ov a d x y z 3))) (fun _=>[]):=by
 refine Zd Tryz.func177 Tryz.ntmps177 fun w0 sc hw hsc=>?_
 have hba:bl a.natAbs≤60:=(Xw 60 _).2 O
 have hbd:bl d.natAbs≤60:=(Xw 60 _).2 O
 have ho1:=hS.o1
 have ho2:=hS.o2
 obtain⟨k1,k2⟩:=Ycr hS ha hd 0
 refine go 2 ?_
 refine Yk (Yj 4) fun bx _=>?_
 refine Yk (Zz 5) fun bx_2 _=>?_
 refine go 4 ?_
 refine Yk (Zz 6) fun bx_3 _=>?_
 refine go 6 ?_
 refine cl 6 [] (Zo ov) fun _ _=>?_
 refine go 1 ?_
 refine cl 6 [] (Ho d 5 hbd O3 O3) fun _ _=>?_
 refine cl 6 [] (Dq ov (d^5) (Nat.le_trans ((Xw 40 _).2 O) (by decide:40≤30000)) (Nat.le_trans (Zto (a:=d) ⟨O,O⟩ (k:=5) O3) O3)) fun _ _=>?_
 refine Yk (Zz 7) fun bx_4 _=>?_
 refine go 6 ?_
 refine Yk (Zz 8) fun bx_5 _=>?_
 refine go 7 ?_
 refine cl 8 [1,2,3] (Zlq _ _ _ _ _ _ _ _ _) fun _ _=>?_
 refine go 4 ?_
 refine Zf (Me 6 (q:=box bx_3 166 (cellsOf wv (List.replicate 3 (0:Int))).toArray) (congrArg (box bx_3 166) (show _=(cellsOf wv (List.replicate 3 (0:Int))).toArray from rfl)) rfl rfl) ?_
 refine lp (G:=Nat) [1,2,6,7,8,9,22] [0,1,2,3,4,5,7] (fun i=>[(23,.int .i64 (i:Int))]) (fun i=>[(6,box bx_3 166 (cellsOf wv (atS a d x y z i)).toArray),(8,box bx_5 80 (wc (gS ov a d x y z i)))]) (fun i=>i≤3) (fun i=>3-i) 0 O1 ⟨rfl,trivial⟩ ⟨rfl,rfl,trivial⟩ ?_
 rintro i hi
 have hc:=hS.hc i
 have hlc:=hS.lc i
 obtain⟨g1,g2⟩:=Ycr hS ha hd i
 refine go 6 ?_
 refine Zc rfl (fun h103=>?_) (fun h103=>?_)
 ·refine go 5 ?_
  refine Zf (Zcs i 1 2 3 50 rfl rfl rfl rfl rfl rfl) ?_
  refine go 2 ?_
  refine dt (Zqw (i:=i) rfl rfl rfl Tryz.underlying182 Tryz.sizeOf33 Tryz.isAgg33 rfl) ?_
  refine go 13 ?_
  refine lp (G:=Nat) [1,2,6,7,8,9,10,22,23,27,28] [0,8,1,2,3,4,5,7,50] (fun k=>[(29,.int .i64 (k:Int))]) (fun k=>[(6,box bx_3 166 (cellsOf wv ((atS a d x y z i).set i (plS (Zp i x y z) a d k))).toArray)]) (fun k=>k≤(Zp i x y z).length) (fun k=>(Zp i x y z).length-k) 0 O1 ⟨rfl,trivial⟩ ⟨by rw [show((atS a d x y z i).set i (plS (Zp i x y z) a d 0))=(atS a d x y z i)from(Yey a d x y z O).symm];rfl,trivial⟩ ?_
  rintro k hk
  refine go 6 ?_
  refine Zc rfl (fun h104=>?_) (fun h104=>?_)
  ·refine go 13 ⟨O2,O2,?_⟩
   refine Qe (fun _=>False) [(0,0),(1,0),(2,0),(3,0),(4,0),(6,0),(7,0),(9,0),(10,0),(11,0),(5,1),(8,1),(12,1),(13,1),(14,1),(15,1),(16,0),(17,3)] ?_
   refine go 2 ?_
   refine Qc rfl rfl (Qy (Iy (i:=i) rfl rfl rfl Tryz.underlying166 Tryz.sizeOf80 rfl)) ?_
   refine Qc rfl rfl (Qy (Zw (r':=wv (plS (Zp i x y z) a d k)) (Zqv (i:=6) (enc:=wv) (j:=i) (l:=((atS a d x y z i).set i (plS (Zp i x y z) a d k))) 0 rfl rfl rfl pV (by rw [List.length_set,Ez];omega)) (congrArg wv (Zoz _ (by rw [Ez];omega))))) ?_
   refine go 6 ⟨O,?_⟩
   refine Yz (Zg 8 [] (Zo ((Zp i x y z).getD k 0) (La hc k))) fun _ _=>?_
   refine Yz (Zg 8 [] (Ho a (k:Int) hba O O)) fun _ _=>?_
   refine Yz (Zg 8 [] (Ho d (5-(k:Int)) hbd O O)) fun _ _=>?_
   refine Yz (Zg 8 [] (Dq (a^k) (d^(5-(k:Int)).toNat) (Nat.le_trans (Zto ha O) O3) (Nat.le_trans (Zto (a:=d) ⟨O,O⟩ O) O3))) fun _ _=>?_
   refine Yz (Zg 8 [] (Dq ((Zp i x y z).getD k 0) (a^k*d^(5-(k:Int)).toNat) (Nat.le_trans (Iz (La hc k)) O3) (Nat.le_trans (Yem hc ha hd (k:=k) O).1 O3))) fun _ _=>?_
   refine Yz (Zg 8 [] (Zz4 (plS (Zp i x y z) a d k) (plT (Zp i x y z) a d k) (Nat.le_trans (Zfq hc ha hd O) O3) (Nat.le_trans (Yem hc ha hd O).2 O3))) fun _ _=>?_
   refine Qc rfl rfl (Qy (Iy (i:=i) rfl rfl rfl Tryz.underlying166 Tryz.sizeOf80 rfl)) ?_
   refine r3' rfl (t_sbe (i:=6) (j:=i) (k:=2) (enc:=wv) ((plS (Zp i x y z) a d k)+plT (Zp i x y z) a d k) rfl rfl rfl rfl rfl pV (by rw [List.length_set,Ez];omega) rfl hw.h trivial) (fun _ _=>?_)
   refine go 7 ⟨O,?_⟩
   exact Xf (k+1) O1 O1 ⟨rfl,trivial⟩ ⟨by rw [List.set_set];rfl,trivial⟩
  ·obtain rfl:k=(Zp i x y z).length:=O
   refine go 5 ?_
   refine Qe (fun _=>False) [(0,0),(1,0),(2,0),(3,0),(4,1),(5,3)] ?_
   refine go 2 ?_
   refine Qc rfl rfl (Qy (Iy (i:=i) rfl rfl rfl Tryz.underlying166 Tryz.sizeOf80 rfl)) ?_
   refine Qc rfl rfl (Qy (Zw (r':=wv (pl (Zp i x y z) a d)) (Zqv (i:=6) (enc:=wv) (j:=i) (l:=((atS a d x y z i).set i (pl (Zp i x y z) a d))) 0 rfl rfl rfl pV (by rw [List.length_set,Ez];omega)) (congrArg wv (Zoz _ (by rw [Ez];omega))))) ?_
   refine Yz (Zg 8 [] (Zlp (gS ov a d x y z i) (pl (Zp i x y z) a d) (Nat.le_trans g2 O3) (Nat.le_trans (Zfq hc ha hd hlc.2) O3))) fun _ _=>?_
   refine go 8 ⟨O,?_⟩
   exact Xf (i+1) O1 O1 ⟨rfl,trivial⟩ ⟨rfl,rfl,trivial⟩
 ·obtain rfl:i=3:=O
  refine go 6 ?_
  refine Qe (fun _=>False) [(0,0),(1,0),(2,0),(4,0),(5,0),(6,0),(8,0),(9,0),(10,0),(12,0),(13,0),(3,1),(7,1),(11,1),(14,1),(15,0),(16,3)] ?_
  refine Qc rfl rfl (Qy (Iy (i:=0) rfl rfl rfl Tryz.underlying166 Tryz.sizeOf80 rfl)) ?_
  refine Qc rfl rfl (Qy (Zw (r':=wv (pl x a d)) (Zqv (i:=6) (enc:=wv) (j:=0) (l:=(atS a d x y z 3)) 0 rfl rfl rfl pV (by rw [Ez];decide)) (congrArg wv rfl))) ?_
  refine go 1 ?_
  refine Qc rfl rfl (Qy (Iy (i:=1) rfl rfl rfl Tryz.underlying166 Tryz.sizeOf80 rfl)) ?_
  refine Qc rfl rfl (Qy (Zw (r':=wv (pl y a d)) (Zqv (i:=6) (enc:=wv) (j:=1) (l:=(atS a d x y z 3)) 0 rfl rfl rfl pV (by rw [Ez];decide)) (congrArg wv rfl))) ?_
  refine go 1 ?_
  refine Qc rfl rfl (Qy (Iy (i:=2) rfl rfl rfl Tryz.underlying166 Tryz.sizeOf80 rfl)) ?_
  refine Qc rfl rfl (Qy (Zw (r':=wv (pl z a d)) (Zqv (i:=6) (enc:=wv) (j:=2) (l:=(atS a d x y z 3)) 0 rfl rfl rfl pV (by rw [Ez];decide)) (congrArg wv rfl))) ?_
  refine go 3 ?_
  refine Yz (Zg 8 [] (Zfb (pl x a d) (gS ov a d x y z 3) (Nat.le_trans (Zfq hS.hx ha hd hS.lx.2) O3) (Nat.le_trans g2 O3) O)) fun _ _=>?_
  refine Yz (Zg 8 [] (Zfb (pl y a d) (gS ov a d x y z 3) (Nat.le_trans (Zfq hS.hy ha hd hS.ly.2) O3) (Nat.le_trans g2 O3) O)) fun _ _=>?_
  refine Yz (Zg 8 [] (Zfb (pl z a d) (gS ov a d x y z 3) (Nat.le_trans (Zfq hS.hz ha hd hS.lz.2) O3) (Nat.le_trans g2 O3) O)) fun _ _=>?_
  refine Yz (Zg 8 [] (Zfb (ov*d^5) (gS ov a d x y z 3) (Nat.le_trans k2 O3) (Nat.le_trans g2 O3) O)) fun _ _=>?_
  refine Qc rfl rfl (Qy (Qi (ivs:=[(0,_),(1,_),(2,_),(3,_)]) rfl ⟨rfl,rfl,rfl,rfl,rfl,rfl,rfl,rfl,trivial⟩ (fun a w hs=>Zyx))) ?_
  refine go 4 ?_
  exact Xn hsc () Tryz.results177 rfl trivial Za
theorem eg162:Tryz.prog.eqGuardType Tryz.prog.depth 162=false:=O6
theorem eqlP(w:World)(p q r o p' q' r' o':Int):(binOp .eql 162 (plV p q r o) (plV p' q' r' o')).run Tryz.prog w= .ok (.bool (decide (p=p'∧q=q'∧r=r'∧o=o'))) w:=by
 have sh:Tryz.prog.stoodInHeld 162=false:=O6
 have hu:Tryz.prog.underlying 162=some (.struct (Tryz.prog.fieldsOf 162)):=by unfold Program.fieldsOf;rw [Tryz.underlying162]
 rw [run_eql_struct,run_equalIn_agg w 9999 162 _ _ hu sh]
 unfold Program.fieldsOf
 rw [Tryz.underlying162]
 simp [Op.eqFields,part,Tryz.isAgg80,Tryz.sizeOf80,in80,Yc8]
 by_cases h1:p=p'<;>by_cases h2:q=q'<;>by_cases h3:r=r'<;>by_cases h4:o=o'<;>simp_all
def litb(l:List Int):Bool:=(l.all fun x=>decide (-1000000≤x) && decide (x≤1000000)) && (decide (tzl l=l) && decide (l.length≤25))
instance eokDec:∀f a b,Decidable (eok f a b)
 | 0,_,b=>inferInstanceAs (Decidable (b=[]))
 | f+1,a,b=>@instDecidableOr _ _ _ (@instDecidableAnd _ _ _ (eokDec f b (Zt (Xy a b))))
def lessx(xs:List Int)(m:Int):List Int:=Bb xs (tzl [m])
def Zrj(xs:List Int)(m:Int):Prop:=∃x:Rat,0≤x∧x≤1∧Zb xs x<(m:Rat)
theorem Zx4{xs:List Int}{m n:Int}(h:Zrj xs m)(hmn:m≤n):Zrj xs n:=by
 obtain⟨x,a,b,c⟩:=h
 have:(m:Rat)≤(n:Rat):=by exact_mod_cast hmn
 exact⟨x,a,b,O4⟩
def lws:List Int→Int
 | []=>0
 | c :: p=>-(c.natAbs:Int)+lws p
theorem Yb7{n:Nat} : ∀p:List Int,(∀c∈p,c.natAbs≤n)→-((p.length*n:Nat):Int)≤lws p∧lws p≤0
 | [],_=>by show -((0*n:Nat):Int)≤0∧(0:Int)≤0;omega
 | c :: p,h=>by
  have h1:=Yb7 p fun d hd=>h d (List.mem_cons_of_mem _ hd)
  have h2:=h c List.mem_cons_self
  show -(((p.length+1)*n:Nat):Int)≤-(c.natAbs:Int)+lws p∧-(c.natAbs:Int)+lws p≤0
  rw [Nat.succ_mul];omega
theorem Zu8{x:Rat}(h0:0≤x)(h1:x≤1):∀p:List Int,((lws p:Int):Rat)≤Zb p x
 | []=>by show((0:Int):Rat)≤0;exact Rat.le_refl
 | c :: p=>by
  have ih:=Zu8 h0 h1 p
  have hb:=(Yb7 (n:=p.foldl (fun m c=>max m c.natAbs) 0) p (fun c hc=>by
   have:∀(l:List Int) (a:Nat),(a≤l.foldl (fun m c=>max m c.natAbs) a)∧∀c∈l,c.natAbs≤l.foldl (fun m c=>max m c.natAbs) a:=fun l=>by
    induction l with
    | nil=>intro a;exact⟨Nat.le_refl _,fun c hc=>absurd hc O7⟩
    | cons d l ih=>
     intro a
     obtain⟨i1,i2⟩:=ih (max a d.natAbs)
     refine⟨Nat.le_trans (Nat.le_max_left _ _) i1,fun c hc=>?_⟩
     rcases List.mem_cons.1 hc with rfl | hc
     ·exact Nat.le_trans (Nat.le_max_right _ _) i1
     ·exact i2 c hc
   exact(this p 0).2 c hc)).2
  have hb':((lws p:Int):Rat)≤0:=by exact_mod_cast hb
  have hc:((-(c.natAbs:Int):Int):Rat)≤(c:Rat):=by exact_mod_cast (show -(c.natAbs:Int)≤c by omega)
  have hm:=Rat.mul_nonneg (show 0≤1-x by grind) (show 0≤-((lws p:Int):Rat) by grind)
  have hm2:=Rat.mul_nonneg h0 (show 0≤Zb p x-((lws p:Int):Rat) by grind)
  show((-(c.natAbs:Int)+lws p:Int):Rat)≤(c:Rat)+x*Zb p x
  push_cast at hc ⊢
  grind
theorem Yca(xs:List Int):¬Zrj xs (lws xs):=by
 rintro⟨x,a,b,c⟩
 have:=Zu8 a b xs;grind
theorem Ygj(xs:List Int):Zb xs 0=((cf xs 0:Int):Rat):=by
 cases xs with
 | nil=>rfl
 | cons c p=>show(c:Rat)+0*Zb p 0=(c:Rat);grind
theorem Zx5(xs:List Int):Zrj xs (cf xs 0+1):=by
 refine⟨0,O4,O3,?_⟩
 rw [Ygj]
 push_cast;grind
theorem Yg5{xs:List Int}{l h:Int}(h1:¬Zrj xs l)(h2:Zrj xs h):l<h:=by
 rcases Int.lt_or_le l h with q | q
 ·exact q
 ·exact absurd (Zx4 h2 q) h1
theorem Zon{xs:List Int}(hs:Sz 40 xs)(i:Nat):(cf xs i).natAbs<1099511627776:=(Xw 40 _).1 (hs i)
theorem Yb6{xs:List Int}(hs:Sz 40 xs)(hl:xs.length≤9)(i:Nat):-9895604649984≤lws (xs.take i)∧lws (xs.take i)≤0:=by
 obtain⟨h1,h2⟩:=Yb7 (n:=1099511627776) (xs.take i) fun c hc=>by
  obtain⟨k,hk,rfl⟩:=List.mem_iff_getElem.1 hc
  have h9:=Zon hs k
  rw [List.length_take]at hk
  have e:(xs.take i)[k]=cf xs k:=by rw [List.getElem_take];unfold cf;rw [List.getD_eq_getElem?_getD,List.getElem?_eq_getElem O];rfl
  rw [e];omega
 have h3:(xs.take i).length*1099511627776≤9*1099511627776:=Nat.mul_le_mul_right _ (by rw [List.length_take];omega)
 exact⟨O,h2⟩
structure FlI (xs:List Int) (lo hi:Int):Prop where
 l:¬Zrj xs lo
 h:Zrj xs hi
 b1:-17592186044416≤lo
 b2:hi≤17592186044416
theorem FlI.lt{xs:List Int}{lo hi:Int}(h:FlI xs lo hi):lo<hi:=Yg5 h.l h.h
theorem FlI.start{xs:List Int}(hs:Sz 40 xs)(hl:xs.length≤9){i:Nat}(hi:xs.length≤i):FlI xs (lws (xs.take i)) (cf xs 0+1):=by
 have h1:=Yb6 hs hl i
 have h2:=Zon hs 0
 refine⟨by rw [List.take_of_length_le hi];exact Yca xs,Zx5 xs,O,O⟩
structure Ef (a:R2):Prop where
 p:0<a.2
 b1:bl a.1.natAbs≤512
 b2:bl a.2.natAbs≤512
theorem E32.ef{a:R2}(h:E32 a):Ef a:=⟨h.p,Nat.le_trans h.b1 O3,Nat.le_trans h.b2 O3⟩
def plx(a b:R2):Int:=a.1*b.2
def ply(a b:R2):Int:=b.1*a.2
def pld(a b:R2):Int:=a.2*b.2
def plc(xs:List Int)(a b:R2):List Int:=Lt xs (plx a b) (ply a b-plx a b) (pld a b)
def psum(c:List Int)(d j:Nat)(i:Nat):Int:=Zy (fun i=>cf c i*(Pk (d-i) (j-i):Int)) i
def plainB(xs:List Int)(a b:R2):Bool:=if xs.length=0 then true else(List.range xs.length).all fun j=>decide (0≤psum (plc xs a b) (xs.length-1) j (min (j+1) (plc xs a b).length))
abbrev PTs:=Int×R2×R2
abbrev P0:PTs:=(0,(0,0),(0,0))
abbrev encP9 (z:PTs):Value:= .agg #[.int .i64 z.1,.bool (decide (z.2.1.1<0)),.string (Xz z.2.1.1.natAbs),.bool (decide (z.2.1.2<0)),.string (Xz z.2.1.2.natAbs),.bool (decide (z.2.2.1<0)),.string (Xz z.2.2.1.natAbs),.bool (decide (z.2.2.2<0)),.string (Xz z.2.2.2.natAbs)]
def shw(xs:List Int)(z:PTs):Bool:=if z.1=1 then plainB xs z.2.1 z.2.2 else if xs.length=0∨cmp z.2.1 z.2.2=0 then decide (0≤vlu (Pw xs) z.2.1)else decide (0<aft (Pw xs) z.2.1) && !crb (chx xs) z.2.1 z.2.2
def okpB(xs:List Int)(l:R2)(z:PTs):Bool:=decide (cmp l z.2.1=0) && decide (¬0<cmp z.2.1 z.2.2) && shw xs z
def lst(a:R2)(ps:List PTs)(i:Nat):R2:=if i=0 then a else(ps.getD (i-1) P0).2.2
def chkP(xs:List Int)(ps:List PTs)(a b:R2):Bool:=decide (0<ps.length) && (List.range ps.length).all (fun k=>okpB xs (lst a ps k) (ps.getD k P0)) && decide (cmp (lst a ps ps.length) b=0)
def ValP(ps:List PTs):Prop:=∀z∈ps,(z.1=1∨z.1=2)∧Ef z.2.1∧Ef z.2.2
theorem Ef.efit{a:R2}(h:Ef a):Go.Sky.efit a=true:=by
 have:=h.b1
 have:=h.b2
 unfold Go.Sky.efit;exact decide_eq_true O
theorem Yej{b:Bool}(h:(!b)=true):b=false:=by cases b<;>simp_all
theorem Yek{b:Bool}(h:(!b)=false):b=true:=by cases b<;>simp_all
theorem r2u {P:Program} {N:Nat} {sc:Nat→Prop} {env:Qw} {H:Hp} {M:Nat→Prop} {ops:Array Oper} {F:Qw→Hp→Prop} {rest:List (Nat×Nat)} {o:Oper} {i d j e:Nat} {b:Bool} (ho:ops[i]? = some o) (hg:o.guard=some (j,b)) (hj:(ops[j]?).bind (·.dst)=some e) (he:lk env e=some undef) (hd:o.dst=some d) 
  (h:LD P N sc M ops F rest ((d,undef) :: env) H) (hN:Nat.blt d N=true:=by rfl):LD P N sc M ops F ((i,2) :: rest) env H:=⟨o,d,ho,hd,hN,fun a w hsat=>by simp [Region.wanted,hg,hsat.yieldedu hj he],h⟩
theorem Zz2(fr to ov fr2 to2 ov2:Int)(vx vy vz vx2 vy2 vz2:Value)(x y z x2 y2 z2:List Int)(hS:Sgo fr to ov x y z)(hS2:Sgo fr2 to2 ov2 x2 y2 z2):Cal Tryz.prog 159 #[.agg #[.int .i64 fr,.int .i64 to,.int .i64 ov,vx,vy,vz],.agg #[.int .i64 fr2,.int .i64 to2,.int .i64 ov2,vx2,vy2,vz2]] [Yh 1 Zx vx x,Yh 1 Zx vy y,Yh 1 Zx vz z,Yh 1 Zx vx2 x2,Yh 1 Zx vy2 y2,Yh 1 Zx vz2 z2] false (G:=Unit) (fun _=>True) (fun _=> .bool (Zpw to ov x y z fr2 ov2 x2 y2 z2)) (fun _=>[]):=by
 refine Zd Tryz.func159 Tryz.ntmps159 fun w0 sc hw hsc=>?_
 refine go 2 ?_
 refine Yk (Yj 7) fun bx _=>?_
 refine Yk (Yj 8) fun bx_2 _=>?_
 refine go 4 ?_
 rcases(show to=fr2∨to≠fr2 by omega)with hc1 | hc1
 ·refine Qe (fun _=>False) [(0,0),(1,0),(2,0),(3,0),(4,0),(5,0),(6,0),(8,0),(7,1),(9,1),(10,0),(11,0),(12,3)] ?_
  refine go 4 ?_
  refine Qc rfl rfl (Qy (Zw (r':= .bool true) (Ydu rfl rfl rfl) (congrArg Value.bool (decide_eq_true hc1)))) ?_
  refine go 3 ?_
  refine Zpc rfl rfl rfl rfl rfl (Ov (n:=8) (Zot _ _ _ _ _ _ _ _ _ 1 1 hS ⟨O3,O3⟩ ⟨O3,O3⟩) rfl rfl rfl ⟨rfl,rfl,rfl,trivial⟩ Tryz.call177 (Yd 1 rfl rfl rfl (Yd 2 rfl rfl rfl (Yd 3 rfl rfl rfl Ya))) rfl hw.h) (fun _ _=>?_)
  refine Zpc rfl rfl rfl rfl rfl (Ov (n:=8) (Zot _ _ _ _ _ _ _ _ _ 0 1 hS2 ⟨O3,O3⟩ ⟨O3,O3⟩) rfl rfl rfl ⟨rfl,rfl,rfl,trivial⟩ Tryz.call177 (Yd 4 rfl rfl rfl (Yd 5 rfl rfl rfl (Yd 6 rfl rfl rfl Ya))) rfl hw.h) (fun _ _=>?_)
  refine r0g (Qy (Ydv rfl rfl rfl eg162 (fun w=>eqlP w _ _ _ _ _ _ _ _))) rfl rfl rfl rfl rfl ?_
  refine go 5 ?_
  exact Xn hsc () Tryz.results159 (by unfold Zpw;rw [decide_eq_true hc1];rfl) trivial Za
 ·refine Qe (fun _=>False) [(0,0),(1,0),(2,0),(3,0),(4,0),(5,0),(6,2),(8,2),(7,2),(9,2),(10,2),(11,0),(12,3)] ?_
  refine go 4 ?_
  refine Qc rfl rfl (Qy (Zw (r':= .bool false) (Ydu rfl rfl rfl) (congrArg Value.bool (decide_eq_false hc1)))) ?_
  refine go 11 ?_
  exact Xn hsc () Tryz.results159 (by unfold Zpw;rw [decide_eq_false hc1];rfl) trivial Za
theorem Zdp(v:Value)(ps:List Zv)(hp:∀g∈ps,Gin g):Cal Tryz.prog 89 #[v] [Pz 6 Mo qG v ps] false (G:=Unit) (fun _=>True) (fun _=> .bool (Nr ps)) (fun _=>[]):=by
 refine Zd Tryz.func89 Tryz.ntmps89 fun w0 sc hw hsc=>?_
 refine Nw (Gp (i:=1) rfl Zn) (fun hlen=>?_)
 refine go 14 ?_
 refine lp (G:=Nat) [0,5,6] [0,1] (fun i=>[(7,.int .i64 (i:Int))]) (fun i=>[]) (fun i=>(i≤ps.length)∧(∀k,k<i→Zcz ps k=true)) (fun i=>ps.length-i) 0 ⟨O1,fun k hk=>absurd hk (Nat.not_lt_zero k)⟩ ⟨rfl,trivial⟩ trivial ?_
 rintro i ⟨hi,hk⟩
 refine go 6 ?_
 refine Zc rfl (fun h117=>?_) (fun h117=>?_)
 ·refine go 5 ?_
  have hg:=hp _ (Zj (d:=G0) (show i<ps.length by omega))
  refine Zf (Nx (g:=(ps.getD i G0)) (z:=(ps.getD i G0).2.1) 1 51 rfl rfl (Zj) O7) ?_
  refine Zf (Nx (g:=(ps.getD i G0)) (z:=(ps.getD i G0).2.2.1) 1 52 rfl rfl (Zj) O7) ?_
  refine Zf (Nx (g:=(ps.getD i G0)) (z:=(ps.getD i G0).2.2.2) 1 53 rfl rfl (Zj) O7) ?_
  refine go 3 ⟨O2,?_⟩
  refine dt (Oi (ii:=1) G0 rfl rfl rfl Zn pG O2) ?_
  refine Yk (Zz 2) fun bx _=>?_
  refine go 5 ?_
  rcases Zxj (ps.getD i G0) i with hc1 | ⟨hc1,hc2⟩ | ⟨hc1,hc2⟩
  ·refine Qe (fun _=>False) [(0,0),(1,1),(2,0),(3,0),(4,2),(5,2),(6,2),(7,2),(8,2),(9,2),(10,2),(11,2),(12,2),(13,2),(14,2),(15,2),(16,0)] ?_
   refine go 1 ?_
   refine Yz (Zg 2 [51,52,53] (Mx _ _ _ _ _ _ _ _ _ hg.f hg.t hg.o hg.x hg.y hg.z)) fun _ _=>?_
   refine Qc rfl rfl (Qy (Zw (r':= .bool true) (Qf rfl rfl) (congrArg Value.bool (by rw [show Kr _ _ _ _ _ _=_ from hc1];rfl)))) ?_
   refine go 4 ?_
   refine r2u rfl rfl rfl rfl rfl ?_
   refine r2u rfl rfl rfl rfl rfl ?_
   refine r2u rfl rfl rfl rfl rfl ?_
   refine r2u rfl rfl rfl rfl rfl ?_
   refine r2u rfl rfl rfl rfl rfl ?_
   refine r2u rfl rfl rfl rfl rfl ?_
   refine r2u rfl rfl rfl rfl rfl ?_
   refine r2u rfl rfl rfl rfl rfl ?_
   refine go 16 ?_
   exact Xn hsc () Tryz.results89 (by rw [Zuz (i:=i) O (okAt_s hc1)]) trivial Za
  ·refine Qe (fun _=>False) [(0,0),(1,1),(2,0),(3,0),(4,0),(5,0),(6,0),(7,2),(8,2),(9,2),(10,2),(11,2),(12,2),(13,2),(14,2),(15,0),(16,0)] ?_
   refine go 1 ?_
   refine Yz (Zg 2 [51,52,53] (Mx _ _ _ _ _ _ _ _ _ hg.f hg.t hg.o hg.x hg.y hg.z)) fun _ _=>?_
   refine Qc rfl rfl (Qy (Zw (r':= .bool false) (Qf rfl rfl) (congrArg Value.bool (by rw [show Kr _ _ _ _ _ _=_ from hc1];rfl)))) ?_
   refine go 2 ?_
   refine r0g (Qy (Zw (r':= .bool false) (Zga rfl rfl rfl) (congrArg Value.bool (decide_eq_false O)))) rfl rfl rfl rfl rfl ?_
   refine go 21 ⟨O,?_⟩
   exact Xf (i+1) ⟨O1,fun k h9=>by rcases Nat.lt_succ_iff_lt_or_eq.1 h9 with h8 | h8;exact hk k h8;subst h8;exact okAt_0 hc1 hc2⟩ O1 ⟨rfl,trivial⟩ trivial
  ·refine Zf (Nx (g:=(ps.getD (i-1) G0)) (z:=(ps.getD (i-1) G0).2.1) 1 54 rfl rfl (Zj) O7) ?_
   refine Zf (Nx (g:=(ps.getD (i-1) G0)) (z:=(ps.getD (i-1) G0).2.2.1) 1 55 rfl rfl (Zj) O7) ?_
   refine Zf (Nx (g:=(ps.getD (i-1) G0)) (z:=(ps.getD (i-1) G0).2.2.2) 1 56 rfl rfl (Zj) O7) ?_
   refine Qe (fun _=>False) [(0,0),(1,1),(2,0),(3,0),(4,0),(5,0),(6,0),(7,0),(8,0),(9,0),(10,0),(11,0),(12,0),(13,1),(14,0),(15,0),(16,0)] ?_
   refine go 1 ?_
   refine Yz (Zg 2 [51,52,53] (Mx _ _ _ _ _ _ _ _ _ hg.f hg.t hg.o hg.x hg.y hg.z)) fun _ _=>?_
   refine Qc rfl rfl (Qy (Zw (r':= .bool false) (Qf rfl rfl) (congrArg Value.bool (by rw [show Kr _ _ _ _ _ _=_ from hc1];rfl)))) ?_
   refine go 2 ?_
   refine r0g (Qy (Zw (r':= .bool true) (Zga rfl rfl rfl) (congrArg Value.bool (decide_eq_true O)))) rfl rfl rfl rfl rfl ?_
   refine go 4 ⟨O,?_⟩
   refine r0g (Qy (Yn (ii:=1) (i:=(i-1)) rfl rfl rfl rfl Zn Tryz.underlying38 Tryz.sizeOf35)) rfl rfl rfl rfl rfl ?_
   refine r0g (Qy (Oi (ii:=1) G0 rfl rfl rfl Zn pG)) rfl rfl rfl rfl rfl ?_
   refine go 1 ?_
   refine Zpc rfl rfl rfl rfl rfl (Ov (n:=2) (Zz2 _ _ _ _ _ _ _ _ _ _ _ _ _ _ _ _ _ _ (Cz (hp _ (Zj)) (Zgy (hk (i-1) O))) (Cz hg hc1)) rfl rfl rfl ⟨rfl,rfl,trivial⟩ Tryz.call159 (Yd 54 rfl rfl rfl (Yd 55 rfl rfl rfl (Yd 56 rfl rfl rfl (Yd 51 rfl rfl rfl (Yd 52 rfl rfl rfl (Yd 53 rfl rfl rfl Ya)))))) rfl hw.h) (fun _ _=>?_)
   refine go 5 ?_
   refine Lb rfl (fun h118=>?_) (fun h118=>?_)
   ·refine go 11 ?_
    exact Xn hsc () Tryz.results89 (by rw [Zuz (i:=i) O ((Zsf hc1 hc2).trans (Yej ‹_›))]) trivial Za
   ·refine go 7 ⟨O,?_⟩
    exact Xf (i+1) ⟨O1,fun k h9=>by rcases Nat.lt_succ_iff_lt_or_eq.1 h9 with h8 | h8;exact hk k h8;subst h8;exact(Zsf hc1 hc2).trans (Yek ‹_›)⟩ O1 ⟨rfl,trivial⟩ trivial
 ·obtain rfl:i=ps.length:=O
  refine go 11 ?_
  refine Yt (d:=33) rfl (fun s122=>?_) (fun s122=>?_)
  ·refine go 8 ?_
   exact Xn hsc () Tryz.results89 (by rw [Zu0 hk];first | exact congrArg Value.bool (decide_eq_decide.2 O) | exact congrArg Value.bool (decide_eq_false O)) trivial Za
  ·refine go 8 ?_
   exact Xn hsc () Tryz.results89 (by rw [Zu0 hk];first | exact congrArg Value.bool (decide_eq_decide.2 O) | exact congrArg Value.bool (decide_eq_false O)) trivial Za
abbrev Ycv (o:Nat) (m:Int) (g:Zv):List Int:=formP o m g.1.2.2 (g.1.2.1-g.1.1) g.2.1.2 g.2.2.1.2 g.2.2.2.2
def Ycf(o:Nat)(ps:List Zv)(m:Int):Bool:=ps.all fun g=>!Zc1 (Ycv o m g)
def Yfz(p:Nat→Bool):Nat→Nat→Nat→Nat
 | 0,i,_=>i
 | f+1,i,j=>if i<j then(if p ((i+j)/2)then Yfz p f i ((i+j)/2)else Yfz p f ((i+j)/2+1) j)else i
def Yfr(o:Nat)(ps:List Zv):Nat:=Yfz (fun n=>Ycf o ps (n:Int)) 14 0 10001
def joG(g h:Zv):Bool:=joinB g.1.1 g.1.2.1 g.1.2.2 g.2.1.2 g.2.2.1.2 g.2.2.2.2 h.1.1 h.1.2.1 h.1.2.2 h.2.1.2 h.2.2.1.2 h.2.2.2.2
def joAll(ps:List Zv):Bool:=(List.range ps.length).all fun i=>decide (i=0) || joG (ps.getD (i-1) G0) (ps.getD i G0)
def topV(ps:List Zv):Int×Int×Int:=
 if 10000<Yfr 1 ps∨10000<Yfr 2 ps then(0,0,3)else if joAll ps then((Yfr 1 ps:Int),(Yfr 2 ps:Int),0)else(0,0,10)
theorem Zuy{ps:List Zv}(hp:∀g∈ps,Gin g)(hb:Nr ps=true):∀g∈ps,SgG g:=fun g hg=>by
 obtain⟨i,hi,e⟩:=List.mem_iff_getElem.1 hg
 have h1:=Zgy ((Dj hb).1 i hi)
 rw [List.getD_eq_getElem?_getD,List.getElem?_eq_getElem hi,Option.getD_some,e]at h1
 exact Cz (hp g hg) h1
def g8(g:Zv):Bool:=decide (g.2.1.2.length≤8) && decide (g.2.2.1.2.length≤8) && decide (g.2.2.2.2.length≤8)
def Zj7(ps:List Zv)(m:Nat):Bool:=(List.range ps.length).all (fun i=>decide (m<i) || g8 (ps.getD i G0)) && decide (ps.length≤m)
theorem g8_t{g:Zv}(h1:g.2.1.2.length≤8)(h2:g.2.2.1.2.length≤8)(h3:g.2.2.2.2.length≤8):g8 g=true:=by
 unfold g8;rw [decide_eq_true h1,decide_eq_true h2,decide_eq_true h3];rfl
theorem g8_f{g:Zv}(h:¬(g.2.1.2.length≤8∧g.2.2.1.2.length≤8∧g.2.2.2.2.length≤8)):g8 g=false:=by
 cases hb:g8 g with
 | false=>rfl
 | true=>
  unfold g8 at hb
  simp only [Bool.and_eq_true,decide_eq_true_eq]at hb
  exact absurd ⟨hb.1.1,hb.1.2,hb.2⟩ h
theorem Zsv{ps:List Zv}{m i:Nat}(hi:i<ps.length)(hm:i≤m)(h:g8 (ps.getD i G0)=false):Zj7 ps m=false:=by
 cases hb:Zj7 ps m with
 | false=>rfl
 | true=>
  unfold Zj7 at hb
  rw [Bool.and_eq_true]at hb
  have:=List.all_eq_true.1 hb.1 i (List.mem_range.2 hi)
  rw [h,decide_eq_false O]at this
  cases this
theorem Yc1{ps:List Zv}{m n:Nat}(hn:n=ps.length∨m<n)(h:∀k,k<n→g8 (ps.getD k G0)=true):Zj7 ps m=decide (ps.length≤m):=by
 unfold Zj7
 rw [List.all_eq_true.2 fun i hi=>by
  have hi:=List.mem_range.1 hi
  rcases Nat.lt_or_ge m i with q | q
  ·rw [decide_eq_true q];rfl
  ·rw [h i O,Bool.or_true]]
 rfl
theorem Yii:∀n,n≤5→∀i,i<n→(Pk n i:Int)*((n:Int)-(i:Int))/((i:Int)+1)=(Pk n (i+1):Int):=by
 intro n hn i hi
 have h1:∀n,n<6→∀i,i<n→(Pk n i:Int)*((n:Int)-(i:Int))/((i:Int)+1)=(Pk n (i+1):Int):=O5
 exact h1 n O i hi
set_option maxHeartbeats 1000000
theorem Zl4(v:Value)(ps:List Zv)(m:Nat):Cal Tryz.prog 20 #[v,.int .i64 (m:Int)] [Pz 6 Mo qG v ps] false (G:=Unit) (fun _=>True) (fun _=> .bool (Zj7 ps m)) (fun _=>[]):=by
 refine Zd Tryz.func20 Tryz.ntmps20 fun w0 sc hw hsc=>?_
 refine Nw (Gp (i:=1) rfl Zn) (fun hlen=>?_)
 refine go 12 ?_
 refine lp (G:=Nat) [0,1] [0,1] (fun i=>[(5,.int .i64 (i:Int))]) (fun i=>[]) (fun i=>(i≤ps.length)∧(∀k,k<i→g8 (ps.getD k G0)=true)) (fun i=>ps.length-i) 0 ⟨O1,fun k hk=>absurd hk (Nat.not_lt_zero k)⟩ ⟨rfl,trivial⟩ trivial ?_
 rintro i ⟨hi,hk⟩
 refine go 8 ?_
 refine Yt (d:=10) rfl (fun s350=>?_) (fun s350=>?_)
 ·refine go 6 ?_
  refine Zc rfl (fun h350=>?_) (fun h350=>?_)
  ·refine go 5 ?_
   refine Zf (Nx (g:=(ps.getD i G0)) (z:=(ps.getD i G0).2.1) 1 51 rfl rfl (Zj) O7) ?_
   refine Zf (Nx (g:=(ps.getD i G0)) (z:=(ps.getD i G0).2.2.1) 1 52 rfl rfl (Zj) O7) ?_
   refine Zf (Nx (g:=(ps.getD i G0)) (z:=(ps.getD i G0).2.2.2) 1 53 rfl rfl (Zj) O7) ?_
   refine go 3 ?_
   refine dt (Yn (ii:=1) (i:=i) rfl rfl rfl rfl Zn Tryz.underlying38 Tryz.sizeOf35 rfl) ?_
   refine dt (Zep (ii:=1) rfl rfl rfl Zn Tryz.underlying35 rfl Tryz.sizeOf33 rfl) ?_
   refine dt (Zeo (ii:=1) G0 rfl rfl rfl Zn Tryz.isAgg33 rfl) ?_
   refine go 3 ?_
   refine Yt (d:=24) rfl (fun s351=>?_) (fun s351=>?_)
   ·refine go 31 ?_
    exact Xn hsc () Tryz.results20 (by rw [Zsv (i:=i) O O (g8_f O)]) trivial Za
   ·refine go 2 ?_
    refine Ej (Yn (ii:=1) (i:=i) rfl rfl rfl rfl Zn Tryz.underlying38 Tryz.sizeOf35 rfl) rfl rfl ?_
    refine Ej (Zep (ii:=1) rfl rfl rfl Zn Tryz.underlying35 rfl Tryz.sizeOf33 rfl) rfl rfl ?_
    refine Ej (Zeo (ii:=1) G0 rfl rfl rfl Zn Tryz.isAgg33 rfl) rfl rfl ?_
    refine go 4 ?_
    refine Yt (d:=33) rfl (fun s351_2=>?_) (fun s351_2=>?_)
    ·refine go 22 ?_
     exact Xn hsc () Tryz.results20 (by rw [Zsv (i:=i) O O (g8_f O)]) trivial Za
    ·refine go 2 ?_
     refine Ej (Yn (ii:=1) (i:=i) rfl rfl rfl rfl Zn Tryz.underlying38 Tryz.sizeOf35 rfl) rfl rfl ?_
     refine Ej (Zep (ii:=1) rfl rfl rfl Zn Tryz.underlying35 rfl Tryz.sizeOf33 rfl) rfl rfl ?_
     refine Ej (Zeo (ii:=1) G0 rfl rfl rfl Zn Tryz.isAgg33 rfl) rfl rfl ?_
     refine go 5 ?_
     refine Zc rfl (fun h351=>?_) (fun h351=>?_)
     ·refine go 11 ?_
      exact Xn hsc () Tryz.results20 (by rw [Zsv (i:=i) O O (g8_f O)]) trivial Za
     ·refine go 8 ⟨O,?_⟩
      exact Xf (i+1) ⟨O1,fun k h9=>by rcases Nat.lt_succ_iff_lt_or_eq.1 h9 with h8 | h8;exact hk k h8;subst h8;exact g8_t O O O⟩ O1 ⟨rfl,trivial⟩ trivial
  ·refine go 15 ?_
   exact Xn hsc () Tryz.results20 (by rw [Yc1 (n:=i) O hk];exact congrArg Value.bool (decide_eq_decide.2 O)) trivial Za
 ·refine go 22 ?_
  exact Xn hsc () Tryz.results20 (by rw [Yc1 (n:=i) O hk];exact congrArg Value.bool (decide_eq_decide.2 O)) trivial Za
theorem Zh4(n k:Nat)(hn:n≤5)(hk:k≤n):Cal Tryz.prog 199 #[.int .i64 (n:Int),.int .i64 (k:Int)] [] false (G:=Unit) (fun _=>True) (fun _=> .int .i64 (Pk n k:Int)) (fun _=>[]):=by
 refine Zd Tryz.func199 Tryz.ntmps199 fun w0 sc hw hsc=>?_
 refine go 17 ?_
 refine lp (G:=Nat) [0,1] [0] (fun i=>[(6,.int .i64 (i:Int)),(5,.int .i64 (Pk n i:Int))]) (fun i=>[]) (fun i=>i≤k) (fun i=>k-i) 0 O1 ⟨rfl,by cases n<;>rfl,trivial⟩ trivial ?_
 rintro i hi
 refine go 8 ?_
 refine Zc rfl (fun h35=>?_) (fun h35=>?_)
 ·refine go 4 ?_
  have hc:=Znr (n:=n) (k:=i) hn
  have hc0:(0:Int)≤(Pk n i:Int)*((n:Int)-(i:Int)):=Int.mul_nonneg O O
  have hc1:=Int.mul_le_mul (show(Pk n i:Int)≤32 by omega) (show(n:Int)-(i:Int)≤5 by omega) O O3
  refine go 8 ⟨O,O,O,?_⟩
  refine dt (Zcj rfl rfl rfl) ?_
  refine go 9 ⟨O,?_⟩
  exact Xf (i+1) O1 O1 ⟨rfl,by rw [Yii n hn i O];rfl,trivial⟩ trivial
 ·obtain rfl:k=i:=O
  refine go 12 ?_
  exact Xn hsc () Tryz.results199 rfl trivial Za
theorem Zl5(v:Value)(c:List Int)(hc:∀x∈c,Xx x)(hl1:1≤c.length)(hl:c.length≤6):Cal Tryz.prog 142 #[v] [Yh 1 Zx v c] true (G:=Value×List (Int×SL)) (fun r=>Yf r.2=mk c.length fun t=>ctl c t (t+1)) (fun r=>r.1) (fun r=>[pp r.1 r.2]):=by
 refine Zd Tryz.func142 Tryz.ntmps142 fun w0 sc hw hsc=>?_
 refine go 14 ⟨O,?_⟩
 refine Zf (My 3 (v':= .int .i64 ((c.length-1:Nat):Int)) rfl (by congr 1;omega)) ?_
 refine go 11 ?_
 refine Zf (Pm 70 2 89 Fl) ?_
 refine Zf (Yw qI 71) ?_
 refine lp (G:=Nat×Value×List (Int×SL)) [0,3] [0,1] (fun q=>[(5,.int .i64 (q.1:Int)),(4,q.2.1)]) (fun q=>[(70,Oa 2 89 Fl q.2.1 q.2.2),(71,Ia qI q.2.2)]) (fun q=>(q.1≤c.length)∧(Yf q.2.2=mk q.1 (fun t=>ctl c t (t+1)))∧(q.2.2.length=q.1)) (fun q=>c.length-q.1) (0,.slice none 0 0,[]) ⟨O1,rfl,rfl⟩ ⟨rfl,rfl,trivial⟩ ⟨rfl,rfl,trivial⟩ ?_
 rintro⟨i,vo,ws⟩ ⟨hi,hz,hzl⟩
 dsimp only at hi hz hzl
 dsimp only
 refine go 8 ?_
 refine Zc rfl (fun h45=>?_) (fun h45=>?_)
 ·refine go 6 ?_
  refine dt (Qi (ivs:=[]) rfl trivial (fun a w hs=>Yes)) ?_
  refine Yk (Zz 97) fun bx _=>?_
  refine go 10 ?_
  refine Zf (Pm 98 1 3 Ks) ?_
  refine Zf (Qd 98 rfl rfl pN) ?_
  refine lp (G:=Nat×Value) [0,3,4,5,6] [0,70,71,1] (fun q=>[(7,.int .i64 (q.1:Int))]) (fun q=>[(97,box bx 89 #[.bool (decide (ctl c i q.1<0)),q.2]),(98,Iu q.2 (ctl c i q.1).natAbs)]) (fun q=>q.1≤i+1) (fun q=>i+1-q.1) (0,.slice none 0 0) O1 ⟨rfl,trivial⟩ ⟨rfl,rfl,trivial⟩ ?_
  rintro⟨k,vs⟩ hk
  dsimp only at hk
  dsimp only
  refine go 8 ?_
  refine Zc rfl (fun h47=>?_) (fun h47=>?_)
  ·refine go 4 ?_
   have hw6:=Zrm (n:=c.length-1) (j:=i) (k:=k) O
   refine Qe (fun _=>False) [(0,0),(1,0),(2,0),(3,0),(4,0),(6,0),(7,0),(10,0),(11,0),(5,1),(8,1),(9,0),(12,1),(13,0),(14,1),(15,1),(16,1),(17,3)] ?_
   refine go 3 ?_
   refine Qc rfl rfl (Qy (Yn (ii:=1) (i:=k) rfl rfl rfl rfl Zk Tryz.underlying33 Tryz.sizeOf3 rfl)) ?_
   refine go 5 ⟨O,?_⟩
   refine Yz (Zg 2 [] (Ny (c.getD k 0) (La hc k))) fun v _=>?_
   refine Yz (Zg 2 [] (Zh4 (c.length-1) k O O)) fun _ _=>?_
   refine Qc rfl rfl (Qy (Zcj rfl rfl rfl O3 O3 (by have:=Zg5 (n:=c.length-1) (k:=k) O;omega))) ?_
   refine Yz (Zg 2 [] (Zh4 i k O O)) fun _ _=>?_
   refine go 1 ⟨show Xx (w60 (c.length-1) i k)from⟨O,O⟩,?_⟩
   refine Yz (Zg 3 [] (Ny (w60 (c.length-1) i k))) fun v_2 _=>?_
   refine Yz (Zg 4 [2,3] (El _ _ (c.getD k 0) (w60 (c.length-1) i k) (Nat.le_trans (Iz (La hc k)) O3) (Nat.le_trans (Zjl O) O3))) fun v_3 _=>?_
   refine Yz (Zg 5 [98,4] (Zpb _ _ (ctl c i k) (c.getD k 0*(w60 (c.length-1) i k)) (Nat.le_trans (Zbe hc O O) O3) (Nat.le_trans (Xa _ _) (by have h1:=Iz (La hc k);have h2:=Zjl (n:=c.length-1) (j:=i) (k:=k) O;omega)))) fun v_4 _=>?_
   refine go 9 ⟨O,?_⟩
   refine Yg (Pj 5 98 rfl rfl rfl) ?_
   exact Xf (k+1,v_4) O1 O1 ⟨rfl,trivial⟩ ⟨rfl,rfl,trivial⟩
  ·obtain rfl:k=i+1:=O
   refine go 5 ?_
   refine Znh (Px 98 rfl Zk) (fun sl hsl=>?_)
   subst hsl
   refine go 3 ?_
   refine tt (Qh (i:=73) (ivs:=[(0,_)]) (enc:=Fl) [(ctl c i (i+1),sl)] rfl rfl ⟨rfl,rfl,trivial⟩ Tryz.underlying46 Tryz.ti89 rfl rfl rfl rfl rfl pI.cells rfl rfl hw.h) (fun v_5 _=>?_)
   refine tt (Nz (xs:=ws) (ys:=[_]) (i:=70) (j:=73) (by_:=32) rfl rfl rfl rfl rfl rfl O3 rfl (Ys pI) Tryz.underlying46 Tryz.ti89 rfl pI rfl rfl rfl O8 O3 rfl hw.h) (fun v_6 _=>?_)
   refine go 9 ⟨O,?_⟩
   refine Yg (Zi (q:=qI) (z:=(ctl c i (i+1),sl)) 71 98 71 rfl rfl rfl rfl rfl) ?_
   exact Xf (i+1,_,ws ++ [(ctl c i (i+1),sl)]) ⟨O1,by rw [Fj,Cm,hz],by simp [hzl]⟩ O1 ⟨rfl,rfl,trivial⟩ ⟨rfl,rfl,trivial⟩
 ·refine go 6 ?_
  refine Zf (Qd 70 rfl rfl pI) ?_
  refine Zf (Pi 70 71 72 rfl rfl rfl rfl) ?_
  refine go 6 ?_
  exact Xn hsc (_,ws) Tryz.results142 rfl (by rw [hz,show i=c.length by omega]) (Ot 72 Za)
theorem pC:Enc Tryz.prog 33 1 (Li (α:=List Int)):=Enc.flat Tryz.sizeOf33 Tryz.isAgg33 (fun _=>rfl)
abbrev C0:SL×List Int:=((none,0,0),[])
theorem Zcw(fr to ov:Int)(sx sy sz:SL)(x y z:List Int):Cal Tryz.prog 141 #[.agg #[.int .i64 fr,.int .i64 to,.int .i64 ov,Xb sx,Xb sy,Xb sz]] [Yh 1 Zx (Xb sx) x,Yh 1 Zx (Xb sy) y,Yh 1 Zx (Xb sz) z] true (G:=Value) (fun r=>True) (fun r=>r) (fun r=>[Pz 1 (Li (α:=List Int)) qC r [(sx,x),(sy,y),(sz,z)]]):=by
 refine Zd Tryz.func141 Tryz.ntmps141 fun w0 sc hw hsc=>?_
 refine go 2 ?_
 refine Yk (Yj 4) fun bx _=>?_
 refine go 11 ?_
 refine tt (Qh (i:=5) (ivs:=[(0,_),(1,_),(2,_)]) (enc:=(Li (α:=List Int))) ([(sx,x),(sy,y),(sz,z)]:List (SL×List Int)) rfl rfl ⟨rfl,rfl,rfl,rfl,rfl,rfl,trivial⟩ Tryz.underlying193 Tryz.ti33 rfl rfl rfl rfl rfl pC.cells rfl rfl hw.h) (fun v _=>?_)
 refine go 4 ?_
 refine Yg (Qd 5 rfl rfl pC) ?_
 refine Yg (Yw qC 71) ?_
 refine Yg (Zi (q:=qC) (z:=(sx,x)) 71 1 71 rfl rfl rfl rfl rfl) ?_
 refine Yg (Zi (q:=qC) (z:=(sy,y)) 71 2 71 rfl rfl rfl rfl rfl) ?_
 refine Yg (Zi (q:=qC) (z:=(sz,z)) 71 3 71 rfl rfl rfl rfl rfl) ?_
 refine Yg (Pi 5 71 72 rfl rfl rfl rfl) ?_
 exact Xn hsc _ Tryz.results141 rfl trivial (Ot 72 Za)
theorem getD3{α:Type}{a b c d:α}{i:Nat}(h:i<3):[a,b,c].getD i d=Zp i a b c:=by
 match i,h with
 | 0,_=>rfl
 | 1,_=>rfl
 | 2,_=>rfl
theorem Yah{α β:Type}(i:Nat)(a b c:α×β):(Zp i a b c).2=Zp i a.2 b.2 c.2:=by unfold Zp;split<;>rfl
theorem Zrk{sx sy sz:SL}{x y z:List Int}{d:SL×List Int}{i:Nat}(h:i<3):([(sx,x),(sy,y),(sz,z)].getD i d).2=Zp i x y z:=by rw [getD3 h,Yah]
theorem Zrv{a b:Int} : 0<(a-b).sign↔b<a:=by rw [sgp];omega
theorem Yaa{a b:Int} : (a-b).sign<0↔a<b:=by rw [Pg];omega
theorem Yh4(t m:Int):m<t∨(¬m<t∧t < -m)∨(¬m<t∧¬t < -m):=O
def axc(c:List Int):Bool:=!(decide (1≤c.length) && decide (c.length≤6) && !(decide (1<c.length) && decide (c.getD (c.length-1) 0=0)))
theorem axc_f{c:List Int}{b:Bool}(h:b=axc c)(hb:b=false):1≤c.length∧c.length≤6∧¬(1<c.length∧c.getD (c.length-1) 0=0):=by
 subst h
 unfold axc at hb
 simp only [Bool.not_eq_false',Bool.and_eq_true,Bool.not_eq_true',Bool.and_eq_false_iff,decide_eq_true_eq,decide_eq_false_iff_not]at hb
 exact⟨hb.1.1,hb.1.2,fun h=>by rcases hb.2 with q | q;exact q h.1;exact q h.2⟩
theorem axc_t{c:List Int}{b:Bool}{ov:Int}(h:b=axc c)(hb:b=true):axB c ov=false:=by
 cases ha:axB c ov with
 | false=>rfl
 | true=>
  exfalso
  unfold axB at ha
  rw [Bool.and_eq_true]at ha
  have:axc c=false:=by unfold axc;rw [ha.1];rfl
  rw [h,this]at hb;cases hb
theorem Zwx{c:List Int}(h:¬1≤c.length):true=axc c:=by unfold axc;rw [decide_eq_false h];rfl
theorem Zww{c:List Int}(h:¬c.length≤6):true=axc c:=by unfold axc;rw [decide_eq_false h,Bool.and_false];rfl
theorem Zwv{c:List Int}(h1:1≤c.length)(h2:c.length≤6)(h3:¬1<c.length):false=axc c:=by unfold axc;rw [decide_eq_true h1,decide_eq_true h2,decide_eq_false h3];rfl
theorem Zwu{c:List Int}(h1:1≤c.length)(h2:c.length≤6)(h3:1<c.length):decide (c.getD (c.length-1) 0=0)=axc c:=by
 unfold axc;rw [decide_eq_true h1,decide_eq_true h2,decide_eq_true h3];simp
theorem Yi2{ov:Int}(h:bl ov.natAbs≤64):bl (62914560*ov).natAbs≤100:=by
 have h1:=Xa 62914560 ov
 have h2:bl (62914560:Int).natAbs≤30:=O3
 omega
theorem Zkt(fr to ov:Int)(sx sy sz:SL)(x y z:List Int)(hfr:Xx fr)(hto:Xx to)(hov:Xx ov)(hx:∀a∈x,Xx a)(hy:∀a∈y,Xx a)(hz:∀a∈z,Xx a):Cal Tryz.prog 75 #[.agg #[.int .i64 fr,.int .i64 to,.int .i64 ov,Xb sx,Xb sy,Xb sz]] [Yh 1 Zx (Xb sx) x,Yh 1 Zx (Xb sy) y,Yh 1 Zx (Xb sz) z] false (G:=Unit) (fun _=>True) (fun _=> .bool (Kr fr to ov x y z)) (fun _=>[]):=by
 refine Zd Tryz.func75 Tryz.ntmps75 fun w0 sc hw hsc=>?_
 have hbo:=Iz hov
 have hbm:=Yi2 hbo
 have hfc:=fun i k=>bl_fc hx hy hz hbo i k
 have hfc0:=fun i=>hfc i 0
 simp only [List.take_zero,Nc]at hfc0
 refine go 2 ?_
 refine Yk (Yj 4) fun bx _=>?_
 refine go 10 ?_
 refine Yt (d:=13) rfl (fun s57=>?_) (fun s57=>?_)
 ·refine go 31 ?_
  exact Xn hsc () Tryz.results75 (by rw [Cy O]) trivial Za
 ·refine go 7 ?_
  refine Yt (d:=20) rfl (fun s57_2=>?_) (fun s57_2=>?_)
  ·refine go 24 ?_
   exact Xn hsc () Tryz.results75 (by rw [Cy O]) trivial Za
  ·refine go 5 ?_
   refine Yt (d:=25) rfl (fun s57_3=>?_) (fun s57_3=>?_)
   ·refine go 19 ?_
    exact Xn hsc () Tryz.results75 (by rw [Cy O]) trivial Za
   ·refine go 5 ?_
    refine Yt (d:=30) rfl (fun s57_4=>?_) (fun s57_4=>?_)
    ·refine go 14 ?_
     exact Xn hsc () Tryz.results75 (by rw [Cy O]) trivial Za
    ·refine go 6 ?_
     refine Zc rfl (fun h57=>?_) (fun h57=>?_)
     ·refine go 7 ?_
      exact Xn hsc () Tryz.results75 (by rw [Cy O]) trivial Za
     ·refine go 6 ?_
      refine cl 98 [] (Ny ov hov) fun v _=>?_
      refine Yk (Zz 97) fun bx_2 _=>?_
      refine go 3 ?_
      refine jn (G:=Nat×Value) [1,3] [0,1,2,3,4,98,97] (fun q=>[(4,.pointer (some ⟨q.1,0,none⟩))]) (fun q=>[(95,box q.1 89 #[.bool (decide (62914560*ov<0)),q.2]),(96,Iu q.2 (62914560*ov).natAbs)]) (fun q=>True) ?_ ?_
      ·refine Kg (fun _=>False) [6] ?_
       refine Zh (n:=5) [(1,0),(2,0)] ?_
       refine go 3 ?_
       refine Qp (n:=4) 0 5 ?_ ?_
       ·refine Ol (Zg 5 [] (Ny 62914560 ⟨O3,O3⟩)) fun v_2 _=>?_
        refine Qp (n:=3) 3 5 ?_ ?_
        ·refine Ol (Zg 6 [] (Ny ov hov)) fun v_3 _=>?_
         refine Qp (n:=2) 4 5 ?_ ?_
         ·refine Ol (Zg 96 [5,6] (El _ _ 62914560 ov O3)) fun v_4 _=>?_
          refine Zh (n:=0) [(5,1),(6,3)] ?_
          refine Yz (Zz 95) fun bx_3 _=>?_
          refine go 2 ?_
          refine Zs ?_
          exact Pr (bx_3,v_4) trivial ⟨rfl,trivial⟩ ⟨rfl,rfl,trivial⟩
         ·refine Ol (Zz 95) fun bx_4 _=>?_
          refine Zh (n:=0) [(4,1),(6,3)] ?_
          refine Yz (Zg 96 [5,6] (El _ _ 62914560 ov O3)) fun v_5 _=>?_
          refine go 2 ?_
          refine Zs ?_
          exact Pr (bx_4,v_5) trivial ⟨rfl,trivial⟩ ⟨rfl,rfl,trivial⟩
        ·refine Ol (Zz 95) fun bx_5 _=>?_
         refine Zh (n:=0) [(3,1),(4,1),(6,3)] ?_
         refine Yz (Zg 7 [] (Ny ov hov)) fun v_6 _=>?_
         refine Yz (Zg 96 [5,7] (El _ _ 62914560 ov O3)) fun v_7 _=>?_
         refine go 2 ?_
         refine Zs ?_
         exact Pr (bx_5,v_7) trivial ⟨rfl,trivial⟩ ⟨rfl,rfl,trivial⟩
       ·refine Ol (Zz 95) fun bx_6 _=>?_
        refine Zh (n:=0) [(0,1),(3,1),(4,1),(6,3)] ?_
        refine Yz (Zg 8 [] (Ny 62914560 ⟨O3,O3⟩)) fun v_8 _=>?_
        refine Yz (Zg 9 [] (Ny ov hov)) fun v_9 _=>?_
        refine Yz (Zg 96 [8,9] (El _ _ 62914560 ov O3)) fun v_10 _=>?_
        refine go 2 ?_
        refine Zs ?_
        exact Pr (bx_6,v_10) trivial ⟨rfl,trivial⟩ ⟨rfl,rfl,trivial⟩
      ·rintro⟨b9,vm⟩ -
       dsimp only
       refine go 3 ?_
       refine cl 10 [1,2,3] (Zcw _ _ _ _ _ _ _ _ _) fun v_11 _=>?_
       refine go 10 ?_
       refine lp (G:=Nat×Value) [3,4,5] [0,95,96,1,2,3,4,10] (fun q=>[(6,.int .i64 (q.1:Int))]) (fun q=>[(97,box bx_2 89 #[.bool (decide ((Nc ov (Nk q.1 x y z))<0)),q.2]),(98,Iu q.2 ((Nc ov (Nk q.1 x y z))).natAbs)]) (fun q=>(q.1≤3)∧(∀k,k<q.1→axB (Zp k x y z) ov=true)) (fun q=>3-q.1) (0,_) ⟨O1,fun k hk=>absurd hk (Nat.not_lt_zero k)⟩ ⟨rfl,trivial⟩ ⟨rfl,rfl,trivial⟩ ?_
       rintro⟨i,vs⟩ ⟨hi,hax⟩
       dsimp only at hi hax
       dsimp only
       refine go 7 ?_
       refine Zc rfl (fun h63=>?_) (fun h63=>?_)
       ·refine go 5 ?_
        refine Zf (Al 10 40 ([(sx,x),(sy,y),(sz,z)].getD i C0) rfl rfl (Zj (show i<3 by omega)) rfl) ?_
        refine Zf (Me 40 (q:=Yh 1 Zx (Xb ([(sx,x),(sy,y),(sz,z)].getD i C0).1) (Zp i x y z)) (congrArg (Yh 1 Zx _) (Zrk O)) rfl rfl) ?_
        refine go 3 ?_
        refine dt (Yn (ii:=10) (i:=i) rfl rfl rfl rfl Zn Tryz.underlying193 Tryz.sizeOf33 rfl (show i<3 by omega)) ?_
        refine dt (Oi (ii:=10) C0 rfl rfl rfl Zn pC (show i<3 by omega)) ?_
        refine go 4 ?_
        refine jn (G:=Bool) [3,4,5,6,7] [0,97,98,95,96,1,2,3,4,10,40] (fun bj=>[(74,.bool bj)]) (fun bj=>[]) (fun bj=>bj=axc (Zp i x y z)) ?_ ?_
        ·refine go 5 ?_
         refine Yt (d:=56) rfl (fun s65=>?_) (fun s65=>?_)
         ·refine go 19 ?_
          exact Pr _ (by first | exact Zwx O | exact Zww O | exact Zwv O O O | exact Zwu O O O) ⟨rfl,trivial⟩ trivial
         ·refine go 5 ?_
          refine Yt (d:=61) rfl (fun s65_2=>?_) (fun s65_2=>?_)
          ·refine go 14 ?_
           exact Pr _ (by first | exact Zwx O | exact Zww O | exact Zwv O O O | exact Zwu O O O) ⟨rfl,trivial⟩ trivial
          ·refine go 4 ?_
           refine Yt (d:=65) rfl (fun s65_3=>?_) (fun s65_3=>?_)
           ·refine go 4 ⟨O,?_⟩
            refine Ej (Yn (ii:=40) (i:=((Zp i x y z).length-1)) rfl rfl rfl rfl Zk Tryz.underlying33 Tryz.sizeOf3) rfl rfl ?_
            refine go 5 ⟨O,?_⟩
            exact Pr _ (by first | exact Zwx O | exact Zww O | exact Zwv O O O | exact Zwu O O O) ⟨rfl,trivial⟩ trivial
           ·refine go 10 ?_
            exact Pr _ (by first | exact Zwx O | exact Zww O | exact Zwv O O O | exact Zwu O O O) ⟨rfl,trivial⟩ trivial
        ·rintro bj hbj
         refine Lb rfl (fun h65=>?_) (fun h65=>?_)
         ·refine go 12 ?_
          exact Xn hsc () Tryz.results75 (by rw [Zao (i:=i) (axc_t hbj ‹_›)]) trivial Za
         ·obtain⟨j1,j2,j3⟩:=axc_f hbj h65
          refine go 5 ?_
          refine cl 11 [40] (Zl5 _ (Zp i x y z) (Lm hx hy hz i) O O) fun g hg=>?_
          refine go 4 ?_
          have hlz:=congrArg List.length hg
          rw [Qt,Yq]at hlz
          refine go 5 ?_
          refine lp (G:=Nat×Value) [3,4,5,6,7,8] [0,95,96,1,2,3,4,10,40,11] (fun q=>[(9,.int .i64 (q.1:Int))]) (fun q=>[(97,box bx_2 89 #[.bool (decide ((Nc (Nc ov (Nk i x y z)) ((Zp i x y z).take q.1))<0)),q.2]),(98,Iu q.2 ((Nc (Nc ov (Nk i x y z)) ((Zp i x y z).take q.1))).natAbs)]) (fun q=>(q.1≤(Zp i x y z).length)∧(∀j,j<q.1→((ctl (Zp i x y z) j (j+1)).natAbs:Int)≤(62914560*ov))) (fun q=>(Zp i x y z).length-q.1) (0,_) ⟨O1,fun j hj=>absurd hj (Nat.not_lt_zero j)⟩ ⟨rfl,trivial⟩ ⟨rfl,rfl,trivial⟩ ?_
          rintro⟨k,vs⟩ ⟨hk,hz9⟩
          dsimp only at hk hz9
          dsimp only
          refine go 9 ?_
          refine Zc rfl (fun h69=>?_) (fun h69=>?_)
          ·refine go 5 ?_
           refine Qe (fun _=>False) [(0,0),(1,0),(2,0),(3,0),(4,0),(5,1),(6,1),(7,3)] ?_
           refine go 3 ?_
           refine Qc rfl rfl (Qy (Yn (ii:=40) (i:=k) rfl rfl rfl rfl Zk Tryz.underlying33 Tryz.sizeOf3 rfl)) ?_
           refine go 1 ⟨O2,?_⟩
           refine Yz (Zg 12 [] (Ny ((Zp i x y z).getD k 0) (La (Lm hx hy hz i) k))) fun v_12 _=>?_
           refine Yz (Zg 13 [98,12] (r_gcd _ _ (Nc (Nc ov (Nk i x y z)) ((Zp i x y z).take k)) ((Zp i x y z).getD k 0) (Nat.le_trans (Iz (La (Lm hx hy hz i) k)) O3) (Nat.le_trans (hfc i k) O3))) fun v_13 _=>?_
           refine go 4 ?_
           rcases Yh4 (ctl (Zp i x y z) k (k+1)) (62914560*ov)with hc1 | ⟨hc1,hc2⟩ | ⟨hc1,hc2⟩
           ·have hck:(g.2.getD k I0).1=(ctl (Zp i x y z) k (k+1)):=by rw [Hf,hg,Mh,if_pos O]
            refine Qe (fun _=>False) [(0,0),(1,0),(2,0),(3,0),(4,0),(5,1),(6,0),(7,0),(8,2),(9,2),(10,2),(11,2),(12,2),(13,2),(14,2),(15,2),(16,0)] ?_
            refine go 2 ?_
            refine Qc rfl rfl (Qy (Yn (ii:=11) (i:=k) rfl rfl rfl rfl Zn Tryz.underlying46 Tryz.sizeOf89 rfl)) ?_
            refine Qc rfl rfl (Qy (Oi (ii:=11) I0 rfl rfl rfl Zn pI)) ?_
            refine go 1 ?_
            refine Ev rfl (Ov (n:=13) (Dh _ _ _ (62914560*ov) (by rw [hck];exact Nat.le_trans (Zbe (Lm hx hy hz i) O O) O3) (Nat.le_trans hbm O3)) rfl rfl rfl ⟨rfl,rfl,trivial⟩ Tryz.call72 (Gj 11 rfl rfl (Zj (i:=k)) (Yd 96 rfl rfl rfl Ya)) rfl hw.h) (fun _ _=>?_)
            refine Qc rfl rfl (Qy (Zw (r':= .bool true) (Zga rfl rfl rfl) (congrArg Value.bool (decide_eq_true (by rw [hck,Zrv];exact hc1))))) ?_
            refine go 28 ?_
            exact Xn hsc () Tryz.results75 (by rw [Zao (i:=i) (Zjs fun h1 h2 h3 h4=>by rw [Ztl (j:=k) O O]at h4;cases h4)]) trivial Za
           ·have hck:(g.2.getD k I0).1=(ctl (Zp i x y z) k (k+1)):=by rw [Hf,hg,Mh,if_pos O]
            refine Qe (fun _=>False) [(0,0),(1,0),(2,0),(3,0),(4,0),(5,1),(6,0),(7,0),(8,0),(9,0),(10,0),(11,0),(12,0),(13,1),(14,1),(15,0),(16,0)] ?_
            refine go 2 ?_
            refine Qc rfl rfl (Qy (Yn (ii:=11) (i:=k) rfl rfl rfl rfl Zn Tryz.underlying46 Tryz.sizeOf89 rfl)) ?_
            refine Qc rfl rfl (Qy (Oi (ii:=11) I0 rfl rfl rfl Zn pI)) ?_
            refine go 1 ?_
            refine Ev rfl (Ov (n:=13) (Dh _ _ _ (62914560*ov) (by rw [hck];exact Nat.le_trans (Zbe (Lm hx hy hz i) O O) O3) (Nat.le_trans hbm O3)) rfl rfl rfl ⟨rfl,rfl,trivial⟩ Tryz.call72 (Gj 11 rfl rfl (Zj (i:=k)) (Yd 96 rfl rfl rfl Ya)) rfl hw.h) (fun _ _=>?_)
            refine Qc rfl rfl (Qy (Zw (r':= .bool false) (Zga rfl rfl rfl) (congrArg Value.bool (decide_eq_false (by rw [hck,Zrv];exact hc1))))) ?_
            refine go 3 ?_
            refine r0g (Qy (Yn (ii:=11) (i:=k) rfl rfl rfl rfl Zn Tryz.underlying46 Tryz.sizeOf89 rfl)) rfl rfl rfl rfl rfl ?_
            refine r0g (Qy (Oi (ii:=11) I0 rfl rfl rfl Zn pI)) rfl rfl rfl rfl rfl ?_
            refine go 1 ?_
            refine Zpc rfl rfl rfl rfl rfl (Ov (n:=14) (Yaz _ (62914560*ov) (Nat.le_trans hbm O3)) rfl rfl rfl ⟨rfl,trivial⟩ Tryz.call144 (Yd 96 rfl rfl rfl Ya) rfl hw.h) (fun v_14 _=>?_)
            refine Zpc rfl rfl rfl rfl rfl (Ov (n:=14) (Dh _ _ _ (-(62914560*ov)) (by rw [hck];exact Nat.le_trans (Zbe (Lm hx hy hz i) O O) O3) (by rw [Int.natAbs_neg];exact Nat.le_trans hbm O3)) rfl rfl rfl ⟨rfl,rfl,trivial⟩ Tryz.call72 (Gj 11 rfl rfl (Zj (i:=k)) (Yd 14 rfl rfl rfl Ya)) rfl hw.h) (fun _ _=>?_)
            refine r0g (Qy (Zw (r':= .bool true) (Yds rfl rfl rfl) (congrArg Value.bool (decide_eq_true (by rw [hck,Yaa];exact hc2))))) rfl rfl rfl rfl rfl ?_
            refine go 19 ?_
            exact Xn hsc () Tryz.results75 (by rw [Zao (i:=i) (Zjs fun h1 h2 h3 h4=>by rw [Ztl (j:=k) O O]at h4;cases h4)]) trivial Za
           ·have hck:(g.2.getD k I0).1=(ctl (Zp i x y z) k (k+1)):=by rw [Hf,hg,Mh,if_pos O]
            refine Qe (fun _=>False) [(0,0),(1,0),(2,0),(3,0),(4,0),(5,1),(6,0),(7,0),(8,0),(9,0),(10,0),(11,0),(12,0),(13,1),(14,1),(15,0),(16,0)] ?_
            refine go 2 ?_
            refine Qc rfl rfl (Qy (Yn (ii:=11) (i:=k) rfl rfl rfl rfl Zn Tryz.underlying46 Tryz.sizeOf89 rfl)) ?_
            refine Qc rfl rfl (Qy (Oi (ii:=11) I0 rfl rfl rfl Zn pI)) ?_
            refine go 1 ?_
            refine Ev rfl (Ov (n:=14) (Dh _ _ _ (62914560*ov) (by rw [hck];exact Nat.le_trans (Zbe (Lm hx hy hz i) O O) O3) (Nat.le_trans hbm O3)) rfl rfl rfl ⟨rfl,rfl,trivial⟩ Tryz.call72 (Gj 11 rfl rfl (Zj (i:=k)) (Yd 96 rfl rfl rfl Ya)) rfl hw.h) (fun _ _=>?_)
            refine Qc rfl rfl (Qy (Zw (r':= .bool false) (Zga rfl rfl rfl) (congrArg Value.bool (decide_eq_false (by rw [hck,Zrv];exact hc1))))) ?_
            refine go 3 ?_
            refine r0g (Qy (Yn (ii:=11) (i:=k) rfl rfl rfl rfl Zn Tryz.underlying46 Tryz.sizeOf89 rfl)) rfl rfl rfl rfl rfl ?_
            refine r0g (Qy (Oi (ii:=11) I0 rfl rfl rfl Zn pI)) rfl rfl rfl rfl rfl ?_
            refine go 1 ?_
            refine Zpc rfl rfl rfl rfl rfl (Ov (n:=15) (Yaz _ (62914560*ov) (Nat.le_trans hbm O3)) rfl rfl rfl ⟨rfl,trivial⟩ Tryz.call144 (Yd 96 rfl rfl rfl Ya) rfl hw.h) (fun v_15 _=>?_)
            refine Zpc rfl rfl rfl rfl rfl (Ov (n:=15) (Dh _ _ _ (-(62914560*ov)) (by rw [hck];exact Nat.le_trans (Zbe (Lm hx hy hz i) O O) O3) (by rw [Int.natAbs_neg];exact Nat.le_trans hbm O3)) rfl rfl rfl ⟨rfl,rfl,trivial⟩ Tryz.call72 (Gj 11 rfl rfl (Zj (i:=k)) (Yd 15 rfl rfl rfl Ya)) rfl hw.h) (fun _ _=>?_)
            refine r0g (Qy (Zw (r':= .bool false) (Yds rfl rfl rfl) (congrArg Value.bool (decide_eq_false (by rw [hck,Yaa];exact hc2))))) rfl rfl rfl rfl rfl ?_
            refine go 12 ⟨O,?_⟩
            refine Yg (Pj 13 98 rfl rfl rfl) ?_
            exact Xf (k+1,v_13) ⟨O1,fun j hj=>by rcases Nat.lt_succ_iff_lt_or_eq.1 hj with h9 | h9;exact hz9 j h9;subst h9;omega⟩ O1 ⟨rfl,trivial⟩ ⟨by rw [Bs _ O];rfl,by rw [Bs _ O];rfl,trivial⟩
          ·obtain rfl:k=(Zp i x y z).length:=O
           rw [List.take_length]
           refine go 11 ⟨O,?_⟩
           refine Yg (Pj 98 98 rfl rfl rfl) ?_
           exact Xf (i+1,vs) ⟨O1,fun k hk=>by rcases Nat.lt_succ_iff_lt_or_eq.1 hk with h9 | h9;exact hax k h9;subst h9;exact Zwy j1 j2 j3 (Ztk fun j hj=>by have:=hz9 j hj;omega)⟩ O1 ⟨rfl,trivial⟩ ⟨by rw [Eb x y z O,Ig];rfl,by rw [Eb x y z O,Ig];rfl,trivial⟩
       ·obtain rfl:i=3:=O
        refine go 6 ?_
        refine Qe (fun _=>False) [(0,0),(1,1),(2,1),(3,0),(4,3)] ?_
        refine go 1 ?_
        refine Yz (Zg 16 [] (Ny 1 ⟨O3,O3⟩)) fun v_16 _=>?_
        refine Yz (Zg 16 [98,16] (Dh _ _ (Nc ov (Nk 3 x y z)) 1 (Nat.le_trans (hfc0 _) O3) O3)) fun _ _=>?_
        refine go 5 ?_
        exact Xn hsc () Tryz.results75 (by rw [Yai O hax];exact congrArg Value.bool (decide_eq_decide.2 (by rw [Int.sign_eq_zero_iff_zero];omega))) trivial Za
theorem Zpd(v:Value)(l:List Int)(hl:∀x∈l,Xx x)(hlen:l.length≤1000):Cal Tryz.prog 145 #[v] [Yh 1 Zx v l] true (G:=Value×List (Int×SL)) (fun r=>Yf r.2=tzl l) (fun r=>r.1) (fun r=>[pp r.1 r.2]):=by
 refine Zd Tryz.func145 Tryz.ntmps145 fun w0 sc hw hsc=>?_
 have hsz:=Zgo hl
 refine go 17 ?_
 refine Zf (Pm 70 2 89 Fl) ?_
 refine Zf (Yw qI 71) ?_
 refine lp (G:=Nat×Value×List (Int×SL)) [0] [0,1] (fun q=>[(4,.int .i64 (q.1:Int)),(3,q.2.1)]) (fun q=>[(70,Oa 2 89 Fl q.2.1 q.2.2),(71,Ia qI q.2.2)]) (fun q=>(q.1≤l.length)∧(Yf q.2.2=mk q.1 (cf l))∧(q.2.2.length=q.1)) (fun q=>l.length-q.1) (0,.slice none 0 0,[]) ⟨O1,rfl,rfl⟩ ⟨rfl,rfl,trivial⟩ ⟨rfl,rfl,trivial⟩ ?_
 rintro⟨i,vo,ws⟩ ⟨hi,hz,hzl⟩
 dsimp only at hi hz hzl
 dsimp only
 refine go 9 ?_
 refine Zc rfl (fun h26=>?_) (fun h26=>?_)
 ·refine go 8 ?_
  refine dt (Yn (ii:=1) (i:=i) rfl rfl rfl rfl Zk Tryz.underlying33 Tryz.sizeOf3 rfl) ?_
  refine go 1 ⟨O,?_⟩
  refine cl 2 [] (Ny _ (hl _ (Zj))) fun v _=>?_
  refine Zya (Px 2 rfl Zk) (fun sl hsl=>?_)
  subst hsl
  refine tt (Qh (i:=3) (ivs:=[(0,_)]) (enc:=Fl) [(l.getD i 0,sl)] rfl rfl ⟨rfl,rfl,trivial⟩ Tryz.underlying47 Tryz.ti89 rfl rfl rfl rfl rfl pI.cells rfl rfl hw.h) (fun v_2 _=>?_)
  refine tt (Nz (i:=70) (j:=3) (by_:=32) rfl rfl rfl rfl rfl rfl O3 rfl (Ys pI) Tryz.underlying47 Tryz.ti89 rfl pI rfl rfl rfl O8 O3 rfl hw.h) (fun v_3 _=>?_)
  refine go 9 ⟨O,?_⟩
  refine Yg (Zi (q:=qI) (z:=(l.getD i 0,sl)) 71 2 71 rfl rfl rfl rfl rfl) ?_
  exact Xf (i+1,_,ws ++ [(l.getD i 0,sl)]) ⟨O1,by rw [Fj,Cm,hz];dsimp only;rfl,by simp [hzl]⟩ O1 ⟨rfl,rfl,trivial⟩ ⟨rfl,rfl,trivial⟩
 ·refine go 6 ?_
  refine Zf (Qd 70 rfl rfl pI) ?_
  refine Zf (Pi 70 71 72 rfl rfl rfl rfl) ?_
  refine go 2 ?_
  refine cl 4 [72] (Zbl _ _ (by rw [hz];exact Cl fun t ht=>by have:=hsz t;omega)) fun g hg=>?_
  refine go 4 ?_
  exact Xn hsc _ Tryz.results145 rfl (by rw [hg,hz,show i=l.length by omega,Zbw]) (Ot 4 Za)
structure RI (xs q:List Int):Prop where
 v:Vp q
 ne:q≠[]
 s:Sz 220 q
 l:q.length≤11
 d:Dp xs (Yy q)
theorem RI.start{xs:List Int}(h:Cvd xs)(h0:xs≠[]):RI xs xs:=⟨h.v,h0,h.s.mono O,h.l,Dp.start h.v.tr h0⟩
theorem Zzl{q:List Int}{n:Nat}{e:Int}(he:e=1∨e=-1)(h:Sz n q):Sz n (Zm q e):=fun i=>by
 rw [Yr]
 have:=h i
 rcases he with rfl | rfl
 ·rw [Int.mul_one];exact this
 ·rw [Int.mul_neg_one,Int.natAbs_neg];exact this
theorem RI.step{xs q:List Int}(h:Cvd xs)(h0:xs≠[])(hI:RI xs q) :
  Tr (sqf 13 q)∧Qk (sqf 13 q)≤235∧(sqf 13 q).length≤11∧0<(sqf 13 q).length∧Ym q≠0∧Sz 220 (Zm (Zt q) 1)∧Tr (Zm (Zt q) 1)∧(Zm (Zt q) 1).length=q.length∧pdv (Zm (Zt q) 1) (sqf 13 q)∧
  Vp (Nq 13 q)∧Nq 13 q≠[]∧Sz 220 (Nq 13 q)∧(Nq 13 q).length≤11∧Ym (Nq 13 q)≠0∧Zt (Nq 13 q)=Nq 13 q∧
  Tr (sqf 13 (Nq 13 q))∧Qk (sqf 13 (Nq 13 q))≤235∧(sqf 13 (Nq 13 q)).length≤11∧0<(sqf 13 (Nq 13 q)).length∧pdv (sqf 13 q) (sqf 13 (Nq 13 q))∧Sz 600 (Lr (sqf 13 q) (sqf 13 (Nq 13 q)))∧(Lr (sqf 13 q) (sqf 13 (Nq 13 q))).length≤11∧
  pdv (Nq 13 q) (sqf 13 (Nq 13 q))∧RI xs (Zab 13 q)∧((sqf 13 q).length≠1→(Zab 13 q).length<q.length):=by
 have hl:=h.l
 have hD:=hI.d
 have hok0:=(hD.ok h.v.tr h0 h.s O O (show xs.length≤13+1 by omega)).2
 have hok:Gq 13 q:=by unfold Gq at hok0 ⊢;rwa [hD.2.2.1]at hok0
 have hg:=hD.next hok0
 have hgn:Qz 13 (Yy q)=Qz 13 q:=Zg1 hD.2.2.1
 have hsn:sqf 13 (Yy q)=sqf 13 q:=Fr hD.2.2.1
 rw [hgn]at hg
 have hok2:=(hg.ok h.v.tr h0 h.s O O (show xs.length≤13+1 by omega)).2
 have hg2:=hg.next hok2
 obtain⟨⟨e,he,r1,r2,r3,r4,r5,r6⟩,r7,r8,r9,r10,r11,r12⟩:=Zh0 hI.v.tr hI.ne hok hok2
 obtain⟨-,-,-,-,-,-,-,-,-,-,-,a12,a13,a14,-,a16,-,-⟩:=Zbn h h0 hD
 obtain⟨-,-,-,-,-,-,-,-,-,-,-,b12,b13,b14,-,b16,b17,-⟩:=Zbn h h0 hg
 rw [hsn]at a12 a13 a14 a16
 have hsl:sqf 13 (Nq 13 q)=sqf 13 (Qz 13 q):=Fr (by rw [r7,hg.2.2.1])
 obtain⟨g1,g2⟩:=Zek h h0 hg
 obtain⟨g3,g4⟩:=Zek h h0 hg2
 have e0:e≠0:=by rcases he with rfl | rfl<;>decide
 have hLs:Sz 220 (Nq 13 q):=by rw [r3];exact Zzl he g1
 have hLl:(Nq 13 q).length≤11:=by rw [r3];have:=Pt (Qz 13 q) e;omega
 have hLv:Vp (Nq 13 q):=⟨hLs.mono O,r9,O⟩
 have hRs:Sz 220 (Zab 13 q):=by rw [r6];exact Zzl he g3
 have hRl:(Zab 13 q).length≤(Qz 13 (Qz 13 q)).length:=by rw [r6];exact Pt _ e
 obtain⟨o1,o2,o3,o4⟩:=Fz hI.v.tr hI.ne hok hok2
 have hK:fcs 0 13≤2^15*2^15:=O5
 have hos:=Fk (L:=13) (R:=24) o3 b12.tr a13 a16 a12.tr O O3 hK o2
 have hlq:=Pu o3 b12.tr o4 b16
 rw [←o2]at hlq
 have lb:=List.length_pos_iff.2 b16
 have la:=List.length_pos_iff.2 a16
 have lo:=List.length_pos_iff.2 o4
 have hm:Zm (Zt q) 1=Zt q:=by
  refine(Xq _ _).ext (Yv hI.v.tr) fun i=>?_
  rw [Yr,Int.mul_one]
 have hx:=Qg hI.v.tr hI.ne hok
 have hx2:=Qg hg.1 hg.2.1 hok2
 rw [hsl]
 refine⟨a12.tr,Pd a13,O,la,hI.v.ne hI.ne,by rw [hm];exact Gd hI.s,Xq _ _,by rw [hm,Zr],by rw [r1];exact r2,hLv,r10,hLs,hLl,hLv.ne r10,r4,b12.tr,Pd b13,b14,lb,o1,hos.mono O,?_,r5,⟨⟨hRs.mono O,r11,O⟩,r12,hRs,O,by rw [r8];exact hg2⟩,fun hne=>?_⟩
 ·show(Em 13 q).length≤11;omega
 ·have h1:=hx.2.2.2.2
  have h2:=hx2.2.2.2.2
  omega
theorem Ybe{F n:Nat}{p:List Int}(hp:Tr p)(h0:p≠[])(hs:Sz n p)(hn:n≤220)(hl:p.length≤11)(hF:p.length≤F+1):∀(f:Nat) (q:List Int),Dp p q→q.length≤f→∃a:List Int,Tr a∧q=Xs a (Eh F f q):=by
 intro f
 induction f with
 | zero=>intro q hq hlq;have:=List.length_pos_iff.2 hq.2.1;omega
 | succ f ih=>
  intro q hq hlq
  have hok:=(hq.ok hp h0 hs hn hl hF).2
  have hg:=hq.next hok
  have hok2:=(hg.ok hp h0 hs hn hl hF).2
  have hg2:=hg.next hok2
  unfold Eh
  by_cases c1:(sqf F q).length=1
  ·rw [if_pos c1]
   obtain⟨s1,s2,s3⟩:=Zdn hq.1 hq.2.1 hok c1
   refine⟨[1],.inr (show cf [1] 0≠0 by decide),hq.1.ext (Xo _ _) fun i=>Od (fun x=>?_) i⟩
   rw [Yc,s1,Ygz hq.1 hq.2.2.1 s2,Qq];push_cast;grind
  ·rw [if_neg c1]
   have lq:2≤q.length:=by
    obtain⟨f1,f2,f3,f4,f5,f6⟩:=Ps (F:=F) hq.1 hq.2.1 hok
    obtain⟨a1,a2,a3,a4,a5⟩:=Qg hq.1 hq.2.1 hok
    have l1:=List.length_pos_iff.2 f3
    have l2:=List.length_pos_iff.2 a2
    omega
   have lt1:=Zix hq.1 hq.2.1 hok lq
   obtain⟨a1,a2,a3,a4,a5⟩:=Qg hq.1 hq.2.1 hok
   obtain⟨b1,b2,b3,b4,b5⟩:=Qg hg.1 hg.2.1 hok2
   obtain⟨-,t2,t3,-,-,-⟩:=Ps (F:=F) hg.1 hg.2.1 hok2
   have lb:=List.length_pos_iff.2 t3
   obtain⟨A,hA,hB⟩:=ih _ hg2 O
   obtain⟨-,o2,o3,o4⟩:=Fz hq.1 hq.2.1 hok hok2
   rw [hq.2.2.1]at a4
   rw [a3]at b4
   refine⟨Xs (Xs (sqf F (Qz F q)) (sqf F (Qz F q))) A,Xo _ _,hq.1.ext (Xo _ _) fun i=>Od (fun x=>?_) i⟩
   have e1:Zb q x=Zb (sqf F q) x*Zb (Qz F q) x:=by rw [←Yc,←a4]
   have e2:Zb (sqf F q) x=Zb (Em F q) x*Zb (sqf F (Qz F q)) x:=by rw [←Yc,←o2]
   have e3:Zb (Qz F q) x=Zb (sqf F (Qz F q)) x*Zb (Qz F (Qz F q)) x:=by rw [←Yc,←b4]
   have e4:Zb (Qz F (Qz F q)) x=Zb A x*Zb (Eh F f (Qz F (Qz F q))) x:=by rw [←Yc,←hB]
   rw [Yc,Yc,Yc,Yc,e1,e2,e3,e4]
   show _=_*(Zb (Em F q) x*_)
   generalize Zb (sqf F (Qz F q)) x=S
   grind
theorem RI.size{xs q:List Int}(h:Cvd xs)(h0:xs≠[])(hI:RI xs q){f:Nat}(hf:q.length≤f):Tr (Zr3 13 f q)∧Sz 460 (Zr3 13 f q)∧(Zr3 13 f q).length≤11:=by
 have hl:=h.l
 have hD:=hI.d
 have e:Zr3 13 f q=Eh 13 f (Yy q):=by
  rw [Yge h.v.tr h0 h.s O O O f q hI.v.tr hI.ne hD]
  exact Zpm hD.2.2.1.symm f
 have hlq:=Qu hI.v.tr
 have hll:=hI.l
 obtain⟨A,hA,hB⟩:=Ybe h.v.tr h0 h.s O O (show xs.length≤13+1 by omega) f (Yy q) hD O
 obtain⟨d1,d2⟩:=Zek h h0 hD
 have hok0:=(hD.ok h.v.tr h0 h.s O O (show xs.length≤13+1 by omega)).2
 have ht:=Zmc (F:=13) (p:=xs) (f:=f) hD.1 hD.2.1 hok0
 rw [e]
 have hK:fcs 0 13≤2^15*2^15:=O5
 have p0:Eh 13 f (Yy q)≠[]:=fun e2=>hD.2.1 (by rw [hB,e2,Ar])
 have a0:A≠[]:=fun e2=>hD.2.1 (by rw [hB,e2,Hj])
 have hl2:=Pu hA ht a0 p0
 rw [←hB]at hl2
 have:=List.length_pos_iff.2 a0
 exact⟨ht,(Fk (L:=13) (R:=24) ht hA d1 hD.2.1 hD.1 O O3 hK (by rw [Di];exact hB)).mono O,O⟩
open Go.Proofs.Tryz
theorem pT{α:Type} : Enc Tryz.prog 47 1 (Li (α:=α)):=Enc.flat Tryz.sizeOf47 Tryz.isAgg47 (fun _=>rfl)
def Ky(f:Nat→Rat):Nat→Rat
 | 0=>0
 | n+1=>Ky f n+f n
theorem Ow(f:Nat→Rat)(n:Nat):Ky f (n+1)=Ky f n+f n:=rfl
theorem Nv{f g:Nat→Rat} : ∀n,(∀i,i<n→f i=g i)→Ky f n=Ky g n
 | 0,_=>rfl
 | n+1,h=>by rw [Ow,Ow,Nv n fun i hi=>h i O,h n O]
theorem Fg(f:Nat→Rat):∀n,Ky f (n+1)=f 0+Ky (fun i=>f (i+1)) n
 | 0=>by show 0+f 0=f 0+0;grind
 | n+1=>by rw [Ow,Fg f n,Ow];grind
theorem Zh5(f g:Nat→Rat):∀n,Ky (fun i=>f i+g i) n=Ky f n+Ky g n
 | 0=>by show(0:Rat)=0+0;grind
 | n+1=>by rw [Ow,Ow,Ow,Zh5 f g n];grind
theorem Gi(c:Rat)(f:Nat→Rat):∀n,Ky (fun i=>c*f i) n=c*Ky f n
 | 0=>by show(0:Rat)=c*0;grind
 | n+1=>by rw [Ow,Ow,Gi c f n];grind
theorem Zjf(n:Nat):Pk n 0=1:=by cases n<;>rfl
theorem chz_s(n k:Nat):Pk (n+1) (k+1)=Pk n k+Pk n (k+1):=rfl
theorem Yep{u w:Rat}(h:u+w=1):∀n,Ky (fun j=>(Pk n j:Rat)*(u^j*w^(n-j))) (n+1)=1
 | 0=>by
  rw [Fg]
  show((Pk 0 0:Nat):Rat)*(u^0*w^0)+0=1
  rw [Zjf,Rat.pow_zero,Rat.pow_zero];push_cast;grind
 | n+1=>by
  have ih:=Yep h n
  rw [Fg]
  have e1:Ky (fun i=>(Pk (n+1) (i+1):Rat)*(u^(i+1)*w^(n+1-(i+1)))) (n+1)=Ky (fun i=>u*((Pk n i:Rat)*(u^i*w^(n-i)))) (n+1)+Ky (fun i=>(Pk n (i+1):Rat)*(u^(i+1)*w^(n-i))) (n+1):=by
   rw [←Zh5]
   refine Nv _ fun i hi=>?_
   rw [chz_s,show n+1-(i+1)=n-i by omega,Rat.pow_succ]
   push_cast;grind
  have e2:Ky (fun i=>(Pk n (i+1):Rat)*(u^(i+1)*w^(n-i))) (n+1)=Ky (fun i=>(Pk n (i+1):Rat)*(u^(i+1)*w^(n-i))) n:=by
   rw [Ow,Zje n (n+1) O]
   push_cast;grind
  have e3:w*Ky (fun j=>(Pk n j:Rat)*(u^j*w^(n-j))) (n+1)=w^(n+1)+Ky (fun i=>(Pk n (i+1):Rat)*(u^(i+1)*w^(n-i))) n:=by
   rw [←Gi,Fg,Zjf]
   congr 1
   ·rw [Nat.sub_zero,Rat.pow_zero,Rat.pow_succ];push_cast;grind
   ·refine Nv _ fun i hi=>?_
    rw [show n-i=(n-(i+1))+1 by omega,Rat.pow_succ w]
    grind
  rw [e1,e2,Gi,ih]
  rw [ih]at e3
  rw [Zjf,Rat.pow_zero,Nat.sub_zero]
  push_cast;grind
def Kl(d:Nat)(c:List Int)(j:Nat):Int:=Zy (fun i=>cf c i*(Pk (d-i) (j-i):Int)) (j+1)
theorem brS_0(d:Nat)(a:Int)(c:List Int):Kl d (a :: c) 0=a:=by
 unfold Kl
 rw [Yi,Kw]
 show 0+a*((Pk (d-0) (0-0):Nat):Int)=a
 rw [show 0-0=0 from rfl,Zjf];omega
theorem brS_s(d:Nat)(a:Int)(c:List Int)(j:Nat):Kl (d+1) (a :: c) (j+1)=a*(Pk (d+1) (j+1):Int)+Kl d c j:=by
 unfold Kl
 rw [Ng]
 congr 1
 refine Yu fun i hi=>?_
 rw [show d+1-(i+1)=d-i by omega,show j+1-(i+1)=j-i by omega]
 rfl
theorem Yiw(d j:Nat):Kl d [] j=0:=by
 unfold Kl
 exact(Ze8 (m:=0) (Nat.zero_le _) fun i _ _=>by rw [show cf [] i=0 from rfl,Int.zero_mul]).trans (Kw _)
theorem bern{u w:Rat}(h:u+w=1):∀(d:Nat) (c:List Int),c.length≤d+1→Ky (fun j=>(Kl d c j:Rat)*(u^j*w^(d-j))) (d+1)=Zb c u
 | d,[],_=>by
  rw [Nv (g:=fun _=>0) (d+1) fun i hi=>by rw [Yiw];push_cast;grind]
  show Ky (fun _=>0) (d+1)=0
  have:∀n,Ky (fun _=>0) n=0:=fun n=>by
   induction n with
   | zero=>rfl
   | succ n ih=>rw [Ow,ih];grind
  exact this _
 | 0,[a],_=>by
  rw [Ow,brS_0]
  show 0+(a:Rat)*(u^0*w^0)=(a:Rat)+u*0
  rw [Rat.pow_zero,Rat.pow_zero];grind
 | 0,a :: b :: c,hl=>by simp at hl
 | d+1,a :: c,hl=>by
  have ih:=bern h d c (by simpa using hl)
  have hb:=Yep h (d+1)
  rw [Fg]at hb
  rw [Fg,brS_0]
  have e1:Ky (fun i=>(Kl (d+1) (a :: c) (i+1):Rat)*(u^(i+1)*w^(d+1-(i+1)))) (d+1)=(a:Rat)*Ky (fun i=>(Pk (d+1) (i+1):Rat)*(u^(i+1)*w^(d+1-(i+1)))) (d+1)+u*Ky (fun j=>(Kl d c j:Rat)*(u^j*w^(d-j))) (d+1):=by
   rw [←Gi,←Gi,←Zh5]
   refine Nv _ fun i hi=>?_
   rw [brS_s,show d+1-(i+1)=d-i by omega,Rat.pow_succ]
   push_cast;grind
  rw [e1,ih]
  show _=(a:Rat)+u*Zb c u
  rw [Zjf]at hb
  push_cast at hb ⊢
  grind
theorem Fv(a:Int):∀(c:List Int) (i:Nat),cf (c.map fun x=>a*x) i=a*cf c i
 | [],i=>by rw [List.map_nil,show cf [] i=0 from rfl,Int.mul_zero]
 | x :: c,0=>rfl
 | x :: c,i+1=>Fv a c i
theorem Zr5(c:List Int)(a b e:Int)(u:Rat):Zb (mk (c.length+1) fun t=>cf c t*a+(if t=0 then e else cf c (t-1)*b)) u=Zb c u*((a:Rat)+(b:Rat)*u)+(e:Rat):=by
 have h:Zb (mk (c.length+1) fun t=>cf c t*a+(if t=0 then e else cf c (t-1)*b)) u=Zb (Nj (c.map fun x=>a*x) (e :: c.map fun x=>b*x)) u:=On u _ _ fun i=>by
  rw [Md,Fv,Mh]
  match i with
  | 0=>rw [if_pos O,if_pos rfl];show cf c 0*a+e=a*cf c 0+e;rw [Int.mul_comm]
  | i+1=>
   show _=a*cf c (i+1)+cf (c.map fun x=>b*x) i
   rw [Fv]
   by_cases hi:i<c.length
   ·rw [if_pos O,if_neg O,Nat.add_sub_cancel,Int.mul_comm,Int.mul_comm (cf c i)]
   ·rw [if_neg O,Yl (p:=c) (i:=i+1) O,Yl (p:=c) (i:=i) O];omega
 rw [h,Xd,Ze]
 show _+((e:Rat)+u*Zb (c.map fun x=>b*x) u)=_
 rw [Ze];grind
theorem Zo7(p:List Int)(a b d:Int){t u:Rat}(ht:t*(d:Rat)=(a:Rat)+(b:Rat)*u):∀j,j+1≤p.length→Zb (Mc p a b d j) u=(d:Rat)^j*Zb (p.drop (p.length-1-j)) t
 | 0,h=>by
  have e:p.drop (p.length-1-0)=[cf p (p.length-1)]:=by
   rw [Nat.sub_zero,List.drop_eq_getElem_cons O,List.drop_of_length_le O]
   congr 1
   unfold cf;rw [List.getD_eq_getElem?_getD,List.getElem?_eq_getElem O];rfl
  rw [Fo,e,Rat.pow_zero,Qq,Qq];grind
 | j+1,h=>by
  have ih:=Zo7 p a b d ht j O
  have e:p.drop (p.length-1-(j+1))=cf p (p.length-2-j) :: p.drop (p.length-1-j):=by
   rw [List.drop_eq_getElem_cons O,show p.length-1-(j+1)+1=p.length-1-j by omega]
   congr 1
   unfold cf;rw [List.getD_eq_getElem?_getD,List.getElem?_eq_getElem O]
   show p[p.length-1-(j+1)]=p[p.length-2-j]
   congr 1;omega
  rw [Zyt,Zr5,ih,e,←ht]
  show _=(d:Rat)^(j+1)*((cf p (p.length-2-j):Rat)+t*Zb (p.drop (p.length-1-j)) t)
  rw [Rat.pow_succ];push_cast
  rw [Rat.pow_succ]
  generalize (d:Rat)^j=D
  grind
theorem Zh2{p:List Int}(a b d:Int){t u:Rat}(ht:t*(d:Rat)=(a:Rat)+(b:Rat)*u)(h0:p.length≠0):Zb (Lt p a b d) u=(d:Rat)^(p.length-1)*Zb p t:=by
 unfold Lt
 rw [if_neg h0,On u (tzl _) _ (fun i=>Lj _ i),Zo7 p a b d ht (p.length-1) O,Nat.sub_self,List.drop_zero]
def Oq(c:List Int)(a b d:Int):List Int:=Zm (Lt (tzl c) a b d) (d^(6-c.length))
theorem Zjo{a:Int}(h:a.natAbs≤3600000):bl a.natAbs≤22:=(Xw 22 _).2 (Nat.lt_of_le_of_lt h O3)
theorem Zld{d:Int}(h:bl d.natAbs≤22):∀k,k≤5→bl (d^k).natAbs≤132
 | 0,_=>by rw [Int.pow_zero];decide
 | k+1,hk=>by
  have key:∀k,bl (d^k).natAbs≤22*k+1:=fun k=>by
   induction k with
   | zero=>rw [Int.pow_zero];decide
   | succ k ih=>rw [Int.pow_succ];have:=Xa (d^k) d;omega
  have:=key (k+1);omega
theorem Znp{c:List Int}(hc:∀a∈c,Xx a)(hl:1≤c.length∧c.length≤6){a b d:Int}(ha:a.natAbs≤3600000)(hb:b.natAbs≤3600000)(hd:1≤d∧d≤3600000) :
  Vp (tzl c)∧¬Zjb (tzl c) a b d∧Vp (Lt (tzl c) a b d)∧bl (d^(6-c.length)).natAbs≤132∧(∀i,bl (cf (Lt (tzl c) a b d) i*d^(6-c.length)).natAbs≤65536)∧Vp (Oq c a b d)∧Sz 1000 (Oq c a b d)∧(Oq c a b d).length≤6:=by
 have l0:(tzl c).length≤6:=Nat.le_trans (Ko c) hl.2
 have s0:Sz 64 (tzl c):=(ab_in hc).sz O3
 have b1:=Zjo ha
 have b2:=Zjo hb
 have b3:bl d.natAbs≤22:=Zjo O
 have hnf:=cp_not (cp_nf s0 b1 b2 b3 O O)
 have hs:Sz 300 (Lt (tzl c) a b d):=by
  have hc:=Zgp (x:=a) (y:=b) (z:=d) (m:=22) s0 b1 b2 b3 ((tzl c).length-1)
  unfold Lt
  split
  ·exact Sz.nil _
  ·refine(Sz.tzl hc).mono ?_
   have:((tzl c).length-1)*(22+1)≤5*23:=Nat.mul_le_mul O O
   omega
 have ht:Tr (Lt (tzl c) a b d):=by
  unfold Lt
  split
  ·exact .inl rfl
  ·exact Xp _
 have hl2:(Lt (tzl c) a b d).length≤6:=Nat.le_trans (Zc2 _ _ _ _) l0
 have hp:=Zld b3 (6-c.length) O
 have hq:∀i,bl (cf (Lt (tzl c) a b d) i*d^(6-c.length)).natAbs≤500:=fun i=>by
  have h1:=hs i
  have h2:=Xa (cf (Lt (tzl c) a b d) i) (d^(6-c.length))
  omega
 have hs3:Sz 1000 (Oq c a b d):=fun i=>by unfold Oq;rw [Yr];have:=hq i;omega
 have hl3:(Oq c a b d).length≤6:=Nat.le_trans (Pt _ _) hl2
 exact⟨⟨s0.mono O,Xp _,O⟩,hnf,⟨hs.mono O,ht,O⟩,hp,fun i=>by have:=hq i;omega,⟨hs3.mono O,Xq _ _,O⟩,hs3,hl3⟩
def Zpn(zs:List (SL×List Int)):List (SL×List Int):=zs ++ List.replicate (3-zs.length) ((none,0,0),[])
theorem Yce{zs:List (SL×List Int)}(h:zs.length≤3):(Zpn zs).length=3:=by unfold Zpn;rw [List.length_append,List.length_replicate];omega
theorem Ybl{zs:List (SL×List Int)}{i:Nat}{z:SL×List Int}(hi:i<3)(h:zs.length=i):(Zpn zs).set i z=Zpn (zs ++ [z]):=by
 subst h
 unfold Zpn
 rw [List.set_append_right _ _ (Nat.le_refl _),Nat.sub_self,List.length_append,List.append_assoc]
 congr 1
 obtain⟨k,hk⟩:∃k,3-zs.length=k+1:=⟨2-zs.length,O⟩
 rw [hk,List.replicate_succ,List.set_cons_zero,show 3-(zs.length+[z].length)=k by simp;omega]
 rfl
theorem Zq3{zs:List (SL×List Int)}{i t:Nat}{s:SL}{f:Nat→List Int}{d0:SL×List Int}(hl:zs.length=i)(h:∀t,t<i→(zs.getD t d0).2=f t)(ht:t<i+1):((zs ++ [(s,f i)]).getD t d0).2=f t:=by
 subst hl
 rw [List.getD_eq_getElem?_getD]
 rcases Nat.lt_succ_iff_lt_or_eq.1 ht with h9 | h9
 ·rw [List.getElem?_append_left h9,←List.getD_eq_getElem?_getD];exact h t h9
 ·subst h9;simp
theorem Zzf{zs:List (SL×List Int)}{x y z:List Int}{a b d:Int}{d0:SL×List Int}(hl:zs.length=3)(h:∀t,t<3→(zs.getD t d0).2=Oq (Zp t x y z) a b d):∃s1 s2 s3:SL,zs=[(s1,Oq x a b d),(s2,Oq y a b d),(s3,Oq z a b d)]:=by
 match zs,hl with
 | [z0,z1,z2],_=>
  have h0:=h 0 O3
  have h1:=h 1 O3
  have h2:=h 2 O3
  simp [Zp]at h0 h1 h2
  exact⟨z0.1,z1.1,z2.1,by rw [←h0,←h1,←h2]⟩
def Ydq:List Int→List Int
 | []=>[]
 | a :: p=>a :: 0 :: Ydq p
theorem Zlx(x:Rat):∀p:List Int,Zb (Ydq p) x=Zb p (x*x)
 | []=>rfl
 | a :: p=>by
  show(a:Rat)+x*(((0:Int):Rat)+x*Zb (Ydq p) x)=(a:Rat)+x*x*Zb p (x*x)
  rw [Zlx x p];push_cast;grind
theorem Zth:∀(p:List Int) (i:Nat),cf (Ydq p) (2*i)=cf p i
 | [],i=>rfl
 | a :: p,0=>rfl
 | a :: p,i+1=>by
  show cf (0 :: Ydq p) (2*i+1)=cf p i
  exact Zth p i
theorem sq_nn(x:Rat):0≤x*x:=by
 rcases(show 0≤x∨x≤0 by grind)with h | h
 ·exact Rat.mul_nonneg h h
 ·have:=Rat.mul_nonneg (show 0≤-x by grind) (show 0≤-x by grind)
  grind
theorem Zo6{p q:List Int}(h:∀x:Rat,0≤x→Zb p x=Zb q x)(i:Nat):cf p i=cf q i:=by
 rw [←Zth p,←Zth q]
 exact Od (fun x=>by rw [Zlx,Zlx];exact h _ (sq_nn x)) _
theorem Zgw(f:Nat→Int)(x:Rat):∀n,Zb (mk n f) x=Ky (fun j=>(f j:Rat)*x^j) n
 | 0=>rfl
 | n+1=>by rw [Cm,Zo5,Zgw f x n,Yq,Ow]
def NN(p:List Int):Prop:=∀i,0≤cf p i
theorem NN.smul{c:Int}{p:List Int}(hc:0≤c)(h:NN p):NN (p.map fun a=>c*a):=fun i=>by rw [Fv];exact Int.mul_nonneg hc (h i)
theorem NN.add{p q:List Int}(h1:NN p)(h2:NN q):NN (Nj p q):=fun i=>by rw [Md];exact Int.add_nonneg (h1 i) (h2 i)
theorem NN.lmul{q:List Int}(hq:NN q):∀{p:List Int},NN p→NN (lmul p q)
 | [],_=>fun i=>by show 0≤cf [] i;rw [show cf [] i=0 from rfl];exact Int.le_refl _
 | c :: p,h=>NN.add (NN.smul (h 0) hq) fun i=>by
  match i with
  | 0=>exact Int.le_refl _
  | i+1=>exact NN.lmul hq (p:=p) (fun j=>h (j+1)) i
def lpw(l:List Int):Nat→List Int
 | 0=>[1]
 | k+1=>lmul l (lpw l k)
theorem Zlu(l:List Int)(x:Rat):∀k,Zb (lpw l k) x=Zb l x^k
 | 0=>by rw [Rat.pow_zero];show((1:Int):Rat)+x*0=1;push_cast;grind
 | k+1=>by rw [show lpw l (k+1)=lmul l (lpw l k)from rfl,Zq,Zlu l x k,Rat.pow_succ,Rat.mul_comm]
theorem NN.lpw{l:List Int}(h:NN l):∀k,NN (lpw l k)
 | 0=>fun i=>by
  show 0≤cf [1] i
  match i with
  | 0=>exact Int.one_nonneg
  | i+1=>exact Int.le_refl _
 | k+1=>NN.lmul (NN.lpw h k) h
theorem NN.two{a b:Int}(ha:0≤a)(hb:0≤b):NN [a,b]:=fun i=>by
 match i with
 | 0=>exact ha
 | 1=>exact hb
 | i+2=>exact Int.le_refl _
def sQ(f:Nat→Int)(W:Nat→List Int):Nat→List Int
 | 0=>[]
 | k+1=>Nj (sQ f W k) ((W k).map fun a=>f k*a)
theorem Zr4(f:Nat→Int)(W:Nat→List Int)(x:Rat):∀k,Zb (sQ f W k) x=Ky (fun i=>(f i:Rat)*Zb (W i) x) k
 | 0=>rfl
 | k+1=>by rw [show sQ f W (k+1)=Nj (sQ f W k) ((W k).map fun a=>f k*a)from rfl,Xd,Zr4 f W x k,Ze,Ow]
theorem sQ_le{f g:Nat→Int}{W:Nat→List Int}{B:Int}(hW:∀i,NN (W i)):∀k,(∀i,i<k→((f i).natAbs:Int)≤B*g i)→∀j,((cf (sQ f W k) j).natAbs:Int)≤B*cf (sQ g W k) j
 | 0,_,j=>by show((cf [] j).natAbs:Int)≤B*cf [] j;rw [show cf [] j=0 from rfl];simp
 | k+1,h,j=>by
  have ih:=sQ_le hW k (fun i hi=>h i O) j
  have h1:=h k O
  show((cf (Nj (sQ f W k) ((W k).map fun a=>f k*a)) j).natAbs:Int)≤B*cf (Nj (sQ g W k) ((W k).map fun a=>g k*a)) j
  rw [Md,Md,Fv,Fv,Int.mul_add,←Int.mul_assoc]
  have h2:=hW k j
  have h3:((f k*cf (W k) j).natAbs:Int)≤B*g k*cf (W k) j:=by
   rw [Int.natAbs_mul];push_cast
   have e:((cf (W k) j).natAbs:Int)=cf (W k) j:=O
   rw [e]
   exact Int.mul_le_mul_of_nonneg_right h1 h2
  generalize B*g k*cf (W k) j=t at *
  generalize f k*cf (W k) j=s at *
  generalize B*cf (sQ g W k) j=r at *
  omega
theorem Zif(a b:Rat):∀n:Nat,(a*b)^n=a^n*b^n
 | 0=>by rw [Rat.pow_zero,Rat.pow_zero,Rat.pow_zero];grind
 | n+1=>by rw [Rat.pow_succ,Rat.pow_succ,Rat.pow_succ,Zif a b n];grind
theorem Zw1(a:Rat)(m:Nat):∀n:Nat,a^(m+n)=a^m*a^n
 | 0=>by rw [Nat.add_zero,Rat.pow_zero];grind
 | n+1=>by rw [←Nat.add_assoc,Rat.pow_succ,Rat.pow_succ,Zw1 a m n];grind
theorem Yeq{U V S:Rat}(h:U+V=S)(hS:S≠0){d:Nat}{c:List Int}(hl:c.length≤d+1):Ky (fun j=>(Kl d c j:Rat)*(U^j*V^(d-j))) (d+1)=S^d*Zb c (U/S):=by
 rw [←bern (u:=U/S) (w:=V/S) (by rw [←h];grind) d c hl,←Gi]
 refine Nv _ fun j hj=>?_
 have e1:U^j=S^j*(U/S)^j:=by rw [←Zif];congr 1;grind
 have e2:V^(d-j)=S^(d-j)*(V/S)^(d-j):=by rw [←Zif];congr 1;grind
 have e3:S^d=S^j*S^(d-j):=by rw [←Zw1];congr 1;omega
 rw [e1,e2,e3];grind
theorem Zws{U V S:Rat}(h:U+V=S)(hS:S≠0)(d:Nat):Ky (fun j=>(Pk d j:Rat)*(U^j*V^(d-j))) (d+1)=S^d:=by
 have:=Yep (u:=U/S) (w:=V/S) (by rw [←h];grind) d
 rw [←Rat.mul_one (S^d),←this,←Gi]
 refine Nv _ fun j hj=>?_
 have e1:U^j=S^j*(U/S)^j:=by rw [←Zif];congr 1;grind
 have e2:V^(d-j)=S^(d-j)*(V/S)^(d-j):=by rw [←Zif];congr 1;grind
 have e3:S^d=S^j*S^(d-j):=by rw [←Zw1];congr 1;omega
 rw [e1,e2,e3];grind
theorem Zun(a b:Int)(x:Rat):Zb [a,b] x=(a:Rat)+(b:Rat)*x:=by
 show(a:Rat)+x*((b:Rat)+x*0)=_;grind
theorem onepw(n:Nat):(1:Rat)^n=1:=by
 induction n with
 | zero=>rw [Rat.pow_zero]
 | succ n ih=>rw [Rat.pow_succ,ih];grind
theorem Zbc(d:Int)(n:Nat):((d^n:Int):Rat)=(d:Rat)^n:=by
 induction n with
 | zero=>rw [Int.pow_zero,Rat.pow_zero];rfl
 | succ n ih=>rw [Int.pow_succ,Rat.pow_succ,←ih];push_cast;rfl
def Wij(a e d:Int)(n i:Nat):List Int:=lmul (lpw [a,e] i) (lpw [d-a,d-e] (n-i))
theorem Wij_nn{a e d:Int}(ha:0≤a)(he:0≤e)(h1:a≤d)(h2:e≤d)(n i:Nat):NN (Wij a e d n i):=NN.lmul (NN.lpw (NN.two O O) _) (NN.lpw (NN.two ha he) _)
theorem Zuo(a e d:Int)(n i:Nat)(x:Rat):Zb (Wij a e d n i) x=((a:Rat)+(e:Rat)*x)^i*(((d-a:Int):Rat)+((d-e:Int):Rat)*x)^(n-i):=by
 unfold Wij;rw [Zq,Zlu,Zlu,Zun,Zun]
theorem Yiy {c X:List Int} {n m:Nat} (hl:c.length≤n+1) (hX:X.length≤n+1) {a b d B:Int} (ha:0≤a) (hb:0≤b) (hab:a+b≤d) (hd:0<d) (hr:∀t u:Rat,t*(d:Rat)=(a:Rat)+(b:Rat)*u→Zb X u=(d:Rat)^m*Zb c t)
  (hB:∀j,j<n+1→((Kl n c j).natAbs:Int)≤B*(Pk n j:Int)):∀j,j<n+1→((Kl n X j).natAbs:Int)≤B*d^m*(Pk n j:Int):=by
 have hdq:(0:Rat)<(d:Rat):=by exact_mod_cast hd
 have hS1:∀x:Rat,0≤x→(x+1)≠0:=fun x hx h=>O4
 have hUV:∀x:Rat,((a:Rat)+((a+b:Int):Rat)*x)+(((d-a:Int):Rat)+((d-(a+b):Int):Rat)*x)=(d:Rat)*(x+1):=fun x=>by push_cast;grind
 have hS2:∀x:Rat,0≤x→(d:Rat)*(x+1)≠0:=fun x hx h=>by
  have:=Rat.mul_pos hdq (show(0:Rat)<x+1 by grind)
  grind
 have hp1:∀x:Rat,0≤x→Zb (sQ (fun i=>(Pk n i:Int)) (Wij a (a+b) d n) (n+1)) x=Zb (mk (n+1) fun j=>d^n*(Pk n j:Int)) x:=fun x hx=>by
  rw [Zr4,Zgw]
  have e1:=Zws (hUV x) (hS2 x hx) n
  have e2:=Zws (U:=x) (V:=1) (S:=x+1) rfl (hS1 x hx) n
  have e3:Ky (fun i=>(((Pk n i:Nat):Int):Rat)*Zb (Wij a (a+b) d n i) x) (n+1)=((d:Rat)*(x+1))^n:=by
   rw [←e1]
   exact Nv _ fun j hj=>by rw [Zuo];push_cast;rfl
  rw [e3,Zif,←e2,←Gi]
  refine Nv _ fun j hj=>?_
  rw [onepw];push_cast;rw [←Zbc];push_cast;grind
 have hp2:∀x:Rat,0≤x→Zb (mk (n+1) fun j=>d^n*Kl n X j) x=Zb ((sQ (Kl n c) (Wij a (a+b) d n) (n+1)).map fun q=>d^m*q) x:=fun x hx=>by
  rw [Ze,Zr4,Zgw]
  have e1:=Yeq (hUV x) (hS2 x hx) hl
  have e2:=Yeq (U:=x) (V:=1) (S:=x+1) rfl (hS1 x hx) hX
  have e3:Ky (fun i=>((Kl n c i:Int):Rat)*Zb (Wij a (a+b) d n i) x) (n+1)=((d:Rat)*(x+1))^n*Zb c (((a:Rat)+((a+b:Int):Rat)*x)/((d:Rat)*(x+1))):=by
   rw [←e1]
   exact Nv _ fun j hj=>by rw [Zuo]
  have e4:Ky (fun j=>((d^n*Kl n X j:Int):Rat)*x^j) (n+1)=(d:Rat)^n*Ky (fun j=>(Kl n X j:Rat)*(x^j*1^(n-j))) (n+1):=by
   rw [←Gi]
   refine Nv _ fun j hj=>?_
   rw [onepw,←Zbc];push_cast;grind
  rw [e3,e4,e2,hr (((a:Rat)+((a+b:Int):Rat)*x)/((d:Rat)*(x+1))) (x/(x+1)) ?_,Zif,Zbc]
  ·grind
  ·have h1:=hS1 x hx
   have h2:(d:Rat)≠0:=O4
   push_cast
   grind
 have hc1:=Zo6 hp1
 have hc2:=Zo6 hp2
 intro j hj
 have h1:=hc1 j
 have h2:=hc2 j
 rw [Mh,if_pos hj]at h1 h2
 rw [Fv]at h2
 have h3:=sQ_le (f:=Kl n c) (g:=fun i=>(Pk n i:Int)) (W:=Wij a (a+b) d n) (B:=B) (Wij_nn ha O O hab n) (n+1) hB j
 rw [h1]at h3
 have hdn:0<d^n:=Int.pow_pos hd
 have hdm:0≤d^m:=Int.le_of_lt (Int.pow_pos hd)
 have h4:((d^n*Kl n X j).natAbs:Int)=d^n*((Kl n X j).natAbs:Int):=by rw [Int.natAbs_mul];push_cast;rw [show((d^n).natAbs:Int)=d^n by omega]
 have h5:((d^m*cf (sQ (Kl n c) (Wij a (a+b) d n) (n+1)) j).natAbs:Int)=d^m*((cf (sQ (Kl n c) (Wij a (a+b) d n) (n+1)) j).natAbs:Int):=by rw [Int.natAbs_mul];push_cast;rw [show((d^m).natAbs:Int)=d^m by omega]
 have h6:=Int.mul_le_mul_of_nonneg_left h3 hdm
 rw [←h5,←h2,h4]at h6
 refine Int.le_of_mul_le_mul_left (a:=d^n) ?_ hdn
 refine Int.le_trans h6 (Int.le_of_eq ?_)
 generalize d^n=p
 generalize d^m=q
 generalize (Pk n j:Int)=r
 grind
theorem Zyd{x:Int}{s:Bool}(hx:x.natAbs≤9223372036854775807)(h:sg s x):(x=0∧dg U x.natAbs=[])∨(s=true∧x<0∧dg U x.natAbs=[x.natAbs])∨(s=false∧0<x∧dg U x.natAbs=[x.natAbs]):=by
 have hd:x.natAbs≠0→dg U x.natAbs=[x.natAbs]:=fun h0=>by
  have hU:x.natAbs<U:=Nat.lt_of_le_of_lt hx O3
  rw [Ay O3 O,Nat.mod_eq_of_lt hU,Nat.div_eq_of_lt hU];rfl
 rcases Int.lt_trichotomy x 0 with q | q | q
 ·right;left
  refine⟨?_,q,hd O⟩
  cases s
  ·have:=h.2 rfl;omega
  ·rfl
 ·subst q;exact .inl ⟨rfl,rfl⟩
 ·right;right
  refine⟨?_,q,hd O⟩
  cases s
  ·rfl
  ·have:=h.1 rfl;omega
theorem int_wn{x:Int}(hx:x.natAbs≤9223372036854775807)(h:x<0):IntKind.i64.wrap (18446744073709551616-(x.natAbs:Int))=x:=by
 simp only [IntKind.wrap,IntKind.bits,IntKind.signed]
 simp
 omega
theorem int_wp{x:Int}(hx:x.natAbs≤9223372036854775807)(h:0<x):IntKind.i64.wrap ((([x.natAbs]:List Nat).getD 0 0:Nat):Int)=x:=by
 show IntKind.i64.wrap (x.natAbs:Int)=x
 rw [Ae ⟨O,O⟩];omega
theorem int_d0{x:Int}(hx:x.natAbs≤9223372036854775807):¬((([x.natAbs]:List Nat).getD 0 0:Nat):Int)≥9223372036854775808:=by
 show ¬(x.natAbs:Int)≥_
 omega
theorem Ych{x:Int}(hx:x.natAbs≤9223372036854775807):¬((([x.natAbs]:List Nat).getD 0 0:Nat):Int)>9223372036854775808:=by
 show ¬(x.natAbs:Int)>_
 omega
theorem int_m{x:Int}(h:x<0)(hx:x.natAbs≤9223372036854775807):(-((([x.natAbs]:List Nat).getD 0 0:Nat):Int))%18446744073709551616=18446744073709551616-(x.natAbs:Int):=by
 show(-(x.natAbs:Int))%_=_
 omega
end Go.Sky

