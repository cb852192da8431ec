/- Rules, arithmetic and contracts: part 14. No conditions but those that each theorem names. -/
import Derived.Test.YtljmhpopdmadkaaGreatLw12
import Derived.RangeFuncFrom
import Derived.RangeFuncLeaves
import Derived.OrdersIn
import Derived.TacticsIn
import Derived.RangeFuncCalls
set_option linter.all false
set_option maxHeartbeats 4000000
namespace Go.Sky
open Go.Proofs
set_option synthInstance.maxHeartbeats 0
set_option synthInstance.maxSize 100000
set_option maxRecDepth 20000
set_option maxHeartbeats 4000000
set_option linter.unusedSimpArgs false
theorem Ybl(fr to ov fr2 to2 ov2:Int)(vx vy vz vx2 vy2 vz2:Value)(x y z x2 y2 z2:List Int)(hS:Sgo fr to ov x y z)(hS2:Sgo fr2 to2 ov2 x2 y2 z2):Cal Tryz.prog 95 #[.agg #[.int .i64 fr,.int .i64 to,.int .i64 ov,vx,vy,vz],.agg #[.int .i64 fr2,.int .i64 to2,.int .i64 ov2,vx2,vy2,vz2]] [Ym 1 Yl vx x,Ym 1 Yl vy y,Ym 1 Yl vz z,Ym 1 Yl vx2 x2,Ym 1 Yl vy2 y2,Ym 1 Yl vz2 z2] false (G:=Unit) (fun _=>True) (fun _=> .bool (Zg9 to ov x y z fr2 ov2 x2 y2 z2)) (fun _=>[]):=by
 refine Zd Tryz.func95 Tryz.ntmps95 fun w0 sc hw hsc=>?_
 refine go 2 ?_
 refine Yd (Yg 7) fun bx _=>?_
 refine Yd (Yg 8) fun bx_2 _=>?_
 refine go 4 ?_
 rcases(show to=fr2∨to≠fr2 by omega)with hc1 | hc1
 ·refine Xw (fun _=>False) [(0,0),(1,0),(2,0),(3,0),(4,0),(5,0),(6,0),(8,0),(7,1),(9,1),(10,0),(11,0),(12,3)] ?_
  refine go 4 ?_
  refine Qe rfl rfl (Qa (Zj (r':= .bool true) (Yfk rfl rfl rfl) (congrArg Value.bool (decide_eq_true hc1)))) ?_
  refine go 3 ?_
  refine Zhl rfl rfl rfl rfl rfl (Pk (n:=8) (Zp9 _ _ _ _ _ _ _ _ _ 1 1 hS ⟨O3,O3⟩ ⟨O3,O3⟩) rfl rfl rfl ⟨rfl,rfl,rfl,trivial⟩ Tryz.call138 (Zk 1 rfl rfl rfl (Zk 2 rfl rfl rfl (Zk 3 rfl rfl rfl Zw))) rfl hw.h) (fun _ _=>?_)
  refine Zhl rfl rfl rfl rfl rfl (Pk (n:=8) (Zp9 _ _ _ _ _ _ _ _ _ 0 1 hS2 ⟨O3,O3⟩ ⟨O3,O3⟩) rfl rfl rfl ⟨rfl,rfl,rfl,trivial⟩ Tryz.call138 (Zk 4 rfl rfl rfl (Zk 5 rfl rfl rfl (Zk 6 rfl rfl rfl Zw))) rfl hw.h) (fun _ _=>?_)
  refine Bu (Qa (Zhf rfl rfl rfl eg151 (fun w=>eqlP w _ _ _ _ _ _ _ _))) rfl rfl rfl rfl rfl ?_
  refine go 5 ?_
  exact Xj hsc () Tryz.results95 (by unfold Zg9;rw [decide_eq_true hc1];rfl) trivial Za
 ·refine Xw (fun _=>False) [(0,0),(1,0),(2,0),(3,0),(4,0),(5,0),(6,2),(8,2),(7,2),(9,2),(10,2),(11,0),(12,3)] ?_
  refine go 4 ?_
  refine Qe rfl rfl (Qa (Zj (r':= .bool false) (Yfk rfl rfl rfl) (congrArg Value.bool (decide_eq_false hc1)))) ?_
  refine go 11 ?_
  exact Xj hsc () Tryz.results95 (by unfold Zg9;rw [decide_eq_false hc1];rfl) trivial Za
theorem Aw(v:Value)(ps:List Zz)(hp:∀g∈ps,Gin g):Cal Tryz.prog 52 #[v] [Pq 6 Mj qG v ps] false (G:=Unit) (fun _=>True) (fun _=> .bool (Me ps)) (fun _=>[]):=by
 refine Zd Tryz.func52 Tryz.ntmps52 fun w0 sc hw hsc=>?_
 refine Nd (Hq (i:=1) rfl Zi) (fun hlen=>?_)
 refine go 14 ?_
 refine lp (G:=Nat) [0,5,6] [0,1] (fun i=>[(7,.int .i64 (i:Int))]) (fun i=>[]) (fun i=>(i≤ps.length)∧(∀k,k<i→Zc1 ps k=true)) (fun i=>ps.length-i) 0 ⟨O1,fun k hk=>absurd hk (Nat.not_lt_zero k)⟩ ⟨rfl,trivial⟩ trivial ?_
 rintro i ⟨hi,hk⟩
 refine go 6 ?_
 refine Zc rfl (fun h117=>?_) (fun h117=>?_)
 ·refine go 5 ?_
  have hg:=hp _ (Zf (d:=G0) (show i<ps.length by omega))
  refine Ze (Xv (g:=(ps.getD i G0)) (z:=(ps.getD i G0).2.1) 1 51 rfl rfl (Zf) O5) ?_
  refine Ze (Xv (g:=(ps.getD i G0)) (z:=(ps.getD i G0).2.2.1) 1 52 rfl rfl (Zf) O5) ?_
  refine Ze (Xv (g:=(ps.getD i G0)) (z:=(ps.getD i G0).2.2.2) 1 53 rfl rfl (Zf) O5) ?_
  refine go 3 ⟨O2,?_⟩
  refine dt (Pj (ii:=1) G0 rfl rfl rfl Zi pG O2) ?_
  refine Yd (Zs 2) fun bx _=>?_
  refine go 5 ?_
  rcases Zly (ps.getD i G0) i with hc1 | ⟨hc1,hc2⟩ | ⟨hc1,hc2⟩
  ·refine Xw (fun _=>False) [(0,0),(1,1),(2,0),(3,0),(4,2),(5,2),(6,2),(7,2),(8,2),(9,2),(10,2),(11,2),(12,2),(13,2),(14,2),(15,2),(16,0)] ?_
   refine go 1 ?_
   refine Yx (Zh 2 [51,52,53] (Bp _ _ _ _ _ _ _ _ _ hg.f hg.t hg.o hg.x hg.y hg.z)) fun _ _=>?_
   refine Qe rfl rfl (Qa (Zj (r':= .bool true) (Yp rfl rfl) (congrArg Value.bool (by rw [show El _ _ _ _ _ _=_ from hc1];rfl)))) ?_
   refine go 4 ?_
   refine Dr rfl rfl rfl rfl rfl ?_
   refine Dr rfl rfl rfl rfl rfl ?_
   refine Dr rfl rfl rfl rfl rfl ?_
   refine Dr rfl rfl rfl rfl rfl ?_
   refine Dr rfl rfl rfl rfl rfl ?_
   refine Dr rfl rfl rfl rfl rfl ?_
   refine Dr rfl rfl rfl rfl rfl ?_
   refine Dr rfl rfl rfl rfl rfl ?_
   refine go 16 ?_
   exact Xj hsc () Tryz.results52 (by rw [Zex (i:=i) O (Ydb hc1)]) trivial Za
  ·refine Xw (fun _=>False) [(0,0),(1,1),(2,0),(3,0),(4,0),(5,0),(6,0),(7,2),(8,2),(9,2),(10,2),(11,2),(12,2),(13,2),(14,2),(15,0),(16,0)] ?_
   refine go 1 ?_
   refine Yx (Zh 2 [51,52,53] (Bp _ _ _ _ _ _ _ _ _ hg.f hg.t hg.o hg.x hg.y hg.z)) fun _ _=>?_
   refine Qe rfl rfl (Qa (Zj (r':= .bool false) (Yp rfl rfl) (congrArg Value.bool (by rw [show El _ _ _ _ _ _=_ from hc1];rfl)))) ?_
   refine go 2 ?_
   refine Bu (Qa (Zj (r':= .bool false) (Zfn rfl rfl rfl) (congrArg Value.bool (decide_eq_false O)))) rfl rfl rfl rfl rfl ?_
   refine go 21 ⟨O,?_⟩
   exact Xb (i+1) ⟨O1,fun k h9=>by rcases Nat.lt_succ_iff_lt_or_eq.1 h9 with h8 | h8;exact hk k h8;subst h8;exact Ztm hc1 hc2⟩ O1 ⟨rfl,trivial⟩ trivial
  ·refine Ze (Xv (g:=(ps.getD (i-1) G0)) (z:=(ps.getD (i-1) G0).2.1) 1 54 rfl rfl (Zf) O5) ?_
   refine Ze (Xv (g:=(ps.getD (i-1) G0)) (z:=(ps.getD (i-1) G0).2.2.1) 1 55 rfl rfl (Zf) O5) ?_
   refine Ze (Xv (g:=(ps.getD (i-1) G0)) (z:=(ps.getD (i-1) G0).2.2.2) 1 56 rfl rfl (Zf) O5) ?_
   refine Xw (fun _=>False) [(0,0),(1,1),(2,0),(3,0),(4,0),(5,0),(6,0),(7,0),(8,0),(9,0),(10,0),(11,0),(12,0),(13,1),(14,0),(15,0),(16,0)] ?_
   refine go 1 ?_
   refine Yx (Zh 2 [51,52,53] (Bp _ _ _ _ _ _ _ _ _ hg.f hg.t hg.o hg.x hg.y hg.z)) fun _ _=>?_
   refine Qe rfl rfl (Qa (Zj (r':= .bool false) (Yp rfl rfl) (congrArg Value.bool (by rw [show El _ _ _ _ _ _=_ from hc1];rfl)))) ?_
   refine go 2 ?_
   refine Bu (Qa (Zj (r':= .bool true) (Zfn rfl rfl rfl) (congrArg Value.bool (decide_eq_true O)))) rfl rfl rfl rfl rfl ?_
   refine go 4 ⟨O,?_⟩
   refine Bu (Qa (Yf (ii:=1) (i:=(i-1)) rfl rfl rfl rfl Zi Tryz.underlying29 Tryz.sizeOf24)) rfl rfl rfl rfl rfl ?_
   refine Bu (Qa (Pj (ii:=1) G0 rfl rfl rfl Zi pG)) rfl rfl rfl rfl rfl ?_
   refine go 1 ?_
   refine Zhl rfl rfl rfl rfl rfl (Pk (n:=2) (Ybl _ _ _ _ _ _ _ _ _ _ _ _ _ _ _ _ _ _ (Gr (hp _ (Zf)) (Zag (hk (i-1) O))) (Gr hg hc1)) rfl rfl rfl ⟨rfl,rfl,trivial⟩ Tryz.call95 (Zk 54 rfl rfl rfl (Zk 55 rfl rfl rfl (Zk 56 rfl rfl rfl (Zk 51 rfl rfl rfl (Zk 52 rfl rfl rfl (Zk 53 rfl rfl rfl Zw)))))) rfl hw.h) (fun _ _=>?_)
   refine go 5 ?_
   refine Nw rfl (fun h118=>?_) (fun h118=>?_)
   ·refine go 11 ?_
    exact Xj hsc () Tryz.results52 (by rw [Zex (i:=i) O ((Zdm hc1 hc2).trans (Zpe ‹_›))]) trivial Za
   ·refine go 7 ⟨O,?_⟩
    exact Xb (i+1) ⟨O1,fun k h9=>by rcases Nat.lt_succ_iff_lt_or_eq.1 h9 with h8 | h8;exact hk k h8;subst h8;exact(Zdm hc1 hc2).trans (Zpf ‹_›)⟩ O1 ⟨rfl,trivial⟩ trivial
 ·obtain rfl:i=ps.length:=O
  refine go 11 ?_
  refine Yu (d:=33) rfl (fun s122=>?_) (fun s122=>?_)
  ·refine go 8 ?_
   exact Xj hsc () Tryz.results52 (by rw [Zey hk];first | exact congrArg Value.bool (decide_eq_decide.2 O) | exact congrArg Value.bool (decide_eq_false O)) trivial Za
  ·refine go 8 ?_
   exact Xj hsc () Tryz.results52 (by rw [Zey hk];first | exact congrArg Value.bool (decide_eq_decide.2 O) | exact congrArg Value.bool (decide_eq_false O)) trivial Za
abbrev Lr (o:Nat) (m:Int) (g:Zz):List Int:=Ey o m g.1.2.2 (g.1.2.1-g.1.1) g.2.1.2 g.2.2.1.2 g.2.2.2.2
def Fn(o:Nat)(ps:List Zz)(m:Int):Bool:=ps.all fun g=>!Hm (Lr o m g)
theorem Zog{o:Nat}{ps:List Zz}{m:Int}{i:Nat}(hi:i<ps.length)(h:Hm (Lr o m (ps.getD i G0))=true):Fn o ps m=false:=by
 cases hb:Fn o ps m with
 | false=>rfl
 | true=>
  have:=List.all_eq_true.1 hb _ (Zf (d:=G0) hi)
  rw [h]at this;cases this
theorem Zof{o:Nat}{ps:List Zz}{m:Int}(h:∀i,i<ps.length→Hm (Lr o m (ps.getD i G0))=false):Fn o ps m=true:=by
 unfold Fn
 rw [List.all_eq_true]
 intro g hg
 obtain⟨i,hi,rfl⟩:=List.mem_iff_getElem.1 hg
 have:=h i hi
 rw [List.getD_eq_getElem?_getD,List.getElem?_eq_getElem hi]at this
 simp only [Option.getD_some]at this
 rw [this];rfl
def Za0(p:Nat→Bool):Nat→Nat→Nat→Nat
 | 0,i,_=>i
 | f+1,i,j=>if i<j then(if p ((i+j)/2)then Za0 p f i ((i+j)/2)else Za0 p f ((i+j)/2+1) j)else i
theorem Zlu{p:Nat→Bool}{f:Nat}{i j:Nat}(h:¬i<j):Za0 p f i j=i:=by
 cases f with
 | zero=>rfl
 | succ f=>unfold Za0;rw [if_neg h]
theorem Ybd{p:Nat→Bool}{f:Nat}{i j:Nat}(h:i<j)(hp:p ((i+j)/2)=true):Za0 p (f+1) i j=Za0 p f i ((i+j)/2):=by
 conv=>lhs;unfold Za0
 rw [if_pos h,if_pos hp]
theorem Ybe{p:Nat→Bool}{f:Nat}{i j:Nat}(h:i<j)(hp:p ((i+j)/2)=false):Za0 p (f+1) i j=Za0 p f ((i+j)/2+1) j:=by
 conv=>lhs;unfold Za0
 rw [if_pos h,if_neg (by rw [hp];exact Bool.false_ne_true)]
theorem sr_pos{i j f:Nat}(h:i<j)(hf:j-i<2^f):∃g,f=g+1∧2^(g+1)=2*2^g:=by
 cases f with
 | zero=>rw [Nat.pow_zero]at hf;omega
 | succ g=>exact⟨g,rfl,by rw [Nat.pow_succ,Nat.mul_comm]⟩
def Cq(o:Nat)(ps:List Zz):Nat:=Za0 (fun n=>Fn o ps (n:Int)) 14 0 10001
theorem Yeb(v:Value)(ps:List Zz)(o:Nat)(mm kd m:Int)(ho:o=1∨o=2)(hg:∀g∈ps,SgG g)(h0:0≤m)(h1:m≤10000):Cal Tryz.prog 58 #[.agg #[v,.int .i64 (o:Int),.int .i64 mm,.int .i64 kd],.int .i64 m] [Pq 6 Mj qG v ps] false (G:=Unit) (fun _=>True) (fun _=> .bool (Fn o ps m)) (fun _=>[]):=by
 refine Zd Tryz.func58 Tryz.ntmps58 fun w0 sc hw hsc=>?_
 refine Nd (Hq (i:=1) rfl Zi) (fun hlen=>?_)
 refine go 2 ?_
 refine Yd (Yg 2) fun bx _=>?_
 refine go 13 ?_
 refine lp (G:=Nat) [1,2,8,9] [0,1,2] (fun i=>[(10,.int .i64 (i:Int))]) (fun i=>[]) (fun i=>(i≤ps.length)∧(∀k,k<i→Hm (Lr o m (ps.getD k G0))=false)) (fun i=>ps.length-i) 0 ⟨O1,fun k hk=>absurd hk (Nat.not_lt_zero k)⟩ ⟨rfl,trivial⟩ trivial ?_
 rintro i ⟨hi,hk⟩
 refine go 6 ?_
 refine Zc rfl (fun h179=>?_) (fun h179=>?_)
 ·refine go 5 ?_
  have hgi:=hg _ (Zf (d:=G0) (show i<ps.length by omega))
  refine Ze (Xv (g:=(ps.getD i G0)) (z:=(ps.getD i G0).2.1) 1 51 rfl rfl (Zf) O5) ?_
  refine Ze (Xv (g:=(ps.getD i G0)) (z:=(ps.getD i G0).2.2.1) 1 52 rfl rfl (Zf) O5) ?_
  refine Ze (Xv (g:=(ps.getD i G0)) (z:=(ps.getD i G0).2.2.2) 1 53 rfl rfl (Zf) O5) ?_
  refine go 2 ⟨O2,?_⟩
  refine dt (Pj (ii:=1) G0 rfl rfl rfl Zi pG O2) ?_
  refine Yd (Zs 3) fun bx_2 _=>?_
  refine go 9 ?_
  refine cl 4 [51,52,53] (Zco o _ _ _ _ _ _ _ _ _ _ _ _ ho hgi h0 h1) fun v _=>?_
  refine cl 4 [4] (Zjy _ _ (Cl hgi h0 h1 ho).2.2) fun _ _=>?_
  refine go 2 ?_
  refine Nw rfl (fun h180=>?_) (fun h180=>?_)
  ·refine go 11 ?_
   exact Xj hsc () Tryz.results58 (by rw [Zog (i:=i) O (by simp_all)]) trivial Za
  ·refine go 7 ⟨O,?_⟩
   exact Xb (i+1) ⟨O1,fun k h9=>by rcases Nat.lt_succ_iff_lt_or_eq.1 h9 with h8 | h8;exact hk k h8;subst h8;simp_all⟩ O1 ⟨rfl,trivial⟩ trivial
 ·obtain rfl:i=ps.length:=O
  refine go 11 ?_
  exact Xj hsc () Tryz.results58 (by rw [Zof hk]) trivial Za
theorem Zgy(v:Value)(ps:List Zz)(o:Nat)(mm kd:Int)(ho:o=1∨o=2)(hg:∀g∈ps,SgG g):Cal Tryz.prog 57 #[.int .i64 10001,.func (.func 58) #[.agg #[v,.int .i64 (o:Int),.int .i64 mm,.int .i64 kd]] #[]] [Pq 6 Mj qG v ps] false (G:=Unit) (fun _=>True) (fun _=> .int .i64 (Cq o ps:Int)) (fun _=>[]):=by
 refine Zd Tryz.func57 Tryz.ntmps57 fun w0 sc hw hsc=>?_
 refine go 14 ?_
 refine lp (G:=Nat×Nat×Nat) [1] [0,1] (fun q=>[(5,.int .i64 (q.1:Int)),(6,.int .i64 (q.2.1:Int))]) (fun q=>[]) (fun q=>(q.1≤q.2.1∧q.2.1≤10001)∧(q.2.1-q.1<2^q.2.2)∧(Za0 (fun n=>Fn o ps (n:Int)) q.2.2 q.1 q.2.1=Cq o ps)) (fun q=>q.2.1-q.1) (0,10001,14) ⟨⟨O3,O3⟩,O3,rfl⟩ ⟨rfl,rfl,trivial⟩ trivial ?_
 rintro⟨i,j,f⟩ ⟨hij,hf,hs⟩
 dsimp only at hij hf hs
 dsimp only
 refine go 8 ?_
 refine Zc rfl (fun h62=>?_) (fun h62=>?_)
 ·have hlt:i<j:=O
  obtain⟨f9,rfl,hpw⟩:=sr_pos hlt hf
  refine go 7 ?_
  refine dt (Zj (r':= .int .i64 ((i+j:Nat):Int)) (Yfm rfl rfl rfl) (by rw [Int.natCast_add])) ?_
  refine dt (Zun rfl rfl Tryz.underlying3 Tryz.underlying155 (by simp only [U];omega)) ?_
  refine dt (Ga (n:=1) (n':=2) rfl rfl rfl rfl rfl) ?_
  refine dt (Zaq rfl rfl Tryz.underlying155 Tryz.underlying3 ⟨O,O⟩) ?_
  refine go 7 ?_
  refine tt (Yg5 (n:=1) (fs:=[_]) (vs:=[_]) (us:=[]) (Yeb v ps o mm kd (((i+j)/2):Nat) ho hg O O) rfl rfl rfl rfl ⟨rfl,trivial⟩ Tryz.call58 (Zk 1 rfl rfl rfl Zw) rfl hw.h) rfl (fun _ _=>?_)
  refine go 3 ?_
  refine Nw rfl (fun h65=>?_) (fun h65=>?_)
  ·refine go 6 ⟨O,?_⟩
   exact Xb (((i+j)/2)+1,j,f9) ⟨⟨O9,O9⟩,O9,by dsimp only;rw [←hs];exact(Ybe hlt (by simp_all)).symm⟩ O9 ⟨rfl,rfl,trivial⟩ trivial
  ·refine go 5 ?_
   exact Xb (i,(i+j)/2,f9) ⟨⟨O9,O9⟩,O9,by dsimp only;rw [←hs];exact(Ybd hlt (by simp_all)).symm⟩ O9 ⟨rfl,rfl,trivial⟩ trivial
 ·have hge:¬i<j:=O
  refine go 12 ?_
  exact Xj hsc () Tryz.results57 (by rw [←hs,Zlu hge]) trivial Za
def joG(g h:Zz):Bool:=Zhb g.1.1 g.1.2.1 g.1.2.2 g.2.1.2 g.2.2.1.2 g.2.2.2.2 h.1.1 h.1.2.1 h.1.2.2 h.2.1.2 h.2.2.1.2 h.2.2.2.2
def Zfd(ps:List Zz):Bool:=(List.range ps.length).all fun i=>decide (i=0) || joG (ps.getD (i-1) G0) (ps.getD i G0)
theorem Zwx{ps:List Zz}(h:∀k,1≤k→k<ps.length→joG (ps.getD (k-1) G0) (ps.getD k G0)=true):Zfd ps=true:=by
 unfold Zfd
 rw [List.all_eq_true]
 intro i hi
 have hi:=List.mem_range.1 hi
 rcases Nat.eq_zero_or_pos i with h0 | h0
 ·rw [decide_eq_true h0];rfl
 ·rw [h i h0 hi,Bool.or_true]
theorem Zwy{ps:List Zz}{k:Nat}(h1:1≤k)(h2:k<ps.length)(h:joG (ps.getD (k-1) G0) (ps.getD k G0)=false):Zfd ps=false:=by
 cases hb:Zfd ps with
 | false=>rfl
 | true=>
  have:=List.all_eq_true.1 hb k (List.mem_range.2 h2)
  rw [h,decide_eq_false O]at this
  cases this
def Fi(ps:List Zz):Int×Int×Int:=
 if 10000<Cq 1 ps∨10000<Cq 2 ps then(0,0,3)else if Zfd ps then((Cq 1 ps:Int),(Cq 2 ps:Int),0)else(0,0,10)
theorem Zsx{ps:List Zz}(h:10000<Cq 1 ps∨10000<Cq 2 ps):Fi ps=(0,0,3):=if_pos h
theorem Zvg{ps:List Zz}(h:¬10000<Cq 1 ps)(h2:¬10000<Cq 2 ps)(h3:Zfd ps=false):Fi ps=(0,0,10):=by
 unfold Fi;rw [if_neg O,h3];rfl
theorem Yax{ps:List Zz}(h:¬10000<Cq 1 ps)(h2:¬10000<Cq 2 ps)(h3:Zfd ps=true):Fi ps=((Cq 1 ps:Int),(Cq 2 ps:Int),0):=by
 unfold Fi;rw [if_neg O,h3];rfl
theorem Dd{ps:List Zz}(hp:∀g∈ps,Gin g)(hb:Me ps=true):∀g∈ps,SgG g:=fun g hg=>by
 obtain⟨i,hi,e⟩:=List.mem_iff_getElem.1 hg
 have h1:=Zag ((Dt hb).1 i hi)
 rw [List.getD_eq_getElem?_getD,List.getElem?_eq_getElem hi,Option.getD_some,e]at h1
 exact Gr (hp g hg) h1
theorem Zdo(v:Value)(ps:List Zz)(hp:∀g∈ps,Gin g)(hb:Me ps=true):Cal Tryz.prog 27 #[v] [Pq 6 Mj qG v ps] false (G:=Unit) (fun _=>True) (fun _=> .tuple #[.agg #[.int .i64 (Fi ps).1,.int .i64 (Fi ps).2.1],.int .i64 (Fi ps).2.2]) (fun _=>[]):=by
 refine Zd Tryz.func27 Tryz.ntmps27 fun w0 sc hw hsc=>?_
 refine Nd (Hq (i:=1) rfl Zi) (fun hlen=>?_)
 have hg:=Dd hp hb
 refine go 2 ?_
 refine Yd (Zs 2) fun bx _=>?_
 refine go 7 ?_
 refine cl 2 [1] (Aw _ _ hp) fun _ _=>?_
 refine dt (Zj (r':= .bool false) (Yp rfl rfl) (congrArg Value.bool (by rw [hb];rfl))) ?_
 refine go 8 ?_
 refine cl 2 [] (Ze7) fun _ _=>?_
 refine dt (Xl (ivs:=[(0,_),(1,_)]) rfl ⟨rfl,rfl,rfl,rfl,trivial⟩ (fun a w hs=>Zye ((Pt (i:=1) rfl Zi) a w hs))) ?_
 refine dt (Zxm (vs:=[_]) rfl ⟨rfl,trivial⟩) ?_
 refine cl 2 [1] (Zgy v ps 1 10000 2 (.inl rfl) hg) fun _ _=>?_
 refine go 6 ?_
 refine cl 2 [] (Hu) fun _ _=>?_
 refine dt (Xl (ivs:=[(0,_),(1,_)]) rfl ⟨rfl,rfl,rfl,rfl,trivial⟩ (fun a w hs=>Zye ((Pt (i:=1) rfl Zi) a w hs))) ?_
 refine dt (Zxm (vs:=[_]) rfl ⟨rfl,trivial⟩) ?_
 refine cl 2 [1] (Zgy v ps 2 10000 3 (.inr rfl) hg) fun _ _=>?_
 refine go 9 ?_
 refine Yu (d:=23) rfl (fun s194=>?_) (fun s194=>?_)
 ·refine go 8 ?_
  refine dt (Xl (ivs:=[]) rfl trivial (fun a w hs=>b26_)) ?_
  refine go 6 ?_
  exact Nz hsc () Tryz.results27 (by rw [Zsx (by first | (left;omega) | (right;omega))]) trivial Za
 ·refine go 5 ?_
  refine Zc rfl (fun h194=>?_) (fun h194=>?_)
  ·refine go 2 ?_
   refine dt (Xl (ivs:=[]) rfl trivial (fun a w hs=>b26_)) ?_
   refine go 6 ?_
   exact Nz hsc () Tryz.results27 (by rw [Zsx (by first | (left;omega) | (right;omega))]) trivial Za
  ·refine go 9 ?_
   refine lp (G:=Nat) [0,2,4,5] [0,1,2] (fun i=>[(6,.int .i64 (i:Int))]) (fun i=>[]) (fun i=>(1≤i)∧(∀k,1≤k→k<i→joG (ps.getD (k-1) G0) (ps.getD k G0)=true)) (fun i=>ps.length-i) 1 ⟨O1,fun k h1 h2=>absurd h2 O⟩ ⟨rfl,trivial⟩ trivial ?_
   rintro i ⟨hi1,hk⟩
   refine go 9 ?_
   refine Zc rfl (fun h197=>?_) (fun h197=>?_)
   ·refine go 5 ?_
    refine Ze (Xv (g:=(ps.getD (i-1) G0)) (z:=(ps.getD (i-1) G0).2.1) 1 54 rfl rfl (Zf) O5) ?_
    refine Ze (Xv (g:=(ps.getD (i-1) G0)) (z:=(ps.getD (i-1) G0).2.2.1) 1 55 rfl rfl (Zf) O5) ?_
    refine Ze (Xv (g:=(ps.getD (i-1) G0)) (z:=(ps.getD (i-1) G0).2.2.2) 1 56 rfl rfl (Zf) O5) ?_
    refine Ze (Xv (g:=(ps.getD i G0)) (z:=(ps.getD i G0).2.1) 1 51 rfl rfl (Zf) O5) ?_
    refine Ze (Xv (g:=(ps.getD i G0)) (z:=(ps.getD i G0).2.2.1) 1 52 rfl rfl (Zf) O5) ?_
    refine Ze (Xv (g:=(ps.getD i G0)) (z:=(ps.getD i G0).2.2.2) 1 53 rfl rfl (Zf) O5) ?_
    refine Xw (fun _=>False) [(0,0),(1,0),(2,0),(3,0),(4,0),(5,0),(6,0),(7,0),(8,0),(9,1),(10,0)] ?_
    refine go 3 ⟨O,?_⟩
    refine Qe rfl rfl (Qa (Yf (ii:=1) (i:=(i-1)) rfl rfl rfl rfl Zi Tryz.underlying29 Tryz.sizeOf24)) ?_
    refine Qe rfl rfl (Qa (Pj (ii:=1) G0 rfl rfl rfl Zi pG O2)) ?_
    refine go 3 ⟨O2,?_⟩
    refine Qe rfl rfl (Qa (Pj (ii:=1) G0 rfl rfl rfl Zi pG O2)) ?_
    refine Yx (Zh 2 [54,55,56,51,52,53] (Ze8 _ _ _ _ _ _ _ _ _ _ _ _ _ _ _ _ _ _ (hg _ (Zf)) (hg _ (Zf)))) fun _ _=>?_
    refine go 3 ?_
    refine Nw rfl (fun h198=>?_) (fun h198=>?_)
    ·refine go 2 ?_
     refine dt (Xl (ivs:=[]) rfl trivial (fun a w hs=>b26_)) ?_
     refine go 10 ?_
     exact Nz hsc () Tryz.results27 (by rw [Zvg O O (Zwy hi1 O (Zpe ‹_›))]) trivial Za
    ·refine go 8 ⟨O,?_⟩
     exact Xb (i+1) ⟨O1,fun k h1 h9=>by rcases Nat.lt_succ_iff_lt_or_eq.1 h9 with h8 | h8;exact hk k h1 h8;subst h8;exact Zpf ‹_›⟩ O1 ⟨rfl,trivial⟩ trivial
   ·refine go 9 ?_
    refine dt (Xl (ivs:=[(0,_),(1,_)]) rfl ⟨rfl,rfl,rfl,rfl,trivial⟩ (fun a w hs=>Zd2 ((Zn rfl) a w hs) ((Zn rfl) a w hs))) ?_
    refine go 5 ?_
    exact Nz hsc () Tryz.results27 (by rw [Yax O O (Zwx fun k h1 h2=>hk k h1 O)]) trivial Za
def g8(g:Zz):Bool:=decide (g.2.1.2.length≤8) && decide (g.2.2.1.2.length≤8) && decide (g.2.2.2.2.length≤8)
def Zdu(ps:List Zz)(m:Nat):Bool:=(List.range ps.length).all (fun i=>decide (m<i) || g8 (ps.getD i G0)) && decide (ps.length≤m)
theorem g8_t{g:Zz}(h1:g.2.1.2.length≤8)(h2:g.2.2.1.2.length≤8)(h3:g.2.2.2.2.length≤8):g8 g=true:=by
 unfold g8;rw [decide_eq_true h1,decide_eq_true h2,decide_eq_true h3];rfl
theorem g8_f{g:Zz}(h:¬(g.2.1.2.length≤8∧g.2.2.1.2.length≤8∧g.2.2.2.2.length≤8)):g8 g=false:=by
 cases hb:g8 g with
 | false=>rfl
 | true=>
  unfold g8 at hb
  simp only [Bool.and_eq_true,decide_eq_true_eq]at hb
  exact absurd ⟨hb.1.1,hb.1.2,hb.2⟩ h
theorem Zua{ps:List Zz}{m i:Nat}(hi:i<ps.length)(hm:i≤m)(h:g8 (ps.getD i G0)=false):Zdu ps m=false:=by
 cases hb:Zdu ps m with
 | false=>rfl
 | true=>
  unfold Zdu at hb
  rw [Bool.and_eq_true]at hb
  have:=List.all_eq_true.1 hb.1 i (List.mem_range.2 hi)
  rw [h,decide_eq_false O]at this
  cases this
theorem Yew{ps:List Zz}{m n:Nat}(hn:n=ps.length∨m<n)(h:∀k,k<n→g8 (ps.getD k G0)=true):Zdu ps m=decide (ps.length≤m):=by
 unfold Zdu
 rw [List.all_eq_true.2 fun i hi=>by
  have hi:=List.mem_range.1 hi
  rcases Nat.lt_or_ge m i with q | q
  ·rw [decide_eq_true q];rfl
  ·rw [h i O,Bool.or_true]]
 rfl
theorem Yjv:∀n,n≤5→∀i,i<n→(On n i:Int)*((n:Int)-(i:Int))/((i:Int)+1)=(On n (i+1):Int):=by
 intro n hn i hi
 have h1:∀n,n<6→∀i,i<n→(On n i:Int)*((n:Int)-(i:Int))/((i:Int)+1)=(On n (i+1):Int):=O7
 exact h1 n O i hi
theorem Ba(v:Value)(ps:List Zz)(m:Nat):Cal Tryz.prog 9 #[v,.int .i64 (m:Int)] [Pq 6 Mj qG v ps] false (G:=Unit) (fun _=>True) (fun _=> .bool (Zdu ps m)) (fun _=>[]):=by
 refine Zd Tryz.func9 Tryz.ntmps9 fun w0 sc hw hsc=>?_
 refine Nd (Hq (i:=1) rfl Zi) (fun hlen=>?_)
 refine go 12 ?_
 refine lp (G:=Nat) [0,1] [0,1] (fun i=>[(5,.int .i64 (i:Int))]) (fun i=>[]) (fun i=>(i≤ps.length)∧(∀k,k<i→g8 (ps.getD k G0)=true)) (fun i=>ps.length-i) 0 ⟨O1,fun k hk=>absurd hk (Nat.not_lt_zero k)⟩ ⟨rfl,trivial⟩ trivial ?_
 rintro i ⟨hi,hk⟩
 refine go 8 ?_
 refine Yu (d:=10) rfl (fun s350=>?_) (fun s350=>?_)
 ·refine go 6 ?_
  refine Zc rfl (fun h350=>?_) (fun h350=>?_)
  ·refine go 5 ?_
   refine Ze (Xv (g:=(ps.getD i G0)) (z:=(ps.getD i G0).2.1) 1 51 rfl rfl (Zf) O5) ?_
   refine Ze (Xv (g:=(ps.getD i G0)) (z:=(ps.getD i G0).2.2.1) 1 52 rfl rfl (Zf) O5) ?_
   refine Ze (Xv (g:=(ps.getD i G0)) (z:=(ps.getD i G0).2.2.2) 1 53 rfl rfl (Zf) O5) ?_
   refine go 3 ?_
   refine dt (Yf (ii:=1) (i:=i) rfl rfl rfl rfl Zi Tryz.underlying29 Tryz.sizeOf24 rfl) ?_
   refine dt (Zfo (ii:=1) rfl rfl rfl Zi Tryz.underlying24 rfl Tryz.sizeOf22 rfl) ?_
   refine dt (Zfm (ii:=1) G0 rfl rfl rfl Zi Tryz.isAgg22 rfl) ?_
   refine go 3 ?_
   refine Yu (d:=24) rfl (fun s351=>?_) (fun s351=>?_)
   ·refine go 31 ?_
    exact Xj hsc () Tryz.results9 (by rw [Zua (i:=i) O O (g8_f O)]) trivial Za
   ·refine go 2 ?_
    refine Ly (Yf (ii:=1) (i:=i) rfl rfl rfl rfl Zi Tryz.underlying29 Tryz.sizeOf24 rfl) rfl rfl ?_
    refine Ly (Zfo (ii:=1) rfl rfl rfl Zi Tryz.underlying24 rfl Tryz.sizeOf22 rfl) rfl rfl ?_
    refine Ly (Zfm (ii:=1) G0 rfl rfl rfl Zi Tryz.isAgg22 rfl) rfl rfl ?_
    refine go 4 ?_
    refine Yu (d:=33) rfl (fun s351_2=>?_) (fun s351_2=>?_)
    ·refine go 22 ?_
     exact Xj hsc () Tryz.results9 (by rw [Zua (i:=i) O O (g8_f O)]) trivial Za
    ·refine go 2 ?_
     refine Ly (Yf (ii:=1) (i:=i) rfl rfl rfl rfl Zi Tryz.underlying29 Tryz.sizeOf24 rfl) rfl rfl ?_
     refine Ly (Zfo (ii:=1) rfl rfl rfl Zi Tryz.underlying24 rfl Tryz.sizeOf22 rfl) rfl rfl ?_
     refine Ly (Zfm (ii:=1) G0 rfl rfl rfl Zi Tryz.isAgg22 rfl) rfl rfl ?_
     refine go 5 ?_
     refine Zc rfl (fun h351=>?_) (fun h351=>?_)
     ·refine go 11 ?_
      exact Xj hsc () Tryz.results9 (by rw [Zua (i:=i) O O (g8_f O)]) trivial Za
     ·refine go 8 ⟨O,?_⟩
      exact Xb (i+1) ⟨O1,fun k h9=>by rcases Nat.lt_succ_iff_lt_or_eq.1 h9 with h8 | h8;exact hk k h8;subst h8;exact g8_t O O O⟩ O1 ⟨rfl,trivial⟩ trivial
  ·refine go 15 ?_
   exact Xj hsc () Tryz.results9 (by rw [Yew (n:=i) O hk];exact congrArg Value.bool (decide_eq_decide.2 O)) trivial Za
 ·refine go 22 ?_
  exact Xj hsc () Tryz.results9 (by rw [Yew (n:=i) O hk];exact congrArg Value.bool (decide_eq_decide.2 O)) trivial Za
theorem Zjd(n k:Nat)(hn:n≤5)(hk:k≤n):Cal Tryz.prog 81 #[.int .i64 (n:Int),.int .i64 (k:Int)] [] false (G:=Unit) (fun _=>True) (fun _=> .int .i64 (On n k:Int)) (fun _=>[]):=by
 refine Zd Tryz.func81 Tryz.ntmps81 fun w0 sc hw hsc=>?_
 refine go 17 ?_
 refine lp (G:=Nat) [0,1] [0] (fun i=>[(6,.int .i64 (i:Int)),(5,.int .i64 (On n i:Int))]) (fun i=>[]) (fun i=>i≤k) (fun i=>k-i) 0 O1 ⟨rfl,by cases n<;>rfl,trivial⟩ trivial ?_
 rintro i hi
 refine go 8 ?_
 refine Zc rfl (fun h35=>?_) (fun h35=>?_)
 ·refine go 4 ?_
  have hc:=Zo9 (n:=n) (k:=i) hn
  have hc0:(0:Int)≤(On n i:Int)*((n:Int)-(i:Int)):=Int.mul_nonneg O O
  have hc1:=Int.mul_le_mul (show(On n i:Int)≤32 by omega) (show(n:Int)-(i:Int)≤5 by omega) O O3
  refine go 8 ⟨O,O,O,?_⟩
  refine dt (Zda rfl rfl rfl) ?_
  refine go 9 ⟨O,?_⟩
  exact Xb (i+1) O1 O1 ⟨rfl,by rw [Yjv n hn i O];rfl,trivial⟩ trivial
 ·obtain rfl:k=i:=O
  refine go 12 ?_
  exact Xj hsc () Tryz.results81 rfl trivial Za
theorem Znp(v:Value)(c:List Int)(hc:∀x∈c,Qx x)(hl1:1≤c.length)(hl:c.length≤6):Cal Tryz.prog 41 #[v] [Ym 1 Yl v c] true (G:=Value×List (Int×SL)) (fun r=>Pw r.2=mk c.length fun t=>ctl c t (t+1)) (fun r=>r.1) (fun r=>[pp r.1 r.2]):=by
 refine Zd Tryz.func41 Tryz.ntmps41 fun w0 sc hw hsc=>?_
 refine go 14 ⟨O,?_⟩
 refine Ze (My 3 (v':= .int .i64 ((c.length-1:Nat):Int)) rfl (by congr 1;omega)) ?_
 refine go 11 ?_
 refine Ze (Np 70 2 77 Zc2) ?_
 refine Ze (Oc qI 71) ?_
 refine lp (G:=Nat×Value×List (Int×SL)) [0,3] [0,1] (fun q=>[(5,.int .i64 (q.1:Int)),(4,q.2.1)]) (fun q=>[(70,Ma 2 77 Zc2 q.2.1 q.2.2),(71,De qI q.2.2)]) (fun q=>(q.1≤c.length)∧(Pw q.2.2=mk q.1 (fun t=>ctl c t (t+1)))∧(q.2.2.length=q.1)) (fun q=>c.length-q.1) (0,.slice none 0 0,[]) ⟨O1,rfl,rfl⟩ ⟨rfl,rfl,trivial⟩ ⟨rfl,rfl,trivial⟩ ?_
 rintro⟨i,vo,ws⟩ ⟨hi,hz,hzl⟩
 dsimp only at hi hz hzl
 dsimp only
 refine go 8 ?_
 refine Zc rfl (fun h45=>?_) (fun h45=>?_)
 ·refine go 6 ?_
  refine dt (Xl (ivs:=[]) rfl trivial (fun a w hs=>b77_)) ?_
  refine Yd (Zs 97) fun bx _=>?_
  refine go 10 ?_
  refine Ze (Np 98 1 3 Ha) ?_
  refine Ze (Pf 98 rfl rfl pN) ?_
  refine lp (G:=Nat×Value) [0,3,4,5,6] [0,70,71,1] (fun q=>[(7,.int .i64 (q.1:Int))]) (fun q=>[(97,box bx 77 #[.bool (decide (ctl c i q.1<0)),q.2]),(98,Hg q.2 (ctl c i q.1).natAbs)]) (fun q=>q.1≤i+1) (fun q=>i+1-q.1) (0,.slice none 0 0) O1 ⟨rfl,trivial⟩ ⟨rfl,rfl,trivial⟩ ?_
  rintro⟨k,vs⟩ hk
  dsimp only at hk
  dsimp only
  refine go 8 ?_
  refine Zc rfl (fun h47=>?_) (fun h47=>?_)
  ·refine go 4 ?_
   have hw6:=Zsu (n:=c.length-1) (j:=i) (k:=k) O
   refine Xw (fun _=>False) [(0,0),(1,0),(2,0),(3,0),(4,0),(6,0),(7,0),(10,0),(11,0),(5,1),(8,1),(9,0),(12,1),(13,0),(14,1),(15,1),(16,1),(17,3)] ?_
   refine go 3 ?_
   refine Qe rfl rfl (Qa (Yf (ii:=1) (i:=k) rfl rfl rfl rfl Zo Tryz.underlying22 Tryz.sizeOf3 rfl)) ?_
   refine go 5 ⟨O,?_⟩
   refine Yx (Zh 2 [] (Em (c.getD k 0) (Qv hc k))) fun v _=>?_
   refine Yx (Zh 2 [] (Zjd (c.length-1) k O O)) fun _ _=>?_
   refine Qe rfl rfl (Qa (Zda rfl rfl rfl O3 O3 (by have:=Zia (n:=c.length-1) (k:=k) O;omega))) ?_
   refine Yx (Zh 2 [] (Zjd i k O O)) fun _ _=>?_
   refine go 1 ⟨show Qx (w60 (c.length-1) i k)from⟨O,O⟩,?_⟩
   refine Yx (Zh 3 [] (Em (w60 (c.length-1) i k))) fun v_2 _=>?_
   refine Yx (Zh 4 [2,3] (Bt _ _ (c.getD k 0) (w60 (c.length-1) i k) (Nat.le_trans (Lu (Qv hc k)) O3) (Nat.le_trans (Zky O) O3))) fun v_3 _=>?_
   refine Yx (Zh 5 [98,4] (Zv6 _ _ (ctl c i k) (c.getD k 0*(w60 (c.length-1) i k)) (Nat.le_trans (Yv _ _) (by have h1:=Lu (Qv hc k);have h2:=Zky (n:=c.length-1) (j:=i) (k:=k) O;omega)) (Nat.le_trans (Zb4 hc O O) O3))) fun v_4 _=>?_
   refine go 9 ⟨O,?_⟩
   refine Yn (Pb 5 98 rfl rfl rfl) ?_
   exact Xb (k+1,v_4) O1 O1 ⟨rfl,trivial⟩ ⟨rfl,rfl,trivial⟩
  ·obtain rfl:k=i+1:=O
   refine go 5 ?_
   refine Zrq (Mp 98 rfl Zo) (fun sl hsl=>?_)
   subst hsl
   refine go 3 ?_
   refine tt (Qd (i:=73) (ivs:=[(0,_)]) (enc:=Zc2) [(ctl c i (i+1),sl)] rfl rfl ⟨rfl,rfl,trivial⟩ Tryz.underlying45 Tryz.ti77 rfl rfl rfl rfl rfl pI.cells rfl rfl hw.h) rfl (fun v_5 _=>?_)
   refine tt (Kq (xs:=ws) (ys:=[_]) (i:=70) (j:=73) (by_:=32) rfl rfl rfl rfl rfl rfl O3 rfl (Xa pI) Tryz.underlying45 Tryz.ti77 rfl pI rfl rfl rfl O8 O3 rfl hw.h) rfl (fun v_6 _=>?_)
   refine go 9 ⟨O,?_⟩
   refine Yn (Xt (q:=qI) (z:=(ctl c i (i+1),sl)) 71 98 71 rfl rfl rfl rfl rfl) ?_
   exact Xb (i+1,_,ws ++ [(ctl c i (i+1),sl)]) ⟨O1,by rw [Zcr,Ze5,hz],by simp [hzl]⟩ O1 ⟨rfl,rfl,trivial⟩ ⟨rfl,rfl,trivial⟩
 ·refine go 6 ?_
  refine Ze (Pf 70 rfl rfl pI) ?_
  refine Ze (Hi 70 71 72 rfl rfl rfl rfl) ?_
  refine go 6 ?_
  exact Xj hsc (_,ws) Tryz.results41 rfl (by rw [hz,show i=c.length by omega]) (Mm 72 Za)
theorem pC:Enc Tryz.prog 22 1 (Kk (α:=List Int)):=Enc.flat Tryz.sizeOf22 Tryz.isAgg22 (fun _=>rfl)
abbrev C0:SL×List Int:=((none,0,0),[])
theorem Zjc(fr to ov:Int)(sx sy sz:SL)(x y z:List Int):Cal Tryz.prog 40 #[.agg #[.int .i64 fr,.int .i64 to,.int .i64 ov,Qo sx,Qo sy,Qo sz]] [Ym 1 Yl (Qo sx) x,Ym 1 Yl (Qo sy) y,Ym 1 Yl (Qo sz) z] true (G:=Value) (fun r=>True) (fun r=>r) (fun r=>[Pq 1 (Kk (α:=List Int)) qC r [(sx,x),(sy,y),(sz,z)]]):=by
 refine Zd Tryz.func40 Tryz.ntmps40 fun w0 sc hw hsc=>?_
 refine go 2 ?_
 refine Yd (Yg 4) fun bx _=>?_
 refine go 11 ?_
 refine tt (Qd (i:=5) (ivs:=[(0,_),(1,_),(2,_)]) (enc:=(Kk (α:=List Int))) ([(sx,x),(sy,y),(sz,z)]:List (SL×List Int)) rfl rfl ⟨rfl,rfl,rfl,rfl,rfl,rfl,trivial⟩ Tryz.underlying80 Tryz.ti22 rfl rfl rfl rfl rfl pC.cells rfl rfl hw.h) rfl (fun v _=>?_)
 refine go 4 ?_
 refine Yn (Pf 5 rfl rfl pC) ?_
 refine Yn (Oc qC 71) ?_
 refine Yn (Xt (q:=qC) (z:=(sx,x)) 71 1 71 rfl rfl rfl rfl rfl) ?_
 refine Yn (Xt (q:=qC) (z:=(sy,y)) 71 2 71 rfl rfl rfl rfl rfl) ?_
 refine Yn (Xt (q:=qC) (z:=(sz,z)) 71 3 71 rfl rfl rfl rfl rfl) ?_
 refine Yn (Hi 5 71 72 rfl rfl rfl rfl) ?_
 exact Xj hsc _ Tryz.results40 rfl trivial (Mm 72 Za)
theorem Zl5(m:Int):Cal Tryz.prog 18 #[.int .i64 m] [] false (G:=Unit) (fun _=>True) (fun _=> .bool (decide (0≤m∧m≤10000))) (fun _=>[]):=by
 refine Zd Tryz.func18 Tryz.ntmps18 fun w0 sc hw hsc=>?_
 refine go 10 ?_
 refine Yu (d:=5) rfl (fun s21=>?_) (fun s21=>?_)
 ·refine go 7 ?_
  exact Xj hsc () Tryz.results18 (by first | exact congrArg Value.bool (decide_eq_decide.2 O) | exact congrArg Value.bool (decide_eq_false O)) trivial Za
 ·refine go 7 ?_
  exact Xj hsc () Tryz.results18 (by first | exact congrArg Value.bool (decide_eq_decide.2 O) | exact congrArg Value.bool (decide_eq_false O)) trivial Za
theorem Ds(sp ac:Int):Cal Tryz.prog 13 #[.agg #[.int .i64 sp,.int .i64 ac]] [] false (G:=Unit) (fun _=>True) (fun _=> .bool (decide (1≤sp∧sp≤10000∧1≤ac∧ac≤10000))) (fun _=>[]):=by
 refine Zd Tryz.func13 Tryz.ntmps13 fun w0 sc hw hsc=>?_
 refine go 2 ?_
 refine Yd (Yg 1) fun bx _=>?_
 refine go 9 ?_
 refine Yu (d:=6) rfl (fun s25=>?_) (fun s25=>?_)
 ·refine go 2 ?_
  refine Fl 1 [] (Zl5 _) fun _ _=>?_
  refine go 2 ?_
  refine Zbq (d:=11) rfl (fun s25_2=>?_) (fun s25_2=>?_)
  ·refine go 5 ?_
   refine Yu (d:=16) rfl (fun s25_3=>?_) (fun s25_3=>?_)
   ·refine go 2 ?_
    refine Fl 1 [] (Zl5 _) fun _ _=>?_
    refine go 5 ?_
    exact Xj hsc () Tryz.results13 O10 trivial Za
   ·refine go 8 ?_
    exact Xj hsc () Tryz.results13 O10 trivial Za
  ·refine go 13 ?_
   exact Xj hsc () Tryz.results13 O10 trivial Za
 ·refine go 18 ?_
  exact Xj hsc () Tryz.results13 O10 trivial Za
theorem getD3{α:Type}{a b c d:α}{i:Nat}(h:i<3):[a,b,c].getD i d=Zr i a b c:=by
 match i,h with
 | 0,_=>rfl
 | 1,_=>rfl
 | 2,_=>rfl
theorem Yby{α β:Type}(i:Nat)(a b c:α×β):(Zr i a b c).2=Zr i a.2 b.2 c.2:=by unfold Zr;split<;>rfl
theorem Yai{sx sy sz:SL}{x y z:List Int}{d:SL×List Int}{i:Nat}(h:i<3):([(sx,x),(sy,y),(sz,z)].getD i d).2=Zr i x y z:=by rw [getD3 h,Yby]
theorem Zs6{a b:Int} : 0<(a-b).sign↔b<a:=by rw [sgp];omega
theorem Ybr{a b:Int} : (a-b).sign<0↔a<b:=by rw [Pm];omega
theorem Yjj(t m:Int):m<t∨(¬m<t∧t < -m)∨(¬m<t∧¬t < -m):=O
def axc(c:List Int):Bool:=!(decide (1≤c.length) && decide (c.length≤6) && !(decide (1<c.length) && decide (c.getD (c.length-1) 0=0)))
theorem axc_f{c:List Int}{b:Bool}(h:b=axc c)(hb:b=false):1≤c.length∧c.length≤6∧¬(1<c.length∧c.getD (c.length-1) 0=0):=by
 subst h
 unfold axc at hb
 simp only [Bool.not_eq_false',Bool.and_eq_true,Bool.not_eq_true',Bool.and_eq_false_iff,decide_eq_true_eq,decide_eq_false_iff_not]at hb
 exact⟨hb.1.1,hb.1.2,fun h=>by rcases hb.2 with q | q;exact q h.1;exact q h.2⟩
theorem axc_t{c:List Int}{b:Bool}{ov:Int}(h:b=axc c)(hb:b=true):axB c ov=false:=by
 cases ha:axB c ov with
 | false=>rfl
 | true=>
  exfalso
  unfold axB at ha
  rw [Bool.and_eq_true]at ha
  have:axc c=false:=by unfold axc;rw [ha.1];rfl
  rw [h,this]at hb;cases hb
theorem Zyi{c:List Int}(h:¬1≤c.length):true=axc c:=by unfold axc;rw [decide_eq_false h];rfl
theorem Zyh{c:List Int}(h:¬c.length≤6):true=axc c:=by unfold axc;rw [decide_eq_false h,Bool.and_false];rfl
theorem Zyg{c:List Int}(h1:1≤c.length)(h2:c.length≤6)(h3:¬1<c.length):false=axc c:=by unfold axc;rw [decide_eq_true h1,decide_eq_true h2,decide_eq_false h3];rfl
theorem Zyf{c:List Int}(h1:1≤c.length)(h2:c.length≤6)(h3:1<c.length):decide (c.getD (c.length-1) 0=0)=axc c:=by
 unfold axc;rw [decide_eq_true h1,decide_eq_true h2,decide_eq_true h3];simp
theorem Ykc{ov:Int}(h:bl ov.natAbs≤64):bl (62914560*ov).natAbs≤100:=by
 have h1:=Yv 62914560 ov
 have h2:bl (62914560:Int).natAbs≤30:=O3
 omega
theorem Zcf(fr to ov:Int)(sx sy sz:SL)(x y z:List Int)(hfr:Qx fr)(hto:Qx to)(hov:Qx ov)(hx:∀a∈x,Qx a)(hy:∀a∈y,Qx a)(hz:∀a∈z,Qx a):Cal Tryz.prog 14 #[.agg #[.int .i64 fr,.int .i64 to,.int .i64 ov,Qo sx,Qo sy,Qo sz]] [Ym 1 Yl (Qo sx) x,Ym 1 Yl (Qo sy) y,Ym 1 Yl (Qo sz) z] false (G:=Unit) (fun _=>True) (fun _=> .bool (El fr to ov x y z)) (fun _=>[]):=by
 refine Zd Tryz.func14 Tryz.ntmps14 fun w0 sc hw hsc=>?_
 have hbo:=Lu hov
 have hbm:=Ykc hbo
 have hfc:=fun i k=>bl_fc hx hy hz hbo i k
 have hfc0:=fun i=>hfc i 0
 simp only [List.take_zero,Nk]at hfc0
 refine go 2 ?_
 refine Yd (Yg 4) fun bx _=>?_
 refine go 10 ?_
 refine Yu (d:=13) rfl (fun s57=>?_) (fun s57=>?_)
 ·refine go 31 ?_
  exact Xj hsc () Tryz.results14 (by rw [Bj O]) trivial Za
 ·refine go 7 ?_
  refine Yu (d:=20) rfl (fun s57_2=>?_) (fun s57_2=>?_)
  ·refine go 24 ?_
   exact Xj hsc () Tryz.results14 (by rw [Bj O]) trivial Za
  ·refine go 5 ?_
   refine Yu (d:=25) rfl (fun s57_3=>?_) (fun s57_3=>?_)
   ·refine go 19 ?_
    exact Xj hsc () Tryz.results14 (by rw [Bj O]) trivial Za
   ·refine go 5 ?_
    refine Yu (d:=30) rfl (fun s57_4=>?_) (fun s57_4=>?_)
    ·refine go 14 ?_
     exact Xj hsc () Tryz.results14 (by rw [Bj O]) trivial Za
    ·refine go 6 ?_
     refine Zc rfl (fun h57=>?_) (fun h57=>?_)
     ·refine go 7 ?_
      exact Xj hsc () Tryz.results14 (by rw [Bj O]) trivial Za
     ·refine go 6 ?_
      refine cl 98 [] (Em ov hov) fun v _=>?_
      refine Yd (Zs 97) fun bx_2 _=>?_
      refine go 3 ?_
      refine jn (G:=Nat×Value) [1,3] [0,1,2,3,4,98,97] (fun q=>[(4,.pointer (some ⟨q.1,0,none⟩))]) (fun q=>[(95,box q.1 77 #[.bool (decide (62914560*ov<0)),q.2]),(96,Hg q.2 (62914560*ov).natAbs)]) (fun q=>True) ?_ ?_
      ·refine Ec (fun _=>False) [6] ?_
       refine Zm (n:=5) [(1,0),(2,0)] ?_
       refine go 3 ?_
       refine Qq (n:=4) 0 5 ?_ ?_
       ·refine Ny (Zh 5 [] (Em 62914560 ⟨O3,O3⟩)) fun v_2 _=>?_
        refine Qq (n:=3) 3 5 ?_ ?_
        ·refine Ny (Zh 6 [] (Em ov hov)) fun v_3 _=>?_
         refine Qq (n:=2) 4 5 ?_ ?_
         ·refine Ny (Zh 96 [5,6] (Bt _ _ 62914560 ov O3)) fun v_4 _=>?_
          refine Zm (n:=0) [(5,1),(6,3)] ?_
          refine Yx (Zs 95) fun bx_3 _=>?_
          refine go 2 ?_
          refine Zy ?_
          exact Qu (bx_3,v_4) trivial ⟨rfl,trivial⟩ ⟨rfl,rfl,trivial⟩
         ·refine Ny (Zs 95) fun bx_4 _=>?_
          refine Zm (n:=0) [(4,1),(6,3)] ?_
          refine Yx (Zh 96 [5,6] (Bt _ _ 62914560 ov O3)) fun v_5 _=>?_
          refine go 2 ?_
          refine Zy ?_
          exact Qu (bx_4,v_5) trivial ⟨rfl,trivial⟩ ⟨rfl,rfl,trivial⟩
        ·refine Ny (Zs 95) fun bx_5 _=>?_
         refine Zm (n:=0) [(3,1),(4,1),(6,3)] ?_
         refine Yx (Zh 7 [] (Em ov hov)) fun v_6 _=>?_
         refine Yx (Zh 96 [5,7] (Bt _ _ 62914560 ov O3)) fun v_7 _=>?_
         refine go 2 ?_
         refine Zy ?_
         exact Qu (bx_5,v_7) trivial ⟨rfl,trivial⟩ ⟨rfl,rfl,trivial⟩
       ·refine Ny (Zs 95) fun bx_6 _=>?_
        refine Zm (n:=0) [(0,1),(3,1),(4,1),(6,3)] ?_
        refine Yx (Zh 8 [] (Em 62914560 ⟨O3,O3⟩)) fun v_8 _=>?_
        refine Yx (Zh 9 [] (Em ov hov)) fun v_9 _=>?_
        refine Yx (Zh 96 [8,9] (Bt _ _ 62914560 ov O3)) fun v_10 _=>?_
        refine go 2 ?_
        refine Zy ?_
        exact Qu (bx_6,v_10) trivial ⟨rfl,trivial⟩ ⟨rfl,rfl,trivial⟩
      ·rintro⟨b9,vm⟩ -
       dsimp only
       refine go 3 ?_
       refine cl 10 [1,2,3] (Zjc _ _ _ _ _ _ _ _ _) fun v_11 _=>?_
       refine go 10 ?_
       refine lp (G:=Nat×Value) [3,4,5] [0,95,96,1,2,3,4,10] (fun q=>[(6,.int .i64 (q.1:Int))]) (fun q=>[(97,box bx_2 77 #[.bool (decide ((Nk ov (Ns q.1 x y z))<0)),q.2]),(98,Hg q.2 ((Nk ov (Ns q.1 x y z))).natAbs)]) (fun q=>(q.1≤3)∧(∀k,k<q.1→axB (Zr k x y z) ov=true)) (fun q=>3-q.1) (0,_) ⟨O1,fun k hk=>absurd hk (Nat.not_lt_zero k)⟩ ⟨rfl,trivial⟩ ⟨rfl,rfl,trivial⟩ ?_
       rintro⟨i,vs⟩ ⟨hi,hax⟩
       dsimp only at hi hax
       dsimp only
       refine go 7 ?_
       refine Zc rfl (fun h63=>?_) (fun h63=>?_)
       ·refine go 5 ?_
        refine Ze (Znc 10 40 ([(sx,x),(sy,y),(sz,z)].getD i C0) rfl rfl (Zf (show i<3 by omega)) rfl) ?_
        refine Ze (Mt 40 (q:=Ym 1 Yl (Qo ([(sx,x),(sy,y),(sz,z)].getD i C0).1) (Zr i x y z)) (congrArg (Ym 1 Yl _) (Yai O)) rfl rfl) ?_
        refine go 3 ?_
        refine dt (Yf (ii:=10) (i:=i) rfl rfl rfl rfl Zi Tryz.underlying80 Tryz.sizeOf22 rfl (show i<3 by omega)) ?_
        refine dt (Pj (ii:=10) C0 rfl rfl rfl Zi pC (show i<3 by omega)) ?_
        refine go 4 ?_
        refine jn (G:=Bool) [3,4,5,6,7] [0,97,98,95,96,1,2,3,4,10,40] (fun bj=>[(74,.bool bj)]) (fun bj=>[]) (fun bj=>bj=axc (Zr i x y z)) ?_ ?_
        ·refine go 5 ?_
         refine Yu (d:=56) rfl (fun s65=>?_) (fun s65=>?_)
         ·refine go 19 ?_
          exact Qu _ (by first | exact Zyi O | exact Zyh O | exact Zyg O O O | exact Zyf O O O) ⟨rfl,trivial⟩ trivial
         ·refine go 5 ?_
          refine Yu (d:=61) rfl (fun s65_2=>?_) (fun s65_2=>?_)
          ·refine go 14 ?_
           exact Qu _ (by first | exact Zyi O | exact Zyh O | exact Zyg O O O | exact Zyf O O O) ⟨rfl,trivial⟩ trivial
          ·refine go 4 ?_
           refine Yu (d:=65) rfl (fun s65_3=>?_) (fun s65_3=>?_)
           ·refine go 4 ⟨O,?_⟩
            refine Ly (Yf (ii:=40) (i:=((Zr i x y z).length-1)) rfl rfl rfl rfl Zo Tryz.underlying22 Tryz.sizeOf3) rfl rfl ?_
            refine go 5 ⟨O,?_⟩
            exact Qu _ (by first | exact Zyi O | exact Zyh O | exact Zyg O O O | exact Zyf O O O) ⟨rfl,trivial⟩ trivial
           ·refine go 10 ?_
            exact Qu _ (by first | exact Zyi O | exact Zyh O | exact Zyg O O O | exact Zyf O O O) ⟨rfl,trivial⟩ trivial
        ·rintro bj hbj
         refine Nw rfl (fun h65=>?_) (fun h65=>?_)
         ·refine go 12 ?_
          exact Xj hsc () Tryz.results14 (by rw [Zbd (i:=i) (axc_t hbj ‹_›)]) trivial Za
         ·obtain⟨j1,j2,j3⟩:=axc_f hbj h65
          refine go 5 ?_
          refine cl 11 [40] (Znp _ (Zr i x y z) (Li hx hy hz i) O O) fun g hg=>?_
          refine go 4 ?_
          have hlz:=congrArg List.length hg
          rw [Ij,Yi]at hlz
          refine go 5 ?_
          refine lp (G:=Nat×Value) [3,4,5,6,7,8] [0,95,96,1,2,3,4,10,40,11] (fun q=>[(9,.int .i64 (q.1:Int))]) (fun q=>[(97,box bx_2 77 #[.bool (decide ((Nk (Nk ov (Ns i x y z)) ((Zr i x y z).take q.1))<0)),q.2]),(98,Hg q.2 ((Nk (Nk ov (Ns i x y z)) ((Zr i x y z).take q.1))).natAbs)]) (fun q=>(q.1≤(Zr i x y z).length)∧(∀j,j<q.1→((ctl (Zr i x y z) j (j+1)).natAbs:Int)≤(62914560*ov))) (fun q=>(Zr i x y z).length-q.1) (0,_) ⟨O1,fun j hj=>absurd hj (Nat.not_lt_zero j)⟩ ⟨rfl,trivial⟩ ⟨rfl,rfl,trivial⟩ ?_
          rintro⟨k,vs⟩ ⟨hk,hz9⟩
          dsimp only at hk hz9
          dsimp only
          refine go 9 ?_
          refine Zc rfl (fun h69=>?_) (fun h69=>?_)
          ·refine go 5 ?_
           refine Xw (fun _=>False) [(0,0),(1,0),(2,0),(3,0),(4,0),(5,1),(6,1),(7,3)] ?_
           refine go 3 ?_
           refine Qe rfl rfl (Qa (Yf (ii:=40) (i:=k) rfl rfl rfl rfl Zo Tryz.underlying22 Tryz.sizeOf3 rfl)) ?_
           refine go 1 ⟨O2,?_⟩
           refine Yx (Zh 12 [] (Em ((Zr i x y z).getD k 0) (Qv (Li hx hy hz i) k))) fun v_12 _=>?_
           refine Yx (Zh 13 [98,12] (r_gcd _ _ (Nk (Nk ov (Ns i x y z)) ((Zr i x y z).take k)) ((Zr i x y z).getD k 0) (Nat.le_trans (Lu (Qv (Li hx hy hz i) k)) O3) (Nat.le_trans (hfc i k) O3))) fun v_13 _=>?_
           refine go 4 ?_
           rcases Yjj (ctl (Zr i x y z) k (k+1)) (62914560*ov)with hc1 | ⟨hc1,hc2⟩ | ⟨hc1,hc2⟩
           ·have hck:(g.2.getD k I0).1=(ctl (Zr i x y z) k (k+1)):=by rw [Fd,hg,Ol,if_pos O]
            refine Xw (fun _=>False) [(0,0),(1,0),(2,0),(3,0),(4,0),(5,1),(6,0),(7,0),(8,2),(9,2),(10,2),(11,2),(12,2),(13,2),(14,2),(15,2),(16,0)] ?_
            refine go 2 ?_
            refine Qe rfl rfl (Qa (Yf (ii:=11) (i:=k) rfl rfl rfl rfl Zi Tryz.underlying45 Tryz.sizeOf77 rfl)) ?_
            refine Qe rfl rfl (Qa (Pj (ii:=11) I0 rfl rfl rfl Zi pI)) ?_
            refine go 1 ?_
            refine Fm rfl (Pk (n:=13) (Dq _ _ _ (62914560*ov) (by rw [hck];exact Nat.le_trans (Zb4 (Li hx hy hz i) O O) O3) (Nat.le_trans hbm O3)) rfl rfl rfl ⟨rfl,rfl,trivial⟩ Tryz.call43 (He 11 rfl rfl (Zf (i:=k)) (Zk 96 rfl rfl rfl Zw)) rfl hw.h) (fun _ _=>?_)
            refine Qe rfl rfl (Qa (Zj (r':= .bool true) (Zfn rfl rfl rfl) (congrArg Value.bool (decide_eq_true (by rw [hck,Zs6];exact hc1))))) ?_
            refine go 28 ?_
            exact Xj hsc () Tryz.results14 (by rw [Zbd (i:=i) (Zk2 fun h1 h2 h3 h4=>by rw [Zux (j:=k) O O]at h4;cases h4)]) trivial Za
           ·have hck:(g.2.getD k I0).1=(ctl (Zr i x y z) k (k+1)):=by rw [Fd,hg,Ol,if_pos O]
            refine Xw (fun _=>False) [(0,0),(1,0),(2,0),(3,0),(4,0),(5,1),(6,0),(7,0),(8,0),(9,0),(10,0),(11,0),(12,0),(13,1),(14,1),(15,0),(16,0)] ?_
            refine go 2 ?_
            refine Qe rfl rfl (Qa (Yf (ii:=11) (i:=k) rfl rfl rfl rfl Zi Tryz.underlying45 Tryz.sizeOf77 rfl)) ?_
            refine Qe rfl rfl (Qa (Pj (ii:=11) I0 rfl rfl rfl Zi pI)) ?_
            refine go 1 ?_
            refine Fm rfl (Pk (n:=13) (Dq _ _ _ (62914560*ov) (by rw [hck];exact Nat.le_trans (Zb4 (Li hx hy hz i) O O) O3) (Nat.le_trans hbm O3)) rfl rfl rfl ⟨rfl,rfl,trivial⟩ Tryz.call43 (He 11 rfl rfl (Zf (i:=k)) (Zk 96 rfl rfl rfl Zw)) rfl hw.h) (fun _ _=>?_)
            refine Qe rfl rfl (Qa (Zj (r':= .bool false) (Zfn rfl rfl rfl) (congrArg Value.bool (decide_eq_false (by rw [hck,Zs6];exact hc1))))) ?_
            refine go 3 ?_
            refine Bu (Qa (Yf (ii:=11) (i:=k) rfl rfl rfl rfl Zi Tryz.underlying45 Tryz.sizeOf77 rfl)) rfl rfl rfl rfl rfl ?_
            refine Bu (Qa (Pj (ii:=11) I0 rfl rfl rfl Zi pI)) rfl rfl rfl rfl rfl ?_
            refine go 1 ?_
            refine Zhl rfl rfl rfl rfl rfl (Pk (n:=14) (Ycg _ (62914560*ov) (Nat.le_trans hbm O3)) rfl rfl rfl ⟨rfl,trivial⟩ Tryz.call44 (Zk 96 rfl rfl rfl Zw) rfl hw.h) (fun v_14 _=>?_)
            refine Zhl rfl rfl rfl rfl rfl (Pk (n:=14) (Dq _ _ _ (-(62914560*ov)) (by rw [hck];exact Nat.le_trans (Zb4 (Li hx hy hz i) O O) O3) (by rw [Int.natAbs_neg];exact Nat.le_trans hbm O3)) rfl rfl rfl ⟨rfl,rfl,trivial⟩ Tryz.call43 (He 11 rfl rfl (Zf (i:=k)) (Zk 14 rfl rfl rfl Zw)) rfl hw.h) (fun _ _=>?_)
            refine Bu (Qa (Zj (r':= .bool true) (Yfh rfl rfl rfl) (congrArg Value.bool (decide_eq_true (by rw [hck,Ybr];exact hc2))))) rfl rfl rfl rfl rfl ?_
            refine go 19 ?_
            exact Xj hsc () Tryz.results14 (by rw [Zbd (i:=i) (Zk2 fun h1 h2 h3 h4=>by rw [Zux (j:=k) O O]at h4;cases h4)]) trivial Za
           ·have hck:(g.2.getD k I0).1=(ctl (Zr i x y z) k (k+1)):=by rw [Fd,hg,Ol,if_pos O]
            refine Xw (fun _=>False) [(0,0),(1,0),(2,0),(3,0),(4,0),(5,1),(6,0),(7,0),(8,0),(9,0),(10,0),(11,0),(12,0),(13,1),(14,1),(15,0),(16,0)] ?_
            refine go 2 ?_
            refine Qe rfl rfl (Qa (Yf (ii:=11) (i:=k) rfl rfl rfl rfl Zi Tryz.underlying45 Tryz.sizeOf77 rfl)) ?_
            refine Qe rfl rfl (Qa (Pj (ii:=11) I0 rfl rfl rfl Zi pI)) ?_
            refine go 1 ?_
            refine Fm rfl (Pk (n:=14) (Dq _ _ _ (62914560*ov) (by rw [hck];exact Nat.le_trans (Zb4 (Li hx hy hz i) O O) O3) (Nat.le_trans hbm O3)) rfl rfl rfl ⟨rfl,rfl,trivial⟩ Tryz.call43 (He 11 rfl rfl (Zf (i:=k)) (Zk 96 rfl rfl rfl Zw)) rfl hw.h) (fun _ _=>?_)
            refine Qe rfl rfl (Qa (Zj (r':= .bool false) (Zfn rfl rfl rfl) (congrArg Value.bool (decide_eq_false (by rw [hck,Zs6];exact hc1))))) ?_
            refine go 3 ?_
            refine Bu (Qa (Yf (ii:=11) (i:=k) rfl rfl rfl rfl Zi Tryz.underlying45 Tryz.sizeOf77 rfl)) rfl rfl rfl rfl rfl ?_
            refine Bu (Qa (Pj (ii:=11) I0 rfl rfl rfl Zi pI)) rfl rfl rfl rfl rfl ?_
            refine go 1 ?_
            refine Zhl rfl rfl rfl rfl rfl (Pk (n:=15) (Ycg _ (62914560*ov) (Nat.le_trans hbm O3)) rfl rfl rfl ⟨rfl,trivial⟩ Tryz.call44 (Zk 96 rfl rfl rfl Zw) rfl hw.h) (fun v_15 _=>?_)
            refine Zhl rfl rfl rfl rfl rfl (Pk (n:=15) (Dq _ _ _ (-(62914560*ov)) (by rw [hck];exact Nat.le_trans (Zb4 (Li hx hy hz i) O O) O3) (by rw [Int.natAbs_neg];exact Nat.le_trans hbm O3)) rfl rfl rfl ⟨rfl,rfl,trivial⟩ Tryz.call43 (He 11 rfl rfl (Zf (i:=k)) (Zk 15 rfl rfl rfl Zw)) rfl hw.h) (fun _ _=>?_)
            refine Bu (Qa (Zj (r':= .bool false) (Yfh rfl rfl rfl) (congrArg Value.bool (decide_eq_false (by rw [hck,Ybr];exact hc2))))) rfl rfl rfl rfl rfl ?_
            refine go 12 ⟨O,?_⟩
            refine Yn (Pb 13 98 rfl rfl rfl) ?_
            exact Xb (k+1,v_13) ⟨O1,fun j hj=>by rcases Nat.lt_succ_iff_lt_or_eq.1 hj with h9 | h9;exact hz9 j h9;subst h9;omega⟩ O1 ⟨rfl,trivial⟩ ⟨by rw [Ae _ O];rfl,by rw [Ae _ O];rfl,trivial⟩
          ·obtain rfl:k=(Zr i x y z).length:=O
           rw [List.take_length]
           refine go 11 ⟨O,?_⟩
           refine Yn (Pb 98 98 rfl rfl rfl) ?_
           exact Xb (i+1,vs) ⟨O1,fun k hk=>by rcases Nat.lt_succ_iff_lt_or_eq.1 hk with h9 | h9;exact hax k h9;subst h9;exact Zyj j1 j2 j3 (Zuw fun j hj=>by have:=hz9 j hj;omega)⟩ O1 ⟨rfl,trivial⟩ ⟨by rw [Es x y z O,Im];rfl,by rw [Es x y z O,Im];rfl,trivial⟩
       ·obtain rfl:i=3:=O
        refine go 6 ?_
        refine Xw (fun _=>False) [(0,0),(1,1),(2,1),(3,0),(4,3)] ?_
        refine go 1 ?_
        refine Yx (Zh 16 [] (Em 1 ⟨O3,O3⟩)) fun v_16 _=>?_
        refine Yx (Zh 16 [98,16] (Dq _ _ (Nk ov (Ns 3 x y z)) 1 (Nat.le_trans (hfc0 _) O3) O3)) fun _ _=>?_
        refine go 5 ?_
        exact Xj hsc () Tryz.results14 (by rw [Ybz O hax];exact congrArg Value.bool (decide_eq_decide.2 (by rw [Int.sign_eq_zero_iff_zero];omega))) trivial Za
theorem Zya{a b:Int}{n:Nat}(h:bl a.natAbs≤n):bl (a/b).natAbs≤n:=by
 rw [Xo]at h ⊢
 exact Nat.lt_of_le_of_lt (Int.natAbs_ediv_le_natAbs a b) h
theorem Ydc{a b:Int}(h1:bl a.natAbs≤80)(h2:bl b.natAbs≤80):¬Mz a b:=fun h=>by
 unfold Mz at h
 have:=Zya (b:=Nh a b) h1
 have:=Zya (b:=Nh a b) h2
 omega
theorem Yf5{c:List Int}(h:∀a∈c,Qx a)(hl:c.length≤6):bl (enS c).natAbs≤80:=Zat (Qw h) (by rw [List.length_drop];omega)
theorem Yf6{c:List Int}(h:∀a∈c,Qx a):bl (bgS c).natAbs≤80:=Yf4 (Qw h) _
def jqP(fr to ov:Int)(x y z:List Int)(fr2 to2 ov2:Int)(x2 y2 z2:List Int)(i:Nat):Prop:=qr (bgS (Zr i x2 y2 z2)) (Xn [ov2,to2-fr2])=qr (enS (Zr i x y z)) (Xn [ov,to-fr])
theorem Yiw{fr to ov fr2 to2 ov2:Int}{x y z x2 y2 z2:List Int}(h:∀k,k<3→jqP fr to ov x y z fr2 to2 ov2 x2 y2 z2 k):Zhb fr to ov x y z fr2 to2 ov2 x2 y2 z2=true:=
 decide_eq_true ⟨h 0 O3,h 1 O3,h 2 O3⟩
theorem Yix{fr to ov fr2 to2 ov2:Int}{x y z x2 y2 z2:List Int}{i:Nat}(hi:i<3)(h:¬jqP fr to ov x y z fr2 to2 ov2 x2 y2 z2 i):Zhb fr to ov x y z fr2 to2 ov2 x2 y2 z2=false:=by
 refine decide_eq_false fun⟨h0,h1,h2⟩=>h ?_
 match i,hi with
 | 0,_=>exact h0
 | 1,_=>exact h1
 | 2,_=>exact h2
def frB(ps:List Zz)(sp ac:Int)(i:Nat):Int:=
 if 0<i∧joG (ps.getD (i-1) G0) (ps.getD i G0)=false then 1 else if Hm (Lr 1 sp (ps.getD i G0))=true then 2 else if Hm (Lr 2 ac (ps.getD i G0))=true then 3 else 0
def fiB(ps:List Zz)(sp ac:Int):Option (Nat×Int):=((List.range ps.length).find? fun i=>decide (frB ps sp ac i≠0)).map fun i=>(i,frB ps sp ac i)
theorem Zkf{ps:List Zz}{sp ac:Int}{i:Nat}{c:Int}(hi:i<ps.length)(hk:∀k,k<i→frB ps sp ac k=0)(h:frB ps sp ac i=c)(hc:c≠0):fiB ps sp ac=some (i,c):=by
 unfold fiB
 rw [(List.find?_range_eq_some (n:=ps.length) (i:=i)).2 ⟨by simp [h,hc],List.mem_range.2 hi,fun j hj=>by simp [hk j hj]⟩]
 simp [h]
theorem Zrm{ps:List Zz}{sp ac:Int}{n:Nat}(hn:ps.length≤n)(hk:∀k,k<n→frB ps sp ac k=0):fiB ps sp ac=none:=by
 unfold fiB
 rw [List.find?_eq_none.2 (fun k hk2=>by simp [hk k (by have:=List.mem_range.1 hk2;omega)])]
 rfl
theorem frB_1{ps:List Zz}{sp ac:Int}{i:Nat}(h0:0<i)(h:joG (ps.getD (i-1) G0) (ps.getD i G0)=false):frB ps sp ac i=1:=if_pos ⟨h0,h⟩
theorem frB_2{ps:List Zz}{sp ac:Int}{i:Nat}(h:¬(0<i∧joG (ps.getD (i-1) G0) (ps.getD i G0)=false))(h2:Hm (Lr 1 sp (ps.getD i G0))=true):frB ps sp ac i=2:=by
 unfold frB;rw [if_neg h,if_pos h2]
theorem frB_3{ps:List Zz}{sp ac:Int}{i:Nat}(h:¬(0<i∧joG (ps.getD (i-1) G0) (ps.getD i G0)=false))(h2:Hm (Lr 1 sp (ps.getD i G0))=false)(h3:Hm (Lr 2 ac (ps.getD i G0))=true):frB ps sp ac i=3:=by
 unfold frB;rw [if_neg h,if_neg (by rw [h2];exact Bool.false_ne_true),if_pos h3]
theorem Zw5{ps:List Zz}{sp ac:Int}{i:Nat}(h:¬(0<i∧joG (ps.getD (i-1) G0) (ps.getD i G0)=false))(h2:Hm (Lr 1 sp (ps.getD i G0))=false)(h3:Hm (Lr 2 ac (ps.getD i G0))=false):frB ps sp ac i=0:=by
 unfold frB;rw [if_neg h,if_neg (by rw [h2];exact Bool.false_ne_true),if_neg (by rw [h3];exact Bool.false_ne_true)]
theorem Yei(ps:List Zz)(i:Nat):i=0∨(0<i∧joG (ps.getD (i-1) G0) (ps.getD i G0)=true)∨(0<i∧joG (ps.getD (i-1) G0) (ps.getD i G0)=false):=by
 rcases Nat.eq_zero_or_pos i with h | h
 ·exact .inl h
 ·cases hb:joG (ps.getD (i-1) G0) (ps.getD i G0)with
  | true=>exact .inr (.inl ⟨h,rfl⟩)
  | false=>exact .inr (.inr ⟨h,rfl⟩)
theorem tf(b:Bool):b=false∨b=true:=by cases b<;>simp
def fiI(o:Option (Nat×Int)):Int:=match o with
 | none=>0
 | some g=>g.1
def fiC(o:Option (Nat×Int)):Int:=match o with
 | none=>0
 | some g=>g.2
abbrev firV (o:Option (Nat×Int)):Value:= .tuple #[.agg #[.int .i64 (fiI o),.int .i64 (fiC o)],.bool o.isSome,.int .i64 0]
def Km(a b k:Int):List Int:=if b-a=0∨k=2 then [a]else if k=1 then [a,b-a]else [a,0,0,10*(b-a),-15*(b-a),6*(b-a)]
theorem tmL_0{a b k:Int}(h:b-a=0∨k=2):Km a b k=[a]:=if_pos h
theorem tmL_1{a b k:Int}(h:¬(b-a=0∨k=2))(h1:k=1):Km a b k=[a,b-a]:=(if_neg h).trans (if_pos h1)
theorem tmL_2{a b k:Int}(h:¬(b-a=0∨k=2))(h1:k≠1):Km a b k=[a,0,0,10*(b-a),-15*(b-a),6*(b-a)]:=(if_neg h).trans (if_neg h1)
def Qc(k:Int)(s:SL×SL×SL):Zz:=((0,1000,1),(s.1,Km 0 300 k),(s.2.1,Km 0 400 k),(s.2.2,Km 0 0 k))
def stayG(s:SL×SL×SL):Zz:=((1000,2000,1),(s.1,Km 0 0 2),(s.2.1,Km 0 0 2),(s.2.2,Km 0 0 2))
theorem Iy{l:List Int}(h:l.all (fun a=>decide (-9223372036854775808≤a∧a≤9223372036854775807))=true):∀a∈l,Qx a:=fun a ha=>by
 have:=List.all_eq_true.1 h a ha
 simp only [decide_eq_true_eq]at this;exact this
theorem Mc(k:Int)(hk:k=0∨k=1)(s:SL×SL×SL):Gin (Qc k s):=by
 rcases hk with rfl | rfl
 ·exact⟨show Qx (0:Int)from⟨O3,O3⟩,show Qx (1000:Int)from⟨O3,O3⟩,show Qx (1:Int)from⟨O3,O3⟩,show ∀a∈Km 0 300 0,Qx a from Iy O3,show ∀a∈Km 0 400 0,Qx a from Iy O3,show ∀a∈Km 0 0 0,Qx a from Iy O3⟩
 ·exact⟨show Qx (0:Int)from⟨O3,O3⟩,show Qx (1000:Int)from⟨O3,O3⟩,show Qx (1:Int)from⟨O3,O3⟩,show ∀a∈Km 0 300 1,Qx a from Iy O3,show ∀a∈Km 0 400 1,Qx a from Iy O3,show ∀a∈Km 0 0 1,Qx a from Iy O3⟩
theorem Zb9(s:SL×SL×SL):Gin (stayG s):=⟨show Qx (1000:Int)from⟨O3,O3⟩,show Qx (2000:Int)from⟨O3,O3⟩,show Qx (1:Int)from⟨O3,O3⟩,show ∀a∈Km 0 0 2,Qx a from Iy O3,show ∀a∈Km 0 0 2,Qx a from Iy O3,show ∀a∈Km 0 0 2,Qx a from Iy O3⟩
theorem Zdn(s:SL×SL×SL):Me [Qc 0 s]=true:=O6
theorem Zjw(s:SL×SL×SL):Me [Qc 1 s]=true:=O6
theorem Zp5:El 1000 2000 1 (Km 0 0 2) (Km 0 0 2) (Km 0 0 2)=true:=O7
theorem Ac(k:Int)(hk:k=0∨k=1):El 0 1000 1 (Km 0 300 k) (Km 0 400 k) (Km 0 0 k)=true:=by rcases hk with rfl | rfl<;>decide +kernel
theorem Yd7(s:SL×SL×SL):fiB [Qc 1 s] 500 1=none:=O6
theorem Zjx(s:SL×SL×SL):fiB [Qc 0 s] 500 10000=some (0,2):=O6
theorem Zmj(s:SL×SL×SL):Fi [Qc 1 s]=(500,0,0):=O6
theorem Zmk(s:SL×SL×SL):Fi [Qc 0 s]=(938,2887,0):=O6
theorem Yd3:Zhb 0 1000 1 (Km 0 300 1) (Km 0 400 1) (Km 0 0 1) 1000 2000 1 (Km 0 0 2) (Km 0 0 2) (Km 0 0 2)=false:=O7
theorem Yd4:Zhb 0 1000 1 (Km 0 300 0) (Km 0 400 0) (Km 0 0 0) 1000 2000 1 (Km 0 0 2) (Km 0 0 2) (Km 0 0 2)=true:=O7
open Go.RowKit (Below)
variable {P:Program} {N:Nat} {sc:Nat→Prop} {env env':Qt} {H H':Hp} {Q Q':Exit→Act→World→Prop}
theorem Zqj{n:Nat}{row:String}{args:Array Value}{w:World}{R:Value→World→Prop}(h:Rows P row args w R):RowsIn Fence.wide n P row args w R:=fun c cs _=>
 let ⟨v,w',r,s⟩:=h c cs;⟨v,w',r,stepsIn_wide.2 s⟩
def noQ:Exit→Act→World→Prop:=fun _ _ _=>False
theorem Zj1:¬LetsOut noQ:=fun⟨_,_,h⟩=>h
theorem Yh7{o:Oper}{a:Act}{w:World}{K:Act→World→Prop}(h:o.wp P a w K noQ):o.wpIn Fence.wide 0 P a w K Q:=by
 refine⟨fun _ _=>trivial,?_⟩
 unfold Oper.wp at h
 show o.uponIn Fence.wide 0 P a K Q ((execOp a.eval o).run P w)
 generalize (execOp a.eval o).run P w=r at *
 cases r with
 | ok n w'=>
  cases n<;>simp only [Oper.upon,Oper.uponIn]at h ⊢
  case value=>exact h
  case skip=>exact h
  case defer=>exact h
  case enter f args=>
   refine⟨fun h=>(by cases h),callsIn_wide.2 (h.mono fun e w'' he=>?_)⟩
   cases e with
   | returned v=>exact he
   | panicked c=>exact he.elim
   | outgrown=>exact absurd he Zj1
  case row row args=>exact⟨fun h=>(by cases h),Zqj h⟩
 | halt x w'=>
  cases x<;>simp only [Oper.upon]at h
  case panic u=>exact h.elim
theorem Ygp{ops:Array Oper}{i:Nat}{K:Act→World→Prop}{a:Act}{w:World}(h:wpOp P ops noQ i K a w):wpOpIn Fence.wide 0 P ops Q i K a w:=by
 unfold wpOp at h
 unfold wpOpIn
 cases ho:ops[i]? with
 | none=>simp only [ho]at h ⊢;exact h
 | some o=>
  simp only [ho]at h ⊢
  split
  ·rename_i hw
   simp only [hw,if_true]at h
   exact Yh7 (h.resolve_right fun h=>Zj1 h.2)
  ·rename_i hw
   simp only [hw]at h
   exact⟨fun _ _=>trivial,h⟩
section
variable {ops:Array Oper} {C:World→World→Prop}
def Hz(P:Program)(ops:Array Oper)(ts:List Nat)(C:World→World→Prop)(Q:Exit→Act→World→Prop):Nat→Array Bool→Act→World→Prop
 | 0,_,_,_=>False
 | fuel+1,listed,a,w=>if Gb ops ts listed=true then wpAnyIn Fence.wide 0 P .any ops Q (fuel+1) listed a w else
  (Region.ready .any ops listed=[]→False)∧
  ∀i∈Region.ready .any ops listed,wpOp P ops noQ i (fun a' w'=>C w w'∧Hz P ops ts C Q fuel (listed.setIfInBounds i true) a' w') a w
theorem Zd4{ts:List Nat} : ∀(fuel:Nat) (listed:Array Bool) (a:Act) (w:World),Hz P ops ts C Q fuel listed a w→wpAnyIn Fence.wide 0 P .any ops Q fuel listed a w
 | 0,_,_,_,h=>h.elim
 | fuel+1,listed,_,_,h=>by
  unfold Hz at h
  split at h
  ·exact h
  ·exact⟨fun h0=>(h.1 h0).elim,fun i hi=>Ygp (wpOp_mono (fun _ _ hk=>Zd4 fuel _ _ _ hk.2) (h.2 i hi))⟩
inductive Dep (ops:Array Oper) (i:Nat):Nat→Prop
 | base {j:Nat} {o:Oper} {e:Edge} : ops[j]? = some o→e∈o.after→Region.binds .any e=true→e.on=i→Dep ops i j
 | step {j:Nat} {o:Oper} {e:Edge} : ops[j]? = some o→e∈o.after→Region.binds .any e=true→Dep ops i e.on→Dep ops i j
def Zrz(ops:Array Oper)(i:Nat):Nat→List Nat
 | 0=>[]
 | k+1=>match ops[k]? with
  | some o=>if o.after.any (fun e=>Region.binds .any e && (e.on == i || (Zrz ops i k).contains e.on))then k :: Zrz ops i k else Zrz ops i k
  | none=>Zrz ops i k
theorem Zbx{i:Nat} : ∀(n j:Nat),j∈Zrz ops i n→Dep ops i j
 | 0,_,h=>by cases h
 | k+1,j,h=>by
  unfold Zrz at h
  cases ho:ops[k]? with
  | none=>simp only [ho]at h;exact Zbx k j h
  | some o=>
   simp only [ho]at h
   split at h
   ·rename_i ha
    rcases List.mem_cons.1 h with h0 | h
    ·rw [h0]
     obtain⟨e,he,hb⟩:=Array.any_eq_true'.1 ha
     simp only [Bool.and_eq_true,Bool.or_eq_true,beq_iff_eq]at hb
     rcases hb.2 with h1 | h1
     ·exact .base ho he hb.1 h1
     ·exact .step ho he hb.1 (Zbx k _ (by simpa using h1))
    ·exact Zbx k j h
   ·exact Zbx k j h
def Clo(ops:Array Oper)(listed:Array Bool):Prop:=∀k o,ops[k]? = some o→listed.getD k true=true→∀e∈o.after,Region.binds .any e=true→listed.getD e.on true=true
theorem Zoj{l:Array Bool}{x:Nat}(h:l.getD x false=true):l.getD x true=true:=by
 rcases Nat.lt_or_ge x l.size with h' | h'<;>simp_all
theorem Clo.un{listed:Array Bool}{i j:Nat}(hc:Clo ops listed)(hi:listed.getD i true=false)(hd:Dep ops i j):listed.getD j true=false:=by
 induction hd with
 | @base k o e ho he hb hon=>
  cases hl:listed.getD k true with
  | false=>rfl
  | true=>have:=hc _ _ ho hl _ he hb;rw [hon,hi]at this;cases this
 | @step k o e ho he hb _ ih=>
  cases hl:listed.getD k true with
  | false=>rfl
  | true=>have:=hc _ _ ho hl _ he hb;rw [ih]at this;cases this
theorem Clo.not_ready{listed:Array Bool}{i j:Nat}(hc:Clo ops listed)(hi:listed.getD i true=false)(hd:Dep ops i j):j ∉ Region.ready .any ops listed:=fun hr=>by
 obtain⟨_,oj,hoj,hall⟩:=mem_ready.1 hr
 cases hd with
 | base ho he hb hon=>
  rw [hoj]at ho;cases ho
  have:=Zoj (hall _ he hb)
  rw [hon,hi]at this;cases this
 | step ho he hb hd=>
  rw [hoj]at ho;cases ho
  have h1:=Zoj (hall _ he hb)
  rw [hc.un hi hd]at h1;cases h1
theorem Clo.set{listed:Array Bool}{j:Nat}(hc:Clo ops listed)(hj:j∈Region.ready .any ops listed):Clo ops (listed.setIfInBounds j true):=fun k o ho hk e he hb=>by
 obtain⟨hun,oj,hoj,hall⟩:=mem_ready.1 hj
 have key:listed.getD e.on true=true:=by
  by_cases hjk:j=k
  ·subst hjk
   rw [hoj]at ho;cases ho
   exact Zoj (hall _ he hb)
  ·rw [getD_set_ne true hjk]at hk
   exact hc k o ho hk e he hb
 by_cases hje:j=e.on
 ·subst hje
  by_cases hs:e.on<listed.size<;>simp_all
 ·rw [getD_set_ne true hje];exact key
theorem Am {ts:List Nat} {i:Nat} {oi:Oper} {v:Value} (hi:ops[i]? = some oi) (hsel:∀(j:Nat) (o:Oper) cs b,ops[j]? = some o→o.op≠ .select cs b)
  (hts:i ∉ ts) (haft:∀j∈ts,Dep ops i j)
  (hrefl:∀w,C w w) (htrans:∀a b c,C a b→C b c→C a c) :
  ∀(fuel:Nat) (listed:Array Bool) (a:Act) (w:World),Clo ops listed→
   (∀j oj,ops[j]? = some oj→j≠i→listed.getD j true=false→(∀e∈oj.after,Region.binds .any e=true→e.on≠i)→oi.apart ops oj=true)→
   i∈Region.ready .any ops listed→YieldsC P ops C oi v a w→
   Hz P ops ts C Q fuel (listed.setIfInBounds i true) (a.put oi.dst v) w→Hz P ops ts C Q (fuel+1) listed a w:=by
 intro fuel
 induction fuel with
 | zero=>intro listed a w _ _ hr hy H;exact H.elim
 | succ fuel ih=>
  intro listed a w hclo hfree hr hy H
  have hnt:=Dz hi hts (mem_ready.1 hr).1
  unfold Hz
  rw [if_neg (by rw [hnt];exact Bool.false_ne_true)]
  refine⟨fun h=>(by rw [h]at hr;cases hr),fun j hj=>?_⟩
  by_cases hji:j=i
  ·subst hji;exact hy.wpOp hi (hrefl w) ⟨hrefl w,H⟩
  ·obtain⟨hjun,oj,hoj,hall⟩:=mem_ready.1 hj
   have hnot:∀e∈oj.after,Region.binds .any e=true→e.on≠i:=fun e he hb heq=>by
    have h1:=hall e he hb
    have h0:=(mem_ready.1 hr).1
    rw [heq]at h1
    rcases Nat.lt_or_ge i listed.size with h' | h'
    ·simp [h']at h0 h1;rw [h0]at h1;cases h1
    ·simp [Array.getElem?_eq_none h']at h1
   have hjts:j ∉ ts:=fun hm=>hclo.not_ready (mem_ready.1 hr).1 (haft j hm) hj
   have hnt2:Gb ops ts (listed.setIfInBounds i true)=false:=Dz hoj hjts (by rw [getD_set_ne true (Ne.symm hji)];exact hjun)
   unfold Hz at H
   rw [if_neg (by rw [hnt2];exact Bool.false_ne_true)]at H
   have h1:=H.2 j (ready_mono hj hji)
   have h2:=Zlj (Y:=fun a=>YieldsC P ops C oi v a w) hoj (hfree j oj hoj hji hjun hnot) (fun cs b=>hsel i oi cs b hi) (fun cs b=>hsel j oj cs b hoj) (fun _ _ _ h=>h)
    (fun a a' hy he hw=>YieldsC.of_same hy he hw) hy h1
   have hfree':∀k ok,ops[k]? = some ok→k≠i→(listed.setIfInBounds j true).getD k true=false→
     (∀e∈ok.after,Region.binds .any e=true→e.on≠i)→oi.apart ops ok=true:=fun k ok hk hki hun hno=>by
    refine hfree k ok hk hki ?_ hno
    by_cases hjk:j=k
    ·subst hjk;exact hjun
    ·rw [getD_set_ne true hjk]at hun;exact hun
   refine wpOp_mono (fun a' w' h3=>⟨h3.2.1,ih (listed.setIfInBounds j true) a' w' (hclo.set hj) hfree' (ready_mono hr (Ne.symm hji)) (h3.1.later htrans h3.2.1) ?_⟩) h2
   rw [Array.setIfInBounds_comm _ _ hji]
   exact h3.2.2
end
def Bb(ops:Array Oper)(ts:List Nat):List (Nat×Nat)→Array Bool→Bool
 | [],_=>true
 | (i,1) :: rest,listed=>(Region.ready .any ops listed == [i]) && !(Gb ops ts listed) && Bb ops ts rest (listed.setIfInBounds i true)
 | (i,3) :: rest,listed=>false
 | (i,_) :: rest,listed=>(Region.ready .any ops listed).contains i && Region.free .any ops listed i && !(ts.contains i) && ts.all (fun j=>(Zrz ops i ops.size).contains j) && Bb ops ts rest (listed.setIfInBounds i true)
theorem depZ{ops:Array Oper}{ts:List Nat}{i:Nat}(h:ts.all (fun j=>(Zrz ops i ops.size).contains j)=true):∀j∈ts,Dep ops i j:=fun j hj=>by
 rw [List.all_eq_true]at h
 exact Zbx _ _ (by simpa using h j hj)
theorem LD.soundZ{M:Nat→Prop}{ops:Array Oper}{ts:List Nat}{F:Qt→Hp→Prop}{k:Nat}(hsel:Region.noSelect ops=true):∀(plan:List (Nat×Nat)) (listed:Array Bool) (env:Qt) (H:Hp),Clo ops listed→Bb ops ts plan listed=true→
  LD P N sc M ops F plan env H→(∀env H a w,F env H→Sat N sc env H a w→wpAnyIn Fence.wide 0 P .any ops Q (k+1) (Kh plan listed) a w)→Gb ops ts (Kh plan listed)=true→
  ∀a w,Sat N sc env H a w→Hz P ops ts (Chg M) Q (plan.length+(k+1)) listed a w
 | [],listed,env,H,hc,hp,h,hF,ht,a,w,hs=>by
  show Hz P ops ts (Chg M) Q (0+k+1) listed a w
  rw [Nat.zero_add]
  unfold Hz
  rw [if_pos (by simpa [Kh]using ht)]
  exact hF _ _ a w h hs
 | (i,0) :: rest,listed,env,H,hc,hp,h,hF,ht,a,w,hs=>by
  simp only [Bb,Bool.and_eq_true]at hp
  obtain⟨⟨⟨⟨hr,hf⟩,hnt⟩,haf⟩,hp⟩:=hp
  obtain⟨o,d,v,ho,hd,hN,hv,hrest⟩:=h
  obtain⟨hw,hv⟩:=hv a w hs
  have ih:=LD.soundZ hsel rest (listed.setIfInBounds i true) _ _ (hc.set (by simpa using hr)) hp hrest hF ht _ w (hs.put d v hN)
  show Hz P ops ts (Chg M) Q ((rest.length+1)+(k+1)) listed a w
  rw [Nat.add_right_comm]
  refine Am ho (Region.noSelect_spec hsel) (by simpa using hnt) (depZ haf) (Chg.refl M) (fun _ _ _=>Chg.trans) (rest.length+(k+1)) listed a w hc (Region.free_spec ho hf) (by simpa using hr) (.inl ⟨hw,hv⟩) ?_
  rw [hd];exact ih
 | (i,1) :: rest,listed,env,H,hc,hp,h,hF,htt,a,w,hs=>by
  simp only [Bb,Bool.and_eq_true,beq_iff_eq,Bool.not_eq_true']at hp
  obtain⟨⟨hr,htl⟩,hp⟩:=hp
  obtain⟨o,G,φ,genv,gH,ho,hw,ht,hrest⟩:=h
  show Hz P ops ts (Chg M) Q ((rest.length+1)+(k+1)) listed a w
  rw [Nat.add_right_comm]
  unfold Hz
  rw [if_neg (by rw [htl];exact Bool.false_ne_true)]
  refine⟨fun h0=>(by rw [hr]at h0;cases h0),fun j hj=>?_⟩
  rw [hr]at hj
  have hj:=List.mem_singleton.1 hj
  subst hj
  unfold wpOp
  simp only [ho,hw a w hs,if_true]
  exact .inl (ht a w hs _ _ fun g a' w' hg hs' hch=>⟨hch,LD.soundZ hsel rest _ _ _ (hc.set (by rw [hr];exact List.mem_singleton.2 rfl)) hp (hrest g hg) hF htt a' w' hs'⟩)
 | (i,3) :: rest,listed,env,H,hc,hp,h,hF,ht,a,w,hs=>by cases hp
 | (i,2) :: rest,listed,env,H,hc,hp,h,hF,ht,a,w,hs=>by
  simp only [Bb,Bool.and_eq_true]at hp
  obtain⟨⟨⟨⟨hr,hf⟩,hnt⟩,haf⟩,hp⟩:=hp
  obtain⟨o,d,ho,hd,hN,hv,hrest⟩:=h
  have ih:=LD.soundZ hsel rest (listed.setIfInBounds i true) _ _ (hc.set (by simpa using hr)) hp hrest hF ht _ w (hs.put d undef hN)
  show Hz P ops ts (Chg M) Q ((rest.length+1)+(k+1)) listed a w
  rw [Nat.add_right_comm]
  refine Am ho (Region.noSelect_spec hsel) (by simpa using hnt) (depZ haf) (Chg.refl M) (fun _ _ _=>Chg.trans) (rest.length+(k+1)) listed a w hc (Region.free_spec ho hf) (by simpa using hr) (.inr ⟨hv a w hs,rfl⟩) ?_
  rw [hd];exact ih
 | (i,(m+4)) :: rest,listed,env,H,hc,hp,h,hF,ht,a,w,hs=>by
  simp only [Bb,Bool.and_eq_true]at hp
  obtain⟨⟨⟨⟨hr,hf⟩,hnt⟩,haf⟩,hp⟩:=hp
  obtain⟨o,d,ho,hd,hN,hv,hrest⟩:=h
  have ih:=LD.soundZ hsel rest (listed.setIfInBounds i true) _ _ (hc.set (by simpa using hr)) hp hrest hF ht _ w (hs.put d undef hN)
  show Hz P ops ts (Chg M) Q ((rest.length+1)+(k+1)) listed a w
  rw [Nat.add_right_comm]
  refine Am ho (Region.noSelect_spec hsel) (by simpa using hnt) (depZ haf) (Chg.refl M) (fun _ _ _=>Chg.trans) (rest.length+(k+1)) listed a w hc (Region.free_spec ho hf) (by simpa using hr) (.inr ⟨hv a w hs,rfl⟩) ?_
  rw [hd];exact ih
theorem clo0(l:List Oper):Clo l.toArray (Array.replicate l.length false):=fun k o ho hk=>by
 have:=(Array.getElem?_eq_some_iff.1 ho).1
 simp at this
 simp [this]at hk
def YL(P:Program)(N:Nat)(sc:Nat→Prop)(ops:Array Oper)(Q:Exit→Act→World→Prop)(k:Nat)(listed:Array Bool)(env:Qt)(H:Hp):Prop:=
 ∀a w,Sat N sc env H a w→wpAnyIn Fence.wide 0 P .any ops Q (k+1) listed a w
theorem Zo0 {id:Nat} {l:List Oper} (plan:List (Nat×Nat)) (ts:List Nat) (k:Nat) 
  
  (h:LD P N sc (fun _=>False) l.toArray (YL P N sc l.toArray Q k (Kh plan (Array.replicate l.length false))) plan env H) (hm:P.follows .mixedOrders=true:=by kernel_rfl) (hp:(Region.noSelect l.toArray && Nat.beq (plan.length+(k+1)) l.length && Bb l.toArray ts plan (Array.replicate l.length false) &&
   Gb l.toArray ts (Kh plan (Array.replicate l.length false)))=true:=by kernel_rfl):E P N sc (.region id l.toArray true) Q env H:=fun a w hs=>by
 simp only [Bool.and_eq_true]at hp
 obtain⟨⟨⟨h1,h3⟩,h4⟩,h5⟩:=hp
 have h3:=Nat.eq_of_beq_eq_true h3
 refine(wpIn_wide (n:=0)).1 (wpIn_region_any hm (Zd4 (C:=Chg (fun _=>False)) (ts:=ts) _ _ _ _ ?_))
 have:=LD.soundZ (Q:=Q) h1 plan _ env H (clo0 _) h4 h (fun env H a w hF hs=>hF a w hs) h5 a _ hs.drew
 rw [h3]at this
 simpa using this
end Go.Sky
namespace Go.Sky
open Go.RowKit (Below)
variable {P:Program} {N:Nat} {sc:Nat→Prop} {env env':Qt} {H H':Hp} {Q Q':Exit→Act→World→Prop}
theorem Zy8 {M:Nat→Prop} {ops:Array Oper} {F:Qt→Hp→Prop} {i:Nat} {rest:List (Nat×Nat)} {o:Oper} {d j e:Nat} {b:Bool} {v:Value} (ho:ops[i]? = some o) (hg:o.guard=some (j,b)) (hj:(ops[j]?).bind (·.dst)=some e) (he:lk env e=some (.bool b)) (hd:o.dst=some d) 
  (hs:Stb P N sc M o env H v) (h:LD P N sc M ops F rest ((d,v) :: env) H) (heN:Nat.blt e N=true:=by rfl) (hN:Nat.blt d N=true:=by rfl):LD P N sc M ops F ((i,0) :: rest) env H:=Bu hs ho hg hj he hd h heN hN
theorem Zst {ops:Array Oper} {listed:Array Bool} {i d1 d3 loop:Nat} {o1:Oper} {x y:Operand} {tys:Array TypeId} {xv:Value} {j e:Nat} {bv:Bool} {J:World→Prop}
  (hr:(Region.ready .any ops listed == [i] && Region.ready .any ops (listed.setIfInBounds i true) == [i+1] && Region.ready .any ops ((listed.setIfInBounds i true).setIfInBounds (i+1) true) == [i+2] &&
   (Region.ready .any ops (((listed.setIfInBounds i true).setIfInBounds (i+1) true).setIfInBounds (i+2) true)).isEmpty)=true)
  (h1:ops[i]? = some o1) (ho:o1.op= .call { callee:= .value x,args:=#[y],argTypes:=tys }) (hd:o1.dst=some d1) (hN:Nat.blt d1 N=true)
  (hg:o1.guard=some (j,bv)) (hj:(ops[j]?).bind (·.dst)=some e) (he:lk env e=some (.bool bv)) (heN:Nat.blt e N=true)
  (hx:ev env x=some (.func (.yield loop) #[] #[])) (hy:ev env y=some xv)
  (hJ:∀a w,Sat N sc env H a w→YieldAt Fence.wide 0 P loop #[xv] w fun e W'=>e= .returned (.bool false)∧J W')
  (hl:LD P N sc (fun _=>False) ops (fun env' _=>lk env' d3=some (.bool true)) [(i+1,0),(i+2,0)] ((d1,.bool false) :: env) [])
  (hF:∀a w,a.eval (.tmp d3)= .bool true→a.defers=[]→J w→Q .normal a w):YL P N sc ops Q 2 listed env H:=fun a w hs=>by
 simp only [Bool.and_eq_true,beq_iff_eq]at hr
 obtain⟨⟨⟨r1,r2⟩,r3⟩,r4⟩:=hr
 obtain⟨fn,tmps,assign,body,hrun,hround⟩:=hJ a w hs
 have hrr:(o1.semAt Fence.wide.round a.eval).run P w= .ok (.round loop fn tmps assign body) w:=by
  show(execOp a.eval o1).run P w=_
  simp [execOp,ho,resolve,invoke,Deferred.ofValue,hs.ev hx,hs.ev hy,hrun,Sem.run_bind]
 unfold wpAnyIn
 refine⟨fun h=>(by rw [r1]at h;cases h),fun k hk=>?_⟩
 rw [r1]at hk
 obtain rfl:=List.mem_singleton.1 hk
 have hy1:=hs.yielded hj he heN
 have hw:Region.wanted o1 (yielded ops a.tmps)=true:=by simp [Region.wanted,hg,hy1]
 unfold wpOpIn
 simp only [h1,hw,if_true]
 refine⟨fun _ _=>trivial,?_⟩
 rw [hrr]
 refine⟨fun h=>(by cases h),hround.mono ?_⟩
 rintro e W' ⟨rfl,hJ'⟩
 have hs1:Sat N sc ((d1,.bool false) :: env) [] (a.put o1.dst (.bool false)) W':=by
  rw [hd]
  have h0:Sat N sc env [] a W':=⟨hs.size,hs.defers,hs.env,fun i it h=>(by cases h),fun i j it jt _ h=>(by cases h),fun i it _ h=>(by cases h)⟩
  exact h0.put d1 _ hN
 show wpAnyIn Fence.wide 0 P .any ops Q (1+1) _ _ W'
 obtain⟨o2,d2,v2,ho2,hd2,hN2,hv2,o3,d3',v3,ho3,hd3,hN3,hv3,hf⟩:=hl
 obtain⟨w2,e2⟩:=hv2 _ _ hs1
 have e2:=e2 _ (Chg.refl _ _)
 have hs2:=hs1.put d2 v2 hN2
 obtain⟨w3,e3⟩:=hv3 _ _ hs2
 have e3:=e3 _ (Chg.refl _ _)
 have hs3:=hs2.put d3' v3 hN3
 unfold wpAnyIn
 refine⟨fun h=>(by rw [r2]at h;cases h),fun k hk=>?_⟩
 rw [r2]at hk
 obtain rfl:=List.mem_singleton.1 hk
 unfold wpOpIn
 simp only [ho2,w2,if_true]
 refine⟨fun _ _=>trivial,?_⟩
 show o2.uponIn Fence.wide 0 P _ _ Q ((execOp _ o2).run P W')
 rw [e2]
 show wpAnyIn Fence.wide 0 P .any ops Q (0+1) _ _ W'
 rw [hd2]
 unfold wpAnyIn
 refine⟨fun h=>(by rw [r3]at h;cases h),fun k hk=>?_⟩
 rw [r3]at hk
 obtain rfl:=List.mem_singleton.1 hk
 unfold wpOpIn
 simp only [ho3,w3,if_true]
 refine⟨fun _ _=>trivial,?_⟩
 show o3.uponIn Fence.wide 0 P _ _ Q ((execOp _ o3).run P W')
 rw [e3]
 show wpAnyIn Fence.wide 0 P .any ops Q 0 _ _ W'
 rw [hd3]
 exact⟨by simpa using r4,hF _ _ (hs3.ev hf) hs3.defers hJ'⟩
def Yki(P:Program)(f:FuncId)(lb:List Value)(pre:List Pc)(φ0:Prop){G:Type}(φ1:G→Prop)(xv:G→Value):Prop:=
 ∀(l:Nat) (J:World→Prop) (w:World),(∀p∈pre,p.holds w)→
  (∀g,φ1 g→∀W1,Below w.heap.size w W1→YieldAt Fence.wide 0 P l #[xv g] W1 fun e W'=>e= .returned (.bool false)∧J W')→
  Calls P f (.func (.yield l) #[] #[] :: lb).toArray w fun e w'=>(∃v,e= .returned v)∧((φ0∧Below w.heap.size w w')∨J w')
def Zu7(P:Program)(fn:Func)(w0:World)(φ0:Prop)(J:World→Prop):Exit→Act→World→Prop:=
 bodyPost P fn fun e w'=>(∃v,e= .returned v)∧((φ0∧Below w0.heap.size w0 w')∨J w')
def YJ(P:Program)(w0:World)(l:Nat){G:Type}(φ1:G→Prop)(xv:G→Value)(J:World→Prop):Prop:=
 ∀g,φ1 g→∀W1,Below w0.heap.size w0 W1→YieldAt Fence.wide 0 P l #[xv g] W1 fun e W'=>e= .returned (.bool false)∧J W'
theorem Yj3 {f:FuncId} {fn:Func} {c:Code} {lb:List Value} {pre:List Pc} {φ0:Prop} {G:Type} {φ1:G→Prop} {xv:G→Value} {N:Nat}
  (hf:P.funcs[f]? = some fn) (hb:fn.body=some c) (hN:fn.ntmps=N) (hle:Nat.ble (lb.length+1) N=true) (hro:AllRo pre)
  (h:∀(l:Nat) (J:World→Prop) w0 (sc:Nat→Prop),(∀b,w0.heap.size≤b→sc b)→YJ P w0 l φ1 xv J→
   E P N sc c (Zu7 P fn w0 φ0 J) (Po 0 (.func (.yield l) #[] #[] :: lb)) ((0,Xf w0 (fun _=>False)) :: Xx 1 pre)) :
  Yki P f lb pre φ0 φ1 xv:=fun l J w hp hJ=>by
 refine calls_of_wp hf hb (h l J w (fun b=>w.heap.size≤b∨∃q∈pre,q.fp b) (fun b hb=> .inl hb) hJ _ w ?_)
 have hle':lb.length+1≤N:=by simpa using hle
 refine⟨by simp [hN];omega,rfl,fun t v ht=>?_,fun i p hi=>?_,fun i j p q hne hi hj ho b hb hb'=>?_,fun i p hi0 hi b hb=>?_⟩
 ·have h1:=(Ii (.func (.yield l) #[] #[] :: lb) 0 t v ht).2
  have h1:(Value.func (.yield l) #[] #[] :: lb).toArray[t]? = some v:=by simpa using h1
  have hlt:=(Array.getElem?_eq_some_iff.1 h1).1
  rw [Array.getD_eq_getD_getElem?,Array.getElem?_append_left hlt,h1];rfl
 ·by_cases h0:0=i
  ·subst h0;rw [Zx]at hi;cases hi;exact Chg.refl _ w
  ·rw [Zl _ _ h0]at hi
   exact hp p (Pp pre 1 i p hi).2
 ·by_cases h0:0=i
  ·subst h0;rw [Zx]at hi;cases hi;cases ho
  ·rw [Zl _ _ h0]at hi
   rw [hro.mem p (Pp pre 1 i p hi).2]at ho;cases ho
 ·rw [Zl _ _ (fun e=>hi0 e.symm)]at hi
  exact .inr ⟨p,(Pp pre 1 i p hi).2,hb⟩
theorem Zjb{fn:Func}{tmps:Array Value}{w:World}(hf:fn.results=#[]):(results fn tmps).run P w= .ok (.tuple #[]) w:=by
 rw [Zja,hf];simp
theorem x_endy{fn:Func}{φ0:Prop}{J:World→Prop}{w0:World}{e:Exit}(he:e= .ret∨e= .normal)(hf:fn.results=#[])(h0:lk H 0=some (Xf w0 (fun _=>False)))(h:φ0):X N sc e (Zu7 P fn w0 φ0 J) env H:=fun a w hs=>by
 have key:a.defers=[]∧∃v,(results fn a.tmps).run P w= .ok v w∧((∃u,Ending.returned v= .returned u)∧((φ0∧Below w0.heap.size w0 w)∨J w)):=
  ⟨hs.defers,_,Zjb hf,⟨_,rfl⟩,.inl ⟨h,Pz (hs.hold 0 _ h0)⟩⟩
 rcases he with rfl | rfl<;>exact key
theorem r_y{ops:Array Oper}{M:Nat→Prop}{k:Nat}{listed:Array Bool}(h:YL P N sc ops Q k listed env H):LD P N sc M ops (YL P N sc ops Q k listed) [] env H:=h
theorem Zds{fn:Func}{φ0:Prop}{J:World→Prop}{w0:World}{a:Act}{w:World}(hd:a.defers=[])(hf:fn.results=#[])(h:J w):Zu7 P fn w0 φ0 J .ret a w:=
 ⟨hd,_,Zjb hf,⟨_,rfl⟩,.inr h⟩
end Go.Sky
namespace Go.Sky
open Go.RowKit (Below)
variable {P:Program} {N:Nat} {sc:Nat→Prop} {env env':Qt} {H H':Hp} {Q Q':Exit→Act→World→Prop}
theorem Ygq {g:Operand} {ps:Array Tmp} {assign body:Code} {a:Act} {w:World} {gf:Nat} {lb:List Value} {pre:List Pc} {φ0:Prop} {G:Type} {φ1:G→Prop} {xv:G→Value}
  (hg:a.eval g= .func (.func gf) #[] lb.toArray) (eg:∀args w,(callFunc gf args).run P w= .ok (.enter gf args) w) (hc:Yki P gf lb pre φ0 φ1 xv) (hp:∀p∈pre,p.holds w) (hps:ps.size=1)
  (Jr:G→World→Prop) (hJr:∀g W l o',w.heap.size≤l→Jr g W→Jr g (W.putObj l o'))
  (hround:∀g,φ1 g→∀(l D:Nat) (W:World) (o1 o2 od:Obj),Below w.heap.size w W→w.heap.size≤l→w.heap.size≤D→l≠D→W.heap[l]? = some o1→W.heap[D]? = some od→
   assign.wpIn (Fence.wide.inRound l) 0 P (Exit.then (fun a1 W1=>W1.heap[l]? = some o1∧W1.heap[D]? = some od∧body.wpIn (Fence.wide.inRound l) 0 P (fun e _ W3=>e= .ret∧W3.heap[l]? = some o2∧W3.heap[D]? = some od∧Jr g W3) a1 (W1.putObj l o2)) (fun _ _ _=>False))
    {tmps:=(ps.zip #[xv g]).foldl (fun t (p,v)=>t.setIfInBounds p v) a.tmps,defers:=[] } W)
  (hdone:∀(D:Nat) (W:World),w.heap.size≤D→φ0→Below w.heap.size w W→W.heap[D]? = some (.deferred (some []))→Q .normal { a with defers:={ target:= .collected D,args:=#[] } :: a.defers } W)
  (hstop:∀g (D:Nat) (W:World),w.heap.size≤D→φ1 g→Jr g W→W.heap[D]? = some (.deferred (some []))→Q .ret { a with defers:={ target:= .collected D,args:=#[] } :: a.defers } W) :
  (Code.rangeFunc g ps assign body).wpIn Fence.wide 0 P Q a w:=by
 refine wpIn_rangeFunc ?_
 intro fn hfn
 obtain⟨rec,hrec⟩:∃rec:LoopState→Option Code→Loop,rec=fun st pe=>{ state:=st,pending:=pe,fn,tmps:=a.tmps,params:=ps,assign,body,defers:=w.heap.size }:=⟨_,rfl⟩
 obtain⟨W1,hW1⟩:∃W1,(w.alloc (.deferred (some []))).alloc (.loop (rec .ready none))=W1:=⟨_,rfl⟩
 have hL1:W1.heap[w.heap.size+1]? = some (.loop (rec .ready none)):=by
  rw [←hW1];have:=World.alloc_heap_new (w.alloc (.deferred (some []))) (.loop (rec .ready none));rwa [World.size_alloc]at this
 have hK1:W1.heap[w.heap.size]? = some (.deferred (some [])):=by
  rw [←hW1];exact(Below.heap_alloc _ _ _ O5).trans (World.alloc_heap_new w _)
 have hb1:Below w.heap.size w W1:=by
  rw [←hW1];exact((Below.refl _ w).alloc (Nat.le_refl _) _).alloc O5 _
 have hs1:W1.heap.size=w.heap.size+2:=by rw [←hW1];simp
 have e0:(#[.func (.yield (w.heap.size+1)) #[] #[]] ++ lb.toArray:Array Value)=(Value.func (.yield (w.heap.size+1)) #[] #[] :: lb).toArray:=O5
 refine⟨w.heap.size+1,[{ target:= .collected w.heap.size,args:=#[] }],W1,{ target:= .fn (.func gf) lb.toArray,args:=#[.func (.yield (w.heap.size+1)) #[] #[]] },W1,gf,
  (Value.func (.yield (w.heap.size+1)) #[] #[] :: lb).toArray,W1,?_,?_,fun _ _=>trivial,?_,fun h=>(by cases h),?_⟩
 ·rw [←hW1,hrec];exact run_enterLoop_outer _ _ _ _ _
 ·simp only [resolve,hg]
  simp [go_sem]
 ·simp [invoke,go_sem,eg]
 ·refine callsIn_wide.2 ((hc (w.heap.size+1) (fun W=>W.heap[w.heap.size+1]? = some (.loop (rec .done (some .ret)))∧W.heap[w.heap.size]? = some (.deferred (some []))∧∃g,φ1 g∧Jr g W) W1
   (fun p hpp=>p.stable _ _ (hp p hpp) (Chg.of_below hb1)) ?_).mono ?_)
  ·intro x hx W hBW
   have hl:W.heap[w.heap.size+1]? = some (.loop (rec .ready none)):=(hBW.block _ O).trans hL1
   have hk:W.heap[w.heap.size]? = some (.deferred (some [])):=(hBW.block _ O).trans hK1
   have hy:=run_yield (P:=P) (args:=#[xv x]) hl (by rw [hrec];simp [hps])
   have hr:=hround x hx (w.heap.size+1) w.heap.size W (.loop (rec .ready none)) (.loop { rec .ready none with state:= .busy }) (.deferred (some [])) (hb1.trans (hBW.mono O)) O (Nat.le_refl _) O hl hk
   rw [hrec]at hy
   refine⟨fn,_,assign,body,hy,roundIn_of_wpIn hfn ?_⟩
   refine wpIn_mono hr ?_
   intro e a1 W2 h2
   cases e with
   | normal=>
    obtain⟨hl2,hd2,hbody⟩:=h2
    refine⟨_,run_beginRound hl2 (by rw [hrec]),wpIn_mono hbody ?_⟩
    rintro e a3 W3 ⟨rfl,hl3,hd3,hj⟩
    have:=run_endRound (P:=P) (some .ret) hl3
    have hlt3:=(Array.getElem?_eq_some_iff.1 hl3).1
    refine⟨_,_,this,rfl,?_,(World.putObj_heap_other O).trans hd3,x,hx,hJr _ _ _ _ O hj⟩
    rw [World.putObj_heap_same hlt3,hrec]
    rfl
   | exit id=>exact h2.elim
   | goto t=>exact h2.elim
   | ret=>exact h2.elim
   | panic c=>exact h2.elim
   | outgrown=>exact h2.elim
  ·rintro e W2 ⟨⟨v,rfl⟩,⟨h0,hB⟩ | ⟨hl,hd,x,hx,hj⟩⟩
   ·have hl:W2.heap[w.heap.size+1]? = some (.loop (rec .ready none)):=(hB.block _ O).trans hL1
    have hk:W2.heap[w.heap.size]? = some (.deferred (some [])):=(hB.block _ O).trans hK1
    refine⟨none,_,by have:=run_endLoop (P:=P) hl (by rw [hrec];simp);rw [hrec]at this;exact this,?_⟩
    refine hdone _ _ (Nat.le_refl _) h0 ?_ ((World.putObj_heap_other O).trans hk)
    exact(hb1.trans (hB.mono O)).trans (belowK_b (w:=w) (Nat.le_refl _) W2 _ _ _ O hl rfl rfl)
   ·refine⟨some .ret,_,by have:=run_endLoop (P:=P) hl (by rw [hrec];simp);rw [hrec]at this;exact this,wpIn_ret ?_⟩
    exact hstop x _ _ (Nat.le_refl _) hx (hJr _ _ _ _ O hj) ((World.putObj_heap_other O).trans hd)
end Go.Sky
namespace Go.Sky
open Go.RowKit (Below)
variable {P:Program} {N:Nat} {sc:Nat→Prop} {env env':Qt} {H H':Hp} {Q Q':Exit→Act→World→Prop}
def Co(P:Program)(fn:Func)(w0:World)(pre:List Pc)(al:Bool){G:Type}(φ:G→Prop)(Yc:G→Value)(its:G→List Pc):Exit→Act→World→Prop:=
  bodyPostM Fence.wide 0 P fn fun e w' => ∃ g, e = .returned (Yc g) ∧ φ g ∧ Below w0.heap.size w0 w' ∧
        ∀p∈its g,p.holds w'∧p.own=false∧∀b,p.fp b→w0.heap.size≤b∨(al=true∧∃q∈pre,q.fp b)
theorem Zx4 {f:FuncId} {fn:Func} {c:Code} {vs:List Value} {pre:List Pc} {al:Bool} {G:Type} {φ:G→Prop} {Yc:G→Value} {its:G→List Pc} {N:Nat}
    (hf:P.funcs[f]? = some fn) (hb:fn.body=some c) (hN:fn.ntmps=N) (hle:Nat.ble vs.length N=true) (hro:AllRo pre)
    (h:∀w0 (sc:Nat→Prop),(∀b,w0.heap.size≤b→sc b)→(∀b,sc b→w0.heap.size≤b∨∃q∈pre,q.fp b)→
      E P N sc c (Co P fn w0 pre al φ Yc its) (Po 0 vs) ((0,Xf w0 (fun _=>False)) :: Xx 1 pre)) :
    Cal P f vs.toArray pre al φ Yc its:=fun w hp=>by
  refine(callsIn_wide (n:=0)).1 (callsIn_of_wp_marks hf hb trivial (wpIn_wide.2 (h w (fun b=>w.heap.size≤b∨∃q∈pre,q.fp b) (fun b hb=> .inl hb) (fun b hb=>hb) _ w ?_)))
  have hle':vs.length≤N:=by simpa using hle
  refine⟨by simp [hN];omega,rfl,fun t v ht=>?_,fun i p hi=>?_,fun i j p q hne hi hj ho b hb hb'=>?_,fun i p hi0 hi b hb=>?_⟩
  · have h1:=(Ii vs 0 t v ht).2
    have h1:vs.toArray[t]? = some v:=by simpa using h1
    have hlt:=(Array.getElem?_eq_some_iff.1 h1).1
    rw [Array.getD_eq_getD_getElem?,Array.getElem?_append_left hlt,h1];rfl
  · by_cases h0:0=i
    · subst h0;rw [Zx]at hi;cases hi;exact Chg.refl _ w
    · rw [Zl _ _ h0]at hi
      exact hp p (Pp pre 1 i p hi).2
  · by_cases h0:0=i
    · subst h0;rw [Zx]at hi;cases hi;cases ho
    · rw [Zl _ _ h0]at hi
      rw [hro.mem p (Pp pre 1 i p hi).2]at ho;cases ho
  · rw [Zl _ _ (fun e=>hi0 e.symm)]at hi
    exact .inr ⟨p,(Pp pre 1 i p hi).2,hb⟩
def onlyR(Q:Exit→Act→World→Prop):Exit→Act→World→Prop:=Hl Q
theorem Dg:¬LetsOut (Hl Q):=fun⟨_,_,h⟩=>h
theorem Yh6{o:Oper}{a:Act}{w:World}{K:Act→World→Prop}{r:Nat}(hnd:∀c,o.op≠ .defer c)(h:o.wp P a w K (Hl Q)):o.wpIn (Fence.wide.inRound r) 0 P a w K Q:=by
  refine⟨fun _ _=>trivial,?_⟩
  unfold Oper.wp at h
  show o.uponIn (Fence.wide.inRound r) 0 P a K Q ((o.semAt (some r) a.eval).run P w)
  rw [Oper.semAt_some r _ o hnd]
  generalize (execOp a.eval o).run P w=x at *
  cases x with
  | ok n w'=>
    cases n<;>simp only [Oper.upon,Oper.uponIn]at h ⊢
    case value=>exact h
    case skip=>exact h
    case defer=>exact h
    case enter f args=>
      refine⟨fun h=>(by cases h),CallsIn.inRound r (callsIn_wide.2 (h.mono fun e w'' he=>?_))⟩
      cases e with
      | returned v=>exact he
      | panicked c=>exact he.elim
      | outgrown=>exact absurd he Dg
    case row row args=>exact⟨fun h=>(by cases h),Zqj (n:=0) h⟩
  | halt x w'=>
    cases x<;>simp only [Oper.upon]at h
    case panic u=>exact h.elim
def Zh4(l:List Oper):Prop:=∀o∈l,∀c,o.op≠ .defer c
theorem Zoc{ops:Array Oper}{r:Nat} : ∀(l:List Oper) (a:Act) (w:World),Zh4 l→wpList P ops (Hl Q) l a w→wpListIn (Fence.wide.inRound r) 0 P ops Q l a w
  | [],_,_,_,h=>h
  | o :: l,a,w,hnd,h=>by
    unfold wpList at h
    unfold wpListIn
    split
    · rename_i hw
      simp only [hw,if_true]at h
      exact Oper.wpIn_mono (fun a w hk=>Zoc l a w (fun o ho=>hnd o (List.mem_cons_of_mem _ ho)) hk) (Yh6 (hnd o (List.mem_cons_self ..)) (h.resolve_right fun h=>Dg h.2))
    · rename_i hw
      simp only [hw]at h
      exact⟨fun _ _=>trivial,Zoc l _ w (fun o ho=>hnd o (List.mem_cons_of_mem _ ho)) h⟩
theorem Znk{id r:Nat}{l:List Oper}{a:Act}{w:World}(hnd:Zh4 l)(h:L P N sc l.toArray l (Hl Q) env H)(hs:Sat N sc env H a w):(Code.region id l.toArray false).wpIn (Fence.wide.inRound r) 0 P Q a w:=
  wpIn_region_lit (Zoc l a w hnd (h a w hs))
def fx(l:Nat)(o:Obj):Pc:=
  { own:=false,fp:=fun b=>b=l,holds:=fun w=>w.heap[l]? = some o
    lt:=fun w b h hb=>by subst hb;exact(Array.getElem?_eq_some_iff.1 h).1
    stable:=fun w w' h hc=>(hc.block l (Array.getElem?_eq_some_iff.1 h).1 (fun hn=>hn rfl)).trans h }
def Gv(o:Oper):Bool:=match o.op with
  | .build ..=>true
  | .store ..=>true
  | .load ..=>true
  | .alloc ..=>true
  | _=>false
theorem Ycw{o:Oper}(h:Gv o=true){ρ:Operand→Value}{w w':World}{d:Deferred} : (execOp ρ o).run P w≠ .ok (.defer d) w':=fun he=>by
  unfold Gv at h
  cases ho:o.op<;>simp only [ho]at h<;>try (cases h;done)
  all_goals
    simp only [execOp,ho,Sem.run_bind]at he
    revert he
    generalize Sem.run P _ w=r
    cases r<;>simp [Result.andThen,Sem.run_pure]
theorem Zzf{o:Oper}(h:Gv o=true):∀c,o.op≠ .defer c:=fun c hc=>by
  unfold Gv at h;rw [hc]at h;cases h
theorem Zjf(a:Act)(ds:List Deferred)(d:Option Tmp)(v:Value):({ a with defers:=ds } : Act).put d v={ a.put d v with defers:=ds }:=by cases d<;>rfl
theorem Yh8 {o:Oper} {a:Act} {w:World} {ds:List Deferred} {K K':Act→World→Prop} {Q1:Exit→Act→World→Prop} (hnd:Gv o=true) (hk:∀a w,K a w→K' { a with defers:=ds } w)
    (hq:∀e a w,¬Q1 e a w) (h:o.wp P a w K Q1):o.wp P { a with defers:=ds } w K' Q:=by
  unfold Oper.wp at h ⊢
  have hne:=fun d w'=>Ycw (P:=P) hnd (ρ:=a.eval) (w:=w) (w':=w') (d:=d)
  show o.upon P _ K' Q ((execOp a.eval o).run P w)
  generalize (execOp a.eval o).run P w=x at *
  cases x with
  | ok n w'=>
    cases n<;>simp only [Oper.upon]at h ⊢
    case value=>rw [Zjf];exact hk _ _ h
    case skip=>rw [Zjf];exact hk _ _ h
    case defer d=>exact absurd rfl (hne d w')
    case enter f args=>
      refine h.mono fun e w'' he=>?_
      cases e with
      | returned v=>show K' (({ a with defers:=ds } : Act).put o.dst v) w'';rw [Zjf];exact hk _ _ he
      | panicked c=>exact(hq _ _ _ he).elim
      | outgrown=>obtain⟨_,_,h⟩:=he;exact(hq _ _ _ h).elim
    case row row args=>exact h.mono fun _ _ he=>by rw [Zjf];exact hk _ _ he
  | halt x w'=>
    cases x<;>simp only [Oper.upon]at h
    case panic u=>exact(hq _ _ _ h).elim
theorem Zh5{ops:Array Oper}{ds:List Deferred} : ∀(l:List Oper) (a:Act) (w:World),l.all Gv=true→wpList P ops (Hl fun e a w=>Q e { a with defers:=ds } w) l a w→wpList P ops Q l { a with defers:=ds } w
  | [],_,_,_,h=>h
  | o :: l,a,w,hnd,h=>by
    simp only [List.all_cons,Bool.and_eq_true]at hnd
    unfold wpList at h ⊢
    split
    · rename_i hw
      simp only [hw,if_true]at h
      have h:=h.resolve_right fun h=>Dg h.2
      refine .inl (Yh8 (Q1:=noQ) hnd.1 (fun a w hk=>Zh5 l a w hnd.2 hk) (fun _ _ _ h=>h) ?_)
      unfold Oper.wp at h ⊢
      revert h
      generalize (execOp a.eval o).run P w=x
      intro h
      cases x with
      | ok n w'=>
        cases n<;>simp only [Oper.upon]at h ⊢
        case value=>exact h
        case skip=>exact h
        case defer=>exact h
        case enter f args=>
          refine h.mono fun e w'' he=>?_
          cases e with
          | returned v=>exact he
          | panicked c=>exact he
          | outgrown=>exact absurd he Dg
        case row row args=>exact h
      | halt x w'=>
        cases x<;>simp only [Oper.upon]at h ⊢
        case panic u=>exact h
    · rename_i hw
      rw [if_neg hw]at h
      rw [Zjf]
      exact Zh5 l _ w hnd.2 h
theorem Zjp{l:List Oper}(h:l.all Gv=true):Zh4 l:=fun o ho=>Zzf (List.all_eq_true.1 h o ho)
end Go.Sky
namespace Go.Sky
open Go.RowKit (Below)
variable {P:Program} {N:Nat} {sc:Nat→Prop} {env env':Qt} {H H':Hp} {Q Q':Exit→Act→World→Prop}
abbrev ALL:Nat→Prop:=fun _=>True
def FpSub:Hp→Hp→Prop
 | [],_=>True
 | (i,p) :: r,H=>(∃q,lk H i=some q∧p.own=q.own∧∀b,p.fp b→q.fp b)∧FpSub r H
theorem FpSub.lk:∀{H' H:Hp},FpSub H' H→∀i p,lk H' i=some p→∃q,lk H i=some q∧p.own=q.own∧∀b,p.fp b→q.fp b
 | [],_,_,_,_,h=>by cases h
 | (k,u) :: r,H,h,i,p,hi=>by
  by_cases hk:k=i
  ·subst hk;rw [Zx]at hi;cases hi;exact h.1
  ·rw [Zl _ _ hk]at hi;exact FpSub.lk h.2 i p hi
theorem Sat.re{a:Act}{w w':World}(hs:Sat N sc env H a w)(hf:∀i p,lk H' i=some p→∃q,lk H i=some q∧p.own=q.own∧∀b,p.fp b→q.fp b)(hh:∀i p,lk H' i=some p→p.holds w'):Sat N ALL env H' a w':=
 ⟨hs.size,hs.defers,hs.env,hh,fun i j p q hne hi hj ho b hb hb'=>by
  obtain⟨p',hp',ho',hf1⟩:=hf i p hi
  obtain⟨q',hq',_,hf2⟩:=hf j q hj
  exact hs.sep i j p' q' hne hp' hq' (ho'▸ho) b (hf1 b hb) (hf2 b hb'),fun _ _ _ _ _ _=>trivial⟩
theorem Sat.fx2{a:Act}{w w':World}{l D:Nat}{o od:Obj}(hs:Sat N sc env H a w')(hlt:∀i p,lk H i=some p→∀b,p.fp b→b<w.heap.size)(h1:w.heap.size≤l)(h2:w.heap.size≤D)(hl:w'.heap[l]? = some o)(hD:w'.heap[D]? = some od) :
  Sat N ALL env ((90,fx l o) :: (91,fx D od) :: H) a w':=by
 have hs:Sat N ALL env H a w':=⟨hs.size,hs.defers,hs.env,hs.hold,hs.sep,fun _ _ _ _ _ _=>trivial⟩
 refine Sat.add (Sat.add hs 91 (fx D od) hD (fun j jt _ hj _ b hb hb'=>?_) (fun _ _=>trivial)) 90 (fx l o) hl (fun j jt hj0 hj Lp b hb hb'=>?_) (fun _ _=>trivial)
 ·have:=hlt j jt hj b hb'
  have hb:b=D:=hb
  omega
 ·have hb:b=l:=hb
  by_cases hk:91=j
  ·subst hk;rw [Zx]at hj;cases hj;rcases Lp with h | h<;>cases h
  ·rw [Zl _ _ hk]at hj
   have:=hlt j jt hj b hb'
   omega
def FpN:Hp→Hp→Prop
 | [],_=>True
 | (i,p) :: r,H=>(p.own=true∨∃q,lk H i=some q∧∀b,p.fp b→q.fp b)∧FpN r H
theorem FpN.lk:∀{H' H:Hp},FpN H' H→∀i p,lk H' i=some p→p.own=true∨∃q,lk H i=some q∧∀b,p.fp b→q.fp b
 | [],_,_,_,_,h=>by cases h
 | (k,u) :: r,H,h,i,p,hi=>by
  by_cases hk:k=i
  ·subst hk;rw [Zx]at hi;cases hi;exact h.1
  ·rw [Zl _ _ hk]at hi;exact FpN.lk h.2 i p hi
theorem lk3{p q:Pc}{i:Nat}{r:Pc}(h:lk ((90,p) :: (91,q) :: H) i=some r):(i=90∧r=p)∨(i=91∧r=q)∨(i≠90∧i≠91∧lk H i=some r):=by
 by_cases h1:90=i
 ·subst h1;rw [Zx]at h;cases h;exact .inl ⟨rfl,rfl⟩
 ·rw [Zl _ _ h1]at h
  by_cases h2:91=i
  ·subst h2;rw [Zx]at h;cases h;exact .inr (.inl ⟨rfl,rfl⟩)
  ·rw [Zl _ _ h2]at h;exact .inr (.inr ⟨fun e=>h1 e.symm,fun e=>h2 e.symm,h⟩)
theorem Ztu{p q:Pc}{i:Nat}(h1:i≠90)(h2:i≠91):lk ((90,p) :: (91,q) :: H) i=lk H i:=by
 rw [Zl _ _ (fun e=>h1 e.symm),Zl _ _ (fun e=>h2 e.symm)]
theorem Sat.turn{a:Act}{w:World}{l D:Nat}{o o2 od:Obj}(hs:Sat N ALL env ((90,fx l o) :: (91,fx D od) :: H) a w)(hne:l≠D)(hn:∀i p,i≠90→i≠91→lk H i=some p→¬p.fp l) :
  Sat N ALL env ((90,fx l o2) :: (91,fx D od) :: H) a (w.putObj l o2):=by
 have hl:w.heap[l]? = some o:=hs.hold 90 _ rfl
 have hD:w.heap[D]? = some od:=hs.hold 91 _ rfl
 refine hs.re (fun i p hi=>?_) (fun i p hi=>?_)
 ·rcases lk3 hi with⟨rfl,rfl⟩ | ⟨rfl,rfl⟩ | ⟨h1,h2,hi⟩
  ·exact⟨_,rfl,rfl,fun _ h=>h⟩
  ·exact⟨_,rfl,rfl,fun _ h=>h⟩
  ·exact⟨p,by rw [Ztu h1 h2];exact hi,rfl,fun _ h=>h⟩
 ·rcases lk3 hi with⟨rfl,rfl⟩ | ⟨rfl,rfl⟩ | ⟨h1,h2,h3⟩
  ·exact World.putObj_heap_same (Array.getElem?_eq_some_iff.1 hl).1
  ·exact(World.putObj_heap_other (fun e=>hne e.symm)).trans hD
  ·refine p.stable _ _ (hs.hold i p (by rw [Ztu h1 h2];exact h3)) ⟨rfl,rfl,rfl,O5,fun k hk hn'=>World.putObj_heap_other (fun e=>hn' ?_)⟩
   subst e
   exact hn i p h1 h2 h3
theorem Sat.round{a:Act}{w:World}(hs:Sat N sc env H a w)(d:Nat)(v:Value)(hd:Nat.blt d N=true):Sat N sc ((d,v) :: env) H { tmps:=(#[d].zip #[v]).foldl (fun t (p,v)=>t.setIfInBounds p v) a.tmps,defers:=[] } w:=by
 have h:=hs.put d v hd
 have e:(a.put (some d) v)={ tmps:=(#[d].zip #[v]).foldl (fun t (p,v)=>t.setIfInBounds p v) a.tmps,defers:=[] }:=by
  show({ a with tmps:=a.tmps.setIfInBounds d v } : Act)=_
  rw [←hs.defers];simp
 rw [←e];exact h
theorem Mu{ops:Array Oper}{Q1 Q2:Exit→Act→World→Prop}(hq:∀e a w,Q1 e a w→Q2 e a w):∀(l:List Oper) (a:Act) (w:World),wpList P ops Q1 l a w→wpList P ops Q2 l a w
 | [],_,_,h=>hq _ _ _ h
 | o :: l,a,w,h=>by
  unfold wpList at h ⊢
  split
  ·rename_i hw
   rw [if_pos hw]at h
   rcases h with h | ⟨h1,a',w',h2⟩
   ·refine .inl ?_
    unfold Oper.wp at h ⊢
    revert h
    generalize (execOp a.eval o).run P w=x
    intro h
    cases x with
    | ok n w'=>
     cases n<;>simp only [Oper.upon]at h ⊢
     case value=>exact Mu hq l _ _ h
     case skip=>exact Mu hq l _ _ h
     case defer=>exact Mu hq l _ _ h
     case enter f args=>
      refine h.mono fun e w'' he=>?_
      cases e with
      | returned v=>exact Mu hq l _ _ he
      | panicked c=>exact hq _ _ _ he
      | outgrown=>obtain⟨a,w,h⟩:=he;exact⟨a,w,hq _ _ _ h⟩
     case row row args=>exact h.mono fun _ _ he=>Mu hq l _ _ he
    | halt x w'=>
     cases x<;>simp only [Oper.upon]at h ⊢
     case panic u=>exact hq _ _ _ h
   ·exact .inr ⟨h1,a',w',hq _ _ _ h2⟩
  ·rename_i hw
   rw [if_neg hw]at h
   exact Mu hq l _ _ h
theorem e_rf {g:Operand} {gf d ida idb idc bk bk0:Nat} {lbv:List Value} {pre pre':List Pc} {φ0:Prop} {G:Type} {φ1:G→Prop} {xv:G→Value} {la lb lc:List Oper} {fn:Func} {w0:World} {v:Value}
  {Hn:Hp} {Hr:G→Hp} {env1:G→Nat→Qt} {H1:G→Nat→Hp}
  (hg:ev env g=some (.func (.func gf) #[] lbv.toArray)) (eg:∀args w,(callFunc gf args).run P w= .ok (.enter gf args) w) (hc:Yki P gf lbv pre φ0 φ1 xv)
  (hp:∀p∈pre,∃i,lk H i=some p) (hd:Nat.blt d N=true) (h0:lk H 0=some (Xf w0 (fun _=>False)))
  (hla:la.all Gv=true) (hlb:lb.all Gv=true) (hlc:lc.all Gv=true)
  (hA:∀x,φ1 x→∀l o D od,L P N ALL la.toArray la (Hl fun e a w=>e= .normal∧∃b,Sat N ALL (env1 x b) ((90,fx l o) :: (91,fx D od) :: H1 x b) a w) ((d,xv x) :: env) ((90,fx l o) :: (91,fx D od) :: H))
  (hB:∀x b,φ1 x→∀l o D od,L P N ALL lb.toArray lb (Hl fun e a w=>e= .normal∧Sat N ALL [] ((90,fx l o) :: (91,fx D od) :: Hr x) a w) (env1 x b) ((90,fx l o) :: (91,fx D od) :: H1 x b))
  (hC:φ0→∀l o D od,L P N ALL lc.toArray lc (Hl fun e a w=>e= .normal∧Sat N ALL env ((90,fx l o) :: (91,fx D od) :: Hn) a w) env ((90,fx l o) :: (91,fx D od) :: H))
  (hf1:∀x b,FpN (H1 x b) H) (h9:∀x,lk (Hr x) 90=none∧lk (Hr x) 91=none) (h9n:lk Hn 90=none∧lk Hn 91=none)
  (hfr:∀x,FpSub (Hr x) H) (hfn:FpSub Hn H) (hk1:∀x,lk (Hr x) 0=some (Xf w0 (fun _=>False))) (hk2:lk Hn 0=some (Xf w0 (fun _=>False)))
  (hresr:∀x,φ1 x→∀a w,Sat N ALL env (Hr x) a w→(results fn a.tmps).run P w= .ok v w)
  (hresn:φ0→∀a w,Sat N ALL env Hn a w→(results fn a.tmps).run P w= .ok v w) :
  E P N sc (.rangeFunc g #[d] (.region ida la.toArray false) (.block bk (.seq (.region idb lb.toArray false) .ret)))
   (Exit.inBlock bk0 (Exit.then ((Code.seq (.region idc lc.toArray false) .ret).wp P (Co P fn w0 pre' false (G:=Unit) (fun _=>True) (fun _=>v) (fun _=>[]))) (Co P fn w0 pre' false (G:=Unit) (fun _=>True) (fun _=>v) (fun _=>[])))) env H:=fun a w hs=>by
 have hlt:∀i p,lk H i=some p→∀b,p.fp b→b<w.heap.size:=fun i p hi b hb=>p.lt w b (hs.hold i p hi) hb
 have hsW:∀W,Below w.heap.size w W→Sat N ALL env H a W:=fun W hB=>⟨hs.size,hs.defers,hs.env,fun i p hi=>p.stable _ _ (hs.hold i p hi) (Chg.of_below hB),hs.sep,fun _ _ _ _ _ _=>trivial⟩
 have hend:∀(a':Act) (W:World) (D:Nat) (Hx:Hp),lk Hx 0=some (Xf w0 (fun _=>False))→FpSub Hx H→(∀a w,Sat N ALL env Hx a w→(results fn a.tmps).run P w= .ok v w)→w.heap.size≤D→W.heap[D]? = some (.deferred (some []))→
   Sat N ALL env Hx a' W→Co P fn w0 pre' false (G:=Unit) (fun _=>True) (fun _=>v) (fun _=>[]) .ret { a' with defers:={ target:= .collected D,args:=#[] } :: [] } W:=by
  intro a' W D Hx hk hf hres hD hKd hs'
  refine⟨O5,.inl ⟨_,_,rfl,run_takeDeferred hKd,?_⟩⟩
  have hs2:Sat N ALL env Hx a' (W.putObj D (.deferred none)):=⟨hs'.size,hs'.defers,hs'.env,fun i p hi=>p.stable _ _ (hs'.hold i p hi) ⟨rfl,rfl,rfl,O5,fun k hk hn=>by
   refine World.putObj_heap_other (fun e=>hn ?_)
   subst e
   intro hfp
   obtain⟨q,hq,_,hf2⟩:=hf.lk i p hi
   have:=hlt i q hq _ (hf2 _ hfp)
   omega⟩,hs'.sep,hs'.scope⟩
  exact⟨_,hres a' _ hs2,(),rfl,trivial,Pz (hs2.hold 0 _ hk),fun p hp=>by cases hp⟩
 refine(wpIn_wide (n:=0)).1 (Ygq (hs.ev hg) eg hc (fun p hpp=>by obtain⟨i,hi⟩:=hp p hpp;exact hs.hold i p hi) rfl (fun x W=>∀i p,lk (Hr x) i=some p→p.holds W) ?_ ?_ ?_ ?_)
 ·intro x W l o' hl hJ i p hi
  refine p.stable _ _ (hJ i p hi) ⟨rfl,rfl,rfl,O5,fun k hk hn=>World.putObj_heap_other (fun e=>hn ?_)⟩
  subst e
  intro hfp
  obtain⟨q,hq,_,hf2⟩:=(hfr x).lk i p hi
  have:=hlt i q hq _ (hf2 _ hfp)
  omega
 ·intro x hx l D W o1 o2 od hBW hl hD hne hol hoD
  have s1:=((hsW W hBW).round d (xv x) hd).fx2 (w:=w) hlt hl hD hol hoD
  refine wpIn_mono (Znk (Zjp hla) (hA x hx l o1 D od) s1) ?_
  rintro e a1 W1 ⟨rfl,b,hs1⟩
  refine⟨hs1.hold 90 _ rfl,hs1.hold 91 _ rfl,?_⟩
  have hs2:=hs1.turn (o2:=o2) hne (fun i p h1 h2 hi hfp=>by
   rcases(hf1 x b).lk i p hi with ho | ⟨q,hq,hf⟩
   ·exact hs1.sep i 90 p (fx l o1) h1 (by rw [Ztu h1 h2];exact hi) rfl ho l hfp rfl
   ·have:=hlt i q hq _ (hf _ hfp);omega)
  refine wpIn_block (wpIn_seq (wpIn_mono (Znk (Zjp hlb) (hB x b hx l o2 D od) hs2) ?_))
  rintro e a3 W3 ⟨rfl,hs3⟩
  refine wpIn_ret ?_
  refine⟨rfl,hs3.hold 90 _ rfl,hs3.hold 91 _ rfl,fun i p hi=>hs3.hold i p ?_⟩
  rw [Ztu (fun e=>by subst e;rw [(h9 x).1]at hi;cases hi) (fun e=>by subst e;rw [(h9 x).2]at hi;cases hi)]
  exact hi
 ·intro D W hD hφ hBW hKd
  obtain⟨l,hl⟩:∃l,W.heap[l]? = some (.deferred (some []))∧w.heap.size≤l:=⟨D,hKd,hD⟩
  have s1:=(hsW W hBW).fx2 (w:=w) hlt hl.2 hD hl.1 hKd
  have hL:=Zh5 (P:=P) (ops:=lc.toArray) (Q:=Exit.then (Code.ret.wp P (Co P fn w0 pre' false (G:=Unit) (fun _=>True) (fun _=>v) (fun _=>[]))) (Co P fn w0 pre' false (G:=Unit) (fun _=>True) (fun _=>v) (fun _=>[]))) (ds:={ target:= .collected D,args:=#[] } :: []) lc a W hlc ?_
  ·rw [hs.defers]
   exact wp_seq (wp_region_lit hL)
  refine Mu (fun e a' W' h=>?_) lc a W (hC hφ l _ D _ a W s1)
  cases e with
  | normal=>
   obtain⟨-,hs'⟩:=h
   refine wp_ret (hend a' W' D Hn hk2 hfn (hresn hφ) hD (hs'.hold 91 _ rfl) ⟨hs'.size,hs'.defers,hs'.env,fun i p hi=>hs'.hold i p ?_,?_,fun _ _ _ _ _ _=>trivial⟩)
   ·rw [Ztu (fun e=>by subst e;rw [h9n.1]at hi;cases hi) (fun e=>by subst e;rw [h9n.2]at hi;cases hi)]
    exact hi
   ·intro i j p q hne hi hj
    refine hs'.sep i j p q hne ?_ ?_
    ·rw [Ztu (fun e=>by subst e;rw [h9n.1]at hi;cases hi) (fun e=>by subst e;rw [h9n.2]at hi;cases hi)];exact hi
    ·rw [Ztu (fun e=>by subst e;rw [h9n.1]at hj;cases hj) (fun e=>by subst e;rw [h9n.2]at hj;cases hj)];exact hj
  | _=>exact h.elim
 ·intro x D W hD hx hJ hKd
  have hs':Sat N ALL env (Hr x) a W:=hs.re (hfr x).lk hJ
  have:=hend a W D (Hr x) (hk1 x) (hfr x) (hresr x hx) hD hKd hs'
  rw [hs.defers]
  exact this
end Go.Sky
namespace Go.Sky
theorem Yev(u0 u1 u2 u3 u4 u5 a0 a1 a2 a3 a4 a5:Value):Instr.fill (fun i=>some (i*6,6)) ((List.range (1*6)).map ((Value.agg #[u0,u1,u2,u3,u4,u5]).cells[· % (Value.agg #[u0,u1,u2,u3,u4,u5]).cells.size]!)).toArray [(0,.agg #[a0,a1,a2,a3,a4,a5])]=some #[a0,a1,a2,a3,a4,a5]:=by
 simp [Instr.fill,Value.cells,List.range,List.range.loop]
 try rfl
end Go.Sky

