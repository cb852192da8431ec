/- Rules, arithmetic and contracts: part 15. No conditions but those that each theorem names. -/
import Derived.Test.YteikicbnfbgpnaaGreatDa13
set_option linter.all false
namespace Go.Sky
theorem Yc7:∀n,n<6→∀j,j<n+1→∀k,k<j+1→(Pa n j:Int)*w60 n j k=60*(Pa (n-k) (j-k):Int):=O7
theorem Zbx(f:Nat→Int)(a:Int):∀m,Zs (fun k=>a*f k) m=a*Zs f m
 | 0=>by show(0:Int)=a*0;omega
 | m+1=>by rw [Zy,Zy,Zbx f a m,Int.mul_add]
theorem Yfu{c:List Int}(hl:1≤c.length∧c.length≤6){j:Nat}(hj:j<c.length):(Pa (c.length-1) j:Int)*ctl c j (j+1)=60*Lr (c.length-1) c j:=by
 unfold ctl Lr
 rw [←Zbx,←Zbx]
 refine Yg fun k hk=>?_
 have:=Yc7 (c.length-1) O j O k O
 show(Pa (c.length-1) j:Int)*(cf c k*w60 (c.length-1) j k)=60*(cf c k*_)
 rw [Int.mul_left_comm,this,Int.mul_left_comm]
theorem Yb0{n j:Nat}(h:j<n+1):(0:Int)<(Pa n j:Int):=by have:=Zl8 (n:=n) (k:=j) O;omega
theorem Zuw{c:List Int}(hl:1≤c.length∧c.length≤6){ov:Int} : Zih c ov=true↔∀j,j<c.length→((Lr (c.length-1) c j).natAbs:Int)≤1048576*ov*(Pa (c.length-1) j:Int):=by
 have key:∀j,j<c.length→((((ctl c j (j+1)).natAbs:Int)≤62914560*ov)↔((Lr (c.length-1) c j).natAbs:Int)≤1048576*ov*(Pa (c.length-1) j:Int)):=fun j hj=>by
  have h1:=Yfu hl hj
  have h2:=Yb0 (n:=c.length-1) (j:=j) O
  have h3:=congrArg Int.natAbs h1
  rw [Int.natAbs_mul,Int.natAbs_mul,Int.natAbs_natCast]at h3
  generalize (ctl c j (j+1)).natAbs=x at *
  generalize (Lr (c.length-1) c j).natAbs=y at *
  generalize Pa (c.length-1) j=q at *
  have h4:(q:Int)*(x:Int)=60*(y:Int):=by exact_mod_cast h3
  constructor
  ·intro h
   have h5:=Int.mul_le_mul_of_nonneg_left h (Int.le_of_lt h2)
   rw [h4]at h5
   have h6:(q:Int)*(62914560*ov)=60*(1048576*ov*q):=O4
   omega
  ·intro h
   have h5:60*(y:Int)≤(q:Int)*(62914560*ov):=by
    have h6:(q:Int)*(62914560*ov)=60*(1048576*ov*q):=O4
    omega
   rw [←h4]at h5
   exact Int.le_of_mul_le_mul_left h5 h2
 constructor
 ·intro h j hj
  unfold Zih at h
  rw [List.all_eq_true]at h
  exact(key j hj).1 (of_decide_eq_true (h j (List.mem_range.2 hj)))
 ·intro h
  exact Ycb fun j hj=>(key j hj).2 (h j hj)
theorem Xc{x b:Int} : ((x.natAbs:Int)≤b)↔(-b≤x∧x≤b):=O
theorem cfb0{M x0:Int}(hM:0≤M)(h0:-(M*1)≤(x0*1)∧(x0*1)≤M*1):(-(2047*M)≤x0∧x0≤2047*M):=O
theorem bre00(c:List Int):Lr 0 c 0=cf c 0*1:=O9
theorem cfb1{M x0 x1:Int}(hM:0≤M)(h0:-(M*1)≤(x0*1)∧(x0*1)≤M*1)(h1:-(M*1)≤(x0*1+x1*1)∧(x0*1+x1*1)≤M*1):(-(2047*M)≤x0∧x0≤2047*M)∧(-(2047*M)≤x1∧x1≤2047*M):=by
 refine⟨⟨?_,?_⟩,⟨?_,?_⟩⟩<;>omega
theorem bre10(c:List Int):Lr 1 c 0=cf c 0*1:=O9
theorem bre11(c:List Int):Lr 1 c 1=cf c 0*1+cf c 1*1:=O9
theorem cfb2{M x0 x1 x2:Int}(hM:0≤M)(h0:-(M*1)≤(x0*1)∧(x0*1)≤M*1)(h1:-(M*2)≤(x0*2+x1*1)∧(x0*2+x1*1)≤M*2)(h2:-(M*1)≤(x0*1+x1*1+x2*1)∧(x0*1+x1*1+x2*1)≤M*1):(-(2047*M)≤x0∧x0≤2047*M)∧(-(2047*M)≤x1∧x1≤2047*M)∧(-(2047*M)≤x2∧x2≤2047*M):=by
 refine⟨⟨?_,?_⟩,⟨?_,?_⟩,⟨?_,?_⟩⟩<;>omega
theorem bre20(c:List Int):Lr 2 c 0=cf c 0*1:=O9
theorem bre21(c:List Int):Lr 2 c 1=cf c 0*2+cf c 1*1:=O9
theorem bre22(c:List Int):Lr 2 c 2=cf c 0*1+cf c 1*1+cf c 2*1:=O9
theorem cfb3{M x0 x1 x2 x3:Int}(hM:0≤M)(h0:-(M*1)≤(x0*1)∧(x0*1)≤M*1)(h1:-(M*3)≤(x0*3+x1*1)∧(x0*3+x1*1)≤M*3)(h2:-(M*3)≤(x0*3+x1*2+x2*1)∧(x0*3+x1*2+x2*1)≤M*3)(h3:-(M*1)≤(x0*1+x1*1+x2*1+x3*1)∧(x0*1+x1*1+x2*1+x3*1)≤M*1):(-(2047*M)≤x0∧x0≤2047*M)∧(-(2047*M)≤x1∧x1≤2047*M)∧(-(2047*M)≤x2∧x2≤2047*M)∧(-(2047*M)≤x3∧x3≤2047*M):=by
 refine⟨⟨?_,?_⟩,⟨?_,?_⟩,⟨?_,?_⟩,⟨?_,?_⟩⟩<;>omega
theorem bre30(c:List Int):Lr 3 c 0=cf c 0*1:=O9
theorem bre31(c:List Int):Lr 3 c 1=cf c 0*3+cf c 1*1:=O9
theorem bre32(c:List Int):Lr 3 c 2=cf c 0*3+cf c 1*2+cf c 2*1:=O9
theorem bre33(c:List Int):Lr 3 c 3=cf c 0*1+cf c 1*1+cf c 2*1+cf c 3*1:=O9
theorem cfb4{M x0 x1 x2 x3 x4:Int}(hM:0≤M)(h0:-(M*1)≤(x0*1)∧(x0*1)≤M*1)(h1:-(M*4)≤(x0*4+x1*1)∧(x0*4+x1*1)≤M*4)(h2:-(M*6)≤(x0*6+x1*3+x2*1)∧(x0*6+x1*3+x2*1)≤M*6)(h3:-(M*4)≤(x0*4+x1*3+x2*2+x3*1)∧(x0*4+x1*3+x2*2+x3*1)≤M*4)(h4:-(M*1)≤(x0*1+x1*1+x2*1+x3*1+x4*1)∧(x0*1+x1*1+x2*1+x3*1+x4*1)≤M*1):(-(2047*M)≤x0∧x0≤2047*M)∧(-(2047*M)≤x1∧x1≤2047*M)∧(-(2047*M)≤x2∧x2≤2047*M)∧(-(2047*M)≤x3∧x3≤2047*M)∧(-(2047*M)≤x4∧x4≤2047*M):=by
 refine⟨⟨?_,?_⟩,⟨?_,?_⟩,⟨?_,?_⟩,⟨?_,?_⟩,⟨?_,?_⟩⟩<;>omega
theorem bre40(c:List Int):Lr 4 c 0=cf c 0*1:=O9
theorem bre41(c:List Int):Lr 4 c 1=cf c 0*4+cf c 1*1:=O9
theorem bre42(c:List Int):Lr 4 c 2=cf c 0*6+cf c 1*3+cf c 2*1:=O9
theorem bre43(c:List Int):Lr 4 c 3=cf c 0*4+cf c 1*3+cf c 2*2+cf c 3*1:=O9
theorem bre44(c:List Int):Lr 4 c 4=cf c 0*1+cf c 1*1+cf c 2*1+cf c 3*1+cf c 4*1:=O9
theorem cfb5{M x0 x1 x2 x3 x4 x5:Int}(hM:0≤M)(h0:-(M*1)≤(x0*1)∧(x0*1)≤M*1)(h1:-(M*5)≤(x0*5+x1*1)∧(x0*5+x1*1)≤M*5)(h2:-(M*10)≤(x0*10+x1*4+x2*1)∧(x0*10+x1*4+x2*1)≤M*10)(h3:-(M*10)≤(x0*10+x1*6+x2*3+x3*1)∧(x0*10+x1*6+x2*3+x3*1)≤M*10)(h4:-(M*5)≤(x0*5+x1*4+x2*3+x3*2+x4*1)∧(x0*5+x1*4+x2*3+x3*2+x4*1)≤M*5)(h5:-(M*1)≤(x0*1+x1*1+x2*1+x3*1+x4*1+x5*1)∧(x0*1+x1*1+x2*1+x3*1+x4*1+x5*1)≤M*1):(-(2047*M)≤x0∧x0≤2047*M)∧(-(2047*M)≤x1∧x1≤2047*M)∧(-(2047*M)≤x2∧x2≤2047*M)∧(-(2047*M)≤x3∧x3≤2047*M)∧(-(2047*M)≤x4∧x4≤2047*M)∧(-(2047*M)≤x5∧x5≤2047*M):=by
 refine⟨⟨?_,?_⟩,⟨?_,?_⟩,⟨?_,?_⟩,⟨?_,?_⟩,⟨?_,?_⟩,⟨?_,?_⟩⟩<;>omega
theorem bre50(c:List Int):Lr 5 c 0=cf c 0*1:=O9
theorem bre51(c:List Int):Lr 5 c 1=cf c 0*5+cf c 1*1:=O9
theorem bre52(c:List Int):Lr 5 c 2=cf c 0*10+cf c 1*4+cf c 2*1:=O9
theorem bre53(c:List Int):Lr 5 c 3=cf c 0*10+cf c 1*6+cf c 2*3+cf c 3*1:=O9
theorem bre54(c:List Int):Lr 5 c 4=cf c 0*5+cf c 1*4+cf c 2*3+cf c 3*2+cf c 4*1:=O9
theorem bre55(c:List Int):Lr 5 c 5=cf c 0*1+cf c 1*1+cf c 2*1+cf c 3*1+cf c 4*1+cf c 5*1:=O9
theorem cf_brS{n:Nat}(hn:n<6){c:List Int}(hl:c.length≤n+1){M:Int}(h:∀j,j<n+1→((Lr n c j).natAbs:Int)≤M*(Pa n j:Int))(k:Nat):((cf c k).natAbs:Int)≤2047*M:=by
 have hM:0≤M:=by
  have h0:=h 0 O
  rw [Zic]at h0;omega
 by_cases hk:k<n+1
 ·rw [Xc]
  match n,hn with
  | 0,_=>
   have h0:=Xc.1 (h 0 O3)
   rw [bre00,show(Pa 0 0:Int)=1 from rfl]at h0
   have key:=cfb0 hM h0
   obtain rfl:k=0:=O
   exact key
  | 1,_=>
   have h0:=Xc.1 (h 0 O3)
   rw [bre10,show(Pa 1 0:Int)=1 from rfl]at h0
   have h1:=Xc.1 (h 1 O3)
   rw [bre11,show(Pa 1 1:Int)=1 from rfl]at h1
   have key:=cfb1 hM h0 h1
   rcases(show k=0∨k=1 by omega)with rfl | rfl
   ·exact key.1
   ·exact key.2
  | 2,_=>
   have h0:=Xc.1 (h 0 O3)
   rw [bre20,show(Pa 2 0:Int)=1 from rfl]at h0
   have h1:=Xc.1 (h 1 O3)
   rw [bre21,show(Pa 2 1:Int)=2 from rfl]at h1
   have h2:=Xc.1 (h 2 O3)
   rw [bre22,show(Pa 2 2:Int)=1 from rfl]at h2
   have key:=cfb2 hM h0 h1 h2
   rcases(show k=0∨k=1∨k=2 by omega)with rfl | rfl | rfl
   ·exact key.1
   ·exact key.2.1
   ·exact key.2.2
  | 3,_=>
   have h0:=Xc.1 (h 0 O3)
   rw [bre30,show(Pa 3 0:Int)=1 from rfl]at h0
   have h1:=Xc.1 (h 1 O3)
   rw [bre31,show(Pa 3 1:Int)=3 from rfl]at h1
   have h2:=Xc.1 (h 2 O3)
   rw [bre32,show(Pa 3 2:Int)=3 from rfl]at h2
   have h3:=Xc.1 (h 3 O3)
   rw [bre33,show(Pa 3 3:Int)=1 from rfl]at h3
   have key:=cfb3 hM h0 h1 h2 h3
   rcases(show k=0∨k=1∨k=2∨k=3 by omega)with rfl | rfl | rfl | rfl
   ·exact key.1
   ·exact key.2.1
   ·exact key.2.2.1
   ·exact key.2.2.2
  | 4,_=>
   have h0:=Xc.1 (h 0 O3)
   rw [bre40,show(Pa 4 0:Int)=1 from rfl]at h0
   have h1:=Xc.1 (h 1 O3)
   rw [bre41,show(Pa 4 1:Int)=4 from rfl]at h1
   have h2:=Xc.1 (h 2 O3)
   rw [bre42,show(Pa 4 2:Int)=6 from rfl]at h2
   have h3:=Xc.1 (h 3 O3)
   rw [bre43,show(Pa 4 3:Int)=4 from rfl]at h3
   have h4:=Xc.1 (h 4 O3)
   rw [bre44,show(Pa 4 4:Int)=1 from rfl]at h4
   have key:=cfb4 hM h0 h1 h2 h3 h4
   rcases(show k=0∨k=1∨k=2∨k=3∨k=4 by omega)with rfl | rfl | rfl | rfl | rfl
   ·exact key.1
   ·exact key.2.1
   ·exact key.2.2.1
   ·exact key.2.2.2.1
   ·exact key.2.2.2.2
  | 5,_=>
   have h0:=Xc.1 (h 0 O3)
   rw [bre50,show(Pa 5 0:Int)=1 from rfl]at h0
   have h1:=Xc.1 (h 1 O3)
   rw [bre51,show(Pa 5 1:Int)=5 from rfl]at h1
   have h2:=Xc.1 (h 2 O3)
   rw [bre52,show(Pa 5 2:Int)=10 from rfl]at h2
   have h3:=Xc.1 (h 3 O3)
   rw [bre53,show(Pa 5 3:Int)=10 from rfl]at h3
   have h4:=Xc.1 (h 4 O3)
   rw [bre54,show(Pa 5 4:Int)=5 from rfl]at h4
   have h5:=Xc.1 (h 5 O3)
   rw [bre55,show(Pa 5 5:Int)=1 from rfl]at h5
   have key:=cfb5 hM h0 h1 h2 h3 h4 h5
   rcases(show k=0∨k=1∨k=2∨k=3∨k=4∨k=5 by omega)with rfl | rfl | rfl | rfl | rfl | rfl
   ·exact key.1
   ·exact key.2.1
   ·exact key.2.2.1
   ·exact key.2.2.2.1
   ·exact key.2.2.2.2.1
   ·exact key.2.2.2.2.2
 ·rw [Ya O];simp;omega
structure AxC (c:List Int) (ov:Int):Prop where
 l:1≤c.length∧c.length≤6
 t:¬(1<c.length∧c.getD (c.length-1) 0=0)
 b:∀j,j<c.length→((Lr (c.length-1) c j).natAbs:Int)≤1048576*ov*(Pa (c.length-1) j:Int)
theorem AxC.of{c:List Int}{ov:Int}(h:axB c ov=true):AxC c ov:=by
 unfold axB at h
 simp only [Bool.and_eq_true,Bool.not_eq_true',Bool.and_eq_false_iff,decide_eq_true_eq,decide_eq_false_iff_not]at h
 have hl:1≤c.length∧c.length≤6:=⟨h.1.1.1,h.1.1.2⟩
 exact⟨hl,fun h9=>by rcases h.1.2 with h8 | h8;exact h8 h9.1;exact h8 h9.2,(Zuw hl).1 h.2⟩
theorem AxC.to{c:List Int}{ov:Int}(h:AxC c ov):axB c ov=true:=Ycp h.l.1 h.l.2 h.t ((Zuw h.l).2 h.b)
theorem tzl_nz{c:List Int}(hz:c.getD (c.length-1) 0≠0):tzl c=c:=Bd (.inr hz)
theorem ax_tzl{c:List Int}{ov:Int}(h:AxC c ov):(tzl c=c)∨c=[0]:=by
 by_cases hz:c.getD (c.length-1) 0=0
 ·have hl:c.length=1:=by
   have h1:=h.l
   have h2:=h.t
   by_cases h3:1<c.length
   ·exact absurd ⟨h3,hz⟩ h2
   ·omega
  right
  match c,hl with
  | [x],_=>simp at hz;rw [hz]
 ·exact .inl (tzl_nz hz)
theorem Zc3{c:List Int}{ov:Int}(h:AxC c ov){a b d:Int}{t u:Rat}(ht:t*(d:Rat)=(a:Rat)+(b:Rat)*u):Zb (Pt c a b d) u=(d:Rat)^5*Zb c t:=by
 unfold Pt
 rw [Zqe]
 rcases ax_tzl h with e | e
 ·have hl:=h.l
  rw [e,Zg1 a b d ht O,Zap]
  have:(d:Rat)^5=(d:Rat)^(6-c.length)*(d:Rat)^(c.length-1):=by rw [←Zu5];congr 1;omega
  rw [this];grind
 ·subst e
  rw [show tzl [0]=[]from by decide,show Lc [] a b d=[]from rfl]
  show _*(0:Rat)=_*(((0:Int):Rat)+t*0)
  push_cast;grind
theorem Zdl{c:List Int}(a b d:Int):(Pt c a b d).length≤c.length:=Nat.le_trans (Mj _ _) (Nat.le_trans (Zcb _ _ _ _) (Ke c))
theorem Zuv{c:List Int}{ov:Int}(h:AxC c ov){a b d:Int}(ha:0≤a)(hb:0≤b)(hab:a+b≤d)(hd:0<d):∀j,j<c.length→((Lr (c.length-1) (Pt c a b d) j).natAbs:Int)≤1048576*(ov*d^5)*(Pa (c.length-1) j:Int):=fun j hj=>by
 have hl:=h.l
 have h1:=Zdl (c:=c) a b d
 have:=Ygm (c:=c) (X:=Pt c a b d) (n:=c.length-1) (m:=5) (B:=1048576*ov) O O ha hb hab hd (fun t u ht=>Zc3 h ht) (fun j hj=>h.b j O) j O
 rw [Int.mul_assoc]at this
 rw [Int.mul_assoc]
 rw [Int.mul_assoc,←Int.mul_assoc ov]at this
 exact this
theorem cf_cmp{c:List Int}{ov:Int}(h:AxC c ov){a b d:Int}(ha:0≤a)(hb:0≤b)(hab:a+b≤d)(hd:0<d)(k:Nat):((cf (Pt c a b d) k).natAbs:Int)≤ov*d^5*2146435072:=by
 have hl:=h.l
 have h1:=Zdl (c:=c) a b d
 have:=cf_brS (n:=c.length-1) O (c:=Pt c a b d) O (M:=1048576*(ov*d^5)) (fun j hj=>Zuv h ha hb hab hd j O) k
 omega
theorem Zyh{g:Zn}(h:seB g=true):AxC g.2.1.2 g.1.2.2∧AxC g.2.2.1.2 g.1.2.2∧AxC g.2.2.2.2 g.1.2.2:=by
 have h':Fi g.1.1 g.1.2.1 g.1.2.2 g.2.1.2 g.2.2.1.2 g.2.2.2.2=true:=h
 unfold Fi at h'
 simp only [Bool.and_eq_true]at h'
 exact⟨.of h'.1.1.1.2,.of h'.1.1.2,.of h'.1.2⟩
theorem Ybp{fr to:Int}{g:Zn}(hg:SgG g)(h:Kc fr to g=true):0≤cA fr g-g.1.1∧0<cB to g-cA fr g∧(cA fr g-g.1.1)+(cB to g-cA fr g)≤g.1.2.1-g.1.1∧0<g.1.2.1-g.1.1:=by
 have h1:=of_decide_eq_true h
 have ht1:=hg.t1
 have ht2:=hg.t2
 unfold cA cB at *
 exact⟨O,O,O,O⟩
theorem Zzv{fr to:Int}{g:Zn}(hi:Gin g)(hs:seB g=true)(h:Kc fr to g=true):MdG fr to g:=by
 have hg:SgG g:=Du hi hs
 obtain⟨a1,a2,a3⟩:=Zyh hs
 obtain⟨c1,c2,c3,c4⟩:=Ybp hg h
 obtain⟨b1,b2,-,-⟩:=cut_b hg h
 have ht3:=hg.t3
 have ht1:=hg.t1
 have ho1:=hg.o1
 have ho2:=hg.o2
 have hdd:1≤g.1.2.1-g.1.1∧g.1.2.1-g.1.1≤3600000:=⟨O,O⟩
 have k1:=Zl6 hg.hx hg.lx b1 b2 hdd
 have k2:=Zl6 hg.hy hg.ly b1 b2 hdd
 have k3:=Zl6 hg.hz hg.lz b1 b2 hdd
 have hpos:0<cO g:=Int.mul_pos O (Int.pow_pos O)
 have habs:((cO g).natAbs:Int)=cO g:=O
 have hcf:∀{c:List Int},AxC c g.1.2.2→∀k,(cf (cX fr to g c) k).natAbs≤(cO g).natAbs*2146435072:=fun hc k=>by
  have:=cf_cmp hc c1 (Int.le_of_lt c2) c3 c4 k
  have e:(((cO g).natAbs*2146435072:Nat):Int)=cO g*2146435072:=by rw [Int.natCast_mul,habs];rfl
  refine Int.ofNat_le.1 ?_
  rw [e]
  exact this
 refine⟨hpos,?_,fun i=>?_,fun i=>?_,fun i k=>?_⟩
 ·have h1:bl g.1.2.2.natAbs≤40:=(Xs 40 _).2 O
  have h2:=Zjm hdd
  have:=Xb g.1.2.2 ((g.1.2.1-g.1.1)^5)
  show bl (g.1.2.2*(g.1.2.1-g.1.1)^5).natAbs≤1000
  omega
 ·exact Ei (p:=fun l:List Int=>Sz 1000 l) k1.2.2.2.2.2.2.1 k2.2.2.2.2.2.2.1 k3.2.2.2.2.2.2.1
 ·exact Ei (p:=fun l:List Int=>l.length≤6) k1.2.2.2.2.2.2.2 k2.2.2.2.2.2.2.2 k3.2.2.2.2.2.2.2
 ·exact Ei (p:=fun l:List Int=>(cf l k).natAbs≤(cO g).natAbs*2146435072) (hcf a1 k) (hcf a2 k) (hcf a3 k)
theorem Yey{c:List Int}{ov:Int}(h:AxC c ov)(hz:c.getD (c.length-1) 0≠0){a b d:Int}(hb:0<b)(hd:0<d):(Pt c a b d).length=c.length:=by
  have hl:=h.l
  have hle:=Zdl (c:=c) a b d
  rcases Nat.lt_or_ge (Pt c a b d).length c.length with q | q
  · exfalso
    have hbq : (b : Rat) ≠ 0 := by have : (0 : Rat) < (b : Rat) := by exact_mod_cast hb
                                   grind
    have hdq : (d : Rat) ≠ 0 := by have : (0 : Rat) < (d : Rat) := by exact_mod_cast hd
                                   grind
    have hu:∀t:Rat,t*(d:Rat)=(a:Rat)+(b:Rat)*((t*d-a)/b):=fun t=>O4
    by_cases h0:(Pt c a b d).length=0
    · have e0:=List.eq_nil_of_length_eq_zero h0
      have:∀t:Rat,Zb c t=0:=fun t=>by
        have h1:=Zc3 h (hu t)
        rw [e0]at h1
        have h2:(d:Rat)^5*Zb c t=0:=h1.symm
        have h3:(d:Rat)^5≠0:=by
          rw [show(d:Rat)^5=d*d*d*d*d by rw [Rat.pow_succ,Rat.pow_succ,Rat.pow_succ,Rat.pow_succ,Rat.pow_succ,Rat.pow_zero];grind]
          grind
        grind
      exact hz (Zks this _)
    · have key:∀t:Rat,Zb ((Lc (Pt c a b d) (-a) d b).map fun q=>1*q) t=Zb (c.map fun q=>b^((Pt c a b d).length-1)*d^5*q) t:=fun t=>by
        rw [Ze,Ze]
        have h1:=Zc3 h (hu t)
        have h2:=Zg1 (p:=Pt c a b d) (-a) d b (t:=(t*d-a)/b) (u:=t) (by push_cast;grind) h0
        rw [h2,h1]
        push_cast
        rw [←Zap,←Zap];push_cast;grind
      have h1:=Ow key (c.length-1)
      rw [Gz,Gz,Ya (by have:=Zcb (Pt c a b d) (-a) d b;omega)]at h1
      have h2:b^((Pt c a b d).length-1)*d^5≠0:=Int.mul_ne_zero (Int.pow_ne_zero O) (Int.pow_ne_zero O)
      have h3:b^((Pt c a b d).length-1)*d^5*cf c (c.length-1)=0:=O
      rcases Int.mul_eq_zero.1 h3 with q | q
      · exact h2 q
      · exact hz q
  · omega
theorem Zro{X:List Int}{G:Int}(hG:0<G)(hd:∀x∈X,G∣x)(i:Nat):cf (Fw X G) i*G=cf X i:=by
  unfold Fw
  split
  · rename_i h
    rw [List.eq_nil_of_length_eq_zero h]
    match i with
    | 0=>show(0:Int)*G=cf [] 0;rw [Int.zero_mul];rfl
    | i+1=>show(0:Int)*G=cf [] (i+1);rw [Int.zero_mul];rfl
  · rw [Zam _ _ O6]
    by_cases hi:i<X.length
    · have:cf X i∈X:=Zu hi
      exact Int.ediv_mul_cancel (hd _ this)
    · rw [Ya O];simp
theorem Yd4{X:List Int}{G:Int}(hG:0<G)(hd:∀x∈X,G∣x)(u:Rat):Zb (Fw X G) u*(G:Rat)=Zb X u:=by
  rw [Rat.mul_comm,←Ze]
  exact Pp u _ _ fun i=>by rw [Gz,Int.mul_comm,Zro hG hd]
theorem Ze0(f g:Nat→Int)(a:Int)(h:∀k,f k*a=g k):∀m,Zs f m*a=Zs g m
  | 0=>Int.zero_mul _
  | m+1=>by rw [Zy,Zy,Int.add_mul,Ze0 f g a h m,h]
theorem Ygl{X:List Int}{G:Int}(hG:0<G)(hd:∀x∈X,G∣x)(n j:Nat):Lr n (Fw X G) j*G=Lr n X j:=by
  unfold Lr
  exact Ze0 _ _ _ (fun k=>by rw [Int.mul_right_comm,Zro hG hd]) _
theorem Yex(X:List Int)(G:Int):(Fw X G).length=max X.length 1:=by
  unfold Fw;split
  · rename_i h;rw [h];rfl
  · rw [List.length_map];omega
theorem Zrz{c:List Int}{ov:Int}(h:AxC c ov){a b d G o:Int}(ha:0≤a)(hb:0<b)(hab:a+b≤d)(hd:0<d)(hG:0<G)(hv:∀x∈Pt c a b d,G∣x)(ho:o*G=ov*d^5):AxC (Fw (Pt c a b d) G) o∧(Fw (Pt c a b d) G).length=c.length:=by
  have hl:=h.l
  have hlen:(Fw (Pt c a b d) G).length=c.length∧(1<c.length→(Pt c a b d).length=c.length):=by
    rw [Yex]
    by_cases hz:c.getD (c.length-1) 0=0
    · have:=h.t
      have hle:=Zdl (c:=c) a b d
      have h1:c.length=1:=by
        by_cases h3:1<c.length
        · exact absurd ⟨h3,hz⟩ this
        · omega
      exact⟨O,fun h3=>O⟩
    · have:=Yey h hz (a:=a) hb hd
      exact⟨O,fun _=>this⟩
  refine⟨⟨O,fun⟨h1,h2⟩=>?_,fun j hj=>?_⟩,hlen.1⟩
  · rw [hlen.1]at h1 h2
    have h3:cf (Fw (Pt c a b d) G) (c.length-1)=0:=h2
    have h4:=Zro hG hv (c.length-1)
    rw [h3,Int.zero_mul]at h4
    have h5:=hlen.2 h1
    have ht:Tr (Pt c a b d):=Pw _ _
    have h6:=ht.mem (fun e=>by rw [e]at h5;simp at h5;omega)
    rw [h5]at h6
    exact h6 h4.symm
  · rw [hlen.1]at hj ⊢
    have h1:=Zuv h ha (Int.le_of_lt hb) hab hd j hj
    rw [←Ygl hG hv,←ho,Int.natAbs_mul]at h1
    have e1:((G.natAbs:Nat):Int)=G:=O
    push_cast at h1
    rw [e1]at h1
    refine Int.le_of_mul_le_mul_right (a:=G) ?_ hG
    refine Int.le_trans h1 (Int.le_of_eq ?_)
    grind
theorem Zor{G:Int}(hG:0<G):∀(l:List Int) (o:Int),Mc (G*o) (l.map (G*·))=G*Mc o l
 | [],o=>rfl
 | x :: l,o=>by
  show Mc ((Int.gcd (G*o) (G*x):Nat):Int) (l.map (G*·))=G*Mc ((Int.gcd o x:Nat):Int) l
  rw [Int.gcd_mul_left]
  push_cast
  rw [show((G.natAbs:Nat):Int)=G by omega]
  exact Zor hG l _
theorem Zhv{X:List Int}{G o:Int}(hG:0<G)(hd:∀x∈X,G∣x)(ho:0≤o):Mc o ((Fw X G).map (G*·))=Mc o X:=by
 unfold Fw
 split
 ·rename_i h
  rw [List.eq_nil_of_length_eq_zero h]
  show((Int.gcd o (G*0):Nat):Int)=o
  rw [Int.mul_zero,Int.gcd_zero_right];omega
 ·congr 1
  rw [List.map_map]
  conv=>rhs;rw [←List.map_id X]
  refine List.map_congr_left fun x hx=>?_
  show G*(x/G)=x
  exact Int.mul_ediv_cancel' (hd x hx)
theorem Yfa{X Y Z:List Int}{o o':Int}(ho:0<o)(hG:0<Hc o X Y Z)(hX:∀x∈X,Hc o X Y Z∣x)(hY:∀x∈Y,Hc o X Y Z∣x)(hZ:∀x∈Z,Hc o X Y Z∣x)(ho':Hc o X Y Z*o'=o) :
  Mc o' (Fw X (Hc o X Y Z) ++ Fw Y (Hc o X Y Z) ++ Fw Z (Hc o X Y Z))=1:=by
 have h1:=Zor hG (Fw X (Hc o X Y Z) ++ Fw Y (Hc o X Y Z) ++ Fw Z (Hc o X Y Z)) o'
 rw [ho',List.map_append,List.map_append,Hm,Hm,Zhv hG hX (Int.le_of_lt ho),Zhv hG hY (Zdm _ _ (Int.le_of_lt ho)),Zhv hG hZ (Zdm _ _ (Zdm _ _ (Int.le_of_lt ho)))]at h1
 have h2:Hc o X Y Z=Mc (Mc (Mc o X) Y) Z:=by
  show Mc o (X ++ Y ++ Z)=_
  rw [Hm,Hm]
 rw [←h2]at h1
 generalize Mc o' _=r at *
 have h3:Hc o X Y Z*r=Hc o X Y Z*1:=O
 exact Int.eq_of_mul_eq_mul_left O h3
structure Prt (q g:Zn) (G:Int):Prop where
 g0:0<G
 a0:0≤q.1.1-g.1.1
 b0:0<q.1.2.1-q.1.1
 ab:(q.1.1-g.1.1)+(q.1.2.1-q.1.1)≤g.1.2.1-g.1.1
 o:q.1.2.2*G=g.1.2.2*(g.1.2.1-g.1.1)^5
 x:∀i (t u:Rat),t*((g.1.2.1-g.1.1:Int):Rat)=((q.1.1-g.1.1:Int):Rat)+((q.1.2.1-q.1.1:Int):Rat)*u→Zb (Zt i q.2.1.2 q.2.2.1.2 q.2.2.2.2) u*(G:Rat)=((g.1.2.1-g.1.1:Int):Rat)^5*Zb (Zt i g.2.1.2 g.2.2.1.2 g.2.2.2.2) t
theorem Zqx{X:List Int}{G:Int}(h:∀k,(X.getD k 0/G).natAbs≤9223372036854775807):∀a∈Fw X G,Nc a:=fun a ha=>by
 unfold Fw at ha
 split at ha
 ·rw [List.mem_singleton.1 ha];exact⟨O3,O3⟩
 ·obtain⟨x,hx,rfl⟩:=List.mem_map.1 ha
  obtain⟨k,hk⟩:=List.mem_iff_getElem?.1 hx
  have:=h k
  rw [List.getD_eq_getElem?_getD,hk]at this
  simp only [Option.getD_some]at this
  exact⟨O,O⟩
theorem Zkv{c:List Int}{ov a b d G:Int}{t u:Rat}(hc:AxC c ov)(hG:0<G)(hv:∀x∈Pt c a b d,G∣x)(h:t*(d:Rat)=(a:Rat)+(b:Rat)*u):Zb (Fw (Pt c a b d) G) u*(G:Rat)=(d:Rat)^5*Zb c t:=by
 rw [Yd4 hG hv];exact Zc3 hc h
theorem Yft{fr to:Int}{g q:Zn}(hi:Gin g)(hs:seB g=true)(hp:Kc fr to g=true)(hk:Zh7 fr to g=true)(hu:unS q=Ybr fr to g):Gin q∧seB q=true∧Prt q g (cG fr to g):=by
 have hg:SgG g:=Du hi hs
 obtain⟨a1,a2,a3⟩:=Zyh hs
 obtain⟨c1,c2,c3,c4⟩:=Ybp hg hp
 have hM:=Zzv hi hs hp
 obtain⟨g1,⟨o',ho'⟩,g3⟩:=hM.g
 have hG:0<cG fr to g:=g1
 have hd0:∀x∈cX fr to g g.2.1.2,cG fr to g∣x:=g3 0 O3
 have hd1:∀x∈cX fr to g g.2.2.1.2,cG fr to g∣x:=g3 1 O3
 have hd2:∀x∈cX fr to g g.2.2.2.2,cG fr to g∣x:=g3 2 O3
 have hoo:cG fr to g*o'=cO g:=ho'.symm
 have hdiv:cO g/cG fr to g=o':=by rw [←hoo];exact Int.mul_ediv_cancel_left _ O
 have hsm:cO g/cG fr to g≤4294967296:=of_decide_eq_true hk
 have ho0:0<cO g:=hM.o
 have ho1:0<o':=by
  by_cases h:0<o'
  ·exact h
  ·have:=Int.mul_nonpos_of_nonneg_of_nonpos (Int.le_of_lt hG) (show o'≤0 by omega);omega
 have hom:o'*cG fr to g=g.1.2.2*(g.1.2.1-g.1.1)^5:=by rw [Int.mul_comm];exact hoo
 obtain⟨x1,x2⟩:=Zrz a1 c1 c2 c3 c4 hG hd0 hom
 obtain⟨y1,y2⟩:=Zrz a2 c1 c2 c3 c4 hG hd1 hom
 obtain⟨z1,z2⟩:=Zrz a3 c1 c2 c3 c4 hG hd2 hom
 obtain⟨⟨qf,qt,qo⟩,⟨sx,qx⟩,⟨sy,qy⟩,⟨sz,qz⟩⟩:=q
 unfold unS Ybr at hu
 rw [mdO_t hsm,Zjw hsm,Zjw hsm,Zjw hsm,hdiv]at hu
 injection hu with h1 h2
 injection h1 with hf h1
 injection h1 with ht ho
 injection h2 with hx h2
 injection h2 with hy hz
 dsimp only at hf ht ho hx hy hz
 subst hf ht hx hy hz
 have ho:=ho.symm
 subst ho
 have hfit:=fun i (hi:i<3) k=>hM.fit (i:=i) hsm hi k
 have hc1:=of_decide_eq_true hp
 have ht1:=hg.t1
 have ht3:=hg.t3
 have hix:∀a∈Fw (cX fr to g g.2.1.2) (cG fr to g),Nc a:=Zqx (hfit 0 O3)
 have hiy:∀a∈Fw (cX fr to g g.2.2.1.2) (cG fr to g),Nc a:=Zqx (hfit 1 O3)
 have hiz:∀a∈Fw (cX fr to g g.2.2.2.2) (cG fr to g),Nc a:=Zqx (hfit 2 O3)
 have hle:o'≤4294967296:=hdiv▸hsm
 have hba:0≤cA fr g∧cB to g≤3600000:=by unfold cA cB;exact⟨O,O⟩
 have i1:Nc (cA fr g):=⟨O,O⟩
 have i2:Nc (cB to g):=⟨O,O⟩
 have i3:Nc o':=⟨O,O⟩
 refine⟨⟨i1,i2,i3,hix,hiy,hiz⟩,?_,⟨hG,c1,c2,by show(cA fr g-g.1.1)+(cB to g-cA fr g)≤_;exact c3,hom,fun i t u htu=>?_⟩⟩
 ·show Fi (cA fr g) (cB to g) o' _ _ _=true
  unfold Fi Zvb
  simp only [Bool.and_eq_true,decide_eq_true_eq]
  exact⟨⟨⟨⟨⟨⟨⟨⟨O,O⟩,O⟩,O⟩,O⟩,x1.to⟩,y1.to⟩,z1.to⟩,Yfa ho0 hG hd0 hd1 hd2 hoo⟩
 ·have htu':t*((g.1.2.1-g.1.1:Int):Rat)=((cA fr g-g.1.1:Int):Rat)+((cB to g-cA fr g:Int):Rat)*u:=htu
  clear htu
  have k0:=Zkv a1 hG hd0 htu'
  have k1:=Zkv a2 hG hd1 htu'
  have k2:=Zkv a3 hG hd2 htu'
  dsimp only
  generalize Fw (cX fr to g g.2.1.2) (cG fr to g)=X at *
  generalize Fw (cX fr to g g.2.2.1.2) (cG fr to g)=Y at *
  generalize Fw (cX fr to g g.2.2.2.2) (cG fr to g)=Z at *
  generalize ((cG fr to g:Int):Rat)=GG at *
  generalize ((g.1.2.1-g.1.1:Int):Rat)^5=DD at *
  match i with
  | 0=>exact k0
  | 1=>exact k1
  | i+2=>exact k2
theorem cgb0{M x0:Int}(hM:0≤M)(h0:-(M*1)≤(x0*1)∧(x0*1)≤M*1):(-(80*M)≤x0∧x0≤80*M):=O
theorem cgb1{M x0 x1:Int}(hM:0≤M)(h0:-(M*1)≤(x0*1)∧(x0*1)≤M*1)(h1:-(M*1)≤(x0*1+x1*1)∧(x0*1+x1*1)≤M*1):(-(80*M)≤x0∧x0≤80*M)∧(-(80*M)≤x1∧x1≤80*M):=by
 refine⟨⟨?_,?_⟩,⟨?_,?_⟩⟩<;>omega
theorem cgb2{M x0 x1 x2:Int}(hM:0≤M)(h0:-(M*1)≤(x0*1)∧(x0*1)≤M*1)(h1:-(M*2)≤(x0*2+x1*1)∧(x0*2+x1*1)≤M*2)(h2:-(M*1)≤(x0*1+x1*1+x2*1)∧(x0*1+x1*1+x2*1)≤M*1):(-(80*M)≤x0∧x0≤80*M)∧(-(80*M)≤x1∧x1≤80*M)∧(-(80*M)≤x2∧x2≤80*M):=by
 refine⟨⟨?_,?_⟩,⟨?_,?_⟩,⟨?_,?_⟩⟩<;>omega
theorem cgb3{M x0 x1 x2 x3:Int}(hM:0≤M)(h0:-(M*1)≤(x0*1)∧(x0*1)≤M*1)(h1:-(M*3)≤(x0*3+x1*1)∧(x0*3+x1*1)≤M*3)(h2:-(M*3)≤(x0*3+x1*2+x2*1)∧(x0*3+x1*2+x2*1)≤M*3)(h3:-(M*1)≤(x0*1+x1*1+x2*1+x3*1)∧(x0*1+x1*1+x2*1+x3*1)≤M*1):(-(80*M)≤x0∧x0≤80*M)∧(-(80*M)≤x1∧x1≤80*M)∧(-(80*M)≤x2∧x2≤80*M)∧(-(80*M)≤x3∧x3≤80*M):=by
 refine⟨⟨?_,?_⟩,⟨?_,?_⟩,⟨?_,?_⟩,⟨?_,?_⟩⟩<;>omega
theorem cgb4{M x0 x1 x2 x3 x4:Int}(hM:0≤M)(h0:-(M*1)≤(x0*1)∧(x0*1)≤M*1)(h1:-(M*4)≤(x0*4+x1*1)∧(x0*4+x1*1)≤M*4)(h2:-(M*6)≤(x0*6+x1*3+x2*1)∧(x0*6+x1*3+x2*1)≤M*6)(h3:-(M*4)≤(x0*4+x1*3+x2*2+x3*1)∧(x0*4+x1*3+x2*2+x3*1)≤M*4)(h4:-(M*1)≤(x0*1+x1*1+x2*1+x3*1+x4*1)∧(x0*1+x1*1+x2*1+x3*1+x4*1)≤M*1):(-(80*M)≤x0∧x0≤80*M)∧(-(80*M)≤x1∧x1≤80*M)∧(-(80*M)≤x2∧x2≤80*M)∧(-(80*M)≤x3∧x3≤80*M)∧(-(80*M)≤x4∧x4≤80*M):=by
 refine⟨⟨?_,?_⟩,⟨?_,?_⟩,⟨?_,?_⟩,⟨?_,?_⟩,⟨?_,?_⟩⟩<;>omega
theorem cgb5{M x0 x1 x2 x3 x4 x5:Int}(hM:0≤M)(h0:-(M*1)≤(x0*1)∧(x0*1)≤M*1)(h1:-(M*5)≤(x0*5+x1*1)∧(x0*5+x1*1)≤M*5)(h2:-(M*10)≤(x0*10+x1*4+x2*1)∧(x0*10+x1*4+x2*1)≤M*10)(h3:-(M*10)≤(x0*10+x1*6+x2*3+x3*1)∧(x0*10+x1*6+x2*3+x3*1)≤M*10)(h4:-(M*5)≤(x0*5+x1*4+x2*3+x3*2+x4*1)∧(x0*5+x1*4+x2*3+x3*2+x4*1)≤M*5)(h5:-(M*1)≤(x0*1+x1*1+x2*1+x3*1+x4*1+x5*1)∧(x0*1+x1*1+x2*1+x3*1+x4*1+x5*1)≤M*1):(-(80*M)≤x0∧x0≤80*M)∧(-(80*M)≤x1∧x1≤80*M)∧(-(80*M)≤x2∧x2≤80*M)∧(-(80*M)≤x3∧x3≤80*M)∧(-(80*M)≤x4∧x4≤80*M)∧(-(80*M)≤x5∧x5≤80*M):=by
 refine⟨⟨?_,?_⟩,⟨?_,?_⟩,⟨?_,?_⟩,⟨?_,?_⟩,⟨?_,?_⟩,⟨?_,?_⟩⟩<;>omega
theorem cg_brS{n:Nat}(hn:n<6){c:List Int}(hl:c.length≤n+1){M:Int}(h:∀j,j<n+1→((Lr n c j).natAbs:Int)≤M*(Pa n j:Int))(k:Nat):((cf c k).natAbs:Int)≤80*M:=by
 have hM:0≤M:=by
  have h0:=h 0 O
  rw [Zic]at h0;omega
 by_cases hk:k<n+1
 ·rw [Xc]
  match n,hn with
  | 0,_=>
   have h0:=Xc.1 (h 0 O3)
   rw [bre00,show(Pa 0 0:Int)=1 from rfl]at h0
   have key:=cgb0 hM h0
   obtain rfl:k=0:=O
   exact key
  | 1,_=>
   have h0:=Xc.1 (h 0 O3)
   rw [bre10,show(Pa 1 0:Int)=1 from rfl]at h0
   have h1:=Xc.1 (h 1 O3)
   rw [bre11,show(Pa 1 1:Int)=1 from rfl]at h1
   have key:=cgb1 hM h0 h1
   rcases(show k=0∨k=1 by omega)with rfl | rfl
   ·exact key.1
   ·exact key.2
  | 2,_=>
   have h0:=Xc.1 (h 0 O3)
   rw [bre20,show(Pa 2 0:Int)=1 from rfl]at h0
   have h1:=Xc.1 (h 1 O3)
   rw [bre21,show(Pa 2 1:Int)=2 from rfl]at h1
   have h2:=Xc.1 (h 2 O3)
   rw [bre22,show(Pa 2 2:Int)=1 from rfl]at h2
   have key:=cgb2 hM h0 h1 h2
   rcases(show k=0∨k=1∨k=2 by omega)with rfl | rfl | rfl
   ·exact key.1
   ·exact key.2.1
   ·exact key.2.2
  | 3,_=>
   have h0:=Xc.1 (h 0 O3)
   rw [bre30,show(Pa 3 0:Int)=1 from rfl]at h0
   have h1:=Xc.1 (h 1 O3)
   rw [bre31,show(Pa 3 1:Int)=3 from rfl]at h1
   have h2:=Xc.1 (h 2 O3)
   rw [bre32,show(Pa 3 2:Int)=3 from rfl]at h2
   have h3:=Xc.1 (h 3 O3)
   rw [bre33,show(Pa 3 3:Int)=1 from rfl]at h3
   have key:=cgb3 hM h0 h1 h2 h3
   rcases(show k=0∨k=1∨k=2∨k=3 by omega)with rfl | rfl | rfl | rfl
   ·exact key.1
   ·exact key.2.1
   ·exact key.2.2.1
   ·exact key.2.2.2
  | 4,_=>
   have h0:=Xc.1 (h 0 O3)
   rw [bre40,show(Pa 4 0:Int)=1 from rfl]at h0
   have h1:=Xc.1 (h 1 O3)
   rw [bre41,show(Pa 4 1:Int)=4 from rfl]at h1
   have h2:=Xc.1 (h 2 O3)
   rw [bre42,show(Pa 4 2:Int)=6 from rfl]at h2
   have h3:=Xc.1 (h 3 O3)
   rw [bre43,show(Pa 4 3:Int)=4 from rfl]at h3
   have h4:=Xc.1 (h 4 O3)
   rw [bre44,show(Pa 4 4:Int)=1 from rfl]at h4
   have key:=cgb4 hM h0 h1 h2 h3 h4
   rcases(show k=0∨k=1∨k=2∨k=3∨k=4 by omega)with rfl | rfl | rfl | rfl | rfl
   ·exact key.1
   ·exact key.2.1
   ·exact key.2.2.1
   ·exact key.2.2.2.1
   ·exact key.2.2.2.2
  | 5,_=>
   have h0:=Xc.1 (h 0 O3)
   rw [bre50,show(Pa 5 0:Int)=1 from rfl]at h0
   have h1:=Xc.1 (h 1 O3)
   rw [bre51,show(Pa 5 1:Int)=5 from rfl]at h1
   have h2:=Xc.1 (h 2 O3)
   rw [bre52,show(Pa 5 2:Int)=10 from rfl]at h2
   have h3:=Xc.1 (h 3 O3)
   rw [bre53,show(Pa 5 3:Int)=10 from rfl]at h3
   have h4:=Xc.1 (h 4 O3)
   rw [bre54,show(Pa 5 4:Int)=5 from rfl]at h4
   have h5:=Xc.1 (h 5 O3)
   rw [bre55,show(Pa 5 5:Int)=1 from rfl]at h5
   have key:=cgb5 hM h0 h1 h2 h3 h4 h5
   rcases(show k=0∨k=1∨k=2∨k=3∨k=4∨k=5 by omega)with rfl | rfl | rfl | rfl | rfl | rfl
   ·exact key.1
   ·exact key.2.1
   ·exact key.2.2.1
   ·exact key.2.2.2.1
   ·exact key.2.2.2.2.1
   ·exact key.2.2.2.2.2
 ·rw [Ya O];simp;omega
theorem AxC.cg{c:List Int}{ov:Int}(h:AxC c ov)(k:Nat):((cf c k).natAbs:Int)≤83886080*ov:=by
 have hl:=h.l
 have:=cg_brS (n:=c.length-1) O (c:=c) O (M:=1048576*ov) (fun j hj=>h.b j O) k
 omega
theorem Zsz(c:List Int)(a:Int):∀k,plS c a 1 k=Zs (fun k=>cf c k*a^k) k
  | 0=>rfl
  | k+1=>by
    show plS c a 1 k+plT c a 1 k=_
    rw [Zy,Zsz c a k]
    congr 1
    show c.getD k 0*(a^k*1^_)=cf c k*a^k
    rw [Int.one_pow,Int.mul_one];rfl
theorem Zjl(f:Nat→Int):∀n,((Zs f n:Int):Rat)=Kj (fun i=>(f i:Rat)) n
  | 0=>rfl
  | n+1=>by rw [Zy,Px,←Zjl f n];push_cast;rfl
theorem Zza(c:List Int)(a:Int):((pl c a 1:Int):Rat)=Zb c (a:Rat):=by
  unfold pl
  rw [Zsz,Zjl]
  conv=>rhs;rw [←Zdi c]
  rw [Zfx]
  exact Nb _ fun i hi=>by rw [←Zap];push_cast;rfl
theorem Prt.pl{q g:Zn}{G:Int}(h:Prt q g G){a a':Int}(ht:a*(g.1.2.1-g.1.1)=(q.1.1-g.1.1)+(q.1.2.1-q.1.1)*a')(i:Nat) :
    Sky.pl (Zt i q.2.1.2 q.2.2.1.2 q.2.2.2.2) a' 1*G=Sky.pl (Zt i g.2.1.2 g.2.2.1.2 g.2.2.2.2) a 1*(g.1.2.1-g.1.1)^5:=by
  have h1:=h.x i (a:Rat) (a':Rat) (by exact_mod_cast ht)
  rw [←Zza,←Zza,←Zap]at h1
  have h2:((Sky.pl (Zt i q.2.1.2 q.2.2.1.2 q.2.2.2.2) a' 1*G:Int):Rat)=((Sky.pl (Zt i g.2.1.2 g.2.2.1.2 g.2.2.2.2) a 1*(g.1.2.1-g.1.1)^5:Int):Rat):=by
    rw [Rat.intCast_mul,Rat.intCast_mul,h1,Rat.mul_comm]
  exact_mod_cast h2
structure Chn (ps:List Zn):Prop where
 lt:∀g∈ps,g.1.1<g.1.2.1
 eq:∀(i:Nat) (g h:Zn),ps[i]? = some g→ps[i+1]? = some h→g.1.2.1=h.1.1
theorem Chn.tail{g:Zn}{r:List Zn}(h:Chn (g :: r)):Chn r:=⟨fun x hx=>h.lt x (List.mem_cons_of_mem _ hx),fun i x y hx hy=>h.eq (i+1) x y hx hy⟩
theorem Chn.ge:∀{r:List Zn} {g:Zn},Chn (g :: r)→∀x∈r,g.1.2.1≤x.1.1
 | [],_,_,_,hx=>nomatch hx
 | h :: r,g,hc,x,hx=>by
  have h1:=hc.eq 0 g h rfl rfl
  rcases List.mem_cons.1 hx with rfl | hx
  ·omega
  ·have:=Chn.ge hc.tail x hx
   have:=hc.lt h O6
   omega
theorem Zlm{fr to:Int} : ∀{ps:List Zn},Chn ps→∀(j:Nat) (f f':Zn),(ps.filter (Kc fr to))[j]? = some f→(ps.filter (Kc fr to))[j+1]? = some f'→∃i:Nat,ps[i]? = some f∧ps[i+1]? = some f'
 | [],_,j,f,f',h,_=>by simp at h
 | g :: r,hc,j,f,f',h1,h2=>by
  cases hp:Kc fr to g with
  | false=>
   rw [List.filter_cons_of_neg (by rw [hp];exact Bool.false_ne_true)]at h1 h2
   obtain⟨i,a,b⟩:=Zlm hc.tail j f f' h1 h2
   exact⟨i+1,a,b⟩
  | true=>
   rw [List.filter_cons_of_pos hp]at h1 h2
   match j with
   | j+1=>
    obtain⟨i,a,b⟩:=Zlm hc.tail j f f' h1 h2
    exact⟨i+1,a,b⟩
   | 0=>
    obtain rfl:g=f:=by simpa using h1
    have h2:(r.filter (Kc fr to))[0]? = some f':=h2
    have hm:f'∈r.filter (Kc fr to):=List.mem_of_getElem? h2
    obtain⟨hm1,hm2⟩:=List.mem_filter.1 hm
    match r,hc,h2,hm1 with
    | h :: r,hc,h2,hm1=>
     have e1:=hc.eq 0 g h rfl rfl
     have l1:=hc.lt h O6
     have c1:=of_decide_eq_true hp
     have c2:=of_decide_eq_true hm2
     have hh:Kc fr to h=true:=by
      refine decide_eq_true ?_
      unfold cA cB at *
      rcases List.mem_cons.1 hm1 with rfl | q
      ·exact c2
      ·have:=Chn.ge hc.tail f' q
       omega
     rw [List.filter_cons_of_pos hh]at h2
     obtain rfl:h=f':=by simpa using h2
     exact⟨0,rfl,rfl⟩
theorem getD_some{α:Type}{l:List α}{i:Nat}{x d:α}(h:l[i]? = some x):l.getD i d=x:=by rw [List.getD_eq_getElem?_getD,h];rfl
theorem Zdc{ps:List Zn}(hi:∀g∈ps,Gin g)(hb:Ox ps=true):Chn ps∧(∀g∈ps,seB g=true)∧∀(i:Nat) (g h:Zn),ps[i]? = some g→ps[i+1]? = some h→meG g h=true:=by
 obtain⟨h1,h2,h3⟩:=Ea hb
 have hse:∀g∈ps,seB g=true:=fun g hg=>by
  obtain⟨i,hi',e⟩:=List.mem_iff_getElem.1 hg
  have:=Zf0 (h1 i hi')
  rw [List.getD_eq_getElem?_getD,List.getElem?_eq_getElem hi',Option.getD_some,e]at this
  exact this
 have hme:∀(i:Nat) (g h:Zn),ps[i]? = some g→ps[i+1]? = some h→meG g h=true:=fun i g h hg hh=>by
  have hlt:=(List.getElem?_eq_some_iff.1 hh).1
  have:=h1 (i+1) hlt
  rw [Zql (Zf0 this) O,Nat.add_sub_cancel,getD_some hg,getD_some hh]at this
  exact this
 refine⟨⟨fun g hg=>(Du (hi g hg) (hse g hg)).t2,fun i g h hg hh=>?_⟩,hse,hme⟩
 have:=hme i g h hg hh
 unfold meG Zn9 at this
 rw [Bool.and_eq_true,decide_eq_true_iff]at this
 exact this.1
structure Pat (fr to:Int) (ps qs:List Zn):Prop where
 gin:∀q∈qs,Gin q
 pb:Ox qs=true
 len:qs.length=(ps.filter (Kc fr to)).length
 prt:∀(j:Nat) (q:Zn),qs[j]? = some q→∃f:Zn,(ps.filter (Kc fr to))[j]? = some f∧f∈ps∧Prt q f (cG fr to f)
 nxt:∀(j:Nat) (q r:Zn),qs[j]? = some q→qs[j+1]? = some r→∃(i:Nat) (f h:Zn),ps[i]? = some f∧ps[i+1]? = some h∧Prt q f (cG fr to f)∧Prt r h (cG fr to h)∧q.1.2.1=f.1.2.1∧r.1.1=h.1.1
theorem Ybo{fr to:Int} : ∀{ps:List Zn},Chn ps→ps≠[]→spF ps≤fr→fr<to→to≤spL ps→ps.filter (Kc fr to)≠[]
 | [],_,h,_,_,_=>absurd rfl h
 | g :: r,hc,_,h1,h2,h3=>by
  have l1:=hc.lt g O6
  have h1:g.1.1≤fr:=h1
  by_cases hp:Kc fr to g=true
  ·rw [List.filter_cons_of_pos hp];exact List.cons_ne_nil _ _
  ·have hp2:¬cA fr g<cB to g:=fun h=>hp (decide_eq_true h)
   have e:g.1.2.1≤fr:=by unfold cA cB at hp2;omega
   rw [List.filter_cons_of_neg hp]
   match r,hc,h3 with
   | [],_,h3=>
    have h3:to≤g.1.2.1:=h3
    omega
   | h :: r,hc,h3=>
    have e1:=hc.eq 0 g h rfl rfl
    refine Ybo hc.tail (List.cons_ne_nil _ _) (by show h.1.1≤fr;omega) h2 ?_
    have:spL (g :: h :: r)=spL (h :: r):=by unfold spL;simp
    rw [←this];exact h3
def jqP(fr to ov:Int)(x y z:List Int)(fr2 to2 ov2:Int)(x2 y2 z2:List Int)(i:Nat):Prop:=qr (bgS (Zt i x2 y2 z2)) (Dh [ov2,to2-fr2])=qr (enS (Zt i x y z)) (Dh [ov,to-fr])
def refS(o:Nat)(x y z:List Int):Nat→List Int
 | 0=>[]
 | i+1=>Zei (refS o x y z i) (Xw (dN o (tzl (Zt i x y z))) (dN o (tzl (Zt i x y z))))
def refC(o:Nat)(m ov T:Int):Int:=m^2*ov^2*T^(2*o)
def refF(o:Nat)(m ov T:Int)(x y z:List Int):List Int:=Bz (tzl [refC o m ov T]) (Yp (refS o x y z 3) (1000^(2*o)))
def frB(ps:List Zn)(sp ac:Int)(i:Nat):Int:=
 if 0<i∧joG (ps.getD (i-1) G0) (ps.getD i G0)=false then 1 else if Zca (Yao 1 sp (ps.getD i G0))=true then 2 else if Zca (Yao 2 ac (ps.getD i G0))=true then 3 else 0
def fiB(ps:List Zn)(sp ac:Int):Option (Nat×Int):=((List.range ps.length).find? fun i=>decide (frB ps sp ac i≠0)).map fun i=>(i,frB ps sp ac i)
def fiI(o:Option (Nat×Int)):Int:=match o with
 | none=>0
 | some g=>g.1
def fiC(o:Option (Nat×Int)):Int:=match o with
 | none=>0
 | some g=>g.2
abbrev firV (o:Option (Nat×Int)):Value:= .tuple #[.agg #[.int .i64 (fiI o),.int .i64 (fiC o)],.bool o.isSome,.int .i64 0]
def spd(o:Nat)(x y z:List Int)(u:Rat):Rat:=Zb (refS o x y z 3) u
def lstB(o:Nat)(ps:List Zn):Nat:=Ydo (fun n=>Zz8 o ps (n:Int)) 14 0 10000
def lsV(o:Nat)(ps:List Zn):Nat:=if Zz8 o ps 10000 then lstB o ps else 0
theorem Zva(a b:Bool):a=false∨(a=true∧b=false)∨(a=true∧b=true):=by cases a<;>cases b<;>simp
def dR(o:Nat)(c:List Int)(u:Rat):Rat:=Zb (dN o (tzl c)) u
theorem Prt.num{q g:Zn}{G:Int}(h:Prt q g G):∃v s:Rat,0≤v∧0<s∧v+s≤1∧s*((g.1.2.1-g.1.1:Int):Rat)=((q.1.2.1-q.1.1:Int):Rat)∧v*((g.1.2.1-g.1.1:Int):Rat)=((q.1.1-g.1.1:Int):Rat)∧(0:Rat)<((g.1.2.1-g.1.1:Int):Rat)∧
  ∀i (u:Rat),Zb (Zt i q.2.1.2 q.2.2.1.2 q.2.2.2.2) u*(G:Rat)=((g.1.2.1-g.1.1:Int):Rat)^5*Zb (Zt i g.2.1.2 g.2.2.1.2 g.2.2.2.2) (v+s*u):=by
 have h1:=h.a0
 have h2:=h.b0
 have h3:=h.ab
 have hx:=h.x
 generalize g.1.2.1-g.1.1=d at *
 generalize q.1.2.1-q.1.1=b at *
 generalize q.1.1-g.1.1=a at *
 have hd:(0:Rat)<(d:Rat):=by exact_mod_cast (show 0<d by omega)
 have ha:(0:Rat)≤(a:Rat):=by exact_mod_cast h1
 have hb:(0:Rat)<(b:Rat):=by exact_mod_cast h2
 have hab:(a:Rat)+(b:Rat)≤(d:Rat):=by exact_mod_cast h3
 have hi:0<(d:Rat)⁻¹:=Rat.inv_pos.2 hd
 have e1:(a:Rat)/d*d=a:=Rat.div_mul_cancel O4
 have e2:(b:Rat)/d*d=b:=Rat.div_mul_cancel O4
 refine⟨(a:Rat)/d,(b:Rat)/d,?_,?_,?_,e2,e1,hd,fun i u=>hx i _ u (by
  have e3:(b:Rat)/d*u*d=((b:Rat)/d*d)*u:=by rw [Rat.mul_assoc,Rat.mul_comm u,←Rat.mul_assoc]
  rw [Rat.add_mul,e1,e3,e2])⟩
 ·rw [Rat.div_def];exact Rat.mul_nonneg ha (Rat.le_of_lt hi)
 ·rw [Rat.div_def];exact Rat.mul_pos hb hi
 ·have:((a:Rat)/d+b/d)*d≤1*d:=by rw [Rat.add_mul,e1,e2];grind
  exact Rat.le_of_mul_le_mul_right this hd
theorem Zrg{fr to:Int}{ps:List Zn}(h:Pf fr to ps=true):Zrh fr to ps=0:=if_pos h
theorem Ybt{fr to:Int}{ps:List Zn}(h:Pf fr to ps=false):Zrh fr to ps=7:=if_neg (by rw [h];exact Bool.false_ne_true)
theorem lh_M{fr to:Int}{ps:List Zn}(hi:∀g∈ps,Gin g)(hb:Ox ps=true):∀g∈ps,Kc fr to g=true→MdG fr to g:=fun g hg hc=>Zzv (hi g hg) ((Zdc hi hb).2.1 g hg) hc
def inn(fr to:Int)(ps:List Zn):List Int:=(ps.filter fun g=>decide (fr<g.1.1) && decide (g.1.1<to)).map fun g=>g.1.1
theorem inn_t{fr to:Int}{ps:List Zn}{k:Nat}(hk:k<ps.length)(h1:fr<(ps.getD k G0).1.1)(h2:(ps.getD k G0).1.1<to):inn fr to (ps.take (k+1))=inn fr to (ps.take k) ++ [(ps.getD k G0).1.1]:=by
  unfold inn
  rw [Zkf (x:=ps.getD k G0) (by rw [List.getD_eq_getElem?_getD,List.getElem?_eq_getElem hk];rfl),List.filter_append,List.map_append]
  rw [show List.filter (fun g:Zn=>decide (fr<g.1.1) && decide (g.1.1<to)) [ps.getD k G0]=[ps.getD k G0]from List.filter_cons_of_pos (by rw [decide_eq_true h1,decide_eq_true h2];rfl)]
  rfl
theorem inn_f{fr to:Int}{ps:List Zn}{k:Nat}(hk:k<ps.length)(h:¬(fr<(ps.getD k G0).1.1∧(ps.getD k G0).1.1<to)):inn fr to (ps.take (k+1))=inn fr to (ps.take k):=by
  unfold inn
  rw [Zkf (x:=ps.getD k G0) (by rw [List.getD_eq_getElem?_getD,List.getElem?_eq_getElem hk];rfl),List.filter_append,List.map_append]
  rw [show List.filter (fun g:Zn=>decide (fr<g.1.1) && decide (g.1.1<to)) [ps.getD k G0]=[] by
    rw [List.filter_cons_of_neg (fun h9=>by rw [Bool.and_eq_true]at h9;exact h ⟨of_decide_eq_true h9.1,of_decide_eq_true h9.2⟩)];rfl]
  simp
theorem Zle(fr to:Int)(ps:List Zn):(inn fr to ps).length≤ps.length:=by
  unfold inn;rw [List.length_map];exact List.length_filter_le _ _
theorem Zte{fr to x:Int}{ps:List Zn} : x∈inn fr to ps↔∃g∈ps,g.1.1=x∧fr<x∧x<to:=by
  unfold inn
  rw [List.mem_map]
  constructor
  · rintro⟨g,hg,rfl⟩
    obtain⟨h1,h2⟩:=List.mem_filter.1 hg
    simp only [Bool.and_eq_true,decide_eq_true_eq]at h2
    exact⟨g,h1,rfl,h2.1,h2.2⟩
  · rintro⟨g,hg,rfl,h1,h2⟩
    exact⟨g,List.mem_filter.2 ⟨hg,by simp [h1,h2]⟩,rfl⟩
def cmF(a b:List Zn):Int:=max (spF a) (spF b)
def cmL(a b:List Zn):Int:=min (spL a) (spL b)
def Zct(a b:List Zn)(i:Nat):List Int:=cmF a b :: cmL a b :: ((if 1≤i then inn (cmF a b) (cmL a b) a else []) ++ (if 2≤i then inn (cmF a b) (cmL a b) b else []))
def Mg(a b:List Zn):List Int:=Zm8 (Zct a b 2)
def Gb{α:Type _}(i:Nat)(a b:α):α:=if i=0 then a else b
theorem tms_s{a b:List Zn}{i:Nat}(h:i<2):Zct a b (i+1)=Zct a b i ++ inn (cmF a b) (cmL a b) (Gb i a b):=by
  match i,h with
  | 0,_=>simp [Zct,Gb]
  | 1,_=>simp [Zct,Gb]
theorem Zf1{a b:List Zn}{x:Int} : x∈Mg a b↔x=cmF a b∨x=cmL a b∨(cmF a b<x∧x<cmL a b∧((∃g∈a,g.1.1=x)∨∃g∈b,g.1.1=x)):=by
  unfold Mg
  rw [Zhi]
  show x∈cmF a b :: cmL a b :: (inn _ _ a ++ inn _ _ b)↔_
  rw [List.mem_cons,List.mem_cons,List.mem_append,Zte,Zte]
  constructor
  · rintro(h | h | ⟨g,h1,h2,h3,h4⟩ | ⟨g,h1,h2,h3,h4⟩)
    · exact .inl h
    · exact .inr (.inl h)
    · exact .inr (.inr ⟨h3,h4,.inl ⟨g,h1,h2⟩⟩)
    · exact .inr (.inr ⟨h3,h4,.inr ⟨g,h1,h2⟩⟩)
  · rintro(h | h | ⟨h3,h4,⟨g,h1,h2⟩ | ⟨g,h1,h2⟩⟩)
    · exact .inl h
    · exact .inr (.inl h)
    · exact .inr (.inr (.inl ⟨g,h1,h2,h3,h4⟩))
    · exact .inr (.inr (.inr ⟨g,h1,h2,h3,h4⟩))
theorem Ygj(a b:List Zn):Sst (Mg a b) (Mg a b).length:=Zsc (Zht _)
theorem Zok(x:Int):∀l:List Int,(Zhs x l).length≤l.length+1
  | []=>Nat.le_refl _
  | y :: l=>by
    have:=Zok x l
    unfold Zhs
    split
    · exact Nat.le_refl _
    · split
      · exact Nat.le_succ _
      · simp only [List.length_cons];omega
theorem Zoh:∀l:List Int,(Zm8 l).length≤l.length
  | []=>Nat.le_refl _
  | x :: l=>by
    have:=Zoh l
    have:=Zok x (Zm8 l)
    show(Zhs x (Zm8 l)).length≤_
    simp only [List.length_cons];omega
theorem Zld(a b:List Zn)(i:Nat):(Zct a b i).length≤2+a.length+b.length:=by
  have h1:=Zle (cmF a b) (cmL a b) a
  have h2:=Zle (cmF a b) (cmL a b) b
  unfold Zct
  split<;>split<;>simp<;>omega
theorem Ztl(a b:List Zn):(Mg a b).length≤2+a.length+b.length:=Nat.le_trans (Zoh _) (Zld a b 2)
structure Bks (a b:List Zn):Prop where
  two:2≤(Mg a b).length
  hd:(Mg a b).getD 0 0=cmF a b
  ls:(Mg a b).getD ((Mg a b).length-1) 0=cmL a b
  lt:∀k,k+1<(Mg a b).length→cmF a b≤(Mg a b).getD k 0∧(Mg a b).getD k 0<(Mg a b).getD (k+1) 0∧(Mg a b).getD (k+1) 0≤cmL a b
  no:∀k,k+1<(Mg a b).length→∀g,g∈a∨g∈b→¬((Mg a b).getD k 0<g.1.1∧g.1.1<(Mg a b).getD (k+1) 0)
theorem bks{a b:List Zn}(h:cmF a b<cmL a b):Bks a b:=by
  have hs:=Ygj a b
  have hF:cmF a b∈Mg a b:=Zf1.2 (.inl rfl)
  have hL:cmL a b∈Mg a b:=Zf1.2 (.inr (.inl rfl))
  have hb:∀x∈Mg a b,cmF a b≤x∧x≤cmL a b:=fun x hx=>by
    rcases Zf1.1 hx with h1 | h1 | ⟨h1,h2,_⟩<;>omega
  obtain⟨i,hi,ei⟩:=Hl.1 hF
  obtain⟨j,hj,ej⟩:=Hl.1 hL
  have two:2≤(Mg a b).length:=by
    by_cases e:i=j
    · subst e;omega
    · omega
  have hd:(Mg a b).getD 0 0=cmF a b:=by
    by_cases e:i=0
    · subst e;exact ei
    · have h1:=hs 0 i O hi
      have h2:=(hb _ (Zu (zs:=Mg a b) (i:=0) (d:=0))).1
      omega
  have ls:(Mg a b).getD ((Mg a b).length-1) 0=cmL a b:=by
    by_cases e:j=(Mg a b).length-1
    · rw [←e];exact ej
    · have h1:=hs j ((Mg a b).length-1) O O
      have h2:=(hb _ (Zu (zs:=Mg a b) (i:=(Mg a b).length-1) (d:=0))).2
      omega
  refine⟨two,hd,ls,fun k hk=>⟨(hb _ (Zu)).1,hs k (k+1) O hk,(hb _ (Zu hk)).2⟩,fun k hk g hg h9=>?_⟩
  have h1:=(hb _ (Zu (zs:=Mg a b) (i:=k) (d:=0))).1
  have h2:=(hb _ (Zu (zs:=Mg a b) (i:=k+1) (d:=0) hk)).2
  have hm:g.1.1∈Mg a b:=Zf1.2 (.inr (.inr ⟨O,O,by
    rcases hg with hg | hg
    · exact .inl ⟨g,hg,rfl⟩
    · exact .inr ⟨g,hg,rfl⟩⟩))
  obtain⟨q,hq,eq⟩:=Hl.1 hm
  rcases Nat.lt_trichotomy q k with c | c | c
  · have:=hs q k c O;omega
  · subst c;omega
  · rcases Nat.lt_trichotomy q (k+1)with d | d | d
    · omega
    · subst d;omega
    · have:=hs (k+1) q d hq;omega
theorem Zue{fr to:Int}{g:Zn}(h:Kc fr to g=true):fr<g.1.2.1∧g.1.1<to:=by
  unfold Kc cA cB at h
  have:=of_decide_eq_true h
  exact⟨O,O⟩
theorem Zud{fr to:Int}{ps:List Zn}(hc:Chn ps)(hne:ps≠[])(h1:spF ps≤fr)(h2:fr<to)(h3:to≤spL ps)(hno:∀g∈ps,¬(fr<g.1.1∧g.1.1<to)):(ps.filter (Kc fr to)).length=1:=by
  have h4:=Ybo hc hne h1 h2 h3
  have h5:0<(ps.filter (Kc fr to)).length:=List.length_pos_iff.2 h4
  rcases Nat.lt_or_ge 1 (ps.filter (Kc fr to)).length with h6 | h6
  · exfalso
    have e0:=List.getElem?_eq_getElem h5
    have e1:=List.getElem?_eq_getElem h6
    obtain⟨i,f1,f2⟩:=Zlm hc 0 _ _ e0 e1
    have m0:=(List.mem_filter.1 (List.getElem_mem h5)).2
    have m1:=(List.mem_filter.1 (List.getElem_mem h6)).2
    have hm1:=(List.mem_filter.1 (List.getElem_mem h6)).1
    have he:=hc.eq i _ _ f1 f2
    have c0:=Zue m0
    have c1:=Zue m1
    exact hno _ hm1 ⟨O,O⟩
  · omega
def Zfk(ts:List Int)(ps:List Zn):Nat→List Zpv
  | 0=>[]
  | n+1=>Zfk ts ps n ++ Zbj (ts.getD n 0) (ts.getD (n+1) 0) ps
def Fm(ts:List Int)(a b:List Zn):Nat→Bool
  | 0=>true
  | n+1=>Fm ts a b n && (Pf (ts.getD n 0) (ts.getD (n+1) 0) a && Pf (ts.getD n 0) (ts.getD (n+1) 0) b)
def Zrk(a b:List Zn):Bool:=Fm (Mg a b) a b ((Mg a b).length-1)
def Cq(a b:List Zn):Int:=if cmF a b≥cmL a b then 9 else if Zrk a b then 0 else 7
def Ks(a b ps:List Zn):List Zpv:=if Cq a b=0 then Zfk (Mg a b) ps ((Mg a b).length-1)else []
theorem Zpf{ts:List Int}{a b:List Zn} : ∀{n m:Nat},n≤m→Fm ts a b m=true→Fm ts a b n=true
  | n, 0, h, hk => by obtain rfl : n = 0 := by omega
                      rfl
  | n,m+1,h,hk=>by
    rcases Nat.lt_or_ge m n with h1 | h1
    · obtain rfl:n=m+1:=O
      exact hk
    · refine Zpf h1 ?_
      have:Fm ts a b (m+1)=(Fm ts a b m && (Pf (ts.getD m 0) (ts.getD (m+1) 0) a && Pf (ts.getD m 0) (ts.getD (m+1) 0) b)):=rfl
      rw [this,Bool.and_eq_true]at hk
      exact hk.1
def tik(a b:List Zn)(i k:Nat):List Int:=Zct a b i ++ inn (cmF a b) (cmL a b) ((Gb i a b).take k)
theorem tik_0(a b:List Zn)(i:Nat):tik a b i 0=Zct a b i:=by
  unfold tik;rw [List.take_zero];exact List.append_nil _
theorem tik_t{a b:List Zn}{i k:Nat}(hk:k<(Gb i a b).length)(h1:cmF a b<((Gb i a b).getD k G0).1.1)(h2:((Gb i a b).getD k G0).1.1<cmL a b):tik a b i (k+1)=tik a b i k ++ [((Gb i a b).getD k G0).1.1]:=by
  unfold tik;rw [inn_t hk h1 h2,List.append_assoc]
theorem tik_f{a b:List Zn}{i k:Nat}(hk:k<(Gb i a b).length)(h:¬(cmF a b<((Gb i a b).getD k G0).1.1∧((Gb i a b).getD k G0).1.1<cmL a b)):tik a b i (k+1)=tik a b i k:=by
  unfold tik;rw [inn_f hk h]
theorem tik_e{a b:List Zn}{i:Nat}(hi:i<2):tik a b i (Gb i a b).length=Zct a b (i+1):=by
  unfold tik;rw [List.take_length,tms_s hi]
theorem Zoi(a b:List Zn)(i:Nat):(Gb i a b).length≤a.length+b.length:=by
  unfold Gb;split<;>omega
theorem Yew(a b:List Zn)(i k:Nat):(tik a b i k).length≤2+2*(a.length+b.length):=by
  have h1:=Zld a b i
  have h2:=Zle (cmF a b) (cmL a b) ((Gb i a b).take k)
  have h3:=Zoi a b i
  have h4:((Gb i a b).take k).length≤(Gb i a b).length:=List.length_take_le' _ _
  unfold tik;rw [List.length_append];omega
theorem tms_ne(a b:List Zn)(i:Nat):Zct a b i≠[]:=fun h=>nomatch h
theorem tms_2(a b:List Zn)(i:Nat):2≤(Zct a b i).length:=by unfold Zct;simp
section
variable {P:Program} {N:Nat} {sc:Nat→Prop} {env:Qj} {H:Hp}
theorem Ydz{sa sb sd:SL}{a b:List Zn}(i j k n:Nat)(hj:lk H j=some (Ps 6 Mp qG (Qq sa) a))(hk:lk H k=some (Ps 6 Mp qG (Qq sb) b))(hj0:Nat.beq j 0=false)(hk0:Nat.beq k 0=false)(hi:i<2) :
    ∀a' w,Sat N sc env H a' w→Sat N sc env ((n,Ps 6 Mp qG (Qq ([sa,sb].getD i sd)) (Gb i a b)) :: H) a' w:=by
  match i,hi with
  | 0,_=>exact Zbm j n hj hj0 rfl (fun _ h=>h) (fun _ h=>h) rfl
  | 1,_=>exact Zbm k n hk hk0 rfl (fun _ h=>h) (fun _ h=>h) rfl
end
theorem Ybv{a b:List Zn}(h:cmF a b≥cmL a b)(ps:List Zn):Cq a b=9∧Ks a b ps=[]:=by
  have e:Cq a b=9:=if_pos h
  exact⟨e,by unfold Ks;rw [e];rfl⟩
theorem Zj3{a b:List Zn}(h:¬cmF a b≥cmL a b){n:Nat}(hn:n+1<(Mg a b).length)(hc:(Pf ((Mg a b).getD n 0) ((Mg a b).getD (n+1) 0) a && Pf ((Mg a b).getD n 0) ((Mg a b).getD (n+1) 0) b)=false)(ps:List Zn):Cq a b=7∧Ks a b ps=[]:=by
  have k:Zrk a b=false:=by
    cases hk:Zrk a b with
    | false=>rfl
    | true=>
      have h1:=Zpf (n:=n+1) O hk
      have h2:Fm (Mg a b) a b (n+1)=(Fm (Mg a b) a b n && (Pf ((Mg a b).getD n 0) ((Mg a b).getD (n+1) 0) a && Pf ((Mg a b).getD n 0) ((Mg a b).getD (n+1) 0) b)):=rfl
      rw [h2,hc,Bool.and_false]at h1
      exact h1.symm
  have e:Cq a b=7:=by unfold Cq;rw [if_neg h,k];rfl
  exact⟨e,by unfold Ks;rw [e];rfl⟩
theorem Ybw{a b:List Zn}(h:¬cmF a b≥cmL a b){n:Nat}(hn:n+1=(Mg a b).length)(hc:Fm (Mg a b) a b n=true):Cq a b=0∧∀ps,Ks a b ps=Zfk (Mg a b) ps n:=by
  have k:Zrk a b=true:=by unfold Zrk;rw [show(Mg a b).length-1=n by omega];exact hc
  have e:Cq a b=0:=by unfold Cq;rw [if_neg h,k];rfl
  exact⟨e,fun ps=>by unfold Ks;rw [e,if_pos rfl,show(Mg a b).length-1=n by omega]⟩
theorem com_k{a b:List Zn}{n:Nat}(h:Fm (Mg a b) a b n=true)(h1:Pf ((Mg a b).getD n 0) ((Mg a b).getD (n+1) 0) a=true)(h2:Pf ((Mg a b).getD n 0) ((Mg a b).getD (n+1) 0) b=true):Fm (Mg a b) a b (n+1)=true:=by
  show(Fm (Mg a b) a b n && (_ && _))=true
  rw [h,h1,h2];rfl
theorem com_z{ts:List Int}{ps zs us:List Zn}{n:Nat}(h:zs.map unS=Zfk ts ps n)(hu:us.map unS=Zbj (ts.getD n 0) (ts.getD (n+1) 0) ps):(zs ++ us).map unS=Zfk ts ps (n+1):=by
  rw [List.map_append,h,hu];rfl
theorem com_u{ps us:List Zn}{fr to:Int}(hi:∀g∈ps,Gin g)(hb:Ox ps=true)(h1:spF ps≤fr)(h2:fr<to)(h3:to≤spL ps)(hno:∀g∈ps,¬(fr<g.1.1∧g.1.1<to))(hc:Pf fr to ps=true)(hu:us.map unS=Zbj fr to ps):us.length=1:=by
  have hl:=(Ea hb).2.1
  have h4:=Zud (Zdc hi hb).1 (fun e=>by rw [e]at hl;simp at hl) h1 h2 h3 hno
  have h5:=congrArg List.length hu
  rw [List.length_map]at h5
  rw [h5]
  unfold Zbj
  rw [if_pos hc,List.length_map,h4]
theorem com_ua{a b us:List Zn}{n:Nat}(hi:∀g∈a,Gin g)(hb:Ox a=true)(B:Bks a b)(hn:n+1<(Mg a b).length)(hc:Pf ((Mg a b).getD n 0) ((Mg a b).getD (n+1) 0) a=true)(hu:us.map unS=Zbj ((Mg a b).getD n 0) ((Mg a b).getD (n+1) 0) a):us.length=1:=by
  obtain⟨h1,h2,h3⟩:=B.lt n hn
  unfold cmF at h1
  unfold cmL at h3
  exact com_u hi hb O h2 O (fun g hg=>B.no n hn g (.inl hg)) hc hu
theorem com_ub{a b us:List Zn}{n:Nat}(hi:∀g∈b,Gin g)(hb:Ox b=true)(B:Bks a b)(hn:n+1<(Mg a b).length)(hc:Pf ((Mg a b).getD n 0) ((Mg a b).getD (n+1) 0) b=true)(hu:us.map unS=Zbj ((Mg a b).getD n 0) ((Mg a b).getD (n+1) 0) b):us.length=1:=by
  obtain⟨h1,h2,h3⟩:=B.lt n hn
  unfold cmF at h1
  unfold cmL at h3
  exact com_u hi hb O h2 O (fun g hg=>B.no n hn g (.inr hg)) hc hu
theorem Zr1{a b:Bool}(h:a=false):(a && b)=false:=by rw [h];rfl
theorem Zr0{a b:Bool}(h:b=false):(a && b)=false:=by rw [h];exact Bool.and_false _
end Go.Sky
namespace Go.Sky
section
variable {P:Program} {N:Nat} {sc:Nat→Prop} {env:Qj} {H:Hp}
theorem d_ix4 {o:Oper} {x y:Operand} {t e:TypeId} {i:Nat} {kd:IntKind} {m n0 n1 n2 n3:Int} (ho:o.op= .index t x y) (hx:ev env x=some (.agg #[.int .i64 n0,.int .i64 n1,.int .i64 n2,.int .i64 n3])) (hy:ev env y=some (.int kd m))
  (ht:P.underlying t=some (.array 4 e)) (hk:∀w,(sizeOf e).run P w= .ok 1 w) (ha:∀w,(isAgg e).run P w= .ok false w) (him:m=(i:Int)) (hlt:i<4):Oy P N sc o env H (.int .i64 ([n0,n1,n2,n3].getD i 0)):=fun a w hs=>by
 subst him
 have h3:i=0∨i=1∨i=2∨i=3:=O
 rcases h3 with rfl | rfl | rfl | rfl<;>simp [execOp,ho,hs.ev hx,hs.ev hy,Instr.index,asIntOf,run_underlying ht,hk,ha,asAgg,part]
theorem d_ix9 {o:Oper} {x y:Operand} {t e:TypeId} {i:Nat} {kd:IntKind} {m n0 n1 n2:Int} {v0 v1 v2 u0 u1 u2:Value} (ho:o.op= .index t x y) (hx:ev env x=some (.agg #[v0,u0,.int .i64 n0,v1,u1,.int .i64 n1,v2,u2,.int .i64 n2])) (hy:ev env y=some (.int kd m))
  (ht:P.underlying t=some (.array 3 e)) (hk:∀w,(sizeOf e).run P w= .ok 3 w) (ha:∀w,(isAgg e).run P w= .ok true w) (him:m=(i:Int)) (hlt:i<3):Oy P N sc o env H (.agg #[Zt i v0 v1 v2,Zt i u0 u1 u2,.int .i64 (Zt i n0 n1 n2)]):=fun a w hs=>by
 subst him
 have h3:i=0∨i=1∨i=2:=O
 rcases h3 with rfl | rfl | rfl<;>simp [execOp,ho,hs.ev hx,hs.ev hy,Instr.index,asIntOf,run_underlying ht,hk,ha,asAgg,part,Zt]
end
def KA:Nat:=360287970189639680
theorem AxC.ka{c:List Int}{ov:Int}(h:AxC c ov)(h1:1≤ov)(h2:ov≤4294967296):Ab KA (tzl c):=fun k=>by
 have:=h.cg k
 rw [Lm]
 unfold KA;omega
def BG:Nat:=2^250*2^250
theorem bl_two{a b x:Nat}(h:x<2^a*2^b):bl x≤a+b:=(Xs (a+b) x).2 (by rw [Nat.pow_add];exact h)
theorem Zu0{x:Nat}(h:x<BG):bl x≤500:=bl_two (a:=250) (b:=250) h
theorem Ab.sg{M:Nat}{p:List Int}(h:Ab M p)(hM:M<BG):Sz 500 p:=fun i=>Zu0 (Nat.lt_of_le_of_lt (h i) hM)
theorem Bs{M:Nat}{p:List Int}(h:Ab M p)(hM:M<BG)(ht:Tr p)(hl:p.length≤25):Vp p:=⟨(h.sg hM).mono O3,ht,hl⟩
theorem Zni{M:Nat}{p:List Int}{c:Int}(h:Ab M p)(hM:M*c.natAbs<BG)(i:Nat):bl (cf p i*c).natAbs≤65536:=by
 have h1:=Ew h c i
 rw [Xq]at h1
 exact Nat.le_trans (Zu0 (Nat.lt_of_le_of_lt h1 hM)) O3
theorem ad_ab{M K:Nat}{p q:List Int}(h:Ab M p)(h2:Ab K q)(hM:M+K<BG)(i:Nat):bl (cf p i+cf q i).natAbs≤65536∧bl (cf p i-cf q i).natAbs≤65536:=by
 have a:=h i
 have b:=h2 i
 exact⟨Nat.le_trans (Zu0 (Nat.lt_of_le_of_lt (by omega:_≤M+K) hM)) O3,Nat.le_trans (Zu0 (Nat.lt_of_le_of_lt (by omega:_≤M+K) hM)) O3⟩
theorem mf_ab{M:Nat}{p:List Int}(h:Ab M p)(hM:M<BG)(hl:p.length≤11):¬Dj p p:=fun hF=>by
 have m:=Qu (h.sg hM)
 rcases hF.2.2 with w | w<;>omega
def dfP(p q:List Int)(a b:Int):List Int:=Bz (Yp (tzl p) b) (Yp (tzl q) a)
def dfK(p q:List Int)(a b k:Int):List Int:=Yp (dfP p q a b) k
def sqK(p q:List Int)(a b k:Int):List Int:=Xw (dfK p q a b k) (dfK p q a b k)
def sqP(p q:List Int)(a b:Int):List Int:=Xw (dfP p q a b) (dfP p q a b)
def KD:Nat:=KA*4294967296+KA*4294967296
structure FmX (p q:List Int) (a b k:Int):Prop where
 v1:Vp (tzl p)
 v2:Vp (tzl q)
 b1:bl b.natAbs≤65536
 a1:bl a.natAbs≤65536
 k1:bl k.natAbs≤65536
 s1:∀i,bl (cf (tzl p) i*b).natAbs≤65536
 s2:∀i,bl (cf (tzl q) i*a).natAbs≤65536
 v3:Vp (Yp (tzl p) b)
 v4:Vp (Yp (tzl q) a)
 s3:∀i,bl (cf (Yp (tzl p) b) i-cf (Yp (tzl q) a) i).natAbs≤65536
 v5:Vp (dfP p q a b)
 s4:∀i,bl (cf (dfP p q a b) i*k).natAbs≤65536
 v6:Vp (dfK p q a b k)
 m6:¬Dj (dfK p q a b k) (dfK p q a b k)
 v7:Vp (sqK p q a b k)
 ab:Ab (6*((KD*100)*(KD*100))) (sqK p q a b k)
 l:(sqK p q a b k).length≤11
 m5:¬Dj (dfP p q a b) (dfP p q a b)
 v8:Vp (sqP p q a b)
 ab8:Ab (6*((KD*100)*(KD*100))) (sqP p q a b)
 l8:(sqP p q a b).length≤11
theorem fmX{p q:List Int}{a b k:Int}(hp:Ab KA (tzl p))(hq:Ab KA (tzl q))(lp:p.length≤6)(lq:q.length≤6)(ha:1≤a∧a≤4294967296)(hb:1≤b∧b≤4294967296)(hk:1≤k∧k≤100):FmX p q a b k:=by
 have lp':(tzl p).length≤6:=Nat.le_trans (Ke p) lp
 have lq':(tzl q).length≤6:=Nat.le_trans (Ke q) lq
 have p1:Ab (KA*4294967296) (Yp (tzl p) b):=(Ew hp b).mono (Nat.mul_le_mul_left _ O)
 have q1:Ab (KA*4294967296) (Yp (tzl q) a):=(Ew hq a).mono (Nat.mul_le_mul_left _ O)
 have d1:Ab KD (dfP p q a b):=ab_sub p1 q1
 have d2:Ab (KD*100) (dfK p q a b k):=(Ew d1 k).mono (Nat.mul_le_mul_left _ O)
 have d3:Ab (KD*100) (dfP p q a b):=d1.mono O7
 have l3:(Yp (tzl p) b).length≤6:=Nat.le_trans (Mj _ _) lp'
 have l4:(Yp (tzl q) a).length≤6:=Nat.le_trans (Mj _ _) lq'
 have l5:(dfP p q a b).length≤6:=Yez l3 l4
 have l6:(dfK p q a b k).length≤6:=Nat.le_trans (Mj _ _) l5
 have t5:Tr (dfP p q a b):=Xv _
 have t6:Tr (dfK p q a b k):=Xv _
 have a7:=Ycw d2 d2 l6
 have a8:=Ycw d3 d3 l5
 have l7:=Ztm t6 t6 l6 l6
 have l8:=Ztm t5 t5 l5 l5
 have bb:∀c:Int,1≤c∧c≤4294967296→bl c.natAbs≤65536:=fun c hc=>Nat.le_trans ((Xs 40 _).2 O) O7
 have mm:∀c:Int,1≤c∧c≤4294967296→KA*c.natAbs<BG:=fun c hc=>Nat.lt_of_le_of_lt (Nat.mul_le_mul_left KA (by omega:c.natAbs≤4294967296)) O7
 exact⟨Bs hp O7 (Xv _) O,Bs hq O7 (Xv _) O,bb b hb,bb a ha,bb k O,Zni hp (mm b hb),Zni hq (mm a ha),
  Bs p1 O7 (Xv _) O,Bs q1 O7 (Xv _) O,fun i=>(ad_ab p1 q1 O7 i).2,Bs d1 O7 t5 O,
  Zni d1 (Nat.lt_of_le_of_lt (Nat.mul_le_mul_left KD (by omega:k.natAbs≤100)) O7),Bs d2 O7 t6 O,mf_ab d2 O7 O,Bs a7 O7 (Xr _ _) (by have:(sqK p q a b k).length≤_:=l7;omega),a7,l7,
  mf_ab d3 O7 O,Bs a8 O7 (Xr _ _) (by have:(sqP p q a b).length≤_:=l8;omega),a8,l8⟩
def ngC(ns:List Int):Nat→List Int
 | 0=>[-1]
 | i+1=>Yp (Yp (ngC ns i) (ns.getD i 0)) (ns.getD i 0)
def sqN(ns:List Int):Nat→Nat
 | 0=>1
 | i+1=>sqN ns i*(ns.getD i 0).natAbs*(ns.getD i 0).natAbs
theorem Zqq(ns:List Int):∀i,Ab (sqN ns i) (ngC ns i)∧(ngC ns i).length≤1∧Tr (ngC ns i)
 | 0=>⟨fun i=>by
   match i with
   | 0=>show(cf [-1] 0).natAbs≤1;decide
   | i+1=>show(cf [-1] (i+1)).natAbs≤1;rw [Ya O6];decide,Nat.le_refl _,show Tr [-1]from .inr O3⟩
 | i+1=>by
  obtain⟨h1,h2,h3⟩:=Zqq ns i
  exact⟨Ew (Ew h1 _) _,Nat.le_trans (Mj _ _) (Nat.le_trans (Mj _ _) h2),Xv _⟩
theorem Zx0{ns:List Int}{B:Nat}(h:∀i,(ns.getD i 0).natAbs≤B):∀i,sqN ns i≤(B*B)^i
 | 0=>Nat.le_refl _
 | i+1=>by
  rw [Nat.pow_succ,←Nat.mul_assoc]
  exact Nat.mul_le_mul (Nat.mul_le_mul (Zx0 h i) (h i)) (h i)
structure NgX (ns:List Int) (i:Nat):Prop where
 b:bl (ns.getD i 0).natAbs≤65536
 inn:Nc (ns.getD i 0)
 v:Vp (ngC ns i)
 s:∀k,bl (cf (ngC ns i) k*ns.getD i 0).natAbs≤65536
 v2:Vp (Yp (ngC ns i) (ns.getD i 0))
 s2:∀k,bl (cf (Yp (ngC ns i) (ns.getD i 0)) k*ns.getD i 0).natAbs≤65536
theorem ngX{ns:List Int}(h:∀i,(ns.getD i 0).natAbs≤4294967296){i:Nat}(hi:i≤4):NgX ns i:=by
 obtain⟨h1,h2,h3⟩:=Zqq ns i
 have e:=Zx0 h i
 have e2:(4294967296*4294967296)^i≤(4294967296*4294967296)^4:=Nat.pow_le_pow_right O7 hi
 have h4:Ab ((4294967296*4294967296)^4) (ngC ns i):=h1.mono (Nat.le_trans e e2)
 have hb:=h i
 have h5:Ab ((4294967296*4294967296)^4*4294967296) (Yp (ngC ns i) (ns.getD i 0)):=(Ew h4 _).mono (Nat.mul_le_mul_left _ hb)
 have m1:(4294967296*4294967296)^4*(ns.getD i 0).natAbs<BG:=Nat.lt_of_le_of_lt (Nat.mul_le_mul_left _ hb) O7
 have m2:(4294967296*4294967296)^4*4294967296*(ns.getD i 0).natAbs<BG:=Nat.lt_of_le_of_lt (Nat.mul_le_mul_left _ hb) O7
 exact⟨Nat.le_trans ((Xs 40 _).2 O) O7,⟨O,O⟩,Bs h4 O7 h3 O,Zni h4 m1,Bs h5 O7 (Xv _) (Nat.le_trans (Mj _ _) O),Zni h5 m2⟩
def smP(c:List Int)(f:Nat→List Int):Nat→List Int
 | 0=>c
 | i+1=>Zei (smP c f i) (f i)
theorem Zx6{c:List Int}{f:Nat→List Int}{C F:Nat}(hc:Ab C c)(lc:c.length≤11)(tc:Tr c)(hf:∀i,Ab F (f i))(lf:∀i,(f i).length≤11):∀i,Ab (C+i*F) (smP c f i)∧(smP c f i).length≤11∧Tr (smP c f i)
 | 0=>⟨by rw [Nat.zero_mul];exact hc,lc,tc⟩
 | i+1=>by
  obtain⟨h1,h2,h3⟩:=Zx6 hc lc tc hf lf i
  exact⟨by rw [Nat.succ_mul,←Nat.add_assoc];exact ab_add h1 (hf i),Ye0 h2 (lf i),Xv _⟩
structure SmX (c:List Int) (f:Nat→List Int):Prop where
 v:∀i,i≤3→Vp (smP c f i)
 s:∀i,i<3→∀k,bl (cf (smP c f i) k+cf (f i) k).natAbs≤65536
 d:Cvd (Zx (smP c f 3))
theorem smX{c:List Int}{f:Nat→List Int}(hc:Ab (2^190) c)(lc:c.length≤1)(tc:Tr c)(hf:∀i,Ab (6*((KD*100)*(KD*100))) (f i))(lf:∀i,(f i).length≤11):SmX c f:=by
 have key:=Zx6 hc O tc hf lf
 have bd:∀i,i≤3→2^190+i*(6*((KD*100)*(KD*100)))<2^205:=fun i hi=>Nat.lt_of_le_of_lt (Nat.add_le_add_left (Nat.mul_le_mul_right _ hi) _) O7
 have bd2:(2:Nat)^205<BG:=O7
 refine⟨fun i hi=>?_,fun i hi k=>?_,?_⟩
 ·obtain⟨h1,h2,h3⟩:=key i
  exact Bs h1 (Nat.lt_trans (bd i hi) bd2) h3 O
 ·obtain⟨h1,h2,h3⟩:=key i
  refine(ad_ab h1 (hf i) ?_ k).1
  have:=bd (i+1) hi
  rw [Nat.succ_mul]at this
  have e:=Nat.lt_trans this bd2
  omega
 ·obtain⟨h1,h2,h3⟩:=key 3
  have hs:=h1.sz (bd 3 (Nat.le_refl _))
  exact⟨Lo (Bs h1 (Nat.lt_trans (bd 3 (Nat.le_refl _)) bd2) h3 O),Fc hs,by rw [Zo];exact h2⟩
end Go.Sky
namespace Go.Sky
theorem fill33(u0 u1 u2 u3 u4 u5 u6 u7 u8 a0 a1 a2 b0 b1 b2 c0 c1 c2:Value):Instr.fill (fun i=>some (i*3,3)) #[u0,u1,u2,u3,u4,u5,u6,u7,u8] [(0,.agg #[a0,a1,a2]),(1,.agg #[b0,b1,b2]),(2,.agg #[c0,c1,c2])]=some #[a0,a1,a2,b0,b1,b2,c0,c1,c2]:=by
 simp [Instr.fill,Value.cells]
theorem fillG(u0 u1 u2 a0 a1 a2:Value):Instr.fill (fun i=>some (i*3,3)) ((List.range (1*3)).map ((Value.agg #[u0,u1,u2]).cells[· % (Value.agg #[u0,u1,u2]).cells.size]!)).toArray [(0,.agg #[a0,a1,a2])]=some #[a0,a1,a2]:=by
 simp [Instr.fill,Value.cells,List.range,List.range.loop]
 try rfl
def Zqw(m:Int)(l:List Int):Bool:=l.all fun x=>decide (-m≤x) && decide (x≤m)
theorem insB_t{m:Int}{l:List Int}(h:∀i,i<l.length→-m≤l.getD i 0∧l.getD i 0≤m):Zqw m l=true:=List.all_eq_true.2 fun x hx=>by
 obtain⟨k,hk,rfl⟩:=Hl.1 hx
 obtain⟨h1,h2⟩:=h k hk
 rw [decide_eq_true h1,decide_eq_true h2];rfl
theorem Yab{m:Int}{l:List Int}{i:Nat}(hi:i<l.length)(h:¬(-m≤l.getD i 0∧l.getD i 0≤m)):Zqw m l=false:=by
 cases hb:Zqw m l with
 | false=>rfl
 | true=>
  have:=List.all_eq_true.1 hb _ (Zu (d:=0) hi)
  rw [Bool.and_eq_true]at this
  exact absurd ⟨of_decide_eq_true this.1,of_decide_eq_true this.2⟩ h
def ptB(x y z:Int):Bool:=Zqw 1048576 [x,y,z]
theorem Yed{x y z:Int}(h:ptB x y z=true):(-1048576≤x∧x≤1048576)∧(-1048576≤y∧y≤1048576)∧(-1048576≤z∧z≤1048576):=by
 unfold ptB Zqw at h
 simp only [List.all_cons,List.all_nil,Bool.and_true,Bool.and_eq_true,decide_eq_true_eq]at h
 exact h
def znB(D n d:Int):Bool:=decide (1≤D∧D≤4194304∧1≤n∧n≤d∧d≤100)
theorem zn_b{D n d:Int}(h:znB D n d=true):1≤D∧D≤4194304∧1≤n∧n≤d∧d≤100:=of_decide_eq_true h
theorem Aw{x y:Int}{A B:Nat}(hx:x.natAbs≤A)(hy:y.natAbs≤B):(x*y).natAbs≤A*B:=by rw [Int.natAbs_mul];exact Nat.mul_le_mul hx hy
def Zyy(ax ay az bx b_y bz D n d:Int):Bool:=decide (D*d*(D*d)≤(ax-bx)*d*((ax-bx)*d)+(ay-b_y)*d*((ay-b_y)*d)+(az-bz)*n*((az-bz)*n))
theorem Zns{a b c:Bool}(h:¬(a=true∧b=true∧c=true)):a=false∨(a=true∧b=false)∨(a=true∧b=true∧c=false):=by cases a<;>cases b<;>cases c<;>simp_all
def fqZ(n d ov ov2:Int)(x y z x2 y2 z2:List Int)(i:Nat):List Int:=sqK (Zt i x y z) (Zt i x2 y2 z2) ov ov2 (Zt i d d n)
def cnZ(D d ov ov2:Int):List Int:=ngC [D,d,ov,ov2] 4
def smZ(D n d ov ov2:Int)(x y z x2 y2 z2:List Int)(i:Nat):List Int:=smP (cnZ D d ov ov2) (fqZ n d ov ov2 x y z x2 y2 z2) i
def fmZ(D n d ov ov2:Int)(x y z x2 y2 z2:List Int):List Int:=Zx (smZ D n d ov ov2 x y z x2 y2 z2 3)
structure FzX (D n d ov ov2:Int) (x y z x2 y2 z2:List Int):Prop where
 X:∀i,FmX (Zt i x y z) (Zt i x2 y2 z2) ov ov2 (Zt i d d n)
 K:∀i,Nc (Zt i d d n)
 N:∀i,i≤4→NgX [D,d,ov,ov2] i
 Q:SmX (cnZ D d ov ov2) (fqZ n d ov ov2 x y z x2 y2 z2)
theorem Zed{fr to ov:Int}{x y z:List Int}(h:Fi fr to ov x y z=true)(i:Nat):Ab KA (tzl (Zt i x y z)):=by
 unfold Fi Zvb at h
 simp only [Bool.and_eq_true,decide_eq_true_eq]at h
 obtain⟨⟨⟨⟨⟨⟨⟨⟨a1,a2⟩,a3⟩,a4⟩,a5⟩,b1⟩,b2⟩,b3⟩,-⟩:=h
 exact Ei (p:=fun l=>Ab KA (tzl l)) ((AxC.of b1).ka a4 a5) ((AxC.of b2).ka a4 a5) ((AxC.of b3).ka a4 a5)
theorem fzX{fr to ov fr2 to2 ov2 D n d:Int}{x y z x2 y2 z2:List Int}(hS:Sgo fr to ov x y z)(hS2:Sgo fr2 to2 ov2 x2 y2 z2)(hA:∀i,Ab KA (tzl (Zt i x y z)))(hA2:∀i,Ab KA (tzl (Zt i x2 y2 z2)))(hz:znB D n d=true):FzX D n d ov ov2 x y z x2 y2 z2:=by
 obtain⟨z1,z2',z3,z4,z5⟩:=zn_b hz
 have o1:=hS.o1
 have o2:=hS.o2
 have o3:=hS2.o1
 have o4:=hS2.o2
 have hk:∀i,1≤Zt i d d n∧Zt i d d n≤100:=fun i=>Ei (p:=fun k:Int=>1≤k∧k≤100) ⟨O,O⟩ ⟨O,O⟩ ⟨O,O⟩
 have hX:∀i,FmX (Zt i x y z) (Zt i x2 y2 z2) ov ov2 (Zt i d d n):=fun i=>fmX (hA i) (hA2 i) (hS.lc i).2 (hS2.lc i).2 ⟨o1,o2⟩ ⟨o3,o4⟩ (hk i)
 have hn:∀i,([D,d,ov,ov2].getD i 0).natAbs≤4294967296:=fun i=>by
  match i with
  | 0=>show D.natAbs≤_;omega
  | 1=>show d.natAbs≤_;omega
  | 2=>show ov.natAbs≤_;omega
  | 3=>show ov2.natAbs≤_;omega
  | i+4=>show(0:Int).natAbs≤_;decide
 refine⟨hX,fun i=>?_,fun i hi=>ngX hn hi,?_⟩
 ·obtain⟨h1,h2⟩:=hk i;exact⟨O,O⟩
 ·obtain⟨h1,h2,h3⟩:=Zqq [D,d,ov,ov2] 4
  refine smX (h1.mono ?_) h2 h3 (fun i=>(hX i).ab) (fun i=>(hX i).l)
  show 1*D.natAbs*D.natAbs*d.natAbs*d.natAbs*ov.natAbs*ov.natAbs*ov2.natAbs*ov2.natAbs≤2^190
  refine Nat.le_trans (Nat.mul_le_mul (Nat.mul_le_mul (Nat.mul_le_mul (Nat.mul_le_mul (Nat.mul_le_mul (Nat.mul_le_mul (Nat.mul_le_mul (Nat.mul_le_mul (Nat.le_refl 1) (show D.natAbs≤4194304 by omega)) (show D.natAbs≤4194304 by omega)) (show d.natAbs≤100 by omega)) (show d.natAbs≤100 by omega)) (show ov.natAbs≤4294967296 by omega)) (show ov.natAbs≤4294967296 by omega)) (show ov2.natAbs≤4294967296 by omega)) (show ov2.natAbs≤4294967296 by omega)) O7
theorem Yfd{D n d ov ov2:Int}{x y z x2 y2 z2:List Int}(h:FzX D n d ov ov2 x y z x2 y2 z2):Cvd (fmZ D n d ov ov2 x y z x2 y2 z2):=by
 unfold fmZ smZ;exact h.Q.d
theorem tzlm1:(if 25<(tzl [(-1:Int)]).length then []else tzl [-1])=[-1]:=O3
abbrev GpT:=(Int×Int)×(SL×List Int)
abbrev Zh2 (g:GpT):Value:= .agg #[.int .i64 g.1.1,.int .i64 g.1.2,Qq g.2.1]
abbrev qGp (g:GpT):Pc:=Yk 2 wv (Qq g.2.1) g.2.2
abbrev Gp0:GpT:=((0,0),((none,0,0),[]))
abbrev GpU:=Int×Int×List Int
def unP(g:GpT):GpU:=(g.1.1,g.1.2,g.2.2)
def gpZ(D n d:Int)(g h:Zpv):GpU:=(g.1.1,g.1.2.1,fmZ D n d g.1.2.2 h.1.2.2 g.2.1 g.2.2.1 g.2.2.2 h.2.1 h.2.2.1 h.2.2.2)
def Dx(D n d:Int)(a b:List Zn):List GpU:=List.zipWith (gpZ D n d) (Ks a b a) (Ks a b b)
def Ziy(a b:List Zn):Int:=if Cq a b=9 then 0 else Cq a b
theorem Zrj{a b:List Zn}(h:Cq a b≠0)(ps:List Zn):Ks a b ps=[]:=if_neg h
theorem gapZ_0{D n d:Int}{a b:List Zn}(h:Cq a b≠0):Dx D n d a b=[]:=by unfold Dx;rw [Zrj h];rfl
theorem Zhq{ts:List Int}{a b ps:List Zn}(hone:∀k,Pf (ts.getD k 0) (ts.getD (k+1) 0) a=true→Pf (ts.getD k 0) (ts.getD (k+1) 0) b=true→k+1<ts.length→(Zbj (ts.getD k 0) (ts.getD (k+1) 0) ps).length=1):∀n,n+1≤ts.length→Fm ts a b n=true→(Zfk ts ps n).length=n
 | 0,_,_=>rfl
 | n+1,hn,hk=>by
  have h1:Fm ts a b (n+1)=(Fm ts a b n && (Pf (ts.getD n 0) (ts.getD (n+1) 0) a && Pf (ts.getD n 0) (ts.getD (n+1) 0) b)):=rfl
  rw [h1,Bool.and_eq_true,Bool.and_eq_true]at hk
  show(Zfk ts ps n ++ Zbj _ _ ps).length=_
  rw [List.length_append,Zhq hone n O hk.1,hone n hk.2.1 hk.2.2 O]
theorem Ybs{ps:List Zn}{fr to:Int}(hi:∀g∈ps,Gin g)(hb:Ox ps=true)(h1:spF ps≤fr)(h2:fr<to)(h3:to≤spL ps)(hno:∀g∈ps,¬(fr<g.1.1∧g.1.1<to))(hc:Pf fr to ps=true):(Zbj fr to ps).length=1:=by
 have hl:=(Ea hb).2.1
 unfold Zbj
 rw [if_pos hc,List.length_map,Zud (Zdc hi hb).1 (fun e=>by rw [e]at hl;simp at hl) h1 h2 h3 hno]
theorem comE_0{a b:List Zn}(h:Cq a b=0):¬cmF a b≥cmL a b∧Zrk a b=true:=by
 unfold Cq at h
 by_cases h1:cmF a b≥cmL a b
 ·rw [if_pos h1]at h;exact absurd h O3
 ·rw [if_neg h1]at h
  cases hk:Zrk a b with
  | true=>exact⟨h1,rfl⟩
  | false=>rw [hk]at h;exact absurd h O3
theorem Zuh{a b:List Zn}(hpa:∀g∈a,Gin g)(hpb:∀g∈b,Gin g)(hba:Ox a=true)(hbb:Ox b=true):(Ks a b a).length=(Ks a b b).length∧(Ks a b a).length≤2+a.length+b.length:=by
 by_cases h:Cq a b=0
 ·obtain⟨h1,h2⟩:=comE_0 h
  have B:=bks (a:=a) (b:=b) O
  have two:=B.two
  have e:∀ps,Ks a b ps=Zfk (Mg a b) ps ((Mg a b).length-1):=fun ps=>if_pos h
  have ha:=Zhq (ts:=Mg a b) (a:=a) (b:=b) (ps:=a) (fun k h3 h4 h5=>by
   obtain⟨c1,c2,c3⟩:=B.lt k h5
   unfold cmF at c1
   unfold cmL at c3
   exact Ybs hpa hba O c2 O (fun g hg=>B.no k h5 g (.inl hg)) h3) ((Mg a b).length-1) O h2
  have hb:=Zhq (ts:=Mg a b) (a:=a) (b:=b) (ps:=b) (fun k h3 h4 h5=>by
   obtain⟨c1,c2,c3⟩:=B.lt k h5
   unfold cmF at c1
   unfold cmL at c3
   exact Ybs hpb hbb O c2 O (fun g hg=>B.no k h5 g (.inr hg)) h4) ((Mg a b).length-1) O h2
  have hl:=Ztl a b
  rw [e,e,ha,hb]
  exact⟨rfl,O⟩
 ·rw [Zrj h,Zrj h];exact⟨rfl,Nat.zero_le _⟩
theorem Zl4{a b ps zs:List Zn}(hi:∀g∈ps,Gin g)(hb:Ox ps=true)(hz:zs.map unS=Ks a b ps):∀q∈zs,Gin q∧seB q=true:=by
 have key:∀n,∀u∈Zfk (Mg a b) ps n,∃(fr to:Int) (g:Zn),g∈ps∧Kc fr to g=true∧Zh7 fr to g=true∧u=Ybr fr to g:=fun n=>by
  induction n with
  | zero=>intro u hu;cases hu
  | succ n ih=>
   intro u hu
   rcases List.mem_append.1 (show u∈Zfk (Mg a b) ps n ++ _ from hu)with h | h
   ·exact ih u h
   ·unfold Zbj at h
    split at h
    ·rename_i hc
     obtain⟨g,hg,rfl⟩:=List.mem_map.1 h
     obtain⟨h1,h2⟩:=List.mem_filter.1 hg
     exact⟨_,_,g,h1,h2,List.all_eq_true.1 hc g hg,rfl⟩
    ·cases h
 intro q hq
 have hm:unS q∈Ks a b ps:=by rw [←hz];exact List.mem_map.2 ⟨q,hq,rfl⟩
 unfold Ks at hm
 split at hm
 ·obtain⟨fr,to,g,h1,h2,h3,h4⟩:=key _ _ hm
  have:=Yft (hi g h1) ((Zdc hi hb).2.1 g h1) h2 h3 h4
  exact⟨this.1,this.2.1⟩
 ·cases hm
theorem zip_s{α β γ:Type}{f:α→β→γ} : ∀{l:List α} {m:List β} {k:Nat} {x:α} {y:β},l[k]? = some x→m[k]? = some y→(List.zipWith f l m).take (k+1)=(List.zipWith f l m).take k ++ [f x y]
 | [],_,_,_,_,h,_=>by simp at h
 | _ :: _,[],_,_,_,_,h=>by simp at h
 | a :: l,b :: m,0,x,y,h,h2=>by simp at h h2;subst h;subst h2;simp
 | a :: l,b :: m,k+1,x,y,h,h2=>by
  have:=zip_s (f:=f) (l:=l) (m:=m) (k:=k) (by simpa using h) (by simpa using h2)
  simp only [List.zipWith_cons_cons,List.take_succ_cons,this,List.cons_append]
def gpY(q:Zn)(g:SL×List Int):GpT:=((q.1.1,q.1.2.1),g)
theorem Ye8{D n d:Int}{a b xs ys:List Zn}{zs:List GpT}{k:Nat}{g:SL×List Int}(hx:xs.map unS=Ks a b a)(hy:ys.map unS=Ks a b b)(h:zs.map unP=(Dx D n d a b).take k)(hk:k<xs.length)(hk2:k<ys.length)(hg:g.2=fmZ D n d (xs.getD k G0).1.2.2 (ys.getD k G0).1.2.2 (xs.getD k G0).2.1.2 (xs.getD k G0).2.2.1.2 (xs.getD k G0).2.2.2.2 (ys.getD k G0).2.1.2 (ys.getD k G0).2.2.1.2 (ys.getD k G0).2.2.2.2) :
  (zs ++ [gpY (xs.getD k G0) g]).map unP=(Dx D n d a b).take (k+1):=by
 have e1:(Ks a b a)[k]? = some (unS (xs.getD k G0)):=by rw [←hx,List.getElem?_map,List.getElem?_eq_getElem hk,List.getD_eq_getElem?_getD,List.getElem?_eq_getElem hk];rfl
 have e2:(Ks a b b)[k]? = some (unS (ys.getD k G0)):=by rw [←hy,List.getElem?_map,List.getElem?_eq_getElem hk2,List.getD_eq_getElem?_getD,List.getElem?_eq_getElem hk2];rfl
 unfold Dx at h ⊢
 rw [zip_s e1 e2,List.map_append,h,List.map_cons,List.map_nil]
 simp only [gpY,unP,gpZ,unS]
 rw [hg]
theorem gp_all{D n d:Int}{a b xs:List Zn}{zs:List GpT}(hx:xs.map unS=Ks a b a)(hl:(Ks a b a).length=(Ks a b b).length)(h:zs.map unP=(Dx D n d a b).take xs.length):zs.map unP=Dx D n d a b:=by
 rw [h,List.take_of_length_le]
 have e:=congrArg List.length hx
 rw [List.length_map]at e
 unfold Dx
 rw [List.length_zipWith];omega
theorem gapE_9{a b:List Zn}(h:Cq a b=9):Ziy a b=0:=if_pos h
theorem gapE_n{a b:List Zn}(h:¬Cq a b=9):Ziy a b=Cq a b:=if_neg h
theorem inI_o{fr to ov:Int}{x y z:List Int}(h:Sgo fr to ov x y z):Nc ov:=⟨by have:=h.o1;omega,by have:=h.o2;omega⟩
def Yam(l:List GpU):Option GpU:=l.find? fun g=>Zca g.2.2
def Ziz(l:List GpU):Int×Int×Bool:=match Yam l with
 | some g=>(g.1,g.2.1,true)
 | none=>(0,0,false)
theorem fst_n{l:List GpU}(h:∀i,i<l.length→Zca (l.getD i (0,0,[])).2.2=false):Ziz l=(0,0,false):=by
 have:Yam l=none:=List.find?_eq_none.2 fun g hg=>by
  obtain⟨i,hi,rfl⟩:=List.mem_iff_getElem.1 hg
  have:=h i hi
  rw [List.getD_eq_getElem?_getD,List.getElem?_eq_getElem hi]at this
  rw [show Zca (l[i]).2.2=false from this];exact Bool.false_ne_true
 unfold Ziz;rw [this]
theorem fst_s:∀{l:List GpU} {k:Nat},k<l.length→(∀i,i<k→Zca (l.getD i (0,0,[])).2.2=false)→Zca (l.getD k (0,0,[])).2.2=true→Yam l=some (l.getD k (0,0,[]))
 | [],_,hk,_,_=>absurd hk (Nat.not_lt_zero _)
 | g :: l,0,_,_,h2=>List.find?_cons_of_pos (by exact h2)
 | g :: l,k+1,hk,h1,h2=>by
  have e:Yam (g :: l)=Yam l:=List.find?_cons_of_neg (by rw [show Zca g.2.2=false from h1 0 (Nat.succ_pos _)];exact Bool.false_ne_true)
  rw [e]
  exact fst_s (l:=l) (k:=k) (by simpa using hk) (fun i hi=>h1 (i+1) O) h2
theorem Zcp(zs:List GpT)(k:Nat):(zs.map unP).getD k (0,0,[])=unP (zs.getD k Gp0):=by
 rw [List.getD_eq_getElem?_getD,List.getElem?_map,List.getD_eq_getElem?_getD]
 cases zs[k]?<;>rfl
theorem cvd_gp{D n d:Int}{a b:List Zn}(hpa:∀g∈a,Gin g)(hpb:∀g∈b,Gin g)(hba:Ox a=true)(hbb:Ox b=true)(hz:znB D n d=true){xs ys:List Zn}(hx:xs.map unS=Ks a b a)(hy:ys.map unS=Ks a b b):∀g∈Dx D n d a b,Cvd g.2.2:=fun g hg=>by
 unfold Dx at hg
 obtain⟨k,hk,e⟩:=List.mem_iff_getElem.1 hg
 rw [List.getElem_zipWith]at e
 subst e
 rw [List.length_zipWith]at hk
 have hka:k<(Ks a b a).length:=O
 have hkb:k<(Ks a b b).length:=O
 have q1:(Ks a b a)[k]∈xs.map unS:=by rw [hx];exact List.getElem_mem hka
 have q2:(Ks a b b)[k]∈ys.map unS:=by rw [hy];exact List.getElem_mem hkb
 obtain⟨q,hq,eq⟩:=List.mem_map.1 q1
 obtain⟨r,hr,er⟩:=List.mem_map.1 q2
 obtain⟨c1,c2⟩:=Zl4 hpa hba hx q hq
 obtain⟨c3,c4⟩:=Zl4 hpb hbb hy r hr
 rw [←eq,←er]
 simp only [gpZ,unS]
 exact Yfd (fzX (Du c1 c2) (Du c3 c4) (Zed c2) (Zed c4) hz)
def mkS(u:Zpv):Zn:=(u.1,((none,0,0),u.2.1),((none,0,0),u.2.2.1),((none,0,0),u.2.2.2))
theorem un_mk(l:List Zpv):(l.map mkS).map unS=l:=by
 rw [List.map_map];exact List.map_id' _
theorem cvd_at{D n d:Int}{a b:List Zn}(hpa:∀g∈a,Gin g)(hpb:∀g∈b,Gin g)(hba:Ox a=true)(hbb:Ox b=true)(hz:znB D n d=true){zs:List GpT}(h:zs.map unP=Dx D n d a b){k:Nat}(hk:k<zs.length):Cvd (zs.getD k Gp0).2.2:=by
 have hm:unP (zs.getD k Gp0)∈Dx D n d a b:=by rw [←h];exact List.mem_map.2 ⟨_,Zu hk,rfl⟩
 exact cvd_gp hpa hpb hba hbb hz (un_mk (Ks a b a)) (un_mk (Ks a b b)) _ hm
theorem fst_at{l:List GpU}{zs:List GpT}(h:zs.map unP=l){k:Nat}(hk:k<zs.length)(hz:∀i,i<k→Zca (zs.getD i Gp0).2.2=false)(hn:Zca (zs.getD k Gp0).2.2=true):Ziz l=((zs.getD k Gp0).1.1,(zs.getD k Gp0).1.2,true):=by
 subst h
 have:=fst_s (l:=zs.map unP) (k:=k) (by rw [List.length_map];exact hk) (fun i hi=>by rw [Zcp];exact hz i hi) (by rw [Zcp];exact hn)
 unfold Ziz
 rw [this,Zcp]
 rfl
theorem fst_no{l:List GpU}{zs:List GpT}(h:zs.map unP=l)(hz:∀i,i<zs.length→Zca (zs.getD i Gp0).2.2=false):Ziz l=(0,0,false):=by
 subst h
 exact fst_n fun i hi=>by rw [Zcp];exact hz i (by rw [List.length_map]at hi;exact hi)
theorem Yfb{D n d:Int}{a b:List Zn}(hpa:∀g∈a,Gin g)(hpb:∀g∈b,Gin g)(hba:Ox a=true)(hbb:Ox b=true){zs:List GpT}(h:zs.map unP=Dx D n d a b):zs.length≤2+a.length+b.length:=by
 have h1:=Zuh hpa hpb hba hbb
 have e:=congrArg List.length h
 rw [List.length_map]at e
 unfold Dx at e
 rw [List.length_zipWith]at e
 omega
def apZ(D n d:Int)(a b:List Zn):Bool:=decide (Ziy a b=0) && !(Ziz (Dx D n d a b)).2.2
theorem ap_t{D n d:Int}{a b:List Zn}(h:Ziy a b=0):apZ D n d a b=!(Ziz (Dx D n d a b)).2.2:=by unfold apZ;rw [decide_eq_true h];rfl
theorem ap_f{D n d:Int}{a b:List Zn}(h:¬Ziy a b=0):apZ D n d a b=false:=by unfold apZ;rw [decide_eq_false h];rfl
open Go.Proofs
theorem pPa:Enc Tryz.prog 38 1 Qq:=Enc.flat Tryz.sizeOf38 Tryz.isAgg38 (fun _=>rfl)
theorem pGp:Enc Tryz.prog 130 3 Zh2:=Enc.agg O3 Tryz.sizeOf130 Tryz.isAgg130 (fun x=>⟨[.int .i64 x.1.1,.int .i64 x.1.2,Qq x.2.1],rfl,rfl,O10⟩)
@[reducible,instance] def encPaI:EncT Tryz.prog 38 1 Qq:=⟨pPa⟩
@[reducible,instance] def encGpI:EncT Tryz.prog 130 3 Zh2:=⟨pGp⟩
theorem ti_a3:Tryz.prog.info? 190=some Tryz.t190:=O5
theorem ti_ax:Tryz.prog.info? 189=some Tryz.t189:=O5
theorem Ycm{a0 a1 a2 b0 b1 b2 c0 c1 c2:Value} : Tryz.prog.built 190 [(0,.agg #[a0,a1,a2]),(1,.agg #[b0,b1,b2]),(2,.agg #[c0,c1,c2])]=some #[a0,a1,a2,b0,b1,b2,c0,c1,c2]:=by
 refine Zbf _ ti_a3 Tryz.underlying190 rfl ti_ax ?_
 rw [show Tryz.t189.size=3 from rfl]
 exact fill33 _ _ _ _ _ _ _ _ _ _ _ _ _ _ _ _ _ _
end Go.Sky

