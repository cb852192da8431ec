/- Rules, arithmetic and contracts: part 16. No conditions but those that each theorem names. -/
import Derived.Test.YteikicbnfbgpnaaGreatDb14
set_option linter.all false
set_option maxHeartbeats 4000000
namespace Go.Sky
theorem i_le{zs:List (Int×SL)}{l:List Int}(h:Yf zs=l){n:Nat}(hl:l.length≤n):zs.length≤n:=by
 rw [←Qt,h];exact hl
theorem Zb8{zs:List (Int×SL)}{l:List Int}(h:Yf zs=l)(hv:Vp l):Sz 1000000 (Yf zs):=by
 rw [h];exact hv.sz.mono O3
theorem Zb9{zs:List (Int×SL)}{l:List Int}(h:Yf zs=l)(hv:Vp l){n:Nat}(hn:25≤n):zs.length≤n:=i_le h (Nat.le_trans hv.len hn)
abbrev TzT:=SL×List (Int×SL)
def sqF(ov ov2:Int)(x y z x2 y2 z2:List Int)(i:Nat):List Int:=sqP (Zp i x y z) (Zp i x2 y2 z2) ov ov2
def sqR(ov ov2:Int)(x y z x2 y2 z2:List Int):Nat→List (List Int)
 | 0=>[]
 | i+1=>sqR ov ov2 x y z x2 y2 z2 i ++ [sqF ov ov2 x y z x2 y2 z2 i]
theorem sqR_s{ov ov2:Int}{x y z x2 y2 z2:List Int}{ws:List TzT}{i:Nat}{z9:TzT}(h:ws.map (fun z=>Yf z.2)=sqR ov ov2 x y z x2 y2 z2 i)(hz:Yf z9.2=sqF ov ov2 x y z x2 y2 z2 i):(ws ++ [z9]).map (fun z=>Yf z.2)=sqR ov ov2 x y z x2 y2 z2 (i+1):=by
 rw [List.map_append,h,List.map_cons,List.map_nil,hz];rfl
theorem sqR_at{ov ov2:Int}{x y z x2 y2 z2:List Int}{ws:List TzT}(h:ws.map (fun z=>Yf z.2)=sqR ov ov2 x y z x2 y2 z2 3):ws.length=3∧Yf (ws.getD 0 T0).2=sqF ov ov2 x y z x2 y2 z2 0∧Yf (ws.getD 1 T0).2=sqF ov ov2 x y z x2 y2 z2 1∧Yf (ws.getD 2 T0).2=sqF ov ov2 x y z x2 y2 z2 2:=by
 have hl:=congrArg List.length h
 rw [List.length_map]at hl
 have hl:ws.length=3:=hl
 match ws,hl with
 | [a,b,c],_=>
  have h1:[Yf a.2,Yf b.2,Yf c.2]=[sqF ov ov2 x y z x2 y2 z2 0,sqF ov ov2 x y z x2 y2 z2 1,sqF ov ov2 x y z x2 y2 z2 2]:=h
  injection h1 with e0 h1
  injection h1 with e1 h1
  injection h1 with e2 h1
  exact⟨rfl,e0,e1,e2⟩
def ovW(ov ov2:Int):Int:=ov*ov2*(ov*ov2)
def rfL(zn ze ov ov2:Int)(x y z x2 y2 z2:List Int):List Int:=Ei (Zm (Ei (sqF ov ov2 x y z x2 y2 z2 0) (sqF ov ov2 x y z x2 y2 z2 1)) (ze*ze)) (Zm (sqF ov ov2 x y z x2 y2 z2 2) (zn*zn))
def rfW(zd ze ov ov2:Int):Int:=zd*zd*(ze*ze)*ovW ov ov2
def rfZ(zd zn ze ov ov2:Int)(x y z x2 y2 z2:List Int):List Int:=Bb (rfL zn ze ov ov2 x y z x2 y2 z2) (tzl [rfW zd ze ov ov2])
theorem Zzz(p q:List Int)(a b k:Int):sqK p q a b k=Zm (sqP p q a b) (k*k):=by
 unfold sqK dfK sqP;exact Zxk _ _
theorem Znu(w:Int):cf [w] 0=w:=rfl
theorem ab_one{w:Int}{M:Nat}(h:w.natAbs≤M):Ab M (tzl [w]):=fun i=>by
 rw [Lj]
 match i with
 | 0=>rw [Znu];exact h
 | i+1=>rw [Yl O7];exact Nat.zero_le _
theorem Zxy(w:Int)(i:Nat):cf [w] i=-(cf [-1] i*w):=by
 match i with
 | 0=>rw [Znu,Znu];omega
 | i+1=>rw [Yl O7,Yl O7];omega
theorem rf_eq(zd zn ze ov ov2:Int)(x y z x2 y2 z2:List Int):rfZ zd zn ze ov ov2 x y z x2 y2 z2=smZ zd zn ze ov ov2 x y z x2 y2 z2 3:=by
 have tS:Tr (smZ zd zn ze ov ov2 x y z x2 y2 z2 3):=by unfold smZ;exact Xp _
 refine(Zdj _ _).ext tS fun i=>?_
 unfold rfL smZ
 simp only [smP]
 rw [Dd,Cu,Yr,Cu,Yr,Cu,Cu,Cu,Lj]
 unfold fqZ
 rw [Zzz,Zzz,Zzz,Yr,Yr,Yr]
 have e:cf (cnZ zd ze ov ov2) i=cf [-1] i*zd*zd*ze*ze*ov*ov*ov2*ov2:=by
  unfold cnZ
  simp only [ngC,Yr,List.getD_cons_zero,List.getD_cons_succ]
 have e2:=Zxy (rfW zd ze ov ov2) i
 rw [e,e2]
 unfold rfW ovW sqF
 simp only [Zp]
 generalize cf (sqP x x2 ov ov2) i=A
 generalize cf (sqP y y2 ov ov2) i=B
 generalize cf (sqP z z2 ov ov2) i=C
 generalize cf [-1] i=D
 grind
structure RfX (zd zn ze ov ov2:Int) (x y z x2 y2 z2:List Int):Prop where
 v0:∀i,Vp (sqF ov ov2 x y z x2 y2 z2 i)
 v1:Vp (Ei (sqF ov ov2 x y z x2 y2 z2 0) (sqF ov ov2 x y z x2 y2 z2 1))
 v2:Vp (Zm (Ei (sqF ov ov2 x y z x2 y2 z2 0) (sqF ov ov2 x y z x2 y2 z2 1)) (ze*ze))
 v3:Vp (Zm (sqF ov ov2 x y z x2 y2 z2 2) (zn*zn))
 v4:Vp (rfL zn ze ov ov2 x y z x2 y2 z2)
 v5:Vp (tzl [rfW zd ze ov ov2])
 v6:Vp (rfZ zd zn ze ov ov2 x y z x2 y2 z2)
 wb:bl (rfW zd ze ov ov2).natAbs≤1000000
 ob:bl (ov*ov2).natAbs≤1000
 oW:bl (ovW ov ov2).natAbs≤1000
 eb:bl (ze*ze).natAbs≤1000
 nb:bl (zn*zn).natAbs≤1000
 db:bl (zd*zd).natAbs≤1000
 xb:bl (zd*zd*(ze*ze)).natAbs≤1000
theorem rfX{fr to ov fr2 to2 ov2 zd zn ze:Int}{x y z x2 y2 z2:List Int}(hS:Sgo fr to ov x y z)(hS2:Sgo fr2 to2 ov2 x2 y2 z2)(hA:∀i,Ab KA (tzl (Zp i x y z)))(hA2:∀i,Ab KA (tzl (Zp i x2 y2 z2)))(hz:znB zd zn ze=true):RfX zd zn ze ov ov2 x y z x2 y2 z2:=by
 obtain⟨z1,z2',z3,z4,z5⟩:=Yfd hz
 have o1:=hS.o1
 have o2:=hS.o2
 have o3:=hS2.o1
 have o4:=hS2.o2
 have hX:∀i,FmX (Zp i x y z) (Zp i x2 y2 z2) ov ov2 1:=fun i=>fmX (hA i) (hA2 i) (hS.lc i).2 (hS2.lc i).2 ⟨o1,o2⟩ ⟨o3,o4⟩ ⟨O3,O3⟩
 have b1:=Zb7 (x:=ov) (y:=ov2) (A:=4294967296) (B:=4294967296) O O
 have b2:=Zb7 (x:=ov*ov2) (y:=ov*ov2) b1 b1
 have b3:=Zb7 (x:=ze) (y:=ze) (A:=100) (B:=100) O O
 have b4:=Zb7 (x:=zn) (y:=zn) (A:=100) (B:=100) O O
 have b5:=Zb7 (x:=zd) (y:=zd) (A:=4194304) (B:=4194304) O O
 have b6:=Zb7 (x:=zd*zd) (y:=ze*ze) b5 b3
 have b7:=Zb7 (x:=zd*zd*(ze*ze)) (y:=ov*ov2*(ov*ov2)) b6 b2
 have hw:(rfW zd ze ov ov2).natAbs≤4194304*4194304*(100*100)*(4294967296*4294967296*(4294967296*4294967296)):=by unfold rfW ovW;exact b7
 have sb:∀{v:Int} {M:Nat},v.natAbs≤M→M<BG→bl v.natAbs≤500:=fun h hM=>Zra (Nat.lt_of_le_of_lt h hM)
 have a0:∀i,Ab (6*((KD*100)*(KD*100))) (sqF ov ov2 x y z x2 y2 z2 i):=fun i=>(hX i).ab8
 have l0:∀i,(sqF ov ov2 x y z x2 y2 z2 i).length≤11:=fun i=>(hX i).l8
 have t0:∀i,Tr (sqF ov ov2 x y z x2 y2 z2 i):=fun i=>Xo _ _
 have a1:=Zty (a0 0) (a0 1)
 have l1:=Zmx (l0 0) (l0 1)
 have a2:Ab ((6*((KD*100)*(KD*100))+6*((KD*100)*(KD*100)))*10000) (Zm (Ei (sqF ov ov2 x y z x2 y2 z2 0) (sqF ov ov2 x y z x2 y2 z2 1)) (ze*ze)):=(Gw a1 (ze*ze)).mono (Nat.mul_le_mul_left _ b3)
 have l2:=Nat.le_trans (Pt (Ei (sqF ov ov2 x y z x2 y2 z2 0) (sqF ov ov2 x y z x2 y2 z2 1)) (ze*ze)) l1
 have a3:Ab (6*((KD*100)*(KD*100))*10000) (Zm (sqF ov ov2 x y z x2 y2 z2 2) (zn*zn)):=(Gw (a0 2) (zn*zn)).mono (Nat.mul_le_mul_left _ b4)
 have l3:=Nat.le_trans (Pt (sqF ov ov2 x y z x2 y2 z2 2) (zn*zn)) (l0 2)
 have a4:=Zty a2 a3
 have l4:=Zmx l2 l3
 have a5:Ab (4194304*4194304*(100*100)*(4294967296*4294967296*(4294967296*4294967296))) (tzl [rfW zd ze ov ov2]):=ab_one hw
 have l5:(tzl [rfW zd ze ov ov2]).length≤1:=Ko _
 have a6:=Ye4 a4 a5
 have l6:=Zvf (n:=11) (q:=tzl [rfW zd ze ov ov2]) l4 O
 have a6':Ab ((6*((KD*100)*(KD*100))+6*((KD*100)*(KD*100)))*10000+6*((KD*100)*(KD*100))*10000+4194304*4194304*(100*100)*(4294967296*4294967296*(4294967296*4294967296))) (rfZ zd zn ze ov ov2 x y z x2 y2 z2):=by unfold rfZ rfL;exact a6
 have l6':(rfZ zd zn ze ov ov2 x y z x2 y2 z2).length≤11:=by unfold rfZ rfL;exact l6
 have t6:Tr (rfZ zd zn ze ov ov2 x y z x2 y2 z2):=by unfold rfZ;exact Xp _
 constructor
 ·exact(fun i=>Gb (a0 i) O5 (t0 i) (Nat.le_trans (l0 i) O3))
 ·exact(Gb a1 O5 (Xp _) (Nat.le_trans l1 O3))
 ·exact(Gb a2 O5 (Xp _) (Nat.le_trans l2 O3))
 ·exact(Gb a3 O5 (Xp _) (Nat.le_trans l3 O3))
 ·exact(Gb a4 O5 (Xp _) (Nat.le_trans l4 O3))
 ·exact(Gb a5 O5 (Xp _) (Nat.le_trans l5 O3))
 ·exact(Gb a6' O5 t6 (Nat.le_trans l6' O3))
 ·exact(Nat.le_trans (sb hw O5) O3)
 ·exact(Nat.le_trans (sb b1 O5) O3)
 ·exact(Nat.le_trans (sb b2 O5) O3)
 ·exact(Nat.le_trans (sb b3 O5) O3)
 ·exact(Nat.le_trans (sb b4 O5) O3)
 ·exact(Nat.le_trans (sb b5 O5) O3)
 ·exact(Nat.le_trans (sb b6 O5) O3)
theorem ov_b{fr to ov fr2 to2 ov2:Int}{x y z x2 y2 z2:List Int}(hS:Sgo fr to ov x y z)(hS2:Sgo fr2 to2 ov2 x2 y2 z2):bl (ov*ov2).natAbs≤1000000000:=by
 have o1:=hS.o1
 have o2:=hS.o2
 have o3:=hS2.o1
 have o4:=hS2.o2
 exact sm_bl (Nat.le_trans (Zb7 (x:=ov) (y:=ov2) (A:=4294967296) (B:=4294967296) O O) O3) O3
theorem Ygf{zd zn ze ov ov2:Int}{x y z x2 y2 z2:List Int}{zs:List (Int×SL)}(h:Yf zs=rfZ zd zn ze ov ov2 x y z x2 y2 z2):zs.length≠0→Ym (Yf zs)≠0:=fun h0=>by
 have h1:Yf zs≠[]:=fun e=>h0 (by rw [←Qt,e];rfl)
 have ht:Tr (Yf zs):=by rw [h];unfold rfZ;exact Zdj _ _
 have:=Yd4 ht h1
 intro e
 rw [e]at this
 exact absurd this O3
theorem rf_fin{zd zn ze ov ov2:Int}{x y z x2 y2 z2:List Int}{zs ys:List (Int×SL)}(h:Yf ys=Zt (Yf zs))(h2:Yf zs=rfZ zd zn ze ov ov2 x y z x2 y2 z2):Yf ys=fmZ zd zn ze ov ov2 x y z x2 y2 z2:=by
 rw [h,h2,rf_eq];unfold fmZ;rfl
theorem Ydn{a b c:Bool}{fr fr2 to to2:Int}(h:¬(a=true∧b=true∧fr=fr2∧to=to2∧c=true)):¬(a=true∧b=true∧fr=fr2∧to=to2)∨((a=true∧b=true∧fr=fr2∧to=to2)∧c=false):=by
 by_cases h1:a=true∧b=true∧fr=fr2∧to=to2
 ·refine .inr ⟨h1,?_⟩
  cases c with
  | false=>rfl
  | true=>exact absurd ⟨h1.1,h1.2.1,h1.2.2.1,h1.2.2.2,rfl⟩ h
 ·exact .inl h1
open Go.Proofs
set_option synthInstance.maxHeartbeats 0
set_option synthInstance.maxSize 100000
set_option maxRecDepth 20000
set_option maxHeartbeats 4000000
set_option linter.unusedSimpArgs false
theorem Zfy(fr to ov:Int)(vx vy vz:Value)(x y z:List Int)(ca cb cd:Int)(hS:Sgo fr to ov x y z)(ha:ca.natAbs≤3600000)(hb:cb.natAbs≤3600000)(hd:1≤cd∧cd≤3600000):Cal Tryz.prog 231 #[.agg #[.int .i64 fr,.int .i64 to,.int .i64 ov,vx,vy,vz],.int .i64 ca,.int .i64 cb,.int .i64 cd] [Yh 1 Zx vx x,Yh 1 Zx vy y,Yh 1 Zx vz z] true (G:=SL×SL×SL) (fun g=>True) (fun g=> .agg #[Xb g.1,Xb g.2.1,Xb g.2.2]) (fun g=>[Yh 2 wv (Xb g.1) (Oq x ca cb cd),Yh 2 wv (Xb g.2.1) (Oq y ca cb cd),Yh 2 wv (Xb g.2.2) (Oq z ca cb cd)]):=by
 refine Zd Tryz.func231 Tryz.ntmps231 fun w0 sc hw hsc=>?_
 have hba:=Zjo ha
 have hbb:=Zjo hb
 have hbd:bl cd.natAbs≤22:=Zjo O
 refine go 2 ?_
 refine Yk (Yj 4) fun bx _=>?_
 refine Yk (Zz 5) fun bx_2 _=>?_
 refine go 6 ?_
 refine cl 5 [1,2,3] (Zlq _ _ _ _ _ _ _ _ _) fun _ _=>?_
 refine go 4 ?_
 refine Zf (Me 5 (q:=box bx_2 210 (cellsOf (Li (α:=List Int)) (Zpn [])).toArray) (congrArg (box bx_2 210) (show _=(cellsOf (Li (α:=List Int)) (Zpn [])).toArray from rfl)) rfl rfl) ?_
 refine Zf (Yw qZ 71) ?_
 refine lp (G:=Nat×List (SL×List Int)) [1,2,3,8,14] [0,1,2,3,4] (fun q=>[(15,.int .i64 (q.1:Int))]) (fun q=>[(5,box bx_2 210 (cellsOf (Li (α:=List Int)) (Zpn q.2)).toArray),(71,Ia qZ q.2)]) (fun q=>(q.1≤3)∧(q.2.length=q.1)∧(∀t,t<q.1→(q.2.getD t Z0).2=Oq (Zp t x y z) ca cb cd)) (fun q=>3-q.1) (0,[]) ⟨O1,rfl,fun t ht=>absurd ht (Nat.not_lt_zero t)⟩ ⟨rfl,trivial⟩ ⟨rfl,rfl,trivial⟩ ?_
 rintro⟨i,zs⟩ ⟨hi,hzl,hzs⟩
 dsimp only at hi hzl hzs
 dsimp only
 have hc:=hS.hc i
 have hlc:=hS.lc i
 obtain⟨q1,q2,q3,q4,q5,q6,q7,q8⟩:=Znp hc hlc ha hb hd
 have hex:(6-((Zp i x y z).length:Int)).toNat=6-(Zp i x y z).length:=O
 refine go 6 ?_
 refine Zc rfl (fun h204=>?_) (fun h204=>?_)
 ·refine go 5 ?_
  refine Zf (Zcs i 1 2 3 50 rfl rfl rfl rfl rfl rfl) ?_
  refine go 2 ?_
  refine dt (Zqw (i:=i) rfl rfl rfl Tryz.underlying182 Tryz.sizeOf33 Tryz.isAgg33 rfl) ?_
  refine go 7 ?_
  refine cl 6 [50] (Zd1 _ _ hc (Nat.le_trans hlc.2 O3)) fun _ _=>?_
  refine Yp (Me 6 (q:=Yh 2 wv _ (tzl (Zp i x y z))) (congrArg (Yh 2 wv _) (if_neg (Zli hlc.2))) rfl rfl) ?_
  refine go 11 ?_
  refine cl 6 [] (Zo ca) fun _ _=>?_
  refine go 1 ?_
  refine cl 6 [] (Zo cb) fun _ _=>?_
  refine go 1 ?_
  refine cl 6 [] (Zo cd) fun _ _=>?_
  refine cl 7 [6] (Zmb _ (tzl (Zp i x y z)) ca cb cd q1 O O O O q2) fun _ _=>?_
  refine go 13 ⟨O,?_⟩
  refine cl 7 [] (Ho cd (6-((Zp i x y z).length:Int)) (Nat.le_trans hbd O3) O O) fun _ _=>?_
  refine cl 8 [7] (Mm _ _ (cd^(6-((Zp i x y z).length:Int)).toNat) q3 (by rw [hex];exact Nat.le_trans q4 O3) (by rw [hex];exact q5)) fun _ _=>?_
  refine Zya (Px 8 rfl Zk) (fun sn hsn=>?_)
  subst hsn
  refine Yp (Me 8 (q:=Yh 2 wv (Xb sn) (Oq (Zp i x y z) ca cb cd)) (congrArg (Yh 2 wv (Xb sn)) (by rw [hex];rfl)) rfl rfl) ?_
  refine Yp (Zi (q:=qZ) (z:=(sn,(Oq (Zp i x y z) ca cb cd))) 71 8 71 rfl rfl rfl rfl rfl) ?_
  refine go 3 ?_
  refine dt (Iy (i:=i) rfl rfl rfl Tryz.underlying210 Tryz.sizeOf40 rfl) ?_
  refine tt (t_sbe (i:=5) (j:=i) (k:=1) (enc:=Li) (sn,(Oq (Zp i x y z) ca cb cd)) rfl rfl rfl rfl rfl pS (by rw [Yce O];omega) rfl hw.h trivial) (fun _ _=>?_)
  refine go 7 ⟨O,?_⟩
  exact Xf (i+1,zs ++ [(sn,(Oq (Zp i x y z) ca cb cd))]) ⟨O1,by rw [List.length_append,hzl];rfl,fun t ht=>Zq3 hzl hzs ht⟩ O1 ⟨rfl,trivial⟩ ⟨by rw [Ybl O hzl];rfl,rfl,trivial⟩
 ·obtain rfl:i=3:=O
  refine go 6 ?_
  obtain⟨s1,s2,s3,rfl⟩:=Zzf hzl hzs
  refine Zf (Zct (q:=qZ) 71 81 (s1,Oq x ca cb cd) rfl rfl O7 rfl) ?_
  refine Zf (Zct (q:=qZ) 71 82 (s2,Oq y ca cb cd) rfl rfl O7 rfl) ?_
  refine Zf (Zct (q:=qZ) 71 83 (s3,Oq z ca cb cd) rfl rfl O7 rfl) ?_
  refine go 1 ?_
  refine dt (d_lea (i:=5) (enc:=Li) (l:=[(s1,Oq x ca cb cd),(s2,Oq y ca cb cd),(s3,Oq z ca cb cd)]) rfl rfl rfl pS Tryz.isAgg210 Tryz.sizeOf210 rfl) ?_
  refine tt (t_sea (i:=5) (enc:=Li) (l:=[(s1,Oq x ca cb cd),(s2,Oq y ca cb cd),(s3,Oq z ca cb cd)]) rfl rfl rfl rfl rfl O3 pS Tryz.sizeOf210 rfl rfl rfl hw.h trivial) (fun _ _=>?_)
  refine go 3 ?_
  exact Zn7 (.inl rfl) hsc (s1,s2,s3) _ (fun a w hs=>Zb6 hs Tryz.results231 (Gf (i:=5) (vs:=cellsOf Li [(s1,Oq x ca cb cd),(s2,Oq y ca cb cd),(s3,Oq z ca cb cd)]) rfl rfl Tryz.isAgg210 Tryz.sizeOf210 rfl)) rfl trivial rfl (Ip 81 rfl rfl rfl (Ip 82 rfl rfl rfl (Ip 83 rfl rfl rfl Za)))
theorem Zob(x:Int)(hx:x.natAbs≤9223372036854775807):Cal Tryz.prog 113 #[wv x] [] false (G:=Unit) (fun _=>True) (fun _=> .tuple #[.int .i64 x,.int .i64 0]) (fun _=>[]):=by
 refine Zd Tryz.func113 Tryz.ntmps113 fun w0 sc hw hsc=>?_
 have hbx:bl x.natAbs≤65536:=Nat.le_trans ((Xw 63 _).2 (Nat.lt_of_le_of_lt hx O3)) O3
 refine go 2 ?_
 refine Yk (Yj 1) fun bx _=>?_
 refine go 8 ?_
 refine cl 1 [] (Ld _ ‹_›) fun _ _=>?_
 refine go 9 ?_
 refine cl 2 [] (Xt _ _ (Xc _)) fun g hg=>?_
 refine Yk (Zz 3) fun bx_2 _=>?_
 refine go 6 ?_
 rcases Zyd hx hg with⟨rfl,hc2⟩ | ⟨hc1,hc2,hc3⟩ | ⟨hc1,hc2,hc3⟩
 ·refine go 4 ?_
  refine kt (decide_eq_true (by rw [hc2];rfl)) ?_
  refine go 13 ?_
  exact Mi hsc () Tryz.results113 rfl trivial Za
 ·refine go 4 ?_
  refine kf (decide_eq_false (by rw [hc3];simp)) ?_
  refine go 9 ?_
  refine kf (decide_eq_false (by rw [hc3];simp)) ?_
  refine go 3 ?_
  refine Ej (Zw (r':= .bool false) (Qf rfl rfl) (congrArg (fun b=>Value.bool (!b)) hc1)) rfl rfl ?_
  refine go 13 ⟨by rw [hc3];exact Nat.zero_lt_one,by rw [hc3];exact Nat.zero_lt_one,?_⟩
  refine kfg (decide_eq_false (by rw [hc3];exact Ych hx)) ?_
  refine go 8 ?_
  refine kt hc1 ?_
  refine go 10 ⟨by rw [hc3];exact Nat.zero_lt_one,by rw [hc3];exact Nat.zero_lt_one,?_⟩
  refine dt (Zzd (r:=18446744073709551616-(x.natAbs:Int)) rfl rfl (by rw [hc3];exact int_m hc2 hx)) ?_
  refine dt (Ze1 (r:=x) rfl rfl Tryz.underlying232 Tryz.underlying3 (int_wn hx hc2)) ?_
  refine go 7 ?_
  exact Mi hsc () Tryz.results113 rfl trivial Za
 ·refine go 4 ?_
  refine kf (decide_eq_false (by rw [hc3];simp)) ?_
  refine go 9 ?_
  refine kf (decide_eq_false (by rw [hc3];simp)) ?_
  refine go 3 ?_
  refine Ej (Zw (r':= .bool true) (Qf rfl rfl) (congrArg (fun b=>Value.bool (!b)) hc1)) rfl rfl ?_
  refine go 5 ⟨by rw [hc3];exact Nat.zero_lt_one,by rw [hc3];exact Nat.zero_lt_one,?_⟩
  refine kfg (decide_eq_false (by rw [hc3];exact int_d0 hx)) ?_
  refine go 7 ⟨by rw [hc3];exact Nat.zero_lt_one,by rw [hc3];exact Nat.zero_lt_one,?_⟩
  refine kfg (decide_eq_false (by rw [hc3];exact Ych hx)) ?_
  refine go 8 ?_
  refine kf hc1 ?_
  refine go 13 ⟨by rw [hc3];exact Nat.zero_lt_one,by rw [hc3];exact Nat.zero_lt_one,?_⟩
  refine dt (Ze1 (r:=x) rfl rfl Tryz.underlying232 Tryz.underlying3 (by rw [hc3];exact int_wp hx hc2)) ?_
  refine go 5 ?_
  exact Mi hsc () Tryz.results113 rfl trivial Za
theorem Zbk(fr to ov:Int)(vx vy vz:Value)(x y z:List Int)(hM:Mdh ov x y z):Cal Tryz.prog 230 #[.int .i64 fr,.int .i64 to,.agg #[vx,vy,vz],wv ov] [Yh 2 wv vx x,Yh 2 wv vy y,Yh 2 wv vz z] false (G:=SL×SL×SL) (fun g=>True) (fun g=> .tuple #[.agg #[.int .i64 fr,.int .i64 to,.int .i64 (mdO ov (Ga ov x y z)),Xb g.1,Xb g.2.1,Xb g.2.2],.bool (decide (ov/(Ga ov x y z)≤4294967296))]) (fun g=>[Yh 1 Zx (Xb g.1) (mdL ov (Ga ov x y z) x),Yh 1 Zx (Xb g.2.1) (mdL ov (Ga ov x y z) y),Yh 1 Zx (Xb g.2.2) (mdL ov (Ga ov x y z) z)]):=by
 refine Zd Tryz.func230 Tryz.ntmps230 fun w0 sc hw hsc=>?_
 have ho:=hM.o
 have hob:=hM.b
 obtain⟨hg1,hg2,hg3⟩:=hM.g
 have hgb:bl (Ga ov x y z).natAbs≤1000:=hM.fc 3 0
 have hq0:0≤ov/(Ga ov x y z):=Int.ediv_nonneg (Int.le_of_lt ho) (Int.le_of_lt hg1)
 refine go 2 ?_
 refine Yk (Yj 4) fun bx _=>?_
 refine Yk (Yj 5) fun bx_2 _=>?_
 refine Yk (Zz 6) fun bx_3 _=>?_
 refine go 6 ?_
 refine Yk (Zz 7) fun bx_4 _=>?_
 refine go 11 ?_
 refine lp (G:=Nat) [0,1,6,7,8,10,24] [0,1,2,3,4,5,6] (fun i=>[(25,.int .i64 (i:Int))]) (fun i=>[(7,box bx_4 80 (wc (Nc ov (Nk i x y z))))]) (fun i=>i≤3) (fun i=>3-i) 0 O1 ⟨rfl,trivial⟩ ⟨rfl,trivial⟩ ?_
 rintro i hi
 have hfc:=hM.fc i
 have hl6:=hM.l i
 refine go 6 ?_
 refine Zc rfl (fun h179=>?_) (fun h179=>?_)
 ·refine go 5 ?_
  refine Zf (Zcs i 1 2 3 50 rfl rfl rfl rfl rfl rfl) ?_
  refine go 1 ?_
  refine dt (Zqw (i:=i) rfl rfl rfl Tryz.underlying210 Tryz.sizeOf40 Tryz.isAgg40 rfl) ?_
  refine go 11 ?_
  refine lp (G:=Nat) [0,1,6,7,8,10,24,25,28,29] [0,1,2,3,4,5,6,50] (fun k=>[(30,.int .i64 (k:Int))]) (fun k=>[(7,box bx_4 80 (wc (Nc (Nc ov (Nk i x y z)) ((Zp i x y z).take k))))]) (fun k=>k≤(Zp i x y z).length) (fun k=>(Zp i x y z).length-k) 0 O1 ⟨rfl,trivial⟩ ⟨rfl,trivial⟩ ?_
  rintro k hk
  refine go 6 ?_
  refine Zc rfl (fun h180=>?_) (fun h180=>?_)
  ·refine go 8 ⟨O2,O2,?_⟩
   refine Yk (Zz 8) fun bx_5 _=>?_
   refine go 6 ?_
   refine cl 8 [] (Zlp (Nc (Nc ov (Nk i x y z)) ((Zp i x y z).take k)) ((Zp i x y z).getD k 0) (Nat.le_trans (hfc k) O3) (Nat.le_trans (hM.s i k) O3)) fun _ _=>?_
   refine go 8 ⟨O,?_⟩
   exact Xf (k+1) O1 O1 ⟨rfl,trivial⟩ ⟨by rw [Bs _ O];rfl,trivial⟩
  ·obtain rfl:k=(Zp i x y z).length:=O
   rw [List.take_length]
   refine go 10 ⟨O,?_⟩
   exact Xf (i+1) O1 O1 ⟨rfl,trivial⟩ ⟨by rw [Eb x y z O,Ig];rfl,trivial⟩
 ·obtain rfl:i=3:=O
  refine go 9 ?_
  refine dt (Qi (ivs:=[(0,_),(1,_)]) rfl ⟨rfl,rfl,rfl,rfl,trivial⟩ (fun a w hs=>b35_01 ((Yo rfl) a w hs) ((Yo rfl) a w hs))) ?_
  refine Yk (Zz 9) fun bx_6 _=>?_
  refine go 7 ?_
  refine cl 9 [] (Zfb ov (Ga ov x y z) (Nat.le_trans hob O3) (Nat.le_trans hgb O3) O) fun _ _=>?_
  refine Yk (Zz 10) fun bx_7 _=>?_
  refine go 5 ?_
  refine Qe (fun _=>False) [(0,0),(1,1),(2,1),(3,0)] ?_
  refine go 1 ?_
  refine Yz (Zg 10 [] (Zo 4294967296 ⟨O3,O3⟩)) fun _ _=>?_
  refine Yz (Zg 10 [] (Zdd (ov/(Ga ov x y z)) 4294967296 (Nat.le_trans (bl_dlq hob hg1 (Int.le_of_lt ho)) O3) O3)) fun _ _=>?_
  refine go 3 ?_
  refine Zc rfl (fun h186=>?_) (fun h186=>?_)
  ·have hsm:¬ov/(Ga ov x y z)≤4294967296:=Yab.1 h186
   refine go 9 ?_
   exact Zy5 (.inl rfl) ((none,0,0),(none,0,0),(none,0,0)) _ fr0 (fun a w hs=>Zxp hs Tryz.results230 (Gf (i:=6) rfl rfl Tryz.isAgg35 Tryz.sizeOf35 rfl) rfl) (by rw [mdO_f hsm,decide_eq_false hsm]) trivial rfl (Ns (Yb1 hsm) (Ns (Yb1 hsm) (Ns (Yb1 hsm) Za)))
  ·have hsm:ov/(Ga ov x y z)≤4294967296:=Classical.not_not.1 fun h=>h186 (Yab.2 h)
   refine go 5 ?_
   refine cl 10 [] (Zob (ov/(Ga ov x y z)) O) fun _ _=>?_
   refine go 13 ?_
   refine dt (Qi (ivs:=[(0,_),(1,_),(2,_)]) rfl ⟨rfl,rfl,rfl,rfl,rfl,rfl,trivial⟩ (fun a w hs=>Yeu ((Yo rfl) a w hs) ((Yo rfl) a w hs) ((Yo rfl) a w hs))) ?_
   refine go 4 ?_
   refine Zf (Me 9 (q:=box bx_6 35 (C6 (.int .i64 fr) (.int .i64 to) (.int .i64 (ov/(Ga ov x y z))) (fz []))) (congrArg (box bx_6 35) (show _=(C6 (.int .i64 fr) (.int .i64 to) (.int .i64 (ov/(Ga ov x y z))) (fz []))from rfl)) rfl rfl) ?_
   refine Zf (Yw qC 71) ?_
   refine lp (G:=Nat×List (SL×List Int)) [6,8,10,15,59] [0,7,1,2,3,4,5,6,10] (fun q=>[(60,.int .i64 (q.1:Int))]) (fun q=>[(9,box bx_6 35 (C6 (.int .i64 fr) (.int .i64 to) (.int .i64 (ov/(Ga ov x y z))) (fz q.2))),(71,Ia qC q.2)]) (fun q=>(q.1≤3)∧(q.2.length=q.1)∧(∀t,t<q.1→(q.2.getD t Z0).2=Db (Zp t x y z) (Ga ov x y z))∧(∀z∈q.2,∀b,(Xb z.1).ownBlock=some b→w0.heap.size≤b)) (fun q=>3-q.1) (0,[]) ⟨O1,rfl,fun t ht=>absurd ht (Nat.not_lt_zero t),fun z hz=>nomatch hz⟩ ⟨rfl,trivial⟩ ⟨rfl,rfl,trivial⟩ ?_
   rintro⟨i,zs⟩ ⟨hi,hzl,hzs,hfz⟩
   dsimp only at hi hzl hzs hfz
   dsimp only
   have hl6:=hM.l i
   refine go 6 ?_
   refine Zc rfl (fun h190=>?_) (fun h190=>?_)
   ·refine go 7 ?_
    refine dt (Zw (r':= .pointer (some ⟨bx_6,3+i,none⟩)) (Zqw (i:=i) rfl rfl rfl Tryz.underlying331 Tryz.sizeOf330 Tryz.isAgg330 rfl) (p3_sel O)) ?_
    refine go 6 ?_
    refine Zf (Zcs i 1 2 3 52 rfl rfl rfl rfl rfl rfl) ?_
    refine Zf (Pm 60 1 3 Zx) ?_
    refine go 2 ?_
    refine dt (Iy (i:=i) rfl rfl rfl Tryz.underlying210 Tryz.sizeOf40 rfl) ?_
    refine dt (Zyq (i:=4) rfl rfl rfl Tryz.isAgg40 (c3_get O)) ?_
    refine go 5 ?_
    refine lp (G:=Nat×Value) [6,8,10,15,18,59,60,66,67] [0,71,7,1,2,3,4,5,6,10,52] (fun q=>[(68,.int .i64 (q.1:Int))]) (fun q=>[(9,box bx_6 35 (C6 (.int .i64 fr) (.int .i64 to) (.int .i64 (ov/(Ga ov x y z))) (upd (fz zs) i q.2))),(60,Oa 1 3 Zx q.2 (((Zp i x y z).take q.1).map (· / (Ga ov x y z))))]) (fun q=>q.1≤(Zp i x y z).length) (fun q=>(Zp i x y z).length-q.1) (0,_) O1 ⟨rfl,trivial⟩ ⟨by rw [Ztj (fun j _=>fz_upd hzl j)];rfl,by rw [List.take_zero];rfl,trivial⟩ ?_
    rintro⟨k,vr⟩ hk
    dsimp only at hk
    dsimp only
    refine go 6 ?_
    refine Zc rfl (fun h191=>?_) (fun h191=>?_)
    ·refine go 8 ⟨O2,O2,?_⟩
     refine Yk (Zz 11) fun bx_8 _=>?_
     refine go 7 ?_
     refine cl 11 [] (Zfb ((Zp i x y z).getD k 0) (Ga ov x y z) (Nat.le_trans (hM.s i k) O3) (Nat.le_trans hgb O3) O) fun _ _=>?_
     refine cl 11 [] (Zob ((Zp i x y z).getD k 0/(Ga ov x y z)) (hM.fit hsm O k)) fun _ _=>?_
     refine go 11 ?_
     refine dt (Zyq (i:=9) rfl rfl rfl Tryz.isAgg33 (Yeh O)) ?_
     refine go 1 ?_
     refine tt (Qh (i:=12) (ivs:=[(0,_)]) (enc:=Zx) ([(Zp i x y z).getD k 0/(Ga ov x y z)]:List Int) rfl rfl ⟨rfl,rfl,trivial⟩ Tryz.underlying33 Tryz.ti3 rfl rfl rfl rfl rfl pZ.cells rfl rfl hw.h) (fun v _=>?_)
     refine tt (Nz (i:=60) (j:=12) (by_:=8) rfl rfl rfl rfl rfl rfl O3 rfl (Ys pZ) Tryz.underlying33 Tryz.ti3 rfl pZ rfl rfl rfl O8 O3 rfl hw.h) (fun v_2 _=>?_)
     refine go 1 ?_
     refine tt (t_st6 (i:=9) (n:=i) rfl rfl rfl rfl rfl O3 Tryz.sizeOf33 O (Pl (i:=60) rfl (Ys pZ)) rfl hw.h trivial) (fun _ _=>?_)
     refine go 7 ⟨O,?_⟩
     exact Xf (k+1,_) O1 O1 ⟨rfl,trivial⟩ ⟨rfl,by rw [←Yb3 O];rfl,trivial⟩
    ·obtain rfl:k=(Zp i x y z).length:=O
     rw [List.take_length]
     refine go 9 ?_
     refine dt (Zyq (i:=9) rfl rfl rfl Tryz.isAgg33 (Yeh O)) ?_
     refine go 4 ?_
     refine Zc rfl (fun h195=>?_) (fun h195=>?_)
     ·have hc0:(Zp i x y z).length=0:=by simpa using h195
      refine go 2 ?_
      refine tt (Qh (i:=13) (ivs:=[(0,_)]) (enc:=Zx) ([0]:List Int) rfl rfl ⟨rfl,rfl,trivial⟩ Tryz.underlying33 Tryz.ti3 rfl rfl rfl rfl rfl pZ.cells rfl rfl hw.h) (fun v_3 _=>?_)
      refine go 1 ?_
      refine tt (t_st6 (i:=9) (n:=i) rfl rfl rfl rfl rfl O3 Tryz.sizeOf33 O (Pl (i:=13) rfl (Ys pZ)) rfl hw.h trivial) (fun _ _=>?_)
      refine go 7 ⟨O,?_⟩
      refine Zy2 (f_new 13 rfl rfl rfl) (fun hfr=>?_)
      refine Yg (Qd 13 rfl rfl pZ) ?_
      refine Zrl (Px 13 rfl Zk) (fun sn hsn=>?_)
      subst hsn
      refine Yg (Me 13 (q:=Yh 1 Zx (Xb sn) (Db (Zp i x y z) (Ga ov x y z))) (congrArg (Yh 1 Zx (Xb sn)) (dvL_0 hc0).symm) rfl rfl) ?_
      refine Yg (Zi (q:=qC) (z:=(sn,Db (Zp i x y z) (Ga ov x y z))) 71 13 71 rfl rfl rfl rfl rfl) ?_
      exact Xf (i+1,zs ++ [(sn,Db (Zp i x y z) (Ga ov x y z))]) ⟨O1,by rw [List.length_append,hzl];rfl,fun t ht=>Zpx (f:=fun t=>Db (Zp t x y z) (Ga ov x y z)) hzl hzs rfl ht,Ycs hfz hfr⟩ O1 ⟨rfl,trivial⟩ ⟨by rw [Ztj (fun j _=>Zvk (c:=Db (Zp i x y z) (Ga ov x y z)) hzl j)];rfl,rfl,trivial⟩
     ·have hc0:(Zp i x y z).length≠0:=by simpa using h195
      refine go 7 ⟨O,?_⟩
      refine Zy2 (f_new 60 rfl rfl rfl) (fun hfr=>?_)
      refine Yg (Qd 60 rfl rfl pZ) ?_
      refine Zrl (Px 60 rfl Zk) (fun sn hsn=>?_)
      subst hsn
      refine Yg (Me 60 (q:=Yh 1 Zx (Xb sn) (Db (Zp i x y z) (Ga ov x y z))) (congrArg (Yh 1 Zx (Xb sn)) (dvL_n hc0).symm) rfl rfl) ?_
      refine Yg (Zi (q:=qC) (z:=(sn,Db (Zp i x y z) (Ga ov x y z))) 71 60 71 rfl rfl rfl rfl rfl) ?_
      exact Xf (i+1,zs ++ [(sn,Db (Zp i x y z) (Ga ov x y z))]) ⟨O1,by rw [List.length_append,hzl];rfl,fun t ht=>Zpx (f:=fun t=>Db (Zp t x y z) (Ga ov x y z)) hzl hzs rfl ht,Ycs hfz hfr⟩ O1 ⟨rfl,trivial⟩ ⟨by rw [Ztj (fun j _=>Zvk (c:=Db (Zp i x y z) (Ga ov x y z)) hzl j)];rfl,rfl,trivial⟩
   ·obtain rfl:i=3:=O
    refine go 6 ?_
    obtain⟨s1,s2,s3,rfl⟩:=mds_of hzl hzs
    refine Zf (Zct (q:=qC) 71 81 (s1,Db x (Ga ov x y z)) rfl rfl O7 rfl) ?_
    refine Zf (Me 81 (q:=Yh 1 Zx (Xb s1) (mdL ov (Ga ov x y z) x)) (congrArg (Yh 1 Zx (Xb s1)) (Zk5 hsm).symm) rfl rfl) ?_
    refine Zf (Zct (q:=qC) 71 82 (s2,Db y (Ga ov x y z)) rfl rfl O7 rfl) ?_
    refine Zf (Me 82 (q:=Yh 1 Zx (Xb s2) (mdL ov (Ga ov x y z) y)) (congrArg (Yh 1 Zx (Xb s2)) (Zk5 hsm).symm) rfl rfl) ?_
    refine Zf (Zct (q:=qC) 71 83 (s3,Db z (Ga ov x y z)) rfl rfl O7 rfl) ?_
    refine Zf (Me 83 (q:=Yh 1 Zx (Xb s3) (mdL ov (Ga ov x y z) z)) (congrArg (Yh 1 Zx (Xb s3)) (Zk5 hsm).symm) rfl rfl) ?_
    refine Zf (Me 9 (q:=box bx_6 35 #[.int .i64 fr,.int .i64 to,.int .i64 (ov/(Ga ov x y z)),Xb s1,Xb s2,Xb s3]) rfl rfl rfl) ?_
    refine go 7 ?_
    exact Zy5 (.inl rfl) (s1,s2,s3) _ (fr3 hfz) (fun a w hs=>Zxp hs Tryz.results230 (Gf (i:=6) rfl rfl Tryz.isAgg35 Tryz.sizeOf35 rfl) rfl) (by rw [mdO_t hsm,decide_eq_true hsm]) trivial rfl (Ip 81 rfl rfl rfl (Ip 82 rfl rfl rfl (Ip 83 rfl rfl rfl Za)))
theorem Zxe(v:Value)(ps:List Zv)(b1 b2 b3:Nat)(fr to:Int)(hsg:∀g∈ps,SgG g)(hM:∀g∈ps,Kt fr to g=true→MdG fr to g):CalI Tryz.prog 229 [.pointer (some ⟨b1,0,none⟩),.pointer (some ⟨b2,0,none⟩),.pointer (some ⟨b3,0,none⟩)] [Hg b1 38 #[v],Hg b2 3 #[.int .i64 fr],Hg b3 3 #[.int .i64 to],Pz 6 Mo qG v ps] (α:=Zv) (G:=SL×SL×SL) (ps.filter (Kt fr to)) (fun c g=>[.agg #[.int .i64 (cA fr c),.int .i64 (cB to c),.int .i64 (mdO (cO c) (cG fr to c)),Xb g.1,Xb g.2.1,Xb g.2.2],.bool (Zja fr to c)]) (fun c g=>[Yh 1 Zx (Xb g.1) (mdL (cO c) (cG fr to c) (cX fr to c c.2.1.2)),Yh 1 Zx (Xb g.2.1) (mdL (cO c) (cG fr to c) (cX fr to c c.2.2.1.2)),Yh 1 Zx (Xb g.2.2) (mdL (cO c) (cG fr to c) (cX fr to c c.2.2.2.2))]):=by
 refine Yir Tryz.func229 rfl Tryz.ntmps229 rfl ⟨rfl,rfl,rfl,rfl,trivial⟩ ?_
 intro l M J Jx w0 sc hw hpre hJs hJxs hJ0 hY
 simp only [Pa,Xu]
 have hw9:=Hw.mk hw
 refine Nw (Gp (i:=4) rfl Zn) (fun hlen=>?_)
 refine go 8 ?_
 refine lp (G:=Nat×World) [0,2,3,12,13] [1,2,3,4] (fun q=>[(14,.int .i64 (q.1:Int))]) (fun q=>[(0,Xm q.2 (fun _=>False))]) (fun q=>(q.1≤ps.length)∧(J ((ps.take q.1).filter (Kt fr to)).length q.2)∧(w0.heap.size≤q.2.heap.size)) (fun q=>ps.length-q.1) (0,w0) ⟨O1,hJ0,Nat.le_refl _⟩ ⟨rfl,trivial⟩ ⟨rfl,trivial⟩ ?_
 rintro⟨i,W⟩ ⟨hi,hJ,hW⟩
 dsimp only at hi hJ hW
 dsimp only
 have hw8:=hw_up hw9 hW
 refine go 6 ?_
 refine Zc rfl (fun h215=>?_) (fun h215=>?_)
 ·refine go 5 ?_
  have hgi:=hsg _ (Zj (d:=G0) (show i<ps.length by omega))
  have ht1:=hgi.t1
  have ht2:=hgi.t2
  have ht3:=hgi.t3
  have ho1:=hgi.o1
  have ho2:=hgi.o2
  refine Zf (Nx (g:=(ps.getD i G0)) (z:=(ps.getD i G0).2.1) 4 51 rfl rfl (Zj) O7) ?_
  refine Zf (Nx (g:=(ps.getD i G0)) (z:=(ps.getD i G0).2.2.1) 4 52 rfl rfl (Zj) O7) ?_
  refine Zf (Nx (g:=(ps.getD i G0)) (z:=(ps.getD i G0).2.2.2) 4 53 rfl rfl (Zj) O7) ?_
  refine go 2 ⟨O2,?_⟩
  refine dt (Oi (ii:=4) G0 rfl rfl rfl Zn pG O2) ?_
  refine Yk (Zz 5) fun bx _=>?_
  refine go 4 ?_
  refine Qe (fun _=>False) [(0,0),(1,0),(2,0),(3,0),(4,0),(5,0),(6,0),(7,0),(8,0),(9,3)] ?_
  refine go 3 ?_
  refine Qc rfl rfl (Qy (Zf8 rfl rfl rfl)) ?_
  refine go 3 ?_
  refine Qc rfl rfl (Qy (d_min rfl rfl rfl)) ?_
  refine go 12 ?_
  refine Zc rfl (fun h217=>?_) (fun h217=>?_)
  ·have hcp:Kt fr to (ps.getD i G0)=false:=decide_eq_false (by unfold cA cB;omega)
   refine go 8 ⟨O,?_⟩
   exact Xf (i+1,W) ⟨O1,by rw [fl_f O hcp];exact hJ,hW⟩ O1 ⟨rfl,trivial⟩ ⟨rfl,trivial⟩
  ·have hcp:Kt fr to (ps.getD i G0)=true:=decide_eq_true (by unfold cA cB;omega)
   have hMi:=hM _ (Zj (d:=G0) (show i<ps.length by omega)) hcp
   obtain⟨hq1,hq2,hq3,hq4⟩:=cut_b hgi hcp
   refine go 12 ⟨O,?_⟩
   refine jn (G:=SL×SL×SL×Nat) [0,2,3,12,13,14] [0,1,2,3,4,51,52,53,5] (fun q=>[(10,.pointer (some ⟨q.2.2.2,0,none⟩)),(11,.bool (Zja fr to (ps.getD i G0)))]) (fun q=>[(90,Yh 1 Zx (Xb q.1) (mdL (cO (ps.getD i G0)) (cG fr to (ps.getD i G0)) (cX fr to (ps.getD i G0) (ps.getD i G0).2.1.2))),(91,Yh 1 Zx (Xb q.2.1) (mdL (cO (ps.getD i G0)) (cG fr to (ps.getD i G0)) (cX fr to (ps.getD i G0) (ps.getD i G0).2.2.1.2))),(92,Yh 1 Zx (Xb q.2.2.1) (mdL (cO (ps.getD i G0)) (cG fr to (ps.getD i G0)) (cX fr to (ps.getD i G0) (ps.getD i G0).2.2.2.2))),(93,box q.2.2.2 35 #[.int .i64 (cA fr (ps.getD i G0)),.int .i64 (cB to (ps.getD i G0)),.int .i64 (mdO (cO (ps.getD i G0)) (cG fr to (ps.getD i G0))),Xb q.1,Xb q.2.1,Xb q.2.2.1])]) (fun q=>(∀p∈[Yh 1 Zx (Xb q.1) (mdL (cO (ps.getD i G0)) (cG fr to (ps.getD i G0)) (cX fr to (ps.getD i G0) (ps.getD i G0).2.1.2)),Yh 1 Zx (Xb q.2.1) (mdL (cO (ps.getD i G0)) (cG fr to (ps.getD i G0)) (cX fr to (ps.getD i G0) (ps.getD i G0).2.2.1.2)),Yh 1 Zx (Xb q.2.2.1) (mdL (cO (ps.getD i G0)) (cG fr to (ps.getD i G0)) (cX fr to (ps.getD i G0) (ps.getD i G0).2.2.2.2))],∀b,p.fp b→W.heap.size≤b)) ?_ ?_
   ·refine Ln [5] [24] ?_
    refine Zh (n:=11) [(0,0),(1,0),(2,0),(3,0),(4,0),(5,0),(6,0),(7,0),(8,0),(9,0),(10,0),(12,0),(13,0),(15,0)] ?_
    refine go 15 ⟨O,O,?_⟩
    refine Qp (n:=10) 11 22 ?_ ?_
    ·refine Ol (Zg 6 [51,52,53] (Zfy _ _ _ _ _ _ _ _ _ ((cA fr (ps.getD i G0))-(ps.getD i G0).1.1) ((cB to (ps.getD i G0))-(cA fr (ps.getD i G0))) ((ps.getD i G0).1.2.1-(ps.getD i G0).1.1) hgi hq1 hq2 ⟨O,O⟩)) fun⟨s,s_2,s_3⟩ _=>?_
     refine Qp (n:=9) 14 22 ?_ ?_
     ·refine Ol (Zg 8 [] (Zo (ps.getD i G0).1.2.2)) fun _ _=>?_
      refine Qp (n:=8) 16 22 ?_ ?_
      ·refine Ol (Zg 8 [] (Ho ((ps.getD i G0).1.2.1-(ps.getD i G0).1.1) 5 (Nat.le_trans (Zjo O) O3) O3 O3)) fun _ _=>?_
       refine Qp (n:=7) 17 22 ?_ ?_
       ·refine Ol (Zg 8 [] (Dq (ps.getD i G0).1.2.2 (((ps.getD i G0).1.2.1-(ps.getD i G0).1.1)^5) (Nat.le_trans (Iz ⟨O,O⟩) O3) (Nat.le_trans (Zkv ⟨O,O⟩) O3))) fun _ _=>?_
        refine Qp (n:=6) 18 22 ?_ ?_
        ·refine Ol (Zw8 90 [6,7,8] (Zbk (cA fr (ps.getD i G0)) (cB to (ps.getD i G0)) (cO (ps.getD i G0)) _ _ _ (cX fr to (ps.getD i G0) (ps.getD i G0).2.1.2) (cX fr to (ps.getD i G0) (ps.getD i G0).2.2.1.2) (cX fr to (ps.getD i G0) (ps.getD i G0).2.2.2.2) hMi)) fun⟨s_4,s_5,s_6⟩ ⟨_,hfr⟩=>?_
         refine Zh (n:=0) [(19,0),(20,0),(21,0),(22,1),(23,1),(24,3)] ?_
         refine go 3 ?_
         refine Yz (Qr 93) fun bx_2 ho=>?_
         refine go 3 ?_
         refine Zs ?_
         exact Pr (_,_,_,_) (hfr) ⟨rfl,rfl,trivial⟩ ⟨rfl,rfl,rfl,rfl,trivial⟩
        ·refine Ol (Qr 93) fun bx_3 ho2=>?_
         refine Zh (n:=0) [(18,1),(19,0),(20,0),(21,0),(23,1),(24,3)] ?_
         refine Yz (Zw8 90 [6,7,8] (Zbk (cA fr (ps.getD i G0)) (cB to (ps.getD i G0)) (cO (ps.getD i G0)) _ _ _ (cX fr to (ps.getD i G0) (ps.getD i G0).2.1.2) (cX fr to (ps.getD i G0) (ps.getD i G0).2.2.1.2) (cX fr to (ps.getD i G0) (ps.getD i G0).2.2.2.2) hMi)) fun⟨s_7,s_8,s_9⟩ ⟨_,hfr⟩=>?_
         refine go 6 ?_
         refine Zs ?_
         exact Pr (_,_,_,_) (hfr) ⟨rfl,rfl,trivial⟩ ⟨rfl,rfl,rfl,rfl,trivial⟩
       ·refine Ol (Qr 93) fun bx_4 ho3=>?_
        refine Zh (n:=0) [(17,1),(18,1),(19,0),(20,0),(21,0),(23,1),(24,3)] ?_
        refine Yz (Zg 8 [] (Dq (ps.getD i G0).1.2.2 (((ps.getD i G0).1.2.1-(ps.getD i G0).1.1)^5) (Nat.le_trans (Iz ⟨O,O⟩) O3) (Nat.le_trans (Zkv ⟨O,O⟩) O3))) fun _ _=>?_
        refine Yz (Zw8 90 [6,7,8] (Zbk (cA fr (ps.getD i G0)) (cB to (ps.getD i G0)) (cO (ps.getD i G0)) _ _ _ (cX fr to (ps.getD i G0) (ps.getD i G0).2.1.2) (cX fr to (ps.getD i G0) (ps.getD i G0).2.2.1.2) (cX fr to (ps.getD i G0) (ps.getD i G0).2.2.2.2) hMi)) fun⟨s_10,s_11,s_12⟩ ⟨_,hfr⟩=>?_
        refine go 6 ?_
        refine Zs ?_
        exact Pr (_,_,_,_) (hfr) ⟨rfl,rfl,trivial⟩ ⟨rfl,rfl,rfl,rfl,trivial⟩
      ·refine Ol (Qr 93) fun bx_5 ho4=>?_
       refine Zh (n:=0) [(16,1),(17,1),(18,1),(19,0),(20,0),(21,0),(23,1),(24,3)] ?_
       refine Yz (Zg 8 [] (Ho ((ps.getD i G0).1.2.1-(ps.getD i G0).1.1) 5 (Nat.le_trans (Zjo O) O3) O3 O3)) fun _ _=>?_
       refine Yz (Zg 8 [] (Dq (ps.getD i G0).1.2.2 (((ps.getD i G0).1.2.1-(ps.getD i G0).1.1)^5) (Nat.le_trans (Iz ⟨O,O⟩) O3) (Nat.le_trans (Zkv ⟨O,O⟩) O3))) fun _ _=>?_
       refine Yz (Zw8 90 [6,7,8] (Zbk (cA fr (ps.getD i G0)) (cB to (ps.getD i G0)) (cO (ps.getD i G0)) _ _ _ (cX fr to (ps.getD i G0) (ps.getD i G0).2.1.2) (cX fr to (ps.getD i G0) (ps.getD i G0).2.2.1.2) (cX fr to (ps.getD i G0) (ps.getD i G0).2.2.2.2) hMi)) fun⟨s_13,s_14,s_15⟩ ⟨_,hfr⟩=>?_
       refine go 6 ?_
       refine Zs ?_
       exact Pr (_,_,_,_) (hfr) ⟨rfl,rfl,trivial⟩ ⟨rfl,rfl,rfl,rfl,trivial⟩
     ·refine Ol (Qr 93) fun bx_6 ho5=>?_
      refine Zh (n:=0) [(14,1),(16,1),(17,1),(18,1),(19,0),(20,0),(21,0),(23,1),(24,3)] ?_
      refine Yz (Zg 8 [] (Zo (ps.getD i G0).1.2.2)) fun _ _=>?_
      refine Yz (Zg 8 [] (Ho ((ps.getD i G0).1.2.1-(ps.getD i G0).1.1) 5 (Nat.le_trans (Zjo O) O3) O3 O3)) fun _ _=>?_
      refine Yz (Zg 8 [] (Dq (ps.getD i G0).1.2.2 (((ps.getD i G0).1.2.1-(ps.getD i G0).1.1)^5) (Nat.le_trans (Iz ⟨O,O⟩) O3) (Nat.le_trans (Zkv ⟨O,O⟩) O3))) fun _ _=>?_
      refine Yz (Zw8 90 [6,7,8] (Zbk (cA fr (ps.getD i G0)) (cB to (ps.getD i G0)) (cO (ps.getD i G0)) _ _ _ (cX fr to (ps.getD i G0) (ps.getD i G0).2.1.2) (cX fr to (ps.getD i G0) (ps.getD i G0).2.2.1.2) (cX fr to (ps.getD i G0) (ps.getD i G0).2.2.2.2) hMi)) fun⟨s_16,s_17,s_18⟩ ⟨_,hfr⟩=>?_
      refine go 6 ?_
      refine Zs ?_
      exact Pr (_,_,_,_) (hfr) ⟨rfl,rfl,trivial⟩ ⟨rfl,rfl,rfl,rfl,trivial⟩
    ·refine Ol (Qr 93) fun bx_7 ho6=>?_
     refine Zh (n:=0) [(11,1),(14,1),(16,1),(17,1),(18,1),(19,0),(20,0),(21,0),(23,1),(24,3)] ?_
     refine Yz (Zg 9 [51,52,53] (Zfy _ _ _ _ _ _ _ _ _ ((cA fr (ps.getD i G0))-(ps.getD i G0).1.1) ((cB to (ps.getD i G0))-(cA fr (ps.getD i G0))) ((ps.getD i G0).1.2.1-(ps.getD i G0).1.1) hgi hq1 hq2 ⟨O,O⟩)) fun⟨s_19,s_20,s_21⟩ _=>?_
     refine Yz (Zg 11 [] (Zo (ps.getD i G0).1.2.2)) fun _ _=>?_
     refine Yz (Zg 11 [] (Ho ((ps.getD i G0).1.2.1-(ps.getD i G0).1.1) 5 (Nat.le_trans (Zjo O) O3) O3 O3)) fun _ _=>?_
     refine Yz (Zg 11 [] (Dq (ps.getD i G0).1.2.2 (((ps.getD i G0).1.2.1-(ps.getD i G0).1.1)^5) (Nat.le_trans (Iz ⟨O,O⟩) O3) (Nat.le_trans (Zkv ⟨O,O⟩) O3))) fun _ _=>?_
     refine Yz (Zw8 90 [9,10,11] (Zbk (cA fr (ps.getD i G0)) (cB to (ps.getD i G0)) (cO (ps.getD i G0)) _ _ _ (cX fr to (ps.getD i G0) (ps.getD i G0).2.1.2) (cX fr to (ps.getD i G0) (ps.getD i G0).2.2.1.2) (cX fr to (ps.getD i G0) (ps.getD i G0).2.2.2.2) hMi)) fun⟨s_22,s_23,s_24⟩ ⟨_,hfr⟩=>?_
     refine go 6 ?_
     refine Zs ?_
     exact Pr (_,_,_,_) (hfr) ⟨rfl,rfl,trivial⟩ ⟨rfl,rfl,rfl,rfl,trivial⟩
   ·rintro⟨s1,s2,s3,bj⟩ hfr
    dsimp only at hfr
    dsimp only
    refine go 1 ?_
    refine e_li ?_
    refine Zim (d_mv rfl rfl) rfl rfl rfl ?_
    refine Zim (d_lbw (i:=93) rfl rfl rfl Tryz.isAgg35 Tryz.sizeOf35 rfl) rfl rfl rfl ?_
    refine Zim (d_mv rfl rfl) rfl rfl rfl ?_
    refine Ycb (pre:=[_,_,_,_]) (vs:=[_,_]) _ (ps.getD i G0) (s1,s2,s3) hY (fl_get O hcp) hJ hW hpre rfl rfl rfl rfl rfl ⟨rfl,rfl,trivial⟩ rfl rfl (Ydz hfr 90 rfl rfl rfl) ⟨rfl,rfl,rfl,rfl,trivial⟩ ⟨rfl,rfl,rfl,rfl,trivial⟩ (fun W2 hJ2 hW2=>?_) (fun W2 hJ2 hW2=>?_)
    ·simp only [Xu]
     refine Zim (Zw (r':= .bool false) (Qf rfl rfl) rfl) rfl rfl rfl ?_
     refine Ycc ?_
     refine go 9 ⟨O,?_⟩
     exact Xf (i+1,W2) ⟨O1,by rw [fl_t O hcp];exact hJ2,hW2⟩ O1 ⟨rfl,trivial⟩ ⟨rfl,trivial⟩
    ·simp only [Xu]
     refine Zim (Zw (r':= .bool true) (Qf rfl rfl) rfl) rfl rfl rfl ?_
     refine Ycc ?_
     refine go 7 ?_
     exact Zy4 (.inl rfl) rfl rfl hJs hJxs (.inr hJ2)
 ·obtain rfl:i=ps.length:=O
  rw [List.take_length]at hJ
  refine go 4 ?_
  exact Zy4 (.inr rfl) rfl rfl hJs hJxs (.inl hJ)
theorem Zz1(v:Value)(ps:List Zv)(fr to:Int):Cal Tryz.prog 181 #[v,.int .i64 fr,.int .i64 to] [Pz 6 Mo qG v ps] true (G:=Nat×Nat×Nat) (fun g=>True) (fun g=> .func (.func 229) #[] #[.pointer (some ⟨g.1,0,none⟩),.pointer (some ⟨g.2.1,0,none⟩),.pointer (some ⟨g.2.2,0,none⟩)]) (fun g=>[Hg g.1 38 #[v],Hg g.2.1 3 #[.int .i64 fr],Hg g.2.2 3 #[.int .i64 to]]):=by
 refine Zd Tryz.func181 Tryz.ntmps181 fun w0 sc hw hsc=>?_
 refine Znh (Px 1 rfl Zn) (fun sl hsl=>?_)
 subst hsl
 refine go 2 ?_
 refine Yk (Yj 2) fun bx _=>?_
 refine Yk (Yj 3) fun bx_2 _=>?_
 refine Yk (Yj 4) fun bx_3 _=>?_
 refine go 5 ?_
 refine dt (d_mkc (vs:=[]) (us:=[_,_,_]) rfl trivial ⟨rfl,rfl,rfl,trivial⟩) ?_
 refine go 4 ?_
 refine Yg (Zhw 2 rfl rfl) ?_
 refine Yg (Zhw 3 rfl rfl) ?_
 refine Yg (Zhw 4 rfl rfl) ?_
 exact Xn hsc (_,_,_) Tryz.results181 rfl trivial (Ot 2 (Ot 3 (Ot 4 Za)))
@[reducible,instance] def encGI:EncT Tryz.prog 35 6 Mo:=⟨pG⟩
theorem Zz3(v:Value)(ps:List Zv)(fr to:Int)(hsg:∀g∈ps,SgG g)(hM:∀g∈ps,Kt fr to g=true→MdG fr to g)(hpl:ps.length≤256):Cal Tryz.prog 121 #[v,.int .i64 fr,.int .i64 to] [Pz 6 Mo qG v ps] true (G:=Value×List Zv) (fun g=>g.2.map unS=Zca fr to ps) (fun g=> .tuple #[g.1,.int .i64 (Zta fr to ps)]) (fun g=>[Pz 6 Mo qG g.1 g.2]):=by
 refine Yis Tryz.func121 rfl Tryz.ntmps121 rfl ⟨rfl,trivial⟩ ?_
 intro w0 sc hw hsc;have hw:=Hw.mk hw
 simp only [Pa,Xu]
 refine go 2 ?_
 refine Yk (Zz 2) fun bx _=>?_
 refine Yk (Zz 3) fun bx_2 _=>?_
 refine go 8 ?_
 refine cl 4 [1] (Zz1 _ _ _ _) fun⟨b,b_2,b_3⟩ _=>?_
 refine go 3 ?_
 refine Zf (Pm 70 6 35 Mo) ?_
 refine Zf (Yw qG 73) ?_
 refine e_rfi (pre:=[Hg b 38 #[v],Hg b_2 3 #[.int .i64 fr],Hg b_3 3 #[.int .i64 to],Pz 6 Mo qG v ps]) (w0:=w0) (fun(_:Nat) (gg:Value×List Zv)=>[(0,Xm w0 (fun _=>False)),(1,Pz 6 Mo qG v ps),(2,box bx 38 #[gg.1]),(3,box bx_2 26 #[.int .i64 0]),(70,Oa 6 35 Mo gg.1 gg.2),(73,Ia qG gg.2)]) (fun k gg=>Zyr fr to ps k gg.2) (fun(_:Unit)=>[(0,Xm w0 (fun _=>False)),(2,box bx 38 #[.slice none 0 0]),(3,box bx_2 26 #[.int .i64 7])]) (fun _=>Py fr to ps=false) (.slice none 0 0,[]) rfl (by intro args w;first | exact enters_of Tryz.func229 O6 rfl args w | exact Tryz.call229 args w) (Zxe v ps b b_2 b_3 fr to hsg hM) ?_ (fun _ _=>rfl) rfl hw.h rfl (cutI_0 fr to ps) ⟨rfl,rfl,rfl,rfl,rfl,rfl,trivial⟩ (fun _ _=>⟨rfl,rfl⟩) (fun _=>⟨rfl,rfl⟩) (fun k x gi gg hx hinv l Mf Wa=>?_) rfl (fun gg hinv D od=>?_) (fun _ hxx=>?_)
 ·intro p hp
  simp only [List.mem_cons,List.not_mem_nil,or_false]at hp
  rcases hp with rfl | rfl | rfl | rfl
  ·exact⟨rfl,4,rfl⟩
  ·exact⟨rfl,5,rfl⟩
  ·exact⟨rfl,6,rfl⟩
  ·exact⟨rfl,1,rfl⟩
 ·obtain⟨vr,zs⟩:=gg
  have hkl:k≤ps.length:=Nat.le_trans (Nat.le_of_lt (List.getElem?_eq_some_iff.1 hx).1) (List.length_filter_le _ _)
  have hzl:zs.length≤ps.length:=cutI_l hinv hkl
  refine er_imp (env':=[(15,.bool (Zja fr to x)),(14,.agg #[.int .i64 (cA fr x),.int .i64 (cB to x),.int .i64 (mdO (cO x) (cG fr to x)),Xb gi.1,Xb gi.2.1,Xb gi.2.2]),(6,.pointer (some ⟨bx,0,none⟩)),(7,.pointer (some ⟨bx_2,0,none⟩))]) (H':=[(92,Xm Wa Mf),(100,Yh 1 Zx (Xb gi.1) (mdL (cO x) (cG fr to x) (cX fr to x x.2.1.2))),(101,Yh 1 Zx (Xb gi.2.1) (mdL (cO x) (cG fr to x) (cX fr to x x.2.2.1.2))),(102,Yh 1 Zx (Xb gi.2.2) (mdL (cO x) (cG fr to x) (cX fr to x x.2.2.2.2))),(0,Xm w0 (fun _=>False)),(1,Pz 6 Mo qG v ps),(2,box bx 38 #[vr]),(3,box bx_2 26 #[.int .i64 0]),(70,Oa 6 35 Mo vr zs),(73,Ia qG zs)]) (fun a w hs=>hs.weaken ⟨rfl,rfl,rfl,rfl,trivial⟩ ⟨rfl,rfl,rfl,rfl,rfl,rfl,rfl,rfl,rfl,rfl,trivial⟩) ?_
  refine Zs0 rfl ?_
  refine Yk (Zz 8) fun b8 _=>?_
  refine go 1 ?_
  refine go 1 ?_
  refine x_er ?_
  refine Zvq rfl ?_
  refine go 1 ?_
  refine go 1 ?_
  refine x_en fun a w hs=>⟨rfl,[(8,.pointer (some ⟨b8,0,none⟩)),(9,.bool (Zja fr to x)),(6,.pointer (some ⟨bx,0,none⟩)),(7,.pointer (some ⟨bx_2,0,none⟩))],[(8,box b8 35 #[.int .i64 (cA fr x),.int .i64 (cB to x),.int .i64 (mdO (cO x) (cG fr to x)),Xb gi.1,Xb gi.2.1,Xb gi.2.2]),(100,Yh 1 Zx (Xb gi.1) (mdL (cO x) (cG fr to x) (cX fr to x x.2.1.2))),(101,Yh 1 Zx (Xb gi.2.1) (mdL (cO x) (cG fr to x) (cX fr to x x.2.2.1.2))),(102,Yh 1 Zx (Xb gi.2.2) (mdL (cO x) (cG fr to x) (cX fr to x x.2.2.2.2))),(0,Xm w0 (fun _=>False)),(1,Pz 6 Mo qG v ps),(2,box bx 38 #[vr]),(3,box bx_2 26 #[.int .i64 0]),(70,Oa 6 35 Mo vr zs),(73,Ia qG zs)],rfl,(fun q h=>by cases h;rfl),⟨.inl rfl,.inr (fun b hb=>⟨100,_,rfl,hb⟩),.inr (fun b hb=>⟨101,_,rfl,hb⟩),.inr (fun b hb=>⟨102,_,rfl,hb⟩),.inr (fun b hb=>⟨0,_,rfl,hb⟩),.inr (fun b hb=>⟨1,_,rfl,hb⟩),.inl rfl,.inl rfl,.inl rfl,.inr (fun b hb=>⟨73,_,rfl,hb⟩),trivial⟩,hs.weaken ⟨rfl,rfl,rfl,rfl,trivial⟩ ⟨rfl,rfl,rfl,rfl,rfl,rfl,rfl,rfl,rfl,rfl,rfl,trivial⟩,fun Wb=>?_⟩
  refine Yc7 ?_
  refine er_seq ?_
  refine Zs0 rfl ?_
  refine go 2 ?_
  refine go 1 ?_
  refine x_er ?_
  refine Yc6 rfl (fun hk=>?_) (fun hk=>?_)
  ·refine Zs0 rfl ?_
   refine go 2 ?_
   refine go 1 ?_
   refine x_er ?_
   exact er_ret fun a w hs=>Or.inr ⟨rfl,(),cut_no hx (Yej hk),⟨.inr (fun b hb=>⟨0,_,rfl,hb⟩),.inl rfl,.inl rfl,trivial⟩,[],hs.weaken trivial ⟨rfl,rfl,rfl,rfl,trivial⟩⟩
  ·refine Yhp ?_
   refine Zvq rfl ?_
   refine go 2 ?_
   refine tt (Qh (i:=12) (ivs:=[(0,_)]) (enc:=Mo) [(Zry fr to x gi)] rfl rfl ⟨rfl,rfl,trivial⟩ Tryz.underlying38 Tryz.ti35 rfl rfl (Zsu _ _ _ _ _ _ _ _ _ _ _ _) rfl rfl pG.cells rfl rfl hw.h) (fun v2 _=>?_)
   refine tt (Nz (i:=70) (j:=12) (by_:=96) rfl rfl rfl rfl rfl rfl O3 rfl (Ys pG) Tryz.underlying38 Tryz.ti35 rfl pG rfl rfl rfl O8 O3 rfl hw.h) (fun v3 _=>?_)
   refine go 2 ?_
   refine Yg (Yw qC 71) ?_
   refine Yg (Zi (q:=qC) (z:=(Zry fr to x gi).2.1) 71 100 71 rfl rfl rfl rfl rfl) ?_
   refine Yg (Zi (q:=qC) (z:=(Zry fr to x gi).2.2.1) 71 101 71 rfl rfl rfl rfl rfl) ?_
   refine Yg (Zi (q:=qC) (z:=(Zry fr to x gi).2.2.2) 71 102 71 rfl rfl rfl rfl rfl) ?_
   refine Yg (Zi (q:=qG) (z:=(Zry fr to x gi)) 73 71 73 rfl rfl rfl rfl rfl) ?_
   exact x_en fun a w hs=>Or.inl ⟨rfl,(v3,zs ++ [(Zry fr to x gi)]),cutI_s hinv hx (Yek hk),⟨.inr (fun b hb=>⟨0,_,rfl,hb⟩),.inr (fun b hb=>⟨1,_,rfl,hb⟩),.inl rfl,.inl rfl,.inl rfl,.inr (Ycu 73 100 rfl rfl rfl rfl),trivial⟩,[],hs.weaken trivial ⟨rfl,rfl,rfl,rfl,rfl,rfl,rfl,trivial⟩⟩
 ·obtain⟨vr,zs⟩:=gg
  obtain⟨he1,he2⟩:=cutI_e hinv
  refine go 3 ?_
  refine go 1 ?_
  refine x_en fun a w hs=>⟨rfl,[(6,.pointer (some ⟨bx,0,none⟩)),(7,.pointer (some ⟨bx_2,0,none⟩))],[(0,Xm w0 (fun _=>False)),(1,Pz 6 Mo qG v ps),(2,box bx 38 #[vr]),(3,box bx_2 26 #[.int .i64 0]),(70,Oa 6 35 Mo vr zs),(73,Ia qG zs)],rfl,⟨⟨_,rfl,rfl,fun _ h=>h⟩,⟨_,rfl,rfl,fun _ h=>h⟩,⟨_,rfl,rfl,fun _ h=>h⟩,⟨_,rfl,rfl,fun _ h=>h⟩,⟨_,rfl,rfl,fun _ h=>h⟩,⟨_,rfl,rfl,fun _ h=>h⟩,trivial⟩,hs.weaken ⟨rfl,rfl,trivial⟩ ⟨rfl,rfl,rfl,rfl,rfl,rfl,rfl,trivial⟩,?_⟩
  refine Yg (Qd 70 rfl rfl pG) ?_
  refine Yg (Pi 70 73 72 rfl rfl rfl rfl) ?_
  exact Mi hsc (vr,zs) Tryz.results121 (by rw [he2]) he1 (Ot 72 Za)
 ·refine Yg (Zdt 72 6 Mo qG) ?_
  exact Mi hsc (.slice none 0 0,[]) Tryz.results121 (by rw [(cut_f hxx).2]) (cut_f hxx).1 (Ot 72 Za)
theorem Yie(x:Int):Cal Tryz.prog 278 #[.int .i64 x] [] false (G:=Unit) (fun _=>True) (fun _=> .bool false) (fun _=>[]):=by
 refine Zd Tryz.func278 Tryz.ntmps278 fun w0 sc hw hsc=>?_
 refine go 9 ?_
 refine kf (decide_eq_false (fun h=>h rfl)) ?_
 refine go 4 ?_
 exact Xn hsc () Tryz.results278 rfl trivial Za
theorem Yd9(x y:Int):Cal Tryz.prog 247 #[.int .i64 x,.int .i64 y] [] false (G:=Unit) (fun _=>True) (fun _=> .bool (decide (x<y))) (fun _=>[]):=by
 refine Zd Tryz.func247 Tryz.ntmps247 fun w0 sc hw hsc=>?_
 refine go 8 ?_
 refine cl 0 [] (Yie _) fun _ _=>?_
 refine go 14 ?_
 exact Xn hsc () Tryz.results247 rfl trivial Za
theorem Zyv(x:Nat)(hx:x<U):Cal Tryz.prog 204 #[.int .u64 (x:Int)] [] false (G:=Unit) (fun _=>True) (fun _=> .int .i64 (bl x:Int)) (fun _=>[]):=by
 refine Zd Tryz.func204 Tryz.ntmps204 fun w0 sc hw hsc=>?_
 refine go 12 ?_
 refine cl 0 [] (Zrb _ hx) fun _ _=>?_
 refine go 4 ?_
 exact Xn hsc () Tryz.results204 rfl trivial Za
set_option maxHeartbeats 1000000 in
theorem sl_ins(b c:Nat)(xs:List Int)(r:List Value)(hl1:1≤xs.length)(hl:xs.length≤12):Zbh Tryz.prog 241 #[.slice (some ⟨b,0,none⟩) xs.length c,.int .i64 0,.int .i64 (xs.length:Int)] [] false b 3 (Ad xs r) (G:=List Int) (fun g=>Sam xs g∧Srt g g.length) (fun g=> .tuple #[]) (fun g=>Ad g r) (fun g=>[]):=by
 refine Gu Tryz.func241 rfl Tryz.ntmps241 rfl trivial ?_
 intro w0 sc hw hsc;have hw:=Hw.mk hw
 simp only [Pa,Xu]
 refine go 8 ⟨O,?_⟩
 refine lp (G:=Nat×List Int) [0,1,2] [0] (fun q=>[(6,.int .i64 (q.1:Int))]) (fun q=>[(1,box b 3 (Ad q.2 r))]) (fun q=>(1≤q.1)∧(q.1≤xs.length)∧(Sam xs q.2)∧(Srt q.2 q.1)) (fun q=>xs.length-q.1) (1,xs) ⟨O1,O1,Sam.rfl' xs,srt_1 xs⟩ ⟨rfl,trivial⟩ ⟨rfl,trivial⟩ ?_
 rintro⟨i,l⟩ ⟨hi1,hi2,hS,hs⟩
 dsimp only at hi1 hi2 hS hs
 dsimp only
 have hll:=hS.1
 refine go 8 ?_
 refine Zc rfl (fun h13=>?_) (fun h13=>?_)
 ·refine go 11 ?_
  refine lp (G:=Nat×List Int) [0,1,2,6] [0] (fun q=>[(7,.int .i64 (q.1:Int))]) (fun q=>[(1,box b 3 (Ad q.2 r))]) (fun q=>(q.1≤i)∧(Sam xs q.2)∧(Ye7 q.2 i q.1)) (fun q=>q.1) (i,l) ⟨Nat.le_refl _,hS,srtx_0 hs⟩ ⟨rfl,trivial⟩ ⟨rfl,trivial⟩ ?_
  rintro⟨j,m⟩ ⟨hj,hS2,hx⟩
  dsimp only at hj hS2 hx
  dsimp only
  have hml:=hS2.1
  refine go 2 ?_
  rcases Yhe j with hc1 | hc1
  ·refine Qe (fun _=>False) [(0,0),(1,0),(2,0),(3,0),(4,2),(5,2),(6,2),(7,2),(8,2),(9,2),(10,2),(11,2),(12,2),(13,2),(14,0)] ?_
   refine go 2 ?_
   refine Qc rfl rfl (Qy (Zw (r':= .bool false) (Zga rfl rfl rfl) (congrArg Value.bool (decide_eq_false O)))) ?_
   refine go 26 ⟨O,?_⟩
   exact Xf (i+1,m) ⟨O1,O1,hS2,Zzt hx hj (.inl hc1)⟩ O1 ⟨rfl,trivial⟩ ⟨rfl,trivial⟩
  ·refine Qe (fun _=>False) [(0,0),(1,0),(2,0),(3,0),(4,0),(5,0),(6,0),(7,0),(8,0),(9,0),(10,0),(11,0),(12,0),(13,1),(14,0)] ?_
   refine go 2 ?_
   refine Qc rfl rfl (Qy (Zw (r':= .bool true) (Zga rfl rfl rfl) (congrArg Value.bool (decide_eq_true O)))) ?_
   refine go 3 ?_
   refine r0g (Qy (Zw (r':= .pointer (some ⟨b,j,none⟩)) (Cr (i:=j) rfl rfl rfl Tryz.underlying33 Tryz.sizeOf3 O O) (by rw [Nat.zero_add]))) rfl rfl rfl rfl rfl ?_
   refine r0g (Qy (Zw (r':= .int .i64 (m.getD j 0)) (Za6 (i:=1) rfl rfl rfl Tryz.isAgg3 O) (congrArg (fun q=>Value.int .i64 (m.getD q 0)) O))) rfl rfl rfl rfl rfl ?_
   refine go 3 ⟨O,?_⟩
   refine r0g (Qy (Zw (r':= .pointer (some ⟨b,j-1,none⟩)) (Cr (i:=(j-1)) rfl rfl rfl Tryz.underlying33 Tryz.sizeOf3 O O) (by rw [Nat.zero_add]))) rfl rfl rfl rfl rfl ?_
   refine r0g (Qy (Zw (r':= .int .i64 (m.getD (j-1) 0)) (Za6 (i:=1) rfl rfl rfl Tryz.isAgg3 O) (congrArg (fun q=>Value.int .i64 (m.getD q 0)) O))) rfl rfl rfl rfl rfl ?_
   refine Zpc rfl rfl rfl rfl rfl (Ov (n:=1) (Yd9 _ _) rfl rfl rfl ⟨rfl,rfl,trivial⟩ Tryz.call247 Ya rfl hw.h) (fun _ _=>?_)
   refine go 3 ?_
   refine Zc rfl (fun h14=>?_) (fun h14=>?_)
   ·have hlt:=h14
    refine go 4 ?_
    refine Ln [] [17] ?_
    refine Zh (n:=6) [(0,0),(1,0),(2,0),(3,0),(4,0),(5,0),(6,0),(7,0),(8,0),(10,0),(11,0),(12,0)] ?_
    refine go 8 ⟨O,O,?_⟩
    refine Qc rfl rfl (stf (Zw (r':= .pointer (some ⟨b,j-1,none⟩)) (Cr (i:=(j-1)) rfl rfl rfl Tryz.underlying33 Tryz.sizeOf3 O O) (by rw [Nat.zero_add])) trivial) ?_
    refine go 2 ?_
    refine Qc rfl rfl (stf (Zw (r':= .pointer (some ⟨b,j,none⟩)) (Cr (i:=j) rfl rfl rfl Tryz.underlying33 Tryz.sizeOf3 O O) (by rw [Nat.zero_add])) trivial) ?_
    refine go 1 ?_
    refine Qp (n:=5) 9 13 ?_ ?_
    ·refine Cw rfl (Zcc (Zw (r':= .int .i64 (m.getD (j-1) 0)) (Za6 (i:=1) rfl rfl rfl Tryz.isAgg3 O) (congrArg (fun q=>Value.int .i64 (m.getD q 0)) O)) rfl rfl) (fun _ _=>?_)
     refine Zh (n:=0) [(13,1),(14,0),(15,1),(16,0),(17,3)] ?_
     refine Ev rfl (Zcc (Zw (r':= .int .i64 (m.getD j 0)) (Za6 (i:=1) rfl rfl rfl Tryz.isAgg3 O) (congrArg (fun q=>Value.int .i64 (m.getD q 0)) O)) rfl rfl) (fun _ _=>?_)
     refine Qc rfl rfl (stf (Zw (r':= .pointer (some ⟨b,j,none⟩)) (Cr (i:=j) rfl rfl rfl Tryz.underlying33 Tryz.sizeOf3 O O) (by rw [Nat.zero_add])) trivial) ?_
     refine Ev rfl (Zok (i:=1) rfl rfl rfl rfl rfl O3 Tryz.sizeOf3 O rfl hw.h (fun _ h=>nomatch h)) (fun _ _=>?_)
     refine Qc rfl rfl (stf (Zw (r':= .pointer (some ⟨b,j-1,none⟩)) (Cr (i:=(j-1)) rfl rfl rfl Tryz.underlying33 Tryz.sizeOf3 O O) (by rw [Nat.zero_add])) trivial) ?_
     refine r3' rfl (Zok (i:=1) rfl rfl rfl rfl rfl O3 Tryz.sizeOf3 (by rw [List.length_set];omega) rfl hw.h trivial) (fun _ _=>?_)
     refine go 1 ?_
     refine Zs ?_
     refine go 7 ⟨O,?_⟩
     exact Xf (j-1,swp m j) ⟨O1,hS2.trans (Zuj O O),Zoq hx O hc1 hj hlt⟩ O1 ⟨(congrArg (fun q:Int=>some (Value.int .i64 q)) (show(j:Int)-1=((j-1:Nat):Int) by omega)),trivial⟩ ⟨rfl,trivial⟩
    ·refine Cw rfl (Zcc (Zw (r':= .int .i64 (m.getD j 0)) (Za6 (i:=1) rfl rfl rfl Tryz.isAgg3 O) (congrArg (fun q=>Value.int .i64 (m.getD q 0)) O)) rfl rfl) (fun _ _=>?_)
     refine Zh (n:=0) [(9,1),(14,0),(15,1),(16,0),(17,3)] ?_
     refine Ev rfl (Zcc (Zw (r':= .int .i64 (m.getD (j-1) 0)) (Za6 (i:=1) rfl rfl rfl Tryz.isAgg3 O) (congrArg (fun q=>Value.int .i64 (m.getD q 0)) O)) rfl rfl) (fun _ _=>?_)
     refine Qc rfl rfl (stf (Zw (r':= .pointer (some ⟨b,j,none⟩)) (Cr (i:=j) rfl rfl rfl Tryz.underlying33 Tryz.sizeOf3 O O) (by rw [Nat.zero_add])) trivial) ?_
     refine Ev rfl (Zok (i:=1) rfl rfl rfl rfl rfl O3 Tryz.sizeOf3 O rfl hw.h (fun _ h=>nomatch h)) (fun _ _=>?_)
     refine Qc rfl rfl (stf (Zw (r':= .pointer (some ⟨b,j-1,none⟩)) (Cr (i:=(j-1)) rfl rfl rfl Tryz.underlying33 Tryz.sizeOf3 O O) (by rw [Nat.zero_add])) trivial) ?_
     refine r3' rfl (Zok (i:=1) rfl rfl rfl rfl rfl O3 Tryz.sizeOf3 (by rw [List.length_set];omega) rfl hw.h trivial) (fun _ _=>?_)
     refine go 1 ?_
     refine Zs ?_
     refine go 7 ⟨O,?_⟩
     exact Xf (j-1,swp m j) ⟨O1,hS2.trans (Zuj O O),Zoq hx O hc1 hj hlt⟩ O1 ⟨(congrArg (fun q:Int=>some (Value.int .i64 q)) (show(j:Int)-1=((j-1:Nat):Int) by omega)),trivial⟩ ⟨rfl,trivial⟩
   ·have hge:=h14
    refine go 11 ⟨O,?_⟩
    exact Xf (i+1,m) ⟨O1,O1,hS2,Zzt hx hj (.inr ⟨hc1,hge⟩)⟩ O1 ⟨rfl,trivial⟩ ⟨rfl,trivial⟩
 ·obtain rfl:i=xs.length:=O
  refine go 4 ?_
  exact Fc (.inr rfl) hsc l _ (fun a w hs=>res0 hs Tryz.results241) rfl ⟨hS,by rw [hll];exact hs⟩ 1 rfl rfl rfl rfl Za
set_option maxHeartbeats 1000000 in
theorem sl_pdq(b c:Nat)(xs:List Int)(r:List Value)(lim:Int)(hl1:1≤xs.length)(hl:xs.length≤12):Zbh Tryz.prog 203 #[.slice (some ⟨b,0,none⟩) xs.length c,.int .i64 0,.int .i64 (xs.length:Int),.int .i64 lim] [] false b 3 (Ad xs r) (G:=List Int) (fun g=>Sam xs g∧Srt g g.length) (fun g=> .tuple #[]) (fun g=>Ad g r) (fun g=>[]):=by
 refine Gu Tryz.func203 rfl Tryz.ntmps203 rfl trivial ?_
 intro w0 sc hw hsc;have hw:=Hw.mk hw
 simp only [Pa,Xu]
 refine go 11 ?_
 refine lp (G:=Nat) [0] [0,1] (fun k=>[(1,.int .i64 0),(2,.int .i64 (xs.length:Int))]) (fun k=>[]) (fun k=>True) (fun k=>k) 0 trivial ⟨rfl,rfl,trivial⟩ trivial ?_
 rintro k -
 refine go 13 ⟨O,?_⟩
 refine kt (decide_eq_true O) ?_
 refine go 8 ?_
 refine tt (Qa (n:=1) (i:=1) (sl_ins _ _ _ _ hl1 hl) rfl rfl rfl ⟨rfl,rfl,rfl,trivial⟩ Tryz.call241 rfl O3 Ya rfl hw.h trivial) (fun gs hgs=>?_)
 refine go 7 ?_
 exact Fc (.inl rfl) hsc gs _ (fun a w hs=>res0 hs Tryz.results203) rfl hgs 1 rfl rfl rfl rfl Za
set_option maxHeartbeats 1000000 in
theorem Yf3(b c:Nat)(xs:List Int)(r:List Value)(hl1:1≤xs.length)(hl:xs.length≤12):Zbh Tryz.prog 150 #[.slice (some ⟨b,0,none⟩) xs.length c] [] false b 3 (Ad xs r) (G:=List Int) (fun g=>Sam xs g∧Srt g g.length) (fun g=> .tuple #[]) (fun g=>Ad g r) (fun g=>[]):=by
 refine Gu Tryz.func150 rfl Tryz.ntmps150 rfl trivial ?_
 intro w0 sc hw hsc;have hw:=Hw.mk hw
 simp only [Pa,Xu]
 refine go 3 ?_
 refine dt (Znk rfl rfl Tryz.underlying33) ?_
 refine go 7 ?_
 refine dt (Zw (r':= .int .u64 (xs.length:Int)) (Zs8 rfl rfl Tryz.underlying3 Tryz.underlying230 (by simp only [U];omega)) rfl) ?_
 refine cl 1 [] (Zyv xs.length (by simp only [U];omega)) fun _ _=>?_
 refine tt (Qa (n:=1) (i:=1) (sl_pdq _ _ _ _ _ hl1 hl) rfl rfl rfl ⟨rfl,rfl,rfl,rfl,trivial⟩ Tryz.call203 rfl O3 Ya rfl hw.h trivial) (fun gs hgs=>?_)
 refine go 1 ?_
 exact Fc (.inr rfl) hsc gs _ (fun a w hs=>res0 hs Tryz.results150) rfl hgs 1 rfl rfl rfl rfl Za
set_option maxHeartbeats 1000000 in
theorem sl_cmp(b c:Nat)(xs:List Int)(r:List Value)(hl2:2≤xs.length)(hl:xs.length≤12)(hlc:xs.length≤c)(hsr:Srt xs xs.length):Zbh Tryz.prog 151 #[.slice (some ⟨b,0,none⟩) xs.length c] [] false b 3 (Ad xs r) (G:=List Int×List Value) (fun g=>Cmp xs g.1∧g.1.length+g.2.length=xs.length+r.length) (fun g=> .slice (some ⟨b,0,none⟩) g.1.length c) (fun g=>Ad g.1 g.2) (fun g=>[]):=by
 refine Gu Tryz.func151 rfl Tryz.ntmps151 rfl trivial ?_
 intro w0 sc hw hsc;have hw:=Hw.mk hw
 simp only [Pa,Xu]
 refine go 9 ?_
 refine dt (Znk rfl rfl Tryz.underlying33) ?_
 refine kf (decide_eq_false O) ?_
 refine go 12 ?_
 refine lp (G:=Nat) [0] [0,1] (fun k=>[(3,.int .i64 (k:Int))]) (fun k=>[]) (fun k=>(1≤k)∧(k≤xs.length)∧(∀q,1≤q→q<k→xs.getD q 0≠xs.getD (q-1) 0)) (fun k=>xs.length-k) 1 ⟨O1,O1,fun q h1 h2=>absurd h2 O⟩ ⟨rfl,trivial⟩ trivial ?_
 rintro k ⟨hk1,hk2,hd⟩
 refine go 5 ?_
 refine dt (Znk rfl rfl Tryz.underlying33) ?_
 refine go 3 ?_
 refine Zc rfl (fun h375=>?_) (fun h375=>?_)
 ·refine go 5 ?_
  refine Qe (fun _=>False) [(0,0),(1,0),(2,0),(3,0),(4,0),(5,0),(6,0),(7,0),(8,0),(9,0)] ?_
  refine go 2 ?_
  refine Qc rfl rfl (Qy (Zw (r':= .pointer (some ⟨b,k,none⟩)) (Cr (i:=k) rfl rfl rfl Tryz.underlying33 Tryz.sizeOf3 O O) (by rw [Nat.zero_add]))) ?_
  refine Qc rfl rfl (Qy (Zw (r':= .int .i64 (xs.getD k 0)) (Za6 (i:=1) rfl rfl rfl Tryz.isAgg3 O) (congrArg (fun q=>Value.int .i64 (xs.getD q 0)) O))) ?_
  refine go 3 ⟨O,?_⟩
  refine Qc rfl rfl (Qy (Zw (r':= .pointer (some ⟨b,k-1,none⟩)) (Cr (i:=(k-1)) rfl rfl rfl Tryz.underlying33 Tryz.sizeOf3 O O) (by rw [Nat.zero_add]))) ?_
  refine Qc rfl rfl (Qy (Zw (r':= .int .i64 (xs.getD (k-1) 0)) (Za6 (i:=1) rfl rfl rfl Tryz.isAgg3 O) (congrArg (fun q=>Value.int .i64 (xs.getD q 0)) O))) ?_
  refine go 3 ?_
  refine Zc rfl (fun h376=>?_) (fun h376=>?_)
  ·have he:=h376
   refine go 4 ?_
   refine dt (Zw (r':= .slice (some ⟨b,k,none⟩) (xs.length-k) (c-k)) (Ydr (i:=k) rfl rfl rfl Tryz.underlying33 Tryz.sizeOf3 rfl O O) (by rw [Nat.zero_add])) ?_
   refine go 10 ?_
   refine lp (G:=Nat×Nat×List Int) [0,4] [0] (fun q=>[(5,.int .i64 (q.1:Int)),(3,.int .i64 (q.2.1:Int))]) (fun q=>[(1,box b 3 (Ad q.2.2 r))]) (fun q=>(1≤q.1)∧(Cml xs q.2.2 (k+q.1) q.2.1)) (fun q=>xs.length-k-q.1) (1,k,xs) ⟨O1,cml_0 hsr hd hk1 O he⟩ ⟨rfl,rfl,trivial⟩ ⟨rfl,trivial⟩ ?_
   rintro⟨j,kk,l⟩ ⟨hj1,hC⟩
   dsimp only at hj1 hC
   dsimp only
   have hll:=hC.ll
   have hk3:=hC.k1
   have hk4:=hC.km
   have hk5:=hC.ml
   refine go 5 ?_
   refine dt (Znk rfl rfl Tryz.underlying33) ?_
   refine go 3 ?_
   refine Zc rfl (fun h378=>?_) (fun h378=>?_)
   ·refine go 5 ?_
    refine Qe (fun _=>False) [(0,0),(1,0),(2,0),(3,0),(4,0),(5,0),(6,0),(7,0),(8,0),(9,0)] ?_
    refine go 2 ?_
    refine Qc rfl rfl (Qy (Cr (i:=j) rfl rfl rfl Tryz.underlying33 Tryz.sizeOf3 O O)) ?_
    refine Qc rfl rfl (Qy (Zw (r':= .int .i64 (l.getD (k+j) 0)) (Za6 (i:=1) rfl rfl rfl Tryz.isAgg3 O) (congrArg (fun q=>Value.int .i64 (l.getD q 0)) O))) ?_
    refine go 3 ⟨O,?_⟩
    refine Qc rfl rfl (Qy (Cr (i:=(j-1)) rfl rfl rfl Tryz.underlying33 Tryz.sizeOf3 O O)) ?_
    refine Qc rfl rfl (Qy (Zw (r':= .int .i64 (l.getD (k+j-1) 0)) (Za6 (i:=1) rfl rfl rfl Tryz.isAgg3 O) (congrArg (fun q=>Value.int .i64 (l.getD q 0)) O))) ?_
    refine go 3 ?_
    refine Zc rfl (fun h379=>?_) (fun h379=>?_)
    ·have hnq:=h379
     refine go 6 ?_
     refine dt (Cr (i:=j) rfl rfl rfl Tryz.underlying33 Tryz.sizeOf3 O O) ?_
     refine dt (Zw (r':= .int .i64 (l.getD (k+j) 0)) (Za6 (i:=1) rfl rfl rfl Tryz.isAgg3 O) (congrArg (fun q=>Value.int .i64 (l.getD q 0)) O)) ?_
     refine dt (Zw (r':= .pointer (some ⟨b,kk,none⟩)) (Cr (i:=kk) rfl rfl rfl Tryz.underlying33 Tryz.sizeOf3 rfl O) (by rw [Nat.zero_add])) ?_
     refine tt (Zok (i:=1) rfl rfl rfl rfl rfl O3 Tryz.sizeOf3 O rfl hw.h trivial) (fun _ _=>?_)
     refine go 14 ⟨O,O,?_⟩
     exact Xf (j+1,kk+1,l.set kk (l.getD (k+j) 0)) ⟨O1,cml_ne (m:=k+j) hsr hC O hnq⟩ O1 ⟨rfl,rfl,trivial⟩ ⟨rfl,trivial⟩
    ·have hnq:=h379
     refine go 8 ⟨O,?_⟩
     exact Xf (j+1,kk,l) ⟨O1,cml_eq (m:=k+j) hC O (Decidable.not_not.1 hnq)⟩ O1 ⟨rfl,rfl,trivial⟩ ⟨rfl,trivial⟩
   ·obtain hkj:k+j=xs.length:=O
    rw [hkj]at hC
    refine go 9 ?_
    refine dt (Zw (r':= .slice (some ⟨b,kk,none⟩) (xs.length-kk) (c-kk)) (Ydr (i:=kk) rfl rfl rfl Tryz.underlying33 Tryz.sizeOf3 rfl O O) (by rw [Nat.zero_add])) ?_
    refine tt (t_clw (i:=1) rfl rfl rfl rfl O3 O O Tryz.underlying33 Tryz.sizeOf3 (fun w=>Tryz.zeroValue3 w) rfl hw.h trivial) (fun _ _=>?_)
    refine go 6 ?_
    refine dt (d_prew (i:=kk) rfl rfl rfl Tryz.underlying33 Tryz.sizeOf3 rfl O O) ?_
    refine go 9 ?_
    exact Fc (.inl rfl) hsc (l.take kk,List.replicate (xs.length-kk) (.int .i64 0) ++ r) _ (fun a w hs=>Zb6 hs Tryz.results151 rfl) (by rw [List.length_take,Nat.min_eq_left O]) ⟨cml_e hC,O8⟩ 1 rfl rfl rfl rfl Za
  ·have hne:=h376
   refine go 8 ⟨O,?_⟩
   exact Xf (k+1) ⟨O1,O1,hd_s hd hne⟩ O1 ⟨rfl,trivial⟩ trivial
 ·refine go 12 ?_
  exact Fc (.inl rfl) hsc (xs,r) _ (fun a w hs=>Zb6 hs Tryz.results151 rfl) rfl ⟨Yif hsr (fun q h1 h2=>hd q h1 O),rfl⟩ 1 rfl rfl rfl rfl Za
theorem pPa:Enc Tryz.prog 38 1 Xb:=Enc.flat Tryz.sizeOf38 Tryz.isAgg38 (fun _=>rfl)
theorem pGp:Enc Tryz.prog 130 3 Zi5:=Enc.agg O3 Tryz.sizeOf130 Tryz.isAgg130 (fun x=>⟨[.int .i64 x.1.1,.int .i64 x.1.2,Xb x.2.1],rfl,rfl,O10⟩)
@[reducible,instance] def encPaI:EncT Tryz.prog 38 1 Xb:=⟨pPa⟩
@[reducible,instance] def encGpI:EncT Tryz.prog 130 3 Zi5:=⟨pGp⟩
theorem ti_a3:Tryz.prog.info? 190=some Tryz.t190:=O6
theorem ti_ax:Tryz.prog.info? 189=some Tryz.t189:=O6
theorem Yev{a0 a1 a2 b0 b1 b2 c0 c1 c2:Value} : Tryz.prog.built 190 [(0,.agg #[a0,a1,a2]),(1,.agg #[b0,b1,b2]),(2,.agg #[c0,c1,c2])]=some #[a0,a1,a2,b0,b1,b2,c0,c1,c2]:=by
 refine Zb5 _ ti_a3 Tryz.underlying190 rfl ti_ax ?_
 rw [show Tryz.t189.size=3 from rfl]
 exact fill33 _ _ _ _ _ _ _ _ _ _ _ _ _ _ _ _ _ _
theorem Zxf(va vb:Value)(pa pb:List Zv)(hpa:∀g∈pa,Gin g)(hpb:∀g∈pb,Gin g)(hba:Nr pa=true)(hbb:Nr pb=true)(hla:pa.length≤5)(hlb:pb.length≤5):Cal Tryz.prog 83 #[va,vb] [Pz 6 Mo qG va pa,Pz 6 Mo qG vb pb] true (G:=(Value×List Zv)×(Value×List Zv)) (fun g=>g.1.2.map unS=Ii pa pb pa∧g.2.2.map unS=Ii pa pb pb) (fun g=> .tuple #[g.1.1,g.2.1,.int .i64 (Bv pa pb)]) (fun g=>[Pz 6 Mo qG g.1.1 g.1.2,Pz 6 Mo qG g.2.1 g.2.2]):=by
 refine Zd Tryz.func83 Tryz.ntmps83 fun w0 sc hw hsc=>?_
 refine Znh (Px 1 rfl Zn) (fun sa hsa=>?_)
 subst hsa
 refine Znh (Px 2 rfl Zn) (fun sb hsb=>?_)
 subst hsb
 obtain⟨-,hla1,hla2⟩:=Dj hba
 obtain⟨-,hlb1,hlb2⟩:=Dj hbb
 have hsga:=Zuy hpa hba
 have hsgb:=Zuy hpb hbb
 have hbl:=Zve pa pb
 have hl2:([sa,sb]:List SL).length=2:=rfl
 refine go 11 ?_
 refine cl 2 [1] (Zdp _ _ hpa) fun _ _=>?_
 refine dt (Zw (r':= .bool false) (Qf rfl rfl) (congrArg (fun b=>Value.bool (!b)) hba)) ?_
 refine go 2 ?_
 refine Gy 2 [2] (Zdp _ _ hpb) fun _ _=>?_
 refine Ej (Zw (r':= .bool false) (Qf rfl rfl) (congrArg (fun b=>Value.bool (!b)) hbb)) rfl rfl ?_
 refine go 7 ?_
 refine Qe (fun _=>False) [(0,0),(1,0),(2,0),(3,0),(4,0),(5,0),(6,0),(7,0),(8,0),(9,0),(10,0),(11,0),(12,0),(13,0),(14,0),(15,0),(16,0),(17,0),(18,0),(19,0),(20,0),(21,0),(22,0),(23,0),(24,0),(25,3)] ?_
 refine go 2 ⟨O,?_⟩
 refine Qc rfl rfl (Qy (Zep (ii:=1) rfl rfl rfl Zn Tryz.underlying35 rfl Tryz.sizeOf3 rfl)) ?_
 refine Qc rfl rfl (Qy (Zeo (ii:=1) G0 rfl rfl rfl Zn Tryz.isAgg3 rfl)) ?_
 refine go 2 ⟨O,?_⟩
 refine Qc rfl rfl (Qy (Zep (ii:=2) rfl rfl rfl Zn Tryz.underlying35 rfl Tryz.sizeOf3 rfl)) ?_
 refine Qc rfl rfl (Qy (Zeo (ii:=2) G0 rfl rfl rfl Zn Tryz.isAgg3 rfl)) ?_
 refine Qc rfl rfl (Qy (Zw (r':= .int .i64 (cmF pa pb)) (Zf8 rfl rfl rfl) rfl)) ?_
 refine go 4 ⟨O,?_⟩
 refine Qc rfl rfl (Qy (Yn (ii:=1) (i:=(pa.length-1)) rfl rfl rfl rfl Zn Tryz.underlying38 Tryz.sizeOf35)) ?_
 refine Qc rfl rfl (Qy (Zep (ii:=1) rfl rfl rfl Zn Tryz.underlying35 rfl Tryz.sizeOf3 rfl)) ?_
 refine Qc rfl rfl (Qy (Zeo (ii:=1) G0 rfl rfl rfl Zn Tryz.isAgg3 rfl)) ?_
 refine go 4 ⟨O,?_⟩
 refine Qc rfl rfl (Qy (Yn (ii:=2) (i:=(pb.length-1)) rfl rfl rfl rfl Zn Tryz.underlying38 Tryz.sizeOf35)) ?_
 refine Qc rfl rfl (Qy (Zep (ii:=2) rfl rfl rfl Zn Tryz.underlying35 rfl Tryz.sizeOf3 rfl)) ?_
 refine Qc rfl rfl (Qy (Zeo (ii:=2) G0 rfl rfl rfl Zn Tryz.isAgg3 rfl)) ?_
 refine Qc rfl rfl (Qy (Zw (r':= .int .i64 (cmL pa pb)) (d_min rfl rfl rfl) rfl)) ?_
 refine go 12 ?_
 refine Zc rfl (fun h320=>?_) (fun h320=>?_)
 ·have hge:cmF pa pb≥cmL pa pb:=h320
  refine go 9 ?_
  refine Yg (Zdt 72 6 Mo qG) ?_
  exact xe3 hsc ((.slice none 0 0,[]),(.slice none 0 0,[])) Tryz.results83 (by rw [(Yd5 hge pa).1]) ⟨(Yd5 hge pa).2.symm,(Yd5 hge pb).2.symm⟩ (Ot 72 (Ot 72 Za))
 ·have hge:¬cmF pa pb≥cmL pa pb:=h320
  have hB:=bks (a:=pa) (b:=pb) O
  have hB2:=hB.two
  refine go 6 ?_
  refine tt (Qh (i:=60) (ivs:=[(0,_),(1,_)]) (enc:=Zx) ([cmF pa pb,cmL pa pb]:List Int) rfl rfl ⟨rfl,rfl,rfl,rfl,trivial⟩ Tryz.underlying33 Tryz.ti3 rfl rfl rfl rfl rfl pZ.cells rfl rfl hw.h) (fun v _=>?_)
  refine go 8 ?_
  refine tt (Qh (i:=61) (ivs:=[(0,_),(1,_)]) (enc:=Xb) ([sa,sb]:List SL) rfl rfl ⟨rfl,rfl,rfl,rfl,trivial⟩ Tryz.underlying61 Tryz.ti38 rfl rfl rfl rfl rfl pPa.cells rfl rfl hw.h) (fun v_2 _=>?_)
  refine go 5 ?_
  refine lp (G:=Nat×Value) [0,1,4,5,7,8,59,60] [0,1,2,61] (fun q=>[(61,.int .i64 (q.1:Int)),(9,q.2)]) (fun q=>[(60,Oa 1 3 Zx q.2 (Zdl pa pb q.1))]) (fun q=>q.1≤2) (fun q=>2-q.1) (0,_) O1 ⟨rfl,rfl,trivial⟩ ⟨rfl,trivial⟩ ?_
  rintro⟨i,vt⟩ hi
  dsimp only at hi
  dsimp only
  refine go 6 ?_
  refine Zc rfl (fun h324=>?_) (fun h324=>?_)
  ·refine go 5 ?_
   refine Zf (Ygb (sd:=(none,0,0)) i 1 2 50 rfl rfl rfl rfl O) ?_
   refine go 1 ?_
   refine dt (Yn (ii:=61) (i:=i) rfl rfl rfl rfl (Ys pPa) Tryz.underlying61 Tryz.sizeOf38 rfl O8) ?_
   refine dt (Oi (ii:=61) (none,0,0) rfl rfl rfl (Ys pPa) pPa O8) ?_
   refine go 11 ?_
   refine lp (G:=Nat×Value) [0,1,4,5,7,8,59,60,61,65,66] [0,1,2,61,50] (fun q=>[(67,.int .i64 (q.1:Int)),(9,q.2)]) (fun q=>[(60,Oa 1 3 Zx q.2 (tik pa pb i q.1))]) (fun q=>q.1≤(Gz i pa pb).length) (fun q=>(Gz i pa pb).length-q.1) (0,_) O1 ⟨rfl,rfl,trivial⟩ ⟨by rw [tik_0];rfl,trivial⟩ ?_
   rintro⟨k,vu⟩ hk
   dsimp only at hk
   dsimp only
   have hln:=Yg9 pa pb i k
   have hsl:=Zp5 pa pb i
   refine go 6 ?_
   refine Zc rfl (fun h325=>?_) (fun h325=>?_)
   ·refine go 5 ?_
    refine Zf (Nx (g:=((Gz i pa pb).getD k G0)) (z:=((Gz i pa pb).getD k G0).2.1) 50 51 rfl rfl (Zj) O7) ?_
    refine Zf (Nx (g:=((Gz i pa pb).getD k G0)) (z:=((Gz i pa pb).getD k G0).2.2.1) 50 52 rfl rfl (Zj) O7) ?_
    refine Zf (Nx (g:=((Gz i pa pb).getD k G0)) (z:=((Gz i pa pb).getD k G0).2.2.2) 50 53 rfl rfl (Zj) O7) ?_
    refine go 2 ⟨O2,?_⟩
    refine dt (Oi (ii:=50) G0 rfl rfl rfl Zn pG O2) ?_
    refine Yk (Zz 3) fun bx _=>?_
    refine go 10 ?_
    refine Yt (d:=75) rfl (fun s326=>?_) (fun s326=>?_)
    ·refine go 7 ?_
     refine Zc rfl (fun h326=>?_) (fun h326=>?_)
     ·refine go 4 ?_
      refine tt (Qh (i:=4) (ivs:=[(0,_)]) (enc:=Zx) ([((Gz i pa pb).getD k G0).1.1]:List Int) rfl rfl ⟨rfl,rfl,trivial⟩ Tryz.underlying33 Tryz.ti3 rfl rfl rfl rfl rfl pZ.cells rfl rfl hw.h) (fun v_3 _=>?_)
      refine tt (Nz (i:=60) (j:=4) (by_:=8) rfl rfl rfl rfl rfl rfl O3 rfl (Ys pZ) Tryz.underlying33 Tryz.ti3 rfl pZ rfl rfl rfl O8 O3 rfl hw.h) (fun v_4 _=>?_)
      refine go 8 ⟨O,?_⟩
      exact Xf (k+1,_) O1 O1 ⟨rfl,rfl,trivial⟩ ⟨by rw [tik_t O O O];rfl,trivial⟩
     ·refine go 7 ⟨O,?_⟩
      exact Xf (k+1,_) O1 O1 ⟨rfl,rfl,trivial⟩ ⟨by rw [tik_f O O];rfl,trivial⟩
    ·refine go 15 ⟨O,?_⟩
     exact Xf (k+1,_) O1 O1 ⟨rfl,rfl,trivial⟩ ⟨by rw [tik_f O O];rfl,trivial⟩
   ·obtain rfl:k=(Gz i pa pb).length:=O
    refine go 10 ⟨O,?_⟩
    exact Xf (i+1,_) O1 O1 ⟨rfl,rfl,trivial⟩ ⟨by rw [←tik_e O];rfl,trivial⟩
  ·obtain rfl:i=2:=O
   refine go 6 ?_
   refine e_obox 60 rfl rfl (tms_ne pa pb 2) rfl hw.h (fun bq cq rq hv hr1 hr2=>?_)
   subst hv
   have h2t:=tms_2 pa pb 2
   have hlt:=Zmv pa pb 2
   refine go 2 ?_
   refine tt (Qa (n:=4) (i:=60) (Yf3 _ _ _ _ O O) rfl rfl rfl ⟨rfl,trivial⟩ Tryz.call150 rfl O3 Ya rfl hw.h trivial) (fun gs hgs=>?_)
   have hsl:=hgs.1.1
   rw [←hsl]
   refine go 5 ?_
   refine tt (Qa (n:=4) (i:=60) (sl_cmp _ _ _ _ O O O hgs.2) rfl rfl rfl ⟨rfl,trivial⟩ Tryz.call151 rfl O3 Ya rfl hw.h trivial) (fun gc hgc=>?_)
   refine go 5 ?_
   obtain⟨gz,gr⟩:=gc
   have hzl:gz.length+gr.length=gs.length+rq.length:=hgc.2
   obtain rfl:gz=Lc pa pb:=Yd8 hgs.1 hgc.1
   refine Zf (Yga (xs:=Lc pa pb) (r:=gr) (c:=cq) 60 rfl rfl O hr2 rfl hw.h) ?_
   refine go 5 ?_
   refine Zf (Pm 74 6 35 Mo) ?_
   refine Zf (Pm 75 6 35 Mo) ?_
   refine Zf (Yw qG 76) ?_
   refine Zf (Yw qG 77) ?_
   refine lp (G:=Nat×Value×List Zv×Value×List Zv) [0,1,9] [0,60,1,2] (fun q=>[(14,.int .i64 ((q.1+1:Nat):Int)),(4,q.2.1),(5,q.2.2.2.1)]) (fun q=>[(74,Oa 6 35 Mo q.2.1 q.2.2.1),(75,Oa 6 35 Mo q.2.2.2.1 q.2.2.2.2),(76,Ia qG q.2.2.1),(77,Ia qG q.2.2.2.2)]) (fun q=>(q.1+1≤(Lc pa pb).length)∧(Eo (Lc pa pb) pa pb q.1=true)∧(q.2.2.1.map unS=Zgi (Lc pa pb) pa q.1)∧(q.2.2.2.2.map unS=Zgi (Lc pa pb) pb q.1)∧(q.2.2.1.length=q.1)∧(q.2.2.2.2.length=q.1)) (fun q=>(Lc pa pb).length-q.1) (0,.slice none 0 0,[],.slice none 0 0,[]) ⟨O,rfl,rfl,rfl,rfl,rfl⟩ ⟨rfl,rfl,rfl,trivial⟩ ⟨rfl,rfl,rfl,rfl,trivial⟩ ?_
   rintro⟨n,v4,z4,v5,z5⟩ ⟨hn,hkk,hz4,hz5,hl4,hl5⟩
   dsimp only at hn hkk hz4 hz5 hl4 hl5
   dsimp only
   refine go 9 ?_
   refine Zc rfl (fun h333=>?_) (fun h333=>?_)
   ·refine go 5 ?_
    refine Qe (fun _=>False) [(0,0),(1,0),(2,0),(3,0),(4,0),(5,0),(6,0),(7,0),(8,0),(9,0),(10,1),(11,0),(12,0),(13,0),(14,0),(15,3)] ?_
    refine go 4 ⟨O,?_⟩
    refine Qc rfl rfl (Qy (Yn (ii:=60) (i:=n) rfl rfl rfl rfl (Ys pZ) Tryz.underlying33 Tryz.sizeOf3)) ?_
    refine go 3 ⟨O,?_⟩
    refine Qc rfl rfl (Qy (Yn (ii:=60) (i:=(n+1)) rfl rfl rfl rfl (Ys pZ) Tryz.underlying33 Tryz.sizeOf3 rfl)) ?_
    refine go 1 ⟨O,?_⟩
    refine Yz (Zg 84 [1] (Zz3 _ _ _ _ hsga (lh_M hpa hba) hla2)) fun g hg=>?_
    refine go 8 ?_
    refine Qe (fun _=>False) [(0,0),(1,0),(2,0),(3,0),(4,0),(5,0),(6,0),(7,0),(8,0),(9,0),(10,1),(11,0),(12,0),(13,0),(14,0),(15,3)] ?_
    refine go 4 ⟨O,?_⟩
    refine Qc rfl rfl (Qy (Yn (ii:=60) (i:=n) rfl rfl rfl rfl (Ys pZ) Tryz.underlying33 Tryz.sizeOf3)) ?_
    refine go 3 ⟨O,?_⟩
    refine Qc rfl rfl (Qy (Yn (ii:=60) (i:=(n+1)) rfl rfl rfl rfl (Ys pZ) Tryz.underlying33 Tryz.sizeOf3 rfl)) ?_
    refine go 1 ⟨O,?_⟩
    refine Yz (Zg 86 [2] (Zz3 _ _ _ _ hsgb (lh_M hpb hbb) hlb2)) fun g_2 hg_2=>?_
    refine go 9 ?_
    rcases Zw6 (Py ((Lc pa pb).getD n 0) ((Lc pa pb).getD (n+1) 0) pa) (Py ((Lc pa pb).getD n 0) ((Lc pa pb).getD (n+1) 0) pb)with hc1 | ⟨hc1,hc2⟩ | ⟨hc1,hc2⟩
    ·refine go 2 ?_
     refine kt (decide_eq_true (by rw [Yd2 hc1];decide)) ?_
     refine go 21 ?_
     refine Yg (Zdt 72 6 Mo qG) ?_
     exact xe3 hsc ((.slice none 0 0,[]),(.slice none 0 0,[])) Tryz.results83 (by rw [(Zlb hge O (Ztv hc1) pa).1]) ⟨(Zlb hge O (Ztv hc1) pa).2.symm,(Zlb hge O (Ztv hc1) pb).2.symm⟩ (Ot 72 (Ot 72 Za))
    ·refine go 2 ?_
     refine kf (decide_eq_false (by rw [Zs9 hc1];decide)) ?_
     refine go 2 ?_
     refine ktg (decide_eq_true (by rw [Yd2 hc2];decide)) ?_
     refine go 18 ?_
     refine Yg (Zdt 72 6 Mo qG) ?_
     exact xe3 hsc ((.slice none 0 0,[]),(.slice none 0 0,[])) Tryz.results83 (by rw [(Zlb hge O (Ztu hc2) pa).1]) ⟨(Zlb hge O (Ztu hc2) pa).2.symm,(Zlb hge O (Ztu hc2) pb).2.symm⟩ (Ot 72 (Ot 72 Za))
    ·refine go 2 ?_
     refine kf (decide_eq_false (by rw [Zs9 hc1];decide)) ?_
     refine go 2 ?_
     refine kfg (decide_eq_false (by rw [Zs9 hc2];decide)) ?_
     refine go 6 ?_
     have hu1:=com_ua hpa hba hB O hc1 hg
     have hu2:=com_ub hpb hbb hB O hc2 hg_2
     refine go 3 ?_
     refine tt (Nz (i:=74) (j:=84) (by_:=96) rfl rfl rfl rfl rfl rfl O3 rfl Zn Tryz.underlying38 Tryz.ti35 rfl pG rfl rfl rfl (by rw [hu1];omega) O3 rfl hw.h) (fun v_5 _=>?_)
     refine go 2 ?_
     refine tt (Nz (i:=75) (j:=86) (by_:=96) rfl rfl rfl rfl rfl rfl O3 rfl Zn Tryz.underlying38 Tryz.ti35 rfl pG rfl rfl rfl (by rw [hu2];omega) O3 rfl hw.h) (fun v_6 _=>?_)
     refine Yp (Zhy 84 85 rfl rfl) ?_
     refine Yp (Zhx 76 85 76 rfl rfl rfl rfl) ?_
     refine Yp (Zhy 86 87 rfl rfl) ?_
     refine Yp (Zhx 77 87 77 rfl rfl rfl rfl) ?_
     refine go 10 ⟨O,?_⟩
     exact Xf (n+1,_,z4 ++ g.2,_,z5 ++ g_2.2) ⟨O1,com_k hkk hc1 hc2,com_z hz4 hg,com_z hz5 hg_2,by rw [List.length_append,hl4,hu1],by rw [List.length_append,hl5,hu2]⟩ O1 ⟨rfl,rfl,rfl,trivial⟩ ⟨rfl,rfl,rfl,rfl,trivial⟩
   ·have hne:n+1=(Lc pa pb).length:=O
    refine go 10 ?_
    refine kf (decide_eq_false O) ?_
    refine go 15 ?_
    refine Yg (Qd 74 rfl rfl pG) ?_
    refine Yg (Pi 74 76 78 rfl rfl rfl rfl) ?_
    refine Yg (Qd 75 rfl rfl pG) ?_
    refine Yg (Pi 75 77 79 rfl rfl rfl rfl) ?_
    exact xe3 hsc ((v4,z4),(v5,z5)) Tryz.results83 (by rw [(Yd6 hge hne hkk).1]) ⟨hz4.trans ((Yd6 hge hne hkk).2 pa).symm,hz5.trans ((Yd6 hge hne hkk).2 pb).symm⟩ (Ot 78 (Ot 79 Za))
open Go.Proofs.Tryz
theorem Yfy(v:Value)(xs:List Int)(hv:Vp xs):Om prog 314 #[v] [Yh 2 wv v xs] (.bool (decide (Bh xs))):=by
 refine Zd func314 ntmps314 fun w0 sc hw hsc=>?_
 have hlen:=hv.len
 have hmz:=Pd hv.sz
 have q1:(xs.length+2)*(xs.length+2)≤27*27:=Nat.mul_le_mul O O
 have q2:(xs.length+2)*(xs.length+2)*(Qk xs+16)≤27*27*65552:=Nat.mul_le_mul q1 O
 have q3:((xs.length:Int)-1+3)*((xs.length:Int)-1+3)=(((xs.length+2)*(xs.length+2):Nat):Int):=by rw [show(xs.length:Int)-1+3=((xs.length+2:Nat):Int) by omega];push_cast;rfl
 have q4:((xs.length:Int)-1+3)*((xs.length:Int)-1+3)*((Qk xs:Int)+16)=(((xs.length+2)*(xs.length+2)*(Qk xs+16):Nat):Int):=by rw [q3];push_cast;rfl
 refine go 9 ?_
 refine cl 1 [1] (Xg _ _ ‹_›) fun _ _=>go 9 ?_
 refine cl 1 [1] (Zf4 _ _ hv) fun _ _=>go 10 ?_
 refine cl 1 [1] (Zkz _ _ hv) fun _ _=>go 13 ?_
 refine Yt (d:=23) J (fun s24=>?_) (fun s24=>?_)
 ·refine go 14 ?_
  exact Xn hsc () results314 (by first | exact sf_t O | exact sf_i O q4) trivial Za
 ·refine go 14 ⟨O,O,by rw [q3];exact⟨O,O⟩,O,by rw [q4];exact⟨O,O⟩,?_⟩
  exact Xn hsc () results314 (by first | exact sf_t O | exact sf_i O q4) trivial Za
theorem Zxc(v:Value)(xs:List Int)(hv:Vp xs):Om prog 306 #[v,.slice none 0 0] [Yh 2 wv v xs] (.int .i64 (Ztf xs)):=by
 refine Zd func306 ntmps306 fun w0 sc hw hsc=>?_
 refine Zf (Pm 999 2 80 wv)<|Zf (Qd 999 J J pV)<|go 8 ?_
 refine cl 1 [1] (Yfy _ _ hv) fun _ _=>go 13 ?_
 refine lp (G:=Unit) [0,1,13,14] [0,1,999] (fun _=>[(15,.int .i64 0),(5,.bool (decide (¬Bh xs)))]) (fun _=>[]) (fun _=>True) (fun _=>0) () trivial K2 trivial ?_
 rintro _ -
 refine go 2 ?_
 refine kf O3<|go 13 ?_
 refine cl 1 [1] (Xg _ _ ‹_›) fun _ _=>go 14 ?_
 refine Zc J (fun h39=>?_) (fun h39=>?_)
 ·refine go 7 ?_
  exact Xn hsc () results306 (by unfold Ztf;rw [if_pos O]) trivial Za
 ·refine go 7 ?_
  refine kf O3<|go 11 ?_
  refine Lb J (fun h47=>?_) (fun h47=>?_)
  ·refine go 7 ?_
   exact Xn hsc () results306 (by unfold Ztf;rw [if_neg O,if_neg (by simpa using h47)]) trivial Za
  ·refine go 8 ?_
   exact Xn hsc () results306 (by unfold Ztf;rw [if_neg O,if_pos (by simpa using h47)]) trivial Za
theorem Zop(v:Value)(xs:List Int)(hv:Vp xs)(h0:xs≠[]):Cal prog 307 #[v] [Yh 2 wv v xs] true (G:=Value) (fun r=>True) (fun r=> .tuple #[r,.int .i64 0]) (fun r=>[Yh 2 wv r (Yy xs)]):=by
 refine Zd func307 ntmps307 fun w0 sc hw hsc=>?_
 have hvp:=Kj hv
 have hl0:=List.length_pos_iff.2 h0
 have hlp:=Zr xs
 have hlen:=hv.len
 refine go 9 ?_
 refine cl 2 [1] (Nh _ _ hv) fun _ _=>go 11 ?_
 refine kt O3<|go 5 ⟨O,?_⟩
 refine Ej (Yn (ii:=2) (i:=((Zt xs).length-1)) J J J J Zk Nf Ki) J J<|go 1 ⟨O2,?_⟩
 refine Gy 2 [] (Km _ (hvp.sz _)) fun _ _=>go 4 ?_
 refine Zc J (fun h56=>?_) (fun h56=>?_)
 ·refine go 3 ?_
  refine cl 2 [] (Zo _ ⟨O3,O3⟩) fun _ _=>cl 3 [2] (Mm _ _ _ hvp O5 (fun i=>Zaa hvp.sz i)) fun _ _=>go 8 ?_
  exact Mi hsc _ results307 J trivial (Ot 3 Za (by rw [Zml O ((Pg _).1 ‹_›)]<;>rfl))
 ·refine go 11 ?_
  exact Mi hsc _ results307 J trivial (Ot 2 Za (by rw [Zmk (fun h=>by have h2:=(Pg _).2 h;exact absurd h2 ‹_›)]<;>rfl))
theorem st_sqf(v:Value)(xs:List Int)(hv:Vp xs)(h0:xs≠[])(hf:Bh xs)(F:Nat)(hS:Yf0 F xs):Cal prog 288 #[v] [Yh 2 wv v xs] true (G:=Value) (fun r=>True) (fun r=> .tuple #[r,.int .i64 0]) (fun r=>[Yh 2 wv r (sqf F xs)]):=by
 refine Zd func288 ntmps288 fun w0 sc hw hsc=>?_
 obtain⟨hS1,hS2,hS3,hS4,hS5⟩:=hS
 have hvn:=Zza hv
 have hln:=Qu hv.tr
 have hvd:Vp (Yx (Yy xs)):=Zde hvn (fun i hi=>hS1 i O)
 have hvg:=Yfi hvn hvd hS3
 have hc0:=Yin h0 hf
 refine Zf (Pm 999 2 80 wv)<|Zf (Qd 999 J J pV)<|go 10 ?_
 refine cl 1 [1] (Zxc _ _ hv) fun _ _=>go 9 ?_
 refine Zc J (fun h64=>?_) (fun h64=>?_)
 ·exfalso;omega
 ·refine go 5 ?_
  refine cl 2 [1] (Zop _ _ hv h0) fun _ _=>go 11 ?_
  refine kf O3<|go 8 ?_
  refine cl 3 [2] (Cj _ _ hvn (fun i=>by by_cases hi:i<xs.length;exact hS1 i hi;rw [Yl O];simp [Lo])) fun _ _=>go 11 ?_
  refine kf O3<|go 9 ?_
  refine cl 4 [2,3] (Zpk _ _ _ _ hvn hvd F hS2 hS3) fun _ _=>go 11 ?_
  refine kf O3<|go 9 ?_
  refine cl 5 [2,4] (Zar _ _ _ _ hvn hvg hS4) fun _ _=>go 7 ?_
  exact Mi hsc _ results288 (by rw [if_pos hS5]<;>rfl) trivial (Ot 5 Za (by rw [if_pos hS5]<;>rfl))
theorem Yfx(v u:Value)(xs ys:List Int)(hv:Vp xs)(hu:Vp ys)(h0:ys≠[])(hd:Dc xs ys=0)(hl:ys.length≤xs.length):Cal prog 289 #[v,u] [Yh 2 wv v xs,Yh 2 wv u ys] true (G:=Value) (fun r=>True) (fun r=> .tuple #[r,.int .i64 0]) (fun r=>[Yh 2 wv r (Oo xs ys)]):=by
 refine Zd func289 ntmps289 fun w0 sc hw hsc=>?_
 have hvr:=Zai hv hd
 have hvp:=Kj hvr
 have hlen:=hv.len
 have hlen2:=hu.len
 have hl0:=List.length_pos_iff.2 h0
 refine Zf (Pm 999 2 80 wv)<|Zf (Qd 999 J J pV)<|go 10 ?_
 refine cl 3 [1,2] (Zky _ _ _ _ hv hu hd) fun _ _=>go 11 ?_
 refine kf O3<|go 7 ?_
 refine Zc J (fun h85=>?_) (fun h85=>?_)
 ·refine go 9 ?_
  exact Mi hsc (.slice none 0 0) results289 J trivial (Ns (Zxd O) Za)
 ·refine go 5 ?_
  refine cl 4 [3] (Nh _ _ hvr) fun _ _=>go 11 ?_
  refine kf O3<|go 23 ⟨O,O,O,?_⟩
  refine dt (Yn (ii:=2) (i:=(ys.length-1)) J J J J Zk Nf Ki)<|go 1 ⟨O2,?_⟩
  refine cl 4 [] (Km _ (hu.sz _)) fun _ _=>go 2 ?_
  refine Yt (d:=45) J (fun s94=>?_) (fun s94=>?_)
  ·refine go 1 ?_
   refine Ej (Zi9 J J J) J J<|go 4 ?_
   refine Zc J (fun h94=>?_) (fun h94=>?_)
   ·refine go 9 ?_
    exact Mi hsc _ results289 J trivial (Ot 4 Za (by rw [Yf1 hl ‹_› ‹_›]<;>rfl))
   ·refine go 5 ?_
    refine cl 4 [] (Zo _ ⟨O3,O3⟩) fun _ _=>cl 5 [4] (Mm _ _ _ hvp O5 (fun i=>Zaa hvp.sz i)) fun _ _=>go 7 ?_
    exact Mi hsc _ results289 J trivial (Ot 5 Za (by first | (rw [Zt9 ‹_›]<;>rfl) | (rw [Zt8 hl ‹_›]<;>rfl)))
  ·refine go 12 ?_
   refine cl 5 [] (Zo _ ⟨O3,O3⟩) fun _ _=>cl 6 [4] (Mm _ _ _ hvp O5 (fun i=>Zaa hvp.sz i)) fun _ _=>go 7 ?_
   exact Mi hsc _ results289 J trivial (Ot 6 Za (by first | (rw [Zt9 ‹_›]<;>rfl) | (rw [Zt8 hl ‹_›]<;>rfl)))
theorem Zzr(v:Value)(xs:List Int)(hv:Vp xs)(h0:xs≠[])(hf:Bh xs)(F:Nat)(hC:Cd F xs):Cal prog 262 #[v] [Yh 2 wv v xs] true (G:=Value×List (SL×List Int)) (fun r=>r.2.map Prod.snd=chn F xs) (fun r=> .tuple #[r.1,.int .i64 0]) (fun r=>[Pz 1 Li qZ r.1 r.2]):=by
 refine Zd func262 ntmps262 fun w0 sc hw hsc=>?_
 obtain⟨hC1,hC2,hC3⟩:=hC
 have hvq:=Zrn hv h0 hC1
 have hlq:=Zio hv hC1
 have hvqd:Vp (Yx (sqf F xs)):=Zde hvq (fun i hi=>hC2 i O)
 refine Zf (Pm 999 2 80 wv)<|Zf (Qd 999 J J pV)<|go 9 ?_
 refine cl 2 [1] (st_sqf _ _ hv h0 hf F hC1) fun _ _=>go 11 ?_
 refine kf O3<|go 8 ?_
 refine cl 3 [2] (Cj _ _ hvq (fun i=>by by_cases hi:i<xs.length;exact hC2 i hi;rw [Yl O];simp [Lo])) fun _ _=>go 11 ?_
 refine kt O3<|go 5 ?_
 refine cl 80 [3] (Nh _ _ hvqd) fun _ _=>go 11 ?_
 refine kf O3<|go 6 ?_
 refine Znh (Px 2 J Zk) (fun ss hss=>?_)
 subst hss
 refine Zf (Yw qZ 71)<|Zf (Zi (q:=qZ) (z:=(ss,sqf F xs)) 71 2 71 J J J J J)<|Znh (Px 80 J Zk) (fun sd0 hsd=>?_)
 subst hsd
 refine go 2 ?_
 refine tt (Qh (i:=70) (ivs:=[(0,_)]) (enc:=Li) [(ss,sqf F xs)] J J K2 Zkf ti40 J J J J J pS.cells J J hw.h) fun v _=>go 5 ?_
 refine lp (G:=List (SL×List Int)×SL×List Int×SL×List Int×Nat×Value) [] [0,1,999,2,3] (fun q=>[(7,q.2.2.2.2.2.2),(6,Xb q.2.2.2.1)]) (fun q=>[(70,Oa 1 40 Li q.2.2.2.2.2.2 (q.1 ++ [(q.2.1,q.2.2.1)])),(71,Ia qZ (q.1 ++ [(q.2.1,q.2.2.1)])),(80,Yh 2 wv (Xb q.2.2.2.1) q.2.2.2.2.1)]) (fun q=>(Vp q.2.2.1)∧(Vp q.2.2.2.2.1)∧(cok q.2.2.2.2.2.1 q.2.2.1 q.2.2.2.2.1)∧(q.1.map Prod.snd ++ Nu q.2.2.2.2.2.1 q.2.2.1 q.2.2.2.2.1=chn F xs)∧(q.1.length+q.2.2.2.2.1.length≤25)) (fun q=>q.2.2.2.2.1.length) ([],ss,sqf F xs,sd0,Zt (Yx (sqf F xs)),F,_) ⟨hvq,Kj hvqd,hC3,J,by rw [Zr];simp;have:=hvqd.len;omega⟩ K2 K3 ?_
 rintro⟨ws,sx,x,sd,y,f,vo⟩ ⟨hvx,hvy,hck,hch,hwl⟩
 dsimp only at hvx hvy hck hch hwl
 dsimp only
 refine go 8 ?_
 refine Zc J (fun h114=>?_) (fun h114=>?_)
 ·have hy0:y≠[]:=fun e=>by rw [e]at h114;simp at h114
  obtain⟨f0,rfl,hd,hle,hck2,hsc2⟩:=Zjd hck hy0
  refine go 7 ?_
  refine tt (Qh (i:=4) (ivs:=[(0,_)]) (enc:=Li) [(sd,y)] J J K2 Zkf ti40 J J J J J pS.cells J J hw.h) (fun v_2 _=>?_)
  refine tt (Nz (i:=70) (j:=4) (by_:=24) J J J J J J O3 J (Ys pS) Zkf ti40 J pS J J J O8 O3 J hw.h) fun v_3 _=>go 4 ?_
  have hll:(ws ++ [(sx,x)] ++ [(sd,y)]).length=ws.length+2:=O7
  refine Zf (Zi (q:=qZ) (z:=(sd,y)) 71 80 71 J J J J J)<|Zf (Zct (q:=qZ) 71 92 (sx,x) J J O7 J)<|go 5 ⟨O,?_⟩
  refine dt (Yn (ii:=70) (i:=ws.length) J J J J (Ys pS) Zkf sizeOf40)<|dt (Zw (r':=Xb sx) (Oi (ii:=70) Z0 J J J (Ys pS) pS) (by simp [List.getD_eq_getElem?_getD])) ?_
  refine go 1 ?_
  refine cl 80 [92,80] (Yfx _ _ _ _ hvx hvy hy0 hd hle) fun _ _=>?_
  refine Zya (Px 80 J Zk) (fun sn hsn=>?_)
  subst hsn
  refine go 10 ?_
  refine kf O3<|go 5 ?_
  exact Xf (ws ++ [(sx,x)],sd,y,sn,Oo x y,f0,_) ⟨hvy,Zoe hvx hd,hck2,by rw [←hch,hsc2];simp,by have h7:=Pf x hy0;have h8:=Av (y:=y) hvx.tr;simp;omega⟩ (by have h7:=Pf x hy0;have h8:=Av (y:=y) hvx.tr;dsimp only;omega) K2 K3
 ·refine go 6 ?_
  obtain rfl:y=[]:=List.eq_nil_of_length_eq_zero O
  refine Zf (Qd 70 J J pS)<|Zf (Pi 70 71 72 J J J J)<|go 7 ?_
  exact Mi hsc (_,ws ++ [(sx,x)]) results262 J (by rw [←hch,Ds];simp) (Ot 72 Za)
theorem Yf7(v:Value)(m:Nat)(xs:List Int)(hv:Vp xs)(hm:m≤1000):Om prog 283 #[v,.int .i64 (m:Int)] [Yh 2 wv v xs] (.bool (decide (Zam xs m))):=by
 refine Zd func283 ntmps283 fun w0 sc hw hsc=>?_
 have hlen:=hv.len
 have hmz:=Pd hv.sz
 have q1:(xs.length+2)*(xs.length+2)≤27*27:=Nat.mul_le_mul O O
 have q2:(xs.length+2)*(xs.length+2)*(Qk xs+m+2*(xs.length-1)+32)≤27*27*70000:=Nat.mul_le_mul q1 O
 have q3:((xs.length:Int)-1+3)*((xs.length:Int)-1+3)=(((xs.length+2)*(xs.length+2):Nat):Int):=by rw [show(xs.length:Int)-1+3=((xs.length+2:Nat):Int) by omega];push_cast;rfl
 have q4:xs.length≠0→((xs.length:Int)-1+3)*((xs.length:Int)-1+3)*((Qk xs:Int)+(m:Int)+2*((xs.length:Int)-1)+32)=(((xs.length+2)*(xs.length+2)*(Qk xs+m+2*(xs.length-1)+32):Nat):Int):=fun h=>by rw [q3,show(Qk xs:Int)+(m:Int)+2*((xs.length:Int)-1)+32=((Qk xs+m+2*(xs.length-1)+32:Nat):Int) by omega];push_cast;rfl
 refine go 8 ?_
 refine cl 1 [1] (Zf4 _ _ hv) fun _ _=>go 10 ?_
 refine cl 1 [1] (Zkz _ _ hv) fun _ _=>go 13 ?_
 refine Yt (d:=22) J (fun s24=>?_) (fun s24=>?_)
 ·refine go 19 ?_
  exact Xn hsc () results283 (by first | exact sgf_t O | exact sgf_i O (q4 O)) trivial Za
 ·refine go 19 ⟨O,O,by rw [q3];exact⟨O,O⟩,O,O,O,O,by rw [q4 O];exact⟨O,O⟩,?_⟩
  exact Xn hsc () results283 (by first | exact sgf_t O | exact sgf_i O (q4 O)) trivial Za
theorem Yaf(v:Value)(xs:List Int)(hv:Vp xs):Om prog 257 #[v] [Yh 2 wv v xs] (.bool (decide (Zam xs 0))):=by
 refine Zd func257 ntmps257 fun w0 sc hw hsc=>go 8 ?_
 refine cl 1 [1] (Xg _ _ ‹_›) fun _ _=>go 2 ?_
 refine Gy 1 [1] (Yf7 _ 0 xs hv O) fun _ _=>go 5 ?_
 exact Xn hsc () results257 J trivial Za
theorem Zht(x y:Int)(hx:bl x.natAbs≤65536)(hy:bl y.natAbs≤65536):Om prog 258 #[rX x y] [] (.bool (efit (x,y))):=by
 refine Zd func258 ntmps258 fun w0 sc hw hsc=>go 2 ?_
 refine Yk (Yj 1) fun bx _=>go 4 ?_
 refine Qe (fun _=>False) [(0,0),(1,0),(3,0),(4,0),(2,1),(5,1),(6,0),(7,0),(8,3)]<|go 4 ?_
 refine Yz (Zg 1 [] (Zhb _ hx)) fun _ _=>Yz (Zg 1 [] (Zhb _ hy)) fun _ _=>?_
 refine Qc J J (Qy (Zf8 J J J))<|go 5 ?_
 exact Xn hsc () results258 (by unfold efit;exact vB (decide_eq_decide.2 O11)) trivial Za
theorem Zhu(x y x2 y2:Int)(hx:bl x.natAbs≤65536)(hy:bl y.natAbs≤65536)(hx2:bl x2.natAbs≤65536)(hy2:bl y2.natAbs≤65536)(hp:0<y)(hp2:0<y2):Om prog 259 #[rX x y,rX x2 y2] [] (.int .i64 (cmp (x,y) (x2,y2))):=by
 refine Zd func259 ntmps259 fun w0 sc hw hsc=>go 2 ?_
 refine Yk (Yj 1) fun bx _=>Yk (Yj 2) fun bx_2 _=>go 7 ?_
 refine cl 2 [] (Zdc _ _ _ _ hx hy hx2 hy2 hp hp2) fun _ _=>go 14 ?_
 exact Xn hsc () results259 J trivial Za
theorem Zuf(bs:Nat)(v:Value)(xs:List Int)(x y:Int)(hx:bl x.natAbs≤65536)(hy:bl y.natAbs≤65536)(hp:0<y)(hv:Vp xs)(hE:¬Lh xs x y):Om prog 265 #[.pointer (some ⟨bs,0,none⟩),v,rX x y] [Hg bs 274 #[.int .i64 0],Yh 2 wv v xs] (.int .i64 (fat x y xs)):=by
 refine Zd func265 ntmps265 fun w0 sc hw hsc=>go 2 ?_
 refine Yk (Yj 3) fun bx _=>go 7 ?_
 refine cl 3 [2] (Zpi _ _ _ _ hv hx hy hp) fun _ _=>go 2 ?_
 refine dt (Zw (r':= .int .i64 0) (Zs6 J J J) (congrArg (Value.int .i64) (if_neg hE)))<|go 11 ?_
 refine kt O3<|go 8 ?_
 refine tt (Zkg (i:=1) J J J J J J sizeOf26 J J O10 J) fun _ _=>go 9 ?_
 exact Xn hsc () results265 (by unfold fat;rw [show evv xs x y=pev xs x y from if_neg hE]<;>rfl) trivial Za
theorem Zhr(v1 v2:Value)(bs:Nat)(ls cs:List (SL×List Int))(x y:Int)(hx:bl x.natAbs≤65536)(hy:bl y.natAbs≤65536)(hp:0<y)(hlsv:∀z∈ls,Vp z.2)(hlsE:∀z∈ls,¬Lh z.2 x y):Om prog 213 #[.agg #[v1,v2],.pointer (some ⟨bs,0,none⟩),rX x y] [Pz 1 Li qZ v1 ls,Pz 1 Li qZ v2 cs,Hg bs 274 #[.int .i64 0]] (.int .i64 (vlu (ls.map Prod.snd) (x,y))):=by
 refine Zd func213 ntmps213 fun w0 sc hw hsc=>?_
 refine Nw (Gp (i:=1) J Zn) fun hlen=>go 2 ?_
 refine Yk (Yj 4) fun bx _=>Yk (Yj 5) fun bx_2 _=>go 12 ?_
 refine Zc J (fun h160=>?_) (fun h160=>?_)
 ·refine go 7 ?_
  exact Xn hsc () results213 (by unfold vlu;rw [List.length_map,if_pos O]<;>rfl) trivial Za
 ·refine go 3 ?_
  refine Qe (fun _=>False) [(0,0),(1,0),(2,0),(3,0),(4,0),(5,0),(6,1),(7,3)]<|go 4 ⟨O,?_⟩
  refine Qc J J (Qy (Oi (ii:=1) Z0 J J J Zn pS))<|go 1 ?_
  refine Ev J (Ov (n:=5) (Zuf _ (Xb (ls.getD 0 Z0).1) (ls.getD 0 Z0).2 _ _ hx hy hp (hlsv (ls.getD 0 Z0) (Zj)) (hlsE (ls.getD 0 Z0) (Zj))) J J J K3 call265 (Yd 3 J J J (Ya6 1 J J (Zj (i:=0) (zs:=ls) (d:=Z0)) Ya)) J hw.h) fun _ _=>go 4 ?_
  exact Xn hsc () results213 (by unfold vlu;rw [List.length_map,if_neg O,Zfa _ O]<;>rfl) trivial Za
theorem Yag(v1 v2:Value)(bs:Nat)(ls cs:List (SL×List Int))(x y:Int)(hx:bl x.natAbs≤65536)(hy:bl y.natAbs≤65536)(hp:0<y)(hlsv:∀z∈ls,Vp z.2)(hlsE:∀z∈ls,¬Lh z.2 x y):Om prog 263 #[.agg #[v1,v2],.pointer (some ⟨bs,0,none⟩),rX x y] [Pz 1 Li qZ v1 ls,Pz 1 Li qZ v2 cs,Hg bs 274 #[.int .i64 0]] (.int .i64 (aft (ls.map Prod.snd) (x,y))):=by
 refine Zd func263 ntmps263 fun w0 sc hw hsc=>?_
 refine Nw (Gp (i:=1) J Zn) (fun hlen=>?_)
 have hLl:=Zip ls (fat x y)
 have hLg:=fun i (h:i<ls.length)=>Zov ls (fat x y) h
 refine go 2 ?_
 refine Yk (Yj 4) fun bx _=>Yk (Yj 5) fun bx_2 _=>go 13 ?_
 refine lp (G:=Nat) [1,5,11,12] [0,1,2,3,4,5] (fun i=>[(13,.int .i64 (i:Int))]) (fun i=>[]) (fun i=>(i≤ls.length)∧(∀k,k<i→(sgx ls (fat x y)).getD k 0=0)) (fun i=>ls.length-i) 0 ⟨O1,fun k hk=>absurd hk (Nat.not_lt_zero k)⟩ K1 trivial ?_
 rintro i ⟨hi,hz⟩
 refine go 6 ?_
 refine Zc J (fun h168=>?_) (fun h168=>?_)
 ·refine go 7 ⟨O2,?_⟩
  refine dt (Oi (ii:=1) Z0 J J J Zn pS O2)<|go 4 ?_
  refine Zf (Al 1 91 (ls.getD i Z0) J J (Zj) J)<|go 4 ?_
  refine cl 5 [3,91] (Zuf _ (Xb (ls.getD i Z0).1) (ls.getD i Z0).2 _ _ hx hy hp (hlsv (ls.getD i Z0) (Zj)) (hlsE (ls.getD i Z0) (Zj))) fun _ _=>go 9 ?_
  refine Zc J (fun h169=>?_) (fun h169=>?_)
  ·refine go 12 ?_
   exact Xn hsc () results263 (by rw [Zw0,Zqe ‹_› O hz (hLg i O)]<;>rfl) trivial Za
  ·refine go 7 ⟨O,?_⟩
   exact Xf (i+1) ⟨O1,fun k hk2=>by rcases Nat.lt_succ_iff_lt_or_eq.1 hk2 with h9 | h9;exact hz k h9;subst h9;rw [hLg _ O];exact Decidable.byContradiction ‹_›⟩ O1 K1 trivial
 ·refine go 11 ?_
  exact Xn hsc () results263 (by rw [Zw0,Zk7 (fun k hk=>hz k O)]<;>rfl) trivial Za
theorem Zhv(v1 v2:Value)(bs:Nat)(ls cs:List (SL×List Int))(x y:Int)(hx:bl x.natAbs≤65536)(hy:bl y.natAbs≤65536)(hp:0<y)(hcsv:∀z∈cs,Vp z.2)(hcsE:∀z∈cs,¬Lh z.2 x y):Om prog 290 #[.agg #[v1,v2],.pointer (some ⟨bs,0,none⟩),rX x y] [Pz 1 Li qZ v1 ls,Pz 1 Li qZ v2 cs,Hg bs 274 #[.int .i64 0]] (.int .i64 (chv (cs.map Prod.snd) (x,y))):=by
 refine Zd func290 ntmps290 fun w0 sc hw hsc=>?_
 refine Nw (Gp (i:=2) J Zn) (fun hlen=>?_)
 have hLl:=Zip cs (fat x y)
 have hLg:=fun i (h:i<cs.length)=>Zov cs (fat x y) h
 refine go 2 ?_
 refine Yk (Yj 4) fun bx _=>Yk (Yj 5) fun bx_2 _=>go 19 ?_
 refine lp (G:=Nat×Int×Int) [1,5,13,14] [0,1,2,3,4,5] (fun q=>[(15,.int .i64 (q.1:Int)),(7,.int .i64 q.2.1),(8,.int .i64 q.2.2)]) (fun q=>[]) (fun q=>(q.1≤cs.length)∧((q.2.1,q.2.2)=((sgx cs (fat x y)).take q.1).foldl Nm (0,0))∧(0≤q.2.1)∧(q.2.1≤(q.1:Int))∧(-1≤q.2.2∧q.2.2≤1)) (fun q=>cs.length-q.1) (0,0,0) ⟨O1,O7,O1,O1,O1⟩ K3 trivial ?_
 rintro⟨i,n,l⟩ ⟨hi,hc,hn0,hn1,hl⟩
 dsimp only at hi hc hn0 hn1 hl
 dsimp only
 have hfr:=fat_r x y (cs.getD i Z0).2
 refine go 6 ?_
 refine Zc J (fun h179=>?_) (fun h179=>?_)
 ·refine go 7 ⟨O2,?_⟩
  refine dt (Oi (ii:=2) Z0 J J J Zn pS O2)<|go 4 ?_
  refine Zf (Al 2 91 (cs.getD i Z0) J J (Zj) J)<|go 4 ?_
  refine cl 5 [3,91] (Zuf _ (Xb (cs.getD i Z0).1) (cs.getD i Z0).2 _ _ hx hy hp (hcsv (cs.getD i Z0) (Zj)) (hcsE (cs.getD i Z0) (Zj))) fun _ _=>go 12 ⟨sgm_i hfr hl,?_⟩
  refine Zc J (fun h181=>?_) (fun h181=>?_)
  ·refine go 12 ⟨O,?_⟩
   refine Zc J (fun h184=>?_) (fun h184=>?_)
   ·refine go 10 ⟨O,?_⟩
    exact Xf (i+1,_,_) ⟨O1,by first | exact Zwj O hc (hLg i O) (Decidable.byContradiction ‹_›) | exact Zwi O hc (hLg i O) ‹_› (Zud hfr O ‹_›) | exact Zwh O hc (hLg i O) ‹_› (Zuc hfr O ‹_› ‹_›) | exact absurd ‹_› (Zue (Decidable.byContradiction ‹_›)),by first | exact hn0 | (dsimp only;omega),O11,by first | exact hl | exact hfr⟩ O1 K3 trivial
   ·refine go 7 ⟨O,?_⟩
    exact Xf (i+1,_,_) ⟨O1,by first | exact Zwj O hc (hLg i O) (Decidable.byContradiction ‹_›) | exact Zwi O hc (hLg i O) ‹_› (Zud hfr O ‹_›) | exact Zwh O hc (hLg i O) ‹_› (Zuc hfr O ‹_› ‹_›) | exact absurd ‹_› (Zue (Decidable.byContradiction ‹_›)),by first | exact hn0 | (dsimp only;omega),O11,by first | exact hl | exact hfr⟩ O1 K3 trivial
  ·refine go 8 ?_
   refine Zc J (fun h184_2=>?_) (fun h184_2=>?_)
   ·refine go 10 ⟨O,?_⟩
    exact Xf (i+1,_,_) ⟨O1,by first | exact Zwj O hc (hLg i O) (Decidable.byContradiction ‹_›) | exact Zwi O hc (hLg i O) ‹_› (Zud hfr O ‹_›) | exact Zwh O hc (hLg i O) ‹_› (Zuc hfr O ‹_› ‹_›) | exact absurd ‹_› (Zue (Decidable.byContradiction ‹_›)),by first | exact hn0 | (dsimp only;omega),O11,by first | exact hl | exact hfr⟩ O1 K3 trivial
   ·refine go 7 ⟨O,?_⟩
    exact Xf (i+1,_,_) ⟨O1,by first | exact Zwj O hc (hLg i O) (Decidable.byContradiction ‹_›) | exact Zwi O hc (hLg i O) ‹_› (Zud hfr O ‹_›) | exact Zwh O hc (hLg i O) ‹_› (Zuc hfr O ‹_› ‹_›) | exact absurd ‹_› (Zue (Decidable.byContradiction ‹_›)),by first | exact hn0 | (dsimp only;omega),O11,by first | exact hl | exact hfr⟩ O1 K3 trivial
 ·refine go 12 ?_
  exact Xn hsc () results290 (by rw [Yil,Yip O hc]<;>rfl) trivial Za
theorem Zrw(v1 v2:Value)(bs:Nat)(ls cs:List (SL×List Int))(x y x2 y2:Int)(hx:bl x.natAbs≤65536)(hy:bl y.natAbs≤65536)(hx2:bl x2.natAbs≤65536)(hy2:bl y2.natAbs≤65536)(hp:0<y)(hp2:0<y2)(hcsv:∀z∈cs,Vp z.2)(hcsE:∀z∈cs,¬Lh z.2 x y)(hcsF:∀z∈cs,¬Lh z.2 x2 y2)(hlc:cs.length≤1000):Om prog 264 #[.agg #[v1,v2],.pointer (some ⟨bs,0,none⟩),rX x y,rX x2 y2] [Pz 1 Li qZ v1 ls,Pz 1 Li qZ v2 cs,Hg bs 274 #[.int .i64 0]] (.bool (crb (cs.map Prod.snd) (x,y) (x2,y2))):=by
 refine Zd func264 ntmps264 fun w0 sc hw hsc=>?_
 refine Nw (Gp (i:=2) J Zn) (fun hlen=>?_)
 have hr1:=chv_r (cs.map Prod.snd) (x,y)
 have hr2:=chv_r (cs.map Prod.snd) (x2,y2)
 rw [List.length_map]at hr1 hr2
 refine go 2 ?_
 refine Yk (Yj 4) fun bx _=>Yk (Yj 5) fun bx_2 _=>Yk (Yj 6) fun bx_3 _=>go 12 ?_
 refine Zc J (fun h193=>?_) (fun h193=>?_)
 ·refine go 7 ?_
  exact Xn hsc () results264 (by unfold crb;rw [List.length_map,if_pos O]<;>rfl) trivial Za
 ·refine go 3 ?_
  refine Qe (fun _=>False) [(0,0),(1,0),(2,0),(4,0),(5,0),(6,0),(3,1),(7,1),(8,0),(9,3)]<|go 6 ?_
  refine Yz (Zg 6 [1,2,3] (Zhv _ _ _ _ _ _ _ hx hy hp hcsv hcsE)) fun _ _=>Yz (Zg 6 [1,2,3] (Zhv _ _ _ _ _ _ _ hx2 hy2 hp2 hcsv hcsF)) fun _ _=>go 6 ⟨O,?_⟩
  refine Qe (fun _=>False) [(0,0),(1,0),(2,0),(3,0),(4,0),(5,0),(6,1),(7,0)]<|go 4 ⟨O,?_⟩
  refine Qc J J (Qy (Oi (ii:=2) Z0 J J J Zn pS))<|go 1 ?_
  refine Ev J (Ov (n:=6) (Zuf _ (Xb (cs.getD 0 Z0).1) (cs.getD 0 Z0).2 _ _ hx2 hy2 hp2 (hcsv (cs.getD 0 Z0) (Zj)) (hcsF (cs.getD 0 Z0) (Zj))) J J J K3 call265 (Yd 3 J J J (Ya6 2 J J (Zj (i:=0) (zs:=cs) (d:=Z0)) Ya)) J hw.h) fun _ _=>go 3 ?_
  refine Zc J (fun h197=>?_) (fun h197=>?_)
  ·refine go 14 ⟨O,?_⟩
   exact Xn hsc () results264 (by first | exact crb_t O ‹_› | exact crb_f O ‹_›) trivial Za
  ·refine go 10 ?_
   exact Xn hsc () results264 (by first | exact crb_t O ‹_› | exact crb_f O ‹_›) trivial Za
theorem Zan(v1 v2:Value)(bs:Nat)(ls cs:List (SL×List Int))(x y x2 y2:Int)(hp:0<y)(hp2:0<y2)(hlsv:∀z∈ls,Vp z.2)(hlsE:∀z∈ls,¬Lh z.2 x y)(hcsv:∀z∈cs,Vp z.2)(hcsE:∀z∈cs,¬Lh z.2 x y)(hcsF:∀z∈cs,¬Lh z.2 x2 y2)(hlc:cs.length≤1000)(hx:bl x.natAbs≤65536:=by omega)(hy:bl y.natAbs≤65536:=by omega)(hx2:bl x2.natAbs≤65536:=by omega)(hy2:bl y2.natAbs≤65536:=by omega):Om prog 212 #[.agg #[v1,v2],.pointer (some ⟨bs,0,none⟩),rX x y,rX x2 y2] [Pz 1 Li qZ v1 ls,Pz 1 Li qZ v2 cs,Hg bs 274 #[.int .i64 0]] (.bool (ngb (ls.map Prod.snd) (cs.map Prod.snd) (x,y) (x2,y2))):=by
 refine Zd func212 ntmps212 fun w0 sc hw hsc=>go 2 ?_
 refine Yk (Yj 4) fun bx _=>Yk (Yj 5) fun bx_2 _=>Yk (Yj 6) fun bx_3 _=>go 8 ?_
 refine cl 6 [] (Zhu _ _ _ _ hx hy hx2 hy2 hp hp2) fun _ _=>go 3 ?_
 refine Zc J (fun h205=>?_) (fun h205=>?_)
 ·refine go 5 ?_
  refine cl 6 [1,2,3] (Zhr _ _ _ _ _ _ _ hx hy hp hlsv hlsE) fun _ _=>go 6 ?_
  exact Xn hsc () results212 (by unfold ngb;rw [if_pos ‹_›]) trivial Za
 ·refine go 7 ?_
  refine cl 6 [1,2,3] (Yag _ _ _ _ _ _ _ hx hy hp hlsv hlsE) fun _ _=>go 2 ?_
  refine Yt (d:=23) J (fun s208=>?_) (fun s208=>?_)
  ·refine go 10 ?_
   exact Xn hsc () results212 (by first | exact ngb_t ‹_› ‹_› | exact ngb_f ‹_› ‹_›) trivial Za
  ·refine go 4 ?_
   refine Gy 6 [1,2,3] (Zrw _ _ _ _ _ _ _ _ _ hx hy hx2 hy2 hp hp2 hcsv hcsE hcsF hlc) fun _ _=>go 5 ?_
   exact Xn hsc () results212 (by first | exact ngb_t ‹_› ‹_› | exact ngb_f ‹_› ‹_›) trivial Za
theorem Zxi(bs:Nat)(x y x2 y2:Int)(hx:bl x.natAbs≤65536)(hy:bl y.natAbs≤65536)(hx2:bl x2.natAbs≤65536)(hy2:bl y2.natAbs≤65536)(hp:0<y)(hp2:0<y2)(hm:Zch (x,y) (x2,y2)):Om prog 266 #[.pointer (some ⟨bs,0,none⟩),rX x y,rX x2 y2] [Hg bs 274 #[.int .i64 0]] (.agg #[.bool (decide ((Qx (x,y) (x2,y2)).1<0)),.string (Xz (Qx (x,y) (x2,y2)).1.natAbs),.bool (decide ((Qx (x,y) (x2,y2)).2<0)),.string (Xz (Qx (x,y) (x2,y2)).2.natAbs)]):=by
 refine Zd func266 ntmps266 fun w0 sc hw hsc=>?_
 have hq:¬Lq (x*y2+x2*y) (y*y2):=hm.1
 obtain⟨hn1,hn2,hn3⟩:=Zc0 hq
 obtain⟨hb1,hb2⟩:=nr_bl hq
 have hdp:=Zsi hq (Int.mul_pos hp hp2)
 have hm2:=Zx3 hm
 refine go 2 ?_
 refine Yk (Yj 2) fun bx _=>Yk (Yj 3) fun bx_2 _=>Yk (Zz 4) fun bx_3 _=>go 6 ?_
 refine cl 4 [] (Zjv _ _ _ _ hx hy hx2 hy2 hp hp2) fun _ _=>go 2 ?_
 refine dt (Zw (r':= .int .i64 0) (Zs6 J J J) (congrArg (Value.int .i64) hn3))<|Yk (Zz 5) fun bx_4 _=>go 11 ?_
 refine kt O3<|go 8 ?_
 refine tt (Zkg (i:=1) J J J J J J sizeOf26 J J O10 J) fun _ _=>go 3 ?_
 refine Ln [5] [10]<|Zh (n:=10) [(0,0)]<|go 2 ?_
 refine Qp (n:=9) 1 8 ?_ ?_
 ·refine Ol (Zg 5 [] (Zo _ ⟨O3,O3⟩)) fun _ _=>?_
  refine Qp (n:=8) 2 8 ?_ ?_
  ·refine Ol (Zg 5 [] (Zo _ ⟨O3,O3⟩)) fun _ _=>?_
   refine Zh (n:=7) [(3,0)]<|Qc J J (stf (Qi (ivs:=[(0,_),(1,_)]) J K4 (fun a w hs=>Zjq)) K1)<|go 1 ?_
   refine Qp (n:=6) 4 8 ?_ ?_
   ·refine Ol (Zg 5 [] (Fq _ _ 1 2 hb1 hb2 O5 O5 hdp)) fun _ _=>?_
    refine Zh (n:=0) [(5,0),(6,0),(7,0),(8,1),(9,1),(10,3)]<|go 2 ?_
    refine Qc J J (stf (Zw (r':= .int .i64 0) (Zs6 J J J) (congrArg (Value.int .i64) hm2)) K1)<|Yz (Qr 6) fun bx_5 ho=>go 3 ?_
    refine Zs<|go 8 ?_
    refine kt O3<|go 8 ?_
    refine tt (Zkg (i:=1) J J J J J J sizeOf26 J J O10 J) fun _ _=>go 9 ?_
    exact Xn hsc () results266 J trivial Za
   ·refine Ol (Qr 7) fun bx_6 ho2=>?_
    refine Zh (n:=0) [(4,1),(5,0),(6,0),(7,0),(9,1),(10,3)]<|Yz (Zg 7 [] (Fq _ _ 1 2 hb1 hb2 O5 O5 hdp)) fun _ _=>go 2 ?_
    refine Qc J J (stf (Zw (r':= .int .i64 0) (Zs6 J J J) (congrArg (Value.int .i64) hm2)) K1)<|go 3 ?_
    refine Zs<|go 8 ?_
    refine kt O3<|go 8 ?_
    refine tt (Zkg (i:=1) J J J J J J sizeOf26 J J O10 J) fun _ _=>go 9 ?_
    exact Xn hsc () results266 J trivial Za
  ·refine Ol (Qr 8) fun bx_7 ho3=>?_
   refine Zh (n:=0) [(2,1),(3,0),(4,1),(5,0),(6,0),(7,0),(9,1),(10,3)]<|Yz (Zg 8 [] (Zo _ ⟨O3,O3⟩)) fun _ _=>?_
   refine Qc J J (stf (Qi (ivs:=[(0,_),(1,_)]) J K4 (fun a w hs=>Zjq)) K1)<|Yz (Zg 8 [] (Fq _ _ 1 2 hb1 hb2 O5 O5 hdp)) fun _ _=>go 2 ?_
   refine Qc J J (stf (Zw (r':= .int .i64 0) (Zs6 J J J) (congrArg (Value.int .i64) hm2)) K1)<|go 3 ?_
   refine Zs<|go 8 ?_
   refine kt O3<|go 8 ?_
   refine tt (Zkg (i:=1) J J J J J J sizeOf26 J J O10 J) fun _ _=>go 9 ?_
   exact Xn hsc () results266 J trivial Za
 ·refine Ol (Qr 9) fun bx_8 ho4=>?_
  refine Zh (n:=0) [(1,1),(2,1),(3,0),(4,1),(5,0),(6,0),(7,0),(9,1),(10,3)]<|Yz (Zg 9 [] (Zo _ ⟨O3,O3⟩)) fun _ _=>Yz (Zg 9 [] (Zo _ ⟨O3,O3⟩)) fun _ _=>?_
  refine Qc J J (stf (Qi (ivs:=[(0,_),(1,_)]) J K4 (fun a w hs=>Zjq)) K1)<|Yz (Zg 9 [] (Fq _ _ 1 2 hb1 hb2 O5 O5 hdp)) fun _ _=>go 2 ?_
  refine Qc J J (stf (Zw (r':= .int .i64 0) (Zs6 J J J) (congrArg (Value.int .i64) hm2)) K1)<|go 3 ?_
  refine Zs<|go 8 ?_
  refine kt O3<|go 8 ?_
  refine tt (Zkg (i:=1) J J J J J J sizeOf26 J J O10 J) fun _ _=>go 9 ?_
  exact Xn hsc () results266 J trivial Za
abbrev RZ:=(Bool×ByteArray)×(Bool×ByteArray)
abbrev Q0:RZ:=((false,⟨#[]⟩),(false,⟨#[]⟩))
def qOK(z:RZ):Bool:=okR z.1.1 z.1.2 z.2.1 z.2.2
noncomputable def qx (z:RZ):Int:=if h:okR z.1.1 z.1.2 z.2.1 z.2.2=true then(Ybq h).choose else 0
noncomputable def qy (z:RZ):Int:=if h:okR z.1.1 z.1.2 z.2.1 z.2.2=true then(Ybq h).choose_spec.choose else 0
end Go.Sky

