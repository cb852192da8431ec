/- rules, arithmetic and contracts: part 5
   Proved without conditions of its own: each theorem bears its own. -/
import Derived.Test.YtcmiiammekgooaaGreatSo03
import Derived.Test.YtcmiiammekgooaaGreatSo02
import Derived.Test.YtcmiiammekgooaaGreatSo01
set_option linter.all false
namespace Go.Sky
open Go.Proofs
set_option maxRecDepth 20000
set_option maxHeartbeats 4000000
set_option linter.unusedSimpArgs false
theorem Ztp(v:Value)(xs:List Nat)(hx:xs.length*8≤140737488355328):CalO Tryz.prog 200 #[v] [slp 1 Iq v xs] (G:=Value) (fun r=>True) (fun r=>r) (fun r=>osl 1 149 Iq r xs):=by
 refine Ztx Tryz.func200 J Tryz.ntmps200 J K1 ?_
 intro w0 sc hw hsc
 simp only [Zp,Zn]
 refine Nw (f_nil (i:=1) J Zi) fun hnil=>Zb<|Zg<|as_ J J<|Zf<|Za<|Zb<|Zb<|Zg<|mv J J<|dt (Ztf J J J (i:=1) J Zi Xt) J<|Zf<|Za<|Mq J (fun h357=>?_) (fun h357=>?_)
 ·refine Zb<|Zg<|as_ J J<|Zf<|Za<|Zu<|Xe ?_
  obtain rfl:xs=[]:=hnil (by simpa using h357)
  exact Pr (Nj 9 1 149 Iq)<|Zma (.inl J) (.slice none 0 0) _ (fun a w hs=>Qj hs Tryz.results200 J) J trivial J 9 J J J
 ·exact Zk<|Za<|Zb<|Zg<|tt (t_bs0 (i:=2) (enc:=Iq) J J J Xt pU J hw) J fun v _=>mv J J<|tt (Kt (i:=2) (j:=1) (by_:=8) J J J J J J (by decide) J Zi Xt Tryz.ti149 J pU J J J (by simp;omega) (by decide) J hw) J fun v_2 _=>as_ J J<|Zf<|Za<|Zu<|Zma (.inl J) _ _ (fun a w hs=>Qj hs Tryz.results200 J) J trivial J 2 J (by rfl) J
set_option maxHeartbeats 1600000 in
theorem Zoe(h l y:Nat)(hl:l<U)(hy:y<U)(hh:h<y):Cal Tryz.prog 193 #[.int .u64 (h:Int),.int .u64 (l:Int),.int .u64 (y:Int)] [] false (G:=Unit) (fun _=>True) (fun _=> .tuple #[.int .u64 (((h*U+l)/y:Nat):Int),.int .u64 (((h*U+l)%y:Nat):Int)]) (fun _=>[]):=by
 refine Yd Tryz.func193 J Tryz.ntmps193 J trivial ?_
 intro w0 sc hw hsc
 simp only [Zp,Zn]
 have hUe:U=18446744073709551616:=rfl
 have hp:0<y:=by omega
 have hbl:bl y≤64:=(Mf 64 y).2 hy
 obtain⟨s,hs⟩:∃s,s=64-bl y:=⟨_,rfl⟩
 obtain⟨Y,hYe⟩:∃Y,Y=y*2^s:=⟨_,rfl⟩
 obtain⟨hY1,hY2⟩:=Zv6 hp hy hs
 rw [←hYe]at hY1 hY2
 have hYU:=hY2
 obtain⟨D,hD⟩:∃D,D=(h*U+l)*2^s:=⟨_,rfl⟩
 obtain⟨u,hue⟩:∃u,u=D/U:=⟨_,rfl⟩
 obtain⟨v,hve⟩:∃v,v=D%U:=⟨_,rfl⟩
 obtain⟨v1,hv1e⟩:∃x,x=v/4294967296:=⟨_,rfl⟩
 obtain⟨v0,hv0e⟩:∃x,x=v%4294967296:=⟨_,rfl⟩
 obtain⟨y1,hy1e⟩:∃x,x=Y/4294967296:=⟨_,rfl⟩
 obtain⟨y0,hy0e⟩:∃x,x=Y%4294967296:=⟨_,rfl⟩
 have hYs:Y=y1*4294967296+y0:=by omega
 have hhs:=shl_lt hh (show y*2^s<U by rw [←hYe];exact hY2)
 have huY:u<Y:=by rw [hue,hD,hYe];exact top_lt hl hh
 have hu:u<y1*4294967296+y0:=by omega
 have hvU:v<U:=by rw [hve];exact Nat.mod_lt _ Pm
 have hy1:2147483648≤y1:=by omega
 have hy1l:y1<4294967296:=by omega
 have hy0:y0<4294967296:=by omega
 have hv1:v1<4294967296:=by omega
 have hv0:v0<4294967296:=by omega
 obtain⟨Q1,hQ1⟩:∃x,x=(u*4294967296+v1)/Y:=⟨_,rfl⟩
 obtain⟨t,hte⟩:∃x,x=(u*4294967296+v1)%Y:=⟨_,rfl⟩
 have htY:t<Y:=by rw [hte];exact Nat.mod_lt _ (by omega)
 have ht:t<y1*4294967296+y0:=by omega
 obtain⟨Q0,hQ0⟩:∃x,x=(t*4294967296+v0)/Y:=⟨_,rfl⟩
 have hY0:0<Y:=by omega
 obtain⟨hd1,hd2⟩:=dv_two (D:=D) hY0 hue hve hv1e hv0e
 rw [←hQ1,←hte,←hQ0]at hd1
 rw [←hte]at hd2
 have hQ0l:Q0<4294967296:=by rw [hQ0,hYs];exact dv_Q hv0 ht
 have hQ1l:Q1<4294967296:=by rw [hQ1,hYs];exact dv_Q hv1 hu
 refine Zb<|Zg<|as_ J J<|as_ J J<|Zf<|Za<|Zb<|Zb<|Zg<|mv J J<|dt (Pi J J J) J<|Zf<|Za<|Zq J (fun h519=>?_) (fun h519=>?_)
 ·exfalso;omega
 ·refine Zk<|Za<|Zb<|Zb<|Zg<|mv J J<|mv J J<|dt (De J J J) J<|Zf<|Za<|Zq J (fun h522=>?_) (fun h522=>?_)
  ·exfalso;omega
  ·refine Zk<|Za<|Zb<|Zb<|Zg<|mv J J<|dt (Pi J J J) J<|Zf<|Za<|Zq J (fun h527=>?_) (fun h527=>?_)
   ·refine Zb<|Qs (fun _=>False) [(0,0),(1,0),(2,0),(3,0),(4,0),(5,0),(6,0),(7,3)] (by kernel_rfl) ?_ ?_
    ·kernel_rfl
    exact r0' J J J J (st0 (Ym J J))<|r0' J J J J (st0 (Ym J J))<|r0' J J J J (st0 (u_quo J J J (by omega) (by omega)))<|r0' J J J J (st0 (Ym J J))<|r0' J J J J (st0 (Ym J J))<|r0' J J J J (st0 (u_rem J J J (by omega)))<|r0' J J J J (st0 (Kk J J))<|r3' J J (Od (Kk J J) J J) fun _ _=>Og<|Za<|Zu<|Xe<|Zv (.inl J) hsc () _ (fun a w hs=>Ni hs Tryz.results193 J J) (by have h0:h=0:=(by omega);rw [h0];simp) trivial J Zj
   ·refine Zk<|Za<|Zb<|Zg<|mv J J<|tt (Zh (n:=0) (Zl6 _ hy) J J J K1 cF189 Ze J hw) J fun _ _=>dt (cv_u64 J J uT3 uT212 (by simp only [U];omega)) J<|as_ J J<|Zf<|Za<|Zb<|Ys (Ia 8 (v':= .int .u64 (s:Int)) J (by rw [hs]))<|Zg<|mv J J<|mv J J<|dt (Zom J J J J (by omega)) J<|as_ J J<|Zf<|Za<|Zb<|Ys (Ia 2 (v':= .int .u64 (Y:Int)) J (by rw [hYe,Nat.mod_eq_of_lt (by rw [←hYe];exact hYU)]))<|Zg<|mv J J<|dt (Gj (n:=32) (n':=4294967296) J J J J J) J<|as_ J J<|Zf<|Za<|Zb<|Zg<|mv J J<|dt (Zpz J J J (by omega) (by decide)) J<|as_ J J<|Zf<|Za<|Zb<|Zg<|mv J J<|mv J J<|dt (Zom J J J J (by omega)) J<|mv J J<|mv J J<|dt (Zew J J J (by first | exact Nat.mod_lt _ Pm | omega)) J<|dt (Zol J J (n:=64-s) J (by simp only [U];omega) (by omega)) J<|dt (u_or J J J (Nat.mod_lt _ Pm) (Nat.lt_of_le_of_lt (Nat.div_le_self _ _) hl)) J<|as_ J J<|Zf<|Za<|Zb<|Ys (Ia 11 (v':= .int .u64 (u:Int)) J (by rw [hue,hD,Zv3 (by omega) hhs hl]))<|Zg<|mv J J<|mv J J<|dt (Zom J J J J (by omega)) J<|as_ J J<|Zf<|Za<|Zb<|Ys (Ia 12 (v':= .int .u64 (v:Int)) J (by rw [hve,hD,Zr2 h l s]))<|Zg<|mv J J<|dt (Gj (n:=32) (n':=4294967296) J J J J J) J<|as_ J J<|Zf ?_
    refine Za<|Zb<|Ys (Ia 13 (v':= .int .u64 (v1:Int)) J (by rw [hv1e]))<|Zg<|mv J J<|dt (Zpz J J J (by omega) (by decide)) J<|as_ J J<|Zf<|Za<|Zb<|Ys (Ia 14 (v':= .int .u64 (v0:Int)) J (by rw [Zog,hv0e]))<|Ys (Ia 9 (v':= .int .u64 (y1:Int)) J (by rw [hy1e]))<|Ys (Ia 10 (v':= .int .u64 (y0:Int)) J (by rw [Zog,hy0e]))<|Zg<|mv J J<|mv J J<|dt (u_quo J J J (by omega) (by omega)) J<|as_ J J<|Zf<|Za<|Zb<|Zg<|mv J J<|mv J J<|mv J J<|dt (Cx J J J) J<|dt (Zew J J J (by first | exact Nat.mod_lt _ Pm | omega)) J<|as_ J J<|Zf<|Za<|Dd [(2,_),(8,_),(9,_),(10,_),(11,_),(13,_),(14,_)] [(0,_)] (fun(_:Unit)=>[(15,.int .u64 ((Q1:Nat):Int))]) (fun(_:Unit)=>[]) (fun(_:Unit)=>True) K7 K1 ?_ ?_
    ·refine Zl<|Ys (Ia 16 (v':= .int .u64 ((u%y1:Nat):Int)) J (by rw [rsub (by omega) (by omega)]))<|Nt [(2,_),(8,_),(9,_),(10,_),(11,_),(13,_),(14,_)] [(0,_)] (fun(q:Nat×Nat)=>[(15,.int .u64 (q.1:Int)),(16,.int .u64 (q.2:Int))]) (fun(q:Nat×Nat)=>[]) (fun(q:Nat×Nat)=>(dvI u v1 y1 y0 q.1 q.2)∧(q.2<4294967296)) (fun(q:Nat×Nat)=>q.1) (u/y1,u%y1) ⟨dv0 hy1 hy1l hy0 hv1 hu,Nat.lt_trans (Nat.mod_lt _ (by omega)) hy1l⟩ K9 K1 ?_
     rintro⟨a,r⟩ ⟨hI,hr⟩
     dsimp only at hI hr
     simp only [List.cons_append,List.nil_append]
     have hI1:=hI.1
     have hI2:=hI.2.1
     refine Zb<|Zb<|Zg<|mv J J<|dt (Lq J J J) J<|mv J J<|Qx (d:=69) J (fun s547=>?_) (fun s547=>?_)
     ·refine gsk J J J J J<|gsk J J J J J<|gsk J J J J J<|gsk J J J J J<|gsk J J J J J<|gsk J J J J J<|gsk J J J J J<|gsk J J J J J<|dt (Xh J J J) J<|Zf<|Za<|Nf J<|Zk<|Za<|Zl<|Zb ?_
      have hst:=Zhy (by omega) hI hv1 hu (by omega)
      have hst1:=hst.1
      refine Zg<|mv J J<|dt (Zew (n:=1) J J J (by decide)) J<|as_ J J<|Zf<|Za<|Zb<|Ys (Ia 15 (v':= .int .u64 ((a-1:Nat):Int)) J (Ac (Ztc hst1 (by omega))))<|Zg<|mv J J<|mv J J<|dt (Bh J J J) J<|as_ J J<|Zf<|Za<|Zb<|Ys (Ia 16 (v':= .int .u64 ((r+y1:Nat):Int)) J (Ac (Nat.mod_eq_of_lt (by omega))))<|Zg<|mv J J<|dt (Lq J J J) J<|Zf<|Za<|Zq J (fun h550=>?_) (fun h550=>?_)
      ·refine Yu<|Zoj (by decide)<|Zs<|Ox ?_
       have hq:Q1=a-1:=by rw [hQ1,hYs];exact(Zcy (by omega) hy0 hst.2 (by omega) (by omega)).symm
       exact Qv () trivial ⟨by rw [hq];rfl,rfl,rfl,rfl,rfl,rfl,rfl,rfl,trivial⟩ K1
      ·exact Zk<|Ob<|Xq (a-1,r+y1) ⟨hst.2,by dsimp only;omega⟩ (by first | omega | (dsimp only<;>omega)) K9 K1
     ·have hm1:=Znf (show a<4294967296 by omega) hy0
      have e1:=Nat.mod_eq_of_lt (show a*y0<U from hm1)
      have e2:=Nat.mod_eq_of_lt (show 4294967296*r<U by omega)
      have e3:=Nat.mod_eq_of_lt (show 4294967296*r+v1<U by omega)
      refine gdt (Ym J J) J J J J<|gdt (Ym J J) J J J J<|gdt (Cx J J J) J J J J<|gdt (Ym J J) J J J J<|gdt (Cx J J J) J J J J<|gdt (Ym J J) J J J J<|gdt (Bh J J J) J J J J<|gdt (On J J J) J J J J<|dt (Yh J J J) J<|Zf<|Za<|Zq J (fun h547=>?_) (fun h547=>?_)
      ·rw [e1,e2,e3]at h547
       refine Zk<|Za<|Zl<|Zb ?_
       have hst:=Zhy (by omega) hI hv1 hu (by omega)
       have hst1:=hst.1
       refine Zg<|mv J J<|dt (Zew (n:=1) J J J (by decide)) J<|as_ J J<|Zf<|Za<|Zb<|Ys (Ia 15 (v':= .int .u64 ((a-1:Nat):Int)) J (Ac (Ztc hst1 (by omega))))<|Zg<|mv J J<|mv J J<|dt (Bh J J J) J<|as_ J J<|Zf<|Za<|Zb<|Ys (Ia 16 (v':= .int .u64 ((r+y1:Nat):Int)) J (Ac (Nat.mod_eq_of_lt (by omega))))<|Zg<|mv J J<|dt (Lq J J J) J<|Zf<|Za<|Zq J (fun h550_2=>?_) (fun h550_2=>?_)
       ·refine Yu<|Zoj (by decide)<|Zs<|Ox ?_
        have hq:Q1=a-1:=by rw [hQ1,hYs];exact(Zcy (by omega) hy0 hst.2 (by omega) (by omega)).symm
        exact Qv () trivial ⟨by rw [hq];rfl,rfl,rfl,rfl,rfl,rfl,rfl,rfl,trivial⟩ K1
       ·exact Zk<|Ob<|Xq (a-1,r+y1) ⟨hst.2,by dsimp only;omega⟩ (by first | omega | (dsimp only<;>omega)) K9 K1
      ·rw [e1,e2,e3]at h547
       refine Yu<|Zs<|Zs<|Ox ?_
       have hq:Q1=a:=by rw [hQ1,hYs];exact(Zlq (by omega) hI (by omega)).symm
       exact Qv () trivial ⟨by rw [hq];rfl,rfl,rfl,rfl,rfl,rfl,rfl,rfl,trivial⟩ K1
    ·rintro _ -
     simp only [List.cons_append,List.nil_append]
     refine Zb<|Zg<|mv J J<|dt (Cx J J J) J<|mv J J<|dt (Bh J J J) J<|mv J J<|mv J J<|dt (Cx J J J) J<|dt (Zew J J J (by first | exact Nat.mod_lt _ Pm | omega)) J<|as_ J J<|Zf<|Za<|Zb<|Ys (Ia 17 (v':= .int .u64 (t:Int)) J (by rw [hte,hQ1,Zs1 hY0 hYU]))<|Zg<|mv J J<|mv J J<|dt (u_quo J J J (by omega) (by omega)) J<|as_ J J<|Zf<|Za<|Zb<|Zg<|mv J J<|mv J J<|mv J J<|dt (Cx J J J) J<|dt (Zew J J J (by first | exact Nat.mod_lt _ Pm | omega)) J<|as_ J J<|Zf<|Za<|Dd [(2,_),(8,_),(14,_),(15,_),(17,_)] [(0,_)] (fun(_:Unit)=>[(18,.int .u64 ((Q0:Nat):Int))]) (fun(_:Unit)=>[]) (fun(_:Unit)=>True) K5 K1 ?_ ?_
     ·refine Zl<|Ys (Ia 16 (v':= .int .u64 ((t%y1:Nat):Int)) J (by rw [rsub (by omega) (by omega)]))<|Nt [(2,_),(8,_),(9,_),(10,_),(14,_),(15,_),(17,_)] [(0,_)] (fun(q:Nat×Nat)=>[(18,.int .u64 (q.1:Int)),(16,.int .u64 (q.2:Int))]) (fun(q:Nat×Nat)=>[]) (fun(q:Nat×Nat)=>(dvI t v0 y1 y0 q.1 q.2)∧(q.2<4294967296)) (fun(q:Nat×Nat)=>q.1) (t/y1,t%y1) ⟨dv0 hy1 hy1l hy0 hv0 ht,Nat.lt_trans (Nat.mod_lt _ (by omega)) hy1l⟩ K9 K1 ?_
      rintro⟨a,r⟩ ⟨hI,hr⟩
      dsimp only at hI hr
      simp only [List.cons_append,List.nil_append]
      have hI1:=hI.1
      have hI2:=hI.2.1
      refine Zb<|Zb<|Zg<|mv J J<|dt (Lq J J J) J<|mv J J<|Qx (d:=104) J (fun s559=>?_) (fun s559=>?_)
      ·refine gsk J J J J J<|gsk J J J J J<|gsk J J J J J<|gsk J J J J J<|gsk J J J J J<|gsk J J J J J<|gsk J J J J J<|gsk J J J J J<|dt (Xh J J J) J<|Zf<|Za<|Nf J<|Zk<|Za<|Zl<|Zb ?_
       have hst:=Zhy (by omega) hI hv0 ht (by omega)
       have hst1:=hst.1
       refine Zg<|mv J J<|dt (Zew (n:=1) J J J (by decide)) J<|as_ J J<|Zf<|Za<|Zb<|Ys (Ia 18 (v':= .int .u64 ((a-1:Nat):Int)) J (Ac (Ztc hst1 (by omega))))<|Zg<|mv J J<|mv J J<|dt (Bh J J J) J<|as_ J J<|Zf<|Za<|Zb<|Ys (Ia 16 (v':= .int .u64 ((r+y1:Nat):Int)) J (Ac (Nat.mod_eq_of_lt (by omega))))<|Zg<|mv J J<|dt (Lq J J J) J<|Zf<|Za<|Zq J (fun h562=>?_) (fun h562=>?_)
       ·refine Yu<|Zoj (by decide)<|Zs<|Ox ?_
        have hq:Q0=a-1:=by rw [hQ0,hYs];exact(Zcy (by omega) hy0 hst.2 (by omega) (by omega)).symm
        exact Qv () trivial ⟨by rw [hq];rfl,rfl,rfl,rfl,rfl,rfl,trivial⟩ K1
       ·exact Zk<|Ob<|Xq (a-1,r+y1) ⟨hst.2,by dsimp only;omega⟩ (by first | omega | (dsimp only<;>omega)) K9 K1
      ·have hm1:=Znf (show a<4294967296 by omega) hy0
       have e1:=Nat.mod_eq_of_lt (show a*y0<U from hm1)
       have e2:=Nat.mod_eq_of_lt (show 4294967296*r<U by omega)
       have e3:=Nat.mod_eq_of_lt (show 4294967296*r+v0<U by omega)
       refine gdt (Ym J J) J J J J<|gdt (Ym J J) J J J J<|gdt (Cx J J J) J J J J<|gdt (Ym J J) J J J J<|gdt (Cx J J J) J J J J<|gdt (Ym J J) J J J J<|gdt (Bh J J J) J J J J<|gdt (On J J J) J J J J<|dt (Yh J J J) J<|Zf<|Za<|Zq J (fun h559=>?_) (fun h559=>?_)
       ·rw [e1,e2,e3]at h559
        refine Zk<|Za<|Zl<|Zb ?_
        have hst:=Zhy (by omega) hI hv0 ht (by omega)
        have hst1:=hst.1
        refine Zg<|mv J J<|dt (Zew (n:=1) J J J (by decide)) J<|as_ J J<|Zf<|Za<|Zb<|Ys (Ia 18 (v':= .int .u64 ((a-1:Nat):Int)) J (Ac (Ztc hst1 (by omega))))<|Zg<|mv J J<|mv J J<|dt (Bh J J J) J<|as_ J J<|Zf<|Za<|Zb<|Ys (Ia 16 (v':= .int .u64 ((r+y1:Nat):Int)) J (Ac (Nat.mod_eq_of_lt (by omega))))<|Zg<|mv J J<|dt (Lq J J J) J<|Zf<|Za<|Zq J (fun h562_2=>?_) (fun h562_2=>?_)
        ·refine Yu<|Zoj (by decide)<|Zs<|Ox ?_
         have hq:Q0=a-1:=by rw [hQ0,hYs];exact(Zcy (by omega) hy0 hst.2 (by omega) (by omega)).symm
         exact Qv () trivial ⟨by rw [hq];rfl,rfl,rfl,rfl,rfl,rfl,trivial⟩ K1
        ·exact Zk<|Ob<|Xq (a-1,r+y1) ⟨hst.2,by dsimp only;omega⟩ (by first | omega | (dsimp only<;>omega)) K9 K1
       ·rw [e1,e2,e3]at h559
        refine Yu<|Zs<|Zs<|Ox ?_
        have hq:Q0=a:=by rw [hQ0,hYs];exact(Zlq (by omega) hI (by omega)).symm
        exact Qv () trivial ⟨by rw [hq];rfl,rfl,rfl,rfl,rfl,rfl,trivial⟩ K1
     ·rintro _ -
      simp only [List.cons_append,List.nil_append]
      refine Zb<|Zg<|mv J J<|dt (Cx J J J) J<|mv J J<|dt (Bh J J J) J<|mv J J<|dt (Cx J J J) J<|mv J J<|dt (Bh J J J) J<|mv J J<|mv J J<|dt (Cx J J J) J<|dt (Zew J J J (by first | exact Nat.mod_lt _ Pm | omega)) J<|mv J J<|dt (Zol J J J J (by omega)) J<|as_ J J<|as_ J J<|Zf<|Za<|Zu ?_
      have hA:(Q1*4294967296%U+Q0)%U=(h*U+l)/y:=by rw [←Zis _ y s,←hD,←hYe,hd1];simp only [U];omega
      have hB:((t*4294967296%U+v0)%U+(U-(Q0*Y)%U))%U/2^s=(h*U+l)%y:=by rw [←Zir _ y s,←hD,←hYe,hd2,hQ0,Zs1 hY0 hYU]
      exact Zv (.inl J) hsc () _ (fun a w hs=>Ni hs Tryz.results193 J J) (by rw [hA,hB]) trivial J Zj
theorem Zru(v:Value)(x d:Nat)(hx:bl x≤8589934592)(hd:0<d)(hdU:d<U):Cal Tryz.prog 192 #[v,.int .u64 (d:Int)] [dgp v x] false (G:=Value) (fun r=>True) (fun r=> .tuple #[r,.int .u64 ((x%d:Nat):Int)]) (fun r=>[dgp r (x/d)]):=by
 refine Yd Tryz.func192 J Tryz.ntmps192 J K1 ?_
 intro w0 sc hw hsc
 simp only [Zp,Zn]
 have hX:=Md x
 refine Zb<|Zg<|as_ J J<|as_ J J<|Zf<|Za<|Zb<|Zg<|mv J J<|dt (Zy J J (i:=1) J Zi Xt) J<|tt (Hw (i:=2) (n:=(dg U x).length) (by_:=8) (enc:=Iq) 0 J J J J J (by omega) Xt Tryz.ti149 J pU.cells pU.pos J J (by omega) (by decide) J hw) J fun v _=>as_ J J<|Zf<|Za<|Zb<|Zg<|as_ J J<|Zf<|Za<|Zb<|Zb<|Zg<|mv J J<|dt (Zy J J (i:=1) J Zi Xt) J<|dt (Qg J J J ⟨by omega,by omega⟩) J<|as_ J J<|Zf<|Za<|Zl<|Nt [(0,_),(1,_),(6,_)] [(0,_),(1,_)] (fun(q:Nat×List Nat×Nat)=>[(8,.int .i64 ((q.1:Int)-1)),(7,.int .u64 (q.2.2:Int))]) (fun(q:Nat×List Nat×Nat)=>[(2,osl 1 149 Iq v q.2.1)]) (fun(q:Nat×List Nat×Nat)=>(q.1≤(dg U x).length)∧(q.2.1.length=(dg U x).length)∧(q.2.2<d)∧(∀d∈q.2.1,d<U)∧(val U (q.2.1.drop q.1)*d+q.2.2=val U ((dg U x).drop q.1))) (fun(q:Nat×List Nat×Nat)=>q.1) ((dg U x).length,List.replicate (dg U x).length 0,0) ⟨Nat.le_refl _,by simp,by first | omega | (dsimp only<;>omega),Ow _ Pm,by simp [val]⟩ K5 K3 ?_
 rintro⟨k,o,r⟩ ⟨hk,hol,hr,hall,hv⟩
 dsimp only at hk hol hr hall hv
 simp only [List.cons_append,List.nil_append]
 refine Zb<|Zb<|Zg<|mv J J<|dt (Lq J J J) J<|Zf<|Za<|Zq J (fun h158=>?_) (fun h158=>?_)
 ·exact Zk<|Za<|Zb<|Zl<|Zg<|mv J J<|mv J J<|mv J J<|mv J J<|mv J J<|dt (Yz (ii:=1) (i:=k-1) J J J J Zi Xt Nz (by omega) (by omega)) J<|dt (Xs (ii:=1) 0 J J J Zi pU (by first | omega | (simp only [List.length_set];omega))) J<|mv J J<|tt (Zh (n:=2) (Zoe _ _ _ (Ql Pm (Le Qz _) _) hdU hr) J J J K3 cF193 Ze J hw) J fun _ _=>mv J J<|dt (Yg J J J) J<|dt (Yg J J J) J<|dt (Yz (ii:=2) (i:=k-1) J J J J (Yn pU) Xt Nz (by omega) (by omega)) J<|tt (Kr (i:=2) (enc:=Iq) _ J J J J J J (by decide) pU (by first | omega | (simp only [List.length_set];omega)) J hw) J fun _ _=>as_ J J<|Zf<|Ob<|Za<|Zg<|mv J J<|dt (Qg J J J ⟨by omega,by omega⟩) J<|as_ J J<|Zf<|Xq (k-1,_,_) ⟨by first | omega | (dsimp only<;>omega),by simp;omega,Nat.mod_lt _ hd,Lk hall _ _ (Znz (Ql Pm (Le Qz x) _) hr),Zos hd (by omega) (by omega) (by rw [show k-1+1=k by omega];exact hv)⟩ (by first | omega | (dsimp only<;>omega)) ⟨by rw [show(((k-1:Nat):Int)-1)=(k:Int)-1-1 by omega];rfl,rfl,rfl,rfl,rfl,trivial⟩ K3
 ·refine Yu<|Zs<|Zs<|Ox<|Za<|Zb<|Zg<|mv J J<|tt (Zh (n:=2) (Py _ _) J J J K1 Zbs (Xu 2 J J pU Ze) J hw) J fun _ _=>Pq (Zff 2 J J pU)<|mv J J<|as_ J J<|as_ J J<|Zf<|Za<|Zu ?_
  obtain rfl:k=0:=by omega
  rw [List.drop_zero,List.drop_zero,Mu Qz]at hv
  have hq:tz o=dg U (x/d):=by
   rw [←Kf Qz _ hall,←hv,Nat.mul_comm,Nat.mul_add_div hd,Nat.div_eq_of_lt hr,Nat.add_zero]
  have hm:r=x%d:=by rw [←hv,Nat.mul_comm,Nat.mul_add_mod,Nat.mod_eq_of_lt hr]
  exact Zv (.inl J) hsc _ _ (fun a w hs=>Ni hs Tryz.results192 J J) (by rw [hm]) trivial J (Ps 2 J J pU hq Zj)
theorem Ku(v:Value)(x s:Nat)(hx:bl x≤4294967296)(hs:s≤4294967296):Cal Tryz.prog 132 #[v,.int .i64 (s:Int)] [dgp v x] false (G:=Value) (fun r=>True) (fun r=>r) (fun r=>[dgp r (x*2^s)]):=by
 refine Yd Tryz.func132 J Tryz.ntmps132 J K1 ?_
 intro w0 sc hw hsc
 simp only [Zp,Zn]
 obtain⟨w,hwe⟩:∃w,w=s/64:=⟨_,rfl⟩
 obtain⟨b,hbe⟩:∃b,b=s%64:=⟨_,rfl⟩
 have hX:=Md x
 refine Zb<|Zg<|as_ J J<|Zf<|Za<|Zb<|Zb<|Zg<|mv J J<|dt (Zy J J (i:=1) J Zi Xt) J<|dt (Pi J J J) J<|Zf<|Za<|Zq J (fun h122=>?_) (fun h122=>?_)
 ·refine Zb<|Zg<|as_ J J<|Zf<|Za<|Zu<|Xe<|Pr (Nj 9 1 149 Iq) ?_
  have hx0:x=0:=(Pe Qz x).1 (by omega)
  exact Zv (.inl J) hsc (.slice none 0 0) _ (fun a w hs=>Qj hs Tryz.results132 J) J trivial J (Ps 9 J J pU (by rw [hx0,Nat.zero_mul];rfl) Zj)
 ·refine Zk<|Za<|Zb<|Zg<|mv J J<|dt (Zhz J J J (by omega) (by omega) (by omega)) J<|mv J J<|dt (Zjt J J J (by omega) (by omega)) J<|as_ J J<|as_ J J<|Zf<|Za<|Zb<|Ys (Ia 5 (v':= .int .i64 (w:Int)) J (by congr 1;omega))<|Ys (Ia 6 (v':= .int .i64 (b:Int)) J (by congr 1;omega))<|Zg<|mv J J<|dt (Zy J J (i:=1) J Zi Xt) J<|mv J J<|dt (Yt J J J ⟨by omega,by omega⟩) J<|dt (Yt J J J ⟨by omega,by omega⟩) J<|tt (Hw (i:=2) (n:=(dg U x).length+w+1) (by_:=8) (enc:=Iq) 0 J J J J J (by omega) Xt Tryz.ti149 J pU.cells pU.pos J J (by omega) (by decide) J hw) J fun v _=>as_ J J<|Zf<|Za<|Zb<|Zb<|Zg<|mv J J<|dt (Zy J J (i:=1) J Zi Xt) J<|mv J J<|Zf<|Za<|Zl ?_
  refine Nt [(5,_),(6,_),(7,_),(23,_),(24,_)] [(0,_),(1,_)] (fun(q:Nat×List Nat)=>[(25,.int .i64 (q.1:Int))]) (fun(q:Nat×List Nat)=>[(2,osl 1 149 Iq v q.2)]) (fun(q:Nat×List Nat)=>(q.1≤(dg U x).length)∧(q.2.length=(dg U x).length+w+1)∧(q.2.getD (w+q.1) 0<2^b)∧(∀j,w+q.1<j→q.2.getD j 0=0)∧(∀d∈q.2,d<U)∧(val U (q.2.take ((dg U x).length+w+1))=val U ((dg U x).take q.1)*2^b*U^w)) (fun(q:Nat×List Nat)=>(dg U x).length-q.1) (0,List.replicate ((dg U x).length+w+1) 0) ⟨by first | omega | (dsimp only<;>omega),by simp,by rw [Lh];exact Nat.two_pow_pos b,fun j _=>Lh _ j,Ow _ Pm,by rw [List.take_replicate,Ks];simp [val]⟩ K6 K3 ?_
  rintro⟨i,o⟩ ⟨hi,hol,hc,hz,hall,hv⟩
  dsimp only at hi hol hc hz hall hv
  simp only [List.cons_append,List.nil_append]
  have hst:i<(dg U x).length→_:=fun hlt=>Zu9 (xs:=dg U x) (show b≤63 by omega) hol.symm (show w+i+1<_ by omega) hc (hz (w+i+1) (by omega)) (Ql Pm (Le Qz x) i) hv
  refine Zb<|Zg<|dt (Qb J J J) J<|Zf<|Za<|Zb<|Zq J (fun h127=>?_) (fun h127=>?_)
  ·refine Zk<|Za<|Zb<|Zl<|Zb<|Zg<|mv J J<|dt (Yz (ii:=1) J J J J Zi Xt Nz J (by first | omega | (simp only [List.length_set];omega))) J<|dt (Xs (ii:=1) 0 J J J Zi pU (by first | omega | (simp only [List.length_set];omega))) J<|as_ J J<|as_ J J<|Zf<|Za<|Zb ?_
   have hX1:=Ql Pm (Le Qz x) i
   refine Qs (fun _=>False) [(0,0),(1,0),(2,0),(3,0),(4,0),(5,0),(6,0),(7,0),(8,0),(9,0),(10,0),(11,3)] (by kernel_rfl) ?_ ?_
   ·kernel_rfl
   refine r0' J J J J (st0 (Ym J J))<|r0' J J J J (st0 (Ym J J))<|r0' J J J J (st0 (Ym J J))<|r0' J J J J (st0 (Yt J J J ⟨by omega,by omega⟩))<|r0' J J J J (st0 (Yz (ii:=2) (i:=w+i) J J J J (Yn pU) Xt Nz (by omega) (by omega)))<|r0' J J J J (st0 (Xs (ii:=2) 0 J J J (Yn pU) pU (by first | omega | (simp only [List.length_set];omega))))<|r0' J J J J (st0 (Ym J J))<|r0' J J J J (st0 (Ym J J))<|r0' J J J J (st0 (Zom J J (n:=b) J J (by omega)))<|r0' J J J J (st0 (u_or J J J (Ql Pm hall _) (Nat.mod_lt _ Pm)))<|r0' J J J J (st0 (Yz (ii:=2) (i:=w+i) J J J J (Yn pU) Xt Nz (by omega) (by omega)))<|r3' J J (Kr (i:=2) (enc:=Iq) _ J J J J J J (by decide) pU (by first | omega | (simp only [List.length_set];omega)) J hw) fun _ _=>Og<|Za<|Zb<|Zg<|mv J J<|dt (On J J J) J<|Zf<|Za<|Zq J (fun h129=>?_) (fun h129=>?_)
   ·have hal2:=Lk (Lk hall (w+i) (o.getD (w+i) 0 ||| (dg U x).getD i 0*2^b%U) (Nat.or_lt_two_pow (n:=64) (Ql Pm hall _) (Nat.mod_lt _ Pm))) (w+i+1) ((dg U x).getD i 0/2^(64-b)) (Nat.lt_of_le_of_lt (Nat.div_le_self _ _) hX1)
    have hc2:((o.set (w+i) (o.getD (w+i) 0 ||| (dg U x).getD i 0*2^b%U)).set (w+i+1) ((dg U x).getD i 0/2^(64-b))).getD (w+i+1) 0<2^b:=by
     rw [Nd _ _ _ _ _ (by simp;omega),if_pos rfl];exact Zbp (by omega) hX1
    have hz2:∀j,w+i+1<j→((o.set (w+i) (o.getD (w+i) 0 ||| (dg U x).getD i 0*2^b%U)).set (w+i+1) ((dg U x).getD i 0/2^(64-b))).getD j 0=0:=fun j hj=>by
     rw [Nd _ _ _ _ _ (by simp;omega),if_neg (by omega),Nd _ _ _ _ _ (by omega),if_neg (by omega)];exact hz j (by omega)
    have hv2:=hst (by omega)
    exact Zg<|mv J J<|mv J J<|mv J J<|dt (Yt J J J ⟨by omega,by omega⟩) J<|dt (Yt J J J ⟨by omega,by omega⟩) J<|mv J J<|mv J J<|dt (Qg J J J ⟨by omega,by omega⟩) J<|dt (Zol J J (n:=64-b) J (by omega) (by omega)) J<|dt (Yz (ii:=2) (i:=w+i+1) J J J J (Yn pU) Xt Nz (by omega) (by simp only [List.length_set];omega)) J<|tt (Kr (i:=2) (enc:=Iq) _ J J J J J J (by decide) pU (by simp only [List.length_set];omega) J hw) J fun _ _=>Zf<|Ob<|Za<|Zg<|dt (Yt J J J ⟨by omega,by omega⟩) J<|mv J J<|Zf<|Xq (i+1,_) ⟨by first | omega | (dsimp only<;>omega),by simp;omega,by dsimp only;rw [show w+(i+1)=w+i+1 by omega];exact hc2,fun j hj=>by have hj2:w+(i+1)<j:=hj;dsimp only;exact hz2 j (by omega),hal2,hv2⟩ (by first | omega | (dsimp only<;>omega)) K6 K3
   ·obtain rfl:b=0:=by omega
    have hal2:=Lk hall (w+i) (o.getD (w+i) 0 ||| (dg U x).getD i 0*2^0%U) (Nat.or_lt_two_pow (n:=64) (Ql Pm hall _) (Nat.mod_lt _ Pm))
    have hc2:(o.set (w+i) (o.getD (w+i) 0 ||| (dg U x).getD i 0*2^0%U)).getD (w+i+1) 0<2^0:=by
     rw [Nd _ _ _ _ _ (by omega),if_neg (by omega),hz _ (by omega)];exact Nat.two_pow_pos 0
    have hz2:∀j,w+i+1<j→(o.set (w+i) (o.getD (w+i) 0 ||| (dg U x).getD i 0*2^0%U)).getD j 0=0:=fun j hj=>by
     rw [Nd _ _ _ _ _ (by omega),if_neg (by omega)];exact hz j (by omega)
    have hv2:=hst (by omega)
    rw [show(dg U x).getD i 0/2^(64-0)=0 from Nat.div_eq_of_lt hX1]at hv2
    have hsame:=Zg1 (o.set (w+i) (o.getD (w+i) 0 ||| (dg U x).getD i 0*2^0%U)) (w+i+1) (by rw [Nd _ _ _ _ _ (by omega),if_neg (by omega),hz _ (by omega)])
    rw [hsame]at hv2
    exact Zk<|Ob<|Za<|Zg<|dt (Yt J J J ⟨by omega,by omega⟩) J<|mv J J<|Zf<|Xq (i+1,_) ⟨by first | omega | (dsimp only<;>omega),by simp;omega,by dsimp only;rw [show w+(i+1)=w+i+1 by omega];exact hc2,fun j hj=>by have hj2:w+(i+1)<j:=hj;dsimp only;exact hz2 j (by omega),hal2,hv2⟩ (by first | omega | (dsimp only<;>omega)) K6 K3
  ·refine Yu<|Zs<|Zs<|Ox<|Za<|Zb<|Zg<|mv J J<|tt (Zh (n:=2) (Py _ _) J J J K1 Zbs (Xu 2 J J pU Ze) J hw) J fun _ _=>Pq (Zff 2 J J pU)<|as_ J J<|Zf<|Za<|Zu ?_
   obtain rfl:i=(dg U x).length:=by omega
   have hx2:tz o=dg U (x*2^s):=by
    rw [←Kf Qz _ hall]
    congr 1
    rw [Nn U o _ (by omega),List.take_of_length_le (Nat.le_refl _),Mu Qz,Zb8,Nat.mul_assoc,←Nat.pow_add,show b+64*w=s by omega]at hv
    exact hv
   exact Zv (.inl J) hsc _ _ (fun a w hs=>Qj hs Tryz.results132 J) J trivial J (Ps 2 J J pU hx2 Zj)
theorem nat_shr(v:Value)(x s:Nat)(hx:bl x≤8589934592)(hs:s≤8589934592):Cal Tryz.prog 195 #[v,.int .i64 (s:Int)] [dgp v x] false (G:=Value) (fun r=>True) (fun r=>r) (fun r=>[dgp r (x/2^s)]):=by
 refine Yd Tryz.func195 J Tryz.ntmps195 J K1 ?_
 intro w0 sc hw hsc
 simp only [Zp,Zn]
 obtain⟨w,hwe⟩:∃w,w=s/64:=⟨_,rfl⟩
 obtain⟨b,hbe⟩:∃b,b=s%64:=⟨_,rfl⟩
 have hX:=Md x
 have hdl:((dg U x).drop w).length=(dg U x).length-w:=List.length_drop
 refine Zb<|Zg<|as_ J J<|Zf<|Za<|Zb<|Zg<|mv J J<|dt (Zhz J J J (by omega) (by omega) (by omega)) J<|mv J J<|dt (Zjt J J J (by omega) (by omega)) J<|as_ J J<|as_ J J<|Zf<|Za<|Zb<|Zb<|Ys (Ia 5 (v':= .int .i64 (w:Int)) J (by congr 1;omega))<|Ys (Ia 6 (v':= .int .i64 (b:Int)) J (by congr 1;omega))<|Zg<|mv J J<|mv J J<|dt (Zy J J (i:=1) J Zi Xt) J<|dt (Lq J J J) J<|Zf<|Za<|Zq J (fun h139=>?_) (fun h139=>?_)
 ·refine Zb<|Zg<|as_ J J<|Zf<|Za<|Zu<|Xe<|Pr (Nj 9 1 149 Iq) ?_
  have hx0:x/2^s=0:=by
   rw [Dh hwe hbe,Nat.div_eq_of_lt ((Xr Qz w x).1 (by omega)),Nat.zero_div]
  exact Zv (.inl J) hsc (.slice none 0 0) _ (fun a w hs=>Qj hs Tryz.results195 J) J trivial J (Ps 9 J J pU (by rw [hx0];rfl) Zj)
 ·refine Zk<|Za<|Zb<|Zg<|mv J J<|mv J J<|dt (d_suf (ii:=1) (i:=w) J J J J Zi Xt Nz (by omega) (by omega)) J<|Pq (s_suf 1 2 (w) J J (by omega))<|tt (Zke (n:=3) (Ztp _ _ (by simp only [List.length_drop];omega)) J J J K1 cF200 (Zd 2 J J J Ze) J hw) J fun v _=>as_ J J<|Zf<|Za<|Dd [(7,_)] [(0,_),(1,_),(2,_)] (fun(o:List Nat)=>[]) (fun(o:List Nat)=>[(3,osl 1 149 Iq v o)]) (fun(o:List Nat)=>(o.length=(dg U x).length-w)∧(∀j,j<o.length→o.getD j 0=x/2^s/U^j%U)) K1 K3 ?_ ?_
  ·refine Zb<|Zg<|mv J J<|dt (On J J J) J<|Zf<|Za<|Zq J (fun h143=>?_) (fun h143=>?_)
   ·refine Zb<|Zg<|mv J J<|dt (Zy J J (i:=3) J (Yn pU) Xt) J<|mv J J<|Zf<|Za<|Zl<|Nt [(0,_),(5,_),(6,_),(7,_),(24,_)] [(0,_),(1,_),(2,_)] (fun(q:Nat×List Nat)=>[(25,.int .i64 (q.1:Int))]) (fun(q:Nat×List Nat)=>[(3,osl 1 149 Iq v q.2)]) (fun(q:Nat×List Nat)=>(q.1≤(dg U x).length-w)∧(q.2.length=(dg U x).length-w)∧(∀j,j<q.1→q.2.getD j 0=x/2^s/U^j%U)∧(∀j,q.1≤j→q.2.getD j 0=x/U^w/U^j%U)∧(∀d∈q.2,d<U)) (fun(q:Nat×List Nat)=>(dg U x).length-w-q.1) (0,(dg U x).drop w) ⟨Nat.zero_le _,by simp,fun j hj=>absurd hj (Nat.not_lt_zero j),fun j _=>Zs6 x w j,fun d hd=>Le Qz x d (List.mem_of_mem_drop hd)⟩ K6 K4 ?_
    rintro⟨i,o⟩ ⟨hi,hol,hlo,hhi,hall⟩
    dsimp only at hi hol hlo hhi hall
    simp only [List.cons_append,List.nil_append]
    refine Zb<|Zg<|dt (Qb J J J) J<|Zf<|Za<|Zb<|Zq J (fun h144=>?_) (fun h144=>?_)
    ·refine Zk<|Za<|Zb<|Zl<|Zb<|Zg<|mv J J<|as_ J J<|Zf<|Za<|Zb<|Zg<|mv J J<|mv J J<|dt (Yz (ii:=3) J J J J (Yn pU) Xt Nz J (by first | omega | (simp only [List.length_set];omega))) J<|dt (Xs (ii:=3) 0 J J J (Yn pU) pU (by first | omega | (simp only [List.length_set];omega))) J<|mv J J<|dt (Zol J J (n:=b) J J (by omega)) J<|dt (Yz (ii:=3) J J J J (Yn pU) Xt Nz J (by first | omega | (simp only [List.length_set];omega))) J<|tt (Kr (i:=3) (enc:=Iq) _ J J J J J J (by decide) pU (by first | omega | (simp only [List.length_set];omega)) J hw) J fun _ _=>Zf<|Za<|Zb<|Zg<|mv J J<|dt (Yt J J J ⟨by omega,by omega⟩) J<|mv J J<|dt (Zy J J (i:=3) J (Yn pU) Xt) J<|dt (Qb J J J) J<|Zf<|Za<|Zq J (fun h146=>?_) (fun h146=>?_)
     ·simp only [List.length_set]at h146
      have hnew:∀j,((o.set i (o.getD i 0/2^b)).set i ((o.set i (o.getD i 0/2^b)).getD i 0 ||| ((dg U x).getD (w+i+1) 0*2^(64-b))%U)).getD j 0=if i=j then x/2^s/U^i%U else o.getD j 0:=fun j=>by
       rw [Nd _ _ _ _ _ (by simp;omega),Nd _ _ _ _ _ (by omega),Nd _ _ _ _ _ (by omega)]
       split
       ·rw [if_pos rfl,hhi i (Nat.le_refl _),It Qz,Dh hwe hbe,Zn2,show x/U^(w+i+1)=x/U^w/U^i/U by rw [Nat.div_div_eq_div_mul,Nat.div_div_eq_div_mul,←Nat.pow_succ,←Nat.pow_add];rfl,Zmr _ _ (by omega)]
       ·rfl
      have hal2:=Lk (Lk hall i (o.getD i 0/2^b) (Nat.lt_of_le_of_lt (Nat.div_le_self _ _) (Ql Pm hall _))) i ((o.set i (o.getD i 0/2^b)).getD i 0 ||| ((dg U x).getD (w+i+1) 0*2^(64-b))%U) (Nat.or_lt_two_pow (n:=64) (Ql Pm (Lk hall _ _ (Nat.lt_of_le_of_lt (Nat.div_le_self _ _) (Ql Pm hall _))) _) (Nat.mod_lt _ Pm))
      refine Qs (fun _=>False) [(0,0),(1,0),(2,0),(3,0),(4,0),(5,0),(6,0),(7,0),(8,0),(9,0),(10,0),(11,0),(12,0),(13,0),(14,0),(15,0),(16,3)] (by kernel_rfl) ?_ ?_
      ·kernel_rfl
      refine r0' J J J J (st0 (Ym J J))<|r0' J J J J (st0 (Ym J J))<|r0' J J J J (st0 (Yz (ii:=3) J J J J (Yn pU) Xt Nz J (by first | omega | (simp only [List.length_set];omega))))<|r0' J J J J (st0 (Xs (ii:=3) 0 J J J (Yn pU) pU (by first | omega | (simp only [List.length_set];omega))))<|r0' J J J J (st0 (Ym J J))<|r0' J J J J (st0 (Ym J J))<|r0' J J J J (st0 (Ym J J))<|r0' J J J J (st0 (Yt J J J ⟨by omega,by omega⟩))<|r0' J J J J (st0 (Yt J J J ⟨by omega,by omega⟩))<|r0' J J J J (st0 (Yz (ii:=1) (i:=w+i+1) J J J J Zi Xt Nz (by omega) (by first | omega | (simp only [List.length_set];omega))))<|r0' J J J J (st0 (Xs (ii:=1) 0 J J J Zi pU (by first | omega | (simp only [List.length_set];omega))))<|r0' J J J J (st0 (Ym J J))<|r0' J J J J (st0 (Qg J J J ⟨by omega,by omega⟩))<|r0' J J J J (st0 (Zom J J (n:=64-b) J (by omega) (by omega)))<|r0' J J J J (st0 (u_or J J J (Ql Pm (Lk hall _ _ (Nat.lt_of_le_of_lt (Nat.div_le_self _ _) (Ql Pm hall _))) _) (Nat.mod_lt _ Pm)))<|r0' J J J J (st0 (Yz (ii:=3) J J J J (Yn pU) Xt Nz J (by first | omega | (simp only [List.length_set];omega))))<|r3' J J (Kr (i:=3) (enc:=Iq) _ J J J J J J (by decide) pU (by first | omega | (simp only [List.length_set];omega)) J hw) fun _ _=>Og<|Ob<|Za ?_
      exact Zg<|dt (Yt J J J ⟨by omega,by omega⟩) J<|mv J J<|Zf<|Xq (i+1,_) ⟨by first | omega | (dsimp only<;>omega),by simp;omega,fun j hj=>by dsimp only;rw [hnew j];split;(· rename_i e;rw [←e]);exact hlo j (by have:j<i+1:=hj;omega),fun j hj=>by dsimp only;rw [hnew j,if_neg (by have:i+1≤j:=hj;omega)];exact hhi j (by have:i+1≤j:=hj;omega),hal2⟩ (by first | omega | (dsimp only<;>omega)) K6 K4
     ·have hnew:∀j,(o.set i (o.getD i 0/2^b)).getD j 0=if i=j then x/2^s/U^i%U else o.getD j 0:=fun j=>by
       rw [Nd _ _ _ _ _ (by omega)]
       split
       ·rw [hhi i (Nat.le_refl _),Dh hwe hbe,Zn2,Zqi _ _ (by omega)]
        rw [Nat.div_div_eq_div_mul,←Nat.pow_succ]
        exact Nat.div_eq_of_lt (Zsb (by simp only [List.length_set]at h146;omega))
       ·rfl
      have hal2:=Lk hall i (o.getD i 0/2^b) (Nat.lt_of_le_of_lt (Nat.div_le_self _ _) (Ql Pm hall _))
      exact Zk<|Ob<|Za<|Zg<|dt (Yt J J J ⟨by omega,by omega⟩) J<|mv J J<|Zf<|Xq (i+1,_) ⟨by first | omega | (dsimp only<;>omega),by simp;omega,fun j hj=>by dsimp only;rw [hnew j];split;(· rename_i e;rw [←e]);exact hlo j (by have:j<i+1:=hj;omega),fun j hj=>by dsimp only;rw [hnew j,if_neg (by have:i+1≤j:=hj;omega)];exact hhi j (by have:i+1≤j:=hj;omega),hal2⟩ (by first | omega | (dsimp only<;>omega)) K6 K4
    ·exact Yu<|Zs<|Zs<|Ox<|Qv _ ⟨by omega,by intro j hj;rw [hlo j (by omega)]⟩ K1 K4
   ·exact Zk<|Qv _ ⟨by simp,by intro j hj;rw [Zs6,Dh hwe hbe,show b=0 by omega,Nat.pow_zero,Nat.div_one]⟩ K1 K4
  ·rintro o ⟨hol,hv⟩
   simp only [List.cons_append,List.nil_append]
   refine Zb<|Zg<|mv J J<|tt (Zh (n:=3) (Py _ _) J J J K1 Zbs (Xu 3 J J pU Ze) J hw) J fun _ _=>Pq (Zff 3 J J pU)<|as_ J J<|Zf<|Za<|Zu ?_
   have hx2:tz o=dg U (x/2^s):=Zoo Qz hv (by rw [hol,Dh hwe hbe];exact Nat.lt_of_le_of_lt (Nat.div_le_self _ _) (Zsb (by omega)))
   exact Zv (.inl J) hsc _ _ (fun a w hs=>Qj hs Tryz.results195 J) J trivial J (Ps 3 J J pU hx2 Zj)
theorem Zjc(v:Value)(x:Nat)(hx:bl x≤4294967296):Cal Tryz.prog 169 #[v] [dgp v x] false (G:=Unit) (fun _=>True) (fun _=> .string (Xd x)) (fun _=>[]):=by
 refine Yd Tryz.func169 J Tryz.ntmps169 J K1 ?_
 intro w0 sc hw hsc
 simp only [Zp,Zn]
 have hX:=Md x
 have hL:=Zab x
 have hW:=lenU x
 have hrl:(List.replicate (dg 256 x).length (0:Nat)).length=(dg 256 x).length:=List.length_replicate
 refine Zb<|Zg<|as_ J J<|Zf<|Za<|Zb<|Zg<|mv J J<|tt (Zh (n:=1) (Zhn _ _ (by omega)) J J J K1 cF168 (Zd 1 J J J Ze) J hw) J fun _ _=>dt (Yt J J J ⟨by omega,by omega⟩) J<|dt (Zhz J J J (by omega) (by omega) (by omega)) J<|tt (Hw (i:=2) (n:=(dg 256 x).length) (by_:=1) (enc:=Zpl) 0 J J J J J (by omega) Zj8 Tryz.ti5 J pB.cells pB.pos J J (by omega) (by decide) J hw) J fun v _=>as_ J J<|Zf<|Za<|Zb<|Zb<|Zg<|mv J J<|dt (Zy J J (i:=2) J (Yn pB) Zj8) J<|mv J J<|Zf<|Za<|Zl<|Nt [(0,_),(3,_),(12,_)] [(0,_),(1,_)] (fun(q:Nat×List Nat)=>[(13,.int .i64 (q.1:Int))]) (fun(q:Nat×List Nat)=>[(2,osl 1 5 Zpl v q.2)]) (fun(q:Nat×List Nat)=>(q.1≤(dg 256 x).length)∧(q.2.length=(dg 256 x).length)∧(∀j,j<q.1→q.2.getD j 0=x/256^((dg 256 x).length-1-j)%256)) (fun(q:Nat×List Nat)=>(dg 256 x).length-q.1) (0,List.replicate (dg 256 x).length 0) ⟨by first | omega | (dsimp only<;>omega),by simp,fun j hj=>absurd hj (Nat.not_lt_zero j)⟩ K4 K3 ?_
 rintro⟨i,o⟩ ⟨hi,hol,hov⟩
 dsimp only at hi hol hov
 simp only [List.cons_append,List.nil_append]
 refine Zb<|Zg<|dt (Qb J J J) J<|Zf<|Za<|Zb<|Zq J (fun h48=>?_) (fun h48=>?_)
 ·refine Zk<|Za<|Zb<|Zl<|Zb<|Zg<|mv J J<|as_ J J<|Zf<|Za<|Zb<|Zg<|mv J J<|dt (Zy J J (i:=2) J (Yn pB) Zj8) J<|dt (Qg J J J ⟨by omega,by omega⟩) J<|mv J J<|dt (Qg J J J ⟨by omega,by omega⟩) J<|as_ J J<|Zf<|Za<|Ys (Ia 5 (v':= .int .i64 (((dg 256 x).length-1-i:Nat):Int)) J (by congr 1;omega)) ?_
  have hbyte:=Zj0 x ((dg 256 x).length-1-i)
  rw [←It Qz]at hbyte
  exact Zg<|mv J J<|mv J J<|mv J J<|mv J J<|dt (Zhz J J J (by omega) (by omega) (by omega)) J<|dt (Yz (ii:=1) (i:=((dg 256 x).length-1-i)/8) J J J J Zi Xt Nz (by omega) (by omega)) J<|dt (Xs (ii:=1) 0 J J J Zi pU (by omega)) J<|mv J J<|dt (Zjt J J J (by omega) (by omega)) J<|dt (Gz J J J ⟨by omega,by omega⟩) J<|dt (Zol J J (n:=((dg 256 x).length-1-i)%8*8) J (by omega) (by omega)) J<|dt (Ze5 J J Zdc uT5) J<|dt (Yz (ii:=2) J J J J (Yn pB) Zj8 zT5 J (by first | omega | (simp only [List.length_set];omega))) J<|tt (Kr (i:=2) (enc:=Zpl) _ J J J J J J (by decide) pB (by first | omega | (simp only [List.length_set];omega)) J hw) J fun _ _=>Zf<|Ob<|Za<|Zg<|dt (Yt J J J ⟨by omega,by omega⟩) J<|mv J J<|Zf<|Xq (i+1,_) ⟨by first | omega | (dsimp only<;>omega),by simp;omega,fun j hj=>by dsimp only;rw [Nd _ _ _ _ _ (by omega)];split;(· rename_i e;rw [←e];exact hbyte);exact hov j (by omega)⟩ (by first | omega | (dsimp only<;>omega)) K4 K3
 ·refine Yu<|Zs<|Zs<|Ox<|Za<|Zb<|Zg<|mv J J<|dt (d_b2s J J (i:=2) J (Yn pB) Zj8 uT9 uT5) J<|as_ J J<|Zf<|Za<|Zu ?_
  have hb:Xd x=⟨(o.map UInt8.ofNat).toArray⟩:=by
   have ho:o=(dg 256 x).reverse:=by
    refine Zbn (by simp;omega) (fun j hj=>?_)
    rw [hov j (by omega),Zjj _ _ _ (by omega),It (by omega)]
   rw [ho];rfl
  exact Zv (.inl J) hsc () _ (fun a w hs=>Qj hs Tryz.results169 J) (by rw [hb]) trivial J Zj
theorem Bz(x:Nat)(hx:bl x≤4294967296):Cal Tryz.prog 170 #[.string (Xd x)] [] false (G:=Value) (fun r=>True) (fun r=>r) (fun r=>[dgp r x]):=by
 refine Yd Tryz.func170 J Tryz.ntmps170 J trivial ?_
 intro w0 sc hw hsc
 simp only [Zp,Zn]
 have hX:=Md x
 have hL:=Zab x
 have hW:=lenU x
 have hbs:=Ms x
 refine Zb<|Zg<|as_ J J<|Zf<|Za<|Zb<|Zg<|mv J J<|dt (Ca J J uT9) J<|dt (Yt J J J ⟨by omega,by omega⟩) J<|dt (Zhz J J J (by omega) (by omega) (by omega)) J<|tt (Hw (i:=1) (n:=(dg U x).length) (by_:=8) (enc:=Iq) 0 J J J J J (by omega) Xt Tryz.ti149 J pU.cells pU.pos J J (by omega) (by decide) J hw) J fun v _=>as_ J J<|Zf<|Za<|Zb<|Zb<|Zg<|mv J J<|dt (Ca J J uT9) J<|mv J J<|Zf<|Za<|Zl<|Nt [(0,_),(3,_),(12,_)] [(0,_)] (fun(q:Nat×List Nat)=>[(13,.int .i64 (q.1:Int))]) (fun(q:Nat×List Nat)=>[(1,osl 1 149 Iq v q.2)]) (fun(q:Nat×List Nat)=>(q.1≤(dg 256 x).length)∧(q.2.length=(dg U x).length)∧(∀w,w<q.2.length→q.2.getD w 0=hi x ((dg 256 x).length-q.1) w)) (fun(q:Nat×List Nat)=>(dg 256 x).length-q.1) (0,List.replicate (dg U x).length 0) ⟨by first | omega | (dsimp only<;>omega),by simp,fun w hw=>by dsimp only at *;rw [List.length_replicate]at hw;rw [Lh,hi_top (by omega)]⟩ K4 K2 ?_
 rintro⟨i,o⟩ ⟨hik,hol,hov⟩
 dsimp only at hik hol hov
 simp only [List.cons_append,List.nil_append]
 refine Zb<|Zg<|dt (Qb J J J) J<|Zf<|Za<|Zb<|Zq J (fun h30=>?_) (fun h30=>?_)
 ·refine Zk<|Za<|Zb<|Zl<|Zb<|Zg<|mv J J<|as_ J J<|Zf<|Za<|Zb<|Zg<|mv J J<|dt (Ca J J uT9) J<|dt (Qg J J J ⟨by omega,by omega⟩) J<|mv J J<|dt (Qg J J J ⟨by omega,by omega⟩) J<|as_ J J<|Zf<|Za<|Ys (Ia 5 (v':= .int .i64 (((dg 256 x).length-1-i:Nat):Int)) J (by congr 1;omega)) ?_
  have hget:=Zc4 x i (by omega)
  have hw0:=hov (((dg 256 x).length-1-i)/8) (by omega)
  have hlt1:o.getD (((dg 256 x).length-1-i)/8) 0<U:=by rw [hw0];exact Nat.mod_lt _ Pm
  have hset:∀w,w<o.length→(o.set (((dg 256 x).length-1-i)/8) (o.getD (((dg 256 x).length-1-i)/8) 0 ||| (((Xd x).data.toList.getD i 0).toNat*2^(((dg 256 x).length-1-i)%8*8))%U)).getD w 0=hi x ((dg 256 x).length-(i+1)) w:=fun w hw=>by
   rw [hget,hw0,show(dg 256 x).length-i=(dg 256 x).length-1-i+1 by omega,hi_step,Nd _ _ _ _ _ (by omega),show(dg 256 x).length-(i+1)=(dg 256 x).length-1-i by omega]
   split
   ·rename_i e;rw [e]
   ·rename_i e;rw [hov w hw,show(dg 256 x).length-i=(dg 256 x).length-1-i+1 by omega];exact Zwo e
  refine Qs (fun _=>False) [(0,0),(1,0),(2,0),(3,0),(4,0),(5,0),(6,0),(7,0),(8,0),(9,0),(10,0),(11,0),(12,0),(13,0),(14,0),(15,3)] (by kernel_rfl) ?_ ?_
  ·kernel_rfl
  refine r0' J J J J (st0 (Ym J J))<|r0' J J J J (st0 (Ym J J))<|r0' J J J J (st0 (Zhz J J J (by omega) (by omega) (by omega)))<|r0' J J J J (st0 (Yz (ii:=1) (i:=((dg 256 x).length-1-i)/8) J J J J (Yn pU) Xt Nz (by omega) (by omega)))<|r0' J J J J (st0 (Xs (ii:=1) 0 J J J (Yn pU) pU (by first | omega | (simp only [List.length_set];omega))))<|r0' J J J J (st0 (Ym J J))<|r0' J J J J (st0 (Ym J J))<|r0' J J J J (st0 (Zpb J J J uT9 J (by omega)))<|r0' J J J J (st0 (cv_u64 J J uT5 Zdc (by have:=(((Xd x).data.toList.getD i 0).toNat_lt);simp only [U];omega)))<|r0' J J J J (st0 (Ym J J))<|r0' J J J J (st0 (Zjt J J J (by omega) (by omega)))<|r0' J J J J (st0 (Gz J J J ⟨by omega,by omega⟩))<|r0' J J J J (st0 (Zom J J (n:=((dg 256 x).length-1-i)%8*8) J (by omega) (by omega)))<|r0' J J J J (st0 (u_or J J J (hlt1) (Nat.mod_lt _ Pm)))<|r0' J J J J (st0 (Yz (ii:=1) (i:=((dg 256 x).length-1-i)/8) J J J J (Yn pU) Xt Nz (by omega) (by omega)))<|r3' J J (Kr (i:=1) (enc:=Iq) _ J J J J J J (by decide) pU (by first | omega | (simp only [List.length_set];omega)) J hw) fun _ _=>Og<|Ob<|Za<|Zg<|dt (Yt J J J ⟨by omega,by omega⟩) J<|mv J J<|Zf ?_
  exact Xq (i+1,_) ⟨by first | omega | (dsimp only<;>omega),by simp;omega,fun w hw=>hset w (by simpa using hw)⟩ (by first | omega | (dsimp only<;>omega)) K4 K2
 ·refine Yu<|Zs<|Zs<|Ox<|Za<|Zb<|Zg<|mv J J<|as_ J J<|Zf<|Za<|Zu ?_
  have ho:o=dg U x:=Zbn hol (fun j hj=>by rw [hov j hj,It Qz,hi_ge (by omega)])
  exact Zv (.inl J) hsc _ _ (fun a w hs=>Qj hs Tryz.results170 J) J trivial J (Ps 1 J J pU ho Zj)
end Go.Sky
namespace Go.Sky
open Go.Proofs
set_option maxRecDepth 20000
set_option maxHeartbeats 4000000
set_option linter.unusedSimpArgs false
set_option maxHeartbeats 2000000 in
theorem Zrw(v w:Value)(x y:Nat)(hx:bl x≤4000000000)(hy0:bl y≤4000000000)(hy:0<y):Cal Tryz.prog 174 #[v,w] [dgp v x,dgp w y] true (G:=Value×Value) (fun r=>True) (fun r=> .tuple #[r.1,r.2]) (fun r=>[dgp r.1 (x/y),dgp r.2 (x%y)]):=by
 refine Yd Tryz.func174 J Tryz.ntmps174 J K2 ?_
 intro w0 sc hw hsc
 simp only [Zp,Zn]
 have hX:=Md x
 have hY:=Md y
 refine Zb<|Zg<|as_ J J<|as_ J J<|Zf<|Za<|Zb<|Zb<|Zg<|mv J J<|mv J J<|tt (Zh (n:=2) (Bn _ _ _ _ (by omega) (by omega)) J J J K2 cF172 (Zd 1 J J J (Zd 2 J J J Ze)) J hw) J fun r hr=>dt (Qb J J J) J<|Zf<|Za<|Zq J (fun h166=>?_) (fun h166=>?_)
 ·have hlt:x<y:=hr.1.1 (by omega)
  exact Zb<|Zg<|mv J J<|as_ J J<|as_ J J<|Zf<|Za<|Zu<|Xe<|Pr (Nj 9 1 149 Iq)<|Zv (.inl J) hsc (.slice none 0 0,v) _ (fun a w hs=>Ni hs Tryz.results174 J J) J trivial J (Ps 9 J J pU (by rw [Nat.div_eq_of_lt hlt];rfl) (Yj 1 J J J (by rw [Nat.mod_eq_of_lt hlt]) Zj))
 ·have hge:y≤x:=by have:=hr.1;omega
  have hly:=Ok hge
  refine Zk<|Za<|Zb<|Zb<|Zg<|mv J J<|dt (Zy J J (i:=2) J Zi Xt) J<|dt (Pi J J J) J<|Zf<|Za<|Zq J (fun h169=>?_) (fun h169=>?_)
  ·have hyU:y<U:=by have:=(Xr Qz 1 y).1 (by omega);simpa using this
   have hd0:(dg U y).getD 0 0=y:=by rw [It Qz];simp [Nat.mod_eq_of_lt hyU]
   exact Zb<|Zg<|mv J J<|mv J J<|dt (Yz (ii:=2) (i:=0) J J J J Zi Xt Nz J (by omega)) J<|dt (Xs (ii:=2) 0 J J J Zi pU (by first | omega | (simp only [List.length_set];omega))) J<|tt (Zh (n:=3) (Zru _ _ _ (by omega) (by rw [hd0];exact hy) (by rw [hd0];exact hyU)) J J J K2 cF192 (Zd 1 J J J Ze) J hw) J fun v _=>mv J J<|dt (Yg J J J) J<|dt (Yg J J J) J<|as_ J J<|as_ J J<|Zf<|Za<|Zb<|Zg<|mv J J<|mv J J<|tt (Pt (i:=4) (ivs:=[(0,_)]) (enc:=Iq) [x%(dg U y).getD 0 0] J J J K2 Xt Tryz.ti149 J J J J J J pU.cells J J hw) J fun v_2 _=>tt (Zh (n:=4) (Py _ _) J J J K1 Zbs (Xu 4 J J pU Ze) J hw) J fun _ _=>Pq (Zff 4 J J pU)<|as_ J J<|as_ J J<|Zf<|Za<|Zu<|Xe<|Zv (.inl J) hsc (_,_) _ (fun a w hs=>Ni hs Tryz.results174 J J) J trivial J (Yj 3 J J J (by rw [hd0];rfl) (Ps 4 J J pU (by rw [Zde (Nat.lt_trans (Nat.mod_lt _ (by rw [hd0];exact hy)) (by rw [hd0];exact hyU)),hd0]) Zj))
  ·refine Zk<|Za<|Zb ?_
   obtain⟨k,hk⟩:∃k,k=(dg U y).length:=⟨_,rfl⟩
   have hkx:k≤(dg U x).length:=by omega
   obtain⟨b,hb⟩:∃b,b=64-bl ((dg U y).getD (k-1) 0):=⟨_,rfl⟩
   obtain⟨hkD0,_,hk1,hDk0,hb63,hD630⟩:=norm_dg hy hk hb
   obtain⟨D,hDe⟩:∃D,D=y*2^b:=⟨_,rfl⟩
   have hkD:(dg U D).length=k:=by rw [hDe];exact hkD0
   have hDk:D<U^k:=by rw [hDe];exact hDk0
   have hD63:U^(k-1)*9223372036854775808≤D:=by rw [hDe];exact hD630
   have hD0:0<D:=by rw [hDe];exact Nat.mul_pos hy (Nat.two_pow_pos b)
   have hDb:bl D≤4000000064:=by rw [hDe,Zph _ _ hy];omega
   refine Zg<|mv J J<|mv J J<|dt (Zy J J (i:=2) J Zi Xt) J<|dt (Qg J J J ⟨by omega,by omega⟩) J<|dt (Yz (ii:=2) (i:=(dg U y).length-1) J J J J Zi Xt Nz (by omega) (by omega)) J<|dt (Xs (ii:=2) 0 J J J Zi pU (by first | omega | (simp only [List.length_set];omega))) J<|tt (Zh (n:=4) (Zl6 _ (Ql Pm (Le Qz y) _)) J J J K1 cF189 Ze J hw) J fun _ _=>Pq (Ia 44 (v':= .int .i64 (b:Int)) J (by rw [hb,hk]))<|as_ J J<|Zf<|Za<|Dd [(0,_),(8,_)] [(0,_),(1,_),(2,_)] (fun(q:Value×Value)=>[(9,q.1),(10,q.2)]) (fun(q:Value×Value)=>[(81,dgp q.1 D),(82,osl 1 149 Iq q.2 (List.replicate ((dg U x).length+1) 0))]) (fun(q:Value×Value)=>True) K2 K3 ?_ ?_
   ·refine Ga (fun _=>False) [8] (by kernel_rfl)<|Zx (n:=4) [(0,0),(1,0),(3,0),(4,0),(5,0)] (by kernel_rfl)<|r0' J J J J (st0 (Ym J J))<|r0' J J J J (st0 (Ym J J))<|r0' J J J J (st0 (Ym J J))<|r0' J J J J (st0 (Zy J J (i:=1) J Zi Xt))<|r0' J J J J (st0 (Yt J J J ⟨by omega,by omega⟩))<|Yr<|Pu (n:=3) 2 6 (by kernel_rfl) ?_ ?_
    ·exact Yo J J (Zh (n:=81) (Ku _ _ _ (by omega) (by omega)) J J J K2 Zar (Zd 2 J J J Ze) J hw) fun v_3 _=>Zx (n:=0) [(7,0),(6,1),(8,3)] (by kernel_rfl)<|r0' J J J J (st0 (Kk J J))<|r1' J J (Hw (i:=82) (n:=(dg U x).length+1) (by_:=8) (enc:=Iq) 0 J J J J J (by omega) Xt Tryz.ti149 J pU.cells pU.pos J J (by omega) (by decide) J hw) fun v_4 _=>r3' J J (Od (Kk J J) J J) fun _ _=>Yr<|Yl (by kernel_rfl)<|Qv (_,_) trivial K4 ⟨by rw [hDe];rfl,rfl,rfl,rfl,rfl,trivial⟩
    ·exact Yo J J (Hw (i:=82) (n:=(dg U x).length+1) (by_:=8) (enc:=Iq) 0 J J J J J (by omega) Xt Tryz.ti149 J pU.cells pU.pos J J (by omega) (by decide) J hw) fun v_5 _=>Zx (n:=0) [(2,1),(7,0),(8,3)] (by kernel_rfl)<|r1' J J (Zh (n:=81) (Ku _ _ _ (by omega) (by omega)) J J J K2 Zar (Zd 2 J J J Ze) J hw) fun v_6 _=>r0' J J J J (st0 (Kk J J))<|r3' J J (Od (Kk J J) J J) fun _ _=>Yr<|Yl (by kernel_rfl)<|Qv (_,_) trivial K4 ⟨by rw [hDe];rfl,rfl,rfl,rfl,rfl,trivial⟩
   ·rintro⟨vd,vr⟩ -
    simp only [List.cons_append,List.nil_append]
    refine Zb ?_
    have hnl:(dg U (x*2^b)).length≤(dg U x).length+1:=(Xr Qz _ _).2 (by rw [Nat.pow_succ];exact Nat.mul_lt_mul_of_lt_of_le ((Xr Qz _ x).1 (Nat.le_refl _)) (by rw [U_eq];exact Nat.pow_le_pow_right (by omega) (by omega)) Pm)
    refine Zg<|mv J J<|mv J J<|mv J J<|tt (Zh (n:=5) (Ku _ _ _ (by omega) (by omega)) J J J K2 Zar (Zd 1 J J J Ze) J hw) J fun v_7 _=>tt (t_cpy (i:=82) (j:=5) 0 J J J J J J (by decide) J Zi (Zwv _ _ _) (by rw [List.length_replicate];exact hnl) (by rw [List.length_replicate];omega) (by rw [List.length_replicate];omega) Xt pU J hw) J fun _ _=>Zf<|Za<|Zb ?_
    have hR0l:(spl (List.replicate ((dg U x).length+1) 0) 0 (dg U (x*2^b))).length=(dg U x).length+1:=by rw [Ly _ _ _ (by rw [List.length_replicate];omega),List.length_replicate]
    refine Zg<|mv J J<|dt (Zy J J (i:=81) J Zi Xt) J<|as_ J J<|Zf<|Za<|Zb ?_
    have hql0:(List.replicate ((dg U x).length+1-k) (0:Nat)).length=(dg U x).length+1-k:=List.length_replicate
    refine Ys (Ia 11 (v':= .int .i64 (k:Int)) J (by rw [hkD]))<|Zg<|mv J J<|dt (Zy J J (i:=82) J (Yn pU) Xt) J<|mv J J<|dt (Qg J J J ⟨by omega,by omega⟩) J<|tt (Hw (i:=6) (n:=(dg U x).length+1-k) (by_:=8) (enc:=Iq) 0 J J J J J (by omega) Xt Tryz.ti149 J pU.cells pU.pos J J (by omega) (by decide) J hw) J fun v_8 _=>as_ J J<|Zf<|Za<|Zb<|Zb<|Zg<|mv J J<|dt (Zy J J (i:=6) J (Yn pU) Xt) J<|dt (Qg J J J ⟨by omega,by omega⟩) J<|as_ J J<|Zf<|Za<|Zl ?_
    refine Nt [(8,_),(9,_),(10,_),(11,_),(12,_)] [(0,_),(81,_),(1,_),(2,_),(5,_)] (fun(q:Nat×List Nat×List Nat)=>[(13,.int .i64 ((q.1:Int)-1))]) (fun(q:Nat×List Nat×List Nat)=>[(82,osl 1 149 Iq vr q.2.1),(6,osl 1 149 Iq v_8 q.2.2)]) (fun(q:Nat×List Nat×List Nat)=>(q.1≤(dg U x).length+1-k)∧(q.2.1.length=(dg U x).length+1)∧(∀d∈q.2.1,d<U)∧(q.2.2.length=(dg U x).length+1-k)∧(∀d∈q.2.2,d<U)∧(val U q.2.1<D*U^q.1)∧(val U (q.2.2.drop q.1)*U^q.1*D+val U q.2.1=x*2^b)) (fun(q:Nat×List Nat×List Nat)=>q.1) ((dg U x).length+1-k,spl (List.replicate ((dg U x).length+1) 0) 0 (dg U (x*2^b)),List.replicate ((dg U x).length+1-k) 0) ⟨Nat.le_refl _,hR0l,Zl7 (Ow _ Pm) (Le Qz _) 0,by simp,Ow _ Pm,by rw [Zmh,Mu Qz];exact Zwz ((Xr Qz _ x).1 (Nat.le_refl _)) hb63 hk1 (by omega) hD63,by rw [Zmh,Mu Qz];simp [val]⟩ ⟨by rw [List.length_replicate];rfl,rfl,rfl,rfl,rfl,rfl,trivial⟩ K7 ?_
    rintro⟨jj,R,q⟩ ⟨hj,hRl,hRa,hql,hqa,hV,hN⟩
    dsimp only at hj hRl hRa hql hqa hV hN
    simp only [List.cons_append,List.nil_append]
    refine Zb<|Zb<|Zg<|mv J J<|dt (Lq J J J) J<|Zf<|Za<|Zq J (fun h179=>?_) (fun h179=>?_)
    ·refine Zk<|Za<|Zb<|Zl<|Zb ?_
     have hW1:val U R<U^(jj-1+k+1):=by
      refine Nat.lt_of_lt_of_le hV ?_
      rw [show jj-1+k+1=k+jj by omega,Nat.pow_add]
      exact Nat.mul_le_mul_right _ (Nat.le_of_lt hDk)
     have hWz:tz ((R.drop (jj-1)).take (jj-1+k+1-(jj-1)))=dg U (val U R/U^(jj-1)):=win_val hRa (by omega) (by rw [show jj-1+(jj-1+k+1-(jj-1))=jj-1+k+1 by omega];exact hW1)
     have hWD:val U R/U^(jj-1)<D*U:=by
      rw [Nat.div_lt_iff_lt_mul (Nat.pow_pos Pm),Nat.mul_assoc,←Nat.pow_succ',show(jj-1).succ=jj by omega];exact hV
     have hWb:bl (val U R/U^(jj-1))≤4294967296:=by
      have h1:=Ok (Nat.le_of_lt hWD)
      have h2:=Zj3 D U
      have h3:bl U≤65:=(Mf 65 U).2 (by simp [U])
      omega
     have htop:=top_two hRa (j:=jj-1) hk1 hW1 (by omega)
     have hDt:(dg U D).getD (k-1) 0*U^(k-1)≤D:=by
      rw [It Qz];exact Nat.le_trans (Nat.mul_le_mul_right _ (Nat.mod_le _ _)) (Nat.div_mul_le_self _ _)
     have hQU:val U R/U^(jj-1)/D≤18446744073709551615:=by
      have:=(Nat.div_lt_iff_lt_mul hD0).2 (show _<U*D by rw [Nat.mul_comm];exact hWD)
      simp only [U]at this ⊢;omega
     refine Zg<|as_ J J<|Zf<|Za<|Dd [(8,_),(9,_),(10,_),(11,_),(12,_),(13,_)] [(0,_),(82,_),(6,_),(81,_),(1,_),(2,_),(5,_)] (fun(g:Nat)=>[(14,.int .u64 (g:Int))]) (fun(g:Nat)=>[]) (fun(g:Nat)=>(val U R/U^(jj-1)/D≤g)∧(g<U)) K6 K7 ?_ ?_
     ·refine Zb<|Qs (fun _=>False) [(0,0),(1,0),(2,0),(3,0),(4,0),(5,0),(6,0),(7,0),(8,0),(9,0),(10,0),(11,0)] (by kernel_rfl) ?_ ?_
      ·kernel_rfl
      refine r0' J J J J (st0 (Ym J J))<|r0' J J J J (st0 (Ym J J))<|r0' J J J J (st0 (Ym J J))<|r0' J J J J (st0 (Yt J J J ⟨by omega,by omega⟩))<|r0' J J J J (st0 (Yz (ii:=82) (i:=jj-1+k) J J J J (Yn pU) Xt Nz (by omega) (by omega)))<|r0' J J J J (st0 (Xs (ii:=82) 0 J J J (Yn pU) pU (by first | omega | (simp only [List.length_set];omega))))<|r0' J J J J (st0 (Ym J J))<|r0' J J J J (st0 (Ym J J))<|r0' J J J J (st0 (Qg J J J ⟨by omega,by omega⟩))<|r0' J J J J (st0 (Yz (ii:=81) (i:=k-1) J J J J Zi Xt Nz (by omega) (by omega)))<|r0' J J J J (st0 (Xs (ii:=81) 0 J J J Zi pU (by first | omega | (simp only [List.length_set];omega))))<|r0' J J J J (st0 (Qb J J J))<|Og<|Za<|Zq J (fun h182=>?_) (fun h182=>?_)
      ·refine Qs (fun _=>False) [(0,0),(1,0),(2,0),(3,0),(4,0),(5,0),(6,0),(7,0),(8,0),(9,0),(10,0),(11,0),(12,0),(13,0),(14,0),(15,0),(16,0),(17,0),(18,1),(19,0),(20,0),(21,0),(22,0)] (by kernel_rfl) ?_ ?_
       ·kernel_rfl
       refine r0' J J J J (st0 (Ym J J))<|r0' J J J J (st0 (Ym J J))<|r0' J J J J (st0 (Ym J J))<|r0' J J J J (st0 (Yt J J J ⟨by omega,by omega⟩))<|r0' J J J J (st0 (Yz (ii:=82) (i:=jj-1+k) J J J J (Yn pU) Xt Nz (by omega) (by omega)))<|r0' J J J J (st0 (Xs (ii:=82) 0 J J J (Yn pU) pU (by first | omega | (simp only [List.length_set];omega))))<|r0' J J J J (st0 (Ym J J))<|r0' J J J J (st0 (Ym J J))<|r0' J J J J (st0 (Ym J J))<|r0' J J J J (st0 (Yt J J J ⟨by omega,by omega⟩))<|r0' J J J J (st0 (Qg J J J ⟨by omega,by omega⟩))<|r0' J J J J (st0 (Yz (ii:=82) (i:=jj-1+k-1) J J J J (Yn pU) Xt Nz (by omega) (by omega)))<|r0' J J J J (st0 (Xs (ii:=82) 0 J J J (Yn pU) pU (by first | omega | (simp only [List.length_set];omega))))<|r0' J J J J (st0 (Ym J J))<|r0' J J J J (st0 (Ym J J))<|r0' J J J J (st0 (Qg J J J ⟨by omega,by omega⟩))<|r0' J J J J (st0 (Yz (ii:=81) (i:=k-1) J J J J Zi Xt Nz (by omega) (by omega)))<|r0' J J J J (st0 (Xs (ii:=81) 0 J J J Zi pU (by first | omega | (simp only [List.length_set];omega))))<|r1' J J (Zh (n:=6) (Zoe _ _ _ (Ql Pm hRa _) (Ql Pm (Le Qz _) _) (by omega)) J J J K3 cF193 Ze J hw) fun _ _=>r0' J J J J (st0 (Ym J J))<|r0' J J J J (st0 (Yg J J J)) ?_
       exact r0' J J J J (st0 (Yg J J J))<|r0' J J J J (st0 (Kk J J))<|Og<|Qv _ ⟨Zwp hDt (by omega) htop,Znz (Ql Pm hRa _) (by omega)⟩ K7 K7
      ·exact Zk<|Qv 18446744073709551615 ⟨hQU,by decide⟩ K7 K7
     ·rintro g ⟨hg,hgU⟩
      simp only [List.cons_append,List.nil_append]
      refine Zb<|Zg<|mv J J<|mv J J<|mv J J<|mv J J<|dt (Yt J J J ⟨by omega,by omega⟩) J<|dt (Yt J J J ⟨by omega,by omega⟩) J<|dt (d_mid (ii:=82) (i:=jj-1) (j:=jj-1+k+1) J J J J J (Yn pU) Xt Nz (by omega) (by omega) (by omega) (by omega)) J<|as_ J J<|Zf<|Za<|Zb<|Zg<|mv J J<|mv J J<|tt (Pt (i:=7) (ivs:=[(0,_)]) (enc:=Iq) [g] J J J K2 Xt Tryz.ti149 J J J J J J pU.cells J J hw) J fun v_9 _=>tt (Zh (n:=7) (Py _ _) J J J K1 Zbs (Xu 7 J J pU Ze) J hw) J fun _ _=>Pq (Zff 7 J J pU)<|Pq (Zdt 7 (Zde hgU) J J)<|tt (Zh (n:=83) (Zrv _ _ _ _ (by omega) (Nat.le_trans ((Mf 64 g).2 hgU) (by omega))) J J J K2 cF194 (Zd 81 J J J (Xu 7 J J pU Ze)) J hw) J fun v_10 _=>as_ J J<|Zf<|Za<|Zb<|Zl ?_
      refine Nt [(8,_),(9,_),(10,_),(11,_),(12,_),(13,_),(15,_)] [(0,_),(82,_),(6,_),(81,_),(1,_),(2,_),(5,_),(7,_)] (fun(q:Nat×Value)=>[(14,.int .u64 (q.1:Int)),(16,q.2)]) (fun(q:Nat×Value)=>[(83,dgp q.2 (D*q.1))]) (fun(q:Nat×Value)=>(val U R/U^(jj-1)/D≤q.1)∧(q.1<U)) (fun(q:Nat×Value)=>q.1) (g,_) ⟨by first | omega | (dsimp only<;>omega),by first | omega | (dsimp only<;>omega)⟩ K9 K9 ?_
      rintro⟨g,vp⟩ ⟨hg,hgU⟩
      dsimp only at hg hgU
      simp only [List.cons_append,List.nil_append]
      have hPb:bl (D*g)≤4294967296:=by have h1:=Zj3 D g;have h2:=(Mf 64 g).2 hgU;omega
      refine Zb<|Zb<|Zg<|mv J J<|tt (Zh (n:=7) (Py _ _) J J J K1 Zbs (An 82 J J pU (Zg6 (jj-1) (jj-1+k+1) (by omega) (by omega)) (Zh8 _ _ _ _) Ze) J hw) J fun _ _=>mv J J<|tt (Zh (n:=7) (Bn _ _ _ _ hWb hPb) J J J K2 cF172 (An 82 J J pU (row_tz hWz (by rw [hWz]) (Zg6 (jj-1) (jj-1+k+1) (by omega) (by omega))) (by rw [Nl];exact(Zh8 _ _ _ _)) (Zd 83 J J J Ze)) J hw) J fun r_2 hr_2=>dt (Qb J J J) J<|Zf<|Za<|Zq J (fun h187=>?_) (fun h187=>?_)
      ·have hlt:val U R/U^(jj-1)<D*g:=hr_2.1.1 (by omega)
       have hg1:1≤g:=by rcases Nat.eq_zero_or_pos g with h | h;(rw [h,Nat.mul_zero]at hlt;exact absurd hlt (Nat.not_lt_zero _));exact h
       have hDg:D≤D*g:=Nat.le_mul_of_pos_right _ hg1
       have hQg:val U R/U^(jj-1)/D≤g-1:=by have:=(Nat.div_lt_iff_lt_mul hD0).2 (show _<g*D by rw [Nat.mul_comm];exact hlt);omega
       exact Zk<|Za<|Zl<|Zb<|Zg<|mv J J<|dt (Zew (n:=1) J J J (by decide)) J<|as_ J J<|Zf<|Za<|Ys (Ia 14 (v':= .int .u64 ((g-1:Nat):Int)) J (Ac (Ztc hg1 hgU)))<|Zg<|mv J J<|mv J J<|tt (Zh (n:=8) (Zd9 _ _ _ _ hPb hDg) J J J K2 Ztz (Zd 83 J J J (Zd 81 J J J Ze)) J hw) J fun v_11 _=>as_ J J<|Zf<|Ob<|Pr (Nk 8 83 J J J)<|Xq (g-1,_) ⟨hQg,by dsimp only;omega⟩ (by first | omega | (dsimp only<;>omega)) K9 ⟨by rw [Nat.mul_sub_one];rfl,rfl,rfl,rfl,rfl,rfl,rfl,rfl,rfl,trivial⟩
      ·refine Yu<|Zs<|Zs<|Ox<|Za<|Zb ?_
       have hQ:g=val U R/U^(jj-1)/D:=by
        have h1:=hr_2.1
        have h2:D*g≤val U R/U^(jj-1):=by omega
        exact Nat.le_antisymm ((Nat.le_div_iff_mul_le hD0).2 (by rw [Nat.mul_comm];exact h2)) hg
       refine Zg<|mv J J<|tt (Zh (n:=8) (Py _ _) J J J K1 Zbs (An 82 J J pU (Zg6 (jj-1) (jj-1+k+1) (by omega) (by omega)) (Zh8 _ _ _ _) Ze) J hw) J fun _ _=>mv J J<|tt (Zh (n:=9) (Zd9 _ _ _ _ hWb (by omega)) J J J K2 Ztz (An 82 J J pU (row_tz hWz (by rw [hWz]) (Zg6 (jj-1) (jj-1+k+1) (by omega) (by omega))) (by rw [Nl];exact(Zh8 _ _ _ _)) (Zd 83 J J J Ze)) J hw) J fun v_12 _=>as_ J J<|Zf<|Za<|Zb ?_
       have hll:(dg U (val U R/U^(jj-1)-D*g)).length≤jj-1+k+1-(jj-1):=by
        have:val U R/U^(jj-1)-D*g<D:=by rw [hQ];have h3:=Nat.div_add_mod (val U R/U^(jj-1)) D;have h4:=Nat.mod_lt (val U R/U^(jj-1)) hD0;omega
        have:=(Xr Qz k _).2 (Nat.lt_trans this hDk)
        omega
       refine Zg<|mv J J<|tt (t_clr (zv:= .bool false) (i:=82) (z:=0) (jj-1) J J J J (by decide) (Zs3 _ _ _ (by omega)) (by omega) (by omega) Xt pU (fun w=>Tryz.zeroValue149 w) J J hw) J fun _ _=>Zf<|Za<|Zb<|Zg<|mv J J<|mv J J<|tt (t_cpy (i:=82) (j:=9) (jj-1) J J J J J J (by decide) J Zi (Zs3 _ _ _ (by rw [Ly _ _ _ (by rw [List.length_replicate];omega)];omega)) hll (by rw [Ly _ _ _ (by rw [List.length_replicate];omega)];omega) (by rw [Ly _ _ _ (by rw [List.length_replicate];omega)];omega) Xt pU J hw) J fun _ _=>Zf<|Za ?_
       have hL1:jj-1+(List.replicate (jj-1+k+1-(jj-1)) 0).length≤R.length:=by rw [List.length_replicate];omega
       have hl1:=Ly R (jj-1) _ hL1
       have hL2:jj-1+(dg U (val U R/U^(jj-1)-D*g)).length≤(spl R (jj-1) (List.replicate (jj-1+k+1-(jj-1)) 0)).length:=by omega
       have hval:=val_win hRa (j:=jj-1) (n:=jj-1+k+1-(jj-1)) (by omega) (by rw [show jj-1+(jj-1+k+1-(jj-1))=jj-1+k+1 by omega];exact hW1) hll
       rw [Mu Qz]at hval
       have hst:=Zwx (j:=jj-1) (N:=x*2^b) (Vq:=val U (q.drop jj)) hD0 hQ (by rw [show jj-1+1=jj by omega];exact hN)
       have hV2:=hst.1
       have hN2:=hst.2
       rw [←hval]at hV2 hN2
       have hdq:val U ((q.set (jj-1) g).drop (jj-1))=g+U*val U (q.drop jj):=by rw [drop_set _ _ _ (by omega),show jj-1+1=jj by omega];rfl
       rw [←hdq]at hN2
       exact Zg<|mv J J<|mv J J<|mv J J<|dt (Yz (ii:=6) (i:=jj-1) J J J J (Yn pU) Xt Nz (by omega) (by omega)) J<|tt (Kr (i:=6) (enc:=Iq) _ J J J J J J (by decide) pU (by first | omega | (simp only [List.length_set];omega)) J hw) J fun _ _=>Zf<|Ob<|Za<|Zg<|mv J J<|dt (Qg J J J ⟨by omega,by omega⟩) J<|as_ J J<|Zf<|Xq (jj-1,_,_) ⟨by first | omega | (dsimp only<;>omega),(Ly _ _ _ hL2).trans (hl1.trans hRl),Zl7 (Zl7 hRa (Ow _ Pm) _) (Le Qz _) _,by simp;omega,Lk hqa _ _ hgU,hV2,hN2⟩ (by first | omega | (dsimp only<;>omega)) ⟨by rw [show(((jj-1:Nat):Int)-1)=(jj:Int)-1-1 by omega];rfl,rfl,rfl,rfl,rfl,rfl,trivial⟩ K7
    ·refine Yu<|Zs<|Zs<|Ox<|Za<|Zb ?_
     obtain rfl:jj=0:=by omega
     rw [Nat.pow_zero,Nat.mul_one]at hV
     have hVb:bl (val U R)≤8589934592:=by have:=Ok (Nat.le_of_lt hV);omega
     refine Zg<|mv J J<|tt (Zh (n:=9) (Py _ _) J J J K1 Zbs (Xu 6 J J pU Ze) J hw) J fun _ _=>Pq (Zff 6 J J pU)<|mv J J<|tt (Zh (n:=9) (Py _ _) J J J K1 Zbs (Xu 82 J J pU Ze) J hw) J fun _ _=>Pq (Zff 82 J J pU)<|Pq (Zdt 82 (Kf Qz R hRa).symm J J)<|mv J J<|tt (Zh (n:=10) (nat_shr _ _ _ hVb (by omega)) J J J K2 cF195 (Xu 82 J J pU Ze) J hw) J fun v_13 _=>as_ J J<|as_ J J<|Zf<|Za<|Zu ?_
     rw [List.drop_zero,Nat.pow_zero,Nat.mul_one]at hN
     have hqq:tz q=dg U (x/y):=by
      rw [←Kf Qz _ hqa,←Zis x y b,←hDe,←hN,Nat.mul_comm,Nat.mul_add_div hD0,Nat.div_eq_of_lt hV,Nat.add_zero]
     have hrr:val U R/2^b=x%y:=by
      rw [←Zir x y b,←hDe,←hN,Nat.mul_comm,Nat.mul_add_mod,Nat.mod_eq_of_lt hV]
     exact Zv (.inl J) hsc (_,_) _ (fun a w hs=>Ni hs Tryz.results174 J J) J trivial J (Ps 6 J J pU hqq (Yj 10 J J J (by rw [hrr]) Zj))
theorem Zk8(v w:Value)(x y:Nat)(hx:bl x≤4000000000)(hy:bl y≤4000000000):Cal Tryz.prog 185 #[v,w] [dgp v x,dgp w y] true (G:=Value) (fun r=>True) (fun r=>r) (fun r=>[dgp r (Nat.gcd x y)]):=by
 refine Yd Tryz.func185 J Tryz.ntmps185 J K2 ?_
 intro w0 sc hw hsc
 simp only [Zp,Zn]
 have hX:=Md x
 have hY:=Md y
 refine Zb<|Zg<|as_ J J<|Zf<|Za<|Zb<|Zl<|Ys (Nk 1 91 J J J)<|Ys (Nk 2 92 J J J)<|Nt [] [(0,_),(1,_),(2,_)] (fun(q:Value×Value×Nat×Nat)=>[(0,q.1),(1,q.2.1)]) (fun(q:Value×Value×Nat×Nat)=>[(91,dgp q.1 q.2.2.1),(92,dgp q.2.1 q.2.2.2)]) (fun(q:Value×Value×Nat×Nat)=>(Nat.gcd q.2.2.1 q.2.2.2=Nat.gcd x y)∧(bl q.2.2.1≤4000000000)∧(bl q.2.2.2≤4000000000)) (fun(q:Value×Value×Nat×Nat)=>q.2.2.2) (v,w,x,y) ⟨J,hx,hy⟩ K2 K5 ?_
 rintro⟨va,vb,a,b⟩ ⟨hg,ha,hb⟩
 dsimp only at hg ha hb
 simp only [List.cons_append,List.nil_append]
 refine Zb<|Zb<|Zg<|mv J J<|dt (Zy J J (i:=92) J Zi Xt) J<|dt (On J J J) J<|Zf<|Za<|Zq J (fun h201=>?_) (fun h201=>?_)
 ·have hb0:0<b:=by rcases Nat.eq_zero_or_pos b with h | h;(subst h;simp [Ky]at h201);exact h
  refine Zk<|Za<|Zl<|Zb<|Zg<|mv J J<|mv J J<|tt (Zh (n:=3) (Zrw _ _ _ _ ha hb hb0) J J J K2 cF174 (Zd 91 J J J (Zd 92 J J J Ze)) J hw) J fun g _=>mv J J<|dt (Yg J J J) J<|dt (Yg J J J) J<|as_ J J<|as_ J J<|Zf<|Za<|Zg<|mv J J<|mv J J<|as_ J J<|as_ J J<|Zf<|Ob ?_
  have hlt:a%b<b:=Nat.mod_lt _ hb0
  exact Pr (Nk 92 91 J J J)<|Pr (Nk 4 92 J J J)<|Xq (_,_,b,a%b) ⟨by dsimp only;rw [←hg,Nat.gcd_comm b,←Nat.gcd_rec,Nat.gcd_comm],hb,Nat.le_trans (Ok (Nat.le_of_lt hlt)) hb⟩ hlt K2 K5
 ·have hb0:b=0:=(Pe Qz b).1 (by omega)
  exact Yu<|Zs<|Zs<|Ox<|Za<|Zb<|Zg<|mv J J<|as_ J J<|Zf<|Za<|Zu<|Zv (.inl J) hsc _ _ (fun a w hs=>Qj hs Tryz.results185 J) J trivial J (Yj 91 J J J (by rw [←hg,hb0,Nat.gcd_zero_right]) Zj)
end Go.Sky
namespace Go.Sky
open Go.Proofs
set_option maxRecDepth 20000
set_option maxHeartbeats 4000000
set_option linter.unusedSimpArgs false
theorem Zk5(s:Bool)(v:Value)(x:Int)(hs:sg s x):Cal Tryz.prog 134 #[.agg #[.bool s,v]] [dgp v x.natAbs] true (G:=Bool×Value) (fun r=>sg r.1 (-x)) (fun r=> .agg #[.bool r.1,r.2]) (fun r=>[dgp r.2 (-x).natAbs]):=by
 refine Yd Tryz.func134 J Tryz.ntmps134 J K1 ?_
 intro w0 sc hw hsc
 simp only [Zp,Zn]
 exact Zb<|Zg<|tt (Xl (i:=2) J J J J J J hw) J fun b _=>tt (Zo (i:=3) J J J Tryz.zeroValue154 J J hw) J fun b_2 _=>Zf<|Za<|Zb<|Zg<|dt (Xy J J Mt J zT4 J J) J<|dt (Oa (i:=2) J J J iA4 J) J<|dt (Xo J J) J<|dt (Xy J J Mt J Gs J J) J<|dt (Oa (i:=2) J J J Gy J) J<|dt (Oh (ivs:=[(0,_),(1,_)]) J K4 (fun a w hs=>Ou ((Zc J) a w hs) ((Zr (i:=1) J Zi) a w hs))) J<|tt (Zm (i:=3) J J J J J (by decide) J Yy J J ⟨Zc J,Zr (i:=1) J Zi,trivial⟩ J hw trivial) J fun _ _=>Zf<|Za<|Zu<|Zv (.inl J) hsc (!s,v) _ (fun a w hs=>Qj hs Tryz.results134 (Yp (i:=3) J J Ln Yy J)) J (sg_neg hs) J (Yj 1 J J J (by rw [Int.natAbs_neg]) Zj)
theorem Zbh(s t:Bool)(v w:Value)(x y:Int)(hs:sg s x)(ht:sg t y)(hx:bl x.natAbs≤4294967296)(hy:bl y.natAbs≤4294967296):Cal Tryz.prog 176 #[.agg #[.bool s,v],.agg #[.bool t,w]] [dgp v x.natAbs,dgp w y.natAbs] true (G:=Bool×Value) (fun r=>sg r.1 (x*y)) (fun r=> .agg #[.bool r.1,r.2]) (fun r=>[dgp r.2 (x*y).natAbs]):=by
 refine Yd Tryz.func176 J Tryz.ntmps176 J K2 ?_
 intro w0 sc hw hsc
 simp only [Zp,Zn]
 refine Zb<|Zg<|tt (Xl (i:=3) J J J J J J hw) J fun b _=>tt (Xl (i:=4) J J J J J J hw) J fun b_2 _=>tt (Zo (i:=5) J J J Tryz.zeroValue154 J J hw) J fun b_3 _=>Zf<|Za<|Zb<|Qs (fun _=>False) [(0,0),(1,0),(2,0),(3,0),(4,0),(5,0),(6,0),(7,0),(8,0),(9,1),(10,0),(11,3)] (by kernel_rfl) ?_ ?_
 ·kernel_rfl
 exact r0' J J J J (st0 (Xy J J Mt J zT4 J J))<|r0' J J J J (st0 (Oa (i:=3) J J J iA4 J))<|r0' J J J J (st0 (Xy J J Mt J zT4 J J))<|r0' J J J J (st0 (Oa (i:=4) J J J iA4 J))<|r0' J J J J (st0 (Zlu J J J uT4))<|r0' J J J J (st0 (Xy J J Mt J Gs J J))<|r0' J J J J (st0 (Oa (i:=3) J J J Gy J))<|r0' J J J J (st0 (Xy J J Mt J Gs J J))<|r0' J J J J (st0 (Oa (i:=4) J J J Gy J))<|r1' J J (Zh (n:=6) (Zrv _ _ _ _ hx hy) J J J K2 cF194 (Zd 1 J J J (Zd 2 J J J Ze)) J hw) fun v _=>r0' J J J J (st0 (Oh (ivs:=[(0,_),(1,_)]) J K4 (fun a w hs=>Ou ((Zc J) a w hs) ((Zr (i:=6) J Zi) a w hs))))<|r3' J J (Zm (i:=5) J J J J J (by decide) J Yy J J ⟨Zc J,Zr (i:=6) J Zi,trivial⟩ J hw trivial) fun _ _=>Og<|Za<|Zu<|Zv (.inl J) hsc (_,_) _ (fun a w hs=>Qj hs Tryz.results176 (Yp (i:=5) J J Ln Yy J)) J (sg_mul hs ht) J (Yj 6 J J J (by rw [Int.natAbs_mul]) Zj)
theorem Zhk(s:Bool)(v:Value)(x:Int)(hs:sg s x)(hx:bl x.natAbs≤4294967296):Cal Tryz.prog 135 #[.agg #[.bool s,v]] [dgp v x.natAbs] true (G:=Unit) (fun _=>True) (fun _=> .int .i64 x.sign) (fun _=>[]):=by
 refine Yd Tryz.func135 J Tryz.ntmps135 J K1 ?_
 intro w0 sc hw hsc
 simp only [Zp,Zn]
 have hX:=Md x.natAbs
 refine Zb<|Zg<|tt (Xl (i:=2) J J J J J J hw) J fun b _=>as_ J J<|Zf<|Za<|Zb<|Zl<|Zb<|Zg<|dt (Xy J J Mt J Gs J J) J<|dt (Oa (i:=2) J J J Gy J) J<|dt (Zy J J (i:=1) J Zi Xt) J<|dt (Pi J J J) J<|as_ J J<|Zf<|Za<|Zq J (fun h245=>?_) (fun h245=>?_)
 ·exact Zb<|Zg<|as_ J J<|Zf<|Za<|Zu<|Iw<|Xe<|Zv (.inl J) hsc () _ (fun a w hs=>Qj hs Tryz.results135 J) (Zqg h245) trivial J Zj
 ·refine Zb<|Zg<|dt (Xy J J Mt J zT4 J J) J<|dt (Oa (i:=2) J J J iA4 J) J<|as_ J J<|Zf<|Za<|Mq J (fun h247=>?_) (fun h247=>?_)
  ·exact Zb<|Zg<|as_ J J<|Zf<|Za<|Zu<|Iw<|Xe<|Zv (.inl J) hsc () _ (fun a w hs=>Qj hs Tryz.results135 J) (Zu8 hs h247 h245) trivial J Zj
  ·exact Zk<|Ob<|Za<|Zb<|Zg<|as_ J J<|Zf<|Za<|Zu<|Zv (.inl J) hsc () _ (fun a w hs=>Qj hs Tryz.results135 J) (Zu7 hs h247 h245) trivial J Zj
theorem Zd7(s t:Bool)(v w:Value)(x y:Int)(hs:sg s x)(ht:sg t y)(hx:bl x.natAbs≤4294967296)(hy:bl y.natAbs≤4294967296):Cal Tryz.prog 131 #[.agg #[.bool s,v],.agg #[.bool t,w]] [dgp v x.natAbs,dgp w y.natAbs] true (G:=Bool×Value) (fun r=>sg r.1 (x+y)) (fun r=> .agg #[.bool r.1,r.2]) (fun r=>[dgp r.2 (x+y).natAbs]):=by
 refine Yd Tryz.func131 J Tryz.ntmps131 J K2 ?_
 intro w0 sc hw hsc
 simp only [Zp,Zn]
 refine Zb<|Zg<|tt (Xl (i:=3) J J J J J J hw) J fun b _=>tt (Xl (i:=4) J J J J J J hw) J fun b_2 _=>tt (Zo (i:=5) J J J Tryz.zeroValue154 J J hw) J fun b_3 _=>Zf<|Za<|Zb<|Zl<|Zb<|Zg<|dt (Xy J J Mt J zT4 J J) J<|dt (Oa (i:=3) J J J iA4 J) J<|dt (Xy J J Mt J zT4 J J) J<|dt (Oa (i:=4) J J J iA4 J) J<|dt (d_eqb J J J uT4) J<|as_ J J<|Zf<|Za<|Mq J (fun h231=>?_) (fun h231=>?_)
 ·have hst:s=t:=by simpa using h231
  refine Zb<|Qs (fun _=>False) [(0,0),(1,0),(2,0),(3,0),(4,0),(5,0),(6,1),(7,0),(8,3)] (by kernel_rfl) ?_ ?_
  ·kernel_rfl
  exact r0' J J J J (st0 (Xy J J Mt J zT4 J J))<|r0' J J J J (st0 (Oa (i:=3) J J J iA4 J))<|r0' J J J J (st0 (Xy J J Mt J Gs J J))<|r0' J J J J (st0 (Oa (i:=3) J J J Gy J))<|r0' J J J J (st0 (Xy J J Mt J Gs J J))<|r0' J J J J (st0 (Oa (i:=4) J J J Gy J))<|r1' J J (Zh (n:=6) (Zrx _ _ _ _ hx hy) J J J K2 cF171 (Zd 1 J J J (Zd 2 J J J Ze)) J hw) fun v _=>r0' J J J J (st0 (Oh (ivs:=[(0,_),(1,_)]) J K4 (fun a w hs=>Ou ((Zc J) a w hs) ((Zr (i:=6) J Zi) a w hs))))<|r3' J J (Zm (i:=5) J J J J J (by decide) J Yy J J ⟨Zc J,Zr (i:=6) J Zi,trivial⟩ J hw trivial) fun _ _=>Og<|Za<|Zu<|Iw<|Xe<|Zv (.inl J) hsc (_,_) _ (fun a w hs=>Qj hs Tryz.results131 (Yp (i:=5) J J Ln Yy J)) J (Zqo hs (hst▸ht)) J (Yj 6 J J J (by rw [Zc6 hs (hst▸ht)]) Zj)
 ·have hst:s≠t:=by simpa using h231
  refine Zb<|Zg<|dt (Xy J J Mt J Gs J J) J<|dt (Oa (i:=3) J J J Gy J) J<|dt (Xy J J Mt J Gs J J) J<|dt (Oa (i:=4) J J J Gy J) J<|tt (Zh (n:=6) (Bn _ _ _ _ hx hy) J J J K2 cF172 (Zd 1 J J J (Zd 2 J J J Ze)) J hw) J fun r hr=>dt (Lq J J J) J<|as_ J J<|Zf<|Za<|Zq J (fun h233=>?_) (fun h233=>?_)
  ·have hge:y.natAbs≤x.natAbs:=by have:=hr.1;omega
   refine Zb<|Qs (fun _=>False) [(0,0),(1,0),(2,0),(3,0),(4,0),(5,0),(6,1),(7,0),(8,3)] (by kernel_rfl) ?_ ?_
   ·kernel_rfl
   exact r0' J J J J (st0 (Xy J J Mt J zT4 J J))<|r0' J J J J (st0 (Oa (i:=3) J J J iA4 J))<|r0' J J J J (st0 (Xy J J Mt J Gs J J))<|r0' J J J J (st0 (Oa (i:=3) J J J Gy J))<|r0' J J J J (st0 (Xy J J Mt J Gs J J))<|r0' J J J J (st0 (Oa (i:=4) J J J Gy J))<|r1' J J (Zh (n:=7) (Zd9 _ _ _ _ hx (by omega)) J J J K2 Ztz (Zd 1 J J J (Zd 2 J J J Ze)) J hw) fun v_2 _=>r0' J J J J (st0 (Oh (ivs:=[(0,_),(1,_)]) J K4 (fun a w hs=>Ou ((Zc J) a w hs) ((Zr (i:=7) J Zi) a w hs))))<|r3' J J (Zm (i:=5) J J J J J (by decide) J Yy J J ⟨Zc J,Zr (i:=7) J Zi,trivial⟩ J hw trivial) fun _ _=>Og<|Za<|Zu<|Iw<|Xe<|Zv (.inl J) hsc (_,_) _ (fun a w hs=>Qj hs Tryz.results131 (Yp (i:=5) J J Ln Yy J)) J (Zg0 hs ht hst hge) J (Yj 7 J J J (by rw [Cv hs ht hst hge]) Zj)
  ·have hge:x.natAbs≤y.natAbs:=by have:=hr.1;omega
   refine Zk<|Ob<|Za<|Zb<|Qs (fun _=>False) [(0,0),(1,0),(2,0),(3,0),(4,0),(5,0),(6,1),(7,0),(8,3)] (by kernel_rfl) ?_ ?_
   ·kernel_rfl
   exact r0' J J J J (st0 (Xy J J Mt J zT4 J J))<|r0' J J J J (st0 (Oa (i:=4) J J J iA4 J))<|r0' J J J J (st0 (Xy J J Mt J Gs J J))<|r0' J J J J (st0 (Oa (i:=4) J J J Gy J))<|r0' J J J J (st0 (Xy J J Mt J Gs J J))<|r0' J J J J (st0 (Oa (i:=3) J J J Gy J))<|r1' J J (Zh (n:=8) (Zd9 _ _ _ _ hy (by omega)) J J J K2 Ztz (Zd 2 J J J (Zd 1 J J J Ze)) J hw) fun v_3 _=>r0' J J J J (st0 (Oh (ivs:=[(0,_),(1,_)]) J K4 (fun a w hs=>Ou ((Zc J) a w hs) ((Zr (i:=8) J Zi) a w hs))))<|r3' J J (Zm (i:=5) J J J J J (by decide) J Yy J J ⟨Zc J,Zr (i:=8) J Zi,trivial⟩ J hw trivial) fun _ _=>Og<|Za<|Zu<|Zv (.inl J) hsc (_,_) _ (fun a w hs=>Qj hs Tryz.results131 (Yp (i:=5) J J Ln Yy J)) J (by rw [Int.add_comm];exact Zg0 ht hs (Ne.symm hst) hge) J (Yj 8 J J J (by rw [Int.add_comm,Cv ht hs (Ne.symm hst) hge]) Zj)
theorem Qy(s:Bool)(x:Int)(hs:sg s x)(hx:bl x.natAbs≤4294967296):Cal Tryz.prog 130 #[.agg #[.bool s,.string (Xd x.natAbs)]] [] true (G:=Bool×Value) (fun r=>sg r.1 x) (fun r=> .agg #[.bool r.1,r.2]) (fun r=>[dgp r.2 x.natAbs]):=by
 refine Yd Tryz.func130 J Tryz.ntmps130 J trivial ?_
 intro w0 sc hw hsc
 simp only [Zp,Zn]
 refine Zb<|Zg<|tt (Xl (i:=1) J J J J J J hw) J fun b _=>tt (Zo (i:=2) J J J Tryz.zeroValue154 J J hw) J fun b_2 _=>Zf<|Za<|Zb<|Qs (fun _=>False) [(0,0),(1,0),(2,0),(3,0),(4,1),(5,0),(6,3)] (by kernel_rfl) ?_ ?_
 ·kernel_rfl
 exact r0' J J J J (st0 (Xy J J Zca J zT4 J J))<|r0' J J J J (st0 (Oa (i:=1) J J J iA4 J))<|r0' J J J J (st0 (Xy J J Zca J zT9 J J))<|r0' J J J J (st0 (Oa (i:=1) J J J iA9 J))<|r1' J J (Zh (n:=3) (Bz _ hx) J J J K1 Zxb Ze J hw) fun v _=>r0' J J J J (st0 (Oh (ivs:=[(0,_),(1,_)]) J K4 (fun a w hs=>Ou ((Zc J) a w hs) ((Zr (i:=3) J Zi) a w hs))))<|r3' J J (Zm (i:=2) J J J J J (by decide) J Yy J J ⟨Zc J,Zr (i:=3) J Zi,trivial⟩ J hw trivial) fun _ _=>Og<|Za<|Zu<|Zv (.inl J) hsc (_,_) _ (fun a w hs=>Qj hs Tryz.results130 (Yp (i:=2) J J Ln Yy J)) J hs J (Yj 3 J J J J Zj)
theorem Kg(s:Bool)(v:Value)(x:Int)(hs:sg s x)(hx:bl x.natAbs≤4294967296):Cal Tryz.prog 128 #[.agg #[.bool s,v]] [dgp v x.natAbs] false (G:=Unit) (fun _=>True) (fun _=>Zb9 x) (fun _=>[]):=by
 refine Yd Tryz.func128 J Tryz.ntmps128 J K1 ?_
 intro w0 sc hw hsc
 simp only [Zp,Zn]
 refine Zb<|Zg<|tt (Xl (i:=2) J J J J J J hw) J fun b _=>tt (Zo (i:=3) J J J Tryz.zeroValue31 J J hw) J fun b_2 _=>as_ J J<|Zf<|Za<|Zb<|Zb<|Zg<|dt (Xy J J Mt J Gs J J) J<|dt (Oa (i:=2) J J J Gy J) J<|tt (Zh (n:=3) (Zhn _ _ (by omega)) J J J K1 cF168 (Zd 1 J J J Ze) J hw) J fun _ _=>dt (On J J J) J<|Zf<|Za<|Zq J (fun h219=>?_) (fun h219=>?_)
 ·exact Zb<|Zg<|dt (Oh (ivs:=[]) J trivial (fun a w hs=>b31_)) J<|tt (Zm (i:=3) J J J J J (by decide) J Yk J J ⟨Zc J,Zc J,trivial⟩ J hw trivial) J fun _ _=>as_ J J<|Zf<|Za<|Zu<|Xe<|Zv (.inl J) hsc () _ (fun a w hs=>Ni hs Tryz.results128 (Yp (i:=3) J J Qo Yk J) J) (Zpu h219) trivial J Zj
 ·refine Zk<|Za<|Zb ?_
  cases s
  ·refine Qs (fun _=>False) [(0,0),(1,0),(2,0),(3,2),(4,2),(5,2),(6,2),(7,0),(8,0),(9,0),(10,1),(11,0),(12,3),(13,3)] (by kernel_rfl) ?_ ?_
   ·kernel_rfl
   exact r0' J J J J (st0 (Xy J J Mt J zT4 J J))<|r0' J J J J (st0 (Oa (i:=2) J J J iA4 J))<|r0' J J J J (st0 (Ym J J))<|r2 J J J J J J J J<|r2 J J J J J J J J<|r2 J J J J J J J J<|r2 J J J J J J J J<|r0' J J J J (st0 (Yh J J J))<|r0' J J J J (st0 (Xy J J Mt J Gs J J))<|r0' J J J J (st0 (Oa (i:=2) J J J Gy J))<|r1' J J (Zh (n:=3) (Zjc _ _ (by omega)) J J J K1 cF169 (Zd 1 J J J Ze) J hw) fun _ _=>r0' J J J J (st0 (Oh (ivs:=[(0,_),(1,_)]) J K4 (fun a w hs=>Zt9 ((Zc J) a w hs) ((Zc J) a w hs))))<|r3' J J (Zm (i:=3) J J J J J (by decide) J Yk J J ⟨Zc J,Zc J,trivial⟩ J hw trivial) fun _ _=>r3' J J (Od (Kk J J) J J) fun _ _=>Og<|Za<|Zu<|Zv (.inl J) hsc () _ (fun a w hs=>Ni hs Tryz.results128 (Yp (i:=3) J J Qo Yk J) J) (by first | exact Zme hs h219 | exact Zmd hs h219) trivial J Zj
  ·refine Qs (fun _=>False) [(0,0),(1,0),(2,0),(3,0),(4,0),(5,0),(6,0),(7,0),(8,0),(9,0),(10,1),(11,0),(12,3),(13,3)] (by kernel_rfl) ?_ ?_
   ·kernel_rfl
   exact r0' J J J J (st0 (Xy J J Mt J zT4 J J))<|r0' J J J J (st0 (Oa (i:=2) J J J iA4 J))<|r0' J J J J (st0 (Ym J J))<|r0g (st0 (Xy J J Mt J Gs J J)) J J J J J J J<|r0g (st0 (Oa (i:=2) J J J Gy J)) J J J J J J J<|r0g (st0 (Zy J J (i:=1) J Zi Xt)) J J J J J J J<|r0g (st0 (On J J J)) J J J J J J J<|r0' J J J J (st0 (Xh J J J))<|r0' J J J J (st0 (Xy J J Mt J Gs J J))<|r0' J J J J (st0 (Oa (i:=2) J J J Gy J))<|r1' J J (Zh (n:=3) (Zjc _ _ (by omega)) J J J K1 cF169 (Zd 1 J J J Ze) J hw) fun _ _=>r0' J J J J (st0 (Oh (ivs:=[(0,_),(1,_)]) J K4 (fun a w hs=>Zt9 ((Zc J) a w hs) ((Zc J) a w hs))))<|r3' J J (Zm (i:=3) J J J J J (by decide) J Yk J J ⟨Zc J,Zc J,trivial⟩ J hw trivial) fun _ _=>r3' J J (Od (Kk J J) J J) fun _ _=>Og<|Za<|Zu<|Zv (.inl J) hsc () _ (fun a w hs=>Ni hs Tryz.results128 (Yp (i:=3) J J Qo Yk J) J) (by first | exact Zme hs h219 | exact Zmd hs h219) trivial J Zj
theorem Qt(s t:Bool)(v w:Value)(x y:Int)(hs:sg s x)(ht:sg t y)(hx:bl x.natAbs≤3000000000)(hy:bl y.natAbs≤3000000000)(hy0:y≠0):Cal Tryz.prog 133 #[.agg #[.bool s,v],.agg #[.bool t,w]] [dgp v x.natAbs,dgp w y.natAbs] true (G:=Bool×Value×Value) (fun r=>sg r.1 (x/y)) (fun r=> .tuple #[.agg #[.bool r.1,r.2.1],.agg #[.bool false,r.2.2]]) (fun r=>[dgp r.2.1 (x/y).natAbs,dgp r.2.2 (x%y).natAbs]):=by
 refine Yd Tryz.func133 J Tryz.ntmps133 J K2 ?_
 intro w0 sc hw hsc
 simp only [Zp,Zn]
 have hX:=Md x.natAbs
 have hY:=Md y.natAbs
 have hyp:0<y.natAbs:=by omega
 have hrl:x.natAbs%y.natAbs<y.natAbs:=Nat.mod_lt _ hyp
 have hrb:=Ok (Nat.le_of_lt hrl)
 have hqb:=Ok (Nat.div_le_self x.natAbs y.natAbs)
 refine Zb<|Zg<|tt (Xl (i:=3) J J J J J J hw) J fun b _=>tt (Xl (i:=4) J J J J J J hw) J fun b_2 _=>tt (Zo (i:=5) J J J Tryz.zeroValue154 J J hw) J fun b_3 _=>tt (Zo (i:=6) J J J Tryz.zeroValue154 J J hw) J fun b_4 _=>Zf<|Za<|Zb<|Zg<|dt (Xy J J Mt J Gs J J) J<|dt (Oa (i:=3) J J J Gy J) J<|dt (Xy J J Mt J Gs J J) J<|dt (Oa (i:=4) J J J Gy J) J<|tt (Zh (n:=7) (Zrw _ _ _ _ (by omega) (by omega) hyp) J J J K2 cF174 (Zd 1 J J J (Zd 2 J J J Ze)) J hw) J fun g _=>mv J J<|dt (Yg J J J) J<|dt (Yg J J J) J<|as_ J J<|as_ J J<|Zf<|Za<|Zb<|Zb<|Zg<|dt (Xy J J Mt J zT4 J J) J<|dt (Oa (i:=3) J J J iA4 J) J<|mv J J<|Es (d:=18) J (fun s256=>?_) (fun s256=>?_)
 ·refine gdt (Ym J J) J J J J<|gdt (Zy J J (i:=8) J Zi Xt) J J J J<|gdt (On J J J) J J J J<|dt (Xh J J J) J<|Zf<|Za<|Zq J (fun h256=>?_) (fun h256=>?_)
  ·subst s256
   have hR0:0<x.natAbs%y.natAbs:=by rcases Nat.eq_zero_or_pos (x.natAbs%y.natAbs)with h | h;(rw [h]at h256;simp [Ky]at h256);exact h
   have hD:=divA hs ht hy0 hR0
   refine Qs (fun _=>False) [(0,0),(3,0),(4,0),(5,0),(1,1),(2,1),(6,1),(7,0),(8,3)] (by kernel_rfl) ?_ ?_
   ·kernel_rfl
   refine r0' J J J J (st0 (Ym J J))<|r0' J J J J (st0 (Xy J J Mt J Gs J J))<|r0' J J J J (st0 (Oa (i:=4) J J J Gy J))<|r0' J J J J (st0 (Ym J J))<|r1' J J (Pt (i:=9) (ivs:=[(0,_)]) (enc:=Iq) (dg U 1) J J J K2 Xt Tryz.ti149 J J J J J J pU.cells J J hw) fun v _=>r1' J J (Zh (n:=10) (Zrx _ _ _ _ (by omega) (show bl 1≤4294967296 by decide)) J J J K2 cF171 (Zd 7 J J J (Xu 9 J J pU Ze)) J hw) fun v_2 _=>r1' J J (Zh (n:=11) (Zd9 _ _ _ _ (by omega) (by omega)) J J J K2 Ztz (Zd 2 J J J (Zd 8 J J J Ze)) J hw) fun v_3 _=>r0' J J J J (st0 (Kk J J))<|r3' J J (Od (Kk J J) J J) fun _ _=>Og<|Za<|Zb<|Zg<|dt (Xy J J Mt J zT4 J J) J<|dt (Oa (i:=3) J J J iA4 J) J<|dt (Xy J J Mt J zT4 J J) J<|dt (Oa (i:=4) J J J iA4 J) J<|dt (Zlu J J J uT4) J<|mv J J<|dt (Oh (ivs:=[(0,_),(1,_)]) J K4 (fun a w hs=>Ou ((Zc J) a w hs) ((Zr (i:=10) J Zi) a w hs))) J<|mv J J<|dt (Oh (ivs:=[(0,_),(1,_)]) J K4 (fun a w hs=>Ou ((Zc J) a w hs) ((Zr (i:=11) J Zi) a w hs))) J<|tt (Zm (i:=5) J J J J J (by decide) J Yy J J ⟨Zc J,Zr (i:=10) J Zi,trivial⟩ J hw trivial) J (fun _ _=>?_)
   exact tt (Zm (i:=6) J J J J J (by decide) J Yy J J ⟨Zc J,Zr (i:=11) J Zi,trivial⟩ J hw trivial) J fun _ _=>Zf<|Za<|Zu<|Zv (.inl J) hsc (_,_,_) _ (fun a w hs=>Ni hs Tryz.results133 (Yp (i:=5) J J Ln Yy J) (Yp (i:=6) J J Ln Yy J)) J hD.1 J (Yj 10 J J J (by rw [hD.2.1]<;>rfl) (Yj 11 J J J (by rw [hD.2.2]<;>rfl) Zj))
  ·have hD:=divB hs ht hy0 (.inr ((Pe Qz _).1 (by omega)))
   exact Zk<|Za<|Zb<|Zg<|dt (Xy J J Mt J zT4 J J) J<|dt (Oa (i:=3) J J J iA4 J) J<|dt (Xy J J Mt J zT4 J J) J<|dt (Oa (i:=4) J J J iA4 J) J<|dt (Zlu J J J uT4) J<|mv J J<|dt (Oh (ivs:=[(0,_),(1,_)]) J K4 (fun a w hs=>Ou ((Zc J) a w hs) ((Zr (i:=7) J Zi) a w hs))) J<|mv J J<|dt (Oh (ivs:=[(0,_),(1,_)]) J K4 (fun a w hs=>Ou ((Zc J) a w hs) ((Zr (i:=8) J Zi) a w hs))) J<|tt (Zm (i:=5) J J J J J (by decide) J Yy J J ⟨Zc J,Zr (i:=7) J Zi,trivial⟩ J hw trivial) J fun _ _=>tt (Zm (i:=6) J J J J J (by decide) J Yy J J ⟨Zc J,Zr (i:=8) J Zi,trivial⟩ J hw trivial) J fun _ _=>Zf<|Za<|Zu<|Zv (.inl J) hsc (_,_,_) _ (fun a w hs=>Ni hs Tryz.results133 (Yp (i:=5) J J Ln Yy J) (Yp (i:=6) J J Ln Yy J)) J hD.1 J (Yj 7 J J J (by rw [hD.2.1]<;>rfl) (Yj 8 J J J (by rw [hD.2.2]<;>rfl) Zj))
 ·have hD:=divB hs ht hy0 (.inl s256)
  exact gsk J J J J J<|gsk J J J J J<|gsk J J J J J<|dt (Yh J J J) J<|Zf<|Za<|Yf J<|Zk<|Za<|Zb<|Zg<|dt (Xy J J Mt J zT4 J J) J<|dt (Oa (i:=3) J J J iA4 J) J<|dt (Xy J J Mt J zT4 J J) J<|dt (Oa (i:=4) J J J iA4 J) J<|dt (Zlu J J J uT4) J<|mv J J<|dt (Oh (ivs:=[(0,_),(1,_)]) J K4 (fun a w hs=>Ou ((Zc J) a w hs) ((Zr (i:=7) J Zi) a w hs))) J<|mv J J<|dt (Oh (ivs:=[(0,_),(1,_)]) J K4 (fun a w hs=>Ou ((Zc J) a w hs) ((Zr (i:=8) J Zi) a w hs))) J<|tt (Zm (i:=5) J J J J J (by decide) J Yy J J ⟨Zc J,Zr (i:=7) J Zi,trivial⟩ J hw trivial) J fun _ _=>tt (Zm (i:=6) J J J J J (by decide) J Yy J J ⟨Zc J,Zr (i:=8) J Zi,trivial⟩ J hw trivial) J fun _ _=>Zf<|Za<|Zu<|Zv (.inl J) hsc (_,_,_) _ (fun a w hs=>Ni hs Tryz.results133 (Yp (i:=5) J J Ln Yy J) (Yp (i:=6) J J Ln Yy J)) J hD.1 J (Yj 7 J J J (by rw [hD.2.1]<;>rfl) (Yj 8 J J J (by rw [hD.2.2]<;>rfl) Zj))
end Go.Sky

