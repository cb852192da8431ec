/- rules, arithmetic and contracts: part 5
   Proved without conditions of its own: each theorem bears its own. -/
import Derived.Test.YtcmiiammekgooaaGreatSl03
import Derived.Test.YtcmiiammekgooaaGreatSl02
import Derived.Test.YtcmiiammekgooaaGreatSl01
set_option linter.all false
namespace Go.Sky
open Go.Proofs.Tryz
open Go.Proofs
set_option maxRecDepth 20000
set_option maxHeartbeats 4000000
set_option linter.unusedSimpArgs false
theorem Zui(v:Value)(xs:List Nat)(hx:xs.length*8≤140737488355328):CalO prog 200 #[v] [slp 1 Iz v xs] (G:=Value) (fun r=>True) (fun r=>r) (fun r=>osl 1 149 Iz r xs):=by
 refine Zur func200 J ntmps200 J K1 ?_
 intro w0 sc hw hsc
 simp only [Zp,Zn]
 refine Mc (f_nil (i:=1) J Zi) fun hnil=>Zc<|Zg<|as_ J<|Zf<|Za<|Zc<|Zc<|Zg<|mv J<|dt (Zt7 J J J (i:=1) J Zi Xv)<|Zf<|Za<|Lm J (fun h357=>?_) (fun h357=>?_)
 ·refine Zc<|Zg<|as_ J<|Zf<|Za<|Zv<|Xc ?_
  obtain rfl:xs=[]:=hnil (by simpa using h357)
  exact Qv (Nj 9 1 149 Iz)<|Zmq (.inl J) (.slice none 0 0) _ (fun a w hs=>Nn hs results200 J) J trivial J 9 J J J
 ·exact Zj<|Za<|Zc<|Zg<|tt (t_bs0 (i:=2) (enc:=Iz) J J J Xv pU J hw) fun v _=>mv J<|tt (Im (i:=2) (j:=1) (by_:=8) J J J J J J (by decide) J Zi Xv ti149 J pU J J J (by simp;omega) (by decide) J hw) fun v_2 _=>as_ J<|Zf<|Za<|Zv<|Zmq (.inl J) _ _ (fun a w hs=>Nn hs results200 J) J trivial J 2 J (by rfl) J
set_option maxHeartbeats 1600000 in
theorem Zo0(h l y:Nat)(hl:l<U)(hy:y<U)(hh:h<y):Ml prog 193 #[.int .u64 (h:Int),.int .u64 (l:Int),.int .u64 (y:Int)] [] (.tuple #[.int .u64 (((h*U+l)/y:Nat):Int),.int .u64 (((h*U+l)%y:Nat):Int)]):=by
 refine Ya func193 J ntmps193 J trivial ?_
 intro w0 sc hw hsc
 simp only [Zp,Zn]
 have hUe:U=18446744073709551616:=rfl
 have hp:0<y:=by omega
 have hbl:bl y≤64:=(Me 64 y).2 hy
 obtain⟨s,hs⟩:∃s,s=64-bl y:=⟨_,rfl⟩
 obtain⟨Y,hYe⟩:∃Y,Y=y*2^s:=⟨_,rfl⟩
 obtain⟨hY1,hY2⟩:=Zw5 hp hy hs
 rw [←hYe]at hY1 hY2
 have hYU:=hY2
 obtain⟨D,hD⟩:∃D,D=(h*U+l)*2^s:=⟨_,rfl⟩
 obtain⟨u,hue⟩:∃u,u=D/U:=⟨_,rfl⟩
 obtain⟨v,hve⟩:∃v,v=D%U:=⟨_,rfl⟩
 obtain⟨v1,hv1e⟩:∃x,x=v/4294967296:=⟨_,rfl⟩
 obtain⟨v0,hv0e⟩:∃x,x=v%4294967296:=⟨_,rfl⟩
 obtain⟨y1,hy1e⟩:∃x,x=Y/4294967296:=⟨_,rfl⟩
 obtain⟨y0,hy0e⟩:∃x,x=Y%4294967296:=⟨_,rfl⟩
 have hYs:Y=y1*4294967296+y0:=by omega
 have hhs:=shl_lt hh (show y*2^s<U by rw [←hYe];exact hY2)
 have huY:u<Y:=by rw [hue,hD,hYe];exact top_lt hl hh
 have hu:u<y1*4294967296+y0:=by omega
 have hvU:v<U:=by rw [hve];exact Nat.mod_lt _ Pq
 have hy1:2147483648≤y1:=by omega
 have hy1l:y1<4294967296:=by omega
 have hy0:y0<4294967296:=by omega
 have hv1:v1<4294967296:=by omega
 have hv0:v0<4294967296:=by omega
 obtain⟨Q1,hQ1⟩:∃x,x=(u*4294967296+v1)/Y:=⟨_,rfl⟩
 obtain⟨t,hte⟩:∃x,x=(u*4294967296+v1)%Y:=⟨_,rfl⟩
 have htY:t<Y:=by rw [hte];exact Nat.mod_lt _ (by omega)
 have ht:t<y1*4294967296+y0:=by omega
 obtain⟨Q0,hQ0⟩:∃x,x=(t*4294967296+v0)/Y:=⟨_,rfl⟩
 have hY0:0<Y:=by omega
 obtain⟨hd1,hd2⟩:=dv_two (D:=D) hY0 hue hve hv1e hv0e
 rw [←hQ1,←hte,←hQ0]at hd1
 rw [←hte]at hd2
 have hQ0l:Q0<4294967296:=by rw [hQ0,hYs];exact dv_Q hv0 ht
 have hQ1l:Q1<4294967296:=by rw [hQ1,hYs];exact dv_Q hv1 hu
 refine Zc<|Zg<|as_ J<|as_ J<|Zf<|Za<|Zc<|Zc<|Zg<|mv J<|dt (Pm J J J)<|Zf<|Za<|Zq J (fun h519=>?_) (fun h519=>?_)
 ·exfalso;omega
 ·refine Zj<|Za<|Zc<|Zc<|Zg<|mv J<|mv J<|dt (Co J J J)<|Zf<|Za<|Zq J (fun h522=>?_) (fun h522=>?_)
  ·exfalso;omega
  ·refine Zj<|Za<|Zc<|Zc<|Zg<|mv J<|dt (Pm J J J)<|Zf<|Za<|Zq J (fun h527=>?_) (fun h527=>?_)
   ·refine Zc<|Ql (fun _=>False) [(0,0),(1,0),(2,0),(3,0),(4,0),(5,0),(6,0),(7,3)] ?_ ?_
    ·kernel_rfl
    exact r0' J J (st0 (Ym J J))<|r0' J J (st0 (Ym J J))<|r0' J J (st0 (u_quo J J J))<|r0' J J (st0 (Ym J J))<|r0' J J (st0 (Ym J J))<|r0' J J (st0 (u_rem J J J (by omega)))<|r0' J J (st0 (Lq J J))<|r3' J (Px (Lq J J) J) fun _ _=>Og<|Za<|Zv<|Xc<|Yn (.inl J) hsc () _ (fun a w hs=>Np hs results193 J J) (by have h0:h=0:=(by omega);rw [h0];simp) trivial J Zk
   ·refine Zj<|Za<|Zc<|Zg<|mv J<|tt (Zh (n:=0) (Zmn _ hy) J J J K1 call189 Ze J hw) fun _ _=>dt (cv_u64 J J uT3 underlying212 (by simp only [U];omega))<|as_ J<|Zf<|Za<|Zc<|Yl (Ib 8 (v':= .int .u64 (s:Int)) J (by rw [hs]))<|Zg<|mv J<|mv J<|dt (Zpa J J J J)<|as_ J<|Zf<|Za<|Zc<|Yl (Ib 2 (v':= .int .u64 (Y:Int)) J (by rw [hYe,Nat.mod_eq_of_lt (by rw [←hYe];exact hYU)]))<|Zg<|mv J<|dt (Gu (n:=32) (n':=4294967296) J J J J J)<|as_ J<|Zf<|Za<|Zc<|Zg<|mv J<|dt (Zqp J J J)<|as_ J<|Zf<|Za<|Zc<|Zg<|mv J<|mv J<|dt (Zpa J J J J)<|mv J<|mv J<|dt (Zfj J J J (by first | exact Nat.mod_lt _ Pq | omega))<|dt (Zo9 J J (n:=64-s) J (by simp only [U];omega))<|dt (u_or J J J (Nat.mod_lt _ Pq) (Nat.lt_of_le_of_lt (Nat.div_le_self _ _) hl))<|as_ J<|Zf<|Za<|Zc<|Yl (Ib 11 (v':= .int .u64 (u:Int)) J (by rw [hue,hD,Zw1 (by omega) hhs hl]))<|Zg<|mv J<|mv J<|dt (Zpa J J J J)<|as_ J<|Zf<|Za<|Zc<|Yl (Ib 12 (v':= .int .u64 (v:Int)) J (by rw [hve,hD,Zss h l s]))<|Zg<|mv J<|dt (Gu (n:=32) (n':=4294967296) J J J J J)<|as_ J<|Zf<|Za<|Zc<|Yl (Ib 13 (v':= .int .u64 (v1:Int)) J (by rw [hv1e]))<|Zg<|mv J ?_
    refine dt (Zqp J J J)<|as_ J<|Zf<|Za<|Zc<|Yl (Ib 14 (v':= .int .u64 (v0:Int)) J (by rw [Zo3,hv0e]))<|Yl (Ib 9 (v':= .int .u64 (y1:Int)) J (by rw [hy1e]))<|Yl (Ib 10 (v':= .int .u64 (y0:Int)) J (by rw [Zo3,hy0e]))<|Zg<|mv J<|mv J<|dt (u_quo J J J)<|as_ J<|Zf<|Za<|Zc<|Zg<|mv J<|mv J<|mv J<|dt (Bm J J J)<|dt (Zfj J J J (by first | exact Nat.mod_lt _ Pq | omega))<|as_ J<|Zf<|Za<|Dj [(2,_),(8,_),(9,_),(10,_),(11,_),(13,_),(14,_)] [(0,_)] (fun(_:Unit)=>[(15,.int .u64 ((Q1:Nat):Int))]) (fun(_:Unit)=>[]) (fun(_:Unit)=>True) K7 K1 ?_ ?_
    ·refine Zl<|Yl (Ib 16 (v':= .int .u64 ((u%y1:Nat):Int)) J (by rw [rsub (by omega) (by omega)]))<|Nt [(2,_),(8,_),(9,_),(10,_),(11,_),(13,_),(14,_)] [(0,_)] (fun(q:Nat×Nat)=>[(15,.int .u64 (q.1:Int)),(16,.int .u64 (q.2:Int))]) (fun(q:Nat×Nat)=>[]) (fun(q:Nat×Nat)=>(dvI u v1 y1 y0 q.1 q.2)∧(q.2<4294967296)) (fun(q:Nat×Nat)=>q.1) (u/y1,u%y1) ⟨dv0 hy1 hy1l hy0 hv1 hu,Nat.lt_trans (Nat.mod_lt _ (by omega)) hy1l⟩ K9 K1 ?_
     rintro⟨a,r⟩ ⟨hI,hr⟩
     dsimp only at hI hr
     simp only [CA,NA]
     have hI1:=hI.1
     have hI2:=hI.2.1
     refine Zc<|Zc<|Zg<|mv J<|dt (Lx J J J)<|mv J<|Qu (d:=69) J (fun s547=>?_) (fun s547=>?_)
     ·refine gsk J J J<|gsk J J J<|gsk J J J<|gsk J J J<|gsk J J J<|gsk J J J<|gsk J J J<|gsk J J J<|dt (Xh J J J)<|Zf<|Za<|Ov J<|Zj<|Za<|Zl<|Zc ?_
      have hst:=Zig (by omega) hI hv1 hu (by omega)
      have hst1:=hst.1
      refine Zg<|mv J<|dt (Zfj (n:=1) J J J)<|as_ J<|Zf<|Za<|Zc<|Yl (Ib 15 (v':= .int .u64 ((a-1:Nat):Int)) J (Zad (Zt4 hst1 (by omega))))<|Zg<|mv J<|mv J<|dt (Ac J J J)<|as_ J<|Zf<|Za<|Zc<|Yl (Ib 16 (v':= .int .u64 ((r+y1:Nat):Int)) J (Zad (Nat.mod_eq_of_lt (by omega))))<|Zg<|mv J<|dt (Lx J J J)<|Zf<|Za<|Zq J (fun h550=>?_) (fun h550=>?_)
      ·refine Yu<|Zo7<|Zu<|Ox ?_
       have hq:Q1=a-1:=by rw [hQ1,hYs];exact(Zdk (by omega) hy0 hst.2 (by omega) (by omega)).symm
       exact Qy () trivial ⟨by rw [hq];rfl,rfl,rfl,rfl,rfl,rfl,rfl,rfl,trivial⟩ K1
      ·exact Zj<|Oa<|Xk (a-1,r+y1) ⟨hst.2,by dsimp only;omega⟩ (by first | omega | (dsimp only<;>omega)) K9 K1
     ·have hm1:=Zny (show a<4294967296 by omega) hy0
      have e1:=Nat.mod_eq_of_lt (show a*y0<U from hm1)
      have e2:=Nat.mod_eq_of_lt (show 4294967296*r<U by omega)
      have e3:=Nat.mod_eq_of_lt (show 4294967296*r+v1<U by omega)
      refine gdt (Ym J J) J J<|gdt (Ym J J) J J<|gdt (Bm J J J) J J<|gdt (Ym J J) J J<|gdt (Bm J J J) J J<|gdt (Ym J J) J J<|gdt (Ac J J J) J J<|gdt (Oq J J J) J J<|dt (Yh J J J)<|Zf<|Za<|Zq J (fun h547=>?_) (fun h547=>?_)
      ·rw [e1,e2,e3]at h547
       refine Zj<|Za<|Zl<|Zc ?_
       have hst:=Zig (by omega) hI hv1 hu (by omega)
       have hst1:=hst.1
       refine Zg<|mv J<|dt (Zfj (n:=1) J J J)<|as_ J<|Zf<|Za<|Zc<|Yl (Ib 15 (v':= .int .u64 ((a-1:Nat):Int)) J (Zad (Zt4 hst1 (by omega))))<|Zg<|mv J<|mv J<|dt (Ac J J J)<|as_ J<|Zf<|Za<|Zc<|Yl (Ib 16 (v':= .int .u64 ((r+y1:Nat):Int)) J (Zad (Nat.mod_eq_of_lt (by omega))))<|Zg<|mv J<|dt (Lx J J J)<|Zf<|Za<|Zq J (fun h550_2=>?_) (fun h550_2=>?_)
       ·refine Yu<|Zo7<|Zu<|Ox ?_
        have hq:Q1=a-1:=by rw [hQ1,hYs];exact(Zdk (by omega) hy0 hst.2 (by omega) (by omega)).symm
        exact Qy () trivial ⟨by rw [hq];rfl,rfl,rfl,rfl,rfl,rfl,rfl,rfl,trivial⟩ K1
       ·exact Zj<|Oa<|Xk (a-1,r+y1) ⟨hst.2,by dsimp only;omega⟩ (by first | omega | (dsimp only<;>omega)) K9 K1
      ·rw [e1,e2,e3]at h547
       refine Yu<|Zu<|Zu<|Ox ?_
       have hq:Q1=a:=by rw [hQ1,hYs];exact(Zl9 (by omega) hI (by omega)).symm
       exact Qy () trivial ⟨by rw [hq];rfl,rfl,rfl,rfl,rfl,rfl,rfl,rfl,trivial⟩ K1
    ·rintro _ -
     simp only [CA,NA]
     refine Zc<|Zg<|mv J<|dt (Bm J J J)<|mv J<|dt (Ac J J J)<|mv J<|mv J<|dt (Bm J J J)<|dt (Zfj J J J (by first | exact Nat.mod_lt _ Pq | omega))<|as_ J<|Zf<|Za<|Zc<|Yl (Ib 17 (v':= .int .u64 (t:Int)) J (by rw [hte,hQ1,Ztu hY0 hYU]))<|Zg<|mv J<|mv J<|dt (u_quo J J J)<|as_ J<|Zf<|Za<|Zc<|Zg<|mv J<|mv J<|mv J<|dt (Bm J J J)<|dt (Zfj J J J (by first | exact Nat.mod_lt _ Pq | omega))<|as_ J<|Zf<|Za<|Dj [(2,_),(8,_),(14,_),(15,_),(17,_)] [(0,_)] (fun(_:Unit)=>[(18,.int .u64 ((Q0:Nat):Int))]) (fun(_:Unit)=>[]) (fun(_:Unit)=>True) K5 K1 ?_ ?_
     ·refine Zl<|Yl (Ib 16 (v':= .int .u64 ((t%y1:Nat):Int)) J (by rw [rsub (by omega) (by omega)]))<|Nt [(2,_),(8,_),(9,_),(10,_),(14,_),(15,_),(17,_)] [(0,_)] (fun(q:Nat×Nat)=>[(18,.int .u64 (q.1:Int)),(16,.int .u64 (q.2:Int))]) (fun(q:Nat×Nat)=>[]) (fun(q:Nat×Nat)=>(dvI t v0 y1 y0 q.1 q.2)∧(q.2<4294967296)) (fun(q:Nat×Nat)=>q.1) (t/y1,t%y1) ⟨dv0 hy1 hy1l hy0 hv0 ht,Nat.lt_trans (Nat.mod_lt _ (by omega)) hy1l⟩ K9 K1 ?_
      rintro⟨a,r⟩ ⟨hI,hr⟩
      dsimp only at hI hr
      simp only [CA,NA]
      have hI1:=hI.1
      have hI2:=hI.2.1
      refine Zc<|Zc<|Zg<|mv J<|dt (Lx J J J)<|mv J<|Qu (d:=104) J (fun s559=>?_) (fun s559=>?_)
      ·refine gsk J J J<|gsk J J J<|gsk J J J<|gsk J J J<|gsk J J J<|gsk J J J<|gsk J J J<|gsk J J J<|dt (Xh J J J)<|Zf<|Za<|Ov J<|Zj<|Za<|Zl<|Zc ?_
       have hst:=Zig (by omega) hI hv0 ht (by omega)
       have hst1:=hst.1
       refine Zg<|mv J<|dt (Zfj (n:=1) J J J)<|as_ J<|Zf<|Za<|Zc<|Yl (Ib 18 (v':= .int .u64 ((a-1:Nat):Int)) J (Zad (Zt4 hst1 (by omega))))<|Zg<|mv J<|mv J<|dt (Ac J J J)<|as_ J<|Zf<|Za<|Zc<|Yl (Ib 16 (v':= .int .u64 ((r+y1:Nat):Int)) J (Zad (Nat.mod_eq_of_lt (by omega))))<|Zg<|mv J<|dt (Lx J J J)<|Zf<|Za<|Zq J (fun h562=>?_) (fun h562=>?_)
       ·refine Yu<|Zo7<|Zu<|Ox ?_
        have hq:Q0=a-1:=by rw [hQ0,hYs];exact(Zdk (by omega) hy0 hst.2 (by omega) (by omega)).symm
        exact Qy () trivial ⟨by rw [hq];rfl,rfl,rfl,rfl,rfl,rfl,trivial⟩ K1
       ·exact Zj<|Oa<|Xk (a-1,r+y1) ⟨hst.2,by dsimp only;omega⟩ (by first | omega | (dsimp only<;>omega)) K9 K1
      ·have hm1:=Zny (show a<4294967296 by omega) hy0
       have e1:=Nat.mod_eq_of_lt (show a*y0<U from hm1)
       have e2:=Nat.mod_eq_of_lt (show 4294967296*r<U by omega)
       have e3:=Nat.mod_eq_of_lt (show 4294967296*r+v0<U by omega)
       refine gdt (Ym J J) J J<|gdt (Ym J J) J J<|gdt (Bm J J J) J J<|gdt (Ym J J) J J<|gdt (Bm J J J) J J<|gdt (Ym J J) J J<|gdt (Ac J J J) J J<|gdt (Oq J J J) J J<|dt (Yh J J J)<|Zf<|Za<|Zq J (fun h559=>?_) (fun h559=>?_)
       ·rw [e1,e2,e3]at h559
        refine Zj<|Za<|Zl<|Zc ?_
        have hst:=Zig (by omega) hI hv0 ht (by omega)
        have hst1:=hst.1
        refine Zg<|mv J<|dt (Zfj (n:=1) J J J)<|as_ J<|Zf<|Za<|Zc<|Yl (Ib 18 (v':= .int .u64 ((a-1:Nat):Int)) J (Zad (Zt4 hst1 (by omega))))<|Zg<|mv J<|mv J<|dt (Ac J J J)<|as_ J<|Zf<|Za<|Zc<|Yl (Ib 16 (v':= .int .u64 ((r+y1:Nat):Int)) J (Zad (Nat.mod_eq_of_lt (by omega))))<|Zg<|mv J<|dt (Lx J J J)<|Zf<|Za<|Zq J (fun h562_2=>?_) (fun h562_2=>?_)
        ·refine Yu<|Zo7<|Zu<|Ox ?_
         have hq:Q0=a-1:=by rw [hQ0,hYs];exact(Zdk (by omega) hy0 hst.2 (by omega) (by omega)).symm
         exact Qy () trivial ⟨by rw [hq];rfl,rfl,rfl,rfl,rfl,rfl,trivial⟩ K1
        ·exact Zj<|Oa<|Xk (a-1,r+y1) ⟨hst.2,by dsimp only;omega⟩ (by first | omega | (dsimp only<;>omega)) K9 K1
       ·rw [e1,e2,e3]at h559
        refine Yu<|Zu<|Zu<|Ox ?_
        have hq:Q0=a:=by rw [hQ0,hYs];exact(Zl9 (by omega) hI (by omega)).symm
        exact Qy () trivial ⟨by rw [hq];rfl,rfl,rfl,rfl,rfl,rfl,trivial⟩ K1
     ·rintro _ -
      simp only [CA,NA]
      refine Zc<|Zg<|mv J<|dt (Bm J J J)<|mv J<|dt (Ac J J J)<|mv J<|dt (Bm J J J)<|mv J<|dt (Ac J J J)<|mv J<|mv J<|dt (Bm J J J)<|dt (Zfj J J J (by first | exact Nat.mod_lt _ Pq | omega))<|mv J<|dt (Zo9 J J J J)<|as_ J<|as_ J<|Zf<|Za<|Zv ?_
      have hA:(Q1*4294967296%U+Q0)%U=(h*U+l)/y:=by rw [←Zjb _ y s,←hD,←hYe,hd1];simp only [U];omega
      have hB:((t*4294967296%U+v0)%U+(U-(Q0*Y)%U))%U/2^s=(h*U+l)%y:=by rw [←Zja _ y s,←hD,←hYe,hd2,hQ0,Ztu hY0 hYU]
      exact Yn (.inl J) hsc () _ (fun a w hs=>Np hs results193 J J) (by rw [hA,hB]) trivial J Zk
theorem Zsk(v:Value)(x d:Nat)(hx:bl x≤8589934592)(hd:0<d)(hdU:d<U):Cal prog 192 #[v,.int .u64 (d:Int)] [dgp v x] false (G:=Value) (fun r=>True) (fun r=> .tuple #[r,.int .u64 ((x%d:Nat):Int)]) (fun r=>[dgp r (x/d)]):=by
 refine Ya func192 J ntmps192 J K1 ?_
 intro w0 sc hw hsc
 simp only [Zp,Zn]
 have hX:=Mj x
 refine Zc<|Zg<|as_ J<|as_ J<|Zf<|Za<|Zc<|Zg<|mv J<|dt (Yb J J (i:=1) J Zi Xv)<|tt (Hr (i:=2) (n:=(dg U x).length) (by_:=8) (enc:=Iz) 0 J J J J Xv ti149 J pU.cells pU.pos J J J hw) fun v _=>as_ J<|Zf<|Za<|Zc<|Zg<|as_ J<|Zf<|Za<|Zc<|Zc<|Zg<|mv J<|dt (Yb J J (i:=1) J Zi Xv)<|dt (Qa J J J ⟨by omega,by omega⟩)<|as_ J<|Zf<|Za<|Zl<|Nt [(0,_),(1,_),(6,_)] [(0,_),(1,_)] (fun(q:Nat×List Nat×Nat)=>[(8,.int .i64 ((q.1:Int)-1)),(7,.int .u64 (q.2.2:Int))]) (fun(q:Nat×List Nat×Nat)=>[(2,osl 1 149 Iz v q.2.1)]) (fun(q:Nat×List Nat×Nat)=>(q.1≤(dg U x).length)∧(q.2.1.length=(dg U x).length)∧(q.2.2<d)∧(∀d∈q.2.1,d<U)∧(val U (q.2.1.drop q.1)*d+q.2.2=val U ((dg U x).drop q.1))) (fun(q:Nat×List Nat×Nat)=>q.1) ((dg U x).length,List.replicate (dg U x).length 0,0) ⟨Nat.le_refl _,by simp,by first | omega | (dsimp only<;>omega),Nf _ Pq,by simp [val]⟩ K5 K3 ?_
 rintro⟨k,o,r⟩ ⟨hk,hol,hr,hall,hv⟩
 dsimp only at hk hol hr hall hv
 simp only [CA,NA]
 refine Zc<|Zc<|Zg<|mv J<|dt (Lx J J J)<|Zf<|Za<|Zq J (fun h158=>?_) (fun h158=>?_)
 ·exact Zj<|Za<|Zc<|Zl<|Zg<|mv J<|mv J<|mv J<|mv J<|mv J<|dt (Yw (ii:=1) (i:=k-1) J J J J Zi Xv Mg)<|dt (Xm (ii:=1) 0 J J J Zi pU (by first | omega | (simp only [List.length_set];omega)))<|mv J<|tt (Zh (n:=2) (Zo0 _ _ _ (Qm Pq (Li Pd _) _) hdU hr) J J J K3 call193 Ze J hw) fun _ _=>mv J<|dt (Yf J J J)<|dt (Yf J J J)<|dt (Yw (ii:=2) (i:=k-1) J J J J (Yq pU) Xv Mg)<|tt (Kz (i:=2) (enc:=Iz) _ J J J J J J pU J hw (by decide) (by first | omega | (simp only [List.length_set];omega))) fun _ _=>as_ J<|Zf<|Oa<|Za<|Zg<|mv J<|dt (Qa J J J ⟨by omega,by omega⟩)<|as_ J<|Zf<|Xk (k-1,_,_) ⟨by first | omega | (dsimp only<;>omega),by simp;omega,Nat.mod_lt _ hd,Ln hall _ _ (Zoj (Qm Pq (Li Pd x) _) hr),Zpg hd (by omega) (by omega) (by rw [show k-1+1=k by omega];exact hv)⟩ (by first | omega | (dsimp only<;>omega)) ⟨by rw [show(((k-1:Nat):Int)-1)=(k:Int)-1-1 by omega];rfl,rfl,rfl,rfl,rfl,trivial⟩ K3
 ·refine Yu<|Zu<|Zu<|Ox<|Za<|Zc<|Zg<|mv J<|tt (Zh (n:=2) (Oi _ _) J J J K1 call127 (Xw 2 J J pU Ze) J hw) fun _ _=>Pr (Zf1 2 J J pU)<|mv J<|as_ J<|as_ J<|Zf<|Za<|Zv ?_
  obtain rfl:k=0:=by omega
  rw [List.drop_zero,List.drop_zero,My Pd]at hv
  have hq:tz o=dg U (x/d):=by
   rw [←Kk Pd _ hall,←hv,Nat.mul_comm,Nat.mul_add_div hd,Nat.div_eq_of_lt hr,Nat.add_zero]
  have hm:r=x%d:=by rw [←hv,Nat.mul_comm,Nat.mul_add_mod,Nat.mod_eq_of_lt hr]
  exact Yn (.inl J) hsc _ _ (fun a w hs=>Np hs results192 J J) (by rw [hm]) trivial J (Py 2 J J pU hq Zk)
theorem Ic(v:Value)(x s:Nat)(hx:bl x≤4294967296)(hs:s≤4294967296:=by decide):Cal prog 132 #[v,.int .i64 (s:Int)] [dgp v x] false (G:=Value) (fun r=>True) (fun r=>r) (fun r=>[dgp r (x*2^s)]):=by
 refine Ya func132 J ntmps132 J K1 ?_
 intro w0 sc hw hsc
 simp only [Zp,Zn]
 obtain⟨w,hwe⟩:∃w,w=s/64:=⟨_,rfl⟩
 obtain⟨b,hbe⟩:∃b,b=s%64:=⟨_,rfl⟩
 have hX:=Mj x
 refine Zc<|Zg<|as_ J<|Zf<|Za<|Zc<|Zc<|Zg<|mv J<|dt (Yb J J (i:=1) J Zi Xv)<|dt (Pm J J J)<|Zf<|Za<|Zq J (fun h122=>?_) (fun h122=>?_)
 ·refine Zc<|Zg<|as_ J<|Zf<|Za<|Zv<|Xc<|Qv (Nj 9 1 149 Iz) ?_
  have hx0:x=0:=(Ph Pd x).1 (by omega)
  exact Yn (.inl J) hsc (.slice none 0 0) _ (fun a w hs=>Nn hs results132 J) J trivial J (Py 9 J J pU (by rw [hx0,Nat.zero_mul];rfl) Zk)
 ·refine Zj<|Za<|Zc<|Zg<|mv J<|dt (Zih J J J)<|mv J<|dt (Zkf J J J)<|as_ J<|as_ J<|Zf<|Za<|Zc<|Yl (Ib 5 (v':= .int .i64 (w:Int)) J (by congr 1;omega))<|Yl (Ib 6 (v':= .int .i64 (b:Int)) J (by congr 1;omega))<|Zg<|mv J<|dt (Yb J J (i:=1) J Zi Xv)<|mv J<|dt (Ys J J J ⟨by omega,by omega⟩)<|dt (Ys J J J ⟨by omega,by omega⟩)<|tt (Hr (i:=2) (n:=(dg U x).length+w+1) (by_:=8) (enc:=Iz) 0 J J J J Xv ti149 J pU.cells pU.pos J J J hw) fun v _=>as_ J<|Zf<|Za<|Zc<|Zc<|Zg<|mv J<|dt (Yb J J (i:=1) J Zi Xv)<|mv J<|Zf<|Za<|Zl ?_
  refine Nt [(5,_),(6,_),(7,_),(23,_),(24,_)] [(0,_),(1,_)] (fun(q:Nat×List Nat)=>[(25,.int .i64 (q.1:Int))]) (fun(q:Nat×List Nat)=>[(2,osl 1 149 Iz v q.2)]) (fun(q:Nat×List Nat)=>(q.1≤(dg U x).length)∧(q.2.length=(dg U x).length+w+1)∧(q.2.getD (w+q.1) 0<2^b)∧(∀j,w+q.1<j→q.2.getD j 0=0)∧(∀d∈q.2,d<U)∧(val U (q.2.take ((dg U x).length+w+1))=val U ((dg U x).take q.1)*2^b*U^w)) (fun(q:Nat×List Nat)=>(dg U x).length-q.1) (0,List.replicate ((dg U x).length+w+1) 0) ⟨by first | omega | (dsimp only<;>omega),by simp,by rw [Lk];exact Nat.two_pow_pos b,fun j _=>Lk _ j,Nf _ Pq,by rw [List.take_replicate,Ia];simp [val]⟩ K6 K3 ?_
  rintro⟨i,o⟩ ⟨hi,hol,hc,hz,hall,hv⟩
  dsimp only at hi hol hc hz hall hv
  simp only [CA,NA]
  have hst:i<(dg U x).length→_:=fun hlt=>Zv0 (xs:=dg U x) (show b≤63 by omega) hol.symm (show w+i+1<_ by omega) hc (hz (w+i+1) (by omega)) (Qm Pq (Li Pd x) i) hv
  refine Zc<|Zg<|dt (Xu J J J)<|Zf<|Za<|Zc<|Zq J (fun h127=>?_) (fun h127=>?_)
  ·refine Zj<|Za<|Zc<|Zl<|Zc<|Zg<|mv J<|dt (Yw (ii:=1) J J J J Zi Xv Mg J (by first | omega | (simp only [List.length_set];omega)))<|dt (Xm (ii:=1) 0 J J J Zi pU (by first | omega | (simp only [List.length_set];omega)))<|as_ J<|as_ J<|Zf<|Za<|Zc ?_
   have hX1:=Qm Pq (Li Pd x) i
   refine Ql (fun _=>False) [(0,0),(1,0),(2,0),(3,0),(4,0),(5,0),(6,0),(7,0),(8,0),(9,0),(10,0),(11,3)] ?_ ?_
   ·kernel_rfl
   refine r0' J J (st0 (Ym J J))<|r0' J J (st0 (Ym J J))<|r0' J J (st0 (Ym J J))<|r0' J J (st0 (Ys J J J ⟨by omega,by omega⟩))<|r0' J J (st0 (Yw (ii:=2) (i:=w+i) J J J J (Yq pU) Xv Mg))<|r0' J J (st0 (Xm (ii:=2) 0 J J J (Yq pU) pU (by first | omega | (simp only [List.length_set];omega))))<|r0' J J (st0 (Ym J J))<|r0' J J (st0 (Ym J J))<|r0' J J (st0 (Zpa J J (n:=b) J J))<|r0' J J (st0 (u_or J J J (Qm Pq hall _) (Nat.mod_lt _ Pq)))<|r0' J J (st0 (Yw (ii:=2) (i:=w+i) J J J J (Yq pU) Xv Mg))<|r3' J (Kz (i:=2) (enc:=Iz) _ J J J J J J pU J hw (by decide) (by first | omega | (simp only [List.length_set];omega))) fun _ _=>Og<|Za<|Zc<|Zg<|mv J<|dt (Oq J J J)<|Zf<|Za<|Zq J (fun h129=>?_) (fun h129=>?_)
   ·have hal2:=Ln (Ln hall (w+i) (o.getD (w+i) 0 ||| (dg U x).getD i 0*2^b%U) (Nat.or_lt_two_pow (n:=64) (Qm Pq hall _) (Nat.mod_lt _ Pq))) (w+i+1) ((dg U x).getD i 0/2^(64-b)) (Nat.lt_of_le_of_lt (Nat.div_le_self _ _) hX1)
    have hc2:((o.set (w+i) (o.getD (w+i) 0 ||| (dg U x).getD i 0*2^b%U)).set (w+i+1) ((dg U x).getD i 0/2^(64-b))).getD (w+i+1) 0<2^b:=by
     rw [Nm _ _ _ _ _ (by simp;omega),if_pos rfl];exact Zce (by omega) hX1
    have hz2:∀j,w+i+1<j→((o.set (w+i) (o.getD (w+i) 0 ||| (dg U x).getD i 0*2^b%U)).set (w+i+1) ((dg U x).getD i 0/2^(64-b))).getD j 0=0:=fun j hj=>by
     rw [Nm _ _ _ _ _ (by simp;omega),if_neg (by omega),Nm _ _ _ _ _ (by omega),if_neg (by omega)];exact hz j (by omega)
    have hv2:=hst (by omega)
    exact Zg<|mv J<|mv J<|mv J<|dt (Ys J J J ⟨by omega,by omega⟩)<|dt (Ys J J J ⟨by omega,by omega⟩)<|mv J<|mv J<|dt (Qa J J J ⟨by omega,by omega⟩)<|dt (Zo9 J J (n:=64-b) J (by omega))<|dt (Yw (ii:=2) (i:=w+i+1) J J J J (Yq pU) Xv Mg (by omega) (by simp only [List.length_set];omega))<|tt (Kz (i:=2) (enc:=Iz) _ J J J J J J pU J hw (by decide) (by simp only [List.length_set];omega)) fun _ _=>Zf<|Oa<|Za<|Zg<|dt (Ys J J J ⟨by omega,by omega⟩)<|mv J<|Zf<|Xk (i+1,_) ⟨by first | omega | (dsimp only<;>omega),by simp;omega,by dsimp only;rw [show w+(i+1)=w+i+1 by omega];exact hc2,fun j hj=>by have hj2:w+(i+1)<j:=hj;dsimp only;exact hz2 j (by omega),hal2,hv2⟩ (by first | omega | (dsimp only<;>omega)) K6 K3
   ·obtain rfl:b=0:=by omega
    have hal2:=Ln hall (w+i) (o.getD (w+i) 0 ||| (dg U x).getD i 0*2^0%U) (Nat.or_lt_two_pow (n:=64) (Qm Pq hall _) (Nat.mod_lt _ Pq))
    have hc2:(o.set (w+i) (o.getD (w+i) 0 ||| (dg U x).getD i 0*2^0%U)).getD (w+i+1) 0<2^0:=by
     rw [Nm _ _ _ _ _ (by omega),if_neg (by omega),hz _ (by omega)];exact Nat.two_pow_pos 0
    have hz2:∀j,w+i+1<j→(o.set (w+i) (o.getD (w+i) 0 ||| (dg U x).getD i 0*2^0%U)).getD j 0=0:=fun j hj=>by
     rw [Nm _ _ _ _ _ (by omega),if_neg (by omega)];exact hz j (by omega)
    have hv2:=hst (by omega)
    rw [show(dg U x).getD i 0/2^(64-0)=0 from Nat.div_eq_of_lt hX1]at hv2
    have hsame:=Zhi (o.set (w+i) (o.getD (w+i) 0 ||| (dg U x).getD i 0*2^0%U)) (w+i+1) (by rw [Nm _ _ _ _ _ (by omega),if_neg (by omega),hz _ (by omega)])
    rw [hsame]at hv2
    exact Zj<|Oa<|Za<|Zg<|dt (Ys J J J ⟨by omega,by omega⟩)<|mv J<|Zf<|Xk (i+1,_) ⟨by first | omega | (dsimp only<;>omega),by simp;omega,by dsimp only;rw [show w+(i+1)=w+i+1 by omega];exact hc2,fun j hj=>by have hj2:w+(i+1)<j:=hj;dsimp only;exact hz2 j (by omega),hal2,hv2⟩ (by first | omega | (dsimp only<;>omega)) K6 K3
  ·refine Yu<|Zu<|Zu<|Ox<|Za<|Zc<|Zg<|mv J<|tt (Zh (n:=2) (Oi _ _) J J J K1 call127 (Xw 2 J J pU Ze) J hw) fun _ _=>Pr (Zf1 2 J J pU)<|as_ J<|Zf<|Za<|Zv ?_
   obtain rfl:i=(dg U x).length:=by omega
   have hx2:tz o=dg U (x*2^s):=by
    rw [←Kk Pd _ hall]
    congr 1
    rw [Nr U o _ (by omega),List.take_of_length_le (Nat.le_refl _),My Pd,Zcu,Nat.mul_assoc,←Nat.pow_add,show b+64*w=s by omega]at hv
    exact hv
   exact Yn (.inl J) hsc _ _ (fun a w hs=>Nn hs results132 J) J trivial J (Py 2 J J pU hx2 Zk)
theorem nat_shr(v:Value)(x s:Nat)(hx:bl x≤8589934592)(hs:s≤8589934592):Cal prog 195 #[v,.int .i64 (s:Int)] [dgp v x] false (G:=Value) (fun r=>True) (fun r=>r) (fun r=>[dgp r (x/2^s)]):=by
 refine Ya func195 J ntmps195 J K1 ?_
 intro w0 sc hw hsc
 simp only [Zp,Zn]
 obtain⟨w,hwe⟩:∃w,w=s/64:=⟨_,rfl⟩
 obtain⟨b,hbe⟩:∃b,b=s%64:=⟨_,rfl⟩
 have hX:=Mj x
 have hdl:((dg U x).drop w).length=(dg U x).length-w:=List.length_drop
 refine Zc<|Zg<|as_ J<|Zf<|Za<|Zc<|Zg<|mv J<|dt (Zih J J J)<|mv J<|dt (Zkf J J J)<|as_ J<|as_ J<|Zf<|Za<|Zc<|Zc<|Yl (Ib 5 (v':= .int .i64 (w:Int)) J (by congr 1;omega))<|Yl (Ib 6 (v':= .int .i64 (b:Int)) J (by congr 1;omega))<|Zg<|mv J<|mv J<|dt (Yb J J (i:=1) J Zi Xv)<|dt (Lx J J J)<|Zf<|Za<|Zq J (fun h139=>?_) (fun h139=>?_)
 ·refine Zc<|Zg<|as_ J<|Zf<|Za<|Zv<|Xc<|Qv (Nj 9 1 149 Iz) ?_
  have hx0:x/2^s=0:=by
   rw [Dx hwe hbe,Nat.div_eq_of_lt ((Xo Pd w x).1 (by omega)),Nat.zero_div]
  exact Yn (.inl J) hsc (.slice none 0 0) _ (fun a w hs=>Nn hs results195 J) J trivial J (Py 9 J J pU (by rw [hx0];rfl) Zk)
 ·refine Zj<|Za<|Zc<|Zg<|mv J<|mv J<|dt (d_suf (ii:=1) (i:=w) J J J J Zi Xv Mg (by omega) (by omega))<|Pr (s_suf 1 2 (w) J J (by omega))<|tt (Zk1 (n:=3) (Zui _ _ (by simp only [List.length_drop];omega)) J J J K1 call200 (Zb 2 J J J Ze) J hw) fun v _=>as_ J<|Zf<|Za<|Dj [(7,_)] [(0,_),(1,_),(2,_)] (fun(o:List Nat)=>[]) (fun(o:List Nat)=>[(3,osl 1 149 Iz v o)]) (fun(o:List Nat)=>(o.length=(dg U x).length-w)∧(∀j,j<o.length→o.getD j 0=x/2^s/U^j%U)) K1 K3 ?_ ?_
  ·refine Zc<|Zg<|mv J<|dt (Oq J J J)<|Zf<|Za<|Zq J (fun h143=>?_) (fun h143=>?_)
   ·refine Zc<|Zg<|mv J<|dt (Yb J J (i:=3) J (Yq pU) Xv)<|mv J<|Zf<|Za<|Zl<|Nt [(0,_),(5,_),(6,_),(7,_),(24,_)] [(0,_),(1,_),(2,_)] (fun(q:Nat×List Nat)=>[(25,.int .i64 (q.1:Int))]) (fun(q:Nat×List Nat)=>[(3,osl 1 149 Iz v q.2)]) (fun(q:Nat×List Nat)=>(q.1≤(dg U x).length-w)∧(q.2.length=(dg U x).length-w)∧(∀j,j<q.1→q.2.getD j 0=x/2^s/U^j%U)∧(∀j,q.1≤j→q.2.getD j 0=x/U^w/U^j%U)∧(∀d∈q.2,d<U)) (fun(q:Nat×List Nat)=>(dg U x).length-w-q.1) (0,(dg U x).drop w) ⟨Nat.zero_le _,by simp,fun j hj=>absurd hj (Nat.not_lt_zero j),fun j _=>Ztz x w j,fun d hd=>Li Pd x d (List.mem_of_mem_drop hd)⟩ K6 K4 ?_
    rintro⟨i,o⟩ ⟨hi,hol,hlo,hhi,hall⟩
    dsimp only at hi hol hlo hhi hall
    simp only [CA,NA]
    refine Zc<|Zg<|dt (Xu J J J)<|Zf<|Za<|Zc<|Zq J (fun h144=>?_) (fun h144=>?_)
    ·refine Zj<|Za<|Zc<|Zl<|Zc<|Zg<|mv J<|as_ J<|Zf<|Za<|Zc<|Zg<|mv J<|mv J<|dt (Yw (ii:=3) J J J J (Yq pU) Xv Mg J (by first | omega | (simp only [List.length_set];omega)))<|dt (Xm (ii:=3) 0 J J J (Yq pU) pU (by first | omega | (simp only [List.length_set];omega)))<|mv J<|dt (Zo9 J J (n:=b) J J)<|dt (Yw (ii:=3) J J J J (Yq pU) Xv Mg J (by first | omega | (simp only [List.length_set];omega)))<|tt (Kz (i:=3) (enc:=Iz) _ J J J J J J pU J hw (by decide) (by first | omega | (simp only [List.length_set];omega))) fun _ _=>Zf<|Za<|Zc<|Zg<|mv J<|dt (Ys J J J ⟨by omega,by omega⟩)<|mv J<|dt (Yb J J (i:=3) J (Yq pU) Xv)<|dt (Xu J J J)<|Zf<|Za<|Zq J (fun h146=>?_) (fun h146=>?_)
     ·simp only [List.length_set]at h146
      have hnew:∀j,((o.set i (o.getD i 0/2^b)).set i ((o.set i (o.getD i 0/2^b)).getD i 0 ||| ((dg U x).getD (w+i+1) 0*2^(64-b))%U)).getD j 0=if i=j then x/2^s/U^i%U else o.getD j 0:=fun j=>by
       rw [Nm _ _ _ _ _ (by simp;omega),Nm _ _ _ _ _ (by omega),Nm _ _ _ _ _ (by omega)]
       split
       ·rw [if_pos rfl,hhi i (Nat.le_refl _),Ij Pd,Dx hwe hbe,Zom,show x/U^(w+i+1)=x/U^w/U^i/U by rw [Nat.div_div_eq_div_mul,Nat.div_div_eq_div_mul,←Nat.pow_succ,←Nat.pow_add];rfl,Zm4 _ _ (by omega)]
       ·rfl
      have hal2:=Ln (Ln hall i (o.getD i 0/2^b) (Nat.lt_of_le_of_lt (Nat.div_le_self _ _) (Qm Pq hall _))) i ((o.set i (o.getD i 0/2^b)).getD i 0 ||| ((dg U x).getD (w+i+1) 0*2^(64-b))%U) (Nat.or_lt_two_pow (n:=64) (Qm Pq (Ln hall _ _ (Nat.lt_of_le_of_lt (Nat.div_le_self _ _) (Qm Pq hall _))) _) (Nat.mod_lt _ Pq))
      refine Ql (fun _=>False) [(0,0),(1,0),(2,0),(3,0),(4,0),(5,0),(6,0),(7,0),(8,0),(9,0),(10,0),(11,0),(12,0),(13,0),(14,0),(15,0),(16,3)] ?_ ?_
      ·kernel_rfl
      refine r0' J J (st0 (Ym J J))<|r0' J J (st0 (Ym J J))<|r0' J J (st0 (Yw (ii:=3) J J J J (Yq pU) Xv Mg J (by first | omega | (simp only [List.length_set];omega))))<|r0' J J (st0 (Xm (ii:=3) 0 J J J (Yq pU) pU (by first | omega | (simp only [List.length_set];omega))))<|r0' J J (st0 (Ym J J))<|r0' J J (st0 (Ym J J))<|r0' J J (st0 (Ym J J))<|r0' J J (st0 (Ys J J J ⟨by omega,by omega⟩))<|r0' J J (st0 (Ys J J J ⟨by omega,by omega⟩))<|r0' J J (st0 (Yw (ii:=1) (i:=w+i+1) J J J J Zi Xv Mg (by omega) (by first | omega | (simp only [List.length_set];omega))))<|r0' J J (st0 (Xm (ii:=1) 0 J J J Zi pU (by first | omega | (simp only [List.length_set];omega))))<|r0' J J (st0 (Ym J J))<|r0' J J (st0 (Qa J J J ⟨by omega,by omega⟩))<|r0' J J (st0 (Zpa J J (n:=64-b) J (by omega)))<|r0' J J (st0 (u_or J J J (Qm Pq (Ln hall _ _ (Nat.lt_of_le_of_lt (Nat.div_le_self _ _) (Qm Pq hall _))) _) (Nat.mod_lt _ Pq)))<|r0' J J (st0 (Yw (ii:=3) J J J J (Yq pU) Xv Mg J (by first | omega | (simp only [List.length_set];omega))))<|r3' J (Kz (i:=3) (enc:=Iz) _ J J J J J J pU J hw (by decide) (by first | omega | (simp only [List.length_set];omega))) fun _ _=>Og<|Oa<|Za<|Zg<|dt (Ys J J J ⟨by omega,by omega⟩)<|mv J<|Zf ?_
      exact Xk (i+1,_) ⟨by first | omega | (dsimp only<;>omega),by simp;omega,fun j hj=>by dsimp only;rw [hnew j];split;(· rename_i e;rw [←e]);exact hlo j (by have:j<i+1:=hj;omega),fun j hj=>by dsimp only;rw [hnew j,if_neg (by have:i+1≤j:=hj;omega)];exact hhi j (by have:i+1≤j:=hj;omega),hal2⟩ (by first | omega | (dsimp only<;>omega)) K6 K4
     ·have hnew:∀j,(o.set i (o.getD i 0/2^b)).getD j 0=if i=j then x/2^s/U^i%U else o.getD j 0:=fun j=>by
       rw [Nm _ _ _ _ _ (by omega)]
       split
       ·rw [hhi i (Nat.le_refl _),Dx hwe hbe,Zom,Zq5 _ _ (by omega)]
        rw [Nat.div_div_eq_div_mul,←Nat.pow_succ]
        exact Nat.div_eq_of_lt (Zs1 (by simp only [List.length_set]at h146;omega))
       ·rfl
      have hal2:=Ln hall i (o.getD i 0/2^b) (Nat.lt_of_le_of_lt (Nat.div_le_self _ _) (Qm Pq hall _))
      exact Zj<|Oa<|Za<|Zg<|dt (Ys J J J ⟨by omega,by omega⟩)<|mv J<|Zf<|Xk (i+1,_) ⟨by first | omega | (dsimp only<;>omega),by simp;omega,fun j hj=>by dsimp only;rw [hnew j];split;(· rename_i e;rw [←e]);exact hlo j (by have:j<i+1:=hj;omega),fun j hj=>by dsimp only;rw [hnew j,if_neg (by have:i+1≤j:=hj;omega)];exact hhi j (by have:i+1≤j:=hj;omega),hal2⟩ (by first | omega | (dsimp only<;>omega)) K6 K4
    ·exact Yu<|Zu<|Zu<|Ox<|Qy _ ⟨by omega,by intro j hj;rw [hlo j (by omega)]⟩ K1 K4
   ·exact Zj<|Qy _ ⟨by simp,by intro j hj;rw [Ztz,Dx hwe hbe,show b=0 by omega,Nat.pow_zero,Nat.div_one]⟩ K1 K4
  ·rintro o ⟨hol,hv⟩
   simp only [CA,NA]
   refine Zc<|Zg<|mv J<|tt (Zh (n:=3) (Oi _ _) J J J K1 call127 (Xw 3 J J pU Ze) J hw) fun _ _=>Pr (Zf1 3 J J pU)<|as_ J<|Zf<|Za<|Zv ?_
   have hx2:tz o=dg U (x/2^s):=Zpc Pd hv (by rw [hol,Dx hwe hbe];exact Nat.lt_of_le_of_lt (Nat.div_le_self _ _) (Zs1 (by omega)))
   exact Yn (.inl J) hsc _ _ (fun a w hs=>Nn hs results195 J) J trivial J (Py 3 J J pU hx2 Zk)
theorem Zjw(v:Value)(x:Nat)(hx:bl x≤4294967296:=by omega):Ml prog 169 #[v] [dgp v x] (.string (Qq x)):=by
 refine Ya func169 J ntmps169 J K1 ?_
 intro w0 sc hw hsc
 simp only [Zp,Zn]
 have hX:=Mj x
 have hL:=Za2 x
 have hW:=lenU x
 have hrl:(List.replicate (dg 256 x).length (0:Nat)).length=(dg 256 x).length:=List.length_replicate
 refine Zc<|Zg<|as_ J<|Zf<|Za<|Zc<|Zg<|mv J<|tt (Zh (n:=1) (Zh4 _ _) J J J K1 call168 (Zb 1 J J J Ze) J hw) fun _ _=>dt (Ys J J J ⟨by omega,by omega⟩)<|dt (Zih J J J)<|tt (Hr (i:=2) (n:=(dg 256 x).length) (by_:=1) (enc:=Zqa) 0 J J J J Zkv ti5 J pB.cells pB.pos J J J hw) fun v _=>as_ J<|Zf<|Za<|Zc<|Zc<|Zg<|mv J<|dt (Yb J J (i:=2) J (Yq pB) Zkv)<|mv J<|Zf<|Za<|Zl<|Nt [(0,_),(3,_),(12,_)] [(0,_),(1,_)] (fun(q:Nat×List Nat)=>[(13,.int .i64 (q.1:Int))]) (fun(q:Nat×List Nat)=>[(2,osl 1 5 Zqa v q.2)]) (fun(q:Nat×List Nat)=>(q.1≤(dg 256 x).length)∧(q.2.length=(dg 256 x).length)∧(∀j,j<q.1→q.2.getD j 0=x/256^((dg 256 x).length-1-j)%256)) (fun(q:Nat×List Nat)=>(dg 256 x).length-q.1) (0,List.replicate (dg 256 x).length 0) ⟨by first | omega | (dsimp only<;>omega),by simp,fun j hj=>absurd hj (Nat.not_lt_zero j)⟩ K4 K3 ?_
 rintro⟨i,o⟩ ⟨hi,hol,hov⟩
 dsimp only at hi hol hov
 simp only [CA,NA]
 refine Zc<|Zg<|dt (Xu J J J)<|Zf<|Za<|Zc<|Zq J (fun h48=>?_) (fun h48=>?_)
 ·refine Zj<|Za<|Zc<|Zl<|Zc<|Zg<|mv J<|as_ J<|Zf<|Za<|Zc<|Zg<|mv J<|dt (Yb J J (i:=2) J (Yq pB) Zkv)<|dt (Qa J J J ⟨by omega,by omega⟩)<|mv J<|dt (Qa J J J ⟨by omega,by omega⟩)<|as_ J<|Zf<|Za<|Yl (Ib 5 (v':= .int .i64 (((dg 256 x).length-1-i:Nat):Int)) J (by congr 1;omega)) ?_
  have hbyte:=Zkl x ((dg 256 x).length-1-i)
  rw [←Ij Pd]at hbyte
  exact Zg<|mv J<|mv J<|mv J<|mv J<|dt (Zih J J J)<|dt (Yw (ii:=1) (i:=((dg 256 x).length-1-i)/8) J J J J Zi Xv Mg)<|dt (Xm (ii:=1) 0 J J J Zi pU)<|mv J<|dt (Zkf J J J)<|dt (Gq J J J ⟨by omega,by omega⟩)<|dt (Zo9 J J (n:=((dg 256 x).length-1-i)%8*8) J (by omega))<|dt (Zfr J J Zd0 uT5)<|dt (Yw (ii:=2) J J J J (Yq pB) Zkv sizeOf5 J (by first | omega | (simp only [List.length_set];omega)))<|tt (Kz (i:=2) (enc:=Zqa) _ J J J J J J pB J hw (by decide) (by first | omega | (simp only [List.length_set];omega))) fun _ _=>Zf<|Oa<|Za<|Zg<|dt (Ys J J J ⟨by omega,by omega⟩)<|mv J<|Zf<|Xk (i+1,_) ⟨by first | omega | (dsimp only<;>omega),by simp;omega,fun j hj=>by dsimp only;rw [Nm _ _ _ _ _ (by omega)];split;(· rename_i e;rw [←e];exact hbyte);exact hov j (by omega)⟩ (by first | omega | (dsimp only<;>omega)) K4 K3
 ·refine Yu<|Zu<|Zu<|Ox<|Za<|Zc<|Zg<|mv J<|dt (d_b2s J J (i:=2) J (Yq pB) Zkv uT9 uT5)<|as_ J<|Zf<|Za<|Zv ?_
  have hb:Qq x=⟨(o.map UInt8.ofNat).toArray⟩:=by
   have ho:o=(dg 256 x).reverse:=by
    refine Bg (by simp;omega) (fun j hj=>?_)
    rw [hov j (by omega),Zj3 _ _ _ (by omega),Ij (by omega)]
   rw [ho];rfl
  exact xU hsc results169 J J (by rw [hb])
theorem Zaa(x:Nat)(hx:bl x≤4294967296:=by omega):Cal prog 170 #[.string (Qq x)] [] false (G:=Value) (fun r=>True) (fun r=>r) (fun r=>[dgp r x]):=by
 refine Ya func170 J ntmps170 J trivial ?_
 intro w0 sc hw hsc
 simp only [Zp,Zn]
 have hX:=Mj x
 have hL:=Za2 x
 have hW:=lenU x
 have hbs:=Mw x
 refine Zc<|Zg<|as_ J<|Zf<|Za<|Zc<|Zg<|mv J<|dt (Cp J J uT9)<|dt (Ys J J J ⟨by omega,by omega⟩)<|dt (Zih J J J)<|tt (Hr (i:=1) (n:=(dg U x).length) (by_:=8) (enc:=Iz) 0 J J J J Xv ti149 J pU.cells pU.pos J J J hw) fun v _=>as_ J<|Zf<|Za<|Zc<|Zc<|Zg<|mv J<|dt (Cp J J uT9)<|mv J<|Zf<|Za<|Zl<|Nt [(0,_),(3,_),(12,_)] [(0,_)] (fun(q:Nat×List Nat)=>[(13,.int .i64 (q.1:Int))]) (fun(q:Nat×List Nat)=>[(1,osl 1 149 Iz v q.2)]) (fun(q:Nat×List Nat)=>(q.1≤(dg 256 x).length)∧(q.2.length=(dg U x).length)∧(∀w,w<q.2.length→q.2.getD w 0=hi x ((dg 256 x).length-q.1) w)) (fun(q:Nat×List Nat)=>(dg 256 x).length-q.1) (0,List.replicate (dg U x).length 0) ⟨by first | omega | (dsimp only<;>omega),by simp,fun w hw=>by dsimp only at *;rw [List.length_replicate]at hw;rw [Lk,hi_top (by omega)]⟩ K4 K2 ?_
 rintro⟨i,o⟩ ⟨hik,hol,hov⟩
 dsimp only at hik hol hov
 simp only [CA,NA]
 refine Zc<|Zg<|dt (Xu J J J)<|Zf<|Za<|Zc<|Zq J (fun h30=>?_) (fun h30=>?_)
 ·refine Zj<|Za<|Zc<|Zl<|Zc<|Zg<|mv J<|as_ J<|Zf<|Za<|Zc<|Zg<|mv J<|dt (Cp J J uT9)<|dt (Qa J J J ⟨by omega,by omega⟩)<|mv J<|dt (Qa J J J ⟨by omega,by omega⟩)<|as_ J<|Zf<|Za<|Yl (Ib 5 (v':= .int .i64 (((dg 256 x).length-1-i:Nat):Int)) J (by congr 1;omega)) ?_
  have hget:=Zds x i (by omega)
  have hw0:=hov (((dg 256 x).length-1-i)/8) (by omega)
  have hlt1:o.getD (((dg 256 x).length-1-i)/8) 0<U:=by rw [hw0];exact Nat.mod_lt _ Pq
  have hset:∀w,w<o.length→(o.set (((dg 256 x).length-1-i)/8) (o.getD (((dg 256 x).length-1-i)/8) 0 ||| (((Qq x).data.toList.getD i 0).toNat*2^(((dg 256 x).length-1-i)%8*8))%U)).getD w 0=hi x ((dg 256 x).length-(i+1)) w:=fun w hw=>by
   rw [hget,hw0,show(dg 256 x).length-i=(dg 256 x).length-1-i+1 by omega,hi_step,Nm _ _ _ _ _ (by omega),show(dg 256 x).length-(i+1)=(dg 256 x).length-1-i by omega]
   split
   ·rename_i e;rw [e]
   ·rename_i e;rw [hov w hw,show(dg 256 x).length-i=(dg 256 x).length-1-i+1 by omega];exact Zxr e
  refine Ql (fun _=>False) [(0,0),(1,0),(2,0),(3,0),(4,0),(5,0),(6,0),(7,0),(8,0),(9,0),(10,0),(11,0),(12,0),(13,0),(14,0),(15,3)] ?_ ?_
  ·kernel_rfl
  exact r0' J J (st0 (Ym J J))<|r0' J J (st0 (Ym J J))<|r0' J J (st0 (Zih J J J))<|r0' J J (st0 (Yw (ii:=1) (i:=((dg 256 x).length-1-i)/8) J J J J (Yq pU) Xv Mg))<|r0' J J (st0 (Xm (ii:=1) 0 J J J (Yq pU) pU (by first | omega | (simp only [List.length_set];omega))))<|r0' J J (st0 (Ym J J))<|r0' J J (st0 (Ym J J))<|r0' J J (st0 (Zp2 J J J uT9 J))<|r0' J J (st0 (cv_u64 J J uT5 Zd0 (by have:=(((Qq x).data.toList.getD i 0).toNat_lt);simp only [U];omega)))<|r0' J J (st0 (Ym J J))<|r0' J J (st0 (Zkf J J J))<|r0' J J (st0 (Gq J J J ⟨by omega,by omega⟩))<|r0' J J (st0 (Zpa J J (n:=((dg 256 x).length-1-i)%8*8) J (by omega)))<|r0' J J (st0 (u_or J J J (hlt1) (Nat.mod_lt _ Pq)))<|r0' J J (st0 (Yw (ii:=1) (i:=((dg 256 x).length-1-i)/8) J J J J (Yq pU) Xv Mg))<|r3' J (Kz (i:=1) (enc:=Iz) _ J J J J J J pU J hw (by decide) (by first | omega | (simp only [List.length_set];omega))) fun _ _=>Og<|Oa<|Za<|Zg<|dt (Ys J J J ⟨by omega,by omega⟩)<|mv J<|Zf<|Xk (i+1,_) ⟨by first | omega | (dsimp only<;>omega),by simp;omega,fun w hw=>hset w (by simpa using hw)⟩ (by first | omega | (dsimp only<;>omega)) K4 K2
 ·refine Yu<|Zu<|Zu<|Ox<|Za<|Zc<|Zg<|mv J<|as_ J<|Zf<|Za<|Zv ?_
  have ho:o=dg U x:=Bg hol (fun j hj=>by rw [hov j hj,Ij Pd,hi_ge (by omega)])
  exact Yn (.inl J) hsc _ _ (fun a w hs=>Nn hs results170 J) J trivial J (Py 1 J J pU ho Zk)
set_option maxHeartbeats 2000000 in
theorem Zsm(v w:Value)(x y:Nat)(hx:bl x≤4000000000)(hy0:bl y≤4000000000)(hy:0<y):Cal prog 174 #[v,w] [dgp v x,dgp w y] true (G:=Value×Value) (fun r=>True) (fun r=> .tuple #[r.1,r.2]) (fun r=>[dgp r.1 (x/y),dgp r.2 (x%y)]):=by
 refine Ya func174 J ntmps174 J K2 ?_
 intro w0 sc hw hsc
 simp only [Zp,Zn]
 have hX:=Mj x
 have hY:=Mj y
 refine Zc<|Zg<|as_ J<|as_ J<|Zf<|Za<|Zc<|Zc<|Zg<|mv J<|mv J<|tt (Zh (n:=2) (Am _ _ _ _ (by omega) (by omega)) J J J K2 call172 (Zb 1 J J J (Zb 2 J J J Ze)) J hw) fun r hr=>dt (Xu J J J)<|Zf<|Za<|Zq J (fun h166=>?_) (fun h166=>?_)
 ·have hlt:x<y:=hr.1.1 (by omega)
  exact Zc<|Zg<|mv J<|as_ J<|as_ J<|Zf<|Za<|Zv<|Xc<|Qv (Nj 9 1 149 Iz)<|Yn (.inl J) hsc (.slice none 0 0,v) _ (fun a w hs=>Np hs results174 J J) J trivial J (Py 9 J J pU (by rw [Nat.div_eq_of_lt hlt];rfl) (Yk 1 J J J (by rw [Nat.mod_eq_of_lt hlt]) Zk))
 ·have hge:y≤x:=by have:=hr.1;omega
  have hly:=Ow hge
  refine Zj<|Za<|Zc<|Zc<|Zg<|mv J<|dt (Yb J J (i:=2) J Zi Xv)<|dt (Pm J J J)<|Zf<|Za<|Zq J (fun h169=>?_) (fun h169=>?_)
  ·have hyU:y<U:=by have:=(Xo Pd 1 y).1 (by omega);simpa using this
   have hd0:(dg U y).getD 0 0=y:=by rw [Ij Pd];simp [Nat.mod_eq_of_lt hyU]
   exact Zc<|Zg<|mv J<|mv J<|dt (Yw (ii:=2) (i:=0) J J J J Zi Xv Mg J)<|dt (Xm (ii:=2) 0 J J J Zi pU (by first | omega | (simp only [List.length_set];omega)))<|tt (Zh (n:=3) (Zsk _ _ _ (by omega) (by rw [hd0];exact hy) (by rw [hd0];exact hyU)) J J J K2 call192 (Zb 1 J J J Ze) J hw) fun v _=>mv J<|dt (Yf J J J)<|dt (Yf J J J)<|as_ J<|as_ J<|Zf<|Za<|Zc<|Zg<|mv J<|mv J<|tt (Pn (i:=4) (ivs:=[(0,_)]) (enc:=Iz) [x%(dg U y).getD 0 0] J J K2 Xv ti149 J J J J J pU.cells J J hw) fun v_2 _=>tt (Zh (n:=4) (Oi _ _) J J J K1 call127 (Xw 4 J J pU Ze) J hw) fun _ _=>Pr (Zf1 4 J J pU)<|as_ J<|as_ J<|Zf<|Za<|Zv<|Xc<|Yn (.inl J) hsc (_,_) _ (fun a w hs=>Np hs results174 J J) J trivial J (Yk 3 J J J (by rw [hd0];rfl) (Py 4 J J pU (by rw [Zd2 (Nat.lt_trans (Nat.mod_lt _ (by rw [hd0];exact hy)) (by rw [hd0];exact hyU)),hd0]) Zk))
  ·refine Zj<|Za<|Zc ?_
   obtain⟨k,hk⟩:∃k,k=(dg U y).length:=⟨_,rfl⟩
   have hkx:k≤(dg U x).length:=by omega
   obtain⟨b,hb⟩:∃b,b=64-bl ((dg U y).getD (k-1) 0):=⟨_,rfl⟩
   obtain⟨hkD0,_,hk1,hDk0,hb63,hD630⟩:=norm_dg hy hk hb
   obtain⟨D,hDe⟩:∃D,D=y*2^b:=⟨_,rfl⟩
   have hkD:(dg U D).length=k:=by rw [hDe];exact hkD0
   have hDk:D<U^k:=by rw [hDe];exact hDk0
   have hD63:U^(k-1)*9223372036854775808≤D:=by rw [hDe];exact hD630
   have hD0:0<D:=by rw [hDe];exact Nat.mul_pos hy (Nat.two_pow_pos b)
   have hDb:bl D≤4000000064:=by rw [hDe,Zp5 _ _ hy];omega
   refine Zg<|mv J<|mv J<|dt (Yb J J (i:=2) J Zi Xv)<|dt (Qa J J J ⟨by omega,by omega⟩)<|dt (Yw (ii:=2) (i:=(dg U y).length-1) J J J J Zi Xv Mg)<|dt (Xm (ii:=2) 0 J J J Zi pU (by first | omega | (simp only [List.length_set];omega)))<|tt (Zh (n:=4) (Zmn _ (Qm Pq (Li Pd y) _)) J J J K1 call189 Ze J hw) fun _ _=>Pr (Ib 44 (v':= .int .i64 (b:Int)) J (by rw [hb,hk]))<|as_ J<|Zf<|Za<|Dj [(0,_),(8,_)] [(0,_),(1,_),(2,_)] (fun(q:Value×Value)=>[(9,q.1),(10,q.2)]) (fun(q:Value×Value)=>[(81,dgp q.1 D),(82,osl 1 149 Iz q.2 (List.replicate ((dg U x).length+1) 0))]) (fun(q:Value×Value)=>True) K2 K3 ?_ ?_
   ·refine Hb (fun _=>False) [8]<|Zy (n:=4) [(0,0),(1,0),(3,0),(4,0),(5,0)]<|r0' J J (st0 (Ym J J))<|r0' J J (st0 (Ym J J))<|r0' J J (st0 (Ym J J))<|r0' J J (st0 (Yb J J (i:=1) J Zi Xv))<|r0' J J (st0 (Ys J J J ⟨by omega,by omega⟩))<|Yo<|Pu (n:=3) 2 6 ?_ ?_
    ·exact Yp J (Zh (n:=81) (Ic _ _ _ (by omega) (by omega)) J J J K2 call132 (Zb 2 J J J Ze) J hw) fun v_3 _=>Zy (n:=0) [(7,0),(6,1),(8,3)]<|r0' J J (st0 (Lq J J))<|r1' J (Hr (i:=82) (n:=(dg U x).length+1) (by_:=8) (enc:=Iz) 0 J J J J Xv ti149 J pU.cells pU.pos J J J hw) fun v_4 _=>r3' J (Px (Lq J J) J) fun _ _=>Yo<|Yg<|Qy (_,_) trivial K4 ⟨by rw [hDe];rfl,rfl,rfl,rfl,rfl,trivial⟩
    ·exact Yp J (Hr (i:=82) (n:=(dg U x).length+1) (by_:=8) (enc:=Iz) 0 J J J J Xv ti149 J pU.cells pU.pos J J J hw) fun v_5 _=>Zy (n:=0) [(2,1),(7,0),(8,3)]<|r1' J (Zh (n:=81) (Ic _ _ _ (by omega) (by omega)) J J J K2 call132 (Zb 2 J J J Ze) J hw) fun v_6 _=>r0' J J (st0 (Lq J J))<|r3' J (Px (Lq J J) J) fun _ _=>Yo<|Yg<|Qy (_,_) trivial K4 ⟨by rw [hDe];rfl,rfl,rfl,rfl,rfl,trivial⟩
   ·rintro⟨vd,vr⟩ -
    simp only [CA,NA]
    refine Zc ?_
    have hnl:(dg U (x*2^b)).length≤(dg U x).length+1:=(Xo Pd _ _).2 (by rw [Nat.pow_succ];exact Nat.mul_lt_mul_of_lt_of_le ((Xo Pd _ x).1 (Nat.le_refl _)) (by rw [U_eq];exact Nat.pow_le_pow_right (by omega) (by omega)) Pq)
    refine Zg<|mv J<|mv J<|mv J<|tt (Zh (n:=5) (Ic _ _ _ (by omega) (by omega)) J J J K2 call132 (Zb 1 J J J Ze) J hw) fun v_7 _=>tt (t_cpy (i:=82) (j:=5) 0 J J J J J J (by decide) J Zi (Zxx _ _ _) (by rw [List.length_replicate];exact hnl) (by rw [List.length_replicate];omega) (by rw [List.length_replicate];omega) Xv pU J hw) fun _ _=>Zf<|Za<|Zc ?_
    have hR0l:(spl (List.replicate ((dg U x).length+1) 0) 0 (dg U (x*2^b))).length=(dg U x).length+1:=by rw [Kb _ _ _ (by rw [List.length_replicate];omega),List.length_replicate]
    refine Zg<|mv J<|dt (Yb J J (i:=81) J Zi Xv)<|as_ J<|Zf<|Za<|Zc ?_
    have hql0:(List.replicate ((dg U x).length+1-k) (0:Nat)).length=(dg U x).length+1-k:=List.length_replicate
    refine Yl (Ib 11 (v':= .int .i64 (k:Int)) J (by rw [hkD]))<|Zg<|mv J<|dt (Yb J J (i:=82) J (Yq pU) Xv)<|mv J<|dt (Qa J J J ⟨by omega,by omega⟩)<|tt (Hr (i:=6) (n:=(dg U x).length+1-k) (by_:=8) (enc:=Iz) 0 J J J J Xv ti149 J pU.cells pU.pos J J J hw) fun v_8 _=>as_ J<|Zf<|Za<|Zc<|Zc<|Zg<|mv J<|dt (Yb J J (i:=6) J (Yq pU) Xv)<|dt (Qa J J J ⟨by omega,by omega⟩)<|as_ J<|Zf<|Za<|Zl ?_
    refine Nt [(8,_),(9,_),(10,_),(11,_),(12,_)] [(0,_),(81,_),(1,_),(2,_),(5,_)] (fun(q:Nat×List Nat×List Nat)=>[(13,.int .i64 ((q.1:Int)-1))]) (fun(q:Nat×List Nat×List Nat)=>[(82,osl 1 149 Iz vr q.2.1),(6,osl 1 149 Iz v_8 q.2.2)]) (fun(q:Nat×List Nat×List Nat)=>(q.1≤(dg U x).length+1-k)∧(q.2.1.length=(dg U x).length+1)∧(∀d∈q.2.1,d<U)∧(q.2.2.length=(dg U x).length+1-k)∧(∀d∈q.2.2,d<U)∧(val U q.2.1<D*U^q.1)∧(val U (q.2.2.drop q.1)*U^q.1*D+val U q.2.1=x*2^b)) (fun(q:Nat×List Nat×List Nat)=>q.1) ((dg U x).length+1-k,spl (List.replicate ((dg U x).length+1) 0) 0 (dg U (x*2^b)),List.replicate ((dg U x).length+1-k) 0) ⟨Nat.le_refl _,hR0l,Zmo (Nf _ Pq) (Li Pd _) 0,by simp,Nf _ Pq,by rw [Zmv,My Pd];exact Zx1 ((Xo Pd _ x).1 (Nat.le_refl _)) hb63 hk1 (by omega) hD63,by rw [Zmv,My Pd];simp [val]⟩ ⟨by rw [List.length_replicate];rfl,rfl,rfl,rfl,rfl,rfl,trivial⟩ K7 ?_
    rintro⟨jj,R,q⟩ ⟨hj,hRl,hRa,hql,hqa,hV,hN⟩
    dsimp only at hj hRl hRa hql hqa hV hN
    simp only [CA,NA]
    refine Zc<|Zc<|Zg<|mv J<|dt (Lx J J J)<|Zf<|Za<|Zq J (fun h179=>?_) (fun h179=>?_)
    ·refine Zj<|Za<|Zc<|Zl<|Zc ?_
     have hW1:val U R<U^(jj-1+k+1):=by
      refine Nat.lt_of_lt_of_le hV ?_
      rw [show jj-1+k+1=k+jj by omega,Nat.pow_add]
      exact Nat.mul_le_mul_right _ (Nat.le_of_lt hDk)
     have hWz:tz ((R.drop (jj-1)).take (jj-1+k+1-(jj-1)))=dg U (val U R/U^(jj-1)):=win_val hRa (by omega) (by rw [show jj-1+(jj-1+k+1-(jj-1))=jj-1+k+1 by omega];exact hW1)
     have hWD:val U R/U^(jj-1)<D*U:=by
      rw [Nat.div_lt_iff_lt_mul (Nat.pow_pos Pq),Nat.mul_assoc,←Nat.pow_succ',show(jj-1).succ=jj by omega];exact hV
     have hWb:bl (val U R/U^(jj-1))≤4294967296:=by
      have h1:=Ow (Nat.le_of_lt hWD)
      have h2:=Zko D U
      have h3:bl U≤65:=(Me 65 U).2 (by simp [U])
      omega
     have htop:=top_two hRa (j:=jj-1) hk1 hW1 (by omega)
     have hDt:(dg U D).getD (k-1) 0*U^(k-1)≤D:=by
      rw [Ij Pd];exact Nat.le_trans (Nat.mul_le_mul_right _ (Nat.mod_le _ _)) (Nat.div_mul_le_self _ _)
     have hQU:val U R/U^(jj-1)/D≤18446744073709551615:=by
      have:=(Nat.div_lt_iff_lt_mul hD0).2 (show _<U*D by rw [Nat.mul_comm];exact hWD)
      simp only [U]at this ⊢;omega
     refine Zg<|as_ J<|Zf<|Za<|Dj [(8,_),(9,_),(10,_),(11,_),(12,_),(13,_)] [(0,_),(82,_),(6,_),(81,_),(1,_),(2,_),(5,_)] (fun(g:Nat)=>[(14,.int .u64 (g:Int))]) (fun(g:Nat)=>[]) (fun(g:Nat)=>(val U R/U^(jj-1)/D≤g)∧(g<U)) K6 K7 ?_ ?_
     ·refine Zc<|Ql (fun _=>False) [(0,0),(1,0),(2,0),(3,0),(4,0),(5,0),(6,0),(7,0),(8,0),(9,0),(10,0),(11,0)] ?_ ?_
      ·kernel_rfl
      refine r0' J J (st0 (Ym J J))<|r0' J J (st0 (Ym J J))<|r0' J J (st0 (Ym J J))<|r0' J J (st0 (Ys J J J ⟨by omega,by omega⟩))<|r0' J J (st0 (Yw (ii:=82) (i:=jj-1+k) J J J J (Yq pU) Xv Mg))<|r0' J J (st0 (Xm (ii:=82) 0 J J J (Yq pU) pU (by first | omega | (simp only [List.length_set];omega))))<|r0' J J (st0 (Ym J J))<|r0' J J (st0 (Ym J J))<|r0' J J (st0 (Qa J J J ⟨by omega,by omega⟩))<|r0' J J (st0 (Yw (ii:=81) (i:=k-1) J J J J Zi Xv Mg))<|r0' J J (st0 (Xm (ii:=81) 0 J J J Zi pU (by first | omega | (simp only [List.length_set];omega))))<|r0' J J (st0 (Xu J J J))<|Og<|Za<|Zq J (fun h182=>?_) (fun h182=>?_)
      ·refine Ql (fun _=>False) [(0,0),(1,0),(2,0),(3,0),(4,0),(5,0),(6,0),(7,0),(8,0),(9,0),(10,0),(11,0),(12,0),(13,0),(14,0),(15,0),(16,0),(17,0),(18,1),(19,0),(20,0),(21,0),(22,0)] ?_ ?_
       ·kernel_rfl
       refine r0' J J (st0 (Ym J J))<|r0' J J (st0 (Ym J J))<|r0' J J (st0 (Ym J J))<|r0' J J (st0 (Ys J J J ⟨by omega,by omega⟩))<|r0' J J (st0 (Yw (ii:=82) (i:=jj-1+k) J J J J (Yq pU) Xv Mg))<|r0' J J (st0 (Xm (ii:=82) 0 J J J (Yq pU) pU (by first | omega | (simp only [List.length_set];omega))))<|r0' J J (st0 (Ym J J))<|r0' J J (st0 (Ym J J))<|r0' J J (st0 (Ym J J))<|r0' J J (st0 (Ys J J J ⟨by omega,by omega⟩))<|r0' J J (st0 (Qa J J J ⟨by omega,by omega⟩))<|r0' J J (st0 (Yw (ii:=82) (i:=jj-1+k-1) J J J J (Yq pU) Xv Mg))<|r0' J J (st0 (Xm (ii:=82) 0 J J J (Yq pU) pU (by first | omega | (simp only [List.length_set];omega))))<|r0' J J (st0 (Ym J J))<|r0' J J (st0 (Ym J J))<|r0' J J (st0 (Qa J J J ⟨by omega,by omega⟩))<|r0' J J (st0 (Yw (ii:=81) (i:=k-1) J J J J Zi Xv Mg))<|r0' J J (st0 (Xm (ii:=81) 0 J J J Zi pU (by first | omega | (simp only [List.length_set];omega))))<|r1' J (Zh (n:=6) (Zo0 _ _ _ (Qm Pq hRa _) (Qm Pq (Li Pd _) _) (by omega)) J J J K3 call193 Ze J hw) fun _ _=>r0' J J (st0 (Ym J J))<|r0' J J (st0 (Yf J J J))<|r0' J J (st0 (Yf J J J))<|r0' J J (st0 (Lq J J))<|Og ?_
       exact Qy _ ⟨Zxs hDt (by omega) htop,Zoj (Qm Pq hRa _) (by omega)⟩ K7 K7
      ·exact Zj<|Qy 18446744073709551615 ⟨hQU,by decide⟩ K7 K7
     ·rintro g ⟨hg,hgU⟩
      simp only [CA,NA]
      refine Zc<|Zg<|mv J<|mv J<|mv J<|mv J<|dt (Ys J J J ⟨by omega,by omega⟩)<|dt (Ys J J J ⟨by omega,by omega⟩)<|dt (d_mid (ii:=82) (i:=jj-1) (j:=jj-1+k+1) J J J J J (Yq pU) Xv Mg (by omega) (by omega) (by omega) (by omega))<|as_ J<|Zf<|Za<|Zc<|Zg<|mv J<|mv J<|tt (Pn (i:=7) (ivs:=[(0,_)]) (enc:=Iz) [g] J J K2 Xv ti149 J J J J J pU.cells J J hw) fun v_9 _=>tt (Zh (n:=7) (Oi _ _) J J J K1 call127 (Xw 7 J J pU Ze) J hw) fun _ _=>Pr (Zf1 7 J J pU)<|Pr (Zcx 7 (Zd2 hgU) J J)<|tt (Zh (n:=83) (Zsl _ _ _ _ (by omega) (Nat.le_trans ((Me 64 g).2 hgU) (by omega))) J J J K2 call194 (Zb 81 J J J (Xw 7 J J pU Ze)) J hw) fun v_10 _=>as_ J<|Zf<|Za<|Zc<|Zl<|Nt [(8,_),(9,_),(10,_),(11,_),(12,_),(13,_),(15,_)] [(0,_),(82,_),(6,_),(81,_),(1,_),(2,_),(5,_),(7,_)] (fun(q:Nat×Value)=>[(14,.int .u64 (q.1:Int)),(16,q.2)]) (fun(q:Nat×Value)=>[(83,dgp q.2 (D*q.1))]) (fun(q:Nat×Value)=>(val U R/U^(jj-1)/D≤q.1)∧(q.1<U)) (fun(q:Nat×Value)=>q.1) (g,_) ⟨by first | omega | (dsimp only<;>omega),by first | omega | (dsimp only<;>omega)⟩ K9 K9 ?_
      rintro⟨g,vp⟩ ⟨hg,hgU⟩
      dsimp only at hg hgU
      simp only [CA,NA]
      have hPb:bl (D*g)≤4294967296:=by have h1:=Zko D g;have h2:=(Me 64 g).2 hgU;omega
      refine Zc<|Zc<|Zg<|mv J<|tt (Zh (n:=7) (Oi _ _) J J J K1 call127 (Zar 82 J J pU (Zhn (jj-1) (jj-1+k+1)) (Zip _ _ _ _) Ze) J hw) fun _ _=>mv J<|tt (Zh (n:=7) (Am _ _ _ _ hWb hPb) J J J K2 call172 (Zar 82 J J pU (row_tz hWz (by rw [hWz]) (Zhn (jj-1) (jj-1+k+1))) (by rw [Nq];exact(Zip _ _ _ _)) (Zb 83 J J J Ze)) J hw) fun r_2 hr_2=>dt (Xu J J J)<|Zf<|Za<|Zq J (fun h187=>?_) (fun h187=>?_)
      ·have hlt:val U R/U^(jj-1)<D*g:=hr_2.1.1 (by omega)
       have hg1:1≤g:=by rcases Nat.eq_zero_or_pos g with h | h;(rw [h,Nat.mul_zero]at hlt;exact absurd hlt (Nat.not_lt_zero _));exact h
       have hDg:D≤D*g:=Nat.le_mul_of_pos_right _ hg1
       have hQg:val U R/U^(jj-1)/D≤g-1:=by have:=(Nat.div_lt_iff_lt_mul hD0).2 (show _<g*D by rw [Nat.mul_comm];exact hlt);omega
       exact Zj<|Za<|Zl<|Zc<|Zg<|mv J<|dt (Zfj (n:=1) J J J)<|as_ J<|Zf<|Za<|Yl (Ib 14 (v':= .int .u64 ((g-1:Nat):Int)) J (Zad (Zt4 hg1 hgU)))<|Zg<|mv J<|mv J<|tt (Zh (n:=8) (Zew _ _ _ _ hPb hDg) J J J K2 call173 (Zb 83 J J J (Zb 81 J J J Ze)) J hw) fun v_11 _=>as_ J<|Zf<|Oa<|Qv (Oc 8 83 J J J)<|Xk (g-1,_) ⟨hQg,by dsimp only;omega⟩ (by first | omega | (dsimp only<;>omega)) K9 ⟨by rw [Nat.mul_sub_one];rfl,rfl,rfl,rfl,rfl,rfl,rfl,rfl,rfl,trivial⟩
      ·refine Yu<|Zu<|Zu<|Ox<|Za<|Zc ?_
       have hQ:g=val U R/U^(jj-1)/D:=by
        have h1:=hr_2.1
        have h2:D*g≤val U R/U^(jj-1):=by omega
        exact Nat.le_antisymm ((Nat.le_div_iff_mul_le hD0).2 (by rw [Nat.mul_comm];exact h2)) hg
       refine Zg<|mv J<|tt (Zh (n:=8) (Oi _ _) J J J K1 call127 (Zar 82 J J pU (Zhn (jj-1) (jj-1+k+1)) (Zip _ _ _ _) Ze) J hw) fun _ _=>mv J<|tt (Zh (n:=9) (Zew _ _ _ _ hWb) J J J K2 call173 (Zar 82 J J pU (row_tz hWz (by rw [hWz]) (Zhn (jj-1) (jj-1+k+1))) (by rw [Nq];exact(Zip _ _ _ _)) (Zb 83 J J J Ze)) J hw) fun v_12 _=>as_ J<|Zf<|Za<|Zc ?_
       have hll:(dg U (val U R/U^(jj-1)-D*g)).length≤jj-1+k+1-(jj-1):=by
        have:val U R/U^(jj-1)-D*g<D:=by rw [hQ];have h3:=Nat.div_add_mod (val U R/U^(jj-1)) D;have h4:=Nat.mod_lt (val U R/U^(jj-1)) hD0;omega
        have:=(Xo Pd k _).2 (Nat.lt_trans this hDk)
        omega
       refine Zg<|mv J<|tt (t_clr (zv:= .bool false) (i:=82) (z:=0) (jj-1) J J J J (by decide) (Ztw _ _ _ (by omega)) (by omega) (by omega) Xv pU (fun w=>zeroValue149 w) J J hw) fun _ _=>Zf<|Za<|Zc<|Zg<|mv J<|mv J<|tt (t_cpy (i:=82) (j:=9) (jj-1) J J J J J J (by decide) J Zi (Ztw _ _ _ (by rw [Kb _ _ _ (by rw [List.length_replicate];omega)];omega)) hll (by rw [Kb _ _ _ (by rw [List.length_replicate];omega)];omega) (by rw [Kb _ _ _ (by rw [List.length_replicate];omega)];omega) Xv pU J hw) fun _ _=>Zf<|Za ?_
       have hL1:jj-1+(List.replicate (jj-1+k+1-(jj-1)) 0).length≤R.length:=by rw [List.length_replicate];omega
       have hl1:=Kb R (jj-1) _ hL1
       have hL2:jj-1+(dg U (val U R/U^(jj-1)-D*g)).length≤(spl R (jj-1) (List.replicate (jj-1+k+1-(jj-1)) 0)).length:=by omega
       have hval:=val_win hRa (j:=jj-1) (n:=jj-1+k+1-(jj-1)) (by omega) (by rw [show jj-1+(jj-1+k+1-(jj-1))=jj-1+k+1 by omega];exact hW1) hll
       rw [My Pd]at hval
       have hst:=Zxz (j:=jj-1) (N:=x*2^b) (Vq:=val U (q.drop jj)) hD0 hQ (by rw [show jj-1+1=jj by omega];exact hN)
       have hV2:=hst.1
       have hN2:=hst.2
       rw [←hval]at hV2 hN2
       have hdq:val U ((q.set (jj-1) g).drop (jj-1))=g+U*val U (q.drop jj):=by rw [drop_set _ _ _ (by omega),show jj-1+1=jj by omega];rfl
       rw [←hdq]at hN2
       exact Zg<|mv J<|mv J<|mv J<|dt (Yw (ii:=6) (i:=jj-1) J J J J (Yq pU) Xv Mg)<|tt (Kz (i:=6) (enc:=Iz) _ J J J J J J pU J hw (by decide) (by first | omega | (simp only [List.length_set];omega))) fun _ _=>Zf<|Oa<|Za<|Zg<|mv J<|dt (Qa J J J ⟨by omega,by omega⟩)<|as_ J<|Zf<|Xk (jj-1,_,_) ⟨by first | omega | (dsimp only<;>omega),(Kb _ _ _ hL2).trans (hl1.trans hRl),Zmo (Zmo hRa (Nf _ Pq) _) (Li Pd _) _,by simp;omega,Ln hqa _ _ hgU,hV2,hN2⟩ (by first | omega | (dsimp only<;>omega)) ⟨by rw [show(((jj-1:Nat):Int)-1)=(jj:Int)-1-1 by omega];rfl,rfl,rfl,rfl,rfl,rfl,trivial⟩ K7
    ·refine Yu<|Zu<|Zu<|Ox<|Za<|Zc ?_
     obtain rfl:jj=0:=by omega
     rw [Nat.pow_zero,Nat.mul_one]at hV
     have hVb:bl (val U R)≤8589934592:=by have:=Ow (Nat.le_of_lt hV);omega
     refine Zg<|mv J<|tt (Zh (n:=9) (Oi _ _) J J J K1 call127 (Xw 6 J J pU Ze) J hw) fun _ _=>Pr (Zf1 6 J J pU)<|mv J<|tt (Zh (n:=9) (Oi _ _) J J J K1 call127 (Xw 82 J J pU Ze) J hw) fun _ _=>Pr (Zf1 82 J J pU)<|Pr (Zcx 82 (Kk Pd R hRa).symm J J)<|mv J<|tt (Zh (n:=10) (nat_shr _ _ _ hVb (by omega)) J J J K2 call195 (Xw 82 J J pU Ze) J hw) fun v_13 _=>as_ J<|as_ J<|Zf<|Za<|Zv ?_
     rw [List.drop_zero,Nat.pow_zero,Nat.mul_one]at hN
     have hqq:tz q=dg U (x/y):=by
      rw [←Kk Pd _ hqa,←Zjb x y b,←hDe,←hN,Nat.mul_comm,Nat.mul_add_div hD0,Nat.div_eq_of_lt hV,Nat.add_zero]
     have hrr:val U R/2^b=x%y:=by
      rw [←Zja x y b,←hDe,←hN,Nat.mul_comm,Nat.mul_add_mod,Nat.mod_eq_of_lt hV]
     exact Yn (.inl J) hsc (_,_) _ (fun a w hs=>Np hs results174 J J) J trivial J (Py 6 J J pU hqq (Yk 10 J J J (by rw [hrr]) Zk))
theorem Zls(v w:Value)(x y:Nat)(hx:bl x≤4000000000:=by omega)(hy:bl y≤4000000000:=by omega):Cal prog 185 #[v,w] [dgp v x,dgp w y] true (G:=Value) (fun r=>True) (fun r=>r) (fun r=>[dgp r (Nat.gcd x y)]):=by
 refine Ya func185 J ntmps185 J K2 ?_
 intro w0 sc hw hsc
 simp only [Zp,Zn]
 have hX:=Mj x
 have hY:=Mj y
 refine Zc<|Zg<|as_ J<|Zf<|Za<|Zc<|Zl<|Yl (Oc 1 91 J J J)<|Yl (Oc 2 92 J J J)<|Nt [] [(0,_),(1,_),(2,_)] (fun(q:Value×Value×Nat×Nat)=>[(0,q.1),(1,q.2.1)]) (fun(q:Value×Value×Nat×Nat)=>[(91,dgp q.1 q.2.2.1),(92,dgp q.2.1 q.2.2.2)]) (fun(q:Value×Value×Nat×Nat)=>(Nat.gcd q.2.2.1 q.2.2.2=Nat.gcd x y)∧(bl q.2.2.1≤4000000000)∧(bl q.2.2.2≤4000000000)) (fun(q:Value×Value×Nat×Nat)=>q.2.2.2) (v,w,x,y) ⟨J,hx,hy⟩ K2 K5 ?_
 rintro⟨va,vb,a,b⟩ ⟨hg,ha,hb⟩
 dsimp only at hg ha hb
 simp only [CA,NA]
 refine Zc<|Zc<|Zg<|mv J<|dt (Yb J J (i:=92) J Zi Xv)<|dt (Oq J J J)<|Zf<|Za<|Zq J (fun h201=>?_) (fun h201=>?_)
 ·have hb0:0<b:=by rcases Nat.eq_zero_or_pos b with h | h;(subst h;simp [Ii]at h201);exact h
  refine Zj<|Za<|Zl<|Zc<|Zg<|mv J<|mv J<|tt (Zh (n:=3) (Zsm _ _ _ _ ha hb hb0) J J J K2 call174 (Zb 91 J J J (Zb 92 J J J Ze)) J hw) fun g _=>mv J<|dt (Yf J J J)<|dt (Yf J J J)<|as_ J<|as_ J<|Zf<|Za<|Zg<|mv J<|mv J<|as_ J<|as_ J<|Zf<|Oa ?_
  have hlt:a%b<b:=Nat.mod_lt _ hb0
  exact Qv (Oc 92 91 J J J)<|Qv (Oc 4 92 J J J)<|Xk (_,_,b,a%b) ⟨by dsimp only;rw [←hg,Nat.gcd_comm b,←Nat.gcd_rec,Nat.gcd_comm],hb,Nat.le_trans (Ow (Nat.le_of_lt hlt)) hb⟩ hlt K2 K5
 ·have hb0:b=0:=(Ph Pd b).1 (by omega)
  exact Yu<|Zu<|Zu<|Ox<|Za<|Zc<|Zg<|mv J<|as_ J<|Zf<|Za<|Zv<|Yn (.inl J) hsc _ _ (fun a w hs=>Nn hs results185 J) J trivial J (Yk 91 J J J (by rw [←hg,hb0,Nat.gcd_zero_right]) Zk)
theorem Zlq(s:Bool)(v:Value)(x:Int)(hs:sg s x):Cal prog 134 #[.agg #[.bool s,v]] [dgp v x.natAbs] true (G:=Bool×Value) (fun r=>sg r.1 (-x)) (fun r=> .agg #[.bool r.1,r.2]) (fun r=>[dgp r.2 (-x).natAbs]):=by
 refine Ya func134 J ntmps134 J K1 ?_
 intro w0 sc hw hsc
 simp only [Zp,Zn]
 exact Zc<|Zg<|tt (Xe (i:=2) J J J J J hw) fun b _=>tt (Zo (i:=3) J J zeroValue154 J J hw) fun b_2 _=>Zf<|Za<|Zc<|Zg<|dt (Xx J J Mx J zT4 J J)<|dt (Ok (i:=2) J J J iA4 J)<|dt (Xp J J)<|dt (Xx J J Mx J Fe J J)<|dt (Ok (i:=2) J J J Fl J)<|dt (Pz (ivs:=[(0,_),(1,_)]) J K4 (fun a w hs=>Nb ((Zd J) a w hs) ((Zt (i:=1) J Zi) a w hs)))<|tt (Zm (i:=3) J J J J J (by decide) J Xb J J ⟨Zd J,Zt (i:=1) J Zi,trivial⟩ J hw trivial) fun _ _=>Zf<|Za<|Zv<|Yn (.inl J) hsc (!s,v) _ (fun a w hs=>Nn hs results134 (Yr (i:=3) J J Lt Xb J)) J (sg_neg hs) J (Yk 1 J J J (by rw [Int.natAbs_neg]) Zk)
theorem Zb5(s t:Bool)(v w:Value)(x y:Int)(hs:sg s x)(ht:sg t y)(hx:bl x.natAbs≤4294967296:=by omega)(hy:bl y.natAbs≤4294967296:=by omega):Cal prog 176 #[.agg #[.bool s,v],.agg #[.bool t,w]] [dgp v x.natAbs,dgp w y.natAbs] true (G:=Bool×Value) (fun r=>sg r.1 (x*y)) (fun r=> .agg #[.bool r.1,r.2]) (fun r=>[dgp r.2 (x*y).natAbs]):=by
 refine Ya func176 J ntmps176 J K2 ?_
 intro w0 sc hw hsc
 simp only [Zp,Zn]
 refine Zc<|Zg<|tt (Xe (i:=3) J J J J J hw) fun b _=>tt (Xe (i:=4) J J J J J hw) fun b_2 _=>tt (Zo (i:=5) J J zeroValue154 J J hw) fun b_3 _=>Zf<|Za<|Zc<|Ql (fun _=>False) [(0,0),(1,0),(2,0),(3,0),(4,0),(5,0),(6,0),(7,0),(8,0),(9,1),(10,0),(11,3)] ?_ ?_
 ·kernel_rfl
 exact r0' J J (st0 (Xx J J Mx J zT4 J J))<|r0' J J (st0 (Ok (i:=3) J J J iA4 J))<|r0' J J (st0 (Xx J J Mx J zT4 J J))<|r0' J J (st0 (Ok (i:=4) J J J iA4 J))<|r0' J J (st0 (Zp1 J J J uT4))<|r0' J J (st0 (Xx J J Mx J Fe J J))<|r0' J J (st0 (Ok (i:=3) J J J Fl J))<|r0' J J (st0 (Xx J J Mx J Fe J J))<|r0' J J (st0 (Ok (i:=4) J J J Fl J))<|r1' J (Zh (n:=6) (Zsl _ _ _ _ hx hy) J J J K2 call194 (Zb 1 J J J (Zb 2 J J J Ze)) J hw) fun v _=>r0' J J (st0 (Pz (ivs:=[(0,_),(1,_)]) J K4 (fun a w hs=>Nb ((Zd J) a w hs) ((Zt (i:=6) J Zi) a w hs))))<|r3' J (Zm (i:=5) J J J J J (by decide) J Xb J J ⟨Zd J,Zt (i:=6) J Zi,trivial⟩ J hw trivial) fun _ _=>Og<|Za<|Zv<|Yn (.inl J) hsc (_,_) _ (fun a w hs=>Nn hs results176 (Yr (i:=5) J J Lt Xb J)) J (sg_mul hs ht) J (Yk 6 J J J (by rw [Int.natAbs_mul]) Zk)
theorem Zh1(s:Bool)(v:Value)(x:Int)(hs:sg s x)(hx:bl x.natAbs≤4294967296:=by omega):Cal prog 135 #[.agg #[.bool s,v]] [dgp v x.natAbs] true (G:=Unit) (fun _=>True) (fun _=> .int .i64 x.sign) (fun _=>[]):=by
 refine Ya func135 J ntmps135 J K1 ?_
 intro w0 sc hw hsc
 simp only [Zp,Zn]
 have hX:=Mj x.natAbs
 refine Zc<|Zg<|tt (Xe (i:=2) J J J J J hw) fun b _=>as_ J<|Zf<|Za<|Zc<|Zl<|Zc<|Zg<|dt (Xx J J Mx J Fe J J)<|dt (Ok (i:=2) J J J Fl J)<|dt (Yb J J (i:=1) J Zi Xv)<|dt (Pm J J J)<|as_ J<|Zf<|Za<|Zq J (fun h245=>?_) (fun h245=>?_)
 ·exact Zc<|Zg<|as_ J<|Zf<|Za<|Zv<|Hf<|Xc<|xU hsc results135 J J (Zq4 h245)
 ·refine Zc<|Zg<|dt (Xx J J Mx J zT4 J J)<|dt (Ok (i:=2) J J J iA4 J)<|as_ J<|Zf<|Za<|Lm J (fun h247=>?_) (fun h247=>?_)
  ·exact Zc<|Zg<|as_ J<|Zf<|Za<|Zv<|Hf<|Xc<|xU hsc results135 J J (Zvz hs h247 h245)
  ·exact Zj<|Oa<|Za<|Zc<|Zg<|as_ J<|Zf<|Za<|Zv<|xU hsc results135 J J (Zvy hs h247 h245)
theorem Zet(s t:Bool)(v w:Value)(x y:Int)(hs:sg s x)(ht:sg t y)(hx:bl x.natAbs≤4294967296:=by omega)(hy:bl y.natAbs≤4294967296:=by omega):Cal prog 131 #[.agg #[.bool s,v],.agg #[.bool t,w]] [dgp v x.natAbs,dgp w y.natAbs] true (G:=Bool×Value) (fun r=>sg r.1 (x+y)) (fun r=> .agg #[.bool r.1,r.2]) (fun r=>[dgp r.2 (x+y).natAbs]):=by
 refine Ya func131 J ntmps131 J K2 ?_
 intro w0 sc hw hsc
 simp only [Zp,Zn]
 refine Zc<|Zg<|tt (Xe (i:=3) J J J J J hw) fun b _=>tt (Xe (i:=4) J J J J J hw) fun b_2 _=>tt (Zo (i:=5) J J zeroValue154 J J hw) fun b_3 _=>Zf<|Za<|Zc<|Zl<|Zc<|Zg<|dt (Xx J J Mx J zT4 J J)<|dt (Ok (i:=3) J J J iA4 J)<|dt (Xx J J Mx J zT4 J J)<|dt (Ok (i:=4) J J J iA4 J)<|dt (d_eqb J J J uT4)<|as_ J<|Zf<|Za<|Lm J (fun h231=>?_) (fun h231=>?_)
 ·have hst:s=t:=by simpa using h231
  refine Zc<|Ql (fun _=>False) [(0,0),(1,0),(2,0),(3,0),(4,0),(5,0),(6,1),(7,0),(8,3)] ?_ ?_
  ·kernel_rfl
  exact r0' J J (st0 (Xx J J Mx J zT4 J J))<|r0' J J (st0 (Ok (i:=3) J J J iA4 J))<|r0' J J (st0 (Xx J J Mx J Fe J J))<|r0' J J (st0 (Ok (i:=3) J J J Fl J))<|r0' J J (st0 (Xx J J Mx J Fe J J))<|r0' J J (st0 (Ok (i:=4) J J J Fl J))<|r1' J (Zh (n:=6) (Zsn _ _ _ _ hx hy) J J J K2 call171 (Zb 1 J J J (Zb 2 J J J Ze)) J hw) fun v _=>r0' J J (st0 (Pz (ivs:=[(0,_),(1,_)]) J K4 (fun a w hs=>Nb ((Zd J) a w hs) ((Zt (i:=6) J Zi) a w hs))))<|r3' J (Zm (i:=5) J J J J J (by decide) J Xb J J ⟨Zd J,Zt (i:=6) J Zi,trivial⟩ J hw trivial) fun _ _=>Og<|Za<|Zv<|Hf<|Xc<|Yn (.inl J) hsc (_,_) _ (fun a w hs=>Nn hs results131 (Yr (i:=5) J J Lt Xb J)) J (Zra hs (hst▸ht)) J (Yk 6 J J J (by rw [Zdu hs (hst▸ht)]) Zk)
 ·have hst:s≠t:=by simpa using h231
  refine Zc<|Zg<|dt (Xx J J Mx J Fe J J)<|dt (Ok (i:=3) J J J Fl J)<|dt (Xx J J Mx J Fe J J)<|dt (Ok (i:=4) J J J Fl J)<|tt (Zh (n:=6) (Am _ _ _ _ hx hy) J J J K2 call172 (Zb 1 J J J (Zb 2 J J J Ze)) J hw) fun r hr=>dt (Lx J J J)<|as_ J<|Zf<|Za<|Zq J (fun h233=>?_) (fun h233=>?_)
  ·have hge:y.natAbs≤x.natAbs:=by have:=hr.1;omega
   refine Zc<|Ql (fun _=>False) [(0,0),(1,0),(2,0),(3,0),(4,0),(5,0),(6,1),(7,0),(8,3)] ?_ ?_
   ·kernel_rfl
   exact r0' J J (st0 (Xx J J Mx J zT4 J J))<|r0' J J (st0 (Ok (i:=3) J J J iA4 J))<|r0' J J (st0 (Xx J J Mx J Fe J J))<|r0' J J (st0 (Ok (i:=3) J J J Fl J))<|r0' J J (st0 (Xx J J Mx J Fe J J))<|r0' J J (st0 (Ok (i:=4) J J J Fl J))<|r1' J (Zh (n:=7) (Zew _ _ _ _ hx) J J J K2 call173 (Zb 1 J J J (Zb 2 J J J Ze)) J hw) fun v_2 _=>r0' J J (st0 (Pz (ivs:=[(0,_),(1,_)]) J K4 (fun a w hs=>Nb ((Zd J) a w hs) ((Zt (i:=7) J Zi) a w hs))))<|r3' J (Zm (i:=5) J J J J J (by decide) J Xb J J ⟨Zd J,Zt (i:=7) J Zi,trivial⟩ J hw trivial) fun _ _=>Og<|Za<|Zv<|Hf<|Xc<|Yn (.inl J) hsc (_,_) _ (fun a w hs=>Nn hs results131 (Yr (i:=5) J J Lt Xb J)) J (Zhh hs ht hst hge) J (Yk 7 J J J (by rw [Bk hs ht hst hge]) Zk)
  ·have hge:x.natAbs≤y.natAbs:=by have:=hr.1;omega
   refine Zj<|Oa<|Za<|Zc<|Ql (fun _=>False) [(0,0),(1,0),(2,0),(3,0),(4,0),(5,0),(6,1),(7,0),(8,3)] ?_ ?_
   ·kernel_rfl
   exact r0' J J (st0 (Xx J J Mx J zT4 J J))<|r0' J J (st0 (Ok (i:=4) J J J iA4 J))<|r0' J J (st0 (Xx J J Mx J Fe J J))<|r0' J J (st0 (Ok (i:=4) J J J Fl J))<|r0' J J (st0 (Xx J J Mx J Fe J J))<|r0' J J (st0 (Ok (i:=3) J J J Fl J))<|r1' J (Zh (n:=8) (Zew _ _ _ _ hy) J J J K2 call173 (Zb 2 J J J (Zb 1 J J J Ze)) J hw) fun v_3 _=>r0' J J (st0 (Pz (ivs:=[(0,_),(1,_)]) J K4 (fun a w hs=>Nb ((Zd J) a w hs) ((Zt (i:=8) J Zi) a w hs))))<|r3' J (Zm (i:=5) J J J J J (by decide) J Xb J J ⟨Zd J,Zt (i:=8) J Zi,trivial⟩ J hw trivial) fun _ _=>Og<|Za<|Zv<|Yn (.inl J) hsc (_,_) _ (fun a w hs=>Nn hs results131 (Yr (i:=5) J J Lt Xb J)) J (by rw [Int.add_comm];exact Zhh ht hs (Ne.symm hst) hge) J (Yk 8 J J J (by rw [Int.add_comm,Bk ht hs (Ne.symm hst) hge]) Zk)
theorem Pb(s:Bool)(x:Int)(hs:sg s x)(hx:bl x.natAbs≤4294967296:=by omega):Cal prog 130 #[.agg #[.bool s,.string (Qq x.natAbs)]] [] true (G:=Bool×Value) (fun r=>sg r.1 x) (fun r=> .agg #[.bool r.1,r.2]) (fun r=>[dgp r.2 x.natAbs]):=by
 refine Ya func130 J ntmps130 J trivial ?_
 intro w0 sc hw hsc
 simp only [Zp,Zn]
 refine Zc<|Zg<|tt (Xe (i:=1) J J J J J hw) fun b _=>tt (Zo (i:=2) J J zeroValue154 J J hw) fun b_2 _=>Zf<|Za<|Zc<|Ql (fun _=>False) [(0,0),(1,0),(2,0),(3,0),(4,1),(5,0),(6,3)] ?_ ?_
 ·kernel_rfl
 exact r0' J J (st0 (Xx J J Zcw J zT4 J J))<|r0' J J (st0 (Ok (i:=1) J J J iA4 J))<|r0' J J (st0 (Xx J J Zcw J zT9 J J))<|r0' J J (st0 (Ok (i:=1) J J J iA9 J))<|r1' J (Zh (n:=3) (Zaa _ hx) J J J K1 call170 Ze J hw) fun v _=>r0' J J (st0 (Pz (ivs:=[(0,_),(1,_)]) J K4 (fun a w hs=>Nb ((Zd J) a w hs) ((Zt (i:=3) J Zi) a w hs))))<|r3' J (Zm (i:=2) J J J J J (by decide) J Xb J J ⟨Zd J,Zt (i:=3) J Zi,trivial⟩ J hw trivial) fun _ _=>Og<|Za<|Zv<|Yn (.inl J) hsc (_,_) _ (fun a w hs=>Nn hs results130 (Yr (i:=2) J J Lt Xb J)) J hs J (Yk 3 J J J J Zk)
theorem Kl(s:Bool)(v:Value)(x:Int)(hs:sg s x)(hx:bl x.natAbs≤4294967296:=by omega):Ml prog 128 #[.agg #[.bool s,v]] [dgp v x.natAbs] (Zcv x):=by
 refine Ya func128 J ntmps128 J K1 ?_
 intro w0 sc hw hsc
 simp only [Zp,Zn]
 refine Zc<|Zg<|tt (Xe (i:=2) J J J J J hw) fun b _=>tt (Zo (i:=3) J J zeroValue31 J J hw) fun b_2 _=>as_ J<|Zf<|Za<|Zc<|Zc<|Zg<|dt (Xx J J Mx J Fe J J)<|dt (Ok (i:=2) J J J Fl J)<|tt (Zh (n:=3) (Zh4 _ _) J J J K1 call168 (Zb 1 J J J Ze) J hw) fun _ _=>dt (Oq J J J)<|Zf<|Za<|Zq J (fun h219=>?_) (fun h219=>?_)
 ·exact Zc<|Zg<|dt (Pz (ivs:=[]) J trivial (fun a w hs=>Zye))<|tt (Zm (i:=3) J J J J J (by decide) J Yj J J ⟨Zd J,Zd J,trivial⟩ J hw trivial) fun _ _=>as_ J<|Zf<|Za<|Zv<|Xc<|Yn (.inl J) hsc () _ (fun a w hs=>Np hs results128 (Yr (i:=3) J J Qj Yj J) J) (Zqi h219) trivial J Zk
 ·refine Zj<|Za<|Zc ?_
  cases s
  ·refine Ql (fun _=>False) [(0,0),(1,0),(2,0),(3,2),(4,2),(5,2),(6,2),(7,0),(8,0),(9,0),(10,1),(11,0),(12,3),(13,3)] ?_ ?_
   ·kernel_rfl
   exact r0' J J (st0 (Xx J J Mx J zT4 J J))<|r0' J J (st0 (Ok (i:=2) J J J iA4 J))<|r0' J J (st0 (Ym J J))<|r2 J J J J J J J J<|r2 J J J J J J J J<|r2 J J J J J J J J<|r2 J J J J J J J J<|r0' J J (st0 (Yh J J J))<|r0' J J (st0 (Xx J J Mx J Fe J J))<|r0' J J (st0 (Ok (i:=2) J J J Fl J))<|r1' J (Zh (n:=3) (Zjw _ _) J J J K1 call169 (Zb 1 J J J Ze) J hw) fun _ _=>r0' J J (st0 (Pz (ivs:=[(0,_),(1,_)]) J K4 (fun a w hs=>Zu2 ((Zd J) a w hs) ((Zd J) a w hs))))<|r3' J (Zm (i:=3) J J J J J (by decide) J Yj J J ⟨Zd J,Zd J,trivial⟩ J hw trivial) fun _ _=>r3' J (Px (Lq J J) J) fun _ _=>Og<|Za<|Zv<|Yn (.inl J) hsc () _ (fun a w hs=>Np hs results128 (Yr (i:=3) J J Qj Yj J) J) (by first | exact Zmu hs h219 | exact Zmt hs h219) trivial J Zk
  ·refine Ql (fun _=>False) [(0,0),(1,0),(2,0),(3,0),(4,0),(5,0),(6,0),(7,0),(8,0),(9,0),(10,1),(11,0),(12,3),(13,3)] ?_ ?_
   ·kernel_rfl
   exact r0' J J (st0 (Xx J J Mx J zT4 J J))<|r0' J J (st0 (Ok (i:=2) J J J iA4 J))<|r0' J J (st0 (Ym J J))<|r0g (st0 (Xx J J Mx J Fe J J)) J J J J J<|r0g (st0 (Ok (i:=2) J J J Fl J)) J J J J J<|r0g (st0 (Yb J J (i:=1) J Zi Xv)) J J J J J<|r0g (st0 (Oq J J J)) J J J J J<|r0' J J (st0 (Xh J J J))<|r0' J J (st0 (Xx J J Mx J Fe J J))<|r0' J J (st0 (Ok (i:=2) J J J Fl J))<|r1' J (Zh (n:=3) (Zjw _ _) J J J K1 call169 (Zb 1 J J J Ze) J hw) fun _ _=>r0' J J (st0 (Pz (ivs:=[(0,_),(1,_)]) J K4 (fun a w hs=>Zu2 ((Zd J) a w hs) ((Zd J) a w hs))))<|r3' J (Zm (i:=3) J J J J J (by decide) J Yj J J ⟨Zd J,Zd J,trivial⟩ J hw trivial) fun _ _=>r3' J (Px (Lq J J) J) fun _ _=>Og<|Za<|Zv<|Yn (.inl J) hsc () _ (fun a w hs=>Np hs results128 (Yr (i:=3) J J Qj Yj J) J) (by first | exact Zmu hs h219 | exact Zmt hs h219) trivial J Zk
theorem Qt(s t:Bool)(v w:Value)(x y:Int)(hs:sg s x)(ht:sg t y)(hx:bl x.natAbs≤3000000000:=by omega)(hy:bl y.natAbs≤3000000000:=by omega)(hy0:y≠0:=by decide):Cal prog 133 #[.agg #[.bool s,v],.agg #[.bool t,w]] [dgp v x.natAbs,dgp w y.natAbs] true (G:=Bool×Value×Value) (fun r=>sg r.1 (x/y)) (fun r=> .tuple #[.agg #[.bool r.1,r.2.1],.agg #[.bool false,r.2.2]]) (fun r=>[dgp r.2.1 (x/y).natAbs,dgp r.2.2 (x%y).natAbs]):=by
 refine Ya func133 J ntmps133 J K2 ?_
 intro w0 sc hw hsc
 simp only [Zp,Zn]
 have hX:=Mj x.natAbs
 have hY:=Mj y.natAbs
 have hyp:0<y.natAbs:=by omega
 have hrl:x.natAbs%y.natAbs<y.natAbs:=Nat.mod_lt _ hyp
 have hrb:=Ow (Nat.le_of_lt hrl)
 have hqb:=Ow (Nat.div_le_self x.natAbs y.natAbs)
 refine Zc<|Zg<|tt (Xe (i:=3) J J J J J hw) fun b _=>tt (Xe (i:=4) J J J J J hw) fun b_2 _=>tt (Zo (i:=5) J J zeroValue154 J J hw) fun b_3 _=>tt (Zo (i:=6) J J zeroValue154 J J hw) fun b_4 _=>Zf<|Za<|Zc<|Zg<|dt (Xx J J Mx J Fe J J)<|dt (Ok (i:=3) J J J Fl J)<|dt (Xx J J Mx J Fe J J)<|dt (Ok (i:=4) J J J Fl J)<|tt (Zh (n:=7) (Zsm _ _ _ _ (by omega) (by omega) hyp) J J J K2 call174 (Zb 1 J J J (Zb 2 J J J Ze)) J hw) fun g _=>mv J<|dt (Yf J J J)<|dt (Yf J J J)<|as_ J<|as_ J<|Zf<|Za<|Zc<|Zc<|Zg<|dt (Xx J J Mx J zT4 J J)<|dt (Ok (i:=3) J J J iA4 J)<|mv J<|Za5 (d:=18) J (fun s256=>?_) (fun s256=>?_)
 ·refine gdt (Ym J J) J J<|gdt (Yb J J (i:=8) J Zi Xv) J J<|gdt (Oq J J J) J J<|dt (Xh J J J)<|Zf<|Za<|Zq J (fun h256=>?_) (fun h256=>?_)
  ·subst s256
   have hR0:0<x.natAbs%y.natAbs:=by rcases Nat.eq_zero_or_pos (x.natAbs%y.natAbs)with h | h;(rw [h]at h256;simp [Ii]at h256);exact h
   have hD:=divA hs ht hy0 hR0
   refine Ql (fun _=>False) [(0,0),(3,0),(4,0),(5,0),(1,1),(2,1),(6,1),(7,0),(8,3)] ?_ ?_
   ·kernel_rfl
   refine r0' J J (st0 (Ym J J))<|r0' J J (st0 (Xx J J Mx J Fe J J))<|r0' J J (st0 (Ok (i:=4) J J J Fl J))<|r0' J J (st0 (Ym J J))<|r1' J (Pn (i:=9) (ivs:=[(0,_)]) (enc:=Iz) (dg U 1) J J K2 Xv ti149 J J J J J pU.cells J J hw) fun v _=>r1' J (Zh (n:=10) (Zsn _ _ _ _ (by omega) (show bl 1≤4294967296 by decide)) J J J K2 call171 (Zb 7 J J J (Xw 9 J J pU Ze)) J hw) fun v_2 _=>r1' J (Zh (n:=11) (Zew _ _ _ _ (by omega)) J J J K2 call173 (Zb 2 J J J (Zb 8 J J J Ze)) J hw) fun v_3 _=>r0' J J (st0 (Lq J J))<|r3' J (Px (Lq J J) J) fun _ _=>Og<|Za<|Zc<|Zg<|dt (Xx J J Mx J zT4 J J)<|dt (Ok (i:=3) J J J iA4 J)<|dt (Xx J J Mx J zT4 J J)<|dt (Ok (i:=4) J J J iA4 J)<|dt (Zp1 J J J uT4)<|mv J<|dt (Pz (ivs:=[(0,_),(1,_)]) J K4 (fun a w hs=>Nb ((Zd J) a w hs) ((Zt (i:=10) J Zi) a w hs)))<|mv J<|dt (Pz (ivs:=[(0,_),(1,_)]) J K4 (fun a w hs=>Nb ((Zd J) a w hs) ((Zt (i:=11) J Zi) a w hs)))<|tt (Zm (i:=5) J J J J J (by decide) J Xb J J ⟨Zd J,Zt (i:=10) J Zi,trivial⟩ J hw trivial) (fun _ _=>?_)
   exact tt (Zm (i:=6) J J J J J (by decide) J Xb J J ⟨Zd J,Zt (i:=11) J Zi,trivial⟩ J hw trivial) fun _ _=>Zf<|Za<|Zv<|Yn (.inl J) hsc (_,_,_) _ (fun a w hs=>Np hs results133 (Yr (i:=5) J J Lt Xb J) (Yr (i:=6) J J Lt Xb J)) J hD.1 J (Yk 10 J J J (by rw [hD.2.1]<;>rfl) (Yk 11 J J J (by rw [hD.2.2]<;>rfl) Zk))
  ·have hD:=divB hs ht hy0 (.inr ((Ph Pd _).1 (by omega)))
   exact Zj<|Za<|Zc<|Zg<|dt (Xx J J Mx J zT4 J J)<|dt (Ok (i:=3) J J J iA4 J)<|dt (Xx J J Mx J zT4 J J)<|dt (Ok (i:=4) J J J iA4 J)<|dt (Zp1 J J J uT4)<|mv J<|dt (Pz (ivs:=[(0,_),(1,_)]) J K4 (fun a w hs=>Nb ((Zd J) a w hs) ((Zt (i:=7) J Zi) a w hs)))<|mv J<|dt (Pz (ivs:=[(0,_),(1,_)]) J K4 (fun a w hs=>Nb ((Zd J) a w hs) ((Zt (i:=8) J Zi) a w hs)))<|tt (Zm (i:=5) J J J J J (by decide) J Xb J J ⟨Zd J,Zt (i:=7) J Zi,trivial⟩ J hw trivial) fun _ _=>tt (Zm (i:=6) J J J J J (by decide) J Xb J J ⟨Zd J,Zt (i:=8) J Zi,trivial⟩ J hw trivial) fun _ _=>Zf<|Za<|Zv<|Yn (.inl J) hsc (_,_,_) _ (fun a w hs=>Np hs results133 (Yr (i:=5) J J Lt Xb J) (Yr (i:=6) J J Lt Xb J)) J hD.1 J (Yk 7 J J J (by rw [hD.2.1]<;>rfl) (Yk 8 J J J (by rw [hD.2.2]<;>rfl) Zk))
 ·have hD:=divB hs ht hy0 (.inl s256)
  exact gsk J J J<|gsk J J J<|gsk J J J<|dt (Yh J J J)<|Zf<|Za<|Ye J<|Zj<|Za<|Zc<|Zg<|dt (Xx J J Mx J zT4 J J)<|dt (Ok (i:=3) J J J iA4 J)<|dt (Xx J J Mx J zT4 J J)<|dt (Ok (i:=4) J J J iA4 J)<|dt (Zp1 J J J uT4)<|mv J<|dt (Pz (ivs:=[(0,_),(1,_)]) J K4 (fun a w hs=>Nb ((Zd J) a w hs) ((Zt (i:=7) J Zi) a w hs)))<|mv J<|dt (Pz (ivs:=[(0,_),(1,_)]) J K4 (fun a w hs=>Nb ((Zd J) a w hs) ((Zt (i:=8) J Zi) a w hs)))<|tt (Zm (i:=5) J J J J J (by decide) J Xb J J ⟨Zd J,Zt (i:=7) J Zi,trivial⟩ J hw trivial) fun _ _=>tt (Zm (i:=6) J J J J J (by decide) J Xb J J ⟨Zd J,Zt (i:=8) J Zi,trivial⟩ J hw trivial) fun _ _=>Zf<|Za<|Zv<|Yn (.inl J) hsc (_,_,_) _ (fun a w hs=>Np hs results133 (Yr (i:=5) J J Lt Xb J) (Yr (i:=6) J J Lt Xb J)) J hD.1 J (Yk 7 J J J (by rw [hD.2.1]<;>rfl) (Yk 8 J J J (by rw [hD.2.2]<;>rfl) Zk))
end Go.Sky

