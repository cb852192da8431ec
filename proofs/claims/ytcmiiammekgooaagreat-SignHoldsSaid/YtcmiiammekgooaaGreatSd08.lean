/- rules, arithmetic and contracts: part 9
   Proved without conditions of its own: each theorem bears its own. -/
import Derived.Test.YtcmiiammekgooaaGreatSd03
import Derived.Test.YtcmiiammekgooaaGreatSd02
import Derived.Test.YtcmiiammekgooaaGreatSd01
import Derived.Test.YtcmiiammekgooaaGreatSd07
set_option linter.all false
namespace Go.Sky
open Go.Proofs.Tryz
open Go.Proofs
set_option maxRecDepth 20000
set_option maxHeartbeats 4000000
set_option linter.unusedSimpArgs false
theorem Zs7(v:Value)(xs:List Nat)(hx:xs.length*8≤140737488355328):CalO prog 200 #[v] [slp 1 It v xs] (G:=Value) (fun r=>True) (fun r=>r) (fun r=>osl 1 149 It r xs):=by
 refine Ztf func200 J ntmps200 J K1 ?_
 intro w0 sc hw hsc
 simp only [Zq,Zp]
 refine Oe (f_nil (i:=1) J Zi) fun hnil=>Zc<|Zg<|as_ J<|Zf<|Za<|Zc<|Zc<|Zg<|mv J<|dt (Zsy J J J (i:=1) J Zi Xp)<|Zf<|Za<|Nn J (fun h357=>?_) (fun h357=>?_)
 ·refine Zc<|Zg<|as_ J<|Zf<|Za<|Zt<|Ys ?_
  obtain rfl:xs=[]:=hnil (by simpa using h357)
  exact Nq (Nt 9 1 149 It)<|Zlo (.inl J) (.slice none 0 0) _ (fun a w hs=>Np hs results200 J) J trivial J 9 J J J
 ·exact Zj<|Za<|Zc<|Zg<|tt (t_bs0 (i:=2) (enc:=It) J J J Xp pU J hw) J fun v _=>mv J<|tt (Hw (i:=2) (j:=1) (by_:=8) J J J J J J (by decide) J Zi Xp ti149 J pU J J J (by simp;omega) (by decide) J hw) J fun v_2 _=>as_ J<|Zf<|Za<|Zt<|Zlo (.inl J) _ _ (fun a w hs=>Np hs results200 J) J trivial J 2 J (by rfl) J
set_option maxHeartbeats 1600000 in
theorem Zny(h l y:Nat)(hl:l<U)(hy:y<U)(hh:h<y):Mv prog 193 #[.int .u64 (h:Int),.int .u64 (l:Int),.int .u64 (y:Int)] [] (.tuple #[.int .u64 (((h*U+l)/y:Nat):Int),.int .u64 (((h*U+l)%y:Nat):Int)]):=by
 refine Yd func193 J ntmps193 J trivial ?_
 intro w0 sc hw hsc
 simp only [Zq,Zp]
 have hUe:U=18446744073709551616:=rfl
 have hp:0<y:=by omega
 have hbl:bl y≤64:=(Md 64 y).2 hy
 obtain⟨s,hs⟩:∃s,s=64-bl y:=⟨_,rfl⟩
 obtain⟨Y,hYe⟩:∃Y,Y=y*2^s:=⟨_,rfl⟩
 obtain⟨hY1,hY2⟩:=Zvj hp hy hs
 rw [←hYe]at hY1 hY2
 have hYU:=hY2
 obtain⟨D,hD⟩:∃D,D=(h*U+l)*2^s:=⟨_,rfl⟩
 obtain⟨u,hue⟩:∃u,u=D/U:=⟨_,rfl⟩
 obtain⟨v,hve⟩:∃v,v=D%U:=⟨_,rfl⟩
 obtain⟨v1,hv1e⟩:∃x,x=v/4294967296:=⟨_,rfl⟩
 obtain⟨v0,hv0e⟩:∃x,x=v%4294967296:=⟨_,rfl⟩
 obtain⟨y1,hy1e⟩:∃x,x=Y/4294967296:=⟨_,rfl⟩
 obtain⟨y0,hy0e⟩:∃x,x=Y%4294967296:=⟨_,rfl⟩
 have hYs:Y=y1*4294967296+y0:=by omega
 have hhs:=shl_lt hh (show y*2^s<U by rw [←hYe];exact hY2)
 have huY:u<Y:=by rw [hue,hD,hYe];exact top_lt hl hh
 have hu:u<y1*4294967296+y0:=by omega
 have hvU:v<U:=by rw [hve];exact Nat.mod_lt _ Pb
 have hy1:2147483648≤y1:=by omega
 have hy1l:y1<4294967296:=by omega
 have hy0:y0<4294967296:=by omega
 have hv1:v1<4294967296:=by omega
 have hv0:v0<4294967296:=by omega
 obtain⟨Q1,hQ1⟩:∃x,x=(u*4294967296+v1)/Y:=⟨_,rfl⟩
 obtain⟨t,hte⟩:∃x,x=(u*4294967296+v1)%Y:=⟨_,rfl⟩
 have htY:t<Y:=by rw [hte];exact Nat.mod_lt _ (by omega)
 have ht:t<y1*4294967296+y0:=by omega
 obtain⟨Q0,hQ0⟩:∃x,x=(t*4294967296+v0)/Y:=⟨_,rfl⟩
 have hY0:0<Y:=by omega
 obtain⟨hd1,hd2⟩:=dv_two (D:=D) hY0 hue hve hv1e hv0e
 rw [←hQ1,←hte,←hQ0]at hd1
 rw [←hte]at hd2
 have hQ0l:Q0<4294967296:=by rw [hQ0,hYs];exact dv_Q hv0 ht
 have hQ1l:Q1<4294967296:=by rw [hQ1,hYs];exact dv_Q hv1 hu
 refine Zc<|Zg<|as_ J<|as_ J<|Zf<|Za<|Zc<|Zc<|Zg<|mv J<|dt (Pg J J J)<|Zf<|Za<|Zr J (fun h519=>?_) (fun h519=>?_)
 ·exfalso;omega
 ·refine Zj<|Za<|Zc<|Zc<|Zg<|mv J<|mv J<|dt (Ac J J J)<|Zf<|Za<|Zr J (fun h522=>?_) (fun h522=>?_)
  ·exfalso;omega
  ·refine Zj<|Za<|Zc<|Zc<|Zg<|mv J<|dt (Pg J J J)<|Zf<|Za<|Zr J (fun h527=>?_) (fun h527=>?_)
   ·refine Zc<|Qf (fun _=>False) [(0,0),(1,0),(2,0),(3,0),(4,0),(5,0),(6,0),(7,3)] ?_ ?_
    ·kernel_rfl
    exact r0' J J (st0 (Yf J J))<|r0' J J (st0 (Yf J J))<|r0' J J (st0 (u_quo J J J))<|r0' J J (st0 (Yf J J))<|r0' J J (st0 (Yf J J))<|r0' J J (st0 (u_rem J J J (by omega)))<|r0' J J (st0 (Ot J J))<|r3' J (Qq (Ot J J) J) fun _ _=>Py<|Za<|Zt<|Ys<|Yl (.inl J) hsc () _ (fun a w hs=>Ns hs results193 J J) (by have h0:h=0:=(by omega);rw [h0];simp) trivial J Zk
   ·refine Zj<|Za<|Zc<|Zg<|mv J<|tt (Zh (n:=0) (Zll _ hy) J J J K1 call189 Ze J hw) J fun _ _=>dt (cv_u64 J J uT3 underlying212 (by simp only [U];omega))<|as_ J<|Zf<|Za<|Zc<|Xc (Ia 8 (v':= .int .u64 (s:Int)) J (by rw [hs]))<|Zg<|mv J<|mv J<|dt (Zn6 J J J J)<|as_ J<|Zf<|Za<|Zc<|Xc (Ia 2 (v':= .int .u64 (Y:Int)) J (by rw [hYe,Nat.mod_eq_of_lt (by rw [←hYe];exact hYU)]))<|Zg<|mv J<|dt (Gm (n:=32) (n':=4294967296) J J J J J)<|as_ J<|Zf<|Za<|Zc<|Zg<|mv J<|dt (Zpg J J J)<|as_ J<|Zf<|Za<|Zc<|Zg<|mv J<|mv J<|dt (Zn6 J J J J)<|mv J<|mv J<|dt (Zey J J J (by first | exact Nat.mod_lt _ Pb | omega))<|dt (Zn5 J J (n:=64-s) J (by simp only [U];omega))<|dt (u_or J J J (Nat.mod_lt _ Pb) (Nat.lt_of_le_of_lt (Nat.div_le_self _ _) hl))<|as_ J<|Zf<|Za<|Zc<|Xc (Ia 11 (v':= .int .u64 (u:Int)) J (by rw [hue,hD,Zvi (by omega) hhs hl]))<|Zg<|mv J<|mv J<|dt (Zn6 J J J J)<|as_ J<|Zf<|Za<|Zc<|Xc (Ia 12 (v':= .int .u64 (v:Int)) J (by rw [hve,hD,Zri h l s]))<|Zg<|mv J<|dt (Gm (n:=32) (n':=4294967296) J J J J J)<|as_ J<|Zf<|Za<|Zc<|Xc (Ia 13 (v':= .int .u64 (v1:Int)) J (by rw [hv1e]))<|Zg<|mv J ?_
    refine dt (Zpg J J J)<|as_ J<|Zf<|Za<|Zc<|Xc (Ia 14 (v':= .int .u64 (v0:Int)) J (by rw [Zn0,hv0e]))<|Xc (Ia 9 (v':= .int .u64 (y1:Int)) J (by rw [hy1e]))<|Xc (Ia 10 (v':= .int .u64 (y0:Int)) J (by rw [Zn0,hy0e]))<|Zg<|mv J<|mv J<|dt (u_quo J J J)<|as_ J<|Zf<|Za<|Zc<|Zg<|mv J<|mv J<|mv J<|dt (Bj J J J)<|dt (Zey J J J (by first | exact Nat.mod_lt _ Pb | omega))<|as_ J<|Zf<|Za<|Dc [(2,_),(8,_),(9,_),(10,_),(11,_),(13,_),(14,_)] [(0,_)] (fun(_:Unit)=>[(15,.int .u64 ((Q1:Nat):Int))]) (fun(_:Unit)=>[]) (fun(_:Unit)=>True) K7 K1 ?_ ?_
    ·refine Zm<|Xc (Ia 16 (v':= .int .u64 ((u%y1:Nat):Int)) J (by rw [rsub (by omega) (by omega)]))<|Mm [(2,_),(8,_),(9,_),(10,_),(11,_),(13,_),(14,_)] [(0,_)] (fun(q:Nat×Nat)=>[(15,.int .u64 (q.1:Int)),(16,.int .u64 (q.2:Int))]) (fun(q:Nat×Nat)=>[]) (fun(q:Nat×Nat)=>(dvI u v1 y1 y0 q.1 q.2)∧(q.2<4294967296)) (fun(q:Nat×Nat)=>q.1) (u/y1,u%y1) ⟨dv0 hy1 hy1l hy0 hv1 hu,Nat.lt_trans (Nat.mod_lt _ (by omega)) hy1l⟩ K9 K1 ?_
     rintro⟨a,r⟩ ⟨hI,hr⟩
     dsimp only at hI hr
     simp only [CA,NA]
     have hI1:=hI.1
     have hI2:=hI.2.1
     refine Zc<|Zc<|Zg<|mv J<|dt (Kj J J J)<|mv J<|Qp (d:=69) J (fun s547=>?_) (fun s547=>?_)
     ·refine gsk J J J<|gsk J J J<|gsk J J J<|gsk J J J<|gsk J J J<|gsk J J J<|gsk J J J<|gsk J J J<|dt (Yi J J J)<|Zf<|Za<|Pd J<|Zj<|Za<|Zm<|Zc ?_
      have hst:=Zhj (by omega) hI hv1 hu (by omega)
      have hst1:=hst.1
      refine Zg<|mv J<|dt (Zey (n:=1) J J J)<|as_ J<|Zf<|Za<|Zc<|Xc (Ia 15 (v':= .int .u64 ((a-1:Nat):Int)) J (An (Zsv hst1 (by omega))))<|Zg<|mv J<|mv J<|dt (Br J J J)<|as_ J<|Zf<|Za<|Zc<|Xc (Ia 16 (v':= .int .u64 ((r+y1:Nat):Int)) J (An (Nat.mod_eq_of_lt (by omega))))<|Zg<|mv J<|dt (Kj J J J)<|Zf<|Za<|Zr J (fun h550=>?_) (fun h550=>?_)
      ·refine Yx<|Zn4<|Zu<|Nc ?_
       have hq:Q1=a-1:=by rw [hQ1,hYs];exact(Zcv (by omega) hy0 hst.2 (by omega) (by omega)).symm
       exact Qz () trivial ⟨by rw [hq];rfl,rfl,rfl,rfl,rfl,rfl,rfl,rfl,trivial⟩ K1
      ·exact Zj<|Og<|Xq (a-1,r+y1) ⟨hst.2,by dsimp only;omega⟩ (by first | omega | (dsimp only<;>omega)) K9 K1
     ·have hm1:=Zmu (show a<4294967296 by omega) hy0
      have e1:=Nat.mod_eq_of_lt (show a*y0<U from hm1)
      have e2:=Nat.mod_eq_of_lt (show 4294967296*r<U by omega)
      have e3:=Nat.mod_eq_of_lt (show 4294967296*r+v1<U by omega)
      refine gdt (Yf J J) J J<|gdt (Yf J J) J J<|gdt (Bj J J J) J J<|gdt (Yf J J) J J<|gdt (Bj J J J) J J<|gdt (Yf J J) J J<|gdt (Br J J J) J J<|gdt (Qr J J J) J J<|dt (Zo J J J)<|Zf<|Za<|Zr J (fun h547=>?_) (fun h547=>?_)
      ·rw [e1,e2,e3]at h547
       refine Zj<|Za<|Zm<|Zc ?_
       have hst:=Zhj (by omega) hI hv1 hu (by omega)
       have hst1:=hst.1
       refine Zg<|mv J<|dt (Zey (n:=1) J J J)<|as_ J<|Zf<|Za<|Zc<|Xc (Ia 15 (v':= .int .u64 ((a-1:Nat):Int)) J (An (Zsv hst1 (by omega))))<|Zg<|mv J<|mv J<|dt (Br J J J)<|as_ J<|Zf<|Za<|Zc<|Xc (Ia 16 (v':= .int .u64 ((r+y1:Nat):Int)) J (An (Nat.mod_eq_of_lt (by omega))))<|Zg<|mv J<|dt (Kj J J J)<|Zf<|Za<|Zr J (fun h550_2=>?_) (fun h550_2=>?_)
       ·refine Yx<|Zn4<|Zu<|Nc ?_
        have hq:Q1=a-1:=by rw [hQ1,hYs];exact(Zcv (by omega) hy0 hst.2 (by omega) (by omega)).symm
        exact Qz () trivial ⟨by rw [hq];rfl,rfl,rfl,rfl,rfl,rfl,rfl,rfl,trivial⟩ K1
       ·exact Zj<|Og<|Xq (a-1,r+y1) ⟨hst.2,by dsimp only;omega⟩ (by first | omega | (dsimp only<;>omega)) K9 K1
      ·rw [e1,e2,e3]at h547
       refine Yx<|Zu<|Zu<|Nc ?_
       have hq:Q1=a:=by rw [hQ1,hYs];exact(Zk4 (by omega) hI (by omega)).symm
       exact Qz () trivial ⟨by rw [hq];rfl,rfl,rfl,rfl,rfl,rfl,rfl,rfl,trivial⟩ K1
    ·rintro _ -
     simp only [CA,NA]
     refine Zc<|Zg<|mv J<|dt (Bj J J J)<|mv J<|dt (Br J J J)<|mv J<|mv J<|dt (Bj J J J)<|dt (Zey J J J (by first | exact Nat.mod_lt _ Pb | omega))<|as_ J<|Zf<|Za<|Zc<|Xc (Ia 17 (v':= .int .u64 (t:Int)) J (by rw [hte,hQ1,Zsl hY0 hYU]))<|Zg<|mv J<|mv J<|dt (u_quo J J J)<|as_ J<|Zf<|Za<|Zc<|Zg<|mv J<|mv J<|mv J<|dt (Bj J J J)<|dt (Zey J J J (by first | exact Nat.mod_lt _ Pb | omega))<|as_ J<|Zf<|Za<|Dc [(2,_),(8,_),(14,_),(15,_),(17,_)] [(0,_)] (fun(_:Unit)=>[(18,.int .u64 ((Q0:Nat):Int))]) (fun(_:Unit)=>[]) (fun(_:Unit)=>True) K5 K1 ?_ ?_
     ·refine Zm<|Xc (Ia 16 (v':= .int .u64 ((t%y1:Nat):Int)) J (by rw [rsub (by omega) (by omega)]))<|Mm [(2,_),(8,_),(9,_),(10,_),(14,_),(15,_),(17,_)] [(0,_)] (fun(q:Nat×Nat)=>[(18,.int .u64 (q.1:Int)),(16,.int .u64 (q.2:Int))]) (fun(q:Nat×Nat)=>[]) (fun(q:Nat×Nat)=>(dvI t v0 y1 y0 q.1 q.2)∧(q.2<4294967296)) (fun(q:Nat×Nat)=>q.1) (t/y1,t%y1) ⟨dv0 hy1 hy1l hy0 hv0 ht,Nat.lt_trans (Nat.mod_lt _ (by omega)) hy1l⟩ K9 K1 ?_
      rintro⟨a,r⟩ ⟨hI,hr⟩
      dsimp only at hI hr
      simp only [CA,NA]
      have hI1:=hI.1
      have hI2:=hI.2.1
      refine Zc<|Zc<|Zg<|mv J<|dt (Kj J J J)<|mv J<|Qp (d:=104) J (fun s559=>?_) (fun s559=>?_)
      ·refine gsk J J J<|gsk J J J<|gsk J J J<|gsk J J J<|gsk J J J<|gsk J J J<|gsk J J J<|gsk J J J<|dt (Yi J J J)<|Zf<|Za<|Pd J<|Zj<|Za<|Zm<|Zc ?_
       have hst:=Zhj (by omega) hI hv0 ht (by omega)
       have hst1:=hst.1
       refine Zg<|mv J<|dt (Zey (n:=1) J J J)<|as_ J<|Zf<|Za<|Zc<|Xc (Ia 18 (v':= .int .u64 ((a-1:Nat):Int)) J (An (Zsv hst1 (by omega))))<|Zg<|mv J<|mv J<|dt (Br J J J)<|as_ J<|Zf<|Za<|Zc<|Xc (Ia 16 (v':= .int .u64 ((r+y1:Nat):Int)) J (An (Nat.mod_eq_of_lt (by omega))))<|Zg<|mv J<|dt (Kj J J J)<|Zf<|Za<|Zr J (fun h562=>?_) (fun h562=>?_)
       ·refine Yx<|Zn4<|Zu<|Nc ?_
        have hq:Q0=a-1:=by rw [hQ0,hYs];exact(Zcv (by omega) hy0 hst.2 (by omega) (by omega)).symm
        exact Qz () trivial ⟨by rw [hq];rfl,rfl,rfl,rfl,rfl,rfl,trivial⟩ K1
       ·exact Zj<|Og<|Xq (a-1,r+y1) ⟨hst.2,by dsimp only;omega⟩ (by first | omega | (dsimp only<;>omega)) K9 K1
      ·have hm1:=Zmu (show a<4294967296 by omega) hy0
       have e1:=Nat.mod_eq_of_lt (show a*y0<U from hm1)
       have e2:=Nat.mod_eq_of_lt (show 4294967296*r<U by omega)
       have e3:=Nat.mod_eq_of_lt (show 4294967296*r+v0<U by omega)
       refine gdt (Yf J J) J J<|gdt (Yf J J) J J<|gdt (Bj J J J) J J<|gdt (Yf J J) J J<|gdt (Bj J J J) J J<|gdt (Yf J J) J J<|gdt (Br J J J) J J<|gdt (Qr J J J) J J<|dt (Zo J J J)<|Zf<|Za<|Zr J (fun h559=>?_) (fun h559=>?_)
       ·rw [e1,e2,e3]at h559
        refine Zj<|Za<|Zm<|Zc ?_
        have hst:=Zhj (by omega) hI hv0 ht (by omega)
        have hst1:=hst.1
        refine Zg<|mv J<|dt (Zey (n:=1) J J J)<|as_ J<|Zf<|Za<|Zc<|Xc (Ia 18 (v':= .int .u64 ((a-1:Nat):Int)) J (An (Zsv hst1 (by omega))))<|Zg<|mv J<|mv J<|dt (Br J J J)<|as_ J<|Zf<|Za<|Zc<|Xc (Ia 16 (v':= .int .u64 ((r+y1:Nat):Int)) J (An (Nat.mod_eq_of_lt (by omega))))<|Zg<|mv J<|dt (Kj J J J)<|Zf<|Za<|Zr J (fun h562_2=>?_) (fun h562_2=>?_)
        ·refine Yx<|Zn4<|Zu<|Nc ?_
         have hq:Q0=a-1:=by rw [hQ0,hYs];exact(Zcv (by omega) hy0 hst.2 (by omega) (by omega)).symm
         exact Qz () trivial ⟨by rw [hq];rfl,rfl,rfl,rfl,rfl,rfl,trivial⟩ K1
        ·exact Zj<|Og<|Xq (a-1,r+y1) ⟨hst.2,by dsimp only;omega⟩ (by first | omega | (dsimp only<;>omega)) K9 K1
       ·rw [e1,e2,e3]at h559
        refine Yx<|Zu<|Zu<|Nc ?_
        have hq:Q0=a:=by rw [hQ0,hYs];exact(Zk4 (by omega) hI (by omega)).symm
        exact Qz () trivial ⟨by rw [hq];rfl,rfl,rfl,rfl,rfl,rfl,trivial⟩ K1
     ·rintro _ -
      simp only [CA,NA]
      refine Zc<|Zg<|mv J<|dt (Bj J J J)<|mv J<|dt (Br J J J)<|mv J<|dt (Bj J J J)<|mv J<|dt (Br J J J)<|mv J<|mv J<|dt (Bj J J J)<|dt (Zey J J J (by first | exact Nat.mod_lt _ Pb | omega))<|mv J<|dt (Zn5 J J J J)<|as_ J<|as_ J<|Zf<|Za<|Zt ?_
      have hA:(Q1*4294967296%U+Q0)%U=(h*U+l)/y:=by rw [←Zia _ y s,←hD,←hYe,hd1];simp only [U];omega
      have hB:((t*4294967296%U+v0)%U+(U-(Q0*Y)%U))%U/2^s=(h*U+l)%y:=by rw [←Zh9 _ y s,←hD,←hYe,hd2,hQ0,Zsl hY0 hYU]
      exact Yl (.inl J) hsc () _ (fun a w hs=>Ns hs results193 J J) (by rw [hA,hB]) trivial J Zk
theorem Zrb(v:Value)(x d:Nat)(hx:bl x≤8589934592)(hd:0<d)(hdU:d<U):Cal prog 192 #[v,.int .u64 (d:Int)] [dgp v x] false (G:=Value) (fun r=>True) (fun r=> .tuple #[r,.int .u64 ((x%d:Nat):Int)]) (fun r=>[dgp r (x/d)]):=by
 refine Yd func192 J ntmps192 J K1 ?_
 intro w0 sc hw hsc
 simp only [Zq,Zp]
 have hX:=Ma x
 refine Zc<|Zg<|as_ J<|as_ J<|Zf<|Za<|Zc<|Zg<|mv J<|dt (Yc J J (i:=1) J Zi Xp)<|tt (Di (i:=2) (n:=(dg U x).length) (by_:=8) (enc:=It) 0 J J J J Xp ti149 J pU.cells pU.pos J J J hw) J fun v _=>as_ J<|Zf<|Za<|Zc<|Zg<|as_ J<|Zf<|Za<|Zc<|Zc<|Zg<|mv J<|dt (Yc J J (i:=1) J Zi Xp)<|dt (Qo J J J ⟨by omega,by omega⟩)<|as_ J<|Zf<|Za<|Zm<|Mm [(0,_),(1,_),(6,_)] [(0,_),(1,_)] (fun(q:Nat×List Nat×Nat)=>[(8,.int .i64 ((q.1:Int)-1)),(7,.int .u64 (q.2.2:Int))]) (fun(q:Nat×List Nat×Nat)=>[(2,osl 1 149 It v q.2.1)]) (fun(q:Nat×List Nat×Nat)=>(q.1≤(dg U x).length)∧(q.2.1.length=(dg U x).length)∧(q.2.2<d)∧(∀d∈q.2.1,d<U)∧(val U (q.2.1.drop q.1)*d+q.2.2=val U ((dg U x).drop q.1))) (fun(q:Nat×List Nat×Nat)=>q.1) ((dg U x).length,List.replicate (dg U x).length 0,0) ⟨Nat.le_refl _,by simp,by first | omega | (dsimp only<;>omega),Nb _ Pb,by simp [val]⟩ K5 K3 ?_
 rintro⟨k,o,r⟩ ⟨hk,hol,hr,hall,hv⟩
 dsimp only at hk hol hr hall hv
 simp only [CA,NA]
 refine Zc<|Zc<|Zg<|mv J<|dt (Kj J J J)<|Zf<|Za<|Zr J (fun h158=>?_) (fun h158=>?_)
 ·exact Zj<|Za<|Zc<|Zm<|Zg<|mv J<|mv J<|mv J<|mv J<|mv J<|dt (Xf (ii:=1) (i:=k-1) J J J J Zi Xp Nx)<|dt (Xx (ii:=1) 0 J J J Zi pU (by first | omega | (simp only [List.length_set];omega)))<|mv J<|tt (Zh (n:=2) (Zny _ _ _ (Qj Pb (Lh Qt _) _) hdU hr) J J J K3 call193 Ze J hw) J fun _ _=>mv J<|dt (Ya J J J)<|dt (Ya J J J)<|dt (Xf (ii:=2) (i:=k-1) J J J J (Yk pU) Xp Nx)<|tt (Ih (i:=2) (enc:=It) _ J J J J J J pU J hw (by decide) (by first | omega | (simp only [List.length_set];omega))) J fun _ _=>as_ J<|Zf<|Og<|Za<|Zg<|mv J<|dt (Qo J J J ⟨by omega,by omega⟩)<|as_ J<|Zf<|Xq (k-1,_,_) ⟨by first | omega | (dsimp only<;>omega),by simp;omega,Nat.mod_lt _ hd,Ln hall _ _ (Zne (Qj Pb (Lh Qt x) _) hr),Zob hd (by omega) (by omega) (by rw [show k-1+1=k by omega];exact hv)⟩ (by first | omega | (dsimp only<;>omega)) ⟨by rw [show(((k-1:Nat):Int)-1)=(k:Int)-1-1 by omega];rfl,rfl,rfl,rfl,rfl,trivial⟩ K3
 ·refine Yx<|Zu<|Zu<|Nc<|Za<|Zc<|Zg<|mv J<|tt (Zh (n:=2) (Oa _ _) J J J K1 call127 (Xw 2 J J pU Ze) J hw) J fun _ _=>Px (Zhx 2 J J pU)<|mv J<|as_ J<|as_ J<|Zf<|Za<|Zt ?_
  obtain rfl:k=0:=by omega
  rw [List.drop_zero,List.drop_zero,Mw Qt]at hv
  have hq:tz o=dg U (x/d):=by
   rw [←Ky Qt _ hall,←hv,Nat.mul_comm,Nat.mul_add_div hd,Nat.div_eq_of_lt hr,Nat.add_zero]
  have hm:r=x%d:=by rw [←hv,Nat.mul_comm,Nat.mul_add_mod,Nat.mod_eq_of_lt hr]
  exact Yl (.inl J) hsc _ _ (fun a w hs=>Ns hs results192 J J) (by rw [hm]) trivial J (Pq 2 J J pU hq Zk)
theorem Kw(v:Value)(x s:Nat)(hx:bl x≤4294967296)(hs:s≤4294967296:=by decide):Cal prog 132 #[v,.int .i64 (s:Int)] [dgp v x] false (G:=Value) (fun r=>True) (fun r=>r) (fun r=>[dgp r (x*2^s)]):=by
 refine Yd func132 J ntmps132 J K1 ?_
 intro w0 sc hw hsc
 simp only [Zq,Zp]
 obtain⟨w,hwe⟩:∃w,w=s/64:=⟨_,rfl⟩
 obtain⟨b,hbe⟩:∃b,b=s%64:=⟨_,rfl⟩
 have hX:=Ma x
 refine Zc<|Zg<|as_ J<|Zf<|Za<|Zc<|Zc<|Zg<|mv J<|dt (Yc J J (i:=1) J Zi Xp)<|dt (Pg J J J)<|Zf<|Za<|Zr J (fun h122=>?_) (fun h122=>?_)
 ·refine Zc<|Zg<|as_ J<|Zf<|Za<|Zt<|Ys<|Nq (Nt 9 1 149 It) ?_
  have hx0:x=0:=(Po Qt x).1 (by omega)
  exact Yl (.inl J) hsc (.slice none 0 0) _ (fun a w hs=>Np hs results132 J) J trivial J (Pq 9 J J pU (by rw [hx0,Nat.zero_mul];rfl) Zk)
 ·refine Zj<|Za<|Zc<|Zg<|mv J<|dt (Zk9 J J J)<|mv J<|dt (Zk8 J J J)<|as_ J<|as_ J<|Zf<|Za<|Zc<|Xc (Ia 5 (v':= .int .i64 (w:Int)) J (by congr 1;omega))<|Xc (Ia 6 (v':= .int .i64 (b:Int)) J (by congr 1;omega))<|Zg<|mv J<|dt (Yc J J (i:=1) J Zi Xp)<|mv J<|dt (Yu J J J ⟨by omega,by omega⟩)<|dt (Yu J J J ⟨by omega,by omega⟩)<|tt (Di (i:=2) (n:=(dg U x).length+w+1) (by_:=8) (enc:=It) 0 J J J J Xp ti149 J pU.cells pU.pos J J J hw) J fun v _=>as_ J<|Zf<|Za<|Zc<|Zc<|Zg<|mv J<|dt (Yc J J (i:=1) J Zi Xp)<|mv J<|Zf<|Za<|Zm ?_
  refine Mm [(5,_),(6,_),(7,_),(23,_),(24,_)] [(0,_),(1,_)] (fun(q:Nat×List Nat)=>[(25,.int .i64 (q.1:Int))]) (fun(q:Nat×List Nat)=>[(2,osl 1 149 It v q.2)]) (fun(q:Nat×List Nat)=>(q.1≤(dg U x).length)∧(q.2.length=(dg U x).length+w+1)∧(q.2.getD (w+q.1) 0<2^b)∧(∀j,w+q.1<j→q.2.getD j 0=0)∧(∀d∈q.2,d<U)∧(val U (q.2.take ((dg U x).length+w+1))=val U ((dg U x).take q.1)*2^b*U^w)) (fun(q:Nat×List Nat)=>(dg U x).length-q.1) (0,List.replicate ((dg U x).length+w+1) 0) ⟨by first | omega | (dsimp only<;>omega),by simp,by rw [Lz];exact Nat.two_pow_pos b,fun j _=>Lz _ j,Nb _ Pb,by rw [List.take_replicate,Kv];simp [val]⟩ K6 K3 ?_
  rintro⟨i,o⟩ ⟨hi,hol,hc,hz,hall,hv⟩
  dsimp only at hi hol hc hz hall hv
  simp only [CA,NA]
  have hst:i<(dg U x).length→_:=fun hlt=>Zuo (xs:=dg U x) (show b≤63 by omega) hol.symm (show w+i+1<_ by omega) hc (hz (w+i+1) (by omega)) (Qj Pb (Lh Qt x) i) hv
  refine Zc<|Zg<|dt (Qd J J J)<|Zf<|Za<|Zc<|Zr J (fun h127=>?_) (fun h127=>?_)
  ·refine Zj<|Za<|Zc<|Zm<|Zc<|Zg<|mv J<|dt (Xf (ii:=1) J J J J Zi Xp Nx J (by first | omega | (simp only [List.length_set];omega)))<|dt (Xx (ii:=1) 0 J J J Zi pU (by first | omega | (simp only [List.length_set];omega)))<|as_ J<|as_ J<|Zf<|Za<|Zc ?_
   have hX1:=Qj Pb (Lh Qt x) i
   refine Qf (fun _=>False) [(0,0),(1,0),(2,0),(3,0),(4,0),(5,0),(6,0),(7,0),(8,0),(9,0),(10,0),(11,3)] ?_ ?_
   ·kernel_rfl
   refine r0' J J (st0 (Yf J J))<|r0' J J (st0 (Yf J J))<|r0' J J (st0 (Yf J J))<|r0' J J (st0 (Yu J J J ⟨by omega,by omega⟩))<|r0' J J (st0 (Xf (ii:=2) (i:=w+i) J J J J (Yk pU) Xp Nx))<|r0' J J (st0 (Xx (ii:=2) 0 J J J (Yk pU) pU (by first | omega | (simp only [List.length_set];omega))))<|r0' J J (st0 (Yf J J))<|r0' J J (st0 (Yf J J))<|r0' J J (st0 (Zn6 J J (n:=b) J J))<|r0' J J (st0 (u_or J J J (Qj Pb hall _) (Nat.mod_lt _ Pb)))<|r0' J J (st0 (Xf (ii:=2) (i:=w+i) J J J J (Yk pU) Xp Nx))<|r3' J (Ih (i:=2) (enc:=It) _ J J J J J J pU J hw (by decide) (by first | omega | (simp only [List.length_set];omega))) fun _ _=>Py<|Za<|Zc<|Zg<|mv J<|dt (Qr J J J)<|Zf<|Za<|Zr J (fun h129=>?_) (fun h129=>?_)
   ·have hal2:=Ln (Ln hall (w+i) (o.getD (w+i) 0 ||| (dg U x).getD i 0*2^b%U) (Nat.or_lt_two_pow (n:=64) (Qj Pb hall _) (Nat.mod_lt _ Pb))) (w+i+1) ((dg U x).getD i 0/2^(64-b)) (Nat.lt_of_le_of_lt (Nat.div_le_self _ _) hX1)
    have hc2:((o.set (w+i) (o.getD (w+i) 0 ||| (dg U x).getD i 0*2^b%U)).set (w+i+1) ((dg U x).getD i 0/2^(64-b))).getD (w+i+1) 0<2^b:=by
     rw [Na _ _ _ _ _ (by simp;omega),if_pos rfl];exact Zbm (by omega) hX1
    have hz2:∀j,w+i+1<j→((o.set (w+i) (o.getD (w+i) 0 ||| (dg U x).getD i 0*2^b%U)).set (w+i+1) ((dg U x).getD i 0/2^(64-b))).getD j 0=0:=fun j hj=>by
     rw [Na _ _ _ _ _ (by simp;omega),if_neg (by omega),Na _ _ _ _ _ (by omega),if_neg (by omega)];exact hz j (by omega)
    have hv2:=hst (by omega)
    exact Zg<|mv J<|mv J<|mv J<|dt (Yu J J J ⟨by omega,by omega⟩)<|dt (Yu J J J ⟨by omega,by omega⟩)<|mv J<|mv J<|dt (Qo J J J ⟨by omega,by omega⟩)<|dt (Zn5 J J (n:=64-b) J (by omega))<|dt (Xf (ii:=2) (i:=w+i+1) J J J J (Yk pU) Xp Nx (by omega) (by simp only [List.length_set];omega))<|tt (Ih (i:=2) (enc:=It) _ J J J J J J pU J hw (by decide) (by simp only [List.length_set];omega)) J fun _ _=>Zf<|Og<|Za<|Zg<|dt (Yu J J J ⟨by omega,by omega⟩)<|mv J<|Zf<|Xq (i+1,_) ⟨by first | omega | (dsimp only<;>omega),by simp;omega,by dsimp only;rw [show w+(i+1)=w+i+1 by omega];exact hc2,fun j hj=>by have hj2:w+(i+1)<j:=hj;dsimp only;exact hz2 j (by omega),hal2,hv2⟩ (by first | omega | (dsimp only<;>omega)) K6 K3
   ·obtain rfl:b=0:=by omega
    have hal2:=Ln hall (w+i) (o.getD (w+i) 0 ||| (dg U x).getD i 0*2^0%U) (Nat.or_lt_two_pow (n:=64) (Qj Pb hall _) (Nat.mod_lt _ Pb))
    have hc2:(o.set (w+i) (o.getD (w+i) 0 ||| (dg U x).getD i 0*2^0%U)).getD (w+i+1) 0<2^0:=by
     rw [Na _ _ _ _ _ (by omega),if_neg (by omega),hz _ (by omega)];exact Nat.two_pow_pos 0
    have hz2:∀j,w+i+1<j→(o.set (w+i) (o.getD (w+i) 0 ||| (dg U x).getD i 0*2^0%U)).getD j 0=0:=fun j hj=>by
     rw [Na _ _ _ _ _ (by omega),if_neg (by omega)];exact hz j (by omega)
    have hv2:=hst (by omega)
    rw [show(dg U x).getD i 0/2^(64-0)=0 from Nat.div_eq_of_lt hX1]at hv2
    have hsame:=Zgr (o.set (w+i) (o.getD (w+i) 0 ||| (dg U x).getD i 0*2^0%U)) (w+i+1) (by rw [Na _ _ _ _ _ (by omega),if_neg (by omega),hz _ (by omega)])
    rw [hsame]at hv2
    exact Zj<|Og<|Za<|Zg<|dt (Yu J J J ⟨by omega,by omega⟩)<|mv J<|Zf<|Xq (i+1,_) ⟨by first | omega | (dsimp only<;>omega),by simp;omega,by dsimp only;rw [show w+(i+1)=w+i+1 by omega];exact hc2,fun j hj=>by have hj2:w+(i+1)<j:=hj;dsimp only;exact hz2 j (by omega),hal2,hv2⟩ (by first | omega | (dsimp only<;>omega)) K6 K3
  ·refine Yx<|Zu<|Zu<|Nc<|Za<|Zc<|Zg<|mv J<|tt (Zh (n:=2) (Oa _ _) J J J K1 call127 (Xw 2 J J pU Ze) J hw) J fun _ _=>Px (Zhx 2 J J pU)<|as_ J<|Zf<|Za<|Zt ?_
   obtain rfl:i=(dg U x).length:=by omega
   have hx2:tz o=dg U (x*2^s):=by
    rw [←Ky Qt _ hall]
    congr 1
    rw [Nd U o _ (by omega),List.take_of_length_le (Nat.le_refl _),Mw Qt,Zca,Nat.mul_assoc,←Nat.pow_add,show b+64*w=s by omega]at hv
    exact hv
   exact Yl (.inl J) hsc _ _ (fun a w hs=>Np hs results132 J) J trivial J (Pq 2 J J pU hx2 Zk)
theorem nat_shr(v:Value)(x s:Nat)(hx:bl x≤8589934592)(hs:s≤8589934592):Cal prog 195 #[v,.int .i64 (s:Int)] [dgp v x] false (G:=Value) (fun r=>True) (fun r=>r) (fun r=>[dgp r (x/2^s)]):=by
 refine Yd func195 J ntmps195 J K1 ?_
 intro w0 sc hw hsc
 simp only [Zq,Zp]
 obtain⟨w,hwe⟩:∃w,w=s/64:=⟨_,rfl⟩
 obtain⟨b,hbe⟩:∃b,b=s%64:=⟨_,rfl⟩
 have hX:=Ma x
 have hdl:((dg U x).drop w).length=(dg U x).length-w:=List.length_drop
 refine Zc<|Zg<|as_ J<|Zf<|Za<|Zc<|Zg<|mv J<|dt (Zk9 J J J)<|mv J<|dt (Zk8 J J J)<|as_ J<|as_ J<|Zf<|Za<|Zc<|Zc<|Xc (Ia 5 (v':= .int .i64 (w:Int)) J (by congr 1;omega))<|Xc (Ia 6 (v':= .int .i64 (b:Int)) J (by congr 1;omega))<|Zg<|mv J<|mv J<|dt (Yc J J (i:=1) J Zi Xp)<|dt (Kj J J J)<|Zf<|Za<|Zr J (fun h139=>?_) (fun h139=>?_)
 ·refine Zc<|Zg<|as_ J<|Zf<|Za<|Zt<|Ys<|Nq (Nt 9 1 149 It) ?_
  have hx0:x/2^s=0:=by
   rw [Dk hwe hbe,Nat.div_eq_of_lt ((Xy Qt w x).1 (by omega)),Nat.zero_div]
  exact Yl (.inl J) hsc (.slice none 0 0) _ (fun a w hs=>Np hs results195 J) J trivial J (Pq 9 J J pU (by rw [hx0];rfl) Zk)
 ·refine Zj<|Za<|Zc<|Zg<|mv J<|mv J<|dt (d_suf (ii:=1) (i:=w) J J J J Zi Xp Nx (by omega) (by omega))<|Px (s_suf 1 2 (w) J J (by omega))<|tt (Zjs (n:=3) (Zs7 _ _ (by simp only [List.length_drop];omega)) J J J K1 call200 (Zd 2 J J J Ze) J hw) J fun v _=>as_ J<|Zf<|Za<|Dc [(7,_)] [(0,_),(1,_),(2,_)] (fun(o:List Nat)=>[]) (fun(o:List Nat)=>[(3,osl 1 149 It v o)]) (fun(o:List Nat)=>(o.length=(dg U x).length-w)∧(∀j,j<o.length→o.getD j 0=x/2^s/U^j%U)) K1 K3 ?_ ?_
  ·refine Zc<|Zg<|mv J<|dt (Qr J J J)<|Zf<|Za<|Zr J (fun h143=>?_) (fun h143=>?_)
   ·refine Zc<|Zg<|mv J<|dt (Yc J J (i:=3) J (Yk pU) Xp)<|mv J<|Zf<|Za<|Zm<|Mm [(0,_),(5,_),(6,_),(7,_),(24,_)] [(0,_),(1,_),(2,_)] (fun(q:Nat×List Nat)=>[(25,.int .i64 (q.1:Int))]) (fun(q:Nat×List Nat)=>[(3,osl 1 149 It v q.2)]) (fun(q:Nat×List Nat)=>(q.1≤(dg U x).length-w)∧(q.2.length=(dg U x).length-w)∧(∀j,j<q.1→q.2.getD j 0=x/2^s/U^j%U)∧(∀j,q.1≤j→q.2.getD j 0=x/U^w/U^j%U)∧(∀d∈q.2,d<U)) (fun(q:Nat×List Nat)=>(dg U x).length-w-q.1) (0,(dg U x).drop w) ⟨Nat.zero_le _,by simp,fun j hj=>absurd hj (Nat.not_lt_zero j),fun j _=>Zsp x w j,fun d hd=>Lh Qt x d (List.mem_of_mem_drop hd)⟩ K6 K4 ?_
    rintro⟨i,o⟩ ⟨hi,hol,hlo,hhi,hall⟩
    dsimp only at hi hol hlo hhi hall
    simp only [CA,NA]
    refine Zc<|Zg<|dt (Qd J J J)<|Zf<|Za<|Zc<|Zr J (fun h144=>?_) (fun h144=>?_)
    ·refine Zj<|Za<|Zc<|Zm<|Zc<|Zg<|mv J<|as_ J<|Zf<|Za<|Zc<|Zg<|mv J<|mv J<|dt (Xf (ii:=3) J J J J (Yk pU) Xp Nx J (by first | omega | (simp only [List.length_set];omega)))<|dt (Xx (ii:=3) 0 J J J (Yk pU) pU (by first | omega | (simp only [List.length_set];omega)))<|mv J<|dt (Zn5 J J (n:=b) J J)<|dt (Xf (ii:=3) J J J J (Yk pU) Xp Nx J (by first | omega | (simp only [List.length_set];omega)))<|tt (Ih (i:=3) (enc:=It) _ J J J J J J pU J hw (by decide) (by first | omega | (simp only [List.length_set];omega))) J fun _ _=>Zf<|Za<|Zc<|Zg<|mv J<|dt (Yu J J J ⟨by omega,by omega⟩)<|mv J<|dt (Yc J J (i:=3) J (Yk pU) Xp)<|dt (Qd J J J)<|Zf<|Za<|Zr J (fun h146=>?_) (fun h146=>?_)
     ·simp only [List.length_set]at h146
      have hnew:∀j,((o.set i (o.getD i 0/2^b)).set i ((o.set i (o.getD i 0/2^b)).getD i 0 ||| ((dg U x).getD (w+i+1) 0*2^(64-b))%U)).getD j 0=if i=j then x/2^s/U^i%U else o.getD j 0:=fun j=>by
       rw [Na _ _ _ _ _ (by simp;omega),Na _ _ _ _ _ (by omega),Na _ _ _ _ _ (by omega)]
       split
       ·rw [if_pos rfl,hhi i (Nat.le_refl _),Hj Qt,Dk hwe hbe,Zng,show x/U^(w+i+1)=x/U^w/U^i/U by rw [Nat.div_div_eq_div_mul,Nat.div_div_eq_div_mul,←Nat.pow_succ,←Nat.pow_add];rfl,Zl2 _ _ (by omega)]
       ·rfl
      have hal2:=Ln (Ln hall i (o.getD i 0/2^b) (Nat.lt_of_le_of_lt (Nat.div_le_self _ _) (Qj Pb hall _))) i ((o.set i (o.getD i 0/2^b)).getD i 0 ||| ((dg U x).getD (w+i+1) 0*2^(64-b))%U) (Nat.or_lt_two_pow (n:=64) (Qj Pb (Ln hall _ _ (Nat.lt_of_le_of_lt (Nat.div_le_self _ _) (Qj Pb hall _))) _) (Nat.mod_lt _ Pb))
      refine Qf (fun _=>False) [(0,0),(1,0),(2,0),(3,0),(4,0),(5,0),(6,0),(7,0),(8,0),(9,0),(10,0),(11,0),(12,0),(13,0),(14,0),(15,0),(16,3)] ?_ ?_
      ·kernel_rfl
      refine r0' J J (st0 (Yf J J))<|r0' J J (st0 (Yf J J))<|r0' J J (st0 (Xf (ii:=3) J J J J (Yk pU) Xp Nx J (by first | omega | (simp only [List.length_set];omega))))<|r0' J J (st0 (Xx (ii:=3) 0 J J J (Yk pU) pU (by first | omega | (simp only [List.length_set];omega))))<|r0' J J (st0 (Yf J J))<|r0' J J (st0 (Yf J J))<|r0' J J (st0 (Yf J J))<|r0' J J (st0 (Yu J J J ⟨by omega,by omega⟩))<|r0' J J (st0 (Yu J J J ⟨by omega,by omega⟩))<|r0' J J (st0 (Xf (ii:=1) (i:=w+i+1) J J J J Zi Xp Nx (by omega) (by first | omega | (simp only [List.length_set];omega))))<|r0' J J (st0 (Xx (ii:=1) 0 J J J Zi pU (by first | omega | (simp only [List.length_set];omega))))<|r0' J J (st0 (Yf J J))<|r0' J J (st0 (Qo J J J ⟨by omega,by omega⟩))<|r0' J J (st0 (Zn6 J J (n:=64-b) J (by omega)))<|r0' J J (st0 (u_or J J J (Qj Pb (Ln hall _ _ (Nat.lt_of_le_of_lt (Nat.div_le_self _ _) (Qj Pb hall _))) _) (Nat.mod_lt _ Pb)))<|r0' J J (st0 (Xf (ii:=3) J J J J (Yk pU) Xp Nx J (by first | omega | (simp only [List.length_set];omega))))<|r3' J (Ih (i:=3) (enc:=It) _ J J J J J J pU J hw (by decide) (by first | omega | (simp only [List.length_set];omega))) fun _ _=>Py<|Og<|Za<|Zg<|dt (Yu J J J ⟨by omega,by omega⟩)<|mv J<|Zf ?_
      exact Xq (i+1,_) ⟨by first | omega | (dsimp only<;>omega),by simp;omega,fun j hj=>by dsimp only;rw [hnew j];split;(· rename_i e;rw [←e]);exact hlo j (by have:j<i+1:=hj;omega),fun j hj=>by dsimp only;rw [hnew j,if_neg (by have:i+1≤j:=hj;omega)];exact hhi j (by have:i+1≤j:=hj;omega),hal2⟩ (by first | omega | (dsimp only<;>omega)) K6 K4
     ·have hnew:∀j,(o.set i (o.getD i 0/2^b)).getD j 0=if i=j then x/2^s/U^i%U else o.getD j 0:=fun j=>by
       rw [Na _ _ _ _ _ (by omega)]
       split
       ·rw [hhi i (Nat.le_refl _),Dk hwe hbe,Zng,Zpz _ _ (by omega)]
        rw [Nat.div_div_eq_div_mul,←Nat.pow_succ]
        exact Nat.div_eq_of_lt (Zrr (by simp only [List.length_set]at h146;omega))
       ·rfl
      have hal2:=Ln hall i (o.getD i 0/2^b) (Nat.lt_of_le_of_lt (Nat.div_le_self _ _) (Qj Pb hall _))
      exact Zj<|Og<|Za<|Zg<|dt (Yu J J J ⟨by omega,by omega⟩)<|mv J<|Zf<|Xq (i+1,_) ⟨by first | omega | (dsimp only<;>omega),by simp;omega,fun j hj=>by dsimp only;rw [hnew j];split;(· rename_i e;rw [←e]);exact hlo j (by have:j<i+1:=hj;omega),fun j hj=>by dsimp only;rw [hnew j,if_neg (by have:i+1≤j:=hj;omega)];exact hhi j (by have:i+1≤j:=hj;omega),hal2⟩ (by first | omega | (dsimp only<;>omega)) K6 K4
    ·exact Yx<|Zu<|Zu<|Nc<|Qz _ ⟨by omega,by intro j hj;rw [hlo j (by omega)]⟩ K1 K4
   ·exact Zj<|Qz _ ⟨by simp,by intro j hj;rw [Zsp,Dk hwe hbe,show b=0 by omega,Nat.pow_zero,Nat.div_one]⟩ K1 K4
  ·rintro o ⟨hol,hv⟩
   simp only [CA,NA]
   refine Zc<|Zg<|mv J<|tt (Zh (n:=3) (Oa _ _) J J J K1 call127 (Xw 3 J J pU Ze) J hw) J fun _ _=>Px (Zhx 3 J J pU)<|as_ J<|Zf<|Za<|Zt ?_
   have hx2:tz o=dg U (x/2^s):=Zn8 Qt hv (by rw [hol,Dk hwe hbe];exact Nat.lt_of_le_of_lt (Nat.div_le_self _ _) (Zrr (by omega)))
   exact Yl (.inl J) hsc _ _ (fun a w hs=>Np hs results195 J) J trivial J (Pq 3 J J pU hx2 Zk)
theorem Zit(v:Value)(x:Nat)(hx:bl x≤4294967296:=by omega):Mv prog 169 #[v] [dgp v x] (.string (Qc x)):=by
 refine Yd func169 J ntmps169 J K1 ?_
 intro w0 sc hw hsc
 simp only [Zq,Zp]
 have hX:=Ma x
 have hL:=Zed x
 have hW:=lenU x
 have hrl:(List.replicate (dg 256 x).length (0:Nat)).length=(dg 256 x).length:=List.length_replicate
 refine Zc<|Zg<|as_ J<|Zf<|Za<|Zc<|Zg<|mv J<|tt (Zh (n:=1) (Zg8 _ _) J J J K1 call168 (Zd 1 J J J Ze) J hw) J fun _ _=>dt (Yu J J J ⟨by omega,by omega⟩)<|dt (Zk9 J J J)<|tt (Di (i:=2) (n:=(dg 256 x).length) (by_:=1) (enc:=Zty) 0 J J J J Zo3 ti5 J pB.cells pB.pos J J J hw) J fun v _=>as_ J<|Zf<|Za<|Zc<|Zc<|Zg<|mv J<|dt (Yc J J (i:=2) J (Yk pB) Zo3)<|mv J<|Zf<|Za<|Zm<|Mm [(0,_),(3,_),(12,_)] [(0,_),(1,_)] (fun(q:Nat×List Nat)=>[(13,.int .i64 (q.1:Int))]) (fun(q:Nat×List Nat)=>[(2,osl 1 5 Zty v q.2)]) (fun(q:Nat×List Nat)=>(q.1≤(dg 256 x).length)∧(q.2.length=(dg 256 x).length)∧(∀j,j<q.1→q.2.getD j 0=x/256^((dg 256 x).length-1-j)%256)) (fun(q:Nat×List Nat)=>(dg 256 x).length-q.1) (0,List.replicate (dg 256 x).length 0) ⟨by first | omega | (dsimp only<;>omega),by simp,fun j hj=>absurd hj (Nat.not_lt_zero j)⟩ K4 K3 ?_
 rintro⟨i,o⟩ ⟨hi,hol,hov⟩
 dsimp only at hi hol hov
 simp only [CA,NA]
 refine Zc<|Zg<|dt (Qd J J J)<|Zf<|Za<|Zc<|Zr J (fun h48=>?_) (fun h48=>?_)
 ·refine Zj<|Za<|Zc<|Zm<|Zc<|Zg<|mv J<|as_ J<|Zf<|Za<|Zc<|Zg<|mv J<|dt (Yc J J (i:=2) J (Yk pB) Zo3)<|dt (Qo J J J ⟨by omega,by omega⟩)<|mv J<|dt (Qo J J J ⟨by omega,by omega⟩)<|as_ J<|Zf<|Za<|Xc (Ia 5 (v':= .int .i64 (((dg 256 x).length-1-i:Nat):Int)) J (by congr 1;omega)) ?_
  have hbyte:=Zjd x ((dg 256 x).length-1-i)
  rw [←Hj Qt]at hbyte
  exact Zg<|mv J<|mv J<|mv J<|mv J<|dt (Zk9 J J J)<|dt (Xf (ii:=1) (i:=((dg 256 x).length-1-i)/8) J J J J Zi Xp Nx)<|dt (Xx (ii:=1) 0 J J J Zi pU)<|mv J<|dt (Zk8 J J J)<|dt (Cf J J J ⟨by omega,by omega⟩)<|dt (Zn5 J J (n:=((dg 256 x).length-1-i)%8*8) J (by omega))<|dt (Ze7 J J Zc8 uT5)<|dt (Xf (ii:=2) J J J J (Yk pB) Zo3 sizeOf5 J (by first | omega | (simp only [List.length_set];omega)))<|tt (Ih (i:=2) (enc:=Zty) _ J J J J J J pB J hw (by decide) (by first | omega | (simp only [List.length_set];omega))) J fun _ _=>Zf<|Og<|Za<|Zg<|dt (Yu J J J ⟨by omega,by omega⟩)<|mv J<|Zf<|Xq (i+1,_) ⟨by first | omega | (dsimp only<;>omega),by simp;omega,fun j hj=>by dsimp only;rw [Na _ _ _ _ _ (by omega)];split;(· rename_i e;rw [←e];exact hbyte);exact hov j (by omega)⟩ (by first | omega | (dsimp only<;>omega)) K4 K3
 ·refine Yx<|Zu<|Zu<|Nc<|Za<|Zc<|Zg<|mv J<|dt (d_b2s J J (i:=2) J (Yk pB) Zo3 uT9 uT5)<|as_ J<|Zf<|Za<|Zt ?_
  have hb:Qc x=⟨(o.map UInt8.ofNat).toArray⟩:=by
   have ho:o=(dg 256 x).reverse:=by
    refine Zbk (by simp;omega) (fun j hj=>?_)
    rw [hov j (by omega),Ziz _ _ _ (by omega),Hj (by omega)]
   rw [ho];rfl
  exact xU hsc results169 J J (by rw [hb])
theorem Al(x:Nat)(hx:bl x≤4294967296:=by omega):Cal prog 170 #[.string (Qc x)] [] false (G:=Value) (fun r=>True) (fun r=>r) (fun r=>[dgp r x]):=by
 refine Yd func170 J ntmps170 J trivial ?_
 intro w0 sc hw hsc
 simp only [Zq,Zp]
 have hX:=Ma x
 have hL:=Zed x
 have hW:=lenU x
 have hbs:=Lm x
 refine Zc<|Zg<|as_ J<|Zf<|Za<|Zc<|Zg<|mv J<|dt (Ie J J uT9)<|dt (Yu J J J ⟨by omega,by omega⟩)<|dt (Zk9 J J J)<|tt (Di (i:=1) (n:=(dg U x).length) (by_:=8) (enc:=It) 0 J J J J Xp ti149 J pU.cells pU.pos J J J hw) J fun v _=>as_ J<|Zf<|Za<|Zc<|Zc<|Zg<|mv J<|dt (Ie J J uT9)<|mv J<|Zf<|Za<|Zm<|Mm [(0,_),(3,_),(12,_)] [(0,_)] (fun(q:Nat×List Nat)=>[(13,.int .i64 (q.1:Int))]) (fun(q:Nat×List Nat)=>[(1,osl 1 149 It v q.2)]) (fun(q:Nat×List Nat)=>(q.1≤(dg 256 x).length)∧(q.2.length=(dg U x).length)∧(∀w,w<q.2.length→q.2.getD w 0=hi x ((dg 256 x).length-q.1) w)) (fun(q:Nat×List Nat)=>(dg 256 x).length-q.1) (0,List.replicate (dg U x).length 0) ⟨by first | omega | (dsimp only<;>omega),by simp,fun w hw=>by dsimp only at *;rw [List.length_replicate]at hw;rw [Lz,hi_top (by omega)]⟩ K4 K2 ?_
 rintro⟨i,o⟩ ⟨hik,hol,hov⟩
 dsimp only at hik hol hov
 simp only [CA,NA]
 refine Zc<|Zg<|dt (Qd J J J)<|Zf<|Za<|Zc<|Zr J (fun h30=>?_) (fun h30=>?_)
 ·refine Zj<|Za<|Zc<|Zm<|Zc<|Zg<|mv J<|as_ J<|Zf<|Za<|Zc<|Zg<|mv J<|dt (Ie J J uT9)<|dt (Qo J J J ⟨by omega,by omega⟩)<|mv J<|dt (Qo J J J ⟨by omega,by omega⟩)<|as_ J<|Zf<|Za<|Xc (Ia 5 (v':= .int .i64 (((dg 256 x).length-1-i:Nat):Int)) J (by congr 1;omega)) ?_
  have hget:=Zhr x i (by omega)
  have hw0:=hov (((dg 256 x).length-1-i)/8) (by omega)
  have hlt1:o.getD (((dg 256 x).length-1-i)/8) 0<U:=by rw [hw0];exact Nat.mod_lt _ Pb
  have hset:∀w,w<o.length→(o.set (((dg 256 x).length-1-i)/8) (o.getD (((dg 256 x).length-1-i)/8) 0 ||| (((Qc x).data.toList.getD i 0).toNat*2^(((dg 256 x).length-1-i)%8*8))%U)).getD w 0=hi x ((dg 256 x).length-(i+1)) w:=fun w hw=>by
   rw [hget,hw0,show(dg 256 x).length-i=(dg 256 x).length-1-i+1 by omega,hi_step,Na _ _ _ _ _ (by omega),show(dg 256 x).length-(i+1)=(dg 256 x).length-1-i by omega]
   split
   ·rename_i e;rw [e]
   ·rename_i e;rw [hov w hw,show(dg 256 x).length-i=(dg 256 x).length-1-i+1 by omega];exact Zv0 e
  refine Qf (fun _=>False) [(0,0),(1,0),(2,0),(3,0),(4,0),(5,0),(6,0),(7,0),(8,0),(9,0),(10,0),(11,0),(12,0),(13,0),(14,0),(15,3)] ?_ ?_
  ·kernel_rfl
  exact r0' J J (st0 (Yf J J))<|r0' J J (st0 (Yf J J))<|r0' J J (st0 (Zk9 J J J))<|r0' J J (st0 (Xf (ii:=1) (i:=((dg 256 x).length-1-i)/8) J J J J (Yk pU) Xp Nx))<|r0' J J (st0 (Xx (ii:=1) 0 J J J (Yk pU) pU (by first | omega | (simp only [List.length_set];omega))))<|r0' J J (st0 (Yf J J))<|r0' J J (st0 (Yf J J))<|r0' J J (st0 (Zsx J J J uT9 J))<|r0' J J (st0 (cv_u64 J J uT5 Zc8 (by have:=(((Qc x).data.toList.getD i 0).toNat_lt);simp only [U];omega)))<|r0' J J (st0 (Yf J J))<|r0' J J (st0 (Zk8 J J J))<|r0' J J (st0 (Cf J J J ⟨by omega,by omega⟩))<|r0' J J (st0 (Zn6 J J (n:=((dg 256 x).length-1-i)%8*8) J (by omega)))<|r0' J J (st0 (u_or J J J (hlt1) (Nat.mod_lt _ Pb)))<|r0' J J (st0 (Xf (ii:=1) (i:=((dg 256 x).length-1-i)/8) J J J J (Yk pU) Xp Nx))<|r3' J (Ih (i:=1) (enc:=It) _ J J J J J J pU J hw (by decide) (by first | omega | (simp only [List.length_set];omega))) fun _ _=>Py<|Og<|Za<|Zg<|dt (Yu J J J ⟨by omega,by omega⟩)<|mv J<|Zf<|Xq (i+1,_) ⟨by first | omega | (dsimp only<;>omega),by simp;omega,fun w hw=>hset w (by simpa using hw)⟩ (by first | omega | (dsimp only<;>omega)) K4 K2
 ·refine Yx<|Zu<|Zu<|Nc<|Za<|Zc<|Zg<|mv J<|as_ J<|Zf<|Za<|Zt ?_
  have ho:o=dg U x:=Zbk hol (fun j hj=>by rw [hov j hj,Hj Qt,hi_ge (by omega)])
  exact Yl (.inl J) hsc _ _ (fun a w hs=>Np hs results170 J) J trivial J (Pq 1 J J pU ho Zk)
set_option maxHeartbeats 2000000 in
theorem Zrd(v w:Value)(x y:Nat)(hx:bl x≤4000000000)(hy0:bl y≤4000000000)(hy:0<y):Cal prog 174 #[v,w] [dgp v x,dgp w y] true (G:=Value×Value) (fun r=>True) (fun r=> .tuple #[r.1,r.2]) (fun r=>[dgp r.1 (x/y),dgp r.2 (x%y)]):=by
 refine Yd func174 J ntmps174 J K2 ?_
 intro w0 sc hw hsc
 simp only [Zq,Zp]
 have hX:=Ma x
 have hY:=Ma y
 refine Zc<|Zg<|as_ J<|as_ J<|Zf<|Za<|Zc<|Zc<|Zg<|mv J<|mv J<|tt (Zh (n:=2) (Bu _ _ _ _ (by omega) (by omega)) J J J K2 call172 (Zd 1 J J J (Zd 2 J J J Ze)) J hw) J fun r hr=>dt (Qd J J J)<|Zf<|Za<|Zr J (fun h166=>?_) (fun h166=>?_)
 ·have hlt:x<y:=hr.1.1 (by omega)
  exact Zc<|Zg<|mv J<|as_ J<|as_ J<|Zf<|Za<|Zt<|Ys<|Nq (Nt 9 1 149 It)<|Yl (.inl J) hsc (.slice none 0 0,v) _ (fun a w hs=>Ns hs results174 J J) J trivial J (Pq 9 J J pU (by rw [Nat.div_eq_of_lt hlt];rfl) (Yh 1 J J J (by rw [Nat.mod_eq_of_lt hlt]) Zk))
 ·have hge:y≤x:=by have:=hr.1;omega
  have hly:=Nu hge
  refine Zj<|Za<|Zc<|Zc<|Zg<|mv J<|dt (Yc J J (i:=2) J Zi Xp)<|dt (Pg J J J)<|Zf<|Za<|Zr J (fun h169=>?_) (fun h169=>?_)
  ·have hyU:y<U:=by have:=(Xy Qt 1 y).1 (by omega);simpa using this
   have hd0:(dg U y).getD 0 0=y:=by rw [Hj Qt];simp [Nat.mod_eq_of_lt hyU]
   exact Zc<|Zg<|mv J<|mv J<|dt (Xf (ii:=2) (i:=0) J J J J Zi Xp Nx J)<|dt (Xx (ii:=2) 0 J J J Zi pU (by first | omega | (simp only [List.length_set];omega)))<|tt (Zh (n:=3) (Zrb _ _ _ (by omega) (by rw [hd0];exact hy) (by rw [hd0];exact hyU)) J J J K2 call192 (Zd 1 J J J Ze) J hw) J fun v _=>mv J<|dt (Ya J J J)<|dt (Ya J J J)<|as_ J<|as_ J<|Zf<|Za<|Zc<|Zg<|mv J<|mv J<|tt (Ps (i:=4) (ivs:=[(0,_)]) (enc:=It) [x%(dg U y).getD 0 0] J J K2 Xp ti149 J J J J J pU.cells J J hw) J fun v_2 _=>tt (Zh (n:=4) (Oa _ _) J J J K1 call127 (Xw 4 J J pU Ze) J hw) J fun _ _=>Px (Zhx 4 J J pU)<|as_ J<|as_ J<|Zf<|Za<|Zt<|Ys<|Yl (.inl J) hsc (_,_) _ (fun a w hs=>Ns hs results174 J J) J trivial J (Yh 3 J J J (by rw [hd0];rfl) (Pq 4 J J pU (by rw [Zda (Nat.lt_trans (Nat.mod_lt _ (by rw [hd0];exact hy)) (by rw [hd0];exact hyU)),hd0]) Zk))
  ·refine Zj<|Za<|Zc ?_
   obtain⟨k,hk⟩:∃k,k=(dg U y).length:=⟨_,rfl⟩
   have hkx:k≤(dg U x).length:=by omega
   obtain⟨b,hb⟩:∃b,b=64-bl ((dg U y).getD (k-1) 0):=⟨_,rfl⟩
   obtain⟨hkD0,_,hk1,hDk0,hb63,hD630⟩:=norm_dg hy hk hb
   obtain⟨D,hDe⟩:∃D,D=y*2^b:=⟨_,rfl⟩
   have hkD:(dg U D).length=k:=by rw [hDe];exact hkD0
   have hDk:D<U^k:=by rw [hDe];exact hDk0
   have hD63:U^(k-1)*9223372036854775808≤D:=by rw [hDe];exact hD630
   have hD0:0<D:=by rw [hDe];exact Nat.mul_pos hy (Nat.two_pow_pos b)
   have hDb:bl D≤4000000064:=by rw [hDe,Zo0 _ _ hy];omega
   refine Zg<|mv J<|mv J<|dt (Yc J J (i:=2) J Zi Xp)<|dt (Qo J J J ⟨by omega,by omega⟩)<|dt (Xf (ii:=2) (i:=(dg U y).length-1) J J J J Zi Xp Nx)<|dt (Xx (ii:=2) 0 J J J Zi pU (by first | omega | (simp only [List.length_set];omega)))<|tt (Zh (n:=4) (Zll _ (Qj Pb (Lh Qt y) _)) J J J K1 call189 Ze J hw) J fun _ _=>Px (Ia 44 (v':= .int .i64 (b:Int)) J (by rw [hb,hk]))<|as_ J<|Zf<|Za<|Dc [(0,_),(8,_)] [(0,_),(1,_),(2,_)] (fun(q:Value×Value)=>[(9,q.1),(10,q.2)]) (fun(q:Value×Value)=>[(81,dgp q.1 D),(82,osl 1 149 It q.2 (List.replicate ((dg U x).length+1) 0))]) (fun(q:Value×Value)=>True) K2 K3 ?_ ?_
   ·refine Fh (fun _=>False) [8]<|Zz (n:=4) [(0,0),(1,0),(3,0),(4,0),(5,0)]<|r0' J J (st0 (Yf J J))<|r0' J J (st0 (Yf J J))<|r0' J J (st0 (Yf J J))<|r0' J J (st0 (Yc J J (i:=1) J Zi Xp))<|r0' J J (st0 (Yu J J J ⟨by omega,by omega⟩))<|Yt<|Pf (n:=3) 2 6 ?_ ?_
    ·exact Yo J (Zh (n:=81) (Kw _ _ _ (by omega) (by omega)) J J J K2 call132 (Zd 2 J J J Ze) J hw) fun v_3 _=>Zz (n:=0) [(7,0),(6,1),(8,3)]<|r0' J J (st0 (Ot J J))<|r1' J (Di (i:=82) (n:=(dg U x).length+1) (by_:=8) (enc:=It) 0 J J J J Xp ti149 J pU.cells pU.pos J J J hw) fun v_4 _=>r3' J (Qq (Ot J J) J) fun _ _=>Yt<|Yj<|Qz (_,_) trivial K4 ⟨by rw [hDe];rfl,rfl,rfl,rfl,rfl,trivial⟩
    ·exact Yo J (Di (i:=82) (n:=(dg U x).length+1) (by_:=8) (enc:=It) 0 J J J J Xp ti149 J pU.cells pU.pos J J J hw) fun v_5 _=>Zz (n:=0) [(2,1),(7,0),(8,3)]<|r1' J (Zh (n:=81) (Kw _ _ _ (by omega) (by omega)) J J J K2 call132 (Zd 2 J J J Ze) J hw) fun v_6 _=>r0' J J (st0 (Ot J J))<|r3' J (Qq (Ot J J) J) fun _ _=>Yt<|Yj<|Qz (_,_) trivial K4 ⟨by rw [hDe];rfl,rfl,rfl,rfl,rfl,trivial⟩
   ·rintro⟨vd,vr⟩ -
    simp only [CA,NA]
    refine Zc ?_
    have hnl:(dg U (x*2^b)).length≤(dg U x).length+1:=(Xy Qt _ _).2 (by rw [Nat.pow_succ];exact Nat.mul_lt_mul_of_lt_of_le ((Xy Qt _ x).1 (Nat.le_refl _)) (by rw [U_eq];exact Nat.pow_le_pow_right (by omega) (by omega)) Pb)
    refine Zg<|mv J<|mv J<|mv J<|tt (Zh (n:=5) (Kw _ _ _ (by omega) (by omega)) J J J K2 call132 (Zd 1 J J J Ze) J hw) J fun v_7 _=>tt (t_cpy (i:=82) (j:=5) 0 J J J J J J (by decide) J Zi (Zv8 _ _ _) (by rw [List.length_replicate];exact hnl) (by rw [List.length_replicate];omega) (by rw [List.length_replicate];omega) Xp pU J hw) J fun _ _=>Zf<|Za<|Zc ?_
    have hR0l:(spl (List.replicate ((dg U x).length+1) 0) 0 (dg U (x*2^b))).length=(dg U x).length+1:=by rw [Lr _ _ _ (by rw [List.length_replicate];omega),List.length_replicate]
    refine Zg<|mv J<|dt (Yc J J (i:=81) J Zi Xp)<|as_ J<|Zf<|Za<|Zc ?_
    have hql0:(List.replicate ((dg U x).length+1-k) (0:Nat)).length=(dg U x).length+1-k:=List.length_replicate
    refine Xc (Ia 11 (v':= .int .i64 (k:Int)) J (by rw [hkD]))<|Zg<|mv J<|dt (Yc J J (i:=82) J (Yk pU) Xp)<|mv J<|dt (Qo J J J ⟨by omega,by omega⟩)<|tt (Di (i:=6) (n:=(dg U x).length+1-k) (by_:=8) (enc:=It) 0 J J J J Xp ti149 J pU.cells pU.pos J J J hw) J fun v_8 _=>as_ J<|Zf<|Za<|Zc<|Zc<|Zg<|mv J<|dt (Yc J J (i:=6) J (Yk pU) Xp)<|dt (Qo J J J ⟨by omega,by omega⟩)<|as_ J<|Zf<|Za<|Zm ?_
    refine Mm [(8,_),(9,_),(10,_),(11,_),(12,_)] [(0,_),(81,_),(1,_),(2,_),(5,_)] (fun(q:Nat×List Nat×List Nat)=>[(13,.int .i64 ((q.1:Int)-1))]) (fun(q:Nat×List Nat×List Nat)=>[(82,osl 1 149 It vr q.2.1),(6,osl 1 149 It v_8 q.2.2)]) (fun(q:Nat×List Nat×List Nat)=>(q.1≤(dg U x).length+1-k)∧(q.2.1.length=(dg U x).length+1)∧(∀d∈q.2.1,d<U)∧(q.2.2.length=(dg U x).length+1-k)∧(∀d∈q.2.2,d<U)∧(val U q.2.1<D*U^q.1)∧(val U (q.2.2.drop q.1)*U^q.1*D+val U q.2.1=x*2^b)) (fun(q:Nat×List Nat×List Nat)=>q.1) ((dg U x).length+1-k,spl (List.replicate ((dg U x).length+1) 0) 0 (dg U (x*2^b)),List.replicate ((dg U x).length+1-k) 0) ⟨Nat.le_refl _,hR0l,Zlm (Nb _ Pb) (Lh Qt _) 0,by simp,Nb _ Pb,by rw [Zlu,Mw Qt];exact Zwc ((Xy Qt _ x).1 (Nat.le_refl _)) hb63 hk1 (by omega) hD63,by rw [Zlu,Mw Qt];simp [val]⟩ ⟨by rw [List.length_replicate];rfl,rfl,rfl,rfl,rfl,rfl,trivial⟩ K7 ?_
    rintro⟨jj,R,q⟩ ⟨hj,hRl,hRa,hql,hqa,hV,hN⟩
    dsimp only at hj hRl hRa hql hqa hV hN
    simp only [CA,NA]
    refine Zc<|Zc<|Zg<|mv J<|dt (Kj J J J)<|Zf<|Za<|Zr J (fun h179=>?_) (fun h179=>?_)
    ·refine Zj<|Za<|Zc<|Zm<|Zc ?_
     have hW1:val U R<U^(jj-1+k+1):=by
      refine Nat.lt_of_lt_of_le hV ?_
      rw [show jj-1+k+1=k+jj by omega,Nat.pow_add]
      exact Nat.mul_le_mul_right _ (Nat.le_of_lt hDk)
     have hWz:tz ((R.drop (jj-1)).take (jj-1+k+1-(jj-1)))=dg U (val U R/U^(jj-1)):=win_val hRa (by omega) (by rw [show jj-1+(jj-1+k+1-(jj-1))=jj-1+k+1 by omega];exact hW1)
     have hWD:val U R/U^(jj-1)<D*U:=by
      rw [Nat.div_lt_iff_lt_mul (Nat.pow_pos Pb),Nat.mul_assoc,←Nat.pow_succ',show(jj-1).succ=jj by omega];exact hV
     have hWb:bl (val U R/U^(jj-1))≤4294967296:=by
      have h1:=Nu (Nat.le_of_lt hWD)
      have h2:=Znx D U
      have h3:bl U≤65:=(Md 65 U).2 (by simp [U])
      omega
     have htop:=top_two hRa (j:=jj-1) hk1 hW1 (by omega)
     have hDt:(dg U D).getD (k-1) 0*U^(k-1)≤D:=by
      rw [Hj Qt];exact Nat.le_trans (Nat.mul_le_mul_right _ (Nat.mod_le _ _)) (Nat.div_mul_le_self _ _)
     have hQU:val U R/U^(jj-1)/D≤18446744073709551615:=by
      have:=(Nat.div_lt_iff_lt_mul hD0).2 (show _<U*D by rw [Nat.mul_comm];exact hWD)
      simp only [U]at this ⊢;omega
     refine Zg<|as_ J<|Zf<|Za<|Dc [(8,_),(9,_),(10,_),(11,_),(12,_),(13,_)] [(0,_),(82,_),(6,_),(81,_),(1,_),(2,_),(5,_)] (fun(g:Nat)=>[(14,.int .u64 (g:Int))]) (fun(g:Nat)=>[]) (fun(g:Nat)=>(val U R/U^(jj-1)/D≤g)∧(g<U)) K6 K7 ?_ ?_
     ·refine Zc<|Qf (fun _=>False) [(0,0),(1,0),(2,0),(3,0),(4,0),(5,0),(6,0),(7,0),(8,0),(9,0),(10,0),(11,0)] ?_ ?_
      ·kernel_rfl
      refine r0' J J (st0 (Yf J J))<|r0' J J (st0 (Yf J J))<|r0' J J (st0 (Yf J J))<|r0' J J (st0 (Yu J J J ⟨by omega,by omega⟩))<|r0' J J (st0 (Xf (ii:=82) (i:=jj-1+k) J J J J (Yk pU) Xp Nx))<|r0' J J (st0 (Xx (ii:=82) 0 J J J (Yk pU) pU (by first | omega | (simp only [List.length_set];omega))))<|r0' J J (st0 (Yf J J))<|r0' J J (st0 (Yf J J))<|r0' J J (st0 (Qo J J J ⟨by omega,by omega⟩))<|r0' J J (st0 (Xf (ii:=81) (i:=k-1) J J J J Zi Xp Nx))<|r0' J J (st0 (Xx (ii:=81) 0 J J J Zi pU (by first | omega | (simp only [List.length_set];omega))))<|r0' J J (st0 (Qd J J J))<|Py<|Za<|Zr J (fun h182=>?_) (fun h182=>?_)
      ·refine Qf (fun _=>False) [(0,0),(1,0),(2,0),(3,0),(4,0),(5,0),(6,0),(7,0),(8,0),(9,0),(10,0),(11,0),(12,0),(13,0),(14,0),(15,0),(16,0),(17,0),(18,1),(19,0),(20,0),(21,0),(22,0)] ?_ ?_
       ·kernel_rfl
       refine r0' J J (st0 (Yf J J))<|r0' J J (st0 (Yf J J))<|r0' J J (st0 (Yf J J))<|r0' J J (st0 (Yu J J J ⟨by omega,by omega⟩))<|r0' J J (st0 (Xf (ii:=82) (i:=jj-1+k) J J J J (Yk pU) Xp Nx))<|r0' J J (st0 (Xx (ii:=82) 0 J J J (Yk pU) pU (by first | omega | (simp only [List.length_set];omega))))<|r0' J J (st0 (Yf J J))<|r0' J J (st0 (Yf J J))<|r0' J J (st0 (Yf J J))<|r0' J J (st0 (Yu J J J ⟨by omega,by omega⟩))<|r0' J J (st0 (Qo J J J ⟨by omega,by omega⟩))<|r0' J J (st0 (Xf (ii:=82) (i:=jj-1+k-1) J J J J (Yk pU) Xp Nx))<|r0' J J (st0 (Xx (ii:=82) 0 J J J (Yk pU) pU (by first | omega | (simp only [List.length_set];omega))))<|r0' J J (st0 (Yf J J))<|r0' J J (st0 (Yf J J))<|r0' J J (st0 (Qo J J J ⟨by omega,by omega⟩))<|r0' J J (st0 (Xf (ii:=81) (i:=k-1) J J J J Zi Xp Nx))<|r0' J J (st0 (Xx (ii:=81) 0 J J J Zi pU (by first | omega | (simp only [List.length_set];omega))))<|r1' J (Zh (n:=6) (Zny _ _ _ (Qj Pb hRa _) (Qj Pb (Lh Qt _) _) (by omega)) J J J K3 call193 Ze J hw) fun _ _=>r0' J J (st0 (Yf J J))<|r0' J J (st0 (Ya J J J))<|r0' J J (st0 (Ya J J J))<|r0' J J (st0 (Ot J J))<|Py ?_
       exact Qz _ ⟨Zv1 hDt (by omega) htop,Zne (Qj Pb hRa _) (by omega)⟩ K7 K7
      ·exact Zj<|Qz 18446744073709551615 ⟨hQU,by decide⟩ K7 K7
     ·rintro g ⟨hg,hgU⟩
      simp only [CA,NA]
      refine Zc<|Zg<|mv J<|mv J<|mv J<|mv J<|dt (Yu J J J ⟨by omega,by omega⟩)<|dt (Yu J J J ⟨by omega,by omega⟩)<|dt (d_mid (ii:=82) (i:=jj-1) (j:=jj-1+k+1) J J J J J (Yk pU) Xp Nx (by omega) (by omega) (by omega) (by omega))<|as_ J<|Zf<|Za<|Zc<|Zg<|mv J<|mv J<|tt (Ps (i:=7) (ivs:=[(0,_)]) (enc:=It) [g] J J K2 Xp ti149 J J J J J pU.cells J J hw) J fun v_9 _=>tt (Zh (n:=7) (Oa _ _) J J J K1 call127 (Xw 7 J J pU Ze) J hw) J fun _ _=>Px (Zhx 7 J J pU)<|Px (Zgs 7 (Zda hgU) J J)<|tt (Zh (n:=83) (Zrc _ _ _ _ (by omega) (Nat.le_trans ((Md 64 g).2 hgU) (by omega))) J J J K2 call194 (Zd 81 J J J (Xw 7 J J pU Ze)) J hw) J fun v_10 _=>as_ J<|Zf<|Za<|Zc<|Zm<|Mm [(8,_),(9,_),(10,_),(11,_),(12,_),(13,_),(15,_)] [(0,_),(82,_),(6,_),(81,_),(1,_),(2,_),(5,_),(7,_)] (fun(q:Nat×Value)=>[(14,.int .u64 (q.1:Int)),(16,q.2)]) (fun(q:Nat×Value)=>[(83,dgp q.2 (D*q.1))]) (fun(q:Nat×Value)=>(val U R/U^(jj-1)/D≤q.1)∧(q.1<U)) (fun(q:Nat×Value)=>q.1) (g,_) ⟨by first | omega | (dsimp only<;>omega),by first | omega | (dsimp only<;>omega)⟩ K9 K9 ?_
      rintro⟨g,vp⟩ ⟨hg,hgU⟩
      dsimp only at hg hgU
      simp only [CA,NA]
      have hPb:bl (D*g)≤4294967296:=by have h1:=Znx D g;have h2:=(Md 64 g).2 hgU;omega
      refine Zc<|Zc<|Zg<|mv J<|tt (Zh (n:=7) (Oa _ _) J J J K1 call127 (Aw 82 J J pU (Zgw (jj-1) (jj-1+k+1)) (Zhs _ _ _ _) Ze) J hw) J fun _ _=>mv J<|tt (Zh (n:=7) (Bu _ _ _ _ hWb hPb) J J J K2 call172 (Aw 82 J J pU (row_tz hWz (by rw [hWz]) (Zgw (jj-1) (jj-1+k+1))) (by rw [Oy];exact(Zhs _ _ _ _)) (Zd 83 J J J Ze)) J hw) J fun r_2 hr_2=>dt (Qd J J J)<|Zf<|Za<|Zr J (fun h187=>?_) (fun h187=>?_)
      ·have hlt:val U R/U^(jj-1)<D*g:=hr_2.1.1 (by omega)
       have hg1:1≤g:=by rcases Nat.eq_zero_or_pos g with h | h;(rw [h,Nat.mul_zero]at hlt;exact absurd hlt (Nat.not_lt_zero _));exact h
       have hDg:D≤D*g:=Nat.le_mul_of_pos_right _ hg1
       have hQg:val U R/U^(jj-1)/D≤g-1:=by have:=(Nat.div_lt_iff_lt_mul hD0).2 (show _<g*D by rw [Nat.mul_comm];exact hlt);omega
       exact Zj<|Za<|Zm<|Zc<|Zg<|mv J<|dt (Zey (n:=1) J J J)<|as_ J<|Zf<|Za<|Xc (Ia 14 (v':= .int .u64 ((g-1:Nat):Int)) J (An (Zsv hg1 hgU)))<|Zg<|mv J<|mv J<|tt (Zh (n:=8) (Zd8 _ _ _ _ hPb hDg) J J J K2 call173 (Zd 83 J J J (Zd 81 J J J Ze)) J hw) J fun v_11 _=>as_ J<|Zf<|Og<|Nq (Kt 8 83 J J J)<|Xq (g-1,_) ⟨hQg,by dsimp only;omega⟩ (by first | omega | (dsimp only<;>omega)) K9 ⟨by rw [Nat.mul_sub_one];rfl,rfl,rfl,rfl,rfl,rfl,rfl,rfl,rfl,trivial⟩
      ·refine Yx<|Zu<|Zu<|Nc<|Za<|Zc ?_
       have hQ:g=val U R/U^(jj-1)/D:=by
        have h1:=hr_2.1
        have h2:D*g≤val U R/U^(jj-1):=by omega
        exact Nat.le_antisymm ((Nat.le_div_iff_mul_le hD0).2 (by rw [Nat.mul_comm];exact h2)) hg
       refine Zg<|mv J<|tt (Zh (n:=8) (Oa _ _) J J J K1 call127 (Aw 82 J J pU (Zgw (jj-1) (jj-1+k+1)) (Zhs _ _ _ _) Ze) J hw) J fun _ _=>mv J<|tt (Zh (n:=9) (Zd8 _ _ _ _ hWb) J J J K2 call173 (Aw 82 J J pU (row_tz hWz (by rw [hWz]) (Zgw (jj-1) (jj-1+k+1))) (by rw [Oy];exact(Zhs _ _ _ _)) (Zd 83 J J J Ze)) J hw) J fun v_12 _=>as_ J<|Zf<|Za<|Zc ?_
       have hll:(dg U (val U R/U^(jj-1)-D*g)).length≤jj-1+k+1-(jj-1):=by
        have:val U R/U^(jj-1)-D*g<D:=by rw [hQ];have h3:=Nat.div_add_mod (val U R/U^(jj-1)) D;have h4:=Nat.mod_lt (val U R/U^(jj-1)) hD0;omega
        have:=(Xy Qt k _).2 (Nat.lt_trans this hDk)
        omega
       refine Zg<|mv J<|tt (t_clr (zv:= .bool false) (i:=82) (z:=0) (jj-1) J J J J (by decide) (Zsn _ _ _ (by omega)) (by omega) (by omega) Xp pU (fun w=>zeroValue149 w) J J hw) J fun _ _=>Zf<|Za<|Zc<|Zg<|mv J<|mv J<|tt (t_cpy (i:=82) (j:=9) (jj-1) J J J J J J (by decide) J Zi (Zsn _ _ _ (by rw [Lr _ _ _ (by rw [List.length_replicate];omega)];omega)) hll (by rw [Lr _ _ _ (by rw [List.length_replicate];omega)];omega) (by rw [Lr _ _ _ (by rw [List.length_replicate];omega)];omega) Xp pU J hw) J fun _ _=>Zf<|Za ?_
       have hL1:jj-1+(List.replicate (jj-1+k+1-(jj-1)) 0).length≤R.length:=by rw [List.length_replicate];omega
       have hl1:=Lr R (jj-1) _ hL1
       have hL2:jj-1+(dg U (val U R/U^(jj-1)-D*g)).length≤(spl R (jj-1) (List.replicate (jj-1+k+1-(jj-1)) 0)).length:=by omega
       have hval:=val_win hRa (j:=jj-1) (n:=jj-1+k+1-(jj-1)) (by omega) (by rw [show jj-1+(jj-1+k+1-(jj-1))=jj-1+k+1 by omega];exact hW1) hll
       rw [Mw Qt]at hval
       have hst:=Zwb (j:=jj-1) (N:=x*2^b) (Vq:=val U (q.drop jj)) hD0 hQ (by rw [show jj-1+1=jj by omega];exact hN)
       have hV2:=hst.1
       have hN2:=hst.2
       rw [←hval]at hV2 hN2
       have hdq:val U ((q.set (jj-1) g).drop (jj-1))=g+U*val U (q.drop jj):=by rw [drop_set _ _ _ (by omega),show jj-1+1=jj by omega];rfl
       rw [←hdq]at hN2
       exact Zg<|mv J<|mv J<|mv J<|dt (Xf (ii:=6) (i:=jj-1) J J J J (Yk pU) Xp Nx)<|tt (Ih (i:=6) (enc:=It) _ J J J J J J pU J hw (by decide) (by first | omega | (simp only [List.length_set];omega))) J fun _ _=>Zf<|Og<|Za<|Zg<|mv J<|dt (Qo J J J ⟨by omega,by omega⟩)<|as_ J<|Zf<|Xq (jj-1,_,_) ⟨by first | omega | (dsimp only<;>omega),(Lr _ _ _ hL2).trans (hl1.trans hRl),Zlm (Zlm hRa (Nb _ Pb) _) (Lh Qt _) _,by simp;omega,Ln hqa _ _ hgU,hV2,hN2⟩ (by first | omega | (dsimp only<;>omega)) ⟨by rw [show(((jj-1:Nat):Int)-1)=(jj:Int)-1-1 by omega];rfl,rfl,rfl,rfl,rfl,rfl,trivial⟩ K7
    ·refine Yx<|Zu<|Zu<|Nc<|Za<|Zc ?_
     obtain rfl:jj=0:=by omega
     rw [Nat.pow_zero,Nat.mul_one]at hV
     have hVb:bl (val U R)≤8589934592:=by have:=Nu (Nat.le_of_lt hV);omega
     refine Zg<|mv J<|tt (Zh (n:=9) (Oa _ _) J J J K1 call127 (Xw 6 J J pU Ze) J hw) J fun _ _=>Px (Zhx 6 J J pU)<|mv J<|tt (Zh (n:=9) (Oa _ _) J J J K1 call127 (Xw 82 J J pU Ze) J hw) J fun _ _=>Px (Zhx 82 J J pU)<|Px (Zgs 82 (Ky Qt R hRa).symm J J)<|mv J<|tt (Zh (n:=10) (nat_shr _ _ _ hVb (by omega)) J J J K2 call195 (Xw 82 J J pU Ze) J hw) J fun v_13 _=>as_ J<|as_ J<|Zf<|Za<|Zt ?_
     rw [List.drop_zero,Nat.pow_zero,Nat.mul_one]at hN
     have hqq:tz q=dg U (x/y):=by
      rw [←Ky Qt _ hqa,←Zia x y b,←hDe,←hN,Nat.mul_comm,Nat.mul_add_div hD0,Nat.div_eq_of_lt hV,Nat.add_zero]
     have hrr:val U R/2^b=x%y:=by
      rw [←Zh9 x y b,←hDe,←hN,Nat.mul_comm,Nat.mul_add_mod,Nat.mod_eq_of_lt hV]
     exact Yl (.inl J) hsc (_,_) _ (fun a w hs=>Ns hs results174 J J) J trivial J (Pq 6 J J pU hqq (Yh 10 J J J (by rw [hrr]) Zk))
theorem Zkk(v w:Value)(x y:Nat)(hx:bl x≤4000000000:=by omega)(hy:bl y≤4000000000:=by omega):Cal prog 185 #[v,w] [dgp v x,dgp w y] true (G:=Value) (fun r=>True) (fun r=>r) (fun r=>[dgp r (Nat.gcd x y)]):=by
 refine Yd func185 J ntmps185 J K2 ?_
 intro w0 sc hw hsc
 simp only [Zq,Zp]
 have hX:=Ma x
 have hY:=Ma y
 refine Zc<|Zg<|as_ J<|Zf<|Za<|Zc<|Zm<|Xc (Kt 1 91 J J J)<|Xc (Kt 2 92 J J J)<|Mm [] [(0,_),(1,_),(2,_)] (fun(q:Value×Value×Nat×Nat)=>[(0,q.1),(1,q.2.1)]) (fun(q:Value×Value×Nat×Nat)=>[(91,dgp q.1 q.2.2.1),(92,dgp q.2.1 q.2.2.2)]) (fun(q:Value×Value×Nat×Nat)=>(Nat.gcd q.2.2.1 q.2.2.2=Nat.gcd x y)∧(bl q.2.2.1≤4000000000)∧(bl q.2.2.2≤4000000000)) (fun(q:Value×Value×Nat×Nat)=>q.2.2.2) (v,w,x,y) ⟨J,hx,hy⟩ K2 K5 ?_
 rintro⟨va,vb,a,b⟩ ⟨hg,ha,hb⟩
 dsimp only at hg ha hb
 simp only [CA,NA]
 refine Zc<|Zc<|Zg<|mv J<|dt (Yc J J (i:=92) J Zi Xp)<|dt (Qr J J J)<|Zf<|Za<|Zr J (fun h201=>?_) (fun h201=>?_)
 ·have hb0:0<b:=by rcases Nat.eq_zero_or_pos b with h | h;(subst h;simp [Iu]at h201);exact h
  refine Zj<|Za<|Zm<|Zc<|Zg<|mv J<|mv J<|tt (Zh (n:=3) (Zrd _ _ _ _ ha hb hb0) J J J K2 call174 (Zd 91 J J J (Zd 92 J J J Ze)) J hw) J fun g _=>mv J<|dt (Ya J J J)<|dt (Ya J J J)<|as_ J<|as_ J<|Zf<|Za<|Zg<|mv J<|mv J<|as_ J<|as_ J<|Zf<|Og ?_
  have hlt:a%b<b:=Nat.mod_lt _ hb0
  exact Nq (Kt 92 91 J J J)<|Nq (Kt 4 92 J J J)<|Xq (_,_,b,a%b) ⟨by dsimp only;rw [←hg,Nat.gcd_comm b,←Nat.gcd_rec,Nat.gcd_comm],hb,Nat.le_trans (Nu (Nat.le_of_lt hlt)) hb⟩ hlt K2 K5
 ·have hb0:b=0:=(Po Qt b).1 (by omega)
  exact Yx<|Zu<|Zu<|Nc<|Za<|Zc<|Zg<|mv J<|as_ J<|Zf<|Za<|Zt<|Yl (.inl J) hsc _ _ (fun a w hs=>Np hs results185 J) J trivial J (Yh 91 J J J (by rw [←hg,hb0,Nat.gcd_zero_right]) Zk)
theorem Zkh(s:Bool)(v:Value)(x:Int)(hs:sg s x):Cal prog 134 #[.agg #[.bool s,v]] [dgp v x.natAbs] true (G:=Bool×Value) (fun r=>sg r.1 (-x)) (fun r=> .agg #[.bool r.1,r.2]) (fun r=>[dgp r.2 (-x).natAbs]):=by
 refine Yd func134 J ntmps134 J K1 ?_
 intro w0 sc hw hsc
 simp only [Zq,Zp]
 exact Zc<|Zg<|tt (Xa (i:=2) J J J J J hw) J fun b _=>tt (Zl (i:=3) J J zeroValue154 J J hw) J fun b_2 _=>Zf<|Za<|Zc<|Zg<|dt (Xk J J Mn J zT4 J J)<|dt (Pr (i:=2) J J J iA4 J)<|dt (Yr J J)<|dt (Xk J J Mn J Fa J J)<|dt (Pr (i:=2) J J J Fg J)<|dt (Oh (ivs:=[(0,_),(1,_)]) J K4 (fun a w hs=>Ol ((Zb J) a w hs) ((Zx (i:=1) J Zi) a w hs)))<|tt (Zn (i:=3) J J J J J (by decide) J Yy J J ⟨Zb J,Zx (i:=1) J Zi,trivial⟩ J hw trivial) J fun _ _=>Zf<|Za<|Zt<|Yl (.inl J) hsc (!s,v) _ (fun a w hs=>Np hs results134 (Yp (i:=3) J J Lg Yy J)) J (sg_neg hs) J (Yh 1 J J J (by rw [Int.natAbs_neg]) Zk)
theorem Zbc(s t:Bool)(v w:Value)(x y:Int)(hs:sg s x)(ht:sg t y)(hx:bl x.natAbs≤4294967296:=by omega)(hy:bl y.natAbs≤4294967296:=by omega):Cal prog 176 #[.agg #[.bool s,v],.agg #[.bool t,w]] [dgp v x.natAbs,dgp w y.natAbs] true (G:=Bool×Value) (fun r=>sg r.1 (x*y)) (fun r=> .agg #[.bool r.1,r.2]) (fun r=>[dgp r.2 (x*y).natAbs]):=by
 refine Yd func176 J ntmps176 J K2 ?_
 intro w0 sc hw hsc
 simp only [Zq,Zp]
 refine Zc<|Zg<|tt (Xa (i:=3) J J J J J hw) J fun b _=>tt (Xa (i:=4) J J J J J hw) J fun b_2 _=>tt (Zl (i:=5) J J zeroValue154 J J hw) J fun b_3 _=>Zf<|Za<|Zc<|Qf (fun _=>False) [(0,0),(1,0),(2,0),(3,0),(4,0),(5,0),(6,0),(7,0),(8,0),(9,1),(10,0),(11,3)] ?_ ?_
 ·kernel_rfl
 exact r0' J J (st0 (Xk J J Mn J zT4 J J))<|r0' J J (st0 (Pr (i:=3) J J J iA4 J))<|r0' J J (st0 (Xk J J Mn J zT4 J J))<|r0' J J (st0 (Pr (i:=4) J J J iA4 J))<|r0' J J (st0 (Zla J J J uT4))<|r0' J J (st0 (Xk J J Mn J Fa J J))<|r0' J J (st0 (Pr (i:=3) J J J Fg J))<|r0' J J (st0 (Xk J J Mn J Fa J J))<|r0' J J (st0 (Pr (i:=4) J J J Fg J))<|r1' J (Zh (n:=6) (Zrc _ _ _ _ hx hy) J J J K2 call194 (Zd 1 J J J (Zd 2 J J J Ze)) J hw) fun v _=>r0' J J (st0 (Oh (ivs:=[(0,_),(1,_)]) J K4 (fun a w hs=>Ol ((Zb J) a w hs) ((Zx (i:=6) J Zi) a w hs))))<|r3' J (Zn (i:=5) J J J J J (by decide) J Yy J J ⟨Zb J,Zx (i:=6) J Zi,trivial⟩ J hw trivial) fun _ _=>Py<|Za<|Zt<|Yl (.inl J) hsc (_,_) _ (fun a w hs=>Np hs results176 (Yp (i:=5) J J Lg Yy J)) J (sg_mul hs ht) J (Yh 6 J J J (by rw [Int.natAbs_mul]) Zk)
theorem Zg7(s:Bool)(v:Value)(x:Int)(hs:sg s x)(hx:bl x.natAbs≤4294967296:=by omega):Cal prog 135 #[.agg #[.bool s,v]] [dgp v x.natAbs] true (G:=Unit) (fun _=>True) (fun _=> .int .i64 x.sign) (fun _=>[]):=by
 refine Yd func135 J ntmps135 J K1 ?_
 intro w0 sc hw hsc
 simp only [Zq,Zp]
 have hX:=Ma x.natAbs
 refine Zc<|Zg<|tt (Xa (i:=2) J J J J J hw) J fun b _=>as_ J<|Zf<|Za<|Zc<|Zm<|Zc<|Zg<|dt (Xk J J Mn J Fa J J)<|dt (Pr (i:=2) J J J Fg J)<|dt (Yc J J (i:=1) J Zi Xp)<|dt (Pg J J J)<|as_ J<|Zf<|Za<|Zr J (fun h245=>?_) (fun h245=>?_)
 ·exact Zc<|Zg<|as_ J<|Zf<|Za<|Zt<|Lx<|Ys<|xU hsc results135 J J (Zpy h245)
 ·refine Zc<|Zg<|dt (Xk J J Mn J zT4 J J)<|dt (Pr (i:=2) J J J iA4 J)<|as_ J<|Zf<|Za<|Nn J (fun h247=>?_) (fun h247=>?_)
  ·exact Zc<|Zg<|as_ J<|Zf<|Za<|Zt<|Lx<|Ys<|xU hsc results135 J J (Zun hs h247 h245)
  ·exact Zj<|Og<|Za<|Zc<|Zg<|as_ J<|Zf<|Za<|Zt<|xU hsc results135 J J (Zum hs h247 h245)
theorem Zd6(s t:Bool)(v w:Value)(x y:Int)(hs:sg s x)(ht:sg t y)(hx:bl x.natAbs≤4294967296:=by omega)(hy:bl y.natAbs≤4294967296:=by omega):Cal prog 131 #[.agg #[.bool s,v],.agg #[.bool t,w]] [dgp v x.natAbs,dgp w y.natAbs] true (G:=Bool×Value) (fun r=>sg r.1 (x+y)) (fun r=> .agg #[.bool r.1,r.2]) (fun r=>[dgp r.2 (x+y).natAbs]):=by
 refine Yd func131 J ntmps131 J K2 ?_
 intro w0 sc hw hsc
 simp only [Zq,Zp]
 refine Zc<|Zg<|tt (Xa (i:=3) J J J J J hw) J fun b _=>tt (Xa (i:=4) J J J J J hw) J fun b_2 _=>tt (Zl (i:=5) J J zeroValue154 J J hw) J fun b_3 _=>Zf<|Za<|Zc<|Zm<|Zc<|Zg<|dt (Xk J J Mn J zT4 J J)<|dt (Pr (i:=3) J J J iA4 J)<|dt (Xk J J Mn J zT4 J J)<|dt (Pr (i:=4) J J J iA4 J)<|dt (d_eqb J J J uT4)<|as_ J<|Zf<|Za<|Nn J (fun h231=>?_) (fun h231=>?_)
 ·have hst:s=t:=by simpa using h231
  refine Zc<|Qf (fun _=>False) [(0,0),(1,0),(2,0),(3,0),(4,0),(5,0),(6,1),(7,0),(8,3)] ?_ ?_
  ·kernel_rfl
  exact r0' J J (st0 (Xk J J Mn J zT4 J J))<|r0' J J (st0 (Pr (i:=3) J J J iA4 J))<|r0' J J (st0 (Xk J J Mn J Fa J J))<|r0' J J (st0 (Pr (i:=3) J J J Fg J))<|r0' J J (st0 (Xk J J Mn J Fa J J))<|r0' J J (st0 (Pr (i:=4) J J J Fg J))<|r1' J (Zh (n:=6) (Zre _ _ _ _ hx hy) J J J K2 call171 (Zd 1 J J J (Zd 2 J J J Ze)) J hw) fun v _=>r0' J J (st0 (Oh (ivs:=[(0,_),(1,_)]) J K4 (fun a w hs=>Ol ((Zb J) a w hs) ((Zx (i:=6) J Zi) a w hs))))<|r3' J (Zn (i:=5) J J J J J (by decide) J Yy J J ⟨Zb J,Zx (i:=6) J Zi,trivial⟩ J hw trivial) fun _ _=>Py<|Za<|Zt<|Lx<|Ys<|Yl (.inl J) hsc (_,_) _ (fun a w hs=>Np hs results131 (Yp (i:=5) J J Lg Yy J)) J (Zp4 hs (hst▸ht)) J (Yh 6 J J J (by rw [Zc2 hs (hst▸ht)]) Zk)
 ·have hst:s≠t:=by simpa using h231
  refine Zc<|Zg<|dt (Xk J J Mn J Fa J J)<|dt (Pr (i:=3) J J J Fg J)<|dt (Xk J J Mn J Fa J J)<|dt (Pr (i:=4) J J J Fg J)<|tt (Zh (n:=6) (Bu _ _ _ _ hx hy) J J J K2 call172 (Zd 1 J J J (Zd 2 J J J Ze)) J hw) J fun r hr=>dt (Kj J J J)<|as_ J<|Zf<|Za<|Zr J (fun h233=>?_) (fun h233=>?_)
  ·have hge:y.natAbs≤x.natAbs:=by have:=hr.1;omega
   refine Zc<|Qf (fun _=>False) [(0,0),(1,0),(2,0),(3,0),(4,0),(5,0),(6,1),(7,0),(8,3)] ?_ ?_
   ·kernel_rfl
   exact r0' J J (st0 (Xk J J Mn J zT4 J J))<|r0' J J (st0 (Pr (i:=3) J J J iA4 J))<|r0' J J (st0 (Xk J J Mn J Fa J J))<|r0' J J (st0 (Pr (i:=3) J J J Fg J))<|r0' J J (st0 (Xk J J Mn J Fa J J))<|r0' J J (st0 (Pr (i:=4) J J J Fg J))<|r1' J (Zh (n:=7) (Zd8 _ _ _ _ hx) J J J K2 call173 (Zd 1 J J J (Zd 2 J J J Ze)) J hw) fun v_2 _=>r0' J J (st0 (Oh (ivs:=[(0,_),(1,_)]) J K4 (fun a w hs=>Ol ((Zb J) a w hs) ((Zx (i:=7) J Zi) a w hs))))<|r3' J (Zn (i:=5) J J J J J (by decide) J Yy J J ⟨Zb J,Zx (i:=7) J Zi,trivial⟩ J hw trivial) fun _ _=>Py<|Za<|Zt<|Lx<|Ys<|Yl (.inl J) hsc (_,_) _ (fun a w hs=>Np hs results131 (Yp (i:=5) J J Lg Yy J)) J (Zgq hs ht hst hge) J (Yh 7 J J J (by rw [Bh hs ht hst hge]) Zk)
  ·have hge:x.natAbs≤y.natAbs:=by have:=hr.1;omega
   refine Zj<|Og<|Za<|Zc<|Qf (fun _=>False) [(0,0),(1,0),(2,0),(3,0),(4,0),(5,0),(6,1),(7,0),(8,3)] ?_ ?_
   ·kernel_rfl
   exact r0' J J (st0 (Xk J J Mn J zT4 J J))<|r0' J J (st0 (Pr (i:=4) J J J iA4 J))<|r0' J J (st0 (Xk J J Mn J Fa J J))<|r0' J J (st0 (Pr (i:=4) J J J Fg J))<|r0' J J (st0 (Xk J J Mn J Fa J J))<|r0' J J (st0 (Pr (i:=3) J J J Fg J))<|r1' J (Zh (n:=8) (Zd8 _ _ _ _ hy) J J J K2 call173 (Zd 2 J J J (Zd 1 J J J Ze)) J hw) fun v_3 _=>r0' J J (st0 (Oh (ivs:=[(0,_),(1,_)]) J K4 (fun a w hs=>Ol ((Zb J) a w hs) ((Zx (i:=8) J Zi) a w hs))))<|r3' J (Zn (i:=5) J J J J J (by decide) J Yy J J ⟨Zb J,Zx (i:=8) J Zi,trivial⟩ J hw trivial) fun _ _=>Py<|Za<|Zt<|Yl (.inl J) hsc (_,_) _ (fun a w hs=>Np hs results131 (Yp (i:=5) J J Lg Yy J)) J (by rw [Int.add_comm];exact Zgq ht hs (Ne.symm hst) hge) J (Yh 8 J J J (by rw [Int.add_comm,Bh ht hs (Ne.symm hst) hge]) Zk)
theorem Qs(s:Bool)(x:Int)(hs:sg s x)(hx:bl x.natAbs≤4294967296:=by omega):Cal prog 130 #[.agg #[.bool s,.string (Qc x.natAbs)]] [] true (G:=Bool×Value) (fun r=>sg r.1 x) (fun r=> .agg #[.bool r.1,r.2]) (fun r=>[dgp r.2 x.natAbs]):=by
 refine Yd func130 J ntmps130 J trivial ?_
 intro w0 sc hw hsc
 simp only [Zq,Zp]
 refine Zc<|Zg<|tt (Xa (i:=1) J J J J J hw) J fun b _=>tt (Zl (i:=2) J J zeroValue154 J J hw) J fun b_2 _=>Zf<|Za<|Zc<|Qf (fun _=>False) [(0,0),(1,0),(2,0),(3,0),(4,1),(5,0),(6,3)] ?_ ?_
 ·kernel_rfl
 exact r0' J J (st0 (Xk J J Cm J zT4 J J))<|r0' J J (st0 (Pr (i:=1) J J J iA4 J))<|r0' J J (st0 (Xk J J Cm J zT9 J J))<|r0' J J (st0 (Pr (i:=1) J J J iA9 J))<|r1' J (Zh (n:=3) (Al _ hx) J J J K1 call170 Ze J hw) fun v _=>r0' J J (st0 (Oh (ivs:=[(0,_),(1,_)]) J K4 (fun a w hs=>Ol ((Zb J) a w hs) ((Zx (i:=3) J Zi) a w hs))))<|r3' J (Zn (i:=2) J J J J J (by decide) J Yy J J ⟨Zb J,Zx (i:=3) J Zi,trivial⟩ J hw trivial) fun _ _=>Py<|Za<|Zt<|Yl (.inl J) hsc (_,_) _ (fun a w hs=>Np hs results130 (Yp (i:=2) J J Lg Yy J)) J hs J (Yh 3 J J J J Zk)
theorem Kf(s:Bool)(v:Value)(x:Int)(hs:sg s x)(hx:bl x.natAbs≤4294967296:=by omega):Mv prog 128 #[.agg #[.bool s,v]] [dgp v x.natAbs] (Zcb x):=by
 refine Yd func128 J ntmps128 J K1 ?_
 intro w0 sc hw hsc
 simp only [Zq,Zp]
 refine Zc<|Zg<|tt (Xa (i:=2) J J J J J hw) J fun b _=>tt (Zl (i:=3) J J zeroValue31 J J hw) J fun b_2 _=>as_ J<|Zf<|Za<|Zc<|Zc<|Zg<|dt (Xk J J Mn J Fa J J)<|dt (Pr (i:=2) J J J Fg J)<|tt (Zh (n:=3) (Zg8 _ _) J J J K1 call168 (Zd 1 J J J Ze) J hw) J fun _ _=>dt (Qr J J J)<|Zf<|Za<|Zr J (fun h219=>?_) (fun h219=>?_)
 ·exact Zc<|Zg<|dt (Oh (ivs:=[]) J trivial (fun a w hs=>b31_))<|tt (Zn (i:=3) J J J J J (by decide) J Ye J J ⟨Zb J,Zb J,trivial⟩ J hw trivial) J fun _ _=>as_ J<|Zf<|Za<|Zt<|Ys<|Yl (.inl J) hsc () _ (fun a w hs=>Ns hs results128 (Yp (i:=3) J J Qg Ye J) J) (Zpc h219) trivial J Zk
 ·refine Zj<|Za<|Zc ?_
  cases s
  ·refine Qf (fun _=>False) [(0,0),(1,0),(2,0),(3,2),(4,2),(5,2),(6,2),(7,0),(8,0),(9,0),(10,1),(11,0),(12,3),(13,3)] ?_ ?_
   ·kernel_rfl
   exact r0' J J (st0 (Xk J J Mn J zT4 J J))<|r0' J J (st0 (Pr (i:=2) J J J iA4 J))<|r0' J J (st0 (Yf J J))<|r2 J J J J J J J J<|r2 J J J J J J J J<|r2 J J J J J J J J<|r2 J J J J J J J J<|r0' J J (st0 (Zo J J J))<|r0' J J (st0 (Xk J J Mn J Fa J J))<|r0' J J (st0 (Pr (i:=2) J J J Fg J))<|r1' J (Zh (n:=3) (Zit _ _) J J J K1 call169 (Zd 1 J J J Ze) J hw) fun _ _=>r0' J J (st0 (Oh (ivs:=[(0,_),(1,_)]) J K4 (fun a w hs=>Zto ((Zb J) a w hs) ((Zb J) a w hs))))<|r3' J (Zn (i:=3) J J J J J (by decide) J Ye J J ⟨Zb J,Zb J,trivial⟩ J hw trivial) fun _ _=>r3' J (Qq (Ot J J) J) fun _ _=>Py<|Za<|Zt<|Yl (.inl J) hsc () _ (fun a w hs=>Ns hs results128 (Yp (i:=3) J J Qg Ye J) J) (by first | exact Zls hs h219 | exact Zlr hs h219) trivial J Zk
  ·refine Qf (fun _=>False) [(0,0),(1,0),(2,0),(3,0),(4,0),(5,0),(6,0),(7,0),(8,0),(9,0),(10,1),(11,0),(12,3),(13,3)] ?_ ?_
   ·kernel_rfl
   exact r0' J J (st0 (Xk J J Mn J zT4 J J))<|r0' J J (st0 (Pr (i:=2) J J J iA4 J))<|r0' J J (st0 (Yf J J))<|r0g (st0 (Xk J J Mn J Fa J J)) J J J J J<|r0g (st0 (Pr (i:=2) J J J Fg J)) J J J J J<|r0g (st0 (Yc J J (i:=1) J Zi Xp)) J J J J J<|r0g (st0 (Qr J J J)) J J J J J<|r0' J J (st0 (Yi J J J))<|r0' J J (st0 (Xk J J Mn J Fa J J))<|r0' J J (st0 (Pr (i:=2) J J J Fg J))<|r1' J (Zh (n:=3) (Zit _ _) J J J K1 call169 (Zd 1 J J J Ze) J hw) fun _ _=>r0' J J (st0 (Oh (ivs:=[(0,_),(1,_)]) J K4 (fun a w hs=>Zto ((Zb J) a w hs) ((Zb J) a w hs))))<|r3' J (Zn (i:=3) J J J J J (by decide) J Ye J J ⟨Zb J,Zb J,trivial⟩ J hw trivial) fun _ _=>r3' J (Qq (Ot J J) J) fun _ _=>Py<|Za<|Zt<|Yl (.inl J) hsc () _ (fun a w hs=>Ns hs results128 (Yp (i:=3) J J Qg Ye J) J) (by first | exact Zls hs h219 | exact Zlr hs h219) trivial J Zk
theorem Qn(s t:Bool)(v w:Value)(x y:Int)(hs:sg s x)(ht:sg t y)(hx:bl x.natAbs≤3000000000:=by omega)(hy:bl y.natAbs≤3000000000:=by omega)(hy0:y≠0:=by decide):Cal prog 133 #[.agg #[.bool s,v],.agg #[.bool t,w]] [dgp v x.natAbs,dgp w y.natAbs] true (G:=Bool×Value×Value) (fun r=>sg r.1 (x/y)) (fun r=> .tuple #[.agg #[.bool r.1,r.2.1],.agg #[.bool false,r.2.2]]) (fun r=>[dgp r.2.1 (x/y).natAbs,dgp r.2.2 (x%y).natAbs]):=by
 refine Yd func133 J ntmps133 J K2 ?_
 intro w0 sc hw hsc
 simp only [Zq,Zp]
 have hX:=Ma x.natAbs
 have hY:=Ma y.natAbs
 have hyp:0<y.natAbs:=by omega
 have hrl:x.natAbs%y.natAbs<y.natAbs:=Nat.mod_lt _ hyp
 have hrb:=Nu (Nat.le_of_lt hrl)
 have hqb:=Nu (Nat.div_le_self x.natAbs y.natAbs)
 refine Zc<|Zg<|tt (Xa (i:=3) J J J J J hw) J fun b _=>tt (Xa (i:=4) J J J J J hw) J fun b_2 _=>tt (Zl (i:=5) J J zeroValue154 J J hw) J fun b_3 _=>tt (Zl (i:=6) J J zeroValue154 J J hw) J fun b_4 _=>Zf<|Za<|Zc<|Zg<|dt (Xk J J Mn J Fa J J)<|dt (Pr (i:=3) J J J Fg J)<|dt (Xk J J Mn J Fa J J)<|dt (Pr (i:=4) J J J Fg J)<|tt (Zh (n:=7) (Zrd _ _ _ _ (by omega) (by omega) hyp) J J J K2 call174 (Zd 1 J J J (Zd 2 J J J Ze)) J hw) J fun g _=>mv J<|dt (Ya J J J)<|dt (Ya J J J)<|as_ J<|as_ J<|Zf<|Za<|Zc<|Zc<|Zg<|dt (Xk J J Mn J zT4 J J)<|dt (Pr (i:=3) J J J iA4 J)<|mv J<|Oj (d:=18) J (fun s256=>?_) (fun s256=>?_)
 ·refine gdt (Yf J J) J J<|gdt (Yc J J (i:=8) J Zi Xp) J J<|gdt (Qr J J J) J J<|dt (Yi J J J)<|Zf<|Za<|Zr J (fun h256=>?_) (fun h256=>?_)
  ·subst s256
   have hR0:0<x.natAbs%y.natAbs:=by rcases Nat.eq_zero_or_pos (x.natAbs%y.natAbs)with h | h;(rw [h]at h256;simp [Iu]at h256);exact h
   have hD:=divA hs ht hy0 hR0
   refine Qf (fun _=>False) [(0,0),(3,0),(4,0),(5,0),(1,1),(2,1),(6,1),(7,0),(8,3)] ?_ ?_
   ·kernel_rfl
   refine r0' J J (st0 (Yf J J))<|r0' J J (st0 (Xk J J Mn J Fa J J))<|r0' J J (st0 (Pr (i:=4) J J J Fg J))<|r0' J J (st0 (Yf J J))<|r1' J (Ps (i:=9) (ivs:=[(0,_)]) (enc:=It) (dg U 1) J J K2 Xp ti149 J J J J J pU.cells J J hw) fun v _=>r1' J (Zh (n:=10) (Zre _ _ _ _ (by omega) (show bl 1≤4294967296 by decide)) J J J K2 call171 (Zd 7 J J J (Xw 9 J J pU Ze)) J hw) fun v_2 _=>r1' J (Zh (n:=11) (Zd8 _ _ _ _ (by omega)) J J J K2 call173 (Zd 2 J J J (Zd 8 J J J Ze)) J hw) fun v_3 _=>r0' J J (st0 (Ot J J))<|r3' J (Qq (Ot J J) J) fun _ _=>Py<|Za<|Zc<|Zg<|dt (Xk J J Mn J zT4 J J)<|dt (Pr (i:=3) J J J iA4 J)<|dt (Xk J J Mn J zT4 J J)<|dt (Pr (i:=4) J J J iA4 J)<|dt (Zla J J J uT4)<|mv J<|dt (Oh (ivs:=[(0,_),(1,_)]) J K4 (fun a w hs=>Ol ((Zb J) a w hs) ((Zx (i:=10) J Zi) a w hs)))<|mv J<|dt (Oh (ivs:=[(0,_),(1,_)]) J K4 (fun a w hs=>Ol ((Zb J) a w hs) ((Zx (i:=11) J Zi) a w hs)))<|tt (Zn (i:=5) J J J J J (by decide) J Yy J J ⟨Zb J,Zx (i:=10) J Zi,trivial⟩ J hw trivial) J (fun _ _=>?_)
   exact tt (Zn (i:=6) J J J J J (by decide) J Yy J J ⟨Zb J,Zx (i:=11) J Zi,trivial⟩ J hw trivial) J fun _ _=>Zf<|Za<|Zt<|Yl (.inl J) hsc (_,_,_) _ (fun a w hs=>Ns hs results133 (Yp (i:=5) J J Lg Yy J) (Yp (i:=6) J J Lg Yy J)) J hD.1 J (Yh 10 J J J (by rw [hD.2.1]<;>rfl) (Yh 11 J J J (by rw [hD.2.2]<;>rfl) Zk))
  ·have hD:=divB hs ht hy0 (.inr ((Po Qt _).1 (by omega)))
   exact Zj<|Za<|Zc<|Zg<|dt (Xk J J Mn J zT4 J J)<|dt (Pr (i:=3) J J J iA4 J)<|dt (Xk J J Mn J zT4 J J)<|dt (Pr (i:=4) J J J iA4 J)<|dt (Zla J J J uT4)<|mv J<|dt (Oh (ivs:=[(0,_),(1,_)]) J K4 (fun a w hs=>Ol ((Zb J) a w hs) ((Zx (i:=7) J Zi) a w hs)))<|mv J<|dt (Oh (ivs:=[(0,_),(1,_)]) J K4 (fun a w hs=>Ol ((Zb J) a w hs) ((Zx (i:=8) J Zi) a w hs)))<|tt (Zn (i:=5) J J J J J (by decide) J Yy J J ⟨Zb J,Zx (i:=7) J Zi,trivial⟩ J hw trivial) J fun _ _=>tt (Zn (i:=6) J J J J J (by decide) J Yy J J ⟨Zb J,Zx (i:=8) J Zi,trivial⟩ J hw trivial) J fun _ _=>Zf<|Za<|Zt<|Yl (.inl J) hsc (_,_,_) _ (fun a w hs=>Ns hs results133 (Yp (i:=5) J J Lg Yy J) (Yp (i:=6) J J Lg Yy J)) J hD.1 J (Yh 7 J J J (by rw [hD.2.1]<;>rfl) (Yh 8 J J J (by rw [hD.2.2]<;>rfl) Zk))
 ·have hD:=divB hs ht hy0 (.inl s256)
  exact gsk J J J<|gsk J J J<|gsk J J J<|dt (Zo J J J)<|Zf<|Za<|Zw J<|Zj<|Za<|Zc<|Zg<|dt (Xk J J Mn J zT4 J J)<|dt (Pr (i:=3) J J J iA4 J)<|dt (Xk J J Mn J zT4 J J)<|dt (Pr (i:=4) J J J iA4 J)<|dt (Zla J J J uT4)<|mv J<|dt (Oh (ivs:=[(0,_),(1,_)]) J K4 (fun a w hs=>Ol ((Zb J) a w hs) ((Zx (i:=7) J Zi) a w hs)))<|mv J<|dt (Oh (ivs:=[(0,_),(1,_)]) J K4 (fun a w hs=>Ol ((Zb J) a w hs) ((Zx (i:=8) J Zi) a w hs)))<|tt (Zn (i:=5) J J J J J (by decide) J Yy J J ⟨Zb J,Zx (i:=7) J Zi,trivial⟩ J hw trivial) J fun _ _=>tt (Zn (i:=6) J J J J J (by decide) J Yy J J ⟨Zb J,Zx (i:=8) J Zi,trivial⟩ J hw trivial) J fun _ _=>Zf<|Za<|Zt<|Yl (.inl J) hsc (_,_,_) _ (fun a w hs=>Ns hs results133 (Yp (i:=5) J J Lg Yy J) (Yp (i:=6) J J Lg Yy J)) J hD.1 J (Yh 7 J J J (by rw [hD.2.1]<;>rfl) (Yh 8 J J J (by rw [hD.2.2]<;>rfl) Zk))
end Go.Sky

