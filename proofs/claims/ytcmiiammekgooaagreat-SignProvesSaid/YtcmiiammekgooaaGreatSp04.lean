/- Rules, arithmetic and contracts: part 5. No conditions but those that each theorem names. -/
import Derived.Test.YtcmiiammekgooaaGreatSp03
set_option linter.all false
namespace Go.Sky
open Go.Proofs.Tryz
open Go.Proofs
set_option maxRecDepth 20000
set_option maxHeartbeats 4000000
set_option linter.unusedSimpArgs false
theorem Zy3(v:Value)(xs:List Nat)(hx:xs.length*8≤140737488355328):Ygt prog 200 #[v] [Pw 1 Lk v xs] (G:=Value) (fun r=>True) (fun r=>r) (fun r=>Lf 1 149 Lk r xs):=by
 refine Zxd func200 J ntmps200 J K1 fun w0 sc hw hsc=>?_
 simp only [Zs,Zq]
 refine Mi (f_nil (i:=1) J Zg) fun hnil=>Zb<|Zf<|Zo J<|Zd<|Za<|Zb<|Zb<|Zf<|mv J<|dt (Zwt J J J (i:=1) J Zg Xr)<|Zd<|Za<|Mx J (fun h357=>?_) (fun h357=>?_)
 ·refine Zb<|Zf<|Zo J<|Zd<|Za<|Zp<|Yp ?_
  obtain rfl:xs=[]:=hnil (by simpa using h357)
  exact Qn (Nc 9 1 149 Lk)<|Zns (.inl J) (.slice none 0 0) _ (fun a w hs=>Nr hs results200 J) J trivial J 9 J J J
 ·exact Zl<|Za<|Zb<|Zf<|tt (t_bs0 (i:=2) (enc:=Lk) J J J Xr pU J hw) fun v _=>mv J<|tt (Ho (i:=2) (j:=1) (by_:=8) J J J J J J (by decide) J Zg Xr ti149 J pU J J J (by simp;omega) (by decide) J hw) fun v_2 _=>Zo J<|Zd<|Za<|Zp<|Zns (.inl J) _ _ (fun a w hs=>Nr hs results200 J) J trivial J 2 J (by rfl) J
set_option maxHeartbeats 1600000 in
theorem Zss(h l y:Nat)(hl:l<U)(hy:y<U)(hh:h<y):Od prog 193 #[.int .u64 (h:Int),.int .u64 (l:Int),.int .u64 (y:Int)] [] (.tuple #[.int .u64 (((h*U+l)/y:Nat):Int),.int .u64 (((h*U+l)%y:Nat):Int)]):=by
 refine Yg func193 J ntmps193 J trivial fun w0 sc hw hsc=>?_
 simp only [Zs,Zq]
 have hUe:U=18446744073709551616:=rfl
 have hp:0<y:=by omega
 have hbl:bl y≤64:=(Mj 64 y).2 hy
 obtain⟨s,hs⟩:∃s,s=64-bl y:=⟨_,rfl⟩
 obtain⟨Y,hYe⟩:∃Y,Y=y*2^s:=⟨_,rfl⟩
 obtain⟨hY1,hY2⟩:=Ybp hp hy hs
 rw [←hYe]at hY1 hY2
 have hYU:=hY2
 obtain⟨D,hD⟩:∃D,D=(h*U+l)*2^s:=⟨_,rfl⟩
 obtain⟨u,hue⟩:∃u,u=D/U:=⟨_,rfl⟩
 obtain⟨v,hve⟩:∃v,v=D%U:=⟨_,rfl⟩
 obtain⟨v1,hv1e⟩:∃x,x=v/4294967296:=⟨_,rfl⟩
 obtain⟨v0,hv0e⟩:∃x,x=v%4294967296:=⟨_,rfl⟩
 obtain⟨y1,hy1e⟩:∃x,x=Y/4294967296:=⟨_,rfl⟩
 obtain⟨y0,hy0e⟩:∃x,x=Y%4294967296:=⟨_,rfl⟩
 have hYs:Y=y1*4294967296+y0:=by omega
 have hhs:=shl_lt hh (show y*2^s<U by rw [←hYe];exact hY2)
 have huY:u<Y:=by rw [hue,hD,hYe];exact top_lt hl hh
 have hu:u<y1*4294967296+y0:=by omega
 have hvU:v<U:=by rw [hve];exact Nat.mod_lt _ Po
 have hy1:2147483648≤y1:=by omega
 have hy1l:y1<4294967296:=by omega
 have hy0:y0<4294967296:=by omega
 have hv1:v1<4294967296:=by omega
 have hv0:v0<4294967296:=by omega
 obtain⟨Q1,hQ1⟩:∃x,x=(u*4294967296+v1)/Y:=⟨_,rfl⟩
 obtain⟨t,hte⟩:∃x,x=(u*4294967296+v1)%Y:=⟨_,rfl⟩
 have htY:t<Y:=by rw [hte];exact Nat.mod_lt _ (by omega)
 have ht:t<y1*4294967296+y0:=by omega
 obtain⟨Q0,hQ0⟩:∃x,x=(t*4294967296+v0)/Y:=⟨_,rfl⟩
 have hY0:0<Y:=by omega
 obtain⟨hd1,hd2⟩:=dv_two (D:=D) hY0 hue hve hv1e hv0e
 rw [←hQ1,←hte,←hQ0]at hd1
 rw [←hte]at hd2
 have hQ0l:Q0<4294967296:=by rw [hQ0,hYs];exact dv_Q hv0 ht
 have hQ1l:Q1<4294967296:=by rw [hQ1,hYs];exact dv_Q hv1 hu
 refine Zb<|Zf<|Zo J<|Zo J<|Zd<|Za<|Zb<|Zb<|Zf<|mv J<|dt (Hf K3)<|Zd<|Za<|Zr J (fun h519=>?_) (fun h519=>?_)
 ·exfalso;omega
 ·refine Zl<|Za<|Zb<|Zb<|Zf<|mv J<|mv J<|dt (Ev J J J)<|Zd<|Za<|Zr J (fun h522=>?_) (fun h522=>?_)
  ·exfalso;omega
  ·refine Zl<|Za<|Zb<|Zb<|Zf<|mv J<|dt (Hf K3)<|Zd<|Za<|Zr J (fun h527=>?_) (fun h527=>?_)
   ·refine Zb<|Qj (fun _=>False) [(0,0),(1,0),(2,0),(3,0),(4,0),(5,0),(6,0),(7,3)] ?_ ?_
    ·kernel_rfl
    exact Zh K2 (Yo (Ya K2))<|Zh K2 (Yo (Ya K2))<|Zh K2 (Yo (Zzf J J J))<|Zh K2 (Yo (Ya K2))<|Zh K2 (Yo (Ya K2))<|Zh K2 (Yo (u_rem J J J (by omega)))<|Zh K2 (Yo (Ok J J))<|Qs J (Pu (Ok J J) J) fun _ _=>Pv<|Za<|Zp<|Yp<|Yr (.inl J) hsc () _ (fun a w hs=>Pz hs results193 J J) (by have h0:h=0:=(by omega);rw [h0];simp) trivial J Zm
   ·refine Zl<|Za<|Zb<|Zf<|mv J<|tt (Zy (n:=0) (Zp4 _ hy) K4 call189 Ze J hw) fun _ _=>dt (Yc7 J J uT3 underlying212 (by simp only [U];omega))<|Zo J<|Zd<|Za<|Zb<|Yl (Iq 8 (v':= .int .u64 (s:Int)) J (by rw [hs]))<|Zf<|mv J<|mv J<|dt (Zml J J J J)<|Zo J<|Zd<|Za<|Zb<|Yl (Iq 2 (v':= .int .u64 (Y:Int)) J (by rw [hYe,Nat.mod_eq_of_lt (by rw [←hYe];exact hYU)]))<|Zf<|mv J<|dt (Ez (n:=32) (n':=4294967296) J J J J J)<|Zo J<|Zd<|Za<|Zb<|Zf<|mv J<|dt (Zqd J J J)<|Zo J<|Zd<|Za<|Zb<|Zf<|mv J<|mv J<|dt (Zml J J J J)<|mv J<|mv J<|dt (Zen J J J (by first | exact Nat.mod_lt _ Po | omega))<|dt (Zmk J J (n:=64-s) J (by simp only [U];omega))<|dt (Ydv J J J (Nat.mod_lt _ Po) (Nat.lt_of_le_of_lt (Nat.div_le_self _ _) hl))<|Zo J<|Zd<|Za<|Zb<|Yl (Iq 11 (v':= .int .u64 (u:Int)) J (by rw [hue,hD,Ybg (by omega) hhs hl]))<|Zf<|mv J<|mv J<|dt (Zml J J J J)<|Zo J<|Zd<|Za<|Zb<|Yl (Iq 12 (v':= .int .u64 (v:Int)) J (by rw [hve,hD,Zyi h l s]))<|Zf<|mv J<|dt (Ez (n:=32) (n':=4294967296) J J J J J)<|Zo J<|Zd<|Za<|Zb<|Yl (Iq 13 (v':= .int .u64 (v1:Int)) J (by rw [hv1e]))<|Zf<|mv J ?_
    refine dt (Zqd J J J)<|Zo J<|Zd<|Za<|Zb<|Yl (Iq 14 (v':= .int .u64 (v0:Int)) J (by rw [Zst,hv0e]))<|Yl (Iq 9 (v':= .int .u64 (y1:Int)) J (by rw [hy1e]))<|Yl (Iq 10 (v':= .int .u64 (y0:Int)) J (by rw [Zst,hy0e]))<|Zf<|mv J<|mv J<|dt (Zzf J J J)<|Zo J<|Zd<|Za<|Zb<|Zf<|mv J<|mv J<|mv J<|dt (Bh J J J)<|dt (Zen J J J (by first | exact Nat.mod_lt _ Po | omega))<|Zo J<|Zd<|Za<|Iy [(2,_),(8,_),(9,_),(10,_),(11,_),(13,_),(14,_)] [(0,_)] (fun(_:Unit)=>[(15,.int .u64 ((Q1:Nat):Int))]) (fun(_:Unit)=>[]) (fun(_:Unit)=>True) K7 K1 ?_ ?_
    ·refine Zn<|Yl (Iq 16 (v':= .int .u64 ((u%y1:Nat):Int)) J (by rw [rsub (by omega) (by omega)]))<|Px [(2,_),(8,_),(9,_),(10,_),(11,_),(13,_),(14,_)] [(0,_)] (fun(q:Nat×Nat)=>[(15,.int .u64 (q.1:Int)),(16,.int .u64 (q.2:Int))]) (fun(q:Nat×Nat)=>[]) (fun(q:Nat×Nat)=>(dvI u v1 y1 y0 q.1 q.2)∧(q.2<4294967296)) (fun(q:Nat×Nat)=>q.1) (u/y1,u%y1) ⟨dv0 hy1 hy1l hy0 hv1 hu,Nat.lt_trans (Nat.mod_lt _ (by omega)) hy1l⟩ K9 K1 ?_
     rintro⟨a,r⟩ ⟨hI,hr⟩
     dsimp only at hI hr
     simp only [CA,NA]
     have hI1:=hI.1
     have hI2:=hI.2.1
     refine Zb<|Zb<|Zf<|mv J<|dt (Lh J J J)<|mv J<|Pb (d:=69) J (fun s547=>?_) (fun s547=>?_)
     ·refine Yj K3<|Yj K3<|Yj K3<|Yj K3<|Yj K3<|Yj K3<|Yj K3<|Yj K3<|dt (Om K3)<|Zd<|Za<|Of J<|Zl<|Za<|Zn<|Zb ?_
      have hst:=Zji (by omega) hI hv1 hu (by omega)
      have hst1:=hst.1
      refine Zf<|mv J<|dt (Zen (n:=1) J J J)<|Zo J<|Zd<|Za<|Zb<|Yl (Iq 15 (v':= .int .u64 ((a-1:Nat):Int)) J (Zbv (Zsg hst1 (by omega))))<|Zf<|mv J<|mv J<|dt (Ac J J J)<|Zo J<|Zd<|Za<|Zb<|Yl (Iq 16 (v':= .int .u64 ((r+y1:Nat):Int)) J (Zbv (Nat.mod_eq_of_lt (by omega))))<|Zf<|mv J<|dt (Lh J J J)<|Zd<|Za<|Zr J (fun h550=>?_) (fun h550=>?_)
      ·refine Yt<|Zhh<|Zv<|Pd ?_
       have hq:Q1=a-1:=by rw [hQ1,hYs];exact(Zgy (by omega) hy0 hst.2 (by omega) (by omega)).symm
       exact Xd () trivial ⟨by rw [hq];rfl,rfl,rfl,rfl,rfl,rfl,rfl,rfl,trivial⟩ K1
      ·exact Zl<|Qh<|Xg (a-1,r+y1) ⟨hst.2,by dsimp only;omega⟩ (by first | omega | (dsimp only<;>omega)) K9 K1
     ·have hm1:=Zrl (show a<4294967296 by omega) hy0
      have e1:=Nat.mod_eq_of_lt (show a*y0<U from hm1)
      have e2:=Nat.mod_eq_of_lt (show 4294967296*r<U by omega)
      have e3:=Nat.mod_eq_of_lt (show 4294967296*r+v1<U by omega)
      refine Zx (Ya K2) K2<|Zx (Ya K2) K2<|Zx (Bh J J J) K2<|Zx (Ya K2) K2<|Zx (Bh J J J) K2<|Zx (Ya K2) K2<|Zx (Ac J J J) K2<|Zx (Fd K3) K2<|dt (Ql K3)<|Zd<|Za<|Zr J (fun h547=>?_) (fun h547=>?_)
      ·rw [e1,e2,e3]at h547
       refine Zl<|Za<|Zn<|Zb ?_
       have hst:=Zji (by omega) hI hv1 hu (by omega)
       have hst1:=hst.1
       refine Zf<|mv J<|dt (Zen (n:=1) J J J)<|Zo J<|Zd<|Za<|Zb<|Yl (Iq 15 (v':= .int .u64 ((a-1:Nat):Int)) J (Zbv (Zsg hst1 (by omega))))<|Zf<|mv J<|mv J<|dt (Ac J J J)<|Zo J<|Zd<|Za<|Zb<|Yl (Iq 16 (v':= .int .u64 ((r+y1:Nat):Int)) J (Zbv (Nat.mod_eq_of_lt (by omega))))<|Zf<|mv J<|dt (Lh J J J)<|Zd<|Za<|Zr J (fun h550_2=>?_) (fun h550_2=>?_)
       ·refine Yt<|Zhh<|Zv<|Pd ?_
        have hq:Q1=a-1:=by rw [hQ1,hYs];exact(Zgy (by omega) hy0 hst.2 (by omega) (by omega)).symm
        exact Xd () trivial ⟨by rw [hq];rfl,rfl,rfl,rfl,rfl,rfl,rfl,rfl,trivial⟩ K1
       ·exact Zl<|Qh<|Xg (a-1,r+y1) ⟨hst.2,by dsimp only;omega⟩ (by first | omega | (dsimp only<;>omega)) K9 K1
      ·rw [e1,e2,e3]at h547
       refine Yt<|Zv<|Zv<|Pd ?_
       have hq:Q1=a:=by rw [hQ1,hYs];exact(Zpk (by omega) hI (by omega)).symm
       exact Xd () trivial ⟨by rw [hq];rfl,rfl,rfl,rfl,rfl,rfl,rfl,rfl,trivial⟩ K1
    ·rintro _ -
     simp only [CA,NA]
     refine Zb<|Zf<|mv J<|dt (Bh J J J)<|mv J<|dt (Ac J J J)<|mv J<|mv J<|dt (Bh J J J)<|dt (Zen J J J (by first | exact Nat.mod_lt _ Po | omega))<|Zo J<|Zd<|Za<|Zb<|Yl (Iq 17 (v':= .int .u64 (t:Int)) J (by rw [hte,hQ1,Zwn hY0 hYU]))<|Zf<|mv J<|mv J<|dt (Zzf J J J)<|Zo J<|Zd<|Za<|Zb<|Zf<|mv J<|mv J<|mv J<|dt (Bh J J J)<|dt (Zen J J J (by first | exact Nat.mod_lt _ Po | omega))<|Zo J<|Zd<|Za<|Iy [(2,_),(8,_),(14,_),(15,_),(17,_)] [(0,_)] (fun(_:Unit)=>[(18,.int .u64 ((Q0:Nat):Int))]) (fun(_:Unit)=>[]) (fun(_:Unit)=>True) K5 K1 ?_ ?_
     ·refine Zn<|Yl (Iq 16 (v':= .int .u64 ((t%y1:Nat):Int)) J (by rw [rsub (by omega) (by omega)]))<|Px [(2,_),(8,_),(9,_),(10,_),(14,_),(15,_),(17,_)] [(0,_)] (fun(q:Nat×Nat)=>[(18,.int .u64 (q.1:Int)),(16,.int .u64 (q.2:Int))]) (fun(q:Nat×Nat)=>[]) (fun(q:Nat×Nat)=>(dvI t v0 y1 y0 q.1 q.2)∧(q.2<4294967296)) (fun(q:Nat×Nat)=>q.1) (t/y1,t%y1) ⟨dv0 hy1 hy1l hy0 hv0 ht,Nat.lt_trans (Nat.mod_lt _ (by omega)) hy1l⟩ K9 K1 ?_
      rintro⟨a,r⟩ ⟨hI,hr⟩
      dsimp only at hI hr
      simp only [CA,NA]
      have hI1:=hI.1
      have hI2:=hI.2.1
      refine Zb<|Zb<|Zf<|mv J<|dt (Lh J J J)<|mv J<|Pb (d:=104) J (fun s559=>?_) (fun s559=>?_)
      ·refine Yj K3<|Yj K3<|Yj K3<|Yj K3<|Yj K3<|Yj K3<|Yj K3<|Yj K3<|dt (Om K3)<|Zd<|Za<|Of J<|Zl<|Za<|Zn<|Zb ?_
       have hst:=Zji (by omega) hI hv0 ht (by omega)
       have hst1:=hst.1
       refine Zf<|mv J<|dt (Zen (n:=1) J J J)<|Zo J<|Zd<|Za<|Zb<|Yl (Iq 18 (v':= .int .u64 ((a-1:Nat):Int)) J (Zbv (Zsg hst1 (by omega))))<|Zf<|mv J<|mv J<|dt (Ac J J J)<|Zo J<|Zd<|Za<|Zb<|Yl (Iq 16 (v':= .int .u64 ((r+y1:Nat):Int)) J (Zbv (Nat.mod_eq_of_lt (by omega))))<|Zf<|mv J<|dt (Lh J J J)<|Zd<|Za<|Zr J (fun h562=>?_) (fun h562=>?_)
       ·refine Yt<|Zhh<|Zv<|Pd ?_
        have hq:Q0=a-1:=by rw [hQ0,hYs];exact(Zgy (by omega) hy0 hst.2 (by omega) (by omega)).symm
        exact Xd () trivial ⟨by rw [hq];rfl,rfl,rfl,rfl,rfl,rfl,trivial⟩ K1
       ·exact Zl<|Qh<|Xg (a-1,r+y1) ⟨hst.2,by dsimp only;omega⟩ (by first | omega | (dsimp only<;>omega)) K9 K1
      ·have hm1:=Zrl (show a<4294967296 by omega) hy0
       have e1:=Nat.mod_eq_of_lt (show a*y0<U from hm1)
       have e2:=Nat.mod_eq_of_lt (show 4294967296*r<U by omega)
       have e3:=Nat.mod_eq_of_lt (show 4294967296*r+v0<U by omega)
       refine Zx (Ya K2) K2<|Zx (Ya K2) K2<|Zx (Bh J J J) K2<|Zx (Ya K2) K2<|Zx (Bh J J J) K2<|Zx (Ya K2) K2<|Zx (Ac J J J) K2<|Zx (Fd K3) K2<|dt (Ql K3)<|Zd<|Za<|Zr J (fun h559=>?_) (fun h559=>?_)
       ·rw [e1,e2,e3]at h559
        refine Zl<|Za<|Zn<|Zb ?_
        have hst:=Zji (by omega) hI hv0 ht (by omega)
        have hst1:=hst.1
        refine Zf<|mv J<|dt (Zen (n:=1) J J J)<|Zo J<|Zd<|Za<|Zb<|Yl (Iq 18 (v':= .int .u64 ((a-1:Nat):Int)) J (Zbv (Zsg hst1 (by omega))))<|Zf<|mv J<|mv J<|dt (Ac J J J)<|Zo J<|Zd<|Za<|Zb<|Yl (Iq 16 (v':= .int .u64 ((r+y1:Nat):Int)) J (Zbv (Nat.mod_eq_of_lt (by omega))))<|Zf<|mv J<|dt (Lh J J J)<|Zd<|Za<|Zr J (fun h562_2=>?_) (fun h562_2=>?_)
        ·refine Yt<|Zhh<|Zv<|Pd ?_
         have hq:Q0=a-1:=by rw [hQ0,hYs];exact(Zgy (by omega) hy0 hst.2 (by omega) (by omega)).symm
         exact Xd () trivial ⟨by rw [hq];rfl,rfl,rfl,rfl,rfl,rfl,trivial⟩ K1
        ·exact Zl<|Qh<|Xg (a-1,r+y1) ⟨hst.2,by dsimp only;omega⟩ (by first | omega | (dsimp only<;>omega)) K9 K1
       ·rw [e1,e2,e3]at h559
        refine Yt<|Zv<|Zv<|Pd ?_
        have hq:Q0=a:=by rw [hQ0,hYs];exact(Zpk (by omega) hI (by omega)).symm
        exact Xd () trivial ⟨by rw [hq];rfl,rfl,rfl,rfl,rfl,rfl,trivial⟩ K1
     ·rintro _ -
      simp only [CA,NA]
      refine Zb<|Zf<|mv J<|dt (Bh J J J)<|mv J<|dt (Ac J J J)<|mv J<|dt (Bh J J J)<|mv J<|dt (Ac J J J)<|mv J<|mv J<|dt (Bh J J J)<|dt (Zen J J J (by first | exact Nat.mod_lt _ Po | omega))<|mv J<|dt (Zmk J J J J)<|Zo J<|Zo J<|Zd<|Za<|Zp ?_
      have hA:(Q1*4294967296%U+Q0)%U=(h*U+l)/y:=by rw [←Zms _ y s,←hD,←hYe,hd1];simp only [U];omega
      have hB:((t*4294967296%U+v0)%U+(U-(Q0*Y)%U))%U/2^s=(h*U+l)%y:=by rw [←Zmr _ y s,←hD,←hYe,hd2,hQ0,Zwn hY0 hYU]
      exact Yr (.inl J) hsc () _ (fun a w hs=>Pz hs results193 J J) (by rw [hA,hB]) trivial J Zm
theorem Zyf(v:Value)(x d:Nat)(hx:bl x≤8589934592)(hd:0<d)(hdU:d<U):Cal prog 192 #[v,.int .u64 (d:Int)] [Dj v x] false (G:=Value) (fun r=>True) (fun r=> .tuple #[r,.int .u64 ((x%d:Nat):Int)]) (fun r=>[Dj r (x/d)]):=by
 refine Yg func192 J ntmps192 J K1 fun w0 sc hw hsc=>?_
 simp only [Zs,Zq]
 have hX:=Lt x
 refine Zb<|Zf<|Zo J<|Zo J<|Zd<|Za<|Zb<|Zf<|mv J<|dt (Yc J J (i:=1) J Zg Xr)<|tt (Gh (i:=2) (n:=(dg U x).length) (by_:=8) (enc:=Lk) 0 J J J J Xr ti149 J pU.cells pU.pos J J J hw) fun v _=>Zo J<|Zd<|Za<|Zb<|Zf<|Zo J<|Zd<|Za<|Zb<|Zb<|Zf<|mv J<|dt (Yc J J (i:=1) J Zg Xr)<|dt (Pq K3)<|Zo J<|Zd<|Za<|Zn<|Px [(0,_),(1,_),(6,_)] [(0,_),(1,_)] (fun(q:Nat×List Nat×Nat)=>[(8,.int .i64 ((q.1:Int)-1)),(7,.int .u64 (q.2.2:Int))]) (fun(q:Nat×List Nat×Nat)=>[(2,Lf 1 149 Lk v q.2.1)]) (fun(q:Nat×List Nat×Nat)=>(q.1≤(dg U x).length)∧(q.2.1.length=(dg U x).length)∧(q.2.2<d)∧(∀d∈q.2.1,d<U)∧(Xz U (q.2.1.drop q.1)*d+q.2.2=Xz U ((dg U x).drop q.1))) (fun(q:Nat×List Nat×Nat)=>q.1) ((dg U x).length,List.replicate (dg U x).length 0,0) ⟨Nat.le_refl _,by simp,by first | omega | (dsimp only<;>omega),Mu _ Po,by simp [Xz]⟩ K5 K3 ?_
 rintro⟨k,o,r⟩ ⟨hk,hol,hr,hall,hv⟩
 dsimp only at hk hol hr hall hv
 simp only [CA,NA]
 refine Zb<|Zb<|Zf<|mv J<|dt (Lh J J J)<|Zd<|Za<|Zr J (fun h158=>?_) (fun h158=>?_)
 ·exact Zl<|Za<|Zb<|Zn<|Zf<|mv J<|mv J<|mv J<|mv J<|mv J<|dt (Nj (ii:=1) (i:=k-1) K4 Zg Xr Mh)<|dt (Ms (ii:=1) 0 K3 Zg pU (by first | omega | (simp only [List.length_set];omega)))<|mv J<|tt (Xv (n:=2) (Zss _ _ _ (Pg Po (Lc Pi _) _) hdU hr) J J J K3 call193 Ze J hw) fun _ _=>mv J<|dt (Xa K3)<|dt (Xa K3)<|dt (Nj (ii:=2) (i:=k-1) K4 (Yu pU) Xr Mh)<|tt (Ip (i:=2) (enc:=Lk) _ J J J J J J pU J hw (by decide) (by first | omega | (simp only [List.length_set];omega))) fun _ _=>Zo J<|Zd<|Qh<|Za<|Zf<|mv J<|dt (Pq K3)<|Zo J<|Zd<|Xg (k-1,_,_) ⟨by first | omega | (dsimp only<;>omega),by simp;omega,Nat.mod_lt _ hd,Ib hall _ _ (Zr8 (Pg Po (Lc Pi x) _) hr),Zs5 hd (by omega) (by omega) (by rw [show k-1+1=k by omega];exact hv)⟩ (by first | omega | (dsimp only<;>omega)) ⟨by rw [show(((k-1:Nat):Int)-1)=(k:Int)-1-1 by omega];rfl,rfl,rfl,rfl,rfl,trivial⟩ K3
 ·refine Yt<|Zv<|Zv<|Pd<|Za<|Zb<|Zf<|mv J<|tt (Zy (n:=2) (Nz _ _) K4 call127 (Qk 2 J J pU Ze) J hw) fun _ _=>Qx (Za6 2 J J pU)<|mv J<|Zo J<|Zo J<|Zd<|Za<|Zp ?_
  obtain rfl:k=0:=by omega
  rw [List.drop_zero,List.drop_zero,Lv Pi]at hv
  have hq:tz o=dg U (x/d):=by
   rw [←Iw Pi _ hall,←hv,Nat.mul_comm,Nat.mul_add_div hd,Nat.div_eq_of_lt hr,Nat.add_zero]
  have hm:r=x%d:=by rw [←hv,Nat.mul_comm,Nat.mul_add_mod,Nat.mod_eq_of_lt hr]
  exact Yr (.inl J) hsc _ _ (fun a w hs=>Pz hs results192 J J) (by rw [hm]) trivial J (Ng 2 J J pU hq Zm)
theorem Gj(v:Value)(x s:Nat)(hx:bl x≤4294967296)(hs:s≤4294967296:=by decide):Cal prog 132 #[v,.int .i64 (s:Int)] [Dj v x] false (G:=Value) (fun r=>True) (fun r=>r) (fun r=>[Dj r (x*2^s)]):=by
 refine Yg func132 J ntmps132 J K1 fun w0 sc hw hsc=>?_
 simp only [Zs,Zq]
 obtain⟨w,hwe⟩:∃w,w=s/64:=⟨_,rfl⟩
 obtain⟨b,hbe⟩:∃b,b=s%64:=⟨_,rfl⟩
 have hX:=Lt x
 refine Zb<|Zf<|Zo J<|Zd<|Za<|Zb<|Zb<|Zf<|mv J<|dt (Yc J J (i:=1) J Zg Xr)<|dt (Hf K3)<|Zd<|Za<|Zr J (fun h122=>?_) (fun h122=>?_)
 ·refine Zb<|Zf<|Zo J<|Zd<|Za<|Zp<|Yp<|Qn (Nc 9 1 149 Lk) ?_
  have hx0:x=0:=(Ox Pi x).1 (by omega)
  exact Yr (.inl J) hsc (.slice none 0 0) _ (fun a w hs=>Nr hs results132 J) J trivial J (Ng 9 J J pU (by rw [hx0,Nat.zero_mul];rfl) Zm)
 ·refine Zl<|Za<|Zb<|Zf<|mv J<|dt (Zg5 J J J)<|mv J<|dt (Zli J J J)<|Zo J<|Zo J<|Zd<|Za<|Zb<|Yl (Iq 5 (v':= .int .i64 (w:Int)) J (by congr 1;omega))<|Yl (Iq 6 (v':= .int .i64 (b:Int)) J (by congr 1;omega))<|Zf<|mv J<|dt (Yc J J (i:=1) J Zg Xr)<|mv J<|dt (Ov K3)<|dt (Ov K3)<|tt (Gh (i:=2) (n:=(dg U x).length+w+1) (by_:=8) (enc:=Lk) 0 J J J J Xr ti149 J pU.cells pU.pos J J J hw) fun v _=>Zo J<|Zd<|Za<|Zb<|Zb<|Zf<|mv J<|dt (Yc J J (i:=1) J Zg Xr)<|mv J<|Zd<|Za<|Zn ?_
  refine Px [(5,_),(6,_),(7,_),(23,_),(24,_)] [(0,_),(1,_)] (fun(q:Nat×List Nat)=>[(25,.int .i64 (q.1:Int))]) (fun(q:Nat×List Nat)=>[(2,Lf 1 149 Lk v q.2)]) (fun(q:Nat×List Nat)=>(q.1≤(dg U x).length)∧(q.2.length=(dg U x).length+w+1)∧(q.2.getD (w+q.1) 0<2^b)∧(∀j,w+q.1<j→q.2.getD j 0=0)∧(∀d∈q.2,d<U)∧(Xz U (q.2.take ((dg U x).length+w+1))=Xz U ((dg U x).take q.1)*2^b*U^w)) (fun(q:Nat×List Nat)=>(dg U x).length-q.1) (0,List.replicate ((dg U x).length+w+1) 0) ⟨by first | omega | (dsimp only<;>omega),by simp,by rw [Hg];exact Nat.two_pow_pos b,fun j _=>Hg _ j,Mu _ Po,by rw [List.take_replicate,Fi];simp [Xz]⟩ K6 K3 ?_
  rintro⟨i,o⟩ ⟨hi,hol,hc,hz,hall,hv⟩
  dsimp only at hi hol hc hz hall hv
  simp only [CA,NA]
  have hst:i<(dg U x).length→_:=fun hlt=>Zz4 (xs:=dg U x) (show b≤63 by omega) hol.symm (show w+i+1<_ by omega) hc (hz (w+i+1) (by omega)) (Pg Po (Lc Pi x) i) hv
  refine Zb<|Zf<|dt (Pa K3)<|Zd<|Za<|Zb<|Zr J (fun h127=>?_) (fun h127=>?_)
  ·refine Zl<|Za<|Zb<|Zn<|Zb<|Zf<|mv J<|dt (Nj (ii:=1) K4 Zg Xr Mh J (by first | omega | (simp only [List.length_set];omega)))<|dt (Ms (ii:=1) 0 K3 Zg pU (by first | omega | (simp only [List.length_set];omega)))<|Zo J<|Zo J<|Zd<|Za<|Zb ?_
   have hX1:=Pg Po (Lc Pi x) i
   refine Qj (fun _=>False) [(0,0),(1,0),(2,0),(3,0),(4,0),(5,0),(6,0),(7,0),(8,0),(9,0),(10,0),(11,3)] ?_ ?_
   ·kernel_rfl
   refine Zh K2 (Yo (Ya K2))<|Zh K2 (Yo (Ya K2))<|Zh K2 (Yo (Ya K2))<|Zh K2 (Yo (Ov K3))<|Zh K2 (Yo (Nj (ii:=2) (i:=w+i) K4 (Yu pU) Xr Mh))<|Zh K2 (Yo (Ms (ii:=2) 0 K3 (Yu pU) pU (by first | omega | (simp only [List.length_set];omega))))<|Zh K2 (Yo (Ya K2))<|Zh K2 (Yo (Ya K2))<|Zh K2 (Yo (Zml J J (n:=b) J J))<|Zh K2 (Yo (Ydv J J J (Pg Po hall _) (Nat.mod_lt _ Po)))<|Zh K2 (Yo (Nj (ii:=2) (i:=w+i) K4 (Yu pU) Xr Mh))<|Qs J (Ip (i:=2) (enc:=Lk) _ J J J J J J pU J hw (by decide) (by first | omega | (simp only [List.length_set];omega))) fun _ _=>Pv<|Za<|Zb<|Zf<|mv J<|dt (Fd K3)<|Zd<|Za<|Zr J (fun h129=>?_) (fun h129=>?_)
   ·have hal2:=Ib (Ib hall (w+i) (o.getD (w+i) 0 ||| (dg U x).getD i 0*2^b%U) (Nat.or_lt_two_pow (n:=64) (Pg Po hall _) (Nat.mod_lt _ Po))) (w+i+1) ((dg U x).getD i 0/2^(64-b)) (Nat.lt_of_le_of_lt (Nat.div_le_self _ _) hX1)
    have hc2:((o.set (w+i) (o.getD (w+i) 0 ||| (dg U x).getD i 0*2^b%U)).set (w+i+1) ((dg U x).getD i 0/2^(64-b))).getD (w+i+1) 0<2^b:=by
     rw [Mq _ _ _ _ _ (by simp;omega),if_pos rfl];exact Zfk (by omega) hX1
    have hz2:∀j,w+i+1<j→((o.set (w+i) (o.getD (w+i) 0 ||| (dg U x).getD i 0*2^b%U)).set (w+i+1) ((dg U x).getD i 0/2^(64-b))).getD j 0=0:=fun j hj=>by
     rw [Mq _ _ _ _ _ (by simp;omega),if_neg (by omega),Mq _ _ _ _ _ (by omega),if_neg (by omega)];exact hz j (by omega)
    have hv2:=hst (by omega)
    exact Zf<|mv J<|mv J<|mv J<|dt (Ov K3)<|dt (Ov K3)<|mv J<|mv J<|dt (Pq K3)<|dt (Zmk J J (n:=64-b) J (by omega))<|dt (Nj (ii:=2) (i:=w+i+1) K4 (Yu pU) Xr Mh (by omega) (by simp only [List.length_set];omega))<|tt (Ip (i:=2) (enc:=Lk) _ J J J J J J pU J hw (by decide) (by simp only [List.length_set];omega)) fun _ _=>Zd<|Qh<|Za<|Zf<|dt (Ov K3)<|mv J<|Zd<|Xg (i+1,_) ⟨by first | omega | (dsimp only<;>omega),by simp;omega,by dsimp only;rw [show w+(i+1)=w+i+1 by omega];exact hc2,fun j hj=>by have hj2:w+(i+1)<j:=hj;dsimp only;exact hz2 j (by omega),hal2,hv2⟩ (by first | omega | (dsimp only<;>omega)) K6 K3
   ·obtain rfl:b=0:=by omega
    have hal2:=Ib hall (w+i) (o.getD (w+i) 0 ||| (dg U x).getD i 0*2^0%U) (Nat.or_lt_two_pow (n:=64) (Pg Po hall _) (Nat.mod_lt _ Po))
    have hc2:(o.set (w+i) (o.getD (w+i) 0 ||| (dg U x).getD i 0*2^0%U)).getD (w+i+1) 0<2^0:=by
     rw [Mq _ _ _ _ _ (by omega),if_neg (by omega),hz _ (by omega)];exact Nat.two_pow_pos 0
    have hz2:∀j,w+i+1<j→(o.set (w+i) (o.getD (w+i) 0 ||| (dg U x).getD i 0*2^0%U)).getD j 0=0:=fun j hj=>by
     rw [Mq _ _ _ _ _ (by omega),if_neg (by omega)];exact hz j (by omega)
    have hv2:=hst (by omega)
    rw [show(dg U x).getD i 0/2^(64-0)=0 from Nat.div_eq_of_lt hX1]at hv2
    have hsame:=Zl5 (o.set (w+i) (o.getD (w+i) 0 ||| (dg U x).getD i 0*2^0%U)) (w+i+1) (by rw [Mq _ _ _ _ _ (by omega),if_neg (by omega),hz _ (by omega)])
    rw [hsame]at hv2
    exact Zl<|Qh<|Za<|Zf<|dt (Ov K3)<|mv J<|Zd<|Xg (i+1,_) ⟨by first | omega | (dsimp only<;>omega),by simp;omega,by dsimp only;rw [show w+(i+1)=w+i+1 by omega];exact hc2,fun j hj=>by have hj2:w+(i+1)<j:=hj;dsimp only;exact hz2 j (by omega),hal2,hv2⟩ (by first | omega | (dsimp only<;>omega)) K6 K3
  ·refine Yt<|Zv<|Zv<|Pd<|Za<|Zb<|Zf<|mv J<|tt (Zy (n:=2) (Nz _ _) K4 call127 (Qk 2 J J pU Ze) J hw) fun _ _=>Qx (Za6 2 J J pU)<|Zo J<|Zd<|Za<|Zp ?_
   obtain rfl:i=(dg U x).length:=by omega
   have hx2:tz o=dg U (x*2^s):=by
    rw [←Iw Pi _ hall]
    congr 1
    rw [Lo U o _ (by omega),List.take_of_length_le (Nat.le_refl _),Lv Pi,Zdr,Nat.mul_assoc,←Nat.pow_add,show b+64*w=s by omega]at hv
    exact hv
   exact xG hsc _ results132 J J trivial J (Ng 2 J J pU hx2 Zm)
theorem Ye9(v:Value)(x s:Nat)(hx:bl x≤8589934592)(hs:s≤8589934592):Cal prog 195 #[v,.int .i64 (s:Int)] [Dj v x] false (G:=Value) (fun r=>True) (fun r=>r) (fun r=>[Dj r (x/2^s)]):=by
 refine Yg func195 J ntmps195 J K1 fun w0 sc hw hsc=>?_
 simp only [Zs,Zq]
 obtain⟨w,hwe⟩:∃w,w=s/64:=⟨_,rfl⟩
 obtain⟨b,hbe⟩:∃b,b=s%64:=⟨_,rfl⟩
 have hX:=Lt x
 have hdl:((dg U x).drop w).length=(dg U x).length-w:=List.length_drop
 refine Zb<|Zf<|Zo J<|Zd<|Za<|Zb<|Zf<|mv J<|dt (Zg5 J J J)<|mv J<|dt (Zli J J J)<|Zo J<|Zo J<|Zd<|Za<|Zb<|Zb<|Yl (Iq 5 (v':= .int .i64 (w:Int)) J (by congr 1;omega))<|Yl (Iq 6 (v':= .int .i64 (b:Int)) J (by congr 1;omega))<|Zf<|mv J<|mv J<|dt (Yc J J (i:=1) J Zg Xr)<|dt (Lh J J J)<|Zd<|Za<|Zr J (fun h139=>?_) (fun h139=>?_)
 ·refine Zb<|Zf<|Zo J<|Zd<|Za<|Zp<|Yp<|Qn (Nc 9 1 149 Lk) ?_
  have hx0:x/2^s=0:=by
   rw [Za4 hwe hbe,Nat.div_eq_of_lt ((Qv Pi w x).1 (by omega)),Nat.zero_div]
  exact Yr (.inl J) hsc (.slice none 0 0) _ (fun a w hs=>Nr hs results195 J) J trivial J (Ng 9 J J pU (by rw [hx0];rfl) Zm)
 ·refine Zl<|Za<|Zb<|Zf<|mv J<|mv J<|dt (d_suf (ii:=1) (i:=w) J J J J Zg Xr Mh (by omega) (by omega))<|Qx (s_suf 1 2 (w) J J (by omega))<|tt (Znz (n:=3) (Zy3 _ _ (by simp only [List.length_drop];omega)) J J J K1 call200 (Zi 2 K3 Ze) J hw) fun v _=>Zo J<|Zd<|Za<|Iy [(7,_)] [(0,_),(1,_),(2,_)] (fun(o:List Nat)=>[]) (fun(o:List Nat)=>[(3,Lf 1 149 Lk v o)]) (fun(o:List Nat)=>(o.length=(dg U x).length-w)∧(∀j,j<o.length→o.getD j 0=x/2^s/U^j%U)) K1 K3 ?_ ?_
  ·refine Zb<|Zf<|mv J<|dt (Fd K3)<|Zd<|Za<|Zr J (fun h143=>?_) (fun h143=>?_)
   ·refine Zb<|Zf<|mv J<|dt (Yc J J (i:=3) J (Yu pU) Xr)<|mv J<|Zd<|Za<|Zn<|Px [(0,_),(5,_),(6,_),(7,_),(24,_)] [(0,_),(1,_),(2,_)] (fun(q:Nat×List Nat)=>[(25,.int .i64 (q.1:Int))]) (fun(q:Nat×List Nat)=>[(3,Lf 1 149 Lk v q.2)]) (fun(q:Nat×List Nat)=>(q.1≤(dg U x).length-w)∧(q.2.length=(dg U x).length-w)∧(∀j,j<q.1→q.2.getD j 0=x/2^s/U^j%U)∧(∀j,q.1≤j→q.2.getD j 0=x/U^w/U^j%U)∧(∀d∈q.2,d<U)) (fun(q:Nat×List Nat)=>(dg U x).length-w-q.1) (0,(dg U x).drop w) ⟨Nat.zero_le _,by simp,fun j hj=>absurd hj (Nat.not_lt_zero j),fun j _=>Zwp x w j,fun d hd=>Lc Pi x d (List.mem_of_mem_drop hd)⟩ K6 K4 ?_
    rintro⟨i,o⟩ ⟨hi,hol,hlo,hhi,hall⟩
    dsimp only at hi hol hlo hhi hall
    simp only [CA,NA]
    refine Zb<|Zf<|dt (Pa K3)<|Zd<|Za<|Zb<|Zr J (fun h144=>?_) (fun h144=>?_)
    ·refine Zl<|Za<|Zb<|Zn<|Zb<|Zf<|mv J<|Zo J<|Zd<|Za<|Zb<|Zf<|mv J<|mv J<|dt (Nj (ii:=3) K4 (Yu pU) Xr Mh J (by first | omega | (simp only [List.length_set];omega)))<|dt (Ms (ii:=3) 0 K3 (Yu pU) pU (by first | omega | (simp only [List.length_set];omega)))<|mv J<|dt (Zmk J J (n:=b) J J)<|dt (Nj (ii:=3) K4 (Yu pU) Xr Mh J (by first | omega | (simp only [List.length_set];omega)))<|tt (Ip (i:=3) (enc:=Lk) _ J J J J J J pU J hw (by decide) (by first | omega | (simp only [List.length_set];omega))) fun _ _=>Zd<|Za<|Zb<|Zf<|mv J<|dt (Ov K3)<|mv J<|dt (Yc J J (i:=3) J (Yu pU) Xr)<|dt (Pa K3)<|Zd<|Za<|Zr J (fun h146=>?_) (fun h146=>?_)
     ·simp only [List.length_set]at h146
      have hnew:∀j,((o.set i (o.getD i 0/2^b)).set i ((o.set i (o.getD i 0/2^b)).getD i 0 ||| ((dg U x).getD (w+i+1) 0*2^(64-b))%U)).getD j 0=if i=j then x/2^s/U^i%U else o.getD j 0:=fun j=>by
       rw [Mq _ _ _ _ _ (by simp;omega),Mq _ _ _ _ _ (by omega),Mq _ _ _ _ _ (by omega)]
       split
       ·rw [if_pos rfl,hhi i (Nat.le_refl _),Gy Pi,Za4 hwe hbe,Zsb,show x/U^(w+i+1)=x/U^w/U^i/U by rw [Nat.div_div_eq_div_mul,Nat.div_div_eq_div_mul,←Nat.pow_succ,←Nat.pow_add];rfl,Zql _ _ (by omega)]
       ·rfl
      have hal2:=Ib (Ib hall i (o.getD i 0/2^b) (Nat.lt_of_le_of_lt (Nat.div_le_self _ _) (Pg Po hall _))) i ((o.set i (o.getD i 0/2^b)).getD i 0 ||| ((dg U x).getD (w+i+1) 0*2^(64-b))%U) (Nat.or_lt_two_pow (n:=64) (Pg Po (Ib hall _ _ (Nat.lt_of_le_of_lt (Nat.div_le_self _ _) (Pg Po hall _))) _) (Nat.mod_lt _ Po))
      refine Qj (fun _=>False) [(0,0),(1,0),(2,0),(3,0),(4,0),(5,0),(6,0),(7,0),(8,0),(9,0),(10,0),(11,0),(12,0),(13,0),(14,0),(15,0),(16,3)] ?_ ?_
      ·kernel_rfl
      refine Zh K2 (Yo (Ya K2))<|Zh K2 (Yo (Ya K2))<|Zh K2 (Yo (Nj (ii:=3) K4 (Yu pU) Xr Mh J (by first | omega | (simp only [List.length_set];omega))))<|Zh K2 (Yo (Ms (ii:=3) 0 K3 (Yu pU) pU (by first | omega | (simp only [List.length_set];omega))))<|Zh K2 (Yo (Ya K2))<|Zh K2 (Yo (Ya K2))<|Zh K2 (Yo (Ya K2))<|Zh K2 (Yo (Ov K3))<|Zh K2 (Yo (Ov K3))<|Zh K2 (Yo (Nj (ii:=1) (i:=w+i+1) K4 Zg Xr Mh (by omega) (by first | omega | (simp only [List.length_set];omega))))<|Zh K2 (Yo (Ms (ii:=1) 0 K3 Zg pU (by first | omega | (simp only [List.length_set];omega))))<|Zh K2 (Yo (Ya K2))<|Zh K2 (Yo (Pq K3))<|Zh K2 (Yo (Zml J J (n:=64-b) J (by omega)))<|Zh K2 (Yo (Ydv J J J (Pg Po (Ib hall _ _ (Nat.lt_of_le_of_lt (Nat.div_le_self _ _) (Pg Po hall _))) _) (Nat.mod_lt _ Po)))<|Zh K2 (Yo (Nj (ii:=3) K4 (Yu pU) Xr Mh J (by first | omega | (simp only [List.length_set];omega))))<|Qs J (Ip (i:=3) (enc:=Lk) _ J J J J J J pU J hw (by decide) (by first | omega | (simp only [List.length_set];omega))) fun _ _=>Pv<|Qh<|Za<|Zf<|dt (Ov K3)<|mv J<|Zd ?_
      exact Xg (i+1,_) ⟨by first | omega | (dsimp only<;>omega),by simp;omega,fun j hj=>by dsimp only;rw [hnew j];split;(· rename_i e;rw [←e]);exact hlo j (by have:j<i+1:=hj;omega),fun j hj=>by dsimp only;rw [hnew j,if_neg (by have:i+1≤j:=hj;omega)];exact hhi j (by have:i+1≤j:=hj;omega),hal2⟩ (by first | omega | (dsimp only<;>omega)) K6 K4
     ·have hnew:∀j,(o.set i (o.getD i 0/2^b)).getD j 0=if i=j then x/2^s/U^i%U else o.getD j 0:=fun j=>by
       rw [Mq _ _ _ _ _ (by omega)]
       split
       ·rw [hhi i (Nat.le_refl _),Za4 hwe hbe,Zsb,Zxv _ _ (by omega)]
        rw [Nat.div_div_eq_div_mul,←Nat.pow_succ]
        exact Nat.div_eq_of_lt (Zwb (by simp only [List.length_set]at h146;omega))
       ·rfl
      have hal2:=Ib hall i (o.getD i 0/2^b) (Nat.lt_of_le_of_lt (Nat.div_le_self _ _) (Pg Po hall _))
      exact Zl<|Qh<|Za<|Zf<|dt (Ov K3)<|mv J<|Zd<|Xg (i+1,_) ⟨by first | omega | (dsimp only<;>omega),by simp;omega,fun j hj=>by dsimp only;rw [hnew j];split;(· rename_i e;rw [←e]);exact hlo j (by have:j<i+1:=hj;omega),fun j hj=>by dsimp only;rw [hnew j,if_neg (by have:i+1≤j:=hj;omega)];exact hhi j (by have:i+1≤j:=hj;omega),hal2⟩ (by first | omega | (dsimp only<;>omega)) K6 K4
    ·exact Yt<|Zv<|Zv<|Pd<|Xd _ ⟨by omega,by intro j hj;rw [hlo j (by omega)]⟩ K1 K4
   ·exact Zl<|Xd _ ⟨by simp,by intro j hj;rw [Zwp,Za4 hwe hbe,show b=0 by omega,Nat.pow_zero,Nat.div_one]⟩ K1 K4
  ·rintro o ⟨hol,hv⟩
   simp only [CA,NA]
   refine Zb<|Zf<|mv J<|tt (Zy (n:=3) (Nz _ _) K4 call127 (Qk 3 J J pU Ze) J hw) fun _ _=>Qx (Za6 3 J J pU)<|Zo J<|Zd<|Za<|Zp ?_
   have hx2:tz o=dg U (x/2^s):=Zs1 Pi hv (by rw [hol,Za4 hwe hbe];exact Nat.lt_of_le_of_lt (Nat.div_le_self _ _) (Zwb (by omega)))
   exact xG hsc _ results195 J J trivial J (Ng 3 J J pU hx2 Zm)
theorem Zm7(v:Value)(x:Nat)(hx:bl x≤4294967296:=by omega):Od prog 169 #[v] [Dj v x] (.string (Xk x)):=by
 refine Yg func169 J ntmps169 J K1 fun w0 sc hw hsc=>?_
 simp only [Zs,Zq]
 have hX:=Lt x
 have hL:=Zcd x
 have hW:=lenU x
 have hrl:(List.replicate (dg 256 x).length (0:Nat)).length=(dg 256 x).length:=List.length_replicate
 refine Zb<|Zf<|Zo J<|Zd<|Za<|Zb<|Zf<|mv J<|tt (Zy (n:=1) (Zkx _ _) K4 call168 (Zi 1 K3 Ze) J hw) fun _ _=>dt (Ov K3)<|dt (Zg5 J J J)<|tt (Gh (i:=2) (n:=(dg 256 x).length) (by_:=1) (enc:=Zmc) 0 J J J J Zip ti5 J pB.cells pB.pos J J J hw) fun v _=>Zo J<|Zd<|Za<|Zb<|Zb<|Zf<|mv J<|dt (Yc J J (i:=2) J (Yu pB) Zip)<|mv J<|Zd<|Za<|Zn<|Px [(0,_),(3,_),(12,_)] [(0,_),(1,_)] (fun(q:Nat×List Nat)=>[(13,.int .i64 (q.1:Int))]) (fun(q:Nat×List Nat)=>[(2,Lf 1 5 Zmc v q.2)]) (fun(q:Nat×List Nat)=>(q.1≤(dg 256 x).length)∧(q.2.length=(dg 256 x).length)∧(∀j,j<q.1→q.2.getD j 0=x/256^((dg 256 x).length-1-j)%256)) (fun(q:Nat×List Nat)=>(dg 256 x).length-q.1) (0,List.replicate (dg 256 x).length 0) ⟨by first | omega | (dsimp only<;>omega),by simp,fun j hj=>absurd hj (Nat.not_lt_zero j)⟩ K4 K3 ?_
 rintro⟨i,o⟩ ⟨hi,hol,hov⟩
 dsimp only at hi hol hov
 simp only [CA,NA]
 refine Zb<|Zf<|dt (Pa K3)<|Zd<|Za<|Zb<|Zr J (fun h48=>?_) (fun h48=>?_)
 ·refine Zl<|Za<|Zb<|Zn<|Zb<|Zf<|mv J<|Zo J<|Zd<|Za<|Zb<|Zf<|mv J<|dt (Yc J J (i:=2) J (Yu pB) Zip)<|dt (Pq K3)<|mv J<|dt (Pq K3)<|Zo J<|Zd<|Za<|Yl (Iq 5 (v':= .int .i64 (((dg 256 x).length-1-i:Nat):Int)) J (by congr 1;omega)) ?_
  have hbyte:=Zpy x ((dg 256 x).length-1-i)
  rw [←Gy Pi]at hbyte
  exact Zf<|mv J<|mv J<|mv J<|mv J<|dt (Zg5 J J J)<|dt (Nj (ii:=1) (i:=((dg 256 x).length-1-i)/8) K4 Zg Xr Mh)<|dt (Ms (ii:=1) 0 K3 Zg pU)<|mv J<|dt (Zli J J J)<|dt (Eu J J J)<|dt (Zmk J J (n:=((dg 256 x).length-1-i)%8*8) J (by omega))<|dt (Zex J J Zcx uT5)<|dt (Nj (ii:=2) K4 (Yu pB) Zip sizeOf5 J (by first | omega | (simp only [List.length_set];omega)))<|tt (Ip (i:=2) (enc:=Zmc) _ J J J J J J pB J hw (by decide) (by first | omega | (simp only [List.length_set];omega))) fun _ _=>Zd<|Qh<|Za<|Zf<|dt (Ov K3)<|mv J<|Zd<|Xg (i+1,_) ⟨by first | omega | (dsimp only<;>omega),by simp;omega,fun j hj=>by dsimp only;rw [Mq _ _ _ _ _ (by omega)];split;(· rename_i e;rw [←e];exact hbyte);exact hov j (by omega)⟩ (by first | omega | (dsimp only<;>omega)) K4 K3
 ·refine Yt<|Zv<|Zv<|Pd<|Za<|Zb<|Zf<|mv J<|dt (d_b2s J J (i:=2) J (Yu pB) Zip uT9 uT5)<|Zo J<|Zd<|Za<|Zp ?_
  have hb:Xk x=⟨(o.map UInt8.ofNat).toArray⟩:=by
   have ho:o=(dg 256 x).reverse:=by
    refine Zfi (by simp;omega) (fun j hj=>?_)
    rw [hov j (by omega),Zo9 _ _ _ (by omega),Gy (by omega)]
   rw [ho];rfl
  exact xU hsc results169 J J (by rw [hb])
theorem Zdt(x:Nat)(hx:bl x≤4294967296:=by omega):Cal prog 170 #[.string (Xk x)] [] false (G:=Value) (fun r=>True) (fun r=>r) (fun r=>[Dj r x]):=by
 refine Yg func170 J ntmps170 J trivial fun w0 sc hw hsc=>?_
 simp only [Zs,Zq]
 have hX:=Lt x
 have hL:=Zcd x
 have hW:=lenU x
 have hbs:=Kr x
 refine Zb<|Zf<|Zo J<|Zd<|Za<|Zb<|Zf<|mv J<|dt (Dk J J uT9)<|dt (Ov K3)<|dt (Zg5 J J J)<|tt (Gh (i:=1) (n:=(dg U x).length) (by_:=8) (enc:=Lk) 0 J J J J Xr ti149 J pU.cells pU.pos J J J hw) fun v _=>Zo J<|Zd<|Za<|Zb<|Zb<|Zf<|mv J<|dt (Dk J J uT9)<|mv J<|Zd<|Za<|Zn<|Px [(0,_),(3,_),(12,_)] [(0,_)] (fun(q:Nat×List Nat)=>[(13,.int .i64 (q.1:Int))]) (fun(q:Nat×List Nat)=>[(1,Lf 1 149 Lk v q.2)]) (fun(q:Nat×List Nat)=>(q.1≤(dg 256 x).length)∧(q.2.length=(dg U x).length)∧(∀w,w<q.2.length→q.2.getD w 0=hi x ((dg 256 x).length-q.1) w)) (fun(q:Nat×List Nat)=>(dg 256 x).length-q.1) (0,List.replicate (dg U x).length 0) ⟨by first | omega | (dsimp only<;>omega),by simp,fun w hw=>by dsimp only at *;rw [List.length_replicate]at hw;rw [Hg,hi_top (by omega)]⟩ K4 K2 ?_
 rintro⟨i,o⟩ ⟨hik,hol,hov⟩
 dsimp only at hik hol hov
 simp only [CA,NA]
 refine Zb<|Zf<|dt (Pa K3)<|Zd<|Za<|Zb<|Zr J (fun h30=>?_) (fun h30=>?_)
 ·refine Zl<|Za<|Zb<|Zn<|Zb<|Zf<|mv J<|Zo J<|Zd<|Za<|Zb<|Zf<|mv J<|dt (Dk J J uT9)<|dt (Pq K3)<|mv J<|dt (Pq K3)<|Zo J<|Zd<|Za<|Yl (Iq 5 (v':= .int .i64 (((dg 256 x).length-1-i:Nat):Int)) J (by congr 1;omega)) ?_
  have hget:=Zhc x i (by omega)
  have hw0:=hov (((dg 256 x).length-1-i)/8) (by omega)
  have hlt1:o.getD (((dg 256 x).length-1-i)/8) 0<U:=by rw [hw0];exact Nat.mod_lt _ Po
  have hset:∀w,w<o.length→(o.set (((dg 256 x).length-1-i)/8) (o.getD (((dg 256 x).length-1-i)/8) 0 ||| (((Xk x).data.toList.getD i 0).toNat*2^(((dg 256 x).length-1-i)%8*8))%U)).getD w 0=hi x ((dg 256 x).length-(i+1)) w:=fun w hw=>by
   rw [hget,hw0,show(dg 256 x).length-i=(dg 256 x).length-1-i+1 by omega,Yfi,Mq _ _ _ _ _ (by omega),show(dg 256 x).length-(i+1)=(dg 256 x).length-1-i by omega]
   split
   ·rename_i e;rw [e]
   ·rename_i e;rw [hov w hw,show(dg 256 x).length-i=(dg 256 x).length-1-i+1 by omega];exact Ycj e
  refine Qj (fun _=>False) [(0,0),(1,0),(2,0),(3,0),(4,0),(5,0),(6,0),(7,0),(8,0),(9,0),(10,0),(11,0),(12,0),(13,0),(14,0),(15,3)] ?_ ?_
  ·kernel_rfl
  exact Zh K2 (Yo (Ya K2))<|Zh K2 (Yo (Ya K2))<|Zh K2 (Yo (Zg5 J J J))<|Zh K2 (Yo (Nj (ii:=1) (i:=((dg 256 x).length-1-i)/8) K4 (Yu pU) Xr Mh))<|Zh K2 (Yo (Ms (ii:=1) 0 K3 (Yu pU) pU (by first | omega | (simp only [List.length_set];omega))))<|Zh K2 (Yo (Ya K2))<|Zh K2 (Yo (Ya K2))<|Zh K2 (Yo (Znk J J J uT9 J))<|Zh K2 (Yo (Yc7 J J uT5 Zcx (by have:=(((Xk x).data.toList.getD i 0).toNat_lt);simp only [U];omega)))<|Zh K2 (Yo (Ya K2))<|Zh K2 (Yo (Zli J J J))<|Zh K2 (Yo (Eu J J J))<|Zh K2 (Yo (Zml J J (n:=((dg 256 x).length-1-i)%8*8) J (by omega)))<|Zh K2 (Yo (Ydv J J J (hlt1) (Nat.mod_lt _ Po)))<|Zh K2 (Yo (Nj (ii:=1) (i:=((dg 256 x).length-1-i)/8) K4 (Yu pU) Xr Mh))<|Qs J (Ip (i:=1) (enc:=Lk) _ J J J J J J pU J hw (by decide) (by first | omega | (simp only [List.length_set];omega))) fun _ _=>Pv<|Qh<|Za<|Zf<|dt (Ov K3)<|mv J<|Zd<|Xg (i+1,_) ⟨by first | omega | (dsimp only<;>omega),by simp;omega,fun w hw=>hset w (by simpa using hw)⟩ (by first | omega | (dsimp only<;>omega)) K4 K2
 ·refine Yt<|Zv<|Zv<|Pd<|Za<|Zb<|Zf<|mv J<|Zo J<|Zd<|Za<|Zp ?_
  have ho:o=dg U x:=Zfi hol (fun j hj=>by rw [hov j hj,Gy Pi,Ycl (by omega)])
  exact xG hsc _ results170 J J trivial J (Ng 1 J J pU ho Zm)
set_option maxHeartbeats 2000000 in
theorem Zv3(v w:Value)(x y:Nat)(hx:bl x≤4000000000)(hy0:bl y≤4000000000)(hy:0<y):Cal prog 174 #[v,w] [Dj v x,Dj w y] true (G:=Value×Value) (fun r=>True) (fun r=> .tuple #[r.1,r.2]) (fun r=>[Dj r.1 (x/y),Dj r.2 (x%y)]):=by
 refine Yg func174 J ntmps174 J K2 fun w0 sc hw hsc=>?_
 simp only [Zs,Zq]
 have hX:=Lt x
 have hY:=Lt y
 refine Zb<|Zf<|Zo J<|Zo J<|Zd<|Za<|Zb<|Zb<|Zf<|mv J<|mv J<|tt (Yf (n:=2) (Zdb _ _ _ _ (by omega) (by omega)) K5 call172 (Zi 1 K3 (Zi 2 K3 Ze)) J hw) fun r hr=>dt (Pa K3)<|Zd<|Za<|Zr J (fun h166=>?_) (fun h166=>?_)
 ·have hlt:x<y:=hr.1.1 (by omega)
  exact Zb<|Zf<|mv J<|Zo J<|Zo J<|Zd<|Za<|Zp<|Yp<|Qn (Nc 9 1 149 Lk)<|Yr (.inl J) hsc (.slice none 0 0,v) _ (fun a w hs=>Pz hs results174 J J) J trivial J (Ng 9 J J pU (by rw [Nat.div_eq_of_lt hlt];rfl) (Lg 1 K3 (by rw [Nat.mod_eq_of_lt hlt]) Zm))
 ·have hge:y≤x:=by have:=hr.1;omega
  have hly:=Nu hge
  refine Zl<|Za<|Zb<|Zb<|Zf<|mv J<|dt (Yc J J (i:=2) J Zg Xr)<|dt (Hf K3)<|Zd<|Za<|Zr J (fun h169=>?_) (fun h169=>?_)
  ·have hyU:y<U:=by have:=(Qv Pi 1 y).1 (by omega);simpa using this
   have hd0:(dg U y).getD 0 0=y:=by rw [Gy Pi];simp [Nat.mod_eq_of_lt hyU]
   exact Zb<|Zf<|mv J<|mv J<|dt (Nj (ii:=2) (i:=0) K4 Zg Xr Mh J)<|dt (Ms (ii:=2) 0 K3 Zg pU (by first | omega | (simp only [List.length_set];omega)))<|tt (Yf (n:=3) (Zyf _ _ _ (by omega) (by rw [hd0];exact hy) (by rw [hd0];exact hyU)) K5 call192 (Zi 1 K3 Ze) J hw) fun v _=>mv J<|dt (Xa K3)<|dt (Xa K3)<|Zo J<|Zo J<|Zd<|Za<|Zb<|Zf<|mv J<|mv J<|tt (Kp (i:=4) (ivs:=[(0,_)]) (enc:=Lk) [x%(dg U y).getD 0 0] K4 Xr ti149 K5 pU.cells K2 hw) fun v_2 _=>tt (Zy (n:=4) (Nz _ _) K4 call127 (Qk 4 J J pU Ze) J hw) fun _ _=>Qx (Za6 4 J J pU)<|Zo J<|Zo J<|Zd<|Za<|Zp<|Yp<|Yr (.inl J) hsc (_,_) _ (fun a w hs=>Pz hs results174 J J) J trivial J (Lg 3 K3 (by rw [hd0];rfl) (Ng 4 J J pU (by rw [Zhk (Nat.lt_trans (Nat.mod_lt _ (by rw [hd0];exact hy)) (by rw [hd0];exact hyU)),hd0]) Zm))
  ·refine Zl<|Za<|Zb ?_
   obtain⟨k,hk⟩:∃k,k=(dg U y).length:=⟨_,rfl⟩
   have hkx:k≤(dg U x).length:=by omega
   obtain⟨b,hb⟩:∃b,b=64-bl ((dg U y).getD (k-1) 0):=⟨_,rfl⟩
   obtain⟨hkD0,_,hk1,hDk0,hb63,hD630⟩:=Ye6 hy hk hb
   obtain⟨D,hDe⟩:∃D,D=y*2^b:=⟨_,rfl⟩
   have hkD:(dg U D).length=k:=by rw [hDe];exact hkD0
   have hDk:D<U^k:=by rw [hDe];exact hDk0
   have hD63:U^(k-1)*9223372036854775808≤D:=by rw [hDe];exact hD630
   have hD0:0<D:=by rw [hDe];exact Nat.mul_pos hy (Nat.two_pow_pos b)
   have hDb:bl D≤4000000064:=by rw [hDe,Zud _ _ hy];omega
   refine Zf<|mv J<|mv J<|dt (Yc J J (i:=2) J Zg Xr)<|dt (Pq K3)<|dt (Nj (ii:=2) (i:=(dg U y).length-1) K4 Zg Xr Mh)<|dt (Ms (ii:=2) 0 K3 Zg pU (by first | omega | (simp only [List.length_set];omega)))<|tt (Zy (n:=4) (Zp4 _ (Pg Po (Lc Pi y) _)) K4 call189 Ze J hw) fun _ _=>Qx (Iq 44 (v':= .int .i64 (b:Int)) J (by rw [hb,hk]))<|Zo J<|Zd<|Za<|Iy [(0,_),(8,_)] [(0,_),(1,_),(2,_)] (fun(q:Value×Value)=>[(9,q.1),(10,q.2)]) (fun(q:Value×Value)=>[(81,Dj q.1 D),(82,Lf 1 149 Lk q.2 (List.replicate ((dg U x).length+1) 0))]) (fun(q:Value×Value)=>True) K2 K3 ?_ ?_
   ·refine Fy (fun _=>False) [8]<|Zw (n:=4) [(0,0),(1,0),(3,0),(4,0),(5,0)]<|Zh K2 (Yo (Ya K2))<|Zh K2 (Yo (Ya K2))<|Zh K2 (Yo (Ya K2))<|Zh K2 (Yo (Yc J J (i:=1) J Zg Xr))<|Zh K2 (Yo (Ov K3))<|Yi<|Qg (n:=3) 2 6 ?_ ?_
    ·exact Yd J (Yf (n:=81) (Gj _ _ _ (by omega) (by omega)) K5 call132 (Zi 2 K3 Ze) J hw) fun v_3 _=>Zw (n:=0) [(7,0),(6,1),(8,3)]<|Zh K2 (Yo (Ok J J))<|Yq J (Gh (i:=82) (n:=(dg U x).length+1) (by_:=8) (enc:=Lk) 0 J J J J Xr ti149 J pU.cells pU.pos J J J hw) fun v_4 _=>Qs J (Pu (Ok J J) J) fun _ _=>Yi<|Yh<|Xd (_,_) trivial K4 ⟨by rw [hDe];rfl,rfl,rfl,rfl,rfl,trivial⟩
    ·exact Yd J (Gh (i:=82) (n:=(dg U x).length+1) (by_:=8) (enc:=Lk) 0 J J J J Xr ti149 J pU.cells pU.pos J J J hw) fun v_5 _=>Zw (n:=0) [(2,1),(7,0),(8,3)]<|Yq J (Yf (n:=81) (Gj _ _ _ (by omega) (by omega)) K5 call132 (Zi 2 K3 Ze) J hw) fun v_6 _=>Zh K2 (Yo (Ok J J))<|Qs J (Pu (Ok J J) J) fun _ _=>Yi<|Yh<|Xd (_,_) trivial K4 ⟨by rw [hDe];rfl,rfl,rfl,rfl,rfl,trivial⟩
   ·rintro⟨vd,vr⟩ -
    simp only [CA,NA]
    refine Zb ?_
    have hnl:(dg U (x*2^b)).length≤(dg U x).length+1:=(Qv Pi _ _).2 (by rw [Nat.pow_succ];exact Nat.mul_lt_mul_of_lt_of_le ((Qv Pi _ x).1 (Nat.le_refl _)) (by rw [Ydo];exact Nat.pow_le_pow_right (by omega) (by omega)) Po)
    refine Zf<|mv J<|mv J<|mv J<|tt (Yf (n:=5) (Gj _ _ _ (by omega) (by omega)) K5 call132 (Zi 1 K3 Ze) J hw) fun v_7 _=>tt (t_cpy (i:=82) (j:=5) 0 J J J J J J (by decide) J Zg (Ycx _ _ _) (by rw [List.length_replicate];exact hnl) (by rw [List.length_replicate];omega) (by rw [List.length_replicate];omega) Xr pU J hw) fun _ _=>Zd<|Za<|Zb ?_
    have hR0l:(spl (List.replicate ((dg U x).length+1) 0) 0 (dg U (x*2^b))).length=(dg U x).length+1:=by rw [Hu _ _ _ (by rw [List.length_replicate];omega),List.length_replicate]
    refine Zf<|mv J<|dt (Yc J J (i:=81) J Zg Xr)<|Zo J<|Zd<|Za<|Zb ?_
    have hql0:(List.replicate ((dg U x).length+1-k) (0:Nat)).length=(dg U x).length+1-k:=List.length_replicate
    refine Yl (Iq 11 (v':= .int .i64 (k:Int)) J (by rw [hkD]))<|Zf<|mv J<|dt (Yc J J (i:=82) J (Yu pU) Xr)<|mv J<|dt (Pq K3)<|tt (Gh (i:=6) (n:=(dg U x).length+1-k) (by_:=8) (enc:=Lk) 0 J J J J Xr ti149 J pU.cells pU.pos J J J hw) fun v_8 _=>Zo J<|Zd<|Za<|Zb<|Zb<|Zf<|mv J<|dt (Yc J J (i:=6) J (Yu pU) Xr)<|dt (Pq K3)<|Zo J<|Zd<|Za<|Zn ?_
    refine Px [(8,_),(9,_),(10,_),(11,_),(12,_)] [(0,_),(81,_),(1,_),(2,_),(5,_)] (fun(q:Nat×List Nat×List Nat)=>[(13,.int .i64 ((q.1:Int)-1))]) (fun(q:Nat×List Nat×List Nat)=>[(82,Lf 1 149 Lk vr q.2.1),(6,Lf 1 149 Lk v_8 q.2.2)]) (fun(q:Nat×List Nat×List Nat)=>(q.1≤(dg U x).length+1-k)∧(q.2.1.length=(dg U x).length+1)∧(∀d∈q.2.1,d<U)∧(q.2.2.length=(dg U x).length+1-k)∧(∀d∈q.2.2,d<U)∧(Xz U q.2.1<D*U^q.1)∧(Xz U (q.2.2.drop q.1)*U^q.1*D+Xz U q.2.1=x*2^b)) (fun(q:Nat×List Nat×List Nat)=>q.1) ((dg U x).length+1-k,spl (List.replicate ((dg U x).length+1) 0) 0 (dg U (x*2^b)),List.replicate ((dg U x).length+1-k) 0) ⟨Nat.le_refl _,hR0l,Zp6 (Mu _ Po) (Lc Pi _) 0,by simp,Mu _ Po,by rw [Zqc,Lv Pi];exact Yc1 ((Qv Pi _ x).1 (Nat.le_refl _)) hb63 hk1 (by omega) hD63,by rw [Zqc,Lv Pi];simp [Xz]⟩ ⟨by rw [List.length_replicate];rfl,rfl,rfl,rfl,rfl,rfl,trivial⟩ K7 ?_
    rintro⟨jj,R,q⟩ ⟨hj,hRl,hRa,hql,hqa,hV,hN⟩
    dsimp only at hj hRl hRa hql hqa hV hN
    simp only [CA,NA]
    refine Zb<|Zb<|Zf<|mv J<|dt (Lh J J J)<|Zd<|Za<|Zr J (fun h179=>?_) (fun h179=>?_)
    ·refine Zl<|Za<|Zb<|Zn<|Zb ?_
     have hW1:Xz U R<U^(jj-1+k+1):=by
      refine Nat.lt_of_lt_of_le hV ?_
      rw [show jj-1+k+1=k+jj by omega,Nat.pow_add]
      exact Nat.mul_le_mul_right _ (Nat.le_of_lt hDk)
     have hWz:tz ((R.drop (jj-1)).take (jj-1+k+1-(jj-1)))=dg U (Xz U R/U^(jj-1)):=Yds hRa (by omega) (by rw [show jj-1+(jj-1+k+1-(jj-1))=jj-1+k+1 by omega];exact hW1)
     have hWD:Xz U R/U^(jj-1)<D*U:=by
      rw [Nat.div_lt_iff_lt_mul (Nat.pow_pos Po),Nat.mul_assoc,←Nat.pow_succ',show(jj-1).succ=jj by omega];exact hV
     have hWb:bl (Xz U R/U^(jj-1))≤4294967296:=by
      have h1:=Nu (Nat.le_of_lt hWD)
      have h2:=Zlt D U
      have h3:bl U≤65:=(Mj 65 U).2 (by simp [U])
      omega
     have htop:=Yd0 hRa (j:=jj-1) hk1 hW1 (by omega)
     have hDt:(dg U D).getD (k-1) 0*U^(k-1)≤D:=by
      rw [Gy Pi];exact Nat.le_trans (Nat.mul_le_mul_right _ (Nat.mod_le _ _)) (Nat.div_mul_le_self _ _)
     have hQU:Xz U R/U^(jj-1)/D≤18446744073709551615:=by
      have:=(Nat.div_lt_iff_lt_mul hD0).2 (show _<U*D by rw [Nat.mul_comm];exact hWD)
      simp only [U]at this ⊢;omega
     refine Zf<|Zo J<|Zd<|Za<|Iy [(8,_),(9,_),(10,_),(11,_),(12,_),(13,_)] [(0,_),(82,_),(6,_),(81,_),(1,_),(2,_),(5,_)] (fun(g:Nat)=>[(14,.int .u64 (g:Int))]) (fun(g:Nat)=>[]) (fun(g:Nat)=>(Xz U R/U^(jj-1)/D≤g)∧(g<U)) K6 K7 ?_ ?_
     ·refine Zb<|Qj (fun _=>False) [(0,0),(1,0),(2,0),(3,0),(4,0),(5,0),(6,0),(7,0),(8,0),(9,0),(10,0),(11,0)] ?_ ?_
      ·kernel_rfl
      refine Zh K2 (Yo (Ya K2))<|Zh K2 (Yo (Ya K2))<|Zh K2 (Yo (Ya K2))<|Zh K2 (Yo (Ov K3))<|Zh K2 (Yo (Nj (ii:=82) (i:=jj-1+k) K4 (Yu pU) Xr Mh))<|Zh K2 (Yo (Ms (ii:=82) 0 K3 (Yu pU) pU (by first | omega | (simp only [List.length_set];omega))))<|Zh K2 (Yo (Ya K2))<|Zh K2 (Yo (Ya K2))<|Zh K2 (Yo (Pq K3))<|Zh K2 (Yo (Nj (ii:=81) (i:=k-1) K4 Zg Xr Mh))<|Zh K2 (Yo (Ms (ii:=81) 0 K3 Zg pU (by first | omega | (simp only [List.length_set];omega))))<|Zh K2 (Yo (Pa K3))<|Pv<|Za<|Zr J (fun h182=>?_) (fun h182=>?_)
      ·refine Qj (fun _=>False) [(0,0),(1,0),(2,0),(3,0),(4,0),(5,0),(6,0),(7,0),(8,0),(9,0),(10,0),(11,0),(12,0),(13,0),(14,0),(15,0),(16,0),(17,0),(18,1),(19,0),(20,0),(21,0),(22,0)] ?_ ?_
       ·kernel_rfl
       exact Zh K2 (Yo (Ya K2))<|Zh K2 (Yo (Ya K2))<|Zh K2 (Yo (Ya K2))<|Zh K2 (Yo (Ov K3))<|Zh K2 (Yo (Nj (ii:=82) (i:=jj-1+k) K4 (Yu pU) Xr Mh))<|Zh K2 (Yo (Ms (ii:=82) 0 K3 (Yu pU) pU (by first | omega | (simp only [List.length_set];omega))))<|Zh K2 (Yo (Ya K2))<|Zh K2 (Yo (Ya K2))<|Zh K2 (Yo (Ya K2))<|Zh K2 (Yo (Ov K3))<|Zh K2 (Yo (Pq K3))<|Zh K2 (Yo (Nj (ii:=82) (i:=jj-1+k-1) K4 (Yu pU) Xr Mh))<|Zh K2 (Yo (Ms (ii:=82) 0 K3 (Yu pU) pU (by first | omega | (simp only [List.length_set];omega))))<|Zh K2 (Yo (Ya K2))<|Zh K2 (Yo (Ya K2))<|Zh K2 (Yo (Pq K3))<|Zh K2 (Yo (Nj (ii:=81) (i:=k-1) K4 Zg Xr Mh))<|Zh K2 (Yo (Ms (ii:=81) 0 K3 Zg pU (by first | omega | (simp only [List.length_set];omega))))<|Yq J (Xv (n:=6) (Zss _ _ _ (Pg Po hRa _) (Pg Po (Lc Pi _) _) (by omega)) J J J K3 call193 Ze J hw) fun _ _=>Zh K2 (Yo (Ya K2))<|Zh K2 (Yo (Xa K3))<|Zh K2 (Yo (Xa K3))<|Zh K2 (Yo (Ok J J))<|Pv<|Xd _ ⟨Ycm hDt (by omega) htop,Zr8 (Pg Po hRa _) (by omega)⟩ K7 K7
      ·exact Zl<|Xd 18446744073709551615 ⟨hQU,by decide⟩ K7 K7
     ·rintro g ⟨hg,hgU⟩
      simp only [CA,NA]
      refine Zb<|Zf<|mv J<|mv J<|mv J<|mv J<|dt (Ov K3)<|dt (Ov K3)<|dt (d_mid (ii:=82) (i:=jj-1) (j:=jj-1+k+1) J J J J J (Yu pU) Xr Mh (by omega) (by omega) (by omega) (by omega))<|Zo J<|Zd<|Za<|Zb<|Zf<|mv J<|mv J<|tt (Kp (i:=7) (ivs:=[(0,_)]) (enc:=Lk) [g] K4 Xr ti149 K5 pU.cells K2 hw) fun v_9 _=>tt (Zy (n:=7) (Nz _ _) K4 call127 (Qk 7 J J pU Ze) J hw) fun _ _=>Qx (Za6 7 J J pU)<|Qx (Zeo 7 (Zhk hgU) J J)<|tt (Yf (n:=83) (Zv2 _ _ _ _ (by omega) (Nat.le_trans ((Mj 64 g).2 hgU) (by omega))) K5 call194 (Zi 81 K3 (Qk 7 J J pU Ze)) J hw) fun v_10 _=>Zo J<|Zd<|Za<|Zb<|Zn<|Px [(8,_),(9,_),(10,_),(11,_),(12,_),(13,_),(15,_)] [(0,_),(82,_),(6,_),(81,_),(1,_),(2,_),(5,_),(7,_)] (fun(q:Nat×Value)=>[(14,.int .u64 (q.1:Int)),(16,q.2)]) (fun(q:Nat×Value)=>[(83,Dj q.2 (D*q.1))]) (fun(q:Nat×Value)=>(Xz U R/U^(jj-1)/D≤q.1)∧(q.1<U)) (fun(q:Nat×Value)=>q.1) (g,_) ⟨by first | omega | (dsimp only<;>omega),by first | omega | (dsimp only<;>omega)⟩ K9 K9 ?_
      rintro⟨g,vp⟩ ⟨hg,hgU⟩
      dsimp only at hg hgU
      simp only [CA,NA]
      have hPb:bl (D*g)≤4294967296:=by have h1:=Zlt D g;have h2:=(Mj 64 g).2 hgU;omega
      refine Zb<|Zb<|Zf<|mv J<|tt (Zy (n:=7) (Nz _ _) K4 call127 (Zd5 82 J J pU (Zi7 (jj-1) (jj-1+k+1)) (Zjn _ _ _ _) Ze) J hw) fun _ _=>mv J<|tt (Yf (n:=7) (Zdb _ _ _ _ hWb hPb) K5 call172 (Zd5 82 J J pU (Yai hWz (by rw [hWz]) (Zi7 (jj-1) (jj-1+k+1))) (by rw [Lr];exact(Zjn _ _ _ _)) (Zi 83 K3 Ze)) J hw) fun r_2 hr_2=>dt (Pa K3)<|Zd<|Za<|Zr J (fun h187=>?_) (fun h187=>?_)
      ·have hlt:Xz U R/U^(jj-1)<D*g:=hr_2.1.1 (by omega)
       have hg1:1≤g:=by rcases Nat.eq_zero_or_pos g with h | h;(rw [h,Nat.mul_zero]at hlt;exact absurd hlt (Nat.not_lt_zero _));exact h
       have hDg:D≤D*g:=Nat.le_mul_of_pos_right _ hg1
       have hQg:Xz U R/U^(jj-1)/D≤g-1:=by have:=(Nat.div_lt_iff_lt_mul hD0).2 (show _<g*D by rw [Nat.mul_comm];exact hlt);omega
       exact Zl<|Za<|Zn<|Zb<|Zf<|mv J<|dt (Zen (n:=1) J J J)<|Zo J<|Zd<|Za<|Yl (Iq 14 (v':= .int .u64 ((g-1:Nat):Int)) J (Zbv (Zsg hg1 hgU)))<|Zf<|mv J<|mv J<|tt (Yf (n:=8) (Zgp _ _ _ _ hPb hDg) K5 call173 (Zi 83 K3 (Zi 81 K3 Ze)) J hw) fun v_11 _=>Zo J<|Zd<|Qh<|Qn (Np 8 83 K3)<|Xg (g-1,_) ⟨hQg,by dsimp only;omega⟩ (by first | omega | (dsimp only<;>omega)) K9 ⟨by rw [Nat.mul_sub_one];rfl,rfl,rfl,rfl,rfl,rfl,rfl,rfl,rfl,trivial⟩
      ·refine Yt<|Zv<|Zv<|Pd<|Za<|Zb ?_
       have hQ:g=Xz U R/U^(jj-1)/D:=by
        have h1:=hr_2.1
        have h2:D*g≤Xz U R/U^(jj-1):=by omega
        exact Nat.le_antisymm ((Nat.le_div_iff_mul_le hD0).2 (by rw [Nat.mul_comm];exact h2)) hg
       refine Zf<|mv J<|tt (Zy (n:=8) (Nz _ _) K4 call127 (Zd5 82 J J pU (Zi7 (jj-1) (jj-1+k+1)) (Zjn _ _ _ _) Ze) J hw) fun _ _=>mv J<|tt (Yf (n:=9) (Zgp _ _ _ _ hWb) K5 call173 (Zd5 82 J J pU (Yai hWz (by rw [hWz]) (Zi7 (jj-1) (jj-1+k+1))) (by rw [Lr];exact(Zjn _ _ _ _)) (Zi 83 K3 Ze)) J hw) fun v_12 _=>Zo J<|Zd<|Za<|Zb ?_
       have hll:(dg U (Xz U R/U^(jj-1)-D*g)).length≤jj-1+k+1-(jj-1):=by
        have:Xz U R/U^(jj-1)-D*g<D:=by rw [hQ];have h3:=Nat.div_add_mod (Xz U R/U^(jj-1)) D;have h4:=Nat.mod_lt (Xz U R/U^(jj-1)) hD0;omega
        have:=(Qv Pi k _).2 (Nat.lt_trans this hDk)
        omega
       refine Zf<|mv J<|tt (t_clr (zv:= .bool false) (i:=82) (z:=0) (jj-1) J J J J (by decide) (Zwo _ _ _ (by omega)) (by omega) (by omega) Xr pU (fun w=>zeroValue149 w) J J hw) fun _ _=>Zd<|Za<|Zb<|Zf<|mv J<|mv J<|tt (t_cpy (i:=82) (j:=9) (jj-1) J J J J J J (by decide) J Zg (Zwo _ _ _ (by rw [Hu _ _ _ (by rw [List.length_replicate];omega)];omega)) hll (by rw [Hu _ _ _ (by rw [List.length_replicate];omega)];omega) (by rw [Hu _ _ _ (by rw [List.length_replicate];omega)];omega) Xr pU J hw) fun _ _=>Zd<|Za ?_
       have hL1:jj-1+(List.replicate (jj-1+k+1-(jj-1)) 0).length≤R.length:=by rw [List.length_replicate];omega
       have hl1:=Hu R (jj-1) _ hL1
       have hL2:jj-1+(dg U (Xz U R/U^(jj-1)-D*g)).length≤(spl R (jj-1) (List.replicate (jj-1+k+1-(jj-1)) 0)).length:=by omega
       have hval:=Ydu hRa (j:=jj-1) (n:=jj-1+k+1-(jj-1)) (by omega) (by rw [show jj-1+(jj-1+k+1-(jj-1))=jj-1+k+1 by omega];exact hW1) hll
       rw [Lv Pi]at hval
       have hst:=Ycz (j:=jj-1) (N:=x*2^b) (Vq:=Xz U (q.drop jj)) hD0 hQ (by rw [show jj-1+1=jj by omega];exact hN)
       have hV2:=hst.1
       have hN2:=hst.2
       rw [←hval]at hV2 hN2
       have hdq:Xz U ((q.set (jj-1) g).drop (jj-1))=g+U*Xz U (q.drop jj):=by rw [drop_set _ _ _ (by omega),show jj-1+1=jj by omega];rfl
       rw [←hdq]at hN2
       exact Zf<|mv J<|mv J<|mv J<|dt (Nj (ii:=6) (i:=jj-1) K4 (Yu pU) Xr Mh)<|tt (Ip (i:=6) (enc:=Lk) _ J J J J J J pU J hw (by decide) (by first | omega | (simp only [List.length_set];omega))) fun _ _=>Zd<|Qh<|Za<|Zf<|mv J<|dt (Pq K3)<|Zo J<|Zd<|Xg (jj-1,_,_) ⟨by first | omega | (dsimp only<;>omega),(Hu _ _ _ hL2).trans (hl1.trans hRl),Zp6 (Zp6 hRa (Mu _ Po) _) (Lc Pi _) _,by simp;omega,Ib hqa _ _ hgU,hV2,hN2⟩ (by first | omega | (dsimp only<;>omega)) ⟨by rw [show(((jj-1:Nat):Int)-1)=(jj:Int)-1-1 by omega];rfl,rfl,rfl,rfl,rfl,rfl,trivial⟩ K7
    ·refine Yt<|Zv<|Zv<|Pd<|Za<|Zb ?_
     obtain rfl:jj=0:=by omega
     rw [Nat.pow_zero,Nat.mul_one]at hV
     have hVb:bl (Xz U R)≤8589934592:=by have:=Nu (Nat.le_of_lt hV);omega
     refine Zf<|mv J<|tt (Zy (n:=9) (Nz _ _) K4 call127 (Qk 6 J J pU Ze) J hw) fun _ _=>Qx (Za6 6 J J pU)<|mv J<|tt (Zy (n:=9) (Nz _ _) K4 call127 (Qk 82 J J pU Ze) J hw) fun _ _=>Qx (Za6 82 J J pU)<|Qx (Zeo 82 (Iw Pi R hRa).symm J J)<|mv J<|tt (Yf (n:=10) (Ye9 _ _ _ hVb (by omega)) K5 call195 (Qk 82 J J pU Ze) J hw) fun v_13 _=>Zo J<|Zo J<|Zd<|Za<|Zp ?_
     rw [List.drop_zero,Nat.pow_zero,Nat.mul_one]at hN
     have hqq:tz q=dg U (x/y):=by
      rw [←Iw Pi _ hqa,←Zms x y b,←hDe,←hN,Nat.mul_comm,Nat.mul_add_div hD0,Nat.div_eq_of_lt hV,Nat.add_zero]
     have hrr:Xz U R/2^b=x%y:=by
      rw [←Zmr x y b,←hDe,←hN,Nat.mul_comm,Nat.mul_add_mod,Nat.mod_eq_of_lt hV]
     exact Yr (.inl J) hsc (_,_) _ (fun a w hs=>Pz hs results174 J J) J trivial J (Ng 6 J J pU hqq (Lg 10 K3 (by rw [hrr]) Zm))
theorem Zo1(v w:Value)(x y:Nat)(hx:bl x≤4000000000:=by omega)(hy:bl y≤4000000000:=by omega):Cal prog 185 #[v,w] [Dj v x,Dj w y] true (G:=Value) (fun r=>True) (fun r=>r) (fun r=>[Dj r (Nat.gcd x y)]):=by
 refine Yg func185 J ntmps185 J K2 fun w0 sc hw hsc=>?_
 simp only [Zs,Zq]
 have hX:=Lt x
 have hY:=Lt y
 refine Zb<|Zf<|Zo J<|Zd<|Za<|Zb<|Zn<|Yl (Np 1 91 K3)<|Yl (Np 2 92 K3)<|Px [] [(0,_),(1,_),(2,_)] (fun(q:Value×Value×Nat×Nat)=>[(0,q.1),(1,q.2.1)]) (fun(q:Value×Value×Nat×Nat)=>[(91,Dj q.1 q.2.2.1),(92,Dj q.2.1 q.2.2.2)]) (fun(q:Value×Value×Nat×Nat)=>(Nat.gcd q.2.2.1 q.2.2.2=Nat.gcd x y)∧(bl q.2.2.1≤4000000000)∧(bl q.2.2.2≤4000000000)) (fun(q:Value×Value×Nat×Nat)=>q.2.2.2) (v,w,x,y) ⟨J,hx,hy⟩ K2 K5 ?_
 rintro⟨va,vb,a,b⟩ ⟨hg,ha,hb⟩
 dsimp only at hg ha hb
 simp only [CA,NA]
 refine Zb<|Zb<|Zf<|mv J<|dt (Yc J J (i:=92) J Zg Xr)<|dt (Fd K3)<|Zd<|Za<|Zr J (fun h201=>?_) (fun h201=>?_)
 ·have hb0:0<b:=by rcases Nat.eq_zero_or_pos b with h | h;(subst h;simp [Gk]at h201);exact h
  refine Zl<|Za<|Zn<|Zb<|Zf<|mv J<|mv J<|tt (Yf (n:=3) (Zv3 _ _ _ _ ha hb hb0) K5 call174 (Zi 91 K3 (Zi 92 K3 Ze)) J hw) fun g _=>mv J<|dt (Xa K3)<|dt (Xa K3)<|Zo J<|Zo J<|Zd<|Za<|Zf<|mv J<|mv J<|Zo J<|Zo J<|Zd<|Qh ?_
  have hlt:a%b<b:=Nat.mod_lt _ hb0
  exact Qn (Np 92 91 K3)<|Qn (Np 4 92 K3)<|Xg (_,_,b,a%b) ⟨by dsimp only;rw [←hg,Nat.gcd_comm b,←Nat.gcd_rec,Nat.gcd_comm],hb,Nat.le_trans (Nu (Nat.le_of_lt hlt)) hb⟩ hlt K2 K5
 ·have hb0:b=0:=(Ox Pi b).1 (by omega)
  exact Yt<|Zv<|Zv<|Pd<|Za<|Zb<|Zf<|mv J<|Zo J<|Zd<|Za<|Zp<|xG hsc _ results185 J J trivial J (Lg 91 K3 (by rw [←hg,hb0,Nat.gcd_zero_right]) Zm)
theorem Zoz(s:Bool)(v:Value)(x:Int)(hs:sg s x):Cal prog 134 #[.agg #[.bool s,v]] [Dj v x.natAbs] true (G:=Bool×Value) (fun r=>sg r.1 (-x)) (fun r=> .agg #[.bool r.1,r.2]) (fun r=>[Dj r.2 (-x).natAbs]):=by
 refine Yg func134 J ntmps134 J K1 fun w0 sc hw hsc=>?_
 simp only [Zs,Zq]
 exact Zb<|Zf<|tt (Xp (i:=2) K5 hw) fun b _=>tt (Xi (i:=3) K2 zeroValue154 K2 hw) fun b_2 _=>Zd<|Za<|Zb<|Zf<|dt (Qy K2 Mt J zT4 K2)<|dt (Mc (i:=2) K3 iA4 J)<|dt (Xh J J)<|dt (Qy K2 Mt J Fh K2)<|dt (Mc (i:=2) K3 Fq J)<|dt (Oi (ivs:=[(0,_),(1,_)]) J K4 (fun a w hs=>Mb ((Zc J) a w hs) ((Zj (i:=1) J Zg) a w hs)))<|tt (Zt (i:=3) K6 Xb K2 ⟨Zc J,Zj (i:=1) J Zg,trivial⟩ J hw trivial) fun _ _=>Zd<|Za<|Zp<|Yr (.inl J) hsc (!s,v) _ (fun a w hs=>Nr hs results134 (Yw (i:=3) J J Ln Xb J)) J (Zz7 hs) J (Lg 1 K3 (by rw [Int.natAbs_neg]) Zm)
theorem Zd9(s t:Bool)(v w:Value)(x y:Int)(hs:sg s x)(ht:sg t y)(hx:bl x.natAbs≤4294967296:=by omega)(hy:bl y.natAbs≤4294967296:=by omega):Cal prog 176 #[.agg #[.bool s,v],.agg #[.bool t,w]] [Dj v x.natAbs,Dj w y.natAbs] true (G:=Bool×Value) (fun r=>sg r.1 (x*y)) (fun r=> .agg #[.bool r.1,r.2]) (fun r=>[Dj r.2 (x*y).natAbs]):=by
 refine Yg func176 J ntmps176 J K2 fun w0 sc hw hsc=>?_
 simp only [Zs,Zq]
 refine Zb<|Zf<|tt (Xp (i:=3) K5 hw) fun b _=>tt (Xp (i:=4) K5 hw) fun b_2 _=>tt (Xi (i:=5) K2 zeroValue154 K2 hw) fun b_3 _=>Zd<|Za<|Zb<|Qj (fun _=>False) [(0,0),(1,0),(2,0),(3,0),(4,0),(5,0),(6,0),(7,0),(8,0),(9,1),(10,0),(11,3)] ?_ ?_
 ·kernel_rfl
 exact Zh K2 (Yo (Qy K2 Mt J zT4 K2))<|Zh K2 (Yo (Mc (i:=3) K3 iA4 J))<|Zh K2 (Yo (Qy K2 Mt J zT4 K2))<|Zh K2 (Yo (Mc (i:=4) K3 iA4 J))<|Zh K2 (Yo (Znj J J J uT4))<|Zh K2 (Yo (Qy K2 Mt J Fh K2))<|Zh K2 (Yo (Mc (i:=3) K3 Fq J))<|Zh K2 (Yo (Qy K2 Mt J Fh K2))<|Zh K2 (Yo (Mc (i:=4) K3 Fq J))<|Yq J (Yf (n:=6) (Zv2 _ _ _ _ hx hy) K5 call194 (Zi 1 K3 (Zi 2 K3 Ze)) J hw) fun v _=>Zh K2 (Yo (Oi (ivs:=[(0,_),(1,_)]) J K4 (fun a w hs=>Mb ((Zc J) a w hs) ((Zj (i:=6) J Zg) a w hs))))<|Qs J (Zt (i:=5) K6 Xb K2 ⟨Zc J,Zj (i:=6) J Zg,trivial⟩ J hw trivial) fun _ _=>Pv<|Za<|Zp<|Yr (.inl J) hsc (_,_) _ (fun a w hs=>Nr hs results176 (Yw (i:=5) J J Ln Xb J)) J (Zz8 hs ht) J (Lg 6 K3 (by rw [Int.natAbs_mul]) Zm)
theorem Zkv(s:Bool)(v:Value)(x:Int)(hs:sg s x)(hx:bl x.natAbs≤4294967296:=by omega):Cal prog 135 #[.agg #[.bool s,v]] [Dj v x.natAbs] true (G:=Unit) (fun _=>True) (fun _=> .int .i64 x.sign) (fun _=>[]):=by
 refine Yg func135 J ntmps135 J K1 fun w0 sc hw hsc=>?_
 simp only [Zs,Zq]
 have hX:=Lt x.natAbs
 refine Zb<|Zf<|tt (Xp (i:=2) K5 hw) fun b _=>Zo J<|Zd<|Za<|Zb<|Zn<|Zb<|Zf<|dt (Qy K2 Mt J Fh K2)<|dt (Mc (i:=2) K3 Fq J)<|dt (Yc J J (i:=1) J Zg Xr)<|dt (Hf K3)<|Zo J<|Zd<|Za<|Zr J (fun h245=>?_) (fun h245=>?_)
 ·exact Zb<|Zf<|Zo J<|Zd<|Za<|Zp<|Md<|Yp<|xU hsc results135 J J (Zxu h245)
 ·refine Zb<|Zf<|dt (Qy K2 Mt J zT4 K2)<|dt (Mc (i:=2) K3 iA4 J)<|Zo J<|Zd<|Za<|Mx J (fun h247=>?_) (fun h247=>?_)
  ·exact Zb<|Zf<|Zo J<|Zd<|Za<|Zp<|Md<|Yp<|xU hsc results135 J J (Zz2 hs h247 h245)
  ·exact Zl<|Qh<|Za<|Zb<|Zf<|Zo J<|Zd<|Za<|Zp<|xU hsc results135 J J (Zz1 hs h247 h245)
theorem Zgo(s t:Bool)(v w:Value)(x y:Int)(hs:sg s x)(ht:sg t y)(hx:bl x.natAbs≤4294967296:=by omega)(hy:bl y.natAbs≤4294967296:=by omega):Cal prog 131 #[.agg #[.bool s,v],.agg #[.bool t,w]] [Dj v x.natAbs,Dj w y.natAbs] true (G:=Bool×Value) (fun r=>sg r.1 (x+y)) (fun r=> .agg #[.bool r.1,r.2]) (fun r=>[Dj r.2 (x+y).natAbs]):=by
 refine Yg func131 J ntmps131 J K2 fun w0 sc hw hsc=>?_
 simp only [Zs,Zq]
 refine Zb<|Zf<|tt (Xp (i:=3) K5 hw) fun b _=>tt (Xp (i:=4) K5 hw) fun b_2 _=>tt (Xi (i:=5) K2 zeroValue154 K2 hw) fun b_3 _=>Zd<|Za<|Zb<|Zn<|Zb<|Zf<|dt (Qy K2 Mt J zT4 K2)<|dt (Mc (i:=3) K3 iA4 J)<|dt (Qy K2 Mt J zT4 K2)<|dt (Mc (i:=4) K3 iA4 J)<|dt (d_eqb J J J uT4)<|Zo J<|Zd<|Za<|Mx J (fun h231=>?_) (fun h231=>?_)
 ·have hst:s=t:=by simpa using h231
  refine Zb<|Qj (fun _=>False) [(0,0),(1,0),(2,0),(3,0),(4,0),(5,0),(6,1),(7,0),(8,3)] ?_ ?_
  ·kernel_rfl
  exact Zh K2 (Yo (Qy K2 Mt J zT4 K2))<|Zh K2 (Yo (Mc (i:=3) K3 iA4 J))<|Zh K2 (Yo (Qy K2 Mt J Fh K2))<|Zh K2 (Yo (Mc (i:=3) K3 Fq J))<|Zh K2 (Yo (Qy K2 Mt J Fh K2))<|Zh K2 (Yo (Mc (i:=4) K3 Fq J))<|Yq J (Yf (n:=6) (Zv4 _ _ _ _ hx hy) K5 call171 (Zi 1 K3 (Zi 2 K3 Ze)) J hw) fun v _=>Zh K2 (Yo (Oi (ivs:=[(0,_),(1,_)]) J K4 (fun a w hs=>Mb ((Zc J) a w hs) ((Zj (i:=6) J Zg) a w hs))))<|Qs J (Zt (i:=5) K6 Xb K2 ⟨Zc J,Zj (i:=6) J Zg,trivial⟩ J hw trivial) fun _ _=>Pv<|Za<|Zp<|Md<|Yp<|Yr (.inl J) hsc (_,_) _ (fun a w hs=>Nr hs results131 (Yw (i:=5) J J Ln Xb J)) J (Zu8 hs (hst▸ht)) J (Lg 6 K3 (by rw [Zhf hs (hst▸ht)]) Zm)
 ·have hst:s≠t:=by simpa using h231
  refine Zb<|Zf<|dt (Qy K2 Mt J Fh K2)<|dt (Mc (i:=3) K3 Fq J)<|dt (Qy K2 Mt J Fh K2)<|dt (Mc (i:=4) K3 Fq J)<|tt (Yf (n:=6) (Zdb _ _ _ _ hx hy) K5 call172 (Zi 1 K3 (Zi 2 K3 Ze)) J hw) fun r hr=>dt (Lh J J J)<|Zo J<|Zd<|Za<|Zr J (fun h233=>?_) (fun h233=>?_)
  ·have hge:y.natAbs≤x.natAbs:=by have:=hr.1;omega
   refine Zb<|Qj (fun _=>False) [(0,0),(1,0),(2,0),(3,0),(4,0),(5,0),(6,1),(7,0),(8,3)] ?_ ?_
   ·kernel_rfl
   exact Zh K2 (Yo (Qy K2 Mt J zT4 K2))<|Zh K2 (Yo (Mc (i:=3) K3 iA4 J))<|Zh K2 (Yo (Qy K2 Mt J Fh K2))<|Zh K2 (Yo (Mc (i:=3) K3 Fq J))<|Zh K2 (Yo (Qy K2 Mt J Fh K2))<|Zh K2 (Yo (Mc (i:=4) K3 Fq J))<|Yq J (Yf (n:=7) (Zgp _ _ _ _ hx) K5 call173 (Zi 1 K3 (Zi 2 K3 Ze)) J hw) fun v_2 _=>Zh K2 (Yo (Oi (ivs:=[(0,_),(1,_)]) J K4 (fun a w hs=>Mb ((Zc J) a w hs) ((Zj (i:=7) J Zg) a w hs))))<|Qs J (Zt (i:=5) K6 Xb K2 ⟨Zc J,Zj (i:=7) J Zg,trivial⟩ J hw trivial) fun _ _=>Pv<|Za<|Zp<|Md<|Yp<|Yr (.inl J) hsc (_,_) _ (fun a w hs=>Nr hs results131 (Yw (i:=5) J J Ln Xb J)) J (Zi6 hs ht hst hge) J (Lg 7 K3 (by rw [Zbt hs ht hst hge]) Zm)
  ·have hge:x.natAbs≤y.natAbs:=by have:=hr.1;omega
   refine Zl<|Qh<|Za<|Zb<|Qj (fun _=>False) [(0,0),(1,0),(2,0),(3,0),(4,0),(5,0),(6,1),(7,0),(8,3)] ?_ ?_
   ·kernel_rfl
   exact Zh K2 (Yo (Qy K2 Mt J zT4 K2))<|Zh K2 (Yo (Mc (i:=4) K3 iA4 J))<|Zh K2 (Yo (Qy K2 Mt J Fh K2))<|Zh K2 (Yo (Mc (i:=4) K3 Fq J))<|Zh K2 (Yo (Qy K2 Mt J Fh K2))<|Zh K2 (Yo (Mc (i:=3) K3 Fq J))<|Yq J (Yf (n:=8) (Zgp _ _ _ _ hy) K5 call173 (Zi 2 K3 (Zi 1 K3 Ze)) J hw) fun v_3 _=>Zh K2 (Yo (Oi (ivs:=[(0,_),(1,_)]) J K4 (fun a w hs=>Mb ((Zc J) a w hs) ((Zj (i:=8) J Zg) a w hs))))<|Qs J (Zt (i:=5) K6 Xb K2 ⟨Zc J,Zj (i:=8) J Zg,trivial⟩ J hw trivial) fun _ _=>Pv<|Za<|Zp<|Yr (.inl J) hsc (_,_) _ (fun a w hs=>Nr hs results131 (Yw (i:=5) J J Ln Xb J)) J (by rw [Int.add_comm];exact Zi6 ht hs (Ne.symm hst) hge) J (Lg 8 K3 (by rw [Int.add_comm,Zbt ht hs (Ne.symm hst) hge]) Zm)
theorem Oe(s:Bool)(x:Int)(hs:sg s x)(hx:bl x.natAbs≤4294967296:=by omega):Cal prog 130 #[.agg #[.bool s,.string (Xk x.natAbs)]] [] true (G:=Bool×Value) (fun r=>sg r.1 x) (fun r=> .agg #[.bool r.1,r.2]) (fun r=>[Dj r.2 x.natAbs]):=by
 refine Yg func130 J ntmps130 J trivial fun w0 sc hw hsc=>?_
 simp only [Zs,Zq]
 refine Zb<|Zf<|tt (Xp (i:=1) K5 hw) fun b _=>tt (Xi (i:=2) K2 zeroValue154 K2 hw) fun b_2 _=>Zd<|Za<|Zb<|Qj (fun _=>False) [(0,0),(1,0),(2,0),(3,0),(4,1),(5,0),(6,3)] ?_ ?_
 ·kernel_rfl
 exact Zh K2 (Yo (Qy K2 Db J zT4 K2))<|Zh K2 (Yo (Mc (i:=1) K3 iA4 J))<|Zh K2 (Yo (Qy K2 Db J zT9 K2))<|Zh K2 (Yo (Mc (i:=1) K3 iA9 J))<|Yq J (Zy (n:=3) (Zdt _ hx) K4 call170 Ze J hw) fun v _=>Zh K2 (Yo (Oi (ivs:=[(0,_),(1,_)]) J K4 (fun a w hs=>Mb ((Zc J) a w hs) ((Zj (i:=3) J Zg) a w hs))))<|Qs J (Zt (i:=2) K6 Xb K2 ⟨Zc J,Zj (i:=3) J Zg,trivial⟩ J hw trivial) fun _ _=>Pv<|Za<|Zp<|Yr (.inl J) hsc (_,_) _ (fun a w hs=>Nr hs results130 (Yw (i:=2) J J Ln Xb J)) J hs J (Lg 3 K3 J Zm)
theorem Ga(s:Bool)(v:Value)(x:Int)(hs:sg s x)(hx:bl x.natAbs≤4294967296:=by omega):Od prog 128 #[.agg #[.bool s,v]] [Dj v x.natAbs] (Zcl x):=by
 refine Yg func128 J ntmps128 J K1 fun w0 sc hw hsc=>?_
 simp only [Zs,Zq]
 refine Zb<|Zf<|tt (Xp (i:=2) K5 hw) fun b _=>tt (Xi (i:=3) K2 zeroValue31 K2 hw) fun b_2 _=>Zo J<|Zd<|Za<|Zb<|Zb<|Zf<|dt (Qy K2 Mt J Fh K2)<|dt (Mc (i:=2) K3 Fq J)<|tt (Zy (n:=3) (Zkx _ _) K4 call168 (Zi 1 K3 Ze) J hw) fun _ _=>dt (Fd K3)<|Zd<|Za<|Zr J (fun h219=>?_) (fun h219=>?_)
 ·exact Zb<|Zf<|dt (Oi (ivs:=[]) J trivial (fun a w hs=>Ygs))<|tt (Zt (i:=3) K6 Yb K2 ⟨Zc J,Zc J,trivial⟩ J hw trivial) fun _ _=>Zo J<|Zd<|Za<|Zp<|Yp<|Yr (.inl J) hsc () _ (fun a w hs=>Pz hs results128 (Yw (i:=3) J J Xl Yb J) J) (Zxm h219) trivial J Zm
 ·refine Zl<|Za<|Zb ?_
  cases s
  ·refine Qj (fun _=>False) [(0,0),(1,0),(2,0),(3,2),(4,2),(5,2),(6,2),(7,0),(8,0),(9,0),(10,1),(11,0),(12,3),(13,3)] ?_ ?_
   ·kernel_rfl
   exact Zh K2 (Yo (Qy K2 Mt J zT4 K2))<|Zh K2 (Yo (Mc (i:=2) K3 iA4 J))<|Zh K2 (Yo (Ya K2))<|Dw K8<|Dw K8<|Dw K8<|Dw K8<|Zh K2 (Yo (Ql K3))<|Zh K2 (Yo (Qy K2 Mt J Fh K2))<|Zh K2 (Yo (Mc (i:=2) K3 Fq J))<|Yq J (Zy (n:=3) (Zm7 _ _) K4 call169 (Zi 1 K3 Ze) J hw) fun _ _=>Zh K2 (Yo (Oi (ivs:=[(0,_),(1,_)]) J K4 (fun a w hs=>Zuh ((Zc J) a w hs) ((Zc J) a w hs))))<|Qs J (Zt (i:=3) K6 Yb K2 ⟨Zc J,Zc J,trivial⟩ J hw trivial) fun _ _=>Qs J (Pu (Ok J J) J) fun _ _=>Pv<|Za<|Zp<|Yr (.inl J) hsc () _ (fun a w hs=>Pz hs results128 (Yw (i:=3) J J Xl Yb J) J) (by first | exact Zqb hs h219 | exact Zqa hs h219) trivial J Zm
  ·refine Qj (fun _=>False) [(0,0),(1,0),(2,0),(3,0),(4,0),(5,0),(6,0),(7,0),(8,0),(9,0),(10,1),(11,0),(12,3),(13,3)] ?_ ?_
   ·kernel_rfl
   exact Zh K2 (Yo (Qy K2 Mt J zT4 K2))<|Zh K2 (Yo (Mc (i:=2) K3 iA4 J))<|Zh K2 (Yo (Ya K2))<|Gf (Yo (Qy K2 Mt J Fh K2)) K5<|Gf (Yo (Mc (i:=2) K3 Fq J)) K5<|Gf (Yo (Yc J J (i:=1) J Zg Xr)) K5<|Gf (Yo (Fd K3)) K5<|Zh K2 (Yo (Om K3))<|Zh K2 (Yo (Qy K2 Mt J Fh K2))<|Zh K2 (Yo (Mc (i:=2) K3 Fq J))<|Yq J (Zy (n:=3) (Zm7 _ _) K4 call169 (Zi 1 K3 Ze) J hw) fun _ _=>Zh K2 (Yo (Oi (ivs:=[(0,_),(1,_)]) J K4 (fun a w hs=>Zuh ((Zc J) a w hs) ((Zc J) a w hs))))<|Qs J (Zt (i:=3) K6 Yb K2 ⟨Zc J,Zc J,trivial⟩ J hw trivial) fun _ _=>Qs J (Pu (Ok J J) J) fun _ _=>Pv<|Za<|Zp<|Yr (.inl J) hsc () _ (fun a w hs=>Pz hs results128 (Yw (i:=3) J J Xl Yb J) J) (by first | exact Zqb hs h219 | exact Zqa hs h219) trivial J Zm
theorem Pt(s t:Bool)(v w:Value)(x y:Int)(hs:sg s x)(ht:sg t y)(hx:bl x.natAbs≤3000000000:=by omega)(hy:bl y.natAbs≤3000000000:=by omega)(hy0:y≠0:=by decide):Cal prog 133 #[.agg #[.bool s,v],.agg #[.bool t,w]] [Dj v x.natAbs,Dj w y.natAbs] true (G:=Bool×Value×Value) (fun r=>sg r.1 (x/y)) (fun r=> .tuple #[.agg #[.bool r.1,r.2.1],.agg #[.bool false,r.2.2]]) (fun r=>[Dj r.2.1 (x/y).natAbs,Dj r.2.2 (x%y).natAbs]):=by
 refine Yg func133 J ntmps133 J K2 fun w0 sc hw hsc=>?_
 simp only [Zs,Zq]
 have hX:=Lt x.natAbs
 have hY:=Lt y.natAbs
 have hyp:0<y.natAbs:=by omega
 have hrl:x.natAbs%y.natAbs<y.natAbs:=Nat.mod_lt _ hyp
 have hrb:=Nu (Nat.le_of_lt hrl)
 have hqb:=Nu (Nat.div_le_self x.natAbs y.natAbs)
 refine Zb<|Zf<|tt (Xp (i:=3) K5 hw) fun b _=>tt (Xp (i:=4) K5 hw) fun b_2 _=>tt (Xi (i:=5) K2 zeroValue154 K2 hw) fun b_3 _=>tt (Xi (i:=6) K2 zeroValue154 K2 hw) fun b_4 _=>Zd<|Za<|Zb<|Zf<|dt (Qy K2 Mt J Fh K2)<|dt (Mc (i:=3) K3 Fq J)<|dt (Qy K2 Mt J Fh K2)<|dt (Mc (i:=4) K3 Fq J)<|tt (Yf (n:=7) (Zv3 _ _ _ _ (by omega) (by omega) hyp) K5 call174 (Zi 1 K3 (Zi 2 K3 Ze)) J hw) fun g _=>mv J<|dt (Xa K3)<|dt (Xa K3)<|Zo J<|Zo J<|Zd<|Za<|Zb<|Zb<|Zf<|dt (Qy K2 Mt J zT4 K2)<|dt (Mc (i:=3) K3 iA4 J)<|mv J<|Kx (d:=18) J (fun s256=>?_) (fun s256=>?_)
 ·refine Zx (Ya K2) K2<|Zx (Yc J J (i:=8) J Zg Xr) K2<|Zx (Fd K3) K2<|dt (Om K3)<|Zd<|Za<|Zr J (fun h256=>?_) (fun h256=>?_)
  ·subst s256
   have hR0:0<x.natAbs%y.natAbs:=by rcases Nat.eq_zero_or_pos (x.natAbs%y.natAbs)with h | h;(rw [h]at h256;simp [Gk]at h256);exact h
   have hD:=divA hs ht hy0 hR0
   refine Qj (fun _=>False) [(0,0),(3,0),(4,0),(5,0),(1,1),(2,1),(6,1),(7,0),(8,3)] ?_ ?_
   ·kernel_rfl
   refine Zh K2 (Yo (Ya K2))<|Zh K2 (Yo (Qy K2 Mt J Fh K2))<|Zh K2 (Yo (Mc (i:=4) K3 Fq J))<|Zh K2 (Yo (Ya K2))<|Yq J (Kp (i:=9) (ivs:=[(0,_)]) (enc:=Lk) (dg U 1) K4 Xr ti149 K5 pU.cells K2 hw) fun v _=>Yq J (Yf (n:=10) (Zv4 _ _ _ _ (by omega) (show bl 1≤4294967296 by decide)) K5 call171 (Zi 7 K3 (Qk 9 J J pU Ze)) J hw) fun v_2 _=>Yq J (Yf (n:=11) (Zgp _ _ _ _ (by omega)) K5 call173 (Zi 2 K3 (Zi 8 K3 Ze)) J hw) fun v_3 _=>Zh K2 (Yo (Ok J J))<|Qs J (Pu (Ok J J) J) fun _ _=>Pv<|Za<|Zb<|Zf<|dt (Qy K2 Mt J zT4 K2)<|dt (Mc (i:=3) K3 iA4 J)<|dt (Qy K2 Mt J zT4 K2)<|dt (Mc (i:=4) K3 iA4 J)<|dt (Znj J J J uT4)<|mv J<|dt (Oi (ivs:=[(0,_),(1,_)]) J K4 (fun a w hs=>Mb ((Zc J) a w hs) ((Zj (i:=10) J Zg) a w hs)))<|mv J<|dt (Oi (ivs:=[(0,_),(1,_)]) J K4 (fun a w hs=>Mb ((Zc J) a w hs) ((Zj (i:=11) J Zg) a w hs)))<|tt (Zt (i:=5) K6 Xb K2 ⟨Zc J,Zj (i:=10) J Zg,trivial⟩ J hw trivial) (fun _ _=>?_)
   exact tt (Zt (i:=6) K6 Xb K2 ⟨Zc J,Zj (i:=11) J Zg,trivial⟩ J hw trivial) fun _ _=>Zd<|Za<|Zp<|Yr (.inl J) hsc (_,_,_) _ (fun a w hs=>Pz hs results133 (Yw (i:=5) J J Ln Xb J) (Yw (i:=6) J J Ln Xb J)) J hD.1 J (Lg 10 K3 (by rw [hD.2.1]<;>rfl) (Lg 11 K3 (by rw [hD.2.2]<;>rfl) Zm))
  ·have hD:=divB hs ht hy0 (.inr ((Ox Pi _).1 (by omega)))
   exact Zl<|Za<|Zb<|Zf<|dt (Qy K2 Mt J zT4 K2)<|dt (Mc (i:=3) K3 iA4 J)<|dt (Qy K2 Mt J zT4 K2)<|dt (Mc (i:=4) K3 iA4 J)<|dt (Znj J J J uT4)<|mv J<|dt (Oi (ivs:=[(0,_),(1,_)]) J K4 (fun a w hs=>Mb ((Zc J) a w hs) ((Zj (i:=7) J Zg) a w hs)))<|mv J<|dt (Oi (ivs:=[(0,_),(1,_)]) J K4 (fun a w hs=>Mb ((Zc J) a w hs) ((Zj (i:=8) J Zg) a w hs)))<|tt (Zt (i:=5) K6 Xb K2 ⟨Zc J,Zj (i:=7) J Zg,trivial⟩ J hw trivial) fun _ _=>tt (Zt (i:=6) K6 Xb K2 ⟨Zc J,Zj (i:=8) J Zg,trivial⟩ J hw trivial) fun _ _=>Zd<|Za<|Zp<|Yr (.inl J) hsc (_,_,_) _ (fun a w hs=>Pz hs results133 (Yw (i:=5) J J Ln Xb J) (Yw (i:=6) J J Ln Xb J)) J hD.1 J (Lg 7 K3 (by rw [hD.2.1]<;>rfl) (Lg 8 K3 (by rw [hD.2.2]<;>rfl) Zm))
 ·have hD:=divB hs ht hy0 (.inl s256)
  exact Yj K3<|Yj K3<|Yj K3<|dt (Ql K3)<|Zd<|Za<|Yk J<|Zl<|Za<|Zb<|Zf<|dt (Qy K2 Mt J zT4 K2)<|dt (Mc (i:=3) K3 iA4 J)<|dt (Qy K2 Mt J zT4 K2)<|dt (Mc (i:=4) K3 iA4 J)<|dt (Znj J J J uT4)<|mv J<|dt (Oi (ivs:=[(0,_),(1,_)]) J K4 (fun a w hs=>Mb ((Zc J) a w hs) ((Zj (i:=7) J Zg) a w hs)))<|mv J<|dt (Oi (ivs:=[(0,_),(1,_)]) J K4 (fun a w hs=>Mb ((Zc J) a w hs) ((Zj (i:=8) J Zg) a w hs)))<|tt (Zt (i:=5) K6 Xb K2 ⟨Zc J,Zj (i:=7) J Zg,trivial⟩ J hw trivial) fun _ _=>tt (Zt (i:=6) K6 Xb K2 ⟨Zc J,Zj (i:=8) J Zg,trivial⟩ J hw trivial) fun _ _=>Zd<|Za<|Zp<|Yr (.inl J) hsc (_,_,_) _ (fun a w hs=>Pz hs results133 (Yw (i:=5) J J Ln Xb J) (Yw (i:=6) J J Ln Xb J)) J hD.1 J (Lg 7 K3 (by rw [hD.2.1]<;>rfl) (Lg 8 K3 (by rw [hD.2.2]<;>rfl) Zm))
end Go.Sky

