/- rules, arithmetic and contracts: part 5
   Proved without conditions of its own: each theorem bears its own. -/
import Derived.Test.YtcmiiammekgooaaGreatSn03
import Derived.Test.YtcmiiammekgooaaGreatSn02
import Derived.Test.YtcmiiammekgooaaGreatSn01
set_option linter.all false
namespace Go.Sky
open Go.Proofs.Tryz
open Go.Proofs
set_option maxRecDepth 20000
set_option maxHeartbeats 4000000
set_option linter.unusedSimpArgs false
theorem Zuy(v:Value)(xs:List Nat)(hx:xs.length*8≤140737488355328):CalO prog 200 #[v] [slp 1 Hg v xs] (G:=Value) (fun r=>True) (fun r=>r) (fun r=>osl 1 149 Hg r xs):=by
 refine Zu7 func200 J ntmps200 J K1 ?_
 intro w0 sc hw hsc
 simp only [Zq,Zp]
 refine Md (f_nil (i:=1) J Zi) fun hnil=>Ze<|Zg<|as_ J<|Zf<|Za<|Ze<|Ze<|Zg<|mv J<|dt (Zun J J J (i:=1) J Zi Qb)<|Zf<|Za<|La J (fun h357=>?_) (fun h357=>?_)
 ·refine Ze<|Zg<|as_ J<|Zf<|Za<|Zw<|Xa ?_
  obtain rfl:xs=[]:=hnil (by simpa using h357)
  exact Qy (Nh 9 1 149 Hg)<|Zna (.inl J) (.slice none 0 0) _ (fun a w hs=>Xy hs results200 J) J trivial J 9 J J J
 ·exact Zl<|Za<|Ze<|Zg<|tt (t_bs0 (i:=2) (enc:=Hg) J J J Qb pU J hw) fun v _=>mv J<|tt (Iv (i:=2) (j:=1) (by_:=8) J J J J J J (by decide) J Zi Qb ti149 J pU J J J (by simp;omega) (by decide) J hw) fun v_2 _=>as_ J<|Zf<|Za<|Zw<|Zna (.inl J) _ _ (fun a w hs=>Xy hs results200 J) J trivial J 2 J (by rfl) J
set_option maxHeartbeats 1600000 in
theorem Zpk(h l y:Nat)(hl:l<U)(hy:y<U)(hh:h<y):Mb prog 193 #[.int .u64 (h:Int),.int .u64 (l:Int),.int .u64 (y:Int)] [] (.tuple #[.int .u64 (((h*U+l)/y:Nat):Int),.int .u64 (((h*U+l)%y:Nat):Int)]):=by
 refine Yd func193 J ntmps193 J trivial ?_
 intro w0 sc hw hsc
 simp only [Zq,Zp]
 have hUe:U=18446744073709551616:=rfl
 have hp:0<y:=by omega
 have hbl:bl y≤64:=(Mp 64 y).2 hy
 obtain⟨s,hs⟩:∃s,s=64-bl y:=⟨_,rfl⟩
 obtain⟨Y,hYe⟩:∃Y,Y=y*2^s:=⟨_,rfl⟩
 obtain⟨hY1,hY2⟩:=Zxi hp hy hs
 rw [←hYe]at hY1 hY2
 have hYU:=hY2
 obtain⟨D,hD⟩:∃D,D=(h*U+l)*2^s:=⟨_,rfl⟩
 obtain⟨u,hue⟩:∃u,u=D/U:=⟨_,rfl⟩
 obtain⟨v,hve⟩:∃v,v=D%U:=⟨_,rfl⟩
 obtain⟨v1,hv1e⟩:∃x,x=v/4294967296:=⟨_,rfl⟩
 obtain⟨v0,hv0e⟩:∃x,x=v%4294967296:=⟨_,rfl⟩
 obtain⟨y1,hy1e⟩:∃x,x=Y/4294967296:=⟨_,rfl⟩
 obtain⟨y0,hy0e⟩:∃x,x=Y%4294967296:=⟨_,rfl⟩
 have hYs:Y=y1*4294967296+y0:=by omega
 have hhs:=shl_lt hh (show y*2^s<U by rw [←hYe];exact hY2)
 have huY:u<Y:=by rw [hue,hD,hYe];exact top_lt hl hh
 have hu:u<y1*4294967296+y0:=by omega
 have hvU:v<U:=by rw [hve];exact Nat.mod_lt _ Ps
 have hy1:2147483648≤y1:=by omega
 have hy1l:y1<4294967296:=by omega
 have hy0:y0<4294967296:=by omega
 have hv1:v1<4294967296:=by omega
 have hv0:v0<4294967296:=by omega
 obtain⟨Q1,hQ1⟩:∃x,x=(u*4294967296+v1)/Y:=⟨_,rfl⟩
 obtain⟨t,hte⟩:∃x,x=(u*4294967296+v1)%Y:=⟨_,rfl⟩
 have htY:t<Y:=by rw [hte];exact Nat.mod_lt _ (by omega)
 have ht:t<y1*4294967296+y0:=by omega
 obtain⟨Q0,hQ0⟩:∃x,x=(t*4294967296+v0)/Y:=⟨_,rfl⟩
 have hY0:0<Y:=by omega
 obtain⟨hd1,hd2⟩:=dv_two (D:=D) hY0 hue hve hv1e hv0e
 rw [←hQ1,←hte,←hQ0]at hd1
 rw [←hte]at hd2
 have hQ0l:Q0<4294967296:=by rw [hQ0,hYs];exact dv_Q hv0 ht
 have hQ1l:Q1<4294967296:=by rw [hQ1,hYs];exact dv_Q hv1 hu
 refine Ze<|Zg<|as_ J<|as_ J<|Zf<|Za<|Ze<|Ze<|Zg<|mv J<|dt (Pv J J J)<|Zf<|Za<|Zs J (fun h519=>?_) (fun h519=>?_)
 ·exfalso;omega
 ·refine Zl<|Za<|Ze<|Ze<|Zg<|mv J<|mv J<|dt (Ab J J J)<|Zf<|Za<|Zs J (fun h522=>?_) (fun h522=>?_)
  ·exfalso;omega
  ·refine Zl<|Za<|Ze<|Ze<|Zg<|mv J<|dt (Pv J J J)<|Zf<|Za<|Zs J (fun h527=>?_) (fun h527=>?_)
   ·refine Ze<|Qo (fun _=>False) [(0,0),(1,0),(2,0),(3,0),(4,0),(5,0),(6,0),(7,3)] ?_ ?_
    ·kernel_rfl
    exact r0' J J (st0 (Yr J J))<|r0' J J (st0 (Yr J J))<|r0' J J (st0 (u_quo J J J))<|r0' J J (st0 (Yr J J))<|r0' J J (st0 (Yr J J))<|r0' J J (st0 (u_rem J J J (by omega)))<|r0' J J (st0 (Oy J J))<|r3' J (Pt (Oy J J) J) fun _ _=>Oh<|Za<|Zw<|Xa<|Zy (.inl J) hsc () _ (fun a w hs=>Nr hs results193 J J) (by have h0:h=0:=(by omega);rw [h0];simp) trivial J Zj
   ·refine Zl<|Za<|Ze<|Zg<|mv J<|tt (Zh (n:=0) (Zm7 _ hy) J J J K1 call189 Zd J hw) fun _ _=>dt (cv_u64 J J uT3 underlying212 (by simp only [U];omega))<|as_ J<|Zf<|Za<|Ze<|Yq (Ik 8 (v':= .int .u64 (s:Int)) J (by rw [hs]))<|Zg<|mv J<|mv J<|dt (Zps J J J J)<|as_ J<|Zf<|Za<|Ze<|Yq (Ik 2 (v':= .int .u64 (Y:Int)) J (by rw [hYe,Nat.mod_eq_of_lt (by rw [←hYe];exact hYU)]))<|Zg<|mv J<|dt (Fb (n:=32) (n':=4294967296) J J J J J)<|as_ J<|Zf<|Za<|Ze<|Zg<|mv J<|dt (Zq6 J J J)<|as_ J<|Zf<|Za<|Ze<|Zg<|mv J<|mv J<|dt (Zps J J J J)<|mv J<|mv J<|dt (Zfw J J J (by first | exact Nat.mod_lt _ Ps | omega))<|dt (Zpr J J (n:=64-s) J (by simp only [U];omega))<|dt (u_or J J J (Nat.mod_lt _ Ps) (Nat.lt_of_le_of_lt (Nat.div_le_self _ _) hl))<|as_ J<|Zf<|Za<|Ze<|Yq (Ik 11 (v':= .int .u64 (u:Int)) J (by rw [hue,hD,Zxf (by omega) hhs hl]))<|Zg<|mv J<|mv J<|dt (Zps J J J J)<|as_ J<|Zf<|Za<|Ze<|Yq (Ik 12 (v':= .int .u64 (v:Int)) J (by rw [hve,hD,Zs7 h l s]))<|Zg<|mv J<|dt (Fb (n:=32) (n':=4294967296) J J J J J)<|as_ J<|Zf<|Za<|Ze<|Yq (Ik 13 (v':= .int .u64 (v1:Int)) J (by rw [hv1e]))<|Zg<|mv J ?_
    refine dt (Zq6 J J J)<|as_ J<|Zf<|Za<|Ze<|Yq (Ik 14 (v':= .int .u64 (v0:Int)) J (by rw [Zpm,hv0e]))<|Yq (Ik 9 (v':= .int .u64 (y1:Int)) J (by rw [hy1e]))<|Yq (Ik 10 (v':= .int .u64 (y0:Int)) J (by rw [Zpm,hy0e]))<|Zg<|mv J<|mv J<|dt (u_quo J J J)<|as_ J<|Zf<|Za<|Ze<|Zg<|mv J<|mv J<|mv J<|dt (Bv J J J)<|dt (Zfw J J J (by first | exact Nat.mod_lt _ Ps | omega))<|as_ J<|Zf<|Za<|Da [(2,_),(8,_),(9,_),(10,_),(11,_),(13,_),(14,_)] [(0,_)] (fun(_:Unit)=>[(15,.int .u64 ((Q1:Nat):Int))]) (fun(_:Unit)=>[]) (fun(_:Unit)=>True) K7 K1 ?_ ?_
    ·refine Zo<|Yq (Ik 16 (v':= .int .u64 ((u%y1:Nat):Int)) J (by rw [rsub (by omega) (by omega)]))<|Nw [(2,_),(8,_),(9,_),(10,_),(11,_),(13,_),(14,_)] [(0,_)] (fun(q:Nat×Nat)=>[(15,.int .u64 (q.1:Int)),(16,.int .u64 (q.2:Int))]) (fun(q:Nat×Nat)=>[]) (fun(q:Nat×Nat)=>(dvI u v1 y1 y0 q.1 q.2)∧(q.2<4294967296)) (fun(q:Nat×Nat)=>q.1) (u/y1,u%y1) ⟨dv0 hy1 hy1l hy0 hv1 hu,Nat.lt_trans (Nat.mod_lt _ (by omega)) hy1l⟩ K9 K1 ?_
     rintro⟨a,r⟩ ⟨hI,hr⟩
     dsimp only at hI hr
     simp only [CA,NA]
     have hI1:=hI.1
     have hI2:=hI.2.1
     refine Ze<|Ze<|Zg<|mv J<|dt (Ke J J J)<|mv J<|Pa (d:=69) J (fun s547=>?_) (fun s547=>?_)
     ·refine gsk J J J<|gsk J J J<|gsk J J J<|gsk J J J<|gsk J J J<|gsk J J J<|gsk J J J<|gsk J J J<|dt (Yu J J J)<|Zf<|Za<|Pu J<|Zl<|Za<|Zo<|Ze ?_
      have hst:=Ziv (by omega) hI hv1 hu (by omega)
      have hst1:=hst.1
      refine Zg<|mv J<|dt (Zfw (n:=1) J J J)<|as_ J<|Zf<|Za<|Ze<|Yq (Ik 15 (v':= .int .u64 ((a-1:Nat):Int)) J (Zal (Zuk hst1 (by omega))))<|Zg<|mv J<|mv J<|dt (Aj J J J)<|as_ J<|Zf<|Za<|Ze<|Yq (Ik 16 (v':= .int .u64 ((r+y1:Nat):Int)) J (Zal (Nat.mod_eq_of_lt (by omega))))<|Zg<|mv J<|dt (Ke J J J)<|Zf<|Za<|Zs J (fun h550=>?_) (fun h550=>?_)
      ·refine Yw<|Zpq<|Zx<|Na ?_
       have hq:Q1=a-1:=by rw [hQ1,hYs];exact(Zdv (by omega) hy0 hst.2 (by omega) (by omega)).symm
       exact Ql () trivial ⟨by rw [hq];rfl,rfl,rfl,rfl,rfl,rfl,rfl,rfl,trivial⟩ K1
      ·exact Zl<|Oe<|Xp (a-1,r+y1) ⟨hst.2,by dsimp only;omega⟩ (by first | omega | (dsimp only<;>omega)) K9 K1
     ·have hm1:=Zoh (show a<4294967296 by omega) hy0
      have e1:=Nat.mod_eq_of_lt (show a*y0<U from hm1)
      have e2:=Nat.mod_eq_of_lt (show 4294967296*r<U by omega)
      have e3:=Nat.mod_eq_of_lt (show 4294967296*r+v1<U by omega)
      refine gdt (Yr J J) J J<|gdt (Yr J J) J J<|gdt (Bv J J J) J J<|gdt (Yr J J) J J<|gdt (Bv J J J) J J<|gdt (Yr J J) J J<|gdt (Aj J J J) J J<|gdt (Of J J J) J J<|dt (Yg J J J)<|Zf<|Za<|Zs J (fun h547=>?_) (fun h547=>?_)
      ·rw [e1,e2,e3]at h547
       refine Zl<|Za<|Zo<|Ze ?_
       have hst:=Ziv (by omega) hI hv1 hu (by omega)
       have hst1:=hst.1
       refine Zg<|mv J<|dt (Zfw (n:=1) J J J)<|as_ J<|Zf<|Za<|Ze<|Yq (Ik 15 (v':= .int .u64 ((a-1:Nat):Int)) J (Zal (Zuk hst1 (by omega))))<|Zg<|mv J<|mv J<|dt (Aj J J J)<|as_ J<|Zf<|Za<|Ze<|Yq (Ik 16 (v':= .int .u64 ((r+y1:Nat):Int)) J (Zal (Nat.mod_eq_of_lt (by omega))))<|Zg<|mv J<|dt (Ke J J J)<|Zf<|Za<|Zs J (fun h550_2=>?_) (fun h550_2=>?_)
       ·refine Yw<|Zpq<|Zx<|Na ?_
        have hq:Q1=a-1:=by rw [hQ1,hYs];exact(Zdv (by omega) hy0 hst.2 (by omega) (by omega)).symm
        exact Ql () trivial ⟨by rw [hq];rfl,rfl,rfl,rfl,rfl,rfl,rfl,rfl,trivial⟩ K1
       ·exact Zl<|Oe<|Xp (a-1,r+y1) ⟨hst.2,by dsimp only;omega⟩ (by first | omega | (dsimp only<;>omega)) K9 K1
      ·rw [e1,e2,e3]at h547
       refine Yw<|Zx<|Zx<|Na ?_
       have hq:Q1=a:=by rw [hQ1,hYs];exact(Zmt (by omega) hI (by omega)).symm
       exact Ql () trivial ⟨by rw [hq];rfl,rfl,rfl,rfl,rfl,rfl,rfl,rfl,trivial⟩ K1
    ·rintro _ -
     simp only [CA,NA]
     refine Ze<|Zg<|mv J<|dt (Bv J J J)<|mv J<|dt (Aj J J J)<|mv J<|mv J<|dt (Bv J J J)<|dt (Zfw J J J (by first | exact Nat.mod_lt _ Ps | omega))<|as_ J<|Zf<|Za<|Ze<|Yq (Ik 17 (v':= .int .u64 (t:Int)) J (by rw [hte,hQ1,Zua hY0 hYU]))<|Zg<|mv J<|mv J<|dt (u_quo J J J)<|as_ J<|Zf<|Za<|Ze<|Zg<|mv J<|mv J<|mv J<|dt (Bv J J J)<|dt (Zfw J J J (by first | exact Nat.mod_lt _ Ps | omega))<|as_ J<|Zf<|Za<|Da [(2,_),(8,_),(14,_),(15,_),(17,_)] [(0,_)] (fun(_:Unit)=>[(18,.int .u64 ((Q0:Nat):Int))]) (fun(_:Unit)=>[]) (fun(_:Unit)=>True) K5 K1 ?_ ?_
     ·refine Zo<|Yq (Ik 16 (v':= .int .u64 ((t%y1:Nat):Int)) J (by rw [rsub (by omega) (by omega)]))<|Nw [(2,_),(8,_),(9,_),(10,_),(14,_),(15,_),(17,_)] [(0,_)] (fun(q:Nat×Nat)=>[(18,.int .u64 (q.1:Int)),(16,.int .u64 (q.2:Int))]) (fun(q:Nat×Nat)=>[]) (fun(q:Nat×Nat)=>(dvI t v0 y1 y0 q.1 q.2)∧(q.2<4294967296)) (fun(q:Nat×Nat)=>q.1) (t/y1,t%y1) ⟨dv0 hy1 hy1l hy0 hv0 ht,Nat.lt_trans (Nat.mod_lt _ (by omega)) hy1l⟩ K9 K1 ?_
      rintro⟨a,r⟩ ⟨hI,hr⟩
      dsimp only at hI hr
      simp only [CA,NA]
      have hI1:=hI.1
      have hI2:=hI.2.1
      refine Ze<|Ze<|Zg<|mv J<|dt (Ke J J J)<|mv J<|Pa (d:=104) J (fun s559=>?_) (fun s559=>?_)
      ·refine gsk J J J<|gsk J J J<|gsk J J J<|gsk J J J<|gsk J J J<|gsk J J J<|gsk J J J<|gsk J J J<|dt (Yu J J J)<|Zf<|Za<|Pu J<|Zl<|Za<|Zo<|Ze ?_
       have hst:=Ziv (by omega) hI hv0 ht (by omega)
       have hst1:=hst.1
       refine Zg<|mv J<|dt (Zfw (n:=1) J J J)<|as_ J<|Zf<|Za<|Ze<|Yq (Ik 18 (v':= .int .u64 ((a-1:Nat):Int)) J (Zal (Zuk hst1 (by omega))))<|Zg<|mv J<|mv J<|dt (Aj J J J)<|as_ J<|Zf<|Za<|Ze<|Yq (Ik 16 (v':= .int .u64 ((r+y1:Nat):Int)) J (Zal (Nat.mod_eq_of_lt (by omega))))<|Zg<|mv J<|dt (Ke J J J)<|Zf<|Za<|Zs J (fun h562=>?_) (fun h562=>?_)
       ·refine Yw<|Zpq<|Zx<|Na ?_
        have hq:Q0=a-1:=by rw [hQ0,hYs];exact(Zdv (by omega) hy0 hst.2 (by omega) (by omega)).symm
        exact Ql () trivial ⟨by rw [hq];rfl,rfl,rfl,rfl,rfl,rfl,trivial⟩ K1
       ·exact Zl<|Oe<|Xp (a-1,r+y1) ⟨hst.2,by dsimp only;omega⟩ (by first | omega | (dsimp only<;>omega)) K9 K1
      ·have hm1:=Zoh (show a<4294967296 by omega) hy0
       have e1:=Nat.mod_eq_of_lt (show a*y0<U from hm1)
       have e2:=Nat.mod_eq_of_lt (show 4294967296*r<U by omega)
       have e3:=Nat.mod_eq_of_lt (show 4294967296*r+v0<U by omega)
       refine gdt (Yr J J) J J<|gdt (Yr J J) J J<|gdt (Bv J J J) J J<|gdt (Yr J J) J J<|gdt (Bv J J J) J J<|gdt (Yr J J) J J<|gdt (Aj J J J) J J<|gdt (Of J J J) J J<|dt (Yg J J J)<|Zf<|Za<|Zs J (fun h559=>?_) (fun h559=>?_)
       ·rw [e1,e2,e3]at h559
        refine Zl<|Za<|Zo<|Ze ?_
        have hst:=Ziv (by omega) hI hv0 ht (by omega)
        have hst1:=hst.1
        refine Zg<|mv J<|dt (Zfw (n:=1) J J J)<|as_ J<|Zf<|Za<|Ze<|Yq (Ik 18 (v':= .int .u64 ((a-1:Nat):Int)) J (Zal (Zuk hst1 (by omega))))<|Zg<|mv J<|mv J<|dt (Aj J J J)<|as_ J<|Zf<|Za<|Ze<|Yq (Ik 16 (v':= .int .u64 ((r+y1:Nat):Int)) J (Zal (Nat.mod_eq_of_lt (by omega))))<|Zg<|mv J<|dt (Ke J J J)<|Zf<|Za<|Zs J (fun h562_2=>?_) (fun h562_2=>?_)
        ·refine Yw<|Zpq<|Zx<|Na ?_
         have hq:Q0=a-1:=by rw [hQ0,hYs];exact(Zdv (by omega) hy0 hst.2 (by omega) (by omega)).symm
         exact Ql () trivial ⟨by rw [hq];rfl,rfl,rfl,rfl,rfl,rfl,trivial⟩ K1
        ·exact Zl<|Oe<|Xp (a-1,r+y1) ⟨hst.2,by dsimp only;omega⟩ (by first | omega | (dsimp only<;>omega)) K9 K1
       ·rw [e1,e2,e3]at h559
        refine Yw<|Zx<|Zx<|Na ?_
        have hq:Q0=a:=by rw [hQ0,hYs];exact(Zmt (by omega) hI (by omega)).symm
        exact Ql () trivial ⟨by rw [hq];rfl,rfl,rfl,rfl,rfl,rfl,trivial⟩ K1
     ·rintro _ -
      simp only [CA,NA]
      refine Ze<|Zg<|mv J<|dt (Bv J J J)<|mv J<|dt (Aj J J J)<|mv J<|dt (Bv J J J)<|mv J<|dt (Aj J J J)<|mv J<|mv J<|dt (Bv J J J)<|dt (Zfw J J J (by first | exact Nat.mod_lt _ Ps | omega))<|mv J<|dt (Zpr J J J J)<|as_ J<|as_ J<|Zf<|Za<|Zw ?_
      have hA:(Q1*4294967296%U+Q0)%U=(h*U+l)/y:=by rw [←Zjo _ y s,←hD,←hYe,hd1];simp only [U];omega
      have hB:((t*4294967296%U+v0)%U+(U-(Q0*Y)%U))%U/2^s=(h*U+l)%y:=by rw [←Zjn _ y s,←hD,←hYe,hd2,hQ0,Zua hY0 hYU]
      exact Zy (.inl J) hsc () _ (fun a w hs=>Nr hs results193 J J) (by rw [hA,hB]) trivial J Zj
theorem Zsz(v:Value)(x d:Nat)(hx:bl x≤8589934592)(hd:0<d)(hdU:d<U):Cal prog 192 #[v,.int .u64 (d:Int)] [dgp v x] false (G:=Value) (fun r=>True) (fun r=> .tuple #[r,.int .u64 ((x%d:Nat):Int)]) (fun r=>[dgp r (x/d)]):=by
 refine Yd func192 J ntmps192 J K1 ?_
 intro w0 sc hw hsc
 simp only [Zq,Zp]
 have hX:=Mm x
 refine Ze<|Zg<|as_ J<|as_ J<|Zf<|Za<|Ze<|Zg<|mv J<|dt (Yh J J (i:=1) J Zi Qb)<|tt (Gd (i:=2) (n:=(dg U x).length) (by_:=8) (enc:=Hg) 0 J J J J Qb ti149 J pU.cells pU.pos J J J hw) fun v _=>as_ J<|Zf<|Za<|Ze<|Zg<|as_ J<|Zf<|Za<|Ze<|Ze<|Zg<|mv J<|dt (Yh J J (i:=1) J Zi Qb)<|dt (Qf J J J ⟨by omega,by omega⟩)<|as_ J<|Zf<|Za<|Zo<|Nw [(0,_),(1,_),(6,_)] [(0,_),(1,_)] (fun(q:Nat×List Nat×Nat)=>[(8,.int .i64 ((q.1:Int)-1)),(7,.int .u64 (q.2.2:Int))]) (fun(q:Nat×List Nat×Nat)=>[(2,osl 1 149 Hg v q.2.1)]) (fun(q:Nat×List Nat×Nat)=>(q.1≤(dg U x).length)∧(q.2.1.length=(dg U x).length)∧(q.2.2<d)∧(∀d∈q.2.1,d<U)∧(val U (q.2.1.drop q.1)*d+q.2.2=val U ((dg U x).drop q.1))) (fun(q:Nat×List Nat×Nat)=>q.1) ((dg U x).length,List.replicate (dg U x).length 0,0) ⟨Nat.le_refl _,by simp,by first | omega | (dsimp only<;>omega),Ni _ Ps,by simp [val]⟩ K5 K3 ?_
 rintro⟨k,o,r⟩ ⟨hk,hol,hr,hall,hv⟩
 dsimp only at hk hol hr hall hv
 simp only [CA,NA]
 refine Ze<|Ze<|Zg<|mv J<|dt (Ke J J J)<|Zf<|Za<|Zs J (fun h158=>?_) (fun h158=>?_)
 ·exact Zl<|Za<|Ze<|Zo<|Zg<|mv J<|mv J<|mv J<|mv J<|mv J<|dt (Xc (ii:=1) (i:=k-1) J J J J Zi Qb Mi)<|dt (Xs (ii:=1) 0 J J J Zi pU (by first | omega | (simp only [List.length_set];omega)))<|mv J<|tt (Zh (n:=2) (Zpk _ _ _ (Qs Ps (Lo Ph _) _) hdU hr) J J J K3 call193 Zd J hw) fun _ _=>mv J<|dt (Yl J J J)<|dt (Yl J J J)<|dt (Xc (ii:=2) (i:=k-1) J J J J (Yt pU) Qb Mi)<|tt (Ij (i:=2) (enc:=Hg) _ J J J J J J pU J hw (by decide) (by first | omega | (simp only [List.length_set];omega))) fun _ _=>as_ J<|Zf<|Oe<|Za<|Zg<|mv J<|dt (Qf J J J ⟨by omega,by omega⟩)<|as_ J<|Zf<|Xp (k-1,_,_) ⟨by first | omega | (dsimp only<;>omega),by simp;omega,Nat.mod_lt _ hd,Lu hall _ _ (Zo2 (Qs Ps (Lo Ph x) _) hr),Zpx hd (by omega) (by omega) (by rw [show k-1+1=k by omega];exact hv)⟩ (by first | omega | (dsimp only<;>omega)) ⟨by rw [show(((k-1:Nat):Int)-1)=(k:Int)-1-1 by omega];rfl,rfl,rfl,rfl,rfl,trivial⟩ K3
 ·refine Yw<|Zx<|Zx<|Na<|Za<|Ze<|Zg<|mv J<|tt (Zh (n:=2) (Om _ _) J J J K1 call127 (Xr 2 J J pU Zd) J hw) fun _ _=>Oa (Zgf 2 J J pU)<|mv J<|as_ J<|as_ J<|Zf<|Za<|Zw ?_
  obtain rfl:k=0:=by omega
  rw [List.drop_zero,List.drop_zero,Le Ph]at hv
  have hq:tz o=dg U (x/d):=by
   rw [←Kr Ph _ hall,←hv,Nat.mul_comm,Nat.mul_add_div hd,Nat.div_eq_of_lt hr,Nat.add_zero]
  have hm:r=x%d:=by rw [←hv,Nat.mul_comm,Nat.mul_add_mod,Nat.mod_eq_of_lt hr]
  exact Zy (.inl J) hsc _ _ (fun a w hs=>Nr hs results192 J J) (by rw [hm]) trivial J (Ob 2 J J pU hq Zj)
theorem Il(v:Value)(x s:Nat)(hx:bl x≤4294967296)(hs:s≤4294967296:=by decide):Cal prog 132 #[v,.int .i64 (s:Int)] [dgp v x] false (G:=Value) (fun r=>True) (fun r=>r) (fun r=>[dgp r (x*2^s)]):=by
 refine Yd func132 J ntmps132 J K1 ?_
 intro w0 sc hw hsc
 simp only [Zq,Zp]
 obtain⟨w,hwe⟩:∃w,w=s/64:=⟨_,rfl⟩
 obtain⟨b,hbe⟩:∃b,b=s%64:=⟨_,rfl⟩
 have hX:=Mm x
 refine Ze<|Zg<|as_ J<|Zf<|Za<|Ze<|Ze<|Zg<|mv J<|dt (Yh J J (i:=1) J Zi Qb)<|dt (Pv J J J)<|Zf<|Za<|Zs J (fun h122=>?_) (fun h122=>?_)
 ·refine Ze<|Zg<|as_ J<|Zf<|Za<|Zw<|Xa<|Qy (Nh 9 1 149 Hg) ?_
  have hx0:x=0:=(Pn Ph x).1 (by omega)
  exact Zy (.inl J) hsc (.slice none 0 0) _ (fun a w hs=>Xy hs results132 J) J trivial J (Ob 9 J J pU (by rw [hx0,Nat.zero_mul];rfl) Zj)
 ·refine Zl<|Za<|Ze<|Zg<|mv J<|dt (Zkw J J J)<|mv J<|dt (Zmx J J J)<|as_ J<|as_ J<|Zf<|Za<|Ze<|Yq (Ik 5 (v':= .int .i64 (w:Int)) J (by congr 1;omega))<|Yq (Ik 6 (v':= .int .i64 (b:Int)) J (by congr 1;omega))<|Zg<|mv J<|dt (Yh J J (i:=1) J Zi Qb)<|mv J<|dt (Yy J J J ⟨by omega,by omega⟩)<|dt (Yy J J J ⟨by omega,by omega⟩)<|tt (Gd (i:=2) (n:=(dg U x).length+w+1) (by_:=8) (enc:=Hg) 0 J J J J Qb ti149 J pU.cells pU.pos J J J hw) fun v _=>as_ J<|Zf<|Za<|Ze<|Ze<|Zg<|mv J<|dt (Yh J J (i:=1) J Zi Qb)<|mv J<|Zf<|Za<|Zo ?_
  refine Nw [(5,_),(6,_),(7,_),(23,_),(24,_)] [(0,_),(1,_)] (fun(q:Nat×List Nat)=>[(25,.int .i64 (q.1:Int))]) (fun(q:Nat×List Nat)=>[(2,osl 1 149 Hg v q.2)]) (fun(q:Nat×List Nat)=>(q.1≤(dg U x).length)∧(q.2.length=(dg U x).length+w+1)∧(q.2.getD (w+q.1) 0<2^b)∧(∀j,w+q.1<j→q.2.getD j 0=0)∧(∀d∈q.2,d<U)∧(val U (q.2.take ((dg U x).length+w+1))=val U ((dg U x).take q.1)*2^b*U^w)) (fun(q:Nat×List Nat)=>(dg U x).length-q.1) (0,List.replicate ((dg U x).length+w+1) 0) ⟨by first | omega | (dsimp only<;>omega),by simp,by rw [Lr];exact Nat.two_pow_pos b,fun j _=>Lr _ j,Ni _ Ps,by rw [List.take_replicate,Ii];simp [val]⟩ K6 K3 ?_
  rintro⟨i,o⟩ ⟨hi,hol,hc,hz,hall,hv⟩
  dsimp only at hi hol hc hz hall hv
  simp only [CA,NA]
  have hst:i<(dg U x).length→_:=fun hlt=>Zwf (xs:=dg U x) (show b≤63 by omega) hol.symm (show w+i+1<_ by omega) hc (hz (w+i+1) (by omega)) (Qs Ps (Lo Ph x) i) hv
  refine Ze<|Zg<|dt (Xv J J J)<|Zf<|Za<|Ze<|Zs J (fun h127=>?_) (fun h127=>?_)
  ·refine Zl<|Za<|Ze<|Zo<|Ze<|Zg<|mv J<|dt (Xc (ii:=1) J J J J Zi Qb Mi J (by first | omega | (simp only [List.length_set];omega)))<|dt (Xs (ii:=1) 0 J J J Zi pU (by first | omega | (simp only [List.length_set];omega)))<|as_ J<|as_ J<|Zf<|Za<|Ze ?_
   have hX1:=Qs Ps (Lo Ph x) i
   refine Qo (fun _=>False) [(0,0),(1,0),(2,0),(3,0),(4,0),(5,0),(6,0),(7,0),(8,0),(9,0),(10,0),(11,3)] ?_ ?_
   ·kernel_rfl
   refine r0' J J (st0 (Yr J J))<|r0' J J (st0 (Yr J J))<|r0' J J (st0 (Yr J J))<|r0' J J (st0 (Yy J J J ⟨by omega,by omega⟩))<|r0' J J (st0 (Xc (ii:=2) (i:=w+i) J J J J (Yt pU) Qb Mi))<|r0' J J (st0 (Xs (ii:=2) 0 J J J (Yt pU) pU (by first | omega | (simp only [List.length_set];omega))))<|r0' J J (st0 (Yr J J))<|r0' J J (st0 (Yr J J))<|r0' J J (st0 (Zps J J (n:=b) J J))<|r0' J J (st0 (u_or J J J (Qs Ps hall _) (Nat.mod_lt _ Ps)))<|r0' J J (st0 (Xc (ii:=2) (i:=w+i) J J J J (Yt pU) Qb Mi))<|r3' J (Ij (i:=2) (enc:=Hg) _ J J J J J J pU J hw (by decide) (by first | omega | (simp only [List.length_set];omega))) fun _ _=>Oh<|Za<|Ze<|Zg<|mv J<|dt (Of J J J)<|Zf<|Za<|Zs J (fun h129=>?_) (fun h129=>?_)
   ·have hal2:=Lu (Lu hall (w+i) (o.getD (w+i) 0 ||| (dg U x).getD i 0*2^b%U) (Nat.or_lt_two_pow (n:=64) (Qs Ps hall _) (Nat.mod_lt _ Ps))) (w+i+1) ((dg U x).getD i 0/2^(64-b)) (Nat.lt_of_le_of_lt (Nat.div_le_self _ _) hX1)
    have hc2:((o.set (w+i) (o.getD (w+i) 0 ||| (dg U x).getD i 0*2^b%U)).set (w+i+1) ((dg U x).getD i 0/2^(64-b))).getD (w+i+1) 0<2^b:=by
     rw [Nq _ _ _ _ _ (by simp;omega),if_pos rfl];exact Zcp (by omega) hX1
    have hz2:∀j,w+i+1<j→((o.set (w+i) (o.getD (w+i) 0 ||| (dg U x).getD i 0*2^b%U)).set (w+i+1) ((dg U x).getD i 0/2^(64-b))).getD j 0=0:=fun j hj=>by
     rw [Nq _ _ _ _ _ (by simp;omega),if_neg (by omega),Nq _ _ _ _ _ (by omega),if_neg (by omega)];exact hz j (by omega)
    have hv2:=hst (by omega)
    exact Zg<|mv J<|mv J<|mv J<|dt (Yy J J J ⟨by omega,by omega⟩)<|dt (Yy J J J ⟨by omega,by omega⟩)<|mv J<|mv J<|dt (Qf J J J ⟨by omega,by omega⟩)<|dt (Zpr J J (n:=64-b) J (by omega))<|dt (Xc (ii:=2) (i:=w+i+1) J J J J (Yt pU) Qb Mi (by omega) (by simp only [List.length_set];omega))<|tt (Ij (i:=2) (enc:=Hg) _ J J J J J J pU J hw (by decide) (by simp only [List.length_set];omega)) fun _ _=>Zf<|Oe<|Za<|Zg<|dt (Yy J J J ⟨by omega,by omega⟩)<|mv J<|Zf<|Xp (i+1,_) ⟨by first | omega | (dsimp only<;>omega),by simp;omega,by dsimp only;rw [show w+(i+1)=w+i+1 by omega];exact hc2,fun j hj=>by have hj2:w+(i+1)<j:=hj;dsimp only;exact hz2 j (by omega),hal2,hv2⟩ (by first | omega | (dsimp only<;>omega)) K6 K3
   ·obtain rfl:b=0:=by omega
    have hal2:=Lu hall (w+i) (o.getD (w+i) 0 ||| (dg U x).getD i 0*2^0%U) (Nat.or_lt_two_pow (n:=64) (Qs Ps hall _) (Nat.mod_lt _ Ps))
    have hc2:(o.set (w+i) (o.getD (w+i) 0 ||| (dg U x).getD i 0*2^0%U)).getD (w+i+1) 0<2^0:=by
     rw [Nq _ _ _ _ _ (by omega),if_neg (by omega),hz _ (by omega)];exact Nat.two_pow_pos 0
    have hz2:∀j,w+i+1<j→(o.set (w+i) (o.getD (w+i) 0 ||| (dg U x).getD i 0*2^0%U)).getD j 0=0:=fun j hj=>by
     rw [Nq _ _ _ _ _ (by omega),if_neg (by omega)];exact hz j (by omega)
    have hv2:=hst (by omega)
    rw [show(dg U x).getD i 0/2^(64-0)=0 from Nat.div_eq_of_lt hX1]at hv2
    have hsame:=Zhy (o.set (w+i) (o.getD (w+i) 0 ||| (dg U x).getD i 0*2^0%U)) (w+i+1) (by rw [Nq _ _ _ _ _ (by omega),if_neg (by omega),hz _ (by omega)])
    rw [hsame]at hv2
    exact Zl<|Oe<|Za<|Zg<|dt (Yy J J J ⟨by omega,by omega⟩)<|mv J<|Zf<|Xp (i+1,_) ⟨by first | omega | (dsimp only<;>omega),by simp;omega,by dsimp only;rw [show w+(i+1)=w+i+1 by omega];exact hc2,fun j hj=>by have hj2:w+(i+1)<j:=hj;dsimp only;exact hz2 j (by omega),hal2,hv2⟩ (by first | omega | (dsimp only<;>omega)) K6 K3
  ·refine Yw<|Zx<|Zx<|Na<|Za<|Ze<|Zg<|mv J<|tt (Zh (n:=2) (Om _ _) J J J K1 call127 (Xr 2 J J pU Zd) J hw) fun _ _=>Oa (Zgf 2 J J pU)<|as_ J<|Zf<|Za<|Zw ?_
   obtain rfl:i=(dg U x).length:=by omega
   have hx2:tz o=dg U (x*2^s):=by
    rw [←Kr Ph _ hall]
    congr 1
    rw [Nu U o _ (by omega),List.take_of_length_le (Nat.le_refl _),Le Ph,Zc8,Nat.mul_assoc,←Nat.pow_add,show b+64*w=s by omega]at hv
    exact hv
   exact Zy (.inl J) hsc _ _ (fun a w hs=>Xy hs results132 J) J trivial J (Ob 2 J J pU hx2 Zj)
theorem nat_shr(v:Value)(x s:Nat)(hx:bl x≤8589934592)(hs:s≤8589934592):Cal prog 195 #[v,.int .i64 (s:Int)] [dgp v x] false (G:=Value) (fun r=>True) (fun r=>r) (fun r=>[dgp r (x/2^s)]):=by
 refine Yd func195 J ntmps195 J K1 ?_
 intro w0 sc hw hsc
 simp only [Zq,Zp]
 obtain⟨w,hwe⟩:∃w,w=s/64:=⟨_,rfl⟩
 obtain⟨b,hbe⟩:∃b,b=s%64:=⟨_,rfl⟩
 have hX:=Mm x
 have hdl:((dg U x).drop w).length=(dg U x).length-w:=List.length_drop
 refine Ze<|Zg<|as_ J<|Zf<|Za<|Ze<|Zg<|mv J<|dt (Zkw J J J)<|mv J<|dt (Zmx J J J)<|as_ J<|as_ J<|Zf<|Za<|Ze<|Ze<|Yq (Ik 5 (v':= .int .i64 (w:Int)) J (by congr 1;omega))<|Yq (Ik 6 (v':= .int .i64 (b:Int)) J (by congr 1;omega))<|Zg<|mv J<|mv J<|dt (Yh J J (i:=1) J Zi Qb)<|dt (Ke J J J)<|Zf<|Za<|Zs J (fun h139=>?_) (fun h139=>?_)
 ·refine Ze<|Zg<|as_ J<|Zf<|Za<|Zw<|Xa<|Qy (Nh 9 1 149 Hg) ?_
  have hx0:x/2^s=0:=by
   rw [Cj hwe hbe,Nat.div_eq_of_lt ((Qa Ph w x).1 (by omega)),Nat.zero_div]
  exact Zy (.inl J) hsc (.slice none 0 0) _ (fun a w hs=>Xy hs results195 J) J trivial J (Ob 9 J J pU (by rw [hx0];rfl) Zj)
 ·refine Zl<|Za<|Ze<|Zg<|mv J<|mv J<|dt (d_suf (ii:=1) (i:=w) J J J J Zi Qb Mi (by omega) (by omega))<|Oa (s_suf 1 2 (w) J J (by omega))<|tt (Zlk (n:=3) (Zuy _ _ (by simp only [List.length_drop];omega)) J J J K1 call200 (Zc 2 J J J Zd) J hw) fun v _=>as_ J<|Zf<|Za<|Da [(7,_)] [(0,_),(1,_),(2,_)] (fun(o:List Nat)=>[]) (fun(o:List Nat)=>[(3,osl 1 149 Hg v o)]) (fun(o:List Nat)=>(o.length=(dg U x).length-w)∧(∀j,j<o.length→o.getD j 0=x/2^s/U^j%U)) K1 K3 ?_ ?_
  ·refine Ze<|Zg<|mv J<|dt (Of J J J)<|Zf<|Za<|Zs J (fun h143=>?_) (fun h143=>?_)
   ·refine Ze<|Zg<|mv J<|dt (Yh J J (i:=3) J (Yt pU) Qb)<|mv J<|Zf<|Za<|Zo<|Nw [(0,_),(5,_),(6,_),(7,_),(24,_)] [(0,_),(1,_),(2,_)] (fun(q:Nat×List Nat)=>[(25,.int .i64 (q.1:Int))]) (fun(q:Nat×List Nat)=>[(3,osl 1 149 Hg v q.2)]) (fun(q:Nat×List Nat)=>(q.1≤(dg U x).length-w)∧(q.2.length=(dg U x).length-w)∧(∀j,j<q.1→q.2.getD j 0=x/2^s/U^j%U)∧(∀j,q.1≤j→q.2.getD j 0=x/U^w/U^j%U)∧(∀d∈q.2,d<U)) (fun(q:Nat×List Nat)=>(dg U x).length-w-q.1) (0,(dg U x).drop w) ⟨Nat.zero_le _,by simp,fun j hj=>absurd hj (Nat.not_lt_zero j),fun j _=>Zuf x w j,fun d hd=>Lo Ph x d (List.mem_of_mem_drop hd)⟩ K6 K4 ?_
    rintro⟨i,o⟩ ⟨hi,hol,hlo,hhi,hall⟩
    dsimp only at hi hol hlo hhi hall
    simp only [CA,NA]
    refine Ze<|Zg<|dt (Xv J J J)<|Zf<|Za<|Ze<|Zs J (fun h144=>?_) (fun h144=>?_)
    ·refine Zl<|Za<|Ze<|Zo<|Ze<|Zg<|mv J<|as_ J<|Zf<|Za<|Ze<|Zg<|mv J<|mv J<|dt (Xc (ii:=3) J J J J (Yt pU) Qb Mi J (by first | omega | (simp only [List.length_set];omega)))<|dt (Xs (ii:=3) 0 J J J (Yt pU) pU (by first | omega | (simp only [List.length_set];omega)))<|mv J<|dt (Zpr J J (n:=b) J J)<|dt (Xc (ii:=3) J J J J (Yt pU) Qb Mi J (by first | omega | (simp only [List.length_set];omega)))<|tt (Ij (i:=3) (enc:=Hg) _ J J J J J J pU J hw (by decide) (by first | omega | (simp only [List.length_set];omega))) fun _ _=>Zf<|Za<|Ze<|Zg<|mv J<|dt (Yy J J J ⟨by omega,by omega⟩)<|mv J<|dt (Yh J J (i:=3) J (Yt pU) Qb)<|dt (Xv J J J)<|Zf<|Za<|Zs J (fun h146=>?_) (fun h146=>?_)
     ·simp only [List.length_set]at h146
      have hnew:∀j,((o.set i (o.getD i 0/2^b)).set i ((o.set i (o.getD i 0/2^b)).getD i 0 ||| ((dg U x).getD (w+i+1) 0*2^(64-b))%U)).getD j 0=if i=j then x/2^s/U^i%U else o.getD j 0:=fun j=>by
       rw [Nq _ _ _ _ _ (by simp;omega),Nq _ _ _ _ _ (by omega),Nq _ _ _ _ _ (by omega)]
       split
       ·rw [if_pos rfl,hhi i (Nat.le_refl _),Hi Ph,Cj hwe hbe,Zo5,show x/U^(w+i+1)=x/U^w/U^i/U by rw [Nat.div_div_eq_div_mul,Nat.div_div_eq_div_mul,←Nat.pow_succ,←Nat.pow_add];rfl,Zno _ _ (by omega)]
       ·rfl
      have hal2:=Lu (Lu hall i (o.getD i 0/2^b) (Nat.lt_of_le_of_lt (Nat.div_le_self _ _) (Qs Ps hall _))) i ((o.set i (o.getD i 0/2^b)).getD i 0 ||| ((dg U x).getD (w+i+1) 0*2^(64-b))%U) (Nat.or_lt_two_pow (n:=64) (Qs Ps (Lu hall _ _ (Nat.lt_of_le_of_lt (Nat.div_le_self _ _) (Qs Ps hall _))) _) (Nat.mod_lt _ Ps))
      refine Qo (fun _=>False) [(0,0),(1,0),(2,0),(3,0),(4,0),(5,0),(6,0),(7,0),(8,0),(9,0),(10,0),(11,0),(12,0),(13,0),(14,0),(15,0),(16,3)] ?_ ?_
      ·kernel_rfl
      refine r0' J J (st0 (Yr J J))<|r0' J J (st0 (Yr J J))<|r0' J J (st0 (Xc (ii:=3) J J J J (Yt pU) Qb Mi J (by first | omega | (simp only [List.length_set];omega))))<|r0' J J (st0 (Xs (ii:=3) 0 J J J (Yt pU) pU (by first | omega | (simp only [List.length_set];omega))))<|r0' J J (st0 (Yr J J))<|r0' J J (st0 (Yr J J))<|r0' J J (st0 (Yr J J))<|r0' J J (st0 (Yy J J J ⟨by omega,by omega⟩))<|r0' J J (st0 (Yy J J J ⟨by omega,by omega⟩))<|r0' J J (st0 (Xc (ii:=1) (i:=w+i+1) J J J J Zi Qb Mi (by omega) (by first | omega | (simp only [List.length_set];omega))))<|r0' J J (st0 (Xs (ii:=1) 0 J J J Zi pU (by first | omega | (simp only [List.length_set];omega))))<|r0' J J (st0 (Yr J J))<|r0' J J (st0 (Qf J J J ⟨by omega,by omega⟩))<|r0' J J (st0 (Zps J J (n:=64-b) J (by omega)))<|r0' J J (st0 (u_or J J J (Qs Ps (Lu hall _ _ (Nat.lt_of_le_of_lt (Nat.div_le_self _ _) (Qs Ps hall _))) _) (Nat.mod_lt _ Ps)))<|r0' J J (st0 (Xc (ii:=3) J J J J (Yt pU) Qb Mi J (by first | omega | (simp only [List.length_set];omega))))<|r3' J (Ij (i:=3) (enc:=Hg) _ J J J J J J pU J hw (by decide) (by first | omega | (simp only [List.length_set];omega))) fun _ _=>Oh<|Oe<|Za<|Zg<|dt (Yy J J J ⟨by omega,by omega⟩)<|mv J<|Zf ?_
      exact Xp (i+1,_) ⟨by first | omega | (dsimp only<;>omega),by simp;omega,fun j hj=>by dsimp only;rw [hnew j];split;(· rename_i e;rw [←e]);exact hlo j (by have:j<i+1:=hj;omega),fun j hj=>by dsimp only;rw [hnew j,if_neg (by have:i+1≤j:=hj;omega)];exact hhi j (by have:i+1≤j:=hj;omega),hal2⟩ (by first | omega | (dsimp only<;>omega)) K6 K4
     ·have hnew:∀j,(o.set i (o.getD i 0/2^b)).getD j 0=if i=j then x/2^s/U^i%U else o.getD j 0:=fun j=>by
       rw [Nq _ _ _ _ _ (by omega)]
       split
       ·rw [hhi i (Nat.le_refl _),Cj hwe hbe,Zo5,Zrn _ _ (by omega)]
        rw [Nat.div_div_eq_div_mul,←Nat.pow_succ]
        exact Nat.div_eq_of_lt (Zti (by simp only [List.length_set]at h146;omega))
       ·rfl
      have hal2:=Lu hall i (o.getD i 0/2^b) (Nat.lt_of_le_of_lt (Nat.div_le_self _ _) (Qs Ps hall _))
      exact Zl<|Oe<|Za<|Zg<|dt (Yy J J J ⟨by omega,by omega⟩)<|mv J<|Zf<|Xp (i+1,_) ⟨by first | omega | (dsimp only<;>omega),by simp;omega,fun j hj=>by dsimp only;rw [hnew j];split;(· rename_i e;rw [←e]);exact hlo j (by have:j<i+1:=hj;omega),fun j hj=>by dsimp only;rw [hnew j,if_neg (by have:i+1≤j:=hj;omega)];exact hhi j (by have:i+1≤j:=hj;omega),hal2⟩ (by first | omega | (dsimp only<;>omega)) K6 K4
    ·exact Yw<|Zx<|Zx<|Na<|Ql _ ⟨by omega,by intro j hj;rw [hlo j (by omega)]⟩ K1 K4
   ·exact Zl<|Ql _ ⟨by simp,by intro j hj;rw [Zuf,Cj hwe hbe,show b=0 by omega,Nat.pow_zero,Nat.div_one]⟩ K1 K4
  ·rintro o ⟨hol,hv⟩
   simp only [CA,NA]
   refine Ze<|Zg<|mv J<|tt (Zh (n:=3) (Om _ _) J J J K1 call127 (Xr 3 J J pU Zd) J hw) fun _ _=>Oa (Zgf 3 J J pU)<|as_ J<|Zf<|Za<|Zw ?_
   have hx2:tz o=dg U (x/2^s):=Zpu Ph hv (by rw [hol,Cj hwe hbe];exact Nat.lt_of_le_of_lt (Nat.div_le_self _ _) (Zti (by omega)))
   exact Zy (.inl J) hsc _ _ (fun a w hs=>Xy hs results195 J) J trivial J (Ob 3 J J pU hx2 Zj)
theorem Zj9(v:Value)(x:Nat)(hx:bl x≤4294967296:=by omega):Mb prog 169 #[v] [dgp v x] (.string (Xd x)):=by
 refine Yd func169 J ntmps169 J K1 ?_
 intro w0 sc hw hsc
 simp only [Zq,Zp]
 have hX:=Mm x
 have hL:=Za9 x
 have hW:=lenU x
 have hrl:(List.replicate (dg 256 x).length (0:Nat)).length=(dg 256 x).length:=List.length_replicate
 refine Ze<|Zg<|as_ J<|Zf<|Za<|Ze<|Zg<|mv J<|tt (Zh (n:=1) (Zik _ _) J J J K1 call168 (Zc 1 J J J Zd) J hw) fun _ _=>dt (Yy J J J ⟨by omega,by omega⟩)<|dt (Zkw J J J)<|tt (Gd (i:=2) (n:=(dg 256 x).length) (by_:=1) (enc:=Zvp) 0 J J J J Zqo ti5 J pB.cells pB.pos J J J hw) fun v _=>as_ J<|Zf<|Za<|Ze<|Ze<|Zg<|mv J<|dt (Yh J J (i:=2) J (Yt pB) Zqo)<|mv J<|Zf<|Za<|Zo<|Nw [(0,_),(3,_),(12,_)] [(0,_),(1,_)] (fun(q:Nat×List Nat)=>[(13,.int .i64 (q.1:Int))]) (fun(q:Nat×List Nat)=>[(2,osl 1 5 Zvp v q.2)]) (fun(q:Nat×List Nat)=>(q.1≤(dg 256 x).length)∧(q.2.length=(dg 256 x).length)∧(∀j,j<q.1→q.2.getD j 0=x/256^((dg 256 x).length-1-j)%256)) (fun(q:Nat×List Nat)=>(dg 256 x).length-q.1) (0,List.replicate (dg 256 x).length 0) ⟨by first | omega | (dsimp only<;>omega),by simp,fun j hj=>absurd hj (Nat.not_lt_zero j)⟩ K4 K3 ?_
 rintro⟨i,o⟩ ⟨hi,hol,hov⟩
 dsimp only at hi hol hov
 simp only [CA,NA]
 refine Ze<|Zg<|dt (Xv J J J)<|Zf<|Za<|Ze<|Zs J (fun h48=>?_) (fun h48=>?_)
 ·refine Zl<|Za<|Ze<|Zo<|Ze<|Zg<|mv J<|as_ J<|Zf<|Za<|Ze<|Zg<|mv J<|dt (Yh J J (i:=2) J (Yt pB) Zqo)<|dt (Qf J J J ⟨by omega,by omega⟩)<|mv J<|dt (Qf J J J ⟨by omega,by omega⟩)<|as_ J<|Zf<|Za<|Yq (Ik 5 (v':= .int .i64 (((dg 256 x).length-1-i:Nat):Int)) J (by congr 1;omega)) ?_
  have hbyte:=Zk3 x ((dg 256 x).length-1-i)
  rw [←Hi Ph]at hbyte
  exact Zg<|mv J<|mv J<|mv J<|mv J<|dt (Zkw J J J)<|dt (Xc (ii:=1) (i:=((dg 256 x).length-1-i)/8) J J J J Zi Qb Mi)<|dt (Xs (ii:=1) 0 J J J Zi pU)<|mv J<|dt (Zmx J J J)<|dt (Cb J J J ⟨by omega,by omega⟩)<|dt (Zpr J J (n:=((dg 256 x).length-1-i)%8*8) J (by omega))<|dt (Zf6 J J Zd9 uT5)<|dt (Xc (ii:=2) J J J J (Yt pB) Zqo sizeOf5 J (by first | omega | (simp only [List.length_set];omega)))<|tt (Ij (i:=2) (enc:=Zvp) _ J J J J J J pB J hw (by decide) (by first | omega | (simp only [List.length_set];omega))) fun _ _=>Zf<|Oe<|Za<|Zg<|dt (Yy J J J ⟨by omega,by omega⟩)<|mv J<|Zf<|Xp (i+1,_) ⟨by first | omega | (dsimp only<;>omega),by simp;omega,fun j hj=>by dsimp only;rw [Nq _ _ _ _ _ (by omega)];split;(· rename_i e;rw [←e];exact hbyte);exact hov j (by omega)⟩ (by first | omega | (dsimp only<;>omega)) K4 K3
 ·refine Yw<|Zx<|Zx<|Na<|Za<|Ze<|Zg<|mv J<|dt (d_b2s J J (i:=2) J (Yt pB) Zqo uT9 uT5)<|as_ J<|Zf<|Za<|Zw ?_
  have hb:Xd x=⟨(o.map UInt8.ofNat).toArray⟩:=by
   have ho:o=(dg 256 x).reverse:=by
    refine Zcn (by simp;omega) (fun j hj=>?_)
    rw [hov j (by omega),Zkk _ _ _ (by omega),Hi (by omega)]
   rw [ho];rfl
  exact Zy (.inl J) hsc () _ (fun a w hs=>Xy hs results169 J) (by rw [hb]) trivial J Zj
theorem Zai(x:Nat)(hx:bl x≤4294967296:=by omega):Cal prog 170 #[.string (Xd x)] [] false (G:=Value) (fun r=>True) (fun r=>r) (fun r=>[dgp r x]):=by
 refine Yd func170 J ntmps170 J trivial ?_
 intro w0 sc hw hsc
 simp only [Zq,Zp]
 have hX:=Mm x
 have hL:=Za9 x
 have hW:=lenU x
 have hbs:=Lc x
 refine Ze<|Zg<|as_ J<|Zf<|Za<|Ze<|Zg<|mv J<|dt (Fl J J uT9)<|dt (Yy J J J ⟨by omega,by omega⟩)<|dt (Zkw J J J)<|tt (Gd (i:=1) (n:=(dg U x).length) (by_:=8) (enc:=Hg) 0 J J J J Qb ti149 J pU.cells pU.pos J J J hw) fun v _=>as_ J<|Zf<|Za<|Ze<|Ze<|Zg<|mv J<|dt (Fl J J uT9)<|mv J<|Zf<|Za<|Zo<|Nw [(0,_),(3,_),(12,_)] [(0,_)] (fun(q:Nat×List Nat)=>[(13,.int .i64 (q.1:Int))]) (fun(q:Nat×List Nat)=>[(1,osl 1 149 Hg v q.2)]) (fun(q:Nat×List Nat)=>(q.1≤(dg 256 x).length)∧(q.2.length=(dg U x).length)∧(∀w,w<q.2.length→q.2.getD w 0=hi x ((dg 256 x).length-q.1) w)) (fun(q:Nat×List Nat)=>(dg 256 x).length-q.1) (0,List.replicate (dg U x).length 0) ⟨by first | omega | (dsimp only<;>omega),by simp,fun w hw=>by dsimp only at *;rw [List.length_replicate]at hw;rw [Lr,hi_top (by omega)]⟩ K4 K2 ?_
 rintro⟨i,o⟩ ⟨hik,hol,hov⟩
 dsimp only at hik hol hov
 simp only [CA,NA]
 refine Ze<|Zg<|dt (Xv J J J)<|Zf<|Za<|Ze<|Zs J (fun h30=>?_) (fun h30=>?_)
 ·refine Zl<|Za<|Ze<|Zo<|Ze<|Zg<|mv J<|as_ J<|Zf<|Za<|Ze<|Zg<|mv J<|dt (Fl J J uT9)<|dt (Qf J J J ⟨by omega,by omega⟩)<|mv J<|dt (Qf J J J ⟨by omega,by omega⟩)<|as_ J<|Zf<|Za<|Yq (Ik 5 (v':= .int .i64 (((dg 256 x).length-1-i:Nat):Int)) J (by congr 1;omega)) ?_
  have hget:=Zd2 x i (by omega)
  have hw0:=hov (((dg 256 x).length-1-i)/8) (by omega)
  have hlt1:o.getD (((dg 256 x).length-1-i)/8) 0<U:=by rw [hw0];exact Nat.mod_lt _ Ps
  have hset:∀w,w<o.length→(o.set (((dg 256 x).length-1-i)/8) (o.getD (((dg 256 x).length-1-i)/8) 0 ||| (((Xd x).data.toList.getD i 0).toNat*2^(((dg 256 x).length-1-i)%8*8))%U)).getD w 0=hi x ((dg 256 x).length-(i+1)) w:=fun w hw=>by
   rw [hget,hw0,show(dg 256 x).length-i=(dg 256 x).length-1-i+1 by omega,hi_step,Nq _ _ _ _ _ (by omega),show(dg 256 x).length-(i+1)=(dg 256 x).length-1-i by omega]
   split
   ·rename_i e;rw [e]
   ·rename_i e;rw [hov w hw,show(dg 256 x).length-i=(dg 256 x).length-1-i+1 by omega];exact Zx4 e
  refine Qo (fun _=>False) [(0,0),(1,0),(2,0),(3,0),(4,0),(5,0),(6,0),(7,0),(8,0),(9,0),(10,0),(11,0),(12,0),(13,0),(14,0),(15,3)] ?_ ?_
  ·kernel_rfl
  exact r0' J J (st0 (Yr J J))<|r0' J J (st0 (Yr J J))<|r0' J J (st0 (Zkw J J J))<|r0' J J (st0 (Xc (ii:=1) (i:=((dg 256 x).length-1-i)/8) J J J J (Yt pU) Qb Mi))<|r0' J J (st0 (Xs (ii:=1) 0 J J J (Yt pU) pU (by first | omega | (simp only [List.length_set];omega))))<|r0' J J (st0 (Yr J J))<|r0' J J (st0 (Yr J J))<|r0' J J (st0 (Zqh J J J uT9 J))<|r0' J J (st0 (cv_u64 J J uT5 Zd9 (by have:=(((Xd x).data.toList.getD i 0).toNat_lt);simp only [U];omega)))<|r0' J J (st0 (Yr J J))<|r0' J J (st0 (Zmx J J J))<|r0' J J (st0 (Cb J J J ⟨by omega,by omega⟩))<|r0' J J (st0 (Zps J J (n:=((dg 256 x).length-1-i)%8*8) J (by omega)))<|r0' J J (st0 (u_or J J J (hlt1) (Nat.mod_lt _ Ps)))<|r0' J J (st0 (Xc (ii:=1) (i:=((dg 256 x).length-1-i)/8) J J J J (Yt pU) Qb Mi))<|r3' J (Ij (i:=1) (enc:=Hg) _ J J J J J J pU J hw (by decide) (by first | omega | (simp only [List.length_set];omega))) fun _ _=>Oh<|Oe<|Za<|Zg<|dt (Yy J J J ⟨by omega,by omega⟩)<|mv J<|Zf<|Xp (i+1,_) ⟨by first | omega | (dsimp only<;>omega),by simp;omega,fun w hw=>hset w (by simpa using hw)⟩ (by first | omega | (dsimp only<;>omega)) K4 K2
 ·refine Yw<|Zx<|Zx<|Na<|Za<|Ze<|Zg<|mv J<|as_ J<|Zf<|Za<|Zw ?_
  have ho:o=dg U x:=Zcn hol (fun j hj=>by rw [hov j hj,Hi Ph,hi_ge (by omega)])
  exact Zy (.inl J) hsc _ _ (fun a w hs=>Xy hs results170 J) J trivial J (Ob 1 J J pU ho Zj)
set_option maxHeartbeats 2000000 in
theorem Zs1(v w:Value)(x y:Nat)(hx:bl x≤4000000000)(hy0:bl y≤4000000000)(hy:0<y):Cal prog 174 #[v,w] [dgp v x,dgp w y] true (G:=Value×Value) (fun r=>True) (fun r=> .tuple #[r.1,r.2]) (fun r=>[dgp r.1 (x/y),dgp r.2 (x%y)]):=by
 refine Yd func174 J ntmps174 J K2 ?_
 intro w0 sc hw hsc
 simp only [Zq,Zp]
 have hX:=Mm x
 have hY:=Mm y
 refine Ze<|Zg<|as_ J<|as_ J<|Zf<|Za<|Ze<|Ze<|Zg<|mv J<|mv J<|tt (Zh (n:=2) (Av _ _ _ _ (by omega) (by omega)) J J J K2 call172 (Zc 1 J J J (Zc 2 J J J Zd)) J hw) fun r hr=>dt (Xv J J J)<|Zf<|Za<|Zs J (fun h166=>?_) (fun h166=>?_)
 ·have hlt:x<y:=hr.1.1 (by omega)
  exact Ze<|Zg<|mv J<|as_ J<|as_ J<|Zf<|Za<|Zw<|Xa<|Qy (Nh 9 1 149 Hg)<|Zy (.inl J) hsc (.slice none 0 0,v) _ (fun a w hs=>Nr hs results174 J J) J trivial J (Ob 9 J J pU (by rw [Nat.div_eq_of_lt hlt];rfl) (Yp 1 J J J (by rw [Nat.mod_eq_of_lt hlt]) Zj))
 ·have hge:y≤x:=by have:=hr.1;omega
  have hly:=Oz hge
  refine Zl<|Za<|Ze<|Ze<|Zg<|mv J<|dt (Yh J J (i:=2) J Zi Qb)<|dt (Pv J J J)<|Zf<|Za<|Zs J (fun h169=>?_) (fun h169=>?_)
  ·have hyU:y<U:=by have:=(Qa Ph 1 y).1 (by omega);simpa using this
   have hd0:(dg U y).getD 0 0=y:=by rw [Hi Ph];simp [Nat.mod_eq_of_lt hyU]
   exact Ze<|Zg<|mv J<|mv J<|dt (Xc (ii:=2) (i:=0) J J J J Zi Qb Mi J)<|dt (Xs (ii:=2) 0 J J J Zi pU (by first | omega | (simp only [List.length_set];omega)))<|tt (Zh (n:=3) (Zsz _ _ _ (by omega) (by rw [hd0];exact hy) (by rw [hd0];exact hyU)) J J J K2 call192 (Zc 1 J J J Zd) J hw) fun v _=>mv J<|dt (Yl J J J)<|dt (Yl J J J)<|as_ J<|as_ J<|Zf<|Za<|Ze<|Zg<|mv J<|mv J<|tt (Pm (i:=4) (ivs:=[(0,_)]) (enc:=Hg) [x%(dg U y).getD 0 0] J J K2 Qb ti149 J J J J J pU.cells J J hw) fun v_2 _=>tt (Zh (n:=4) (Om _ _) J J J K1 call127 (Xr 4 J J pU Zd) J hw) fun _ _=>Oa (Zgf 4 J J pU)<|as_ J<|as_ J<|Zf<|Za<|Zw<|Xa<|Zy (.inl J) hsc (_,_) _ (fun a w hs=>Nr hs results174 J J) J trivial J (Yp 3 J J J (by rw [hd0];rfl) (Ob 4 J J pU (by rw [Zeb (Nat.lt_trans (Nat.mod_lt _ (by rw [hd0];exact hy)) (by rw [hd0];exact hyU)),hd0]) Zj))
  ·refine Zl<|Za<|Ze ?_
   obtain⟨k,hk⟩:∃k,k=(dg U y).length:=⟨_,rfl⟩
   have hkx:k≤(dg U x).length:=by omega
   obtain⟨b,hb⟩:∃b,b=64-bl ((dg U y).getD (k-1) 0):=⟨_,rfl⟩
   obtain⟨hkD0,_,hk1,hDk0,hb63,hD630⟩:=norm_dg hy hk hb
   obtain⟨D,hDe⟩:∃D,D=y*2^b:=⟨_,rfl⟩
   have hkD:(dg U D).length=k:=by rw [hDe];exact hkD0
   have hDk:D<U^k:=by rw [hDe];exact hDk0
   have hD63:U^(k-1)*9223372036854775808≤D:=by rw [hDe];exact hD630
   have hD0:0<D:=by rw [hDe];exact Nat.mul_pos hy (Nat.two_pow_pos b)
   have hDb:bl D≤4000000064:=by rw [hDe,Zqk _ _ hy];omega
   refine Zg<|mv J<|mv J<|dt (Yh J J (i:=2) J Zi Qb)<|dt (Qf J J J ⟨by omega,by omega⟩)<|dt (Xc (ii:=2) (i:=(dg U y).length-1) J J J J Zi Qb Mi)<|dt (Xs (ii:=2) 0 J J J Zi pU (by first | omega | (simp only [List.length_set];omega)))<|tt (Zh (n:=4) (Zm7 _ (Qs Ps (Lo Ph y) _)) J J J K1 call189 Zd J hw) fun _ _=>Oa (Ik 44 (v':= .int .i64 (b:Int)) J (by rw [hb,hk]))<|as_ J<|Zf<|Za<|Da [(0,_),(8,_)] [(0,_),(1,_),(2,_)] (fun(q:Value×Value)=>[(9,q.1),(10,q.2)]) (fun(q:Value×Value)=>[(81,dgp q.1 D),(82,osl 1 149 Hg q.2 (List.replicate ((dg U x).length+1) 0))]) (fun(q:Value×Value)=>True) K2 K3 ?_ ?_
   ·refine Gb (fun _=>False) [8]<|Zu (n:=4) [(0,0),(1,0),(3,0),(4,0),(5,0)]<|r0' J J (st0 (Yr J J))<|r0' J J (st0 (Yr J J))<|r0' J J (st0 (Yr J J))<|r0' J J (st0 (Yh J J (i:=1) J Zi Qb))<|r0' J J (st0 (Yy J J J ⟨by omega,by omega⟩))<|Yk<|Qp (n:=3) 2 6 ?_ ?_
    ·exact Yf J (Zh (n:=81) (Il _ _ _ (by omega) (by omega)) J J J K2 call132 (Zc 2 J J J Zd) J hw) fun v_3 _=>Zu (n:=0) [(7,0),(6,1),(8,3)]<|r0' J J (st0 (Oy J J))<|r1' J (Gd (i:=82) (n:=(dg U x).length+1) (by_:=8) (enc:=Hg) 0 J J J J Qb ti149 J pU.cells pU.pos J J J hw) fun v_4 _=>r3' J (Pt (Oy J J) J) fun _ _=>Yk<|Yb<|Ql (_,_) trivial K4 ⟨by rw [hDe];rfl,rfl,rfl,rfl,rfl,trivial⟩
    ·exact Yf J (Gd (i:=82) (n:=(dg U x).length+1) (by_:=8) (enc:=Hg) 0 J J J J Qb ti149 J pU.cells pU.pos J J J hw) fun v_5 _=>Zu (n:=0) [(2,1),(7,0),(8,3)]<|r1' J (Zh (n:=81) (Il _ _ _ (by omega) (by omega)) J J J K2 call132 (Zc 2 J J J Zd) J hw) fun v_6 _=>r0' J J (st0 (Oy J J))<|r3' J (Pt (Oy J J) J) fun _ _=>Yk<|Yb<|Ql (_,_) trivial K4 ⟨by rw [hDe];rfl,rfl,rfl,rfl,rfl,trivial⟩
   ·rintro⟨vd,vr⟩ -
    simp only [CA,NA]
    refine Ze ?_
    have hnl:(dg U (x*2^b)).length≤(dg U x).length+1:=(Qa Ph _ _).2 (by rw [Nat.pow_succ];exact Nat.mul_lt_mul_of_lt_of_le ((Qa Ph _ x).1 (Nat.le_refl _)) (by rw [U_eq];exact Nat.pow_le_pow_right (by omega) (by omega)) Ps)
    refine Zg<|mv J<|mv J<|mv J<|tt (Zh (n:=5) (Il _ _ _ (by omega) (by omega)) J J J K2 call132 (Zc 1 J J J Zd) J hw) fun v_7 _=>tt (t_cpy (i:=82) (j:=5) 0 J J J J J J (by decide) J Zi (Zya _ _ _) (by rw [List.length_replicate];exact hnl) (by rw [List.length_replicate];omega) (by rw [List.length_replicate];omega) Qb pU J hw) fun _ _=>Zf<|Za<|Ze ?_
    have hR0l:(spl (List.replicate ((dg U x).length+1) 0) 0 (dg U (x*2^b))).length=(dg U x).length+1:=by rw [Ki _ _ _ (by rw [List.length_replicate];omega),List.length_replicate]
    refine Zg<|mv J<|dt (Yh J J (i:=81) J Zi Qb)<|as_ J<|Zf<|Za<|Ze ?_
    have hql0:(List.replicate ((dg U x).length+1-k) (0:Nat)).length=(dg U x).length+1-k:=List.length_replicate
    refine Yq (Ik 11 (v':= .int .i64 (k:Int)) J (by rw [hkD]))<|Zg<|mv J<|dt (Yh J J (i:=82) J (Yt pU) Qb)<|mv J<|dt (Qf J J J ⟨by omega,by omega⟩)<|tt (Gd (i:=6) (n:=(dg U x).length+1-k) (by_:=8) (enc:=Hg) 0 J J J J Qb ti149 J pU.cells pU.pos J J J hw) fun v_8 _=>as_ J<|Zf<|Za<|Ze<|Ze<|Zg<|mv J<|dt (Yh J J (i:=6) J (Yt pU) Qb)<|dt (Qf J J J ⟨by omega,by omega⟩)<|as_ J<|Zf<|Za<|Zo ?_
    refine Nw [(8,_),(9,_),(10,_),(11,_),(12,_)] [(0,_),(81,_),(1,_),(2,_),(5,_)] (fun(q:Nat×List Nat×List Nat)=>[(13,.int .i64 ((q.1:Int)-1))]) (fun(q:Nat×List Nat×List Nat)=>[(82,osl 1 149 Hg vr q.2.1),(6,osl 1 149 Hg v_8 q.2.2)]) (fun(q:Nat×List Nat×List Nat)=>(q.1≤(dg U x).length+1-k)∧(q.2.1.length=(dg U x).length+1)∧(∀d∈q.2.1,d<U)∧(q.2.2.length=(dg U x).length+1-k)∧(∀d∈q.2.2,d<U)∧(val U q.2.1<D*U^q.1)∧(val U (q.2.2.drop q.1)*U^q.1*D+val U q.2.1=x*2^b)) (fun(q:Nat×List Nat×List Nat)=>q.1) ((dg U x).length+1-k,spl (List.replicate ((dg U x).length+1) 0) 0 (dg U (x*2^b)),List.replicate ((dg U x).length+1-k) 0) ⟨Nat.le_refl _,hR0l,Zm8 (Ni _ Ps) (Lo Ph _) 0,by simp,Ni _ Ps,by rw [Znf,Le Ph];exact Zye ((Qa Ph _ x).1 (Nat.le_refl _)) hb63 hk1 (by omega) hD63,by rw [Znf,Le Ph];simp [val]⟩ ⟨by rw [List.length_replicate];rfl,rfl,rfl,rfl,rfl,rfl,trivial⟩ K7 ?_
    rintro⟨jj,R,q⟩ ⟨hj,hRl,hRa,hql,hqa,hV,hN⟩
    dsimp only at hj hRl hRa hql hqa hV hN
    simp only [CA,NA]
    refine Ze<|Ze<|Zg<|mv J<|dt (Ke J J J)<|Zf<|Za<|Zs J (fun h179=>?_) (fun h179=>?_)
    ·refine Zl<|Za<|Ze<|Zo<|Ze ?_
     have hW1:val U R<U^(jj-1+k+1):=by
      refine Nat.lt_of_lt_of_le hV ?_
      rw [show jj-1+k+1=k+jj by omega,Nat.pow_add]
      exact Nat.mul_le_mul_right _ (Nat.le_of_lt hDk)
     have hWz:tz ((R.drop (jj-1)).take (jj-1+k+1-(jj-1)))=dg U (val U R/U^(jj-1)):=win_val hRa (by omega) (by rw [show jj-1+(jj-1+k+1-(jj-1))=jj-1+k+1 by omega];exact hW1)
     have hWD:val U R/U^(jj-1)<D*U:=by
      rw [Nat.div_lt_iff_lt_mul (Nat.pow_pos Ps),Nat.mul_assoc,←Nat.pow_succ',show(jj-1).succ=jj by omega];exact hV
     have hWb:bl (val U R/U^(jj-1))≤4294967296:=by
      have h1:=Oz (Nat.le_of_lt hWD)
      have h2:=Zk7 D U
      have h3:bl U≤65:=(Mp 65 U).2 (by simp [U])
      omega
     have htop:=top_two hRa (j:=jj-1) hk1 hW1 (by omega)
     have hDt:(dg U D).getD (k-1) 0*U^(k-1)≤D:=by
      rw [Hi Ph];exact Nat.le_trans (Nat.mul_le_mul_right _ (Nat.mod_le _ _)) (Nat.div_mul_le_self _ _)
     have hQU:val U R/U^(jj-1)/D≤18446744073709551615:=by
      have:=(Nat.div_lt_iff_lt_mul hD0).2 (show _<U*D by rw [Nat.mul_comm];exact hWD)
      simp only [U]at this ⊢;omega
     refine Zg<|as_ J<|Zf<|Za<|Da [(8,_),(9,_),(10,_),(11,_),(12,_),(13,_)] [(0,_),(82,_),(6,_),(81,_),(1,_),(2,_),(5,_)] (fun(g:Nat)=>[(14,.int .u64 (g:Int))]) (fun(g:Nat)=>[]) (fun(g:Nat)=>(val U R/U^(jj-1)/D≤g)∧(g<U)) K6 K7 ?_ ?_
     ·refine Ze<|Qo (fun _=>False) [(0,0),(1,0),(2,0),(3,0),(4,0),(5,0),(6,0),(7,0),(8,0),(9,0),(10,0),(11,0)] ?_ ?_
      ·kernel_rfl
      refine r0' J J (st0 (Yr J J))<|r0' J J (st0 (Yr J J))<|r0' J J (st0 (Yr J J))<|r0' J J (st0 (Yy J J J ⟨by omega,by omega⟩))<|r0' J J (st0 (Xc (ii:=82) (i:=jj-1+k) J J J J (Yt pU) Qb Mi))<|r0' J J (st0 (Xs (ii:=82) 0 J J J (Yt pU) pU (by first | omega | (simp only [List.length_set];omega))))<|r0' J J (st0 (Yr J J))<|r0' J J (st0 (Yr J J))<|r0' J J (st0 (Qf J J J ⟨by omega,by omega⟩))<|r0' J J (st0 (Xc (ii:=81) (i:=k-1) J J J J Zi Qb Mi))<|r0' J J (st0 (Xs (ii:=81) 0 J J J Zi pU (by first | omega | (simp only [List.length_set];omega))))<|r0' J J (st0 (Xv J J J))<|Oh<|Za<|Zs J (fun h182=>?_) (fun h182=>?_)
      ·refine Qo (fun _=>False) [(0,0),(1,0),(2,0),(3,0),(4,0),(5,0),(6,0),(7,0),(8,0),(9,0),(10,0),(11,0),(12,0),(13,0),(14,0),(15,0),(16,0),(17,0),(18,1),(19,0),(20,0),(21,0),(22,0)] ?_ ?_
       ·kernel_rfl
       refine r0' J J (st0 (Yr J J))<|r0' J J (st0 (Yr J J))<|r0' J J (st0 (Yr J J))<|r0' J J (st0 (Yy J J J ⟨by omega,by omega⟩))<|r0' J J (st0 (Xc (ii:=82) (i:=jj-1+k) J J J J (Yt pU) Qb Mi))<|r0' J J (st0 (Xs (ii:=82) 0 J J J (Yt pU) pU (by first | omega | (simp only [List.length_set];omega))))<|r0' J J (st0 (Yr J J))<|r0' J J (st0 (Yr J J))<|r0' J J (st0 (Yr J J))<|r0' J J (st0 (Yy J J J ⟨by omega,by omega⟩))<|r0' J J (st0 (Qf J J J ⟨by omega,by omega⟩))<|r0' J J (st0 (Xc (ii:=82) (i:=jj-1+k-1) J J J J (Yt pU) Qb Mi))<|r0' J J (st0 (Xs (ii:=82) 0 J J J (Yt pU) pU (by first | omega | (simp only [List.length_set];omega))))<|r0' J J (st0 (Yr J J))<|r0' J J (st0 (Yr J J))<|r0' J J (st0 (Qf J J J ⟨by omega,by omega⟩))<|r0' J J (st0 (Xc (ii:=81) (i:=k-1) J J J J Zi Qb Mi))<|r0' J J (st0 (Xs (ii:=81) 0 J J J Zi pU (by first | omega | (simp only [List.length_set];omega))))<|r1' J (Zh (n:=6) (Zpk _ _ _ (Qs Ps hRa _) (Qs Ps (Lo Ph _) _) (by omega)) J J J K3 call193 Zd J hw) fun _ _=>r0' J J (st0 (Yr J J))<|r0' J J (st0 (Yl J J J))<|r0' J J (st0 (Yl J J J))<|r0' J J (st0 (Oy J J))<|Oh ?_
       exact Ql _ ⟨Zx5 hDt (by omega) htop,Zo2 (Qs Ps hRa _) (by omega)⟩ K7 K7
      ·exact Zl<|Ql 18446744073709551615 ⟨hQU,by decide⟩ K7 K7
     ·rintro g ⟨hg,hgU⟩
      simp only [CA,NA]
      refine Ze<|Zg<|mv J<|mv J<|mv J<|mv J<|dt (Yy J J J ⟨by omega,by omega⟩)<|dt (Yy J J J ⟨by omega,by omega⟩)<|dt (d_mid (ii:=82) (i:=jj-1) (j:=jj-1+k+1) J J J J J (Yt pU) Qb Mi (by omega) (by omega) (by omega) (by omega))<|as_ J<|Zf<|Za<|Ze<|Zg<|mv J<|mv J<|tt (Pm (i:=7) (ivs:=[(0,_)]) (enc:=Hg) [g] J J K2 Qb ti149 J J J J J pU.cells J J hw) fun v_9 _=>tt (Zh (n:=7) (Om _ _) J J J K1 call127 (Xr 7 J J pU Zd) J hw) fun _ _=>Oa (Zgf 7 J J pU)<|Oa (Zfy 7 (Zeb hgU) J J)<|tt (Zh (n:=83) (Zs0 _ _ _ _ (by omega) (Nat.le_trans ((Mp 64 g).2 hgU) (by omega))) J J J K2 call194 (Zc 81 J J J (Xr 7 J J pU Zd)) J hw) fun v_10 _=>as_ J<|Zf<|Za<|Ze<|Zo<|Nw [(8,_),(9,_),(10,_),(11,_),(12,_),(13,_),(15,_)] [(0,_),(82,_),(6,_),(81,_),(1,_),(2,_),(5,_),(7,_)] (fun(q:Nat×Value)=>[(14,.int .u64 (q.1:Int)),(16,q.2)]) (fun(q:Nat×Value)=>[(83,dgp q.2 (D*q.1))]) (fun(q:Nat×Value)=>(val U R/U^(jj-1)/D≤q.1)∧(q.1<U)) (fun(q:Nat×Value)=>q.1) (g,_) ⟨by first | omega | (dsimp only<;>omega),by first | omega | (dsimp only<;>omega)⟩ K9 K9 ?_
      rintro⟨g,vp⟩ ⟨hg,hgU⟩
      dsimp only at hg hgU
      simp only [CA,NA]
      have hPb:bl (D*g)≤4294967296:=by have h1:=Zk7 D g;have h2:=(Mp 64 g).2 hgU;omega
      refine Ze<|Ze<|Zg<|mv J<|tt (Zh (n:=7) (Om _ _) J J J K1 call127 (Zaz 82 J J pU (Zh3 (jj-1) (jj-1+k+1)) (Zi2 _ _ _ _) Zd) J hw) fun _ _=>mv J<|tt (Zh (n:=7) (Av _ _ _ _ hWb hPb) J J J K2 call172 (Zaz 82 J J pU (row_tz hWz (by rw [hWz]) (Zh3 (jj-1) (jj-1+k+1))) (by rw [Nt];exact(Zi2 _ _ _ _)) (Zc 83 J J J Zd)) J hw) fun r_2 hr_2=>dt (Xv J J J)<|Zf<|Za<|Zs J (fun h187=>?_) (fun h187=>?_)
      ·have hlt:val U R/U^(jj-1)<D*g:=hr_2.1.1 (by omega)
       have hg1:1≤g:=by rcases Nat.eq_zero_or_pos g with h | h;(rw [h,Nat.mul_zero]at hlt;exact absurd hlt (Nat.not_lt_zero _));exact h
       have hDg:D≤D*g:=Nat.le_mul_of_pos_right _ hg1
       have hQg:val U R/U^(jj-1)/D≤g-1:=by have:=(Nat.div_lt_iff_lt_mul hD0).2 (show _<g*D by rw [Nat.mul_comm];exact hlt);omega
       exact Zl<|Za<|Zo<|Ze<|Zg<|mv J<|dt (Zfw (n:=1) J J J)<|as_ J<|Zf<|Za<|Yq (Ik 14 (v':= .int .u64 ((g-1:Nat):Int)) J (Zal (Zuk hg1 hgU)))<|Zg<|mv J<|mv J<|tt (Zh (n:=8) (Ze8 _ _ _ _ hPb hDg) J J J K2 call173 (Zc 83 J J J (Zc 81 J J J Zd)) J hw) fun v_11 _=>as_ J<|Zf<|Oe<|Qy (Od 8 83 J J J)<|Xp (g-1,_) ⟨hQg,by dsimp only;omega⟩ (by first | omega | (dsimp only<;>omega)) K9 ⟨by rw [Nat.mul_sub_one];rfl,rfl,rfl,rfl,rfl,rfl,rfl,rfl,rfl,trivial⟩
      ·refine Yw<|Zx<|Zx<|Na<|Za<|Ze ?_
       have hQ:g=val U R/U^(jj-1)/D:=by
        have h1:=hr_2.1
        have h2:D*g≤val U R/U^(jj-1):=by omega
        exact Nat.le_antisymm ((Nat.le_div_iff_mul_le hD0).2 (by rw [Nat.mul_comm];exact h2)) hg
       refine Zg<|mv J<|tt (Zh (n:=8) (Om _ _) J J J K1 call127 (Zaz 82 J J pU (Zh3 (jj-1) (jj-1+k+1)) (Zi2 _ _ _ _) Zd) J hw) fun _ _=>mv J<|tt (Zh (n:=9) (Ze8 _ _ _ _ hWb) J J J K2 call173 (Zaz 82 J J pU (row_tz hWz (by rw [hWz]) (Zh3 (jj-1) (jj-1+k+1))) (by rw [Nt];exact(Zi2 _ _ _ _)) (Zc 83 J J J Zd)) J hw) fun v_12 _=>as_ J<|Zf<|Za<|Ze ?_
       have hll:(dg U (val U R/U^(jj-1)-D*g)).length≤jj-1+k+1-(jj-1):=by
        have:val U R/U^(jj-1)-D*g<D:=by rw [hQ];have h3:=Nat.div_add_mod (val U R/U^(jj-1)) D;have h4:=Nat.mod_lt (val U R/U^(jj-1)) hD0;omega
        have:=(Qa Ph k _).2 (Nat.lt_trans this hDk)
        omega
       refine Zg<|mv J<|tt (t_clr (zv:= .bool false) (i:=82) (z:=0) (jj-1) J J J J (by decide) (Zuc _ _ _ (by omega)) (by omega) (by omega) Qb pU (fun w=>zeroValue149 w) J J hw) fun _ _=>Zf<|Za<|Ze<|Zg<|mv J<|mv J<|tt (t_cpy (i:=82) (j:=9) (jj-1) J J J J J J (by decide) J Zi (Zuc _ _ _ (by rw [Ki _ _ _ (by rw [List.length_replicate];omega)];omega)) hll (by rw [Ki _ _ _ (by rw [List.length_replicate];omega)];omega) (by rw [Ki _ _ _ (by rw [List.length_replicate];omega)];omega) Qb pU J hw) fun _ _=>Zf<|Za ?_
       have hL1:jj-1+(List.replicate (jj-1+k+1-(jj-1)) 0).length≤R.length:=by rw [List.length_replicate];omega
       have hl1:=Ki R (jj-1) _ hL1
       have hL2:jj-1+(dg U (val U R/U^(jj-1)-D*g)).length≤(spl R (jj-1) (List.replicate (jj-1+k+1-(jj-1)) 0)).length:=by omega
       have hval:=val_win hRa (j:=jj-1) (n:=jj-1+k+1-(jj-1)) (by omega) (by rw [show jj-1+(jj-1+k+1-(jj-1))=jj-1+k+1 by omega];exact hW1) hll
       rw [Le Ph]at hval
       have hst:=Zyc (j:=jj-1) (N:=x*2^b) (Vq:=val U (q.drop jj)) hD0 hQ (by rw [show jj-1+1=jj by omega];exact hN)
       have hV2:=hst.1
       have hN2:=hst.2
       rw [←hval]at hV2 hN2
       have hdq:val U ((q.set (jj-1) g).drop (jj-1))=g+U*val U (q.drop jj):=by rw [drop_set _ _ _ (by omega),show jj-1+1=jj by omega];rfl
       rw [←hdq]at hN2
       exact Zg<|mv J<|mv J<|mv J<|dt (Xc (ii:=6) (i:=jj-1) J J J J (Yt pU) Qb Mi)<|tt (Ij (i:=6) (enc:=Hg) _ J J J J J J pU J hw (by decide) (by first | omega | (simp only [List.length_set];omega))) fun _ _=>Zf<|Oe<|Za<|Zg<|mv J<|dt (Qf J J J ⟨by omega,by omega⟩)<|as_ J<|Zf<|Xp (jj-1,_,_) ⟨by first | omega | (dsimp only<;>omega),(Ki _ _ _ hL2).trans (hl1.trans hRl),Zm8 (Zm8 hRa (Ni _ Ps) _) (Lo Ph _) _,by simp;omega,Lu hqa _ _ hgU,hV2,hN2⟩ (by first | omega | (dsimp only<;>omega)) ⟨by rw [show(((jj-1:Nat):Int)-1)=(jj:Int)-1-1 by omega];rfl,rfl,rfl,rfl,rfl,rfl,trivial⟩ K7
    ·refine Yw<|Zx<|Zx<|Na<|Za<|Ze ?_
     obtain rfl:jj=0:=by omega
     rw [Nat.pow_zero,Nat.mul_one]at hV
     have hVb:bl (val U R)≤8589934592:=by have:=Oz (Nat.le_of_lt hV);omega
     refine Zg<|mv J<|tt (Zh (n:=9) (Om _ _) J J J K1 call127 (Xr 6 J J pU Zd) J hw) fun _ _=>Oa (Zgf 6 J J pU)<|mv J<|tt (Zh (n:=9) (Om _ _) J J J K1 call127 (Xr 82 J J pU Zd) J hw) fun _ _=>Oa (Zgf 82 J J pU)<|Oa (Zfy 82 (Kr Ph R hRa).symm J J)<|mv J<|tt (Zh (n:=10) (nat_shr _ _ _ hVb (by omega)) J J J K2 call195 (Xr 82 J J pU Zd) J hw) fun v_13 _=>as_ J<|as_ J<|Zf<|Za<|Zw ?_
     rw [List.drop_zero,Nat.pow_zero,Nat.mul_one]at hN
     have hqq:tz q=dg U (x/y):=by
      rw [←Kr Ph _ hqa,←Zjo x y b,←hDe,←hN,Nat.mul_comm,Nat.mul_add_div hD0,Nat.div_eq_of_lt hV,Nat.add_zero]
     have hrr:val U R/2^b=x%y:=by
      rw [←Zjn x y b,←hDe,←hN,Nat.mul_comm,Nat.mul_add_mod,Nat.mod_eq_of_lt hV]
     exact Zy (.inl J) hsc (_,_) _ (fun a w hs=>Nr hs results174 J J) J trivial J (Ob 6 J J pU hqq (Yp 10 J J J (by rw [hrr]) Zj))
theorem Zmb(v w:Value)(x y:Nat)(hx:bl x≤4000000000:=by omega)(hy:bl y≤4000000000:=by omega):Cal prog 185 #[v,w] [dgp v x,dgp w y] true (G:=Value) (fun r=>True) (fun r=>r) (fun r=>[dgp r (Nat.gcd x y)]):=by
 refine Yd func185 J ntmps185 J K2 ?_
 intro w0 sc hw hsc
 simp only [Zq,Zp]
 have hX:=Mm x
 have hY:=Mm y
 refine Ze<|Zg<|as_ J<|Zf<|Za<|Ze<|Zo<|Yq (Od 1 91 J J J)<|Yq (Od 2 92 J J J)<|Nw [] [(0,_),(1,_),(2,_)] (fun(q:Value×Value×Nat×Nat)=>[(0,q.1),(1,q.2.1)]) (fun(q:Value×Value×Nat×Nat)=>[(91,dgp q.1 q.2.2.1),(92,dgp q.2.1 q.2.2.2)]) (fun(q:Value×Value×Nat×Nat)=>(Nat.gcd q.2.2.1 q.2.2.2=Nat.gcd x y)∧(bl q.2.2.1≤4000000000)∧(bl q.2.2.2≤4000000000)) (fun(q:Value×Value×Nat×Nat)=>q.2.2.2) (v,w,x,y) ⟨J,hx,hy⟩ K2 K5 ?_
 rintro⟨va,vb,a,b⟩ ⟨hg,ha,hb⟩
 dsimp only at hg ha hb
 simp only [CA,NA]
 refine Ze<|Ze<|Zg<|mv J<|dt (Yh J J (i:=92) J Zi Qb)<|dt (Of J J J)<|Zf<|Za<|Zs J (fun h201=>?_) (fun h201=>?_)
 ·have hb0:0<b:=by rcases Nat.eq_zero_or_pos b with h | h;(subst h;simp [Ir]at h201);exact h
  refine Zl<|Za<|Zo<|Ze<|Zg<|mv J<|mv J<|tt (Zh (n:=3) (Zs1 _ _ _ _ ha hb hb0) J J J K2 call174 (Zc 91 J J J (Zc 92 J J J Zd)) J hw) fun g _=>mv J<|dt (Yl J J J)<|dt (Yl J J J)<|as_ J<|as_ J<|Zf<|Za<|Zg<|mv J<|mv J<|as_ J<|as_ J<|Zf<|Oe ?_
  have hlt:a%b<b:=Nat.mod_lt _ hb0
  exact Qy (Od 92 91 J J J)<|Qy (Od 4 92 J J J)<|Xp (_,_,b,a%b) ⟨by dsimp only;rw [←hg,Nat.gcd_comm b,←Nat.gcd_rec,Nat.gcd_comm],hb,Nat.le_trans (Oz (Nat.le_of_lt hlt)) hb⟩ hlt K2 K5
 ·have hb0:b=0:=(Pn Ph b).1 (by omega)
  exact Yw<|Zx<|Zx<|Na<|Za<|Ze<|Zg<|mv J<|as_ J<|Zf<|Za<|Zw<|Zy (.inl J) hsc _ _ (fun a w hs=>Xy hs results185 J) J trivial J (Yp 91 J J J (by rw [←hg,hb0,Nat.gcd_zero_right]) Zj)
theorem Zl9(s:Bool)(v:Value)(x:Int)(hs:sg s x):Cal prog 134 #[.agg #[.bool s,v]] [dgp v x.natAbs] true (G:=Bool×Value) (fun r=>sg r.1 (-x)) (fun r=> .agg #[.bool r.1,r.2]) (fun r=>[dgp r.2 (-x).natAbs]):=by
 refine Yd func134 J ntmps134 J K1 ?_
 intro w0 sc hw hsc
 simp only [Zq,Zp]
 exact Ze<|Zg<|tt (Yz (i:=2) J J J J J hw) fun b _=>tt (Zr (i:=3) J J zeroValue154 J J hw) fun b_2 _=>Zf<|Za<|Ze<|Zg<|dt (Xu J J Ld J zT4 J J)<|dt (Ok (i:=2) J J J iA4 J)<|dt (Xh J J)<|dt (Xu J J Ld J Fo J J)<|dt (Ok (i:=2) J J J Fu J)<|dt (Oc (ivs:=[(0,_),(1,_)]) J K4 (fun a w hs=>Nd ((Zb J) a w hs) ((Zk (i:=1) J Zi) a w hs)))<|tt (Zm (i:=3) J J J J J (by decide) J Xi J J ⟨Zb J,Zk (i:=1) J Zi,trivial⟩ J hw trivial) fun _ _=>Zf<|Za<|Zw<|Zy (.inl J) hsc (!s,v) _ (fun a w hs=>Xy hs results134 (Ys (i:=3) J J Kb Xi J)) J (sg_neg hs) J (Yp 1 J J J (by rw [Int.natAbs_neg]) Zj)
theorem Zcg(s t:Bool)(v w:Value)(x y:Int)(hs:sg s x)(ht:sg t y)(hx:bl x.natAbs≤4294967296:=by omega)(hy:bl y.natAbs≤4294967296:=by omega):Cal prog 176 #[.agg #[.bool s,v],.agg #[.bool t,w]] [dgp v x.natAbs,dgp w y.natAbs] true (G:=Bool×Value) (fun r=>sg r.1 (x*y)) (fun r=> .agg #[.bool r.1,r.2]) (fun r=>[dgp r.2 (x*y).natAbs]):=by
 refine Yd func176 J ntmps176 J K2 ?_
 intro w0 sc hw hsc
 simp only [Zq,Zp]
 refine Ze<|Zg<|tt (Yz (i:=3) J J J J J hw) fun b _=>tt (Yz (i:=4) J J J J J hw) fun b_2 _=>tt (Zr (i:=5) J J zeroValue154 J J hw) fun b_3 _=>Zf<|Za<|Ze<|Qo (fun _=>False) [(0,0),(1,0),(2,0),(3,0),(4,0),(5,0),(6,0),(7,0),(8,0),(9,1),(10,0),(11,3)] ?_ ?_
 ·kernel_rfl
 exact r0' J J (st0 (Xu J J Ld J zT4 J J))<|r0' J J (st0 (Ok (i:=3) J J J iA4 J))<|r0' J J (st0 (Xu J J Ld J zT4 J J))<|r0' J J (st0 (Ok (i:=4) J J J iA4 J))<|r0' J J (st0 (Zkx J J J uT4))<|r0' J J (st0 (Xu J J Ld J Fo J J))<|r0' J J (st0 (Ok (i:=3) J J J Fu J))<|r0' J J (st0 (Xu J J Ld J Fo J J))<|r0' J J (st0 (Ok (i:=4) J J J Fu J))<|r1' J (Zh (n:=6) (Zs0 _ _ _ _ hx hy) J J J K2 call194 (Zc 1 J J J (Zc 2 J J J Zd)) J hw) fun v _=>r0' J J (st0 (Oc (ivs:=[(0,_),(1,_)]) J K4 (fun a w hs=>Nd ((Zb J) a w hs) ((Zk (i:=6) J Zi) a w hs))))<|r3' J (Zm (i:=5) J J J J J (by decide) J Xi J J ⟨Zb J,Zk (i:=6) J Zi,trivial⟩ J hw trivial) fun _ _=>Oh<|Za<|Zw<|Zy (.inl J) hsc (_,_) _ (fun a w hs=>Xy hs results176 (Ys (i:=5) J J Kb Xi J)) J (sg_mul hs ht) J (Yp 6 J J J (by rw [Int.natAbs_mul]) Zj)
theorem Zih(s:Bool)(v:Value)(x:Int)(hs:sg s x)(hx:bl x.natAbs≤4294967296:=by omega):Cal prog 135 #[.agg #[.bool s,v]] [dgp v x.natAbs] true (G:=Unit) (fun _=>True) (fun _=> .int .i64 x.sign) (fun _=>[]):=by
 refine Yd func135 J ntmps135 J K1 ?_
 intro w0 sc hw hsc
 simp only [Zq,Zp]
 have hX:=Mm x.natAbs
 refine Ze<|Zg<|tt (Yz (i:=2) J J J J J hw) fun b _=>as_ J<|Zf<|Za<|Ze<|Zo<|Ze<|Zg<|dt (Xu J J Ld J Fo J J)<|dt (Ok (i:=2) J J J Fu J)<|dt (Yh J J (i:=1) J Zi Qb)<|dt (Pv J J J)<|as_ J<|Zf<|Za<|Zs J (fun h245=>?_) (fun h245=>?_)
 ·exact Ze<|Zg<|as_ J<|Zf<|Za<|Zw<|Iw<|Xa<|Zy (.inl J) hsc () _ (fun a w hs=>Xy hs results135 J) (Zrm h245) trivial J Zj
 ·refine Ze<|Zg<|dt (Xu J J Ld J zT4 J J)<|dt (Ok (i:=2) J J J iA4 J)<|as_ J<|Zf<|Za<|La J (fun h247=>?_) (fun h247=>?_)
  ·exact Ze<|Zg<|as_ J<|Zf<|Za<|Zw<|Iw<|Xa<|Zy (.inl J) hsc () _ (fun a w hs=>Xy hs results135 J) (Zwe hs h247 h245) trivial J Zj
  ·exact Zl<|Oe<|Za<|Ze<|Zg<|as_ J<|Zf<|Za<|Zw<|Zy (.inl J) hsc () _ (fun a w hs=>Xy hs results135 J) (Zwd hs h247 h245) trivial J Zj
theorem Ze5(s t:Bool)(v w:Value)(x y:Int)(hs:sg s x)(ht:sg t y)(hx:bl x.natAbs≤4294967296:=by omega)(hy:bl y.natAbs≤4294967296:=by omega):Cal prog 131 #[.agg #[.bool s,v],.agg #[.bool t,w]] [dgp v x.natAbs,dgp w y.natAbs] true (G:=Bool×Value) (fun r=>sg r.1 (x+y)) (fun r=> .agg #[.bool r.1,r.2]) (fun r=>[dgp r.2 (x+y).natAbs]):=by
 refine Yd func131 J ntmps131 J K2 ?_
 intro w0 sc hw hsc
 simp only [Zq,Zp]
 refine Ze<|Zg<|tt (Yz (i:=3) J J J J J hw) fun b _=>tt (Yz (i:=4) J J J J J hw) fun b_2 _=>tt (Zr (i:=5) J J zeroValue154 J J hw) fun b_3 _=>Zf<|Za<|Ze<|Zo<|Ze<|Zg<|dt (Xu J J Ld J zT4 J J)<|dt (Ok (i:=3) J J J iA4 J)<|dt (Xu J J Ld J zT4 J J)<|dt (Ok (i:=4) J J J iA4 J)<|dt (d_eqb J J J uT4)<|as_ J<|Zf<|Za<|La J (fun h231=>?_) (fun h231=>?_)
 ·have hst:s=t:=by simpa using h231
  refine Ze<|Qo (fun _=>False) [(0,0),(1,0),(2,0),(3,0),(4,0),(5,0),(6,1),(7,0),(8,3)] ?_ ?_
  ·kernel_rfl
  exact r0' J J (st0 (Xu J J Ld J zT4 J J))<|r0' J J (st0 (Ok (i:=3) J J J iA4 J))<|r0' J J (st0 (Xu J J Ld J Fo J J))<|r0' J J (st0 (Ok (i:=3) J J J Fu J))<|r0' J J (st0 (Xu J J Ld J Fo J J))<|r0' J J (st0 (Ok (i:=4) J J J Fu J))<|r1' J (Zh (n:=6) (Zs2 _ _ _ _ hx hy) J J J K2 call171 (Zc 1 J J J (Zc 2 J J J Zd)) J hw) fun v _=>r0' J J (st0 (Oc (ivs:=[(0,_),(1,_)]) J K4 (fun a w hs=>Nd ((Zb J) a w hs) ((Zk (i:=6) J Zi) a w hs))))<|r3' J (Zm (i:=5) J J J J J (by decide) J Xi J J ⟨Zb J,Zk (i:=6) J Zi,trivial⟩ J hw trivial) fun _ _=>Oh<|Za<|Zw<|Iw<|Xa<|Zy (.inl J) hsc (_,_) _ (fun a w hs=>Xy hs results131 (Ys (i:=5) J J Kb Xi J)) J (Zrs hs (hst▸ht)) J (Yp 6 J J J (by rw [Zd4 hs (hst▸ht)]) Zj)
 ·have hst:s≠t:=by simpa using h231
  refine Ze<|Zg<|dt (Xu J J Ld J Fo J J)<|dt (Ok (i:=3) J J J Fu J)<|dt (Xu J J Ld J Fo J J)<|dt (Ok (i:=4) J J J Fu J)<|tt (Zh (n:=6) (Av _ _ _ _ hx hy) J J J K2 call172 (Zc 1 J J J (Zc 2 J J J Zd)) J hw) fun r hr=>dt (Ke J J J)<|as_ J<|Zf<|Za<|Zs J (fun h233=>?_) (fun h233=>?_)
  ·have hge:y.natAbs≤x.natAbs:=by have:=hr.1;omega
   refine Ze<|Qo (fun _=>False) [(0,0),(1,0),(2,0),(3,0),(4,0),(5,0),(6,1),(7,0),(8,3)] ?_ ?_
   ·kernel_rfl
   exact r0' J J (st0 (Xu J J Ld J zT4 J J))<|r0' J J (st0 (Ok (i:=3) J J J iA4 J))<|r0' J J (st0 (Xu J J Ld J Fo J J))<|r0' J J (st0 (Ok (i:=3) J J J Fu J))<|r0' J J (st0 (Xu J J Ld J Fo J J))<|r0' J J (st0 (Ok (i:=4) J J J Fu J))<|r1' J (Zh (n:=7) (Ze8 _ _ _ _ hx) J J J K2 call173 (Zc 1 J J J (Zc 2 J J J Zd)) J hw) fun v_2 _=>r0' J J (st0 (Oc (ivs:=[(0,_),(1,_)]) J K4 (fun a w hs=>Nd ((Zb J) a w hs) ((Zk (i:=7) J Zi) a w hs))))<|r3' J (Zm (i:=5) J J J J J (by decide) J Xi J J ⟨Zb J,Zk (i:=7) J Zi,trivial⟩ J hw trivial) fun _ _=>Oh<|Za<|Zw<|Iw<|Xa<|Zy (.inl J) hsc (_,_) _ (fun a w hs=>Xy hs results131 (Ys (i:=5) J J Kb Xi J)) J (Zhx hs ht hst hge) J (Yp 7 J J J (by rw [Bt hs ht hst hge]) Zj)
  ·have hge:x.natAbs≤y.natAbs:=by have:=hr.1;omega
   refine Zl<|Oe<|Za<|Ze<|Qo (fun _=>False) [(0,0),(1,0),(2,0),(3,0),(4,0),(5,0),(6,1),(7,0),(8,3)] ?_ ?_
   ·kernel_rfl
   exact r0' J J (st0 (Xu J J Ld J zT4 J J))<|r0' J J (st0 (Ok (i:=4) J J J iA4 J))<|r0' J J (st0 (Xu J J Ld J Fo J J))<|r0' J J (st0 (Ok (i:=4) J J J Fu J))<|r0' J J (st0 (Xu J J Ld J Fo J J))<|r0' J J (st0 (Ok (i:=3) J J J Fu J))<|r1' J (Zh (n:=8) (Ze8 _ _ _ _ hy) J J J K2 call173 (Zc 2 J J J (Zc 1 J J J Zd)) J hw) fun v_3 _=>r0' J J (st0 (Oc (ivs:=[(0,_),(1,_)]) J K4 (fun a w hs=>Nd ((Zb J) a w hs) ((Zk (i:=8) J Zi) a w hs))))<|r3' J (Zm (i:=5) J J J J J (by decide) J Xi J J ⟨Zb J,Zk (i:=8) J Zi,trivial⟩ J hw trivial) fun _ _=>Oh<|Za<|Zw<|Zy (.inl J) hsc (_,_) _ (fun a w hs=>Xy hs results131 (Ys (i:=5) J J Kb Xi J)) J (by rw [Int.add_comm];exact Zhx ht hs (Ne.symm hst) hge) J (Yp 8 J J J (by rw [Int.add_comm,Bt ht hs (Ne.symm hst) hge]) Zj)
theorem Pg(s:Bool)(x:Int)(hs:sg s x)(hx:bl x.natAbs≤4294967296:=by omega):Cal prog 130 #[.agg #[.bool s,.string (Xd x.natAbs)]] [] true (G:=Bool×Value) (fun r=>sg r.1 x) (fun r=> .agg #[.bool r.1,r.2]) (fun r=>[dgp r.2 x.natAbs]):=by
 refine Yd func130 J ntmps130 J trivial ?_
 intro w0 sc hw hsc
 simp only [Zq,Zp]
 refine Ze<|Zg<|tt (Yz (i:=1) J J J J J hw) fun b _=>tt (Zr (i:=2) J J zeroValue154 J J hw) fun b_2 _=>Zf<|Za<|Ze<|Qo (fun _=>False) [(0,0),(1,0),(2,0),(3,0),(4,1),(5,0),(6,3)] ?_ ?_
 ·kernel_rfl
 exact r0' J J (st0 (Xu J J Zak J zT4 J J))<|r0' J J (st0 (Ok (i:=1) J J J iA4 J))<|r0' J J (st0 (Xu J J Zak J zT9 J J))<|r0' J J (st0 (Ok (i:=1) J J J iA9 J))<|r1' J (Zh (n:=3) (Zai _ hx) J J J K1 call170 Zd J hw) fun v _=>r0' J J (st0 (Oc (ivs:=[(0,_),(1,_)]) J K4 (fun a w hs=>Nd ((Zb J) a w hs) ((Zk (i:=3) J Zi) a w hs))))<|r3' J (Zm (i:=2) J J J J J (by decide) J Xi J J ⟨Zb J,Zk (i:=3) J Zi,trivial⟩ J hw trivial) fun _ _=>Oh<|Za<|Zw<|Zy (.inl J) hsc (_,_) _ (fun a w hs=>Xy hs results130 (Ys (i:=2) J J Kb Xi J)) J hs J (Yp 3 J J J J Zj)
theorem Kt(s:Bool)(v:Value)(x:Int)(hs:sg s x)(hx:bl x.natAbs≤4294967296:=by omega):Mb prog 128 #[.agg #[.bool s,v]] [dgp v x.natAbs] (Zc9 x):=by
 refine Yd func128 J ntmps128 J K1 ?_
 intro w0 sc hw hsc
 simp only [Zq,Zp]
 refine Ze<|Zg<|tt (Yz (i:=2) J J J J J hw) fun b _=>tt (Zr (i:=3) J J zeroValue31 J J hw) fun b_2 _=>as_ J<|Zf<|Za<|Ze<|Ze<|Zg<|dt (Xu J J Ld J Fo J J)<|dt (Ok (i:=2) J J J Fu J)<|tt (Zh (n:=3) (Zik _ _) J J J K1 call168 (Zc 1 J J J Zd) J hw) fun _ _=>dt (Of J J J)<|Zf<|Za<|Zs J (fun h219=>?_) (fun h219=>?_)
 ·exact Ze<|Zg<|dt (Oc (ivs:=[]) J trivial (fun a w hs=>b31_))<|tt (Zm (i:=3) J J J J J (by decide) J Yo J J ⟨Zb J,Zb J,trivial⟩ J hw trivial) fun _ _=>as_ J<|Zf<|Za<|Zw<|Xa<|Zy (.inl J) hsc () _ (fun a w hs=>Nr hs results128 (Ys (i:=3) J J Qr Yo J) J) (Zqz h219) trivial J Zj
 ·refine Zl<|Za<|Ze ?_
  cases s
  ·refine Qo (fun _=>False) [(0,0),(1,0),(2,0),(3,2),(4,2),(5,2),(6,2),(7,0),(8,0),(9,0),(10,1),(11,0),(12,3),(13,3)] ?_ ?_
   ·kernel_rfl
   exact r0' J J (st0 (Xu J J Ld J zT4 J J))<|r0' J J (st0 (Ok (i:=2) J J J iA4 J))<|r0' J J (st0 (Yr J J))<|r2 J J J J J J J J<|r2 J J J J J J J J<|r2 J J J J J J J J<|r2 J J J J J J J J<|r0' J J (st0 (Yg J J J))<|r0' J J (st0 (Xu J J Ld J Fo J J))<|r0' J J (st0 (Ok (i:=2) J J J Fu J))<|r1' J (Zh (n:=3) (Zj9 _ _) J J J K1 call169 (Zc 1 J J J Zd) J hw) fun _ _=>r0' J J (st0 (Oc (ivs:=[(0,_),(1,_)]) J K4 (fun a w hs=>Zvf ((Zb J) a w hs) ((Zb J) a w hs))))<|r3' J (Zm (i:=3) J J J J J (by decide) J Yo J J ⟨Zb J,Zb J,trivial⟩ J hw trivial) fun _ _=>r3' J (Pt (Oy J J) J) fun _ _=>Oh<|Za<|Zw<|Zy (.inl J) hsc () _ (fun a w hs=>Nr hs results128 (Ys (i:=3) J J Qr Yo J) J) (by first | exact Zne hs h219 | exact Znd hs h219) trivial J Zj
  ·refine Qo (fun _=>False) [(0,0),(1,0),(2,0),(3,0),(4,0),(5,0),(6,0),(7,0),(8,0),(9,0),(10,1),(11,0),(12,3),(13,3)] ?_ ?_
   ·kernel_rfl
   exact r0' J J (st0 (Xu J J Ld J zT4 J J))<|r0' J J (st0 (Ok (i:=2) J J J iA4 J))<|r0' J J (st0 (Yr J J))<|r0g (st0 (Xu J J Ld J Fo J J)) J J J J J<|r0g (st0 (Ok (i:=2) J J J Fu J)) J J J J J<|r0g (st0 (Yh J J (i:=1) J Zi Qb)) J J J J J<|r0g (st0 (Of J J J)) J J J J J<|r0' J J (st0 (Yu J J J))<|r0' J J (st0 (Xu J J Ld J Fo J J))<|r0' J J (st0 (Ok (i:=2) J J J Fu J))<|r1' J (Zh (n:=3) (Zj9 _ _) J J J K1 call169 (Zc 1 J J J Zd) J hw) fun _ _=>r0' J J (st0 (Oc (ivs:=[(0,_),(1,_)]) J K4 (fun a w hs=>Zvf ((Zb J) a w hs) ((Zb J) a w hs))))<|r3' J (Zm (i:=3) J J J J J (by decide) J Yo J J ⟨Zb J,Zb J,trivial⟩ J hw trivial) fun _ _=>r3' J (Pt (Oy J J) J) fun _ _=>Oh<|Za<|Zw<|Zy (.inl J) hsc () _ (fun a w hs=>Nr hs results128 (Ys (i:=3) J J Qr Yo J) J) (by first | exact Zne hs h219 | exact Znd hs h219) trivial J Zj
theorem Qz(s t:Bool)(v w:Value)(x y:Int)(hs:sg s x)(ht:sg t y)(hx:bl x.natAbs≤3000000000:=by omega)(hy:bl y.natAbs≤3000000000:=by omega)(hy0:y≠0:=by decide):Cal prog 133 #[.agg #[.bool s,v],.agg #[.bool t,w]] [dgp v x.natAbs,dgp w y.natAbs] true (G:=Bool×Value×Value) (fun r=>sg r.1 (x/y)) (fun r=> .tuple #[.agg #[.bool r.1,r.2.1],.agg #[.bool false,r.2.2]]) (fun r=>[dgp r.2.1 (x/y).natAbs,dgp r.2.2 (x%y).natAbs]):=by
 refine Yd func133 J ntmps133 J K2 ?_
 intro w0 sc hw hsc
 simp only [Zq,Zp]
 have hX:=Mm x.natAbs
 have hY:=Mm y.natAbs
 have hyp:0<y.natAbs:=by omega
 have hrl:x.natAbs%y.natAbs<y.natAbs:=Nat.mod_lt _ hyp
 have hrb:=Oz (Nat.le_of_lt hrl)
 have hqb:=Oz (Nat.div_le_self x.natAbs y.natAbs)
 refine Ze<|Zg<|tt (Yz (i:=3) J J J J J hw) fun b _=>tt (Yz (i:=4) J J J J J hw) fun b_2 _=>tt (Zr (i:=5) J J zeroValue154 J J hw) fun b_3 _=>tt (Zr (i:=6) J J zeroValue154 J J hw) fun b_4 _=>Zf<|Za<|Ze<|Zg<|dt (Xu J J Ld J Fo J J)<|dt (Ok (i:=3) J J J Fu J)<|dt (Xu J J Ld J Fo J J)<|dt (Ok (i:=4) J J J Fu J)<|tt (Zh (n:=7) (Zs1 _ _ _ _ (by omega) (by omega) hyp) J J J K2 call174 (Zc 1 J J J (Zc 2 J J J Zd)) J hw) fun g _=>mv J<|dt (Yl J J J)<|dt (Yl J J J)<|as_ J<|as_ J<|Zf<|Za<|Ze<|Ze<|Zg<|dt (Xu J J Ld J zT4 J J)<|dt (Ok (i:=3) J J J iA4 J)<|mv J<|Ly (d:=18) J (fun s256=>?_) (fun s256=>?_)
 ·refine gdt (Yr J J) J J<|gdt (Yh J J (i:=8) J Zi Qb) J J<|gdt (Of J J J) J J<|dt (Yu J J J)<|Zf<|Za<|Zs J (fun h256=>?_) (fun h256=>?_)
  ·subst s256
   have hR0:0<x.natAbs%y.natAbs:=by rcases Nat.eq_zero_or_pos (x.natAbs%y.natAbs)with h | h;(rw [h]at h256;simp [Ir]at h256);exact h
   have hD:=divA hs ht hy0 hR0
   refine Qo (fun _=>False) [(0,0),(3,0),(4,0),(5,0),(1,1),(2,1),(6,1),(7,0),(8,3)] ?_ ?_
   ·kernel_rfl
   refine r0' J J (st0 (Yr J J))<|r0' J J (st0 (Xu J J Ld J Fo J J))<|r0' J J (st0 (Ok (i:=4) J J J Fu J))<|r0' J J (st0 (Yr J J))<|r1' J (Pm (i:=9) (ivs:=[(0,_)]) (enc:=Hg) (dg U 1) J J K2 Qb ti149 J J J J J pU.cells J J hw) fun v _=>r1' J (Zh (n:=10) (Zs2 _ _ _ _ (by omega) (show bl 1≤4294967296 by decide)) J J J K2 call171 (Zc 7 J J J (Xr 9 J J pU Zd)) J hw) fun v_2 _=>r1' J (Zh (n:=11) (Ze8 _ _ _ _ (by omega)) J J J K2 call173 (Zc 2 J J J (Zc 8 J J J Zd)) J hw) fun v_3 _=>r0' J J (st0 (Oy J J))<|r3' J (Pt (Oy J J) J) fun _ _=>Oh<|Za<|Ze<|Zg<|dt (Xu J J Ld J zT4 J J)<|dt (Ok (i:=3) J J J iA4 J)<|dt (Xu J J Ld J zT4 J J)<|dt (Ok (i:=4) J J J iA4 J)<|dt (Zkx J J J uT4)<|mv J<|dt (Oc (ivs:=[(0,_),(1,_)]) J K4 (fun a w hs=>Nd ((Zb J) a w hs) ((Zk (i:=10) J Zi) a w hs)))<|mv J<|dt (Oc (ivs:=[(0,_),(1,_)]) J K4 (fun a w hs=>Nd ((Zb J) a w hs) ((Zk (i:=11) J Zi) a w hs)))<|tt (Zm (i:=5) J J J J J (by decide) J Xi J J ⟨Zb J,Zk (i:=10) J Zi,trivial⟩ J hw trivial) (fun _ _=>?_)
   exact tt (Zm (i:=6) J J J J J (by decide) J Xi J J ⟨Zb J,Zk (i:=11) J Zi,trivial⟩ J hw trivial) fun _ _=>Zf<|Za<|Zw<|Zy (.inl J) hsc (_,_,_) _ (fun a w hs=>Nr hs results133 (Ys (i:=5) J J Kb Xi J) (Ys (i:=6) J J Kb Xi J)) J hD.1 J (Yp 10 J J J (by rw [hD.2.1]<;>rfl) (Yp 11 J J J (by rw [hD.2.2]<;>rfl) Zj))
  ·have hD:=divB hs ht hy0 (.inr ((Pn Ph _).1 (by omega)))
   exact Zl<|Za<|Ze<|Zg<|dt (Xu J J Ld J zT4 J J)<|dt (Ok (i:=3) J J J iA4 J)<|dt (Xu J J Ld J zT4 J J)<|dt (Ok (i:=4) J J J iA4 J)<|dt (Zkx J J J uT4)<|mv J<|dt (Oc (ivs:=[(0,_),(1,_)]) J K4 (fun a w hs=>Nd ((Zb J) a w hs) ((Zk (i:=7) J Zi) a w hs)))<|mv J<|dt (Oc (ivs:=[(0,_),(1,_)]) J K4 (fun a w hs=>Nd ((Zb J) a w hs) ((Zk (i:=8) J Zi) a w hs)))<|tt (Zm (i:=5) J J J J J (by decide) J Xi J J ⟨Zb J,Zk (i:=7) J Zi,trivial⟩ J hw trivial) fun _ _=>tt (Zm (i:=6) J J J J J (by decide) J Xi J J ⟨Zb J,Zk (i:=8) J Zi,trivial⟩ J hw trivial) fun _ _=>Zf<|Za<|Zw<|Zy (.inl J) hsc (_,_,_) _ (fun a w hs=>Nr hs results133 (Ys (i:=5) J J Kb Xi J) (Ys (i:=6) J J Kb Xi J)) J hD.1 J (Yp 7 J J J (by rw [hD.2.1]<;>rfl) (Yp 8 J J J (by rw [hD.2.2]<;>rfl) Zj))
 ·have hD:=divB hs ht hy0 (.inl s256)
  exact gsk J J J<|gsk J J J<|gsk J J J<|dt (Yg J J J)<|Zf<|Za<|Yi J<|Zl<|Za<|Ze<|Zg<|dt (Xu J J Ld J zT4 J J)<|dt (Ok (i:=3) J J J iA4 J)<|dt (Xu J J Ld J zT4 J J)<|dt (Ok (i:=4) J J J iA4 J)<|dt (Zkx J J J uT4)<|mv J<|dt (Oc (ivs:=[(0,_),(1,_)]) J K4 (fun a w hs=>Nd ((Zb J) a w hs) ((Zk (i:=7) J Zi) a w hs)))<|mv J<|dt (Oc (ivs:=[(0,_),(1,_)]) J K4 (fun a w hs=>Nd ((Zb J) a w hs) ((Zk (i:=8) J Zi) a w hs)))<|tt (Zm (i:=5) J J J J J (by decide) J Xi J J ⟨Zb J,Zk (i:=7) J Zi,trivial⟩ J hw trivial) fun _ _=>tt (Zm (i:=6) J J J J J (by decide) J Xi J J ⟨Zb J,Zk (i:=8) J Zi,trivial⟩ J hw trivial) fun _ _=>Zf<|Za<|Zw<|Zy (.inl J) hsc (_,_,_) _ (fun a w hs=>Nr hs results133 (Ys (i:=5) J J Kb Xi J) (Ys (i:=6) J J Kb Xi J)) J hD.1 J (Yp 7 J J J (by rw [hD.2.1]<;>rfl) (Yp 8 J J J (by rw [hD.2.2]<;>rfl) Zj))
end Go.Sky

