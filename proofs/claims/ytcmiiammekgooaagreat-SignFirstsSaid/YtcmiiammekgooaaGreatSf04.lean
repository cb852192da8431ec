/- rules, arithmetic and contracts: part 5
   Proved without conditions of its own: each theorem bears its own. -/
import Derived.Test.YtcmiiammekgooaaGreatSf03
import Derived.Test.YtcmiiammekgooaaGreatSf02
import Derived.Test.YtcmiiammekgooaaGreatSf01
set_option linter.all false
namespace Go.Sky
open Go.Proofs.Tryz
open Go.Proofs
set_option maxRecDepth 20000
set_option maxHeartbeats 4000000
set_option linter.unusedSimpArgs false
theorem Zu2(v:Value)(xs:List Nat)(hx:xs.length*8≤140737488355328):CalO prog 200 #[v] [slp 1 Hg v xs] (G:=Value) (fun r=>True) (fun r=>r) (fun r=>osl 1 149 Hg r xs):=by
 refine Zvb func200 J ntmps200 J K1 ?_
 intro w0 sc hw hsc
 simp only [Zq,Zp]
 refine Md (f_nil (i:=1) J Zi) fun hnil=>Zd<|Zg<|as_ J<|Zf<|Za<|Zd<|Zd<|Zg<|mv J<|dt (Zus J J J (i:=1) J Zi Qa)<|Zf<|Za<|Mm J (fun h357=>?_) (fun h357=>?_)
 ·refine Zd<|Zg<|as_ J<|Zf<|Za<|Zu<|Xa ?_
  obtain rfl:xs=[]:=hnil (by simpa using h357)
  exact Qu (Na 9 1 149 Hg)<|Znc (.inl J) (.slice none 0 0) _ (fun a w hs=>Ni hs results200 J) J trivial J 9 J J J
 ·exact Zj<|Za<|Zd<|Zg<|tt (t_bs0 (i:=2) (enc:=Hg) J J J Qa pU J hw) fun v _=>mv J<|tt (Iu (i:=2) (j:=1) (by_:=8) J J J J J J (by decide) J Zi Qa ti149 J pU J J J (by simp;omega) (by decide) J hw) fun v_2 _=>as_ J<|Zf<|Za<|Zu<|Znc (.inl J) _ _ (fun a w hs=>Ni hs results200 J) J trivial J 2 J (by rfl) J
set_option maxHeartbeats 1600000 in
theorem Zpm(h l y:Nat)(hl:l<U)(hy:y<U)(hh:h<y):Mc prog 193 #[.int .u64 (h:Int),.int .u64 (l:Int),.int .u64 (y:Int)] [] (.tuple #[.int .u64 (((h*U+l)/y:Nat):Int),.int .u64 (((h*U+l)%y:Nat):Int)]):=by
 refine Yc func193 J ntmps193 J trivial ?_
 intro w0 sc hw hsc
 simp only [Zq,Zp]
 have hUe:U=18446744073709551616:=rfl
 have hp:0<y:=by omega
 have hbl:bl y≤64:=(Mp 64 y).2 hy
 obtain⟨s,hs⟩:∃s,s=64-bl y:=⟨_,rfl⟩
 obtain⟨Y,hYe⟩:∃Y,Y=y*2^s:=⟨_,rfl⟩
 obtain⟨hY1,hY2⟩:=Zxo hp hy hs
 rw [←hYe]at hY1 hY2
 have hYU:=hY2
 obtain⟨D,hD⟩:∃D,D=(h*U+l)*2^s:=⟨_,rfl⟩
 obtain⟨u,hue⟩:∃u,u=D/U:=⟨_,rfl⟩
 obtain⟨v,hve⟩:∃v,v=D%U:=⟨_,rfl⟩
 obtain⟨v1,hv1e⟩:∃x,x=v/4294967296:=⟨_,rfl⟩
 obtain⟨v0,hv0e⟩:∃x,x=v%4294967296:=⟨_,rfl⟩
 obtain⟨y1,hy1e⟩:∃x,x=Y/4294967296:=⟨_,rfl⟩
 obtain⟨y0,hy0e⟩:∃x,x=Y%4294967296:=⟨_,rfl⟩
 have hYs:Y=y1*4294967296+y0:=by omega
 have hhs:=shl_lt hh (show y*2^s<U by rw [←hYe];exact hY2)
 have huY:u<Y:=by rw [hue,hD,hYe];exact top_lt hl hh
 have hu:u<y1*4294967296+y0:=by omega
 have hvU:v<U:=by rw [hve];exact Nat.mod_lt _ Pw
 have hy1:2147483648≤y1:=by omega
 have hy1l:y1<4294967296:=by omega
 have hy0:y0<4294967296:=by omega
 have hv1:v1<4294967296:=by omega
 have hv0:v0<4294967296:=by omega
 obtain⟨Q1,hQ1⟩:∃x,x=(u*4294967296+v1)/Y:=⟨_,rfl⟩
 obtain⟨t,hte⟩:∃x,x=(u*4294967296+v1)%Y:=⟨_,rfl⟩
 have htY:t<Y:=by rw [hte];exact Nat.mod_lt _ (by omega)
 have ht:t<y1*4294967296+y0:=by omega
 obtain⟨Q0,hQ0⟩:∃x,x=(t*4294967296+v0)/Y:=⟨_,rfl⟩
 have hY0:0<Y:=by omega
 obtain⟨hd1,hd2⟩:=dv_two (D:=D) hY0 hue hve hv1e hv0e
 rw [←hQ1,←hte,←hQ0]at hd1
 rw [←hte]at hd2
 have hQ0l:Q0<4294967296:=by rw [hQ0,hYs];exact dv_Q hv0 ht
 have hQ1l:Q1<4294967296:=by rw [hQ1,hYs];exact dv_Q hv1 hu
 refine Zd<|Zg<|as_ J<|as_ J<|Zf<|Za<|Zd<|Zd<|Zg<|mv J<|dt (Pg J J J)<|Zf<|Za<|Zs J (fun h519=>?_) (fun h519=>?_)
 ·exfalso;omega
 ·refine Zj<|Za<|Zd<|Zd<|Zg<|mv J<|mv J<|dt (Cf J J J)<|Zf<|Za<|Zs J (fun h522=>?_) (fun h522=>?_)
  ·exfalso;omega
  ·refine Zj<|Za<|Zd<|Zd<|Zg<|mv J<|dt (Pg J J J)<|Zf<|Za<|Zs J (fun h527=>?_) (fun h527=>?_)
   ·refine Zd<|Qi (fun _=>False) [(0,0),(1,0),(2,0),(3,0),(4,0),(5,0),(6,0),(7,3)] ?_ ?_
    ·kernel_rfl
    exact r0' J J (st0 (Yo J J))<|r0' J J (st0 (Yo J J))<|r0' J J (st0 (u_quo J J J))<|r0' J J (st0 (Yo J J))<|r0' J J (st0 (Yo J J))<|r0' J J (st0 (u_rem J J J (by omega)))<|r0' J J (st0 (Mf J J))<|r3' J (Py (Mf J J) J) fun _ _=>Of<|Za<|Zu<|Xa<|Ym (.inl J) hsc () _ (fun a w hs=>Nl hs results193 J J) (by have h0:h=0:=(by omega);rw [h0];simp) trivial J Zk
   ·refine Zj<|Za<|Zd<|Zg<|mv J<|tt (Zh (n:=0) (Zm9 _ hy) J J J K1 call189 Ze J hw) fun _ _=>dt (cv_u64 J J uT3 underlying212 (by simp only [U];omega))<|as_ J<|Zf<|Za<|Zd<|Yr (Ij 8 (v':= .int .u64 (s:Int)) J (by rw [hs]))<|Zg<|mv J<|mv J<|dt (Zpu J J J J)<|as_ J<|Zf<|Za<|Zd<|Yr (Ij 2 (v':= .int .u64 (Y:Int)) J (by rw [hYe,Nat.mod_eq_of_lt (by rw [←hYe];exact hYU)]))<|Zg<|mv J<|dt (Gz (n:=32) (n':=4294967296) J J J J J)<|as_ J<|Zf<|Za<|Zd<|Zg<|mv J<|dt (Zra J J J)<|as_ J<|Zf<|Za<|Zd<|Zg<|mv J<|mv J<|dt (Zpu J J J J)<|mv J<|mv J<|dt (Zfx J J J (by first | exact Nat.mod_lt _ Pw | omega))<|dt (Zpt J J (n:=64-s) J (by simp only [U];omega))<|dt (u_or J J J (Nat.mod_lt _ Pw) (Nat.lt_of_le_of_lt (Nat.div_le_self _ _) hl))<|as_ J<|Zf<|Za<|Zd<|Yr (Ij 11 (v':= .int .u64 (u:Int)) J (by rw [hue,hD,Zxl (by omega) hhs hl]))<|Zg<|mv J<|mv J<|dt (Zpu J J J J)<|as_ J<|Zf<|Za<|Zd<|Yr (Ij 12 (v':= .int .u64 (v:Int)) J (by rw [hve,hD,Ztb h l s]))<|Zg<|mv J<|dt (Gz (n:=32) (n':=4294967296) J J J J J)<|as_ J<|Zf<|Za<|Zd<|Yr (Ij 13 (v':= .int .u64 (v1:Int)) J (by rw [hv1e]))<|Zg<|mv J ?_
    refine dt (Zra J J J)<|as_ J<|Zf<|Za<|Zd<|Yr (Ij 14 (v':= .int .u64 (v0:Int)) J (by rw [Zpo,hv0e]))<|Yr (Ij 9 (v':= .int .u64 (y1:Int)) J (by rw [hy1e]))<|Yr (Ij 10 (v':= .int .u64 (y0:Int)) J (by rw [Zpo,hy0e]))<|Zg<|mv J<|mv J<|dt (u_quo J J J)<|as_ J<|Zf<|Za<|Zd<|Zg<|mv J<|mv J<|mv J<|dt (Bv J J J)<|dt (Zfx J J J (by first | exact Nat.mod_lt _ Pw | omega))<|as_ J<|Zf<|Za<|Ez [(2,_),(8,_),(9,_),(10,_),(11,_),(13,_),(14,_)] [(0,_)] (fun(_:Unit)=>[(15,.int .u64 ((Q1:Nat):Int))]) (fun(_:Unit)=>[]) (fun(_:Unit)=>True) K7 K1 ?_ ?_
    ·refine Zo<|Yr (Ij 16 (v':= .int .u64 ((u%y1:Nat):Int)) J (by rw [rsub (by omega) (by omega)]))<|Nt [(2,_),(8,_),(9,_),(10,_),(11,_),(13,_),(14,_)] [(0,_)] (fun(q:Nat×Nat)=>[(15,.int .u64 (q.1:Int)),(16,.int .u64 (q.2:Int))]) (fun(q:Nat×Nat)=>[]) (fun(q:Nat×Nat)=>(dvI u v1 y1 y0 q.1 q.2)∧(q.2<4294967296)) (fun(q:Nat×Nat)=>q.1) (u/y1,u%y1) ⟨dv0 hy1 hy1l hy0 hv1 hu,Nat.lt_trans (Nat.mod_lt _ (by omega)) hy1l⟩ K9 K1 ?_
     rintro⟨a,r⟩ ⟨hI,hr⟩
     dsimp only at hI hr
     simp only [CA,NA]
     have hI1:=hI.1
     have hI2:=hI.2.1
     refine Zd<|Zd<|Zg<|mv J<|dt (Ke J J J)<|mv J<|Qm (d:=69) J (fun s547=>?_) (fun s547=>?_)
     ·refine gsk J J J<|gsk J J J<|gsk J J J<|gsk J J J<|gsk J J J<|gsk J J J<|gsk J J J<|gsk J J J<|dt (Ys J J J)<|Zf<|Za<|Pf J<|Zj<|Za<|Zo<|Zd ?_
      have hst:=Ziz (by omega) hI hv1 hu (by omega)
      have hst1:=hst.1
      refine Zg<|mv J<|dt (Zfx (n:=1) J J J)<|as_ J<|Zf<|Za<|Zd<|Yr (Ij 15 (v':= .int .u64 ((a-1:Nat):Int)) J (Zan (Zup hst1 (by omega))))<|Zg<|mv J<|mv J<|dt (Ak J J J)<|as_ J<|Zf<|Za<|Zd<|Yr (Ij 16 (v':= .int .u64 ((r+y1:Nat):Int)) J (Zan (Nat.mod_eq_of_lt (by omega))))<|Zg<|mv J<|dt (Ke J J J)<|Zf<|Za<|Zs J (fun h550=>?_) (fun h550=>?_)
      ·refine Yv<|Zps<|Zv<|Ox ?_
       have hq:Q1=a-1:=by rw [hQ1,hYs];exact(Zd2 (by omega) hy0 hst.2 (by omega) (by omega)).symm
       exact Qt () trivial ⟨by rw [hq];rfl,rfl,rfl,rfl,rfl,rfl,rfl,rfl,trivial⟩ K1
      ·exact Zj<|Oe<|Xn (a-1,r+y1) ⟨hst.2,by dsimp only;omega⟩ (by first | omega | (dsimp only<;>omega)) K9 K1
     ·have hm1:=Zok (show a<4294967296 by omega) hy0
      have e1:=Nat.mod_eq_of_lt (show a*y0<U from hm1)
      have e2:=Nat.mod_eq_of_lt (show 4294967296*r<U by omega)
      have e3:=Nat.mod_eq_of_lt (show 4294967296*r+v1<U by omega)
      refine gdt (Yo J J) J J<|gdt (Yo J J) J J<|gdt (Bv J J J) J J<|gdt (Yo J J) J J<|gdt (Bv J J J) J J<|gdt (Yo J J) J J<|gdt (Ak J J J) J J<|gdt (Pm J J J) J J<|dt (Zz J J J)<|Zf<|Za<|Zs J (fun h547=>?_) (fun h547=>?_)
      ·rw [e1,e2,e3]at h547
       refine Zj<|Za<|Zo<|Zd ?_
       have hst:=Ziz (by omega) hI hv1 hu (by omega)
       have hst1:=hst.1
       refine Zg<|mv J<|dt (Zfx (n:=1) J J J)<|as_ J<|Zf<|Za<|Zd<|Yr (Ij 15 (v':= .int .u64 ((a-1:Nat):Int)) J (Zan (Zup hst1 (by omega))))<|Zg<|mv J<|mv J<|dt (Ak J J J)<|as_ J<|Zf<|Za<|Zd<|Yr (Ij 16 (v':= .int .u64 ((r+y1:Nat):Int)) J (Zan (Nat.mod_eq_of_lt (by omega))))<|Zg<|mv J<|dt (Ke J J J)<|Zf<|Za<|Zs J (fun h550_2=>?_) (fun h550_2=>?_)
       ·refine Yv<|Zps<|Zv<|Ox ?_
        have hq:Q1=a-1:=by rw [hQ1,hYs];exact(Zd2 (by omega) hy0 hst.2 (by omega) (by omega)).symm
        exact Qt () trivial ⟨by rw [hq];rfl,rfl,rfl,rfl,rfl,rfl,rfl,rfl,trivial⟩ K1
       ·exact Zj<|Oe<|Xn (a-1,r+y1) ⟨hst.2,by dsimp only;omega⟩ (by first | omega | (dsimp only<;>omega)) K9 K1
      ·rw [e1,e2,e3]at h547
       refine Yv<|Zv<|Zv<|Ox ?_
       have hq:Q1=a:=by rw [hQ1,hYs];exact(Zmu (by omega) hI (by omega)).symm
       exact Qt () trivial ⟨by rw [hq];rfl,rfl,rfl,rfl,rfl,rfl,rfl,rfl,trivial⟩ K1
    ·rintro _ -
     simp only [CA,NA]
     refine Zd<|Zg<|mv J<|dt (Bv J J J)<|mv J<|dt (Ak J J J)<|mv J<|mv J<|dt (Bv J J J)<|dt (Zfx J J J (by first | exact Nat.mod_lt _ Pw | omega))<|as_ J<|Zf<|Za<|Zd<|Yr (Ij 17 (v':= .int .u64 (t:Int)) J (by rw [hte,hQ1,Zuf hY0 hYU]))<|Zg<|mv J<|mv J<|dt (u_quo J J J)<|as_ J<|Zf<|Za<|Zd<|Zg<|mv J<|mv J<|mv J<|dt (Bv J J J)<|dt (Zfx J J J (by first | exact Nat.mod_lt _ Pw | omega))<|as_ J<|Zf<|Za<|Ez [(2,_),(8,_),(14,_),(15,_),(17,_)] [(0,_)] (fun(_:Unit)=>[(18,.int .u64 ((Q0:Nat):Int))]) (fun(_:Unit)=>[]) (fun(_:Unit)=>True) K5 K1 ?_ ?_
     ·refine Zo<|Yr (Ij 16 (v':= .int .u64 ((t%y1:Nat):Int)) J (by rw [rsub (by omega) (by omega)]))<|Nt [(2,_),(8,_),(9,_),(10,_),(14,_),(15,_),(17,_)] [(0,_)] (fun(q:Nat×Nat)=>[(18,.int .u64 (q.1:Int)),(16,.int .u64 (q.2:Int))]) (fun(q:Nat×Nat)=>[]) (fun(q:Nat×Nat)=>(dvI t v0 y1 y0 q.1 q.2)∧(q.2<4294967296)) (fun(q:Nat×Nat)=>q.1) (t/y1,t%y1) ⟨dv0 hy1 hy1l hy0 hv0 ht,Nat.lt_trans (Nat.mod_lt _ (by omega)) hy1l⟩ K9 K1 ?_
      rintro⟨a,r⟩ ⟨hI,hr⟩
      dsimp only at hI hr
      simp only [CA,NA]
      have hI1:=hI.1
      have hI2:=hI.2.1
      refine Zd<|Zd<|Zg<|mv J<|dt (Ke J J J)<|mv J<|Qm (d:=104) J (fun s559=>?_) (fun s559=>?_)
      ·refine gsk J J J<|gsk J J J<|gsk J J J<|gsk J J J<|gsk J J J<|gsk J J J<|gsk J J J<|gsk J J J<|dt (Ys J J J)<|Zf<|Za<|Pf J<|Zj<|Za<|Zo<|Zd ?_
       have hst:=Ziz (by omega) hI hv0 ht (by omega)
       have hst1:=hst.1
       refine Zg<|mv J<|dt (Zfx (n:=1) J J J)<|as_ J<|Zf<|Za<|Zd<|Yr (Ij 18 (v':= .int .u64 ((a-1:Nat):Int)) J (Zan (Zup hst1 (by omega))))<|Zg<|mv J<|mv J<|dt (Ak J J J)<|as_ J<|Zf<|Za<|Zd<|Yr (Ij 16 (v':= .int .u64 ((r+y1:Nat):Int)) J (Zan (Nat.mod_eq_of_lt (by omega))))<|Zg<|mv J<|dt (Ke J J J)<|Zf<|Za<|Zs J (fun h562=>?_) (fun h562=>?_)
       ·refine Yv<|Zps<|Zv<|Ox ?_
        have hq:Q0=a-1:=by rw [hQ0,hYs];exact(Zd2 (by omega) hy0 hst.2 (by omega) (by omega)).symm
        exact Qt () trivial ⟨by rw [hq];rfl,rfl,rfl,rfl,rfl,rfl,trivial⟩ K1
       ·exact Zj<|Oe<|Xn (a-1,r+y1) ⟨hst.2,by dsimp only;omega⟩ (by first | omega | (dsimp only<;>omega)) K9 K1
      ·have hm1:=Zok (show a<4294967296 by omega) hy0
       have e1:=Nat.mod_eq_of_lt (show a*y0<U from hm1)
       have e2:=Nat.mod_eq_of_lt (show 4294967296*r<U by omega)
       have e3:=Nat.mod_eq_of_lt (show 4294967296*r+v0<U by omega)
       refine gdt (Yo J J) J J<|gdt (Yo J J) J J<|gdt (Bv J J J) J J<|gdt (Yo J J) J J<|gdt (Bv J J J) J J<|gdt (Yo J J) J J<|gdt (Ak J J J) J J<|gdt (Pm J J J) J J<|dt (Zz J J J)<|Zf<|Za<|Zs J (fun h559=>?_) (fun h559=>?_)
       ·rw [e1,e2,e3]at h559
        refine Zj<|Za<|Zo<|Zd ?_
        have hst:=Ziz (by omega) hI hv0 ht (by omega)
        have hst1:=hst.1
        refine Zg<|mv J<|dt (Zfx (n:=1) J J J)<|as_ J<|Zf<|Za<|Zd<|Yr (Ij 18 (v':= .int .u64 ((a-1:Nat):Int)) J (Zan (Zup hst1 (by omega))))<|Zg<|mv J<|mv J<|dt (Ak J J J)<|as_ J<|Zf<|Za<|Zd<|Yr (Ij 16 (v':= .int .u64 ((r+y1:Nat):Int)) J (Zan (Nat.mod_eq_of_lt (by omega))))<|Zg<|mv J<|dt (Ke J J J)<|Zf<|Za<|Zs J (fun h562_2=>?_) (fun h562_2=>?_)
        ·refine Yv<|Zps<|Zv<|Ox ?_
         have hq:Q0=a-1:=by rw [hQ0,hYs];exact(Zd2 (by omega) hy0 hst.2 (by omega) (by omega)).symm
         exact Qt () trivial ⟨by rw [hq];rfl,rfl,rfl,rfl,rfl,rfl,trivial⟩ K1
        ·exact Zj<|Oe<|Xn (a-1,r+y1) ⟨hst.2,by dsimp only;omega⟩ (by first | omega | (dsimp only<;>omega)) K9 K1
       ·rw [e1,e2,e3]at h559
        refine Yv<|Zv<|Zv<|Ox ?_
        have hq:Q0=a:=by rw [hQ0,hYs];exact(Zmu (by omega) hI (by omega)).symm
        exact Qt () trivial ⟨by rw [hq];rfl,rfl,rfl,rfl,rfl,rfl,trivial⟩ K1
     ·rintro _ -
      simp only [CA,NA]
      refine Zd<|Zg<|mv J<|dt (Bv J J J)<|mv J<|dt (Ak J J J)<|mv J<|dt (Bv J J J)<|mv J<|dt (Ak J J J)<|mv J<|mv J<|dt (Bv J J J)<|dt (Zfx J J J (by first | exact Nat.mod_lt _ Pw | omega))<|mv J<|dt (Zpt J J J J)<|as_ J<|as_ J<|Zf<|Za<|Zu ?_
      have hA:(Q1*4294967296%U+Q0)%U=(h*U+l)/y:=by rw [←Zjr _ y s,←hD,←hYe,hd1];simp only [U];omega
      have hB:((t*4294967296%U+v0)%U+(U-(Q0*Y)%U))%U/2^s=(h*U+l)%y:=by rw [←Zjq _ y s,←hD,←hYe,hd2,hQ0,Zuf hY0 hYU]
      exact Ym (.inl J) hsc () _ (fun a w hs=>Nl hs results193 J J) (by rw [hA,hB]) trivial J Zk
theorem Zs3(v:Value)(x d:Nat)(hx:bl x≤8589934592)(hd:0<d)(hdU:d<U):Cal prog 192 #[v,.int .u64 (d:Int)] [dgp v x] false (G:=Value) (fun r=>True) (fun r=> .tuple #[r,.int .u64 ((x%d:Nat):Int)]) (fun r=>[dgp r (x/d)]):=by
 refine Yc func192 J ntmps192 J K1 ?_
 intro w0 sc hw hsc
 simp only [Zq,Zp]
 have hX:=Ml x
 refine Zd<|Zg<|as_ J<|as_ J<|Zf<|Za<|Zd<|Zg<|mv J<|dt (Yd J J (i:=1) J Zi Qa)<|tt (Gb (i:=2) (n:=(dg U x).length) (by_:=8) (enc:=Hg) 0 J J J J Qa ti149 J pU.cells pU.pos J J J hw) fun v _=>as_ J<|Zf<|Za<|Zd<|Zg<|as_ J<|Zf<|Za<|Zd<|Zd<|Zg<|mv J<|dt (Yd J J (i:=1) J Zi Qa)<|dt (Qd J J J ⟨by omega,by omega⟩)<|as_ J<|Zf<|Za<|Zo<|Nt [(0,_),(1,_),(6,_)] [(0,_),(1,_)] (fun(q:Nat×List Nat×Nat)=>[(8,.int .i64 ((q.1:Int)-1)),(7,.int .u64 (q.2.2:Int))]) (fun(q:Nat×List Nat×Nat)=>[(2,osl 1 149 Hg v q.2.1)]) (fun(q:Nat×List Nat×Nat)=>(q.1≤(dg U x).length)∧(q.2.1.length=(dg U x).length)∧(q.2.2<d)∧(∀d∈q.2.1,d<U)∧(val U (q.2.1.drop q.1)*d+q.2.2=val U ((dg U x).drop q.1))) (fun(q:Nat×List Nat×Nat)=>q.1) ((dg U x).length,List.replicate (dg U x).length 0,0) ⟨Nat.le_refl _,by simp,by first | omega | (dsimp only<;>omega),Nf _ Pw,by simp [val]⟩ K5 K3 ?_
 rintro⟨k,o,r⟩ ⟨hk,hol,hr,hall,hv⟩
 dsimp only at hk hol hr hall hv
 simp only [CA,NA]
 refine Zd<|Zd<|Zg<|mv J<|dt (Ke J J J)<|Zf<|Za<|Zs J (fun h158=>?_) (fun h158=>?_)
 ·exact Zj<|Za<|Zd<|Zo<|Zg<|mv J<|mv J<|mv J<|mv J<|mv J<|dt (Xb (ii:=1) (i:=k-1) J J J J Zi Qa Mi)<|dt (Xv (ii:=1) 0 J J J Zi pU (by first | omega | (simp only [List.length_set];omega)))<|mv J<|tt (Zh (n:=2) (Zpm _ _ _ (Qn Pw (Lp Pi _) _) hdU hr) J J J K3 call193 Ze J hw) fun _ _=>mv J<|dt (Yh J J J)<|dt (Yh J J J)<|dt (Xb (ii:=2) (i:=k-1) J J J J (Yt pU) Qa Mi)<|tt (Ii (i:=2) (enc:=Hg) _ J J J J J J pU J hw (by decide) (by first | omega | (simp only [List.length_set];omega))) fun _ _=>as_ J<|Zf<|Oe<|Za<|Zg<|mv J<|dt (Qd J J J ⟨by omega,by omega⟩)<|as_ J<|Zf<|Xn (k-1,_,_) ⟨by first | omega | (dsimp only<;>omega),by simp;omega,Nat.mod_lt _ hd,Lv hall _ _ (Zo4 (Qn Pw (Lp Pi x) _) hr),Zpz hd (by omega) (by omega) (by rw [show k-1+1=k by omega];exact hv)⟩ (by first | omega | (dsimp only<;>omega)) ⟨by rw [show(((k-1:Nat):Int)-1)=(k:Int)-1-1 by omega];rfl,rfl,rfl,rfl,rfl,trivial⟩ K3
 ·refine Yv<|Zv<|Zv<|Ox<|Za<|Zd<|Zg<|mv J<|tt (Zh (n:=2) (Ol _ _) J J J K1 call127 (Xu 2 J J pU Ze) J hw) fun _ _=>Oc (Zgi 2 J J pU)<|mv J<|as_ J<|as_ J<|Zf<|Za<|Zu ?_
  obtain rfl:k=0:=by omega
  rw [List.drop_zero,List.drop_zero,Le Pi]at hv
  have hq:tz o=dg U (x/d):=by
   rw [←Kr Pi _ hall,←hv,Nat.mul_comm,Nat.mul_add_div hd,Nat.div_eq_of_lt hr,Nat.add_zero]
  have hm:r=x%d:=by rw [←hv,Nat.mul_comm,Nat.mul_add_mod,Nat.mod_eq_of_lt hr]
  exact Ym (.inl J) hsc _ _ (fun a w hs=>Nl hs results192 J J) (by rw [hm]) trivial J (Od 2 J J pU hq Zk)
theorem Ik(v:Value)(x s:Nat)(hx:bl x≤4294967296)(hs:s≤4294967296:=by decide):Cal prog 132 #[v,.int .i64 (s:Int)] [dgp v x] false (G:=Value) (fun r=>True) (fun r=>r) (fun r=>[dgp r (x*2^s)]):=by
 refine Yc func132 J ntmps132 J K1 ?_
 intro w0 sc hw hsc
 simp only [Zq,Zp]
 obtain⟨w,hwe⟩:∃w,w=s/64:=⟨_,rfl⟩
 obtain⟨b,hbe⟩:∃b,b=s%64:=⟨_,rfl⟩
 have hX:=Ml x
 refine Zd<|Zg<|as_ J<|Zf<|Za<|Zd<|Zd<|Zg<|mv J<|dt (Yd J J (i:=1) J Zi Qa)<|dt (Pg J J J)<|Zf<|Za<|Zs J (fun h122=>?_) (fun h122=>?_)
 ·refine Zd<|Zg<|as_ J<|Zf<|Za<|Zu<|Xa<|Qu (Na 9 1 149 Hg) ?_
  have hx0:x=0:=(Pp Pi x).1 (by omega)
  exact Ym (.inl J) hsc (.slice none 0 0) _ (fun a w hs=>Ni hs results132 J) J trivial J (Od 9 J J pU (by rw [hx0,Nat.zero_mul];rfl) Zk)
 ·refine Zj<|Za<|Zd<|Zg<|mv J<|dt (Zkz J J J)<|mv J<|dt (Zmy J J J)<|as_ J<|as_ J<|Zf<|Za<|Zd<|Yr (Ij 5 (v':= .int .i64 (w:Int)) J (by congr 1;omega))<|Yr (Ij 6 (v':= .int .i64 (b:Int)) J (by congr 1;omega))<|Zg<|mv J<|dt (Yd J J (i:=1) J Zi Qa)<|mv J<|dt (Yx J J J ⟨by omega,by omega⟩)<|dt (Yx J J J ⟨by omega,by omega⟩)<|tt (Gb (i:=2) (n:=(dg U x).length+w+1) (by_:=8) (enc:=Hg) 0 J J J J Qa ti149 J pU.cells pU.pos J J J hw) fun v _=>as_ J<|Zf<|Za<|Zd<|Zd<|Zg<|mv J<|dt (Yd J J (i:=1) J Zi Qa)<|mv J<|Zf<|Za<|Zo ?_
  refine Nt [(5,_),(6,_),(7,_),(23,_),(24,_)] [(0,_),(1,_)] (fun(q:Nat×List Nat)=>[(25,.int .i64 (q.1:Int))]) (fun(q:Nat×List Nat)=>[(2,osl 1 149 Hg v q.2)]) (fun(q:Nat×List Nat)=>(q.1≤(dg U x).length)∧(q.2.length=(dg U x).length+w+1)∧(q.2.getD (w+q.1) 0<2^b)∧(∀j,w+q.1<j→q.2.getD j 0=0)∧(∀d∈q.2,d<U)∧(val U (q.2.take ((dg U x).length+w+1))=val U ((dg U x).take q.1)*2^b*U^w)) (fun(q:Nat×List Nat)=>(dg U x).length-q.1) (0,List.replicate ((dg U x).length+w+1) 0) ⟨by first | omega | (dsimp only<;>omega),by simp,by rw [Lr];exact Nat.two_pow_pos b,fun j _=>Lr _ j,Nf _ Pw,by rw [List.take_replicate,Ih];simp [val]⟩ K6 K3 ?_
  rintro⟨i,o⟩ ⟨hi,hol,hc,hz,hall,hv⟩
  dsimp only at hi hol hc hz hall hv
  simp only [CA,NA]
  have hst:i<(dg U x).length→_:=fun hlt=>Zwm (xs:=dg U x) (show b≤63 by omega) hol.symm (show w+i+1<_ by omega) hc (hz (w+i+1) (by omega)) (Qn Pw (Lp Pi x) i) hv
  refine Zd<|Zg<|dt (Xr J J J)<|Zf<|Za<|Zd<|Zs J (fun h127=>?_) (fun h127=>?_)
  ·refine Zj<|Za<|Zd<|Zo<|Zd<|Zg<|mv J<|dt (Xb (ii:=1) J J J J Zi Qa Mi J (by first | omega | (simp only [List.length_set];omega)))<|dt (Xv (ii:=1) 0 J J J Zi pU (by first | omega | (simp only [List.length_set];omega)))<|as_ J<|as_ J<|Zf<|Za<|Zd ?_
   have hX1:=Qn Pw (Lp Pi x) i
   refine Qi (fun _=>False) [(0,0),(1,0),(2,0),(3,0),(4,0),(5,0),(6,0),(7,0),(8,0),(9,0),(10,0),(11,3)] ?_ ?_
   ·kernel_rfl
   refine r0' J J (st0 (Yo J J))<|r0' J J (st0 (Yo J J))<|r0' J J (st0 (Yo J J))<|r0' J J (st0 (Yx J J J ⟨by omega,by omega⟩))<|r0' J J (st0 (Xb (ii:=2) (i:=w+i) J J J J (Yt pU) Qa Mi))<|r0' J J (st0 (Xv (ii:=2) 0 J J J (Yt pU) pU (by first | omega | (simp only [List.length_set];omega))))<|r0' J J (st0 (Yo J J))<|r0' J J (st0 (Yo J J))<|r0' J J (st0 (Zpu J J (n:=b) J J))<|r0' J J (st0 (u_or J J J (Qn Pw hall _) (Nat.mod_lt _ Pw)))<|r0' J J (st0 (Xb (ii:=2) (i:=w+i) J J J J (Yt pU) Qa Mi))<|r3' J (Ii (i:=2) (enc:=Hg) _ J J J J J J pU J hw (by decide) (by first | omega | (simp only [List.length_set];omega))) fun _ _=>Of<|Za<|Zd<|Zg<|mv J<|dt (Pm J J J)<|Zf<|Za<|Zs J (fun h129=>?_) (fun h129=>?_)
   ·have hal2:=Lv (Lv hall (w+i) (o.getD (w+i) 0 ||| (dg U x).getD i 0*2^b%U) (Nat.or_lt_two_pow (n:=64) (Qn Pw hall _) (Nat.mod_lt _ Pw))) (w+i+1) ((dg U x).getD i 0/2^(64-b)) (Nat.lt_of_le_of_lt (Nat.div_le_self _ _) hX1)
    have hc2:((o.set (w+i) (o.getD (w+i) 0 ||| (dg U x).getD i 0*2^b%U)).set (w+i+1) ((dg U x).getD i 0/2^(64-b))).getD (w+i+1) 0<2^b:=by
     rw [Nq _ _ _ _ _ (by simp;omega),if_pos rfl];exact Zcu (by omega) hX1
    have hz2:∀j,w+i+1<j→((o.set (w+i) (o.getD (w+i) 0 ||| (dg U x).getD i 0*2^b%U)).set (w+i+1) ((dg U x).getD i 0/2^(64-b))).getD j 0=0:=fun j hj=>by
     rw [Nq _ _ _ _ _ (by simp;omega),if_neg (by omega),Nq _ _ _ _ _ (by omega),if_neg (by omega)];exact hz j (by omega)
    have hv2:=hst (by omega)
    exact Zg<|mv J<|mv J<|mv J<|dt (Yx J J J ⟨by omega,by omega⟩)<|dt (Yx J J J ⟨by omega,by omega⟩)<|mv J<|mv J<|dt (Qd J J J ⟨by omega,by omega⟩)<|dt (Zpt J J (n:=64-b) J (by omega))<|dt (Xb (ii:=2) (i:=w+i+1) J J J J (Yt pU) Qa Mi (by omega) (by simp only [List.length_set];omega))<|tt (Ii (i:=2) (enc:=Hg) _ J J J J J J pU J hw (by decide) (by simp only [List.length_set];omega)) fun _ _=>Zf<|Oe<|Za<|Zg<|dt (Yx J J J ⟨by omega,by omega⟩)<|mv J<|Zf<|Xn (i+1,_) ⟨by first | omega | (dsimp only<;>omega),by simp;omega,by dsimp only;rw [show w+(i+1)=w+i+1 by omega];exact hc2,fun j hj=>by have hj2:w+(i+1)<j:=hj;dsimp only;exact hz2 j (by omega),hal2,hv2⟩ (by first | omega | (dsimp only<;>omega)) K6 K3
   ·obtain rfl:b=0:=by omega
    have hal2:=Lv hall (w+i) (o.getD (w+i) 0 ||| (dg U x).getD i 0*2^0%U) (Nat.or_lt_two_pow (n:=64) (Qn Pw hall _) (Nat.mod_lt _ Pw))
    have hc2:(o.set (w+i) (o.getD (w+i) 0 ||| (dg U x).getD i 0*2^0%U)).getD (w+i+1) 0<2^0:=by
     rw [Nq _ _ _ _ _ (by omega),if_neg (by omega),hz _ (by omega)];exact Nat.two_pow_pos 0
    have hz2:∀j,w+i+1<j→(o.set (w+i) (o.getD (w+i) 0 ||| (dg U x).getD i 0*2^0%U)).getD j 0=0:=fun j hj=>by
     rw [Nq _ _ _ _ _ (by omega),if_neg (by omega)];exact hz j (by omega)
    have hv2:=hst (by omega)
    rw [show(dg U x).getD i 0/2^(64-0)=0 from Nat.div_eq_of_lt hX1]at hv2
    have hsame:=Zh1 (o.set (w+i) (o.getD (w+i) 0 ||| (dg U x).getD i 0*2^0%U)) (w+i+1) (by rw [Nq _ _ _ _ _ (by omega),if_neg (by omega),hz _ (by omega)])
    rw [hsame]at hv2
    exact Zj<|Oe<|Za<|Zg<|dt (Yx J J J ⟨by omega,by omega⟩)<|mv J<|Zf<|Xn (i+1,_) ⟨by first | omega | (dsimp only<;>omega),by simp;omega,by dsimp only;rw [show w+(i+1)=w+i+1 by omega];exact hc2,fun j hj=>by have hj2:w+(i+1)<j:=hj;dsimp only;exact hz2 j (by omega),hal2,hv2⟩ (by first | omega | (dsimp only<;>omega)) K6 K3
  ·refine Yv<|Zv<|Zv<|Ox<|Za<|Zd<|Zg<|mv J<|tt (Zh (n:=2) (Ol _ _) J J J K1 call127 (Xu 2 J J pU Ze) J hw) fun _ _=>Oc (Zgi 2 J J pU)<|as_ J<|Zf<|Za<|Zu ?_
   obtain rfl:i=(dg U x).length:=by omega
   have hx2:tz o=dg U (x*2^s):=by
    rw [←Kr Pi _ hall]
    congr 1
    rw [Nv U o _ (by omega),List.take_of_length_le (Nat.le_refl _),Le Pi,Zde,Nat.mul_assoc,←Nat.pow_add,show b+64*w=s by omega]at hv
    exact hv
   exact Ym (.inl J) hsc _ _ (fun a w hs=>Ni hs results132 J) J trivial J (Od 2 J J pU hx2 Zk)
theorem nat_shr(v:Value)(x s:Nat)(hx:bl x≤8589934592)(hs:s≤8589934592):Cal prog 195 #[v,.int .i64 (s:Int)] [dgp v x] false (G:=Value) (fun r=>True) (fun r=>r) (fun r=>[dgp r (x/2^s)]):=by
 refine Yc func195 J ntmps195 J K1 ?_
 intro w0 sc hw hsc
 simp only [Zq,Zp]
 obtain⟨w,hwe⟩:∃w,w=s/64:=⟨_,rfl⟩
 obtain⟨b,hbe⟩:∃b,b=s%64:=⟨_,rfl⟩
 have hX:=Ml x
 have hdl:((dg U x).drop w).length=(dg U x).length-w:=List.length_drop
 refine Zd<|Zg<|as_ J<|Zf<|Za<|Zd<|Zg<|mv J<|dt (Zkz J J J)<|mv J<|dt (Zmy J J J)<|as_ J<|as_ J<|Zf<|Za<|Zd<|Zd<|Yr (Ij 5 (v':= .int .i64 (w:Int)) J (by congr 1;omega))<|Yr (Ij 6 (v':= .int .i64 (b:Int)) J (by congr 1;omega))<|Zg<|mv J<|mv J<|dt (Yd J J (i:=1) J Zi Qa)<|dt (Ke J J J)<|Zf<|Za<|Zs J (fun h139=>?_) (fun h139=>?_)
 ·refine Zd<|Zg<|as_ J<|Zf<|Za<|Zu<|Xa<|Qu (Na 9 1 149 Hg) ?_
  have hx0:x/2^s=0:=by
   rw [Ci hwe hbe,Nat.div_eq_of_lt ((Xz Pi w x).1 (by omega)),Nat.zero_div]
  exact Ym (.inl J) hsc (.slice none 0 0) _ (fun a w hs=>Ni hs results195 J) J trivial J (Od 9 J J pU (by rw [hx0];rfl) Zk)
 ·refine Zj<|Za<|Zd<|Zg<|mv J<|mv J<|dt (d_suf (ii:=1) (i:=w) J J J J Zi Qa Mi (by omega) (by omega))<|Oc (s_suf 1 2 (w) J J (by omega))<|tt (Zll (n:=3) (Zu2 _ _ (by simp only [List.length_drop];omega)) J J J K1 call200 (Zc 2 J J J Ze) J hw) fun v _=>as_ J<|Zf<|Za<|Ez [(7,_)] [(0,_),(1,_),(2,_)] (fun(o:List Nat)=>[]) (fun(o:List Nat)=>[(3,osl 1 149 Hg v o)]) (fun(o:List Nat)=>(o.length=(dg U x).length-w)∧(∀j,j<o.length→o.getD j 0=x/2^s/U^j%U)) K1 K3 ?_ ?_
  ·refine Zd<|Zg<|mv J<|dt (Pm J J J)<|Zf<|Za<|Zs J (fun h143=>?_) (fun h143=>?_)
   ·refine Zd<|Zg<|mv J<|dt (Yd J J (i:=3) J (Yt pU) Qa)<|mv J<|Zf<|Za<|Zo<|Nt [(0,_),(5,_),(6,_),(7,_),(24,_)] [(0,_),(1,_),(2,_)] (fun(q:Nat×List Nat)=>[(25,.int .i64 (q.1:Int))]) (fun(q:Nat×List Nat)=>[(3,osl 1 149 Hg v q.2)]) (fun(q:Nat×List Nat)=>(q.1≤(dg U x).length-w)∧(q.2.length=(dg U x).length-w)∧(∀j,j<q.1→q.2.getD j 0=x/2^s/U^j%U)∧(∀j,q.1≤j→q.2.getD j 0=x/U^w/U^j%U)∧(∀d∈q.2,d<U)) (fun(q:Nat×List Nat)=>(dg U x).length-w-q.1) (0,(dg U x).drop w) ⟨Nat.zero_le _,by simp,fun j hj=>absurd hj (Nat.not_lt_zero j),fun j _=>Zuk x w j,fun d hd=>Lp Pi x d (List.mem_of_mem_drop hd)⟩ K6 K4 ?_
    rintro⟨i,o⟩ ⟨hi,hol,hlo,hhi,hall⟩
    dsimp only at hi hol hlo hhi hall
    simp only [CA,NA]
    refine Zd<|Zg<|dt (Xr J J J)<|Zf<|Za<|Zd<|Zs J (fun h144=>?_) (fun h144=>?_)
    ·refine Zj<|Za<|Zd<|Zo<|Zd<|Zg<|mv J<|as_ J<|Zf<|Za<|Zd<|Zg<|mv J<|mv J<|dt (Xb (ii:=3) J J J J (Yt pU) Qa Mi J (by first | omega | (simp only [List.length_set];omega)))<|dt (Xv (ii:=3) 0 J J J (Yt pU) pU (by first | omega | (simp only [List.length_set];omega)))<|mv J<|dt (Zpt J J (n:=b) J J)<|dt (Xb (ii:=3) J J J J (Yt pU) Qa Mi J (by first | omega | (simp only [List.length_set];omega)))<|tt (Ii (i:=3) (enc:=Hg) _ J J J J J J pU J hw (by decide) (by first | omega | (simp only [List.length_set];omega))) fun _ _=>Zf<|Za<|Zd<|Zg<|mv J<|dt (Yx J J J ⟨by omega,by omega⟩)<|mv J<|dt (Yd J J (i:=3) J (Yt pU) Qa)<|dt (Xr J J J)<|Zf<|Za<|Zs J (fun h146=>?_) (fun h146=>?_)
     ·simp only [List.length_set]at h146
      have hnew:∀j,((o.set i (o.getD i 0/2^b)).set i ((o.set i (o.getD i 0/2^b)).getD i 0 ||| ((dg U x).getD (w+i+1) 0*2^(64-b))%U)).getD j 0=if i=j then x/2^s/U^i%U else o.getD j 0:=fun j=>by
       rw [Nq _ _ _ _ _ (by simp;omega),Nq _ _ _ _ _ (by omega),Nq _ _ _ _ _ (by omega)]
       split
       ·rw [if_pos rfl,hhi i (Nat.le_refl _),Hi Pi,Ci hwe hbe,Zo7,show x/U^(w+i+1)=x/U^w/U^i/U by rw [Nat.div_div_eq_div_mul,Nat.div_div_eq_div_mul,←Nat.pow_succ,←Nat.pow_add];rfl,Znq _ _ (by omega)]
       ·rfl
      have hal2:=Lv (Lv hall i (o.getD i 0/2^b) (Nat.lt_of_le_of_lt (Nat.div_le_self _ _) (Qn Pw hall _))) i ((o.set i (o.getD i 0/2^b)).getD i 0 ||| ((dg U x).getD (w+i+1) 0*2^(64-b))%U) (Nat.or_lt_two_pow (n:=64) (Qn Pw (Lv hall _ _ (Nat.lt_of_le_of_lt (Nat.div_le_self _ _) (Qn Pw hall _))) _) (Nat.mod_lt _ Pw))
      refine Qi (fun _=>False) [(0,0),(1,0),(2,0),(3,0),(4,0),(5,0),(6,0),(7,0),(8,0),(9,0),(10,0),(11,0),(12,0),(13,0),(14,0),(15,0),(16,3)] ?_ ?_
      ·kernel_rfl
      refine r0' J J (st0 (Yo J J))<|r0' J J (st0 (Yo J J))<|r0' J J (st0 (Xb (ii:=3) J J J J (Yt pU) Qa Mi J (by first | omega | (simp only [List.length_set];omega))))<|r0' J J (st0 (Xv (ii:=3) 0 J J J (Yt pU) pU (by first | omega | (simp only [List.length_set];omega))))<|r0' J J (st0 (Yo J J))<|r0' J J (st0 (Yo J J))<|r0' J J (st0 (Yo J J))<|r0' J J (st0 (Yx J J J ⟨by omega,by omega⟩))<|r0' J J (st0 (Yx J J J ⟨by omega,by omega⟩))<|r0' J J (st0 (Xb (ii:=1) (i:=w+i+1) J J J J Zi Qa Mi (by omega) (by first | omega | (simp only [List.length_set];omega))))<|r0' J J (st0 (Xv (ii:=1) 0 J J J Zi pU (by first | omega | (simp only [List.length_set];omega))))<|r0' J J (st0 (Yo J J))<|r0' J J (st0 (Qd J J J ⟨by omega,by omega⟩))<|r0' J J (st0 (Zpu J J (n:=64-b) J (by omega)))<|r0' J J (st0 (u_or J J J (Qn Pw (Lv hall _ _ (Nat.lt_of_le_of_lt (Nat.div_le_self _ _) (Qn Pw hall _))) _) (Nat.mod_lt _ Pw)))<|r0' J J (st0 (Xb (ii:=3) J J J J (Yt pU) Qa Mi J (by first | omega | (simp only [List.length_set];omega))))<|r3' J (Ii (i:=3) (enc:=Hg) _ J J J J J J pU J hw (by decide) (by first | omega | (simp only [List.length_set];omega))) fun _ _=>Of<|Oe<|Za<|Zg<|dt (Yx J J J ⟨by omega,by omega⟩)<|mv J<|Zf ?_
      exact Xn (i+1,_) ⟨by first | omega | (dsimp only<;>omega),by simp;omega,fun j hj=>by dsimp only;rw [hnew j];split;(· rename_i e;rw [←e]);exact hlo j (by have:j<i+1:=hj;omega),fun j hj=>by dsimp only;rw [hnew j,if_neg (by have:i+1≤j:=hj;omega)];exact hhi j (by have:i+1≤j:=hj;omega),hal2⟩ (by first | omega | (dsimp only<;>omega)) K6 K4
     ·have hnew:∀j,(o.set i (o.getD i 0/2^b)).getD j 0=if i=j then x/2^s/U^i%U else o.getD j 0:=fun j=>by
       rw [Nq _ _ _ _ _ (by omega)]
       split
       ·rw [hhi i (Nat.le_refl _),Ci hwe hbe,Zo7,Zrq _ _ (by omega)]
        rw [Nat.div_div_eq_div_mul,←Nat.pow_succ]
        exact Nat.div_eq_of_lt (Ztm (by simp only [List.length_set]at h146;omega))
       ·rfl
      have hal2:=Lv hall i (o.getD i 0/2^b) (Nat.lt_of_le_of_lt (Nat.div_le_self _ _) (Qn Pw hall _))
      exact Zj<|Oe<|Za<|Zg<|dt (Yx J J J ⟨by omega,by omega⟩)<|mv J<|Zf<|Xn (i+1,_) ⟨by first | omega | (dsimp only<;>omega),by simp;omega,fun j hj=>by dsimp only;rw [hnew j];split;(· rename_i e;rw [←e]);exact hlo j (by have:j<i+1:=hj;omega),fun j hj=>by dsimp only;rw [hnew j,if_neg (by have:i+1≤j:=hj;omega)];exact hhi j (by have:i+1≤j:=hj;omega),hal2⟩ (by first | omega | (dsimp only<;>omega)) K6 K4
    ·exact Yv<|Zv<|Zv<|Ox<|Qt _ ⟨by omega,by intro j hj;rw [hlo j (by omega)]⟩ K1 K4
   ·exact Zj<|Qt _ ⟨by simp,by intro j hj;rw [Zuk,Ci hwe hbe,show b=0 by omega,Nat.pow_zero,Nat.div_one]⟩ K1 K4
  ·rintro o ⟨hol,hv⟩
   simp only [CA,NA]
   refine Zd<|Zg<|mv J<|tt (Zh (n:=3) (Ol _ _) J J J K1 call127 (Xu 3 J J pU Ze) J hw) fun _ _=>Oc (Zgi 3 J J pU)<|as_ J<|Zf<|Za<|Zu ?_
   have hx2:tz o=dg U (x/2^s):=Zpw Pi hv (by rw [hol,Ci hwe hbe];exact Nat.lt_of_le_of_lt (Nat.div_le_self _ _) (Ztm (by omega)))
   exact Ym (.inl J) hsc _ _ (fun a w hs=>Ni hs results195 J) J trivial J (Od 3 J J pU hx2 Zk)
theorem Zke(v:Value)(x:Nat)(hx:bl x≤4294967296:=by omega):Mc prog 169 #[v] [dgp v x] (.string (Qo x)):=by
 refine Yc func169 J ntmps169 J K1 ?_
 intro w0 sc hw hsc
 simp only [Zq,Zp]
 have hX:=Ml x
 have hL:=Zbd x
 have hW:=lenU x
 have hrl:(List.replicate (dg 256 x).length (0:Nat)).length=(dg 256 x).length:=List.length_replicate
 refine Zd<|Zg<|as_ J<|Zf<|Za<|Zd<|Zg<|mv J<|tt (Zh (n:=1) (Zin _ _) J J J K1 call168 (Zc 1 J J J Ze) J hw) fun _ _=>dt (Yx J J J ⟨by omega,by omega⟩)<|dt (Zkz J J J)<|tt (Gb (i:=2) (n:=(dg 256 x).length) (by_:=1) (enc:=Zvu) 0 J J J J Zqt ti5 J pB.cells pB.pos J J J hw) fun v _=>as_ J<|Zf<|Za<|Zd<|Zd<|Zg<|mv J<|dt (Yd J J (i:=2) J (Yt pB) Zqt)<|mv J<|Zf<|Za<|Zo<|Nt [(0,_),(3,_),(12,_)] [(0,_),(1,_)] (fun(q:Nat×List Nat)=>[(13,.int .i64 (q.1:Int))]) (fun(q:Nat×List Nat)=>[(2,osl 1 5 Zvu v q.2)]) (fun(q:Nat×List Nat)=>(q.1≤(dg 256 x).length)∧(q.2.length=(dg 256 x).length)∧(∀j,j<q.1→q.2.getD j 0=x/256^((dg 256 x).length-1-j)%256)) (fun(q:Nat×List Nat)=>(dg 256 x).length-q.1) (0,List.replicate (dg 256 x).length 0) ⟨by first | omega | (dsimp only<;>omega),by simp,fun j hj=>absurd hj (Nat.not_lt_zero j)⟩ K4 K3 ?_
 rintro⟨i,o⟩ ⟨hi,hol,hov⟩
 dsimp only at hi hol hov
 simp only [CA,NA]
 refine Zd<|Zg<|dt (Xr J J J)<|Zf<|Za<|Zd<|Zs J (fun h48=>?_) (fun h48=>?_)
 ·refine Zj<|Za<|Zd<|Zo<|Zd<|Zg<|mv J<|as_ J<|Zf<|Za<|Zd<|Zg<|mv J<|dt (Yd J J (i:=2) J (Yt pB) Zqt)<|dt (Qd J J J ⟨by omega,by omega⟩)<|mv J<|dt (Qd J J J ⟨by omega,by omega⟩)<|as_ J<|Zf<|Za<|Yr (Ij 5 (v':= .int .i64 (((dg 256 x).length-1-i:Nat):Int)) J (by congr 1;omega)) ?_
  have hbyte:=Zk5 x ((dg 256 x).length-1-i)
  rw [←Hi Pi]at hbyte
  exact Zg<|mv J<|mv J<|mv J<|mv J<|dt (Zkz J J J)<|dt (Xb (ii:=1) (i:=((dg 256 x).length-1-i)/8) J J J J Zi Qa Mi)<|dt (Xv (ii:=1) 0 J J J Zi pU)<|mv J<|dt (Zmy J J J)<|dt (Dx J J J ⟨by omega,by omega⟩)<|dt (Zpt J J (n:=((dg 256 x).length-1-i)%8*8) J (by omega))<|dt (Zf8 J J Zeg uT5)<|dt (Xb (ii:=2) J J J J (Yt pB) Zqt sizeOf5 J (by first | omega | (simp only [List.length_set];omega)))<|tt (Ii (i:=2) (enc:=Zvu) _ J J J J J J pB J hw (by decide) (by first | omega | (simp only [List.length_set];omega))) fun _ _=>Zf<|Oe<|Za<|Zg<|dt (Yx J J J ⟨by omega,by omega⟩)<|mv J<|Zf<|Xn (i+1,_) ⟨by first | omega | (dsimp only<;>omega),by simp;omega,fun j hj=>by dsimp only;rw [Nq _ _ _ _ _ (by omega)];split;(· rename_i e;rw [←e];exact hbyte);exact hov j (by omega)⟩ (by first | omega | (dsimp only<;>omega)) K4 K3
 ·refine Yv<|Zv<|Zv<|Ox<|Za<|Zd<|Zg<|mv J<|dt (d_b2s J J (i:=2) J (Yt pB) Zqt uT9 uT5)<|as_ J<|Zf<|Za<|Zu ?_
  have hb:Qo x=⟨(o.map UInt8.ofNat).toArray⟩:=by
   have ho:o=(dg 256 x).reverse:=by
    refine Zcs (by simp;omega) (fun j hj=>?_)
    rw [hov j (by omega),Zkn _ _ _ (by omega),Hi (by omega)]
   rw [ho];rfl
  exact xU hsc results169 J J (by rw [hb])
theorem Zak(x:Nat)(hx:bl x≤4294967296:=by omega):Cal prog 170 #[.string (Qo x)] [] false (G:=Value) (fun r=>True) (fun r=>r) (fun r=>[dgp r x]):=by
 refine Yc func170 J ntmps170 J trivial ?_
 intro w0 sc hw hsc
 simp only [Zq,Zp]
 have hX:=Ml x
 have hL:=Zbd x
 have hW:=lenU x
 have hbs:=Lc x
 refine Zd<|Zg<|as_ J<|Zf<|Za<|Zd<|Zg<|mv J<|dt (Fi J J uT9)<|dt (Yx J J J ⟨by omega,by omega⟩)<|dt (Zkz J J J)<|tt (Gb (i:=1) (n:=(dg U x).length) (by_:=8) (enc:=Hg) 0 J J J J Qa ti149 J pU.cells pU.pos J J J hw) fun v _=>as_ J<|Zf<|Za<|Zd<|Zd<|Zg<|mv J<|dt (Fi J J uT9)<|mv J<|Zf<|Za<|Zo<|Nt [(0,_),(3,_),(12,_)] [(0,_)] (fun(q:Nat×List Nat)=>[(13,.int .i64 (q.1:Int))]) (fun(q:Nat×List Nat)=>[(1,osl 1 149 Hg v q.2)]) (fun(q:Nat×List Nat)=>(q.1≤(dg 256 x).length)∧(q.2.length=(dg U x).length)∧(∀w,w<q.2.length→q.2.getD w 0=hi x ((dg 256 x).length-q.1) w)) (fun(q:Nat×List Nat)=>(dg 256 x).length-q.1) (0,List.replicate (dg U x).length 0) ⟨by first | omega | (dsimp only<;>omega),by simp,fun w hw=>by dsimp only at *;rw [List.length_replicate]at hw;rw [Lr,hi_top (by omega)]⟩ K4 K2 ?_
 rintro⟨i,o⟩ ⟨hik,hol,hov⟩
 dsimp only at hik hol hov
 simp only [CA,NA]
 refine Zd<|Zg<|dt (Xr J J J)<|Zf<|Za<|Zd<|Zs J (fun h30=>?_) (fun h30=>?_)
 ·refine Zj<|Za<|Zd<|Zo<|Zd<|Zg<|mv J<|as_ J<|Zf<|Za<|Zd<|Zg<|mv J<|dt (Fi J J uT9)<|dt (Qd J J J ⟨by omega,by omega⟩)<|mv J<|dt (Qd J J J ⟨by omega,by omega⟩)<|as_ J<|Zf<|Za<|Yr (Ij 5 (v':= .int .i64 (((dg 256 x).length-1-i:Nat):Int)) J (by congr 1;omega)) ?_
  have hget:=Zd9 x i (by omega)
  have hw0:=hov (((dg 256 x).length-1-i)/8) (by omega)
  have hlt1:o.getD (((dg 256 x).length-1-i)/8) 0<U:=by rw [hw0];exact Nat.mod_lt _ Pw
  have hset:∀w,w<o.length→(o.set (((dg 256 x).length-1-i)/8) (o.getD (((dg 256 x).length-1-i)/8) 0 ||| (((Qo x).data.toList.getD i 0).toNat*2^(((dg 256 x).length-1-i)%8*8))%U)).getD w 0=hi x ((dg 256 x).length-(i+1)) w:=fun w hw=>by
   rw [hget,hw0,show(dg 256 x).length-i=(dg 256 x).length-1-i+1 by omega,hi_step,Nq _ _ _ _ _ (by omega),show(dg 256 x).length-(i+1)=(dg 256 x).length-1-i by omega]
   split
   ·rename_i e;rw [e]
   ·rename_i e;rw [hov w hw,show(dg 256 x).length-i=(dg 256 x).length-1-i+1 by omega];exact Zya e
  refine Qi (fun _=>False) [(0,0),(1,0),(2,0),(3,0),(4,0),(5,0),(6,0),(7,0),(8,0),(9,0),(10,0),(11,0),(12,0),(13,0),(14,0),(15,3)] ?_ ?_
  ·kernel_rfl
  exact r0' J J (st0 (Yo J J))<|r0' J J (st0 (Yo J J))<|r0' J J (st0 (Zkz J J J))<|r0' J J (st0 (Xb (ii:=1) (i:=((dg 256 x).length-1-i)/8) J J J J (Yt pU) Qa Mi))<|r0' J J (st0 (Xv (ii:=1) 0 J J J (Yt pU) pU (by first | omega | (simp only [List.length_set];omega))))<|r0' J J (st0 (Yo J J))<|r0' J J (st0 (Yo J J))<|r0' J J (st0 (Zqm J J J uT9 J))<|r0' J J (st0 (cv_u64 J J uT5 Zeg (by have:=(((Qo x).data.toList.getD i 0).toNat_lt);simp only [U];omega)))<|r0' J J (st0 (Yo J J))<|r0' J J (st0 (Zmy J J J))<|r0' J J (st0 (Dx J J J ⟨by omega,by omega⟩))<|r0' J J (st0 (Zpu J J (n:=((dg 256 x).length-1-i)%8*8) J (by omega)))<|r0' J J (st0 (u_or J J J (hlt1) (Nat.mod_lt _ Pw)))<|r0' J J (st0 (Xb (ii:=1) (i:=((dg 256 x).length-1-i)/8) J J J J (Yt pU) Qa Mi))<|r3' J (Ii (i:=1) (enc:=Hg) _ J J J J J J pU J hw (by decide) (by first | omega | (simp only [List.length_set];omega))) fun _ _=>Of<|Oe<|Za<|Zg<|dt (Yx J J J ⟨by omega,by omega⟩)<|mv J<|Zf<|Xn (i+1,_) ⟨by first | omega | (dsimp only<;>omega),by simp;omega,fun w hw=>hset w (by simpa using hw)⟩ (by first | omega | (dsimp only<;>omega)) K4 K2
 ·refine Yv<|Zv<|Zv<|Ox<|Za<|Zd<|Zg<|mv J<|as_ J<|Zf<|Za<|Zu ?_
  have ho:o=dg U x:=Zcs hol (fun j hj=>by rw [hov j hj,Hi Pi,hi_ge (by omega)])
  exact Ym (.inl J) hsc _ _ (fun a w hs=>Ni hs results170 J) J trivial J (Od 1 J J pU ho Zk)
set_option maxHeartbeats 2000000 in
theorem Zs5(v w:Value)(x y:Nat)(hx:bl x≤4000000000)(hy0:bl y≤4000000000)(hy:0<y):Cal prog 174 #[v,w] [dgp v x,dgp w y] true (G:=Value×Value) (fun r=>True) (fun r=> .tuple #[r.1,r.2]) (fun r=>[dgp r.1 (x/y),dgp r.2 (x%y)]):=by
 refine Yc func174 J ntmps174 J K2 ?_
 intro w0 sc hw hsc
 simp only [Zq,Zp]
 have hX:=Ml x
 have hY:=Ml y
 refine Zd<|Zg<|as_ J<|as_ J<|Zf<|Za<|Zd<|Zd<|Zg<|mv J<|mv J<|tt (Zh (n:=2) (Ax _ _ _ _ (by omega) (by omega)) J J J K2 call172 (Zc 1 J J J (Zc 2 J J J Ze)) J hw) fun r hr=>dt (Xr J J J)<|Zf<|Za<|Zs J (fun h166=>?_) (fun h166=>?_)
 ·have hlt:x<y:=hr.1.1 (by omega)
  exact Zd<|Zg<|mv J<|as_ J<|as_ J<|Zf<|Za<|Zu<|Xa<|Qu (Na 9 1 149 Hg)<|Ym (.inl J) hsc (.slice none 0 0,v) _ (fun a w hs=>Nl hs results174 J J) J trivial J (Od 9 J J pU (by rw [Nat.div_eq_of_lt hlt];rfl) (Yi 1 J J J (by rw [Nat.mod_eq_of_lt hlt]) Zk))
 ·have hge:y≤x:=by have:=hr.1;omega
  have hly:=Oy hge
  refine Zj<|Za<|Zd<|Zd<|Zg<|mv J<|dt (Yd J J (i:=2) J Zi Qa)<|dt (Pg J J J)<|Zf<|Za<|Zs J (fun h169=>?_) (fun h169=>?_)
  ·have hyU:y<U:=by have:=(Xz Pi 1 y).1 (by omega);simpa using this
   have hd0:(dg U y).getD 0 0=y:=by rw [Hi Pi];simp [Nat.mod_eq_of_lt hyU]
   exact Zd<|Zg<|mv J<|mv J<|dt (Xb (ii:=2) (i:=0) J J J J Zi Qa Mi J)<|dt (Xv (ii:=2) 0 J J J Zi pU (by first | omega | (simp only [List.length_set];omega)))<|tt (Zh (n:=3) (Zs3 _ _ _ (by omega) (by rw [hd0];exact hy) (by rw [hd0];exact hyU)) J J J K2 call192 (Zc 1 J J J Ze) J hw) fun v _=>mv J<|dt (Yh J J J)<|dt (Yh J J J)<|as_ J<|as_ J<|Zf<|Za<|Zd<|Zg<|mv J<|mv J<|tt (Po (i:=4) (ivs:=[(0,_)]) (enc:=Hg) [x%(dg U y).getD 0 0] J J K2 Qa ti149 J J J J J pU.cells J J hw) fun v_2 _=>tt (Zh (n:=4) (Ol _ _) J J J K1 call127 (Xu 4 J J pU Ze) J hw) fun _ _=>Oc (Zgi 4 J J pU)<|as_ J<|as_ J<|Zf<|Za<|Zu<|Xa<|Ym (.inl J) hsc (_,_) _ (fun a w hs=>Nl hs results174 J J) J trivial J (Yi 3 J J J (by rw [hd0];rfl) (Od 4 J J pU (by rw [Zei (Nat.lt_trans (Nat.mod_lt _ (by rw [hd0];exact hy)) (by rw [hd0];exact hyU)),hd0]) Zk))
  ·refine Zj<|Za<|Zd ?_
   obtain⟨k,hk⟩:∃k,k=(dg U y).length:=⟨_,rfl⟩
   have hkx:k≤(dg U x).length:=by omega
   obtain⟨b,hb⟩:∃b,b=64-bl ((dg U y).getD (k-1) 0):=⟨_,rfl⟩
   obtain⟨hkD0,_,hk1,hDk0,hb63,hD630⟩:=norm_dg hy hk hb
   obtain⟨D,hDe⟩:∃D,D=y*2^b:=⟨_,rfl⟩
   have hkD:(dg U D).length=k:=by rw [hDe];exact hkD0
   have hDk:D<U^k:=by rw [hDe];exact hDk0
   have hD63:U^(k-1)*9223372036854775808≤D:=by rw [hDe];exact hD630
   have hD0:0<D:=by rw [hDe];exact Nat.mul_pos hy (Nat.two_pow_pos b)
   have hDb:bl D≤4000000064:=by rw [hDe,Zqp _ _ hy];omega
   refine Zg<|mv J<|mv J<|dt (Yd J J (i:=2) J Zi Qa)<|dt (Qd J J J ⟨by omega,by omega⟩)<|dt (Xb (ii:=2) (i:=(dg U y).length-1) J J J J Zi Qa Mi)<|dt (Xv (ii:=2) 0 J J J Zi pU (by first | omega | (simp only [List.length_set];omega)))<|tt (Zh (n:=4) (Zm9 _ (Qn Pw (Lp Pi y) _)) J J J K1 call189 Ze J hw) fun _ _=>Oc (Ij 44 (v':= .int .i64 (b:Int)) J (by rw [hb,hk]))<|as_ J<|Zf<|Za<|Ez [(0,_),(8,_)] [(0,_),(1,_),(2,_)] (fun(q:Value×Value)=>[(9,q.1),(10,q.2)]) (fun(q:Value×Value)=>[(81,dgp q.1 D),(82,osl 1 149 Hg q.2 (List.replicate ((dg U x).length+1) 0))]) (fun(q:Value×Value)=>True) K2 K3 ?_ ?_
   ·refine Hy (fun _=>False) [8]<|Zx (n:=4) [(0,0),(1,0),(3,0),(4,0),(5,0)]<|r0' J J (st0 (Yo J J))<|r0' J J (st0 (Yo J J))<|r0' J J (st0 (Yo J J))<|r0' J J (st0 (Yd J J (i:=1) J Zi Qa))<|r0' J J (st0 (Yx J J J ⟨by omega,by omega⟩))<|Yk<|Pb (n:=3) 2 6 ?_ ?_
    ·exact Yj J (Zh (n:=81) (Ik _ _ _ (by omega) (by omega)) J J J K2 call132 (Zc 2 J J J Ze) J hw) fun v_3 _=>Zx (n:=0) [(7,0),(6,1),(8,3)]<|r0' J J (st0 (Mf J J))<|r1' J (Gb (i:=82) (n:=(dg U x).length+1) (by_:=8) (enc:=Hg) 0 J J J J Qa ti149 J pU.cells pU.pos J J J hw) fun v_4 _=>r3' J (Py (Mf J J) J) fun _ _=>Yk<|Yf<|Qt (_,_) trivial K4 ⟨by rw [hDe];rfl,rfl,rfl,rfl,rfl,trivial⟩
    ·exact Yj J (Gb (i:=82) (n:=(dg U x).length+1) (by_:=8) (enc:=Hg) 0 J J J J Qa ti149 J pU.cells pU.pos J J J hw) fun v_5 _=>Zx (n:=0) [(2,1),(7,0),(8,3)]<|r1' J (Zh (n:=81) (Ik _ _ _ (by omega) (by omega)) J J J K2 call132 (Zc 2 J J J Ze) J hw) fun v_6 _=>r0' J J (st0 (Mf J J))<|r3' J (Py (Mf J J) J) fun _ _=>Yk<|Yf<|Qt (_,_) trivial K4 ⟨by rw [hDe];rfl,rfl,rfl,rfl,rfl,trivial⟩
   ·rintro⟨vd,vr⟩ -
    simp only [CA,NA]
    refine Zd ?_
    have hnl:(dg U (x*2^b)).length≤(dg U x).length+1:=(Xz Pi _ _).2 (by rw [Nat.pow_succ];exact Nat.mul_lt_mul_of_lt_of_le ((Xz Pi _ x).1 (Nat.le_refl _)) (by rw [U_eq];exact Nat.pow_le_pow_right (by omega) (by omega)) Pw)
    refine Zg<|mv J<|mv J<|mv J<|tt (Zh (n:=5) (Ik _ _ _ (by omega) (by omega)) J J J K2 call132 (Zc 1 J J J Ze) J hw) fun v_7 _=>tt (t_cpy (i:=82) (j:=5) 0 J J J J J J (by decide) J Zi (Zyg _ _ _) (by rw [List.length_replicate];exact hnl) (by rw [List.length_replicate];omega) (by rw [List.length_replicate];omega) Qa pU J hw) fun _ _=>Zf<|Za<|Zd ?_
    have hR0l:(spl (List.replicate ((dg U x).length+1) 0) 0 (dg U (x*2^b))).length=(dg U x).length+1:=by rw [Ki _ _ _ (by rw [List.length_replicate];omega),List.length_replicate]
    refine Zg<|mv J<|dt (Yd J J (i:=81) J Zi Qa)<|as_ J<|Zf<|Za<|Zd ?_
    have hql0:(List.replicate ((dg U x).length+1-k) (0:Nat)).length=(dg U x).length+1-k:=List.length_replicate
    refine Yr (Ij 11 (v':= .int .i64 (k:Int)) J (by rw [hkD]))<|Zg<|mv J<|dt (Yd J J (i:=82) J (Yt pU) Qa)<|mv J<|dt (Qd J J J ⟨by omega,by omega⟩)<|tt (Gb (i:=6) (n:=(dg U x).length+1-k) (by_:=8) (enc:=Hg) 0 J J J J Qa ti149 J pU.cells pU.pos J J J hw) fun v_8 _=>as_ J<|Zf<|Za<|Zd<|Zd<|Zg<|mv J<|dt (Yd J J (i:=6) J (Yt pU) Qa)<|dt (Qd J J J ⟨by omega,by omega⟩)<|as_ J<|Zf<|Za<|Zo ?_
    refine Nt [(8,_),(9,_),(10,_),(11,_),(12,_)] [(0,_),(81,_),(1,_),(2,_),(5,_)] (fun(q:Nat×List Nat×List Nat)=>[(13,.int .i64 ((q.1:Int)-1))]) (fun(q:Nat×List Nat×List Nat)=>[(82,osl 1 149 Hg vr q.2.1),(6,osl 1 149 Hg v_8 q.2.2)]) (fun(q:Nat×List Nat×List Nat)=>(q.1≤(dg U x).length+1-k)∧(q.2.1.length=(dg U x).length+1)∧(∀d∈q.2.1,d<U)∧(q.2.2.length=(dg U x).length+1-k)∧(∀d∈q.2.2,d<U)∧(val U q.2.1<D*U^q.1)∧(val U (q.2.2.drop q.1)*U^q.1*D+val U q.2.1=x*2^b)) (fun(q:Nat×List Nat×List Nat)=>q.1) ((dg U x).length+1-k,spl (List.replicate ((dg U x).length+1) 0) 0 (dg U (x*2^b)),List.replicate ((dg U x).length+1-k) 0) ⟨Nat.le_refl _,hR0l,Zna (Nf _ Pw) (Lp Pi _) 0,by simp,Nf _ Pw,by rw [Znh,Le Pi];exact Zyk ((Xz Pi _ x).1 (Nat.le_refl _)) hb63 hk1 (by omega) hD63,by rw [Znh,Le Pi];simp [val]⟩ ⟨by rw [List.length_replicate];rfl,rfl,rfl,rfl,rfl,rfl,trivial⟩ K7 ?_
    rintro⟨jj,R,q⟩ ⟨hj,hRl,hRa,hql,hqa,hV,hN⟩
    dsimp only at hj hRl hRa hql hqa hV hN
    simp only [CA,NA]
    refine Zd<|Zd<|Zg<|mv J<|dt (Ke J J J)<|Zf<|Za<|Zs J (fun h179=>?_) (fun h179=>?_)
    ·refine Zj<|Za<|Zd<|Zo<|Zd ?_
     have hW1:val U R<U^(jj-1+k+1):=by
      refine Nat.lt_of_lt_of_le hV ?_
      rw [show jj-1+k+1=k+jj by omega,Nat.pow_add]
      exact Nat.mul_le_mul_right _ (Nat.le_of_lt hDk)
     have hWz:tz ((R.drop (jj-1)).take (jj-1+k+1-(jj-1)))=dg U (val U R/U^(jj-1)):=win_val hRa (by omega) (by rw [show jj-1+(jj-1+k+1-(jj-1))=jj-1+k+1 by omega];exact hW1)
     have hWD:val U R/U^(jj-1)<D*U:=by
      rw [Nat.div_lt_iff_lt_mul (Nat.pow_pos Pw),Nat.mul_assoc,←Nat.pow_succ',show(jj-1).succ=jj by omega];exact hV
     have hWb:bl (val U R/U^(jj-1))≤4294967296:=by
      have h1:=Oy (Nat.le_of_lt hWD)
      have h2:=Zk9 D U
      have h3:bl U≤65:=(Mp 65 U).2 (by simp [U])
      omega
     have htop:=top_two hRa (j:=jj-1) hk1 hW1 (by omega)
     have hDt:(dg U D).getD (k-1) 0*U^(k-1)≤D:=by
      rw [Hi Pi];exact Nat.le_trans (Nat.mul_le_mul_right _ (Nat.mod_le _ _)) (Nat.div_mul_le_self _ _)
     have hQU:val U R/U^(jj-1)/D≤18446744073709551615:=by
      have:=(Nat.div_lt_iff_lt_mul hD0).2 (show _<U*D by rw [Nat.mul_comm];exact hWD)
      simp only [U]at this ⊢;omega
     refine Zg<|as_ J<|Zf<|Za<|Ez [(8,_),(9,_),(10,_),(11,_),(12,_),(13,_)] [(0,_),(82,_),(6,_),(81,_),(1,_),(2,_),(5,_)] (fun(g:Nat)=>[(14,.int .u64 (g:Int))]) (fun(g:Nat)=>[]) (fun(g:Nat)=>(val U R/U^(jj-1)/D≤g)∧(g<U)) K6 K7 ?_ ?_
     ·refine Zd<|Qi (fun _=>False) [(0,0),(1,0),(2,0),(3,0),(4,0),(5,0),(6,0),(7,0),(8,0),(9,0),(10,0),(11,0)] ?_ ?_
      ·kernel_rfl
      refine r0' J J (st0 (Yo J J))<|r0' J J (st0 (Yo J J))<|r0' J J (st0 (Yo J J))<|r0' J J (st0 (Yx J J J ⟨by omega,by omega⟩))<|r0' J J (st0 (Xb (ii:=82) (i:=jj-1+k) J J J J (Yt pU) Qa Mi))<|r0' J J (st0 (Xv (ii:=82) 0 J J J (Yt pU) pU (by first | omega | (simp only [List.length_set];omega))))<|r0' J J (st0 (Yo J J))<|r0' J J (st0 (Yo J J))<|r0' J J (st0 (Qd J J J ⟨by omega,by omega⟩))<|r0' J J (st0 (Xb (ii:=81) (i:=k-1) J J J J Zi Qa Mi))<|r0' J J (st0 (Xv (ii:=81) 0 J J J Zi pU (by first | omega | (simp only [List.length_set];omega))))<|r0' J J (st0 (Xr J J J))<|Of<|Za<|Zs J (fun h182=>?_) (fun h182=>?_)
      ·refine Qi (fun _=>False) [(0,0),(1,0),(2,0),(3,0),(4,0),(5,0),(6,0),(7,0),(8,0),(9,0),(10,0),(11,0),(12,0),(13,0),(14,0),(15,0),(16,0),(17,0),(18,1),(19,0),(20,0),(21,0),(22,0)] ?_ ?_
       ·kernel_rfl
       refine r0' J J (st0 (Yo J J))<|r0' J J (st0 (Yo J J))<|r0' J J (st0 (Yo J J))<|r0' J J (st0 (Yx J J J ⟨by omega,by omega⟩))<|r0' J J (st0 (Xb (ii:=82) (i:=jj-1+k) J J J J (Yt pU) Qa Mi))<|r0' J J (st0 (Xv (ii:=82) 0 J J J (Yt pU) pU (by first | omega | (simp only [List.length_set];omega))))<|r0' J J (st0 (Yo J J))<|r0' J J (st0 (Yo J J))<|r0' J J (st0 (Yo J J))<|r0' J J (st0 (Yx J J J ⟨by omega,by omega⟩))<|r0' J J (st0 (Qd J J J ⟨by omega,by omega⟩))<|r0' J J (st0 (Xb (ii:=82) (i:=jj-1+k-1) J J J J (Yt pU) Qa Mi))<|r0' J J (st0 (Xv (ii:=82) 0 J J J (Yt pU) pU (by first | omega | (simp only [List.length_set];omega))))<|r0' J J (st0 (Yo J J))<|r0' J J (st0 (Yo J J))<|r0' J J (st0 (Qd J J J ⟨by omega,by omega⟩))<|r0' J J (st0 (Xb (ii:=81) (i:=k-1) J J J J Zi Qa Mi))<|r0' J J (st0 (Xv (ii:=81) 0 J J J Zi pU (by first | omega | (simp only [List.length_set];omega))))<|r1' J (Zh (n:=6) (Zpm _ _ _ (Qn Pw hRa _) (Qn Pw (Lp Pi _) _) (by omega)) J J J K3 call193 Ze J hw) fun _ _=>r0' J J (st0 (Yo J J))<|r0' J J (st0 (Yh J J J))<|r0' J J (st0 (Yh J J J))<|r0' J J (st0 (Mf J J))<|Of ?_
       exact Qt _ ⟨Zyb hDt (by omega) htop,Zo4 (Qn Pw hRa _) (by omega)⟩ K7 K7
      ·exact Zj<|Qt 18446744073709551615 ⟨hQU,by decide⟩ K7 K7
     ·rintro g ⟨hg,hgU⟩
      simp only [CA,NA]
      refine Zd<|Zg<|mv J<|mv J<|mv J<|mv J<|dt (Yx J J J ⟨by omega,by omega⟩)<|dt (Yx J J J ⟨by omega,by omega⟩)<|dt (d_mid (ii:=82) (i:=jj-1) (j:=jj-1+k+1) J J J J J (Yt pU) Qa Mi (by omega) (by omega) (by omega) (by omega))<|as_ J<|Zf<|Za<|Zd<|Zg<|mv J<|mv J<|tt (Po (i:=7) (ivs:=[(0,_)]) (enc:=Hg) [g] J J K2 Qa ti149 J J J J J pU.cells J J hw) fun v_9 _=>tt (Zh (n:=7) (Ol _ _) J J J K1 call127 (Xu 7 J J pU Ze) J hw) fun _ _=>Oc (Zgi 7 J J pU)<|Oc (Zfz 7 (Zei hgU) J J)<|tt (Zh (n:=83) (Zs4 _ _ _ _ (by omega) (Nat.le_trans ((Mp 64 g).2 hgU) (by omega))) J J J K2 call194 (Zc 81 J J J (Xu 7 J J pU Ze)) J hw) fun v_10 _=>as_ J<|Zf<|Za<|Zd<|Zo<|Nt [(8,_),(9,_),(10,_),(11,_),(12,_),(13,_),(15,_)] [(0,_),(82,_),(6,_),(81,_),(1,_),(2,_),(5,_),(7,_)] (fun(q:Nat×Value)=>[(14,.int .u64 (q.1:Int)),(16,q.2)]) (fun(q:Nat×Value)=>[(83,dgp q.2 (D*q.1))]) (fun(q:Nat×Value)=>(val U R/U^(jj-1)/D≤q.1)∧(q.1<U)) (fun(q:Nat×Value)=>q.1) (g,_) ⟨by first | omega | (dsimp only<;>omega),by first | omega | (dsimp only<;>omega)⟩ K9 K9 ?_
      rintro⟨g,vp⟩ ⟨hg,hgU⟩
      dsimp only at hg hgU
      simp only [CA,NA]
      have hPb:bl (D*g)≤4294967296:=by have h1:=Zk9 D g;have h2:=(Mp 64 g).2 hgU;omega
      refine Zd<|Zd<|Zg<|mv J<|tt (Zh (n:=7) (Ol _ _) J J J K1 call127 (Za3 82 J J pU (Zh6 (jj-1) (jj-1+k+1)) (Zi6 _ _ _ _) Ze) J hw) fun _ _=>mv J<|tt (Zh (n:=7) (Ax _ _ _ _ hWb hPb) J J J K2 call172 (Za3 82 J J pU (row_tz hWz (by rw [hWz]) (Zh6 (jj-1) (jj-1+k+1))) (by rw [Ns];exact(Zi6 _ _ _ _)) (Zc 83 J J J Ze)) J hw) fun r_2 hr_2=>dt (Xr J J J)<|Zf<|Za<|Zs J (fun h187=>?_) (fun h187=>?_)
      ·have hlt:val U R/U^(jj-1)<D*g:=hr_2.1.1 (by omega)
       have hg1:1≤g:=by rcases Nat.eq_zero_or_pos g with h | h;(rw [h,Nat.mul_zero]at hlt;exact absurd hlt (Nat.not_lt_zero _));exact h
       have hDg:D≤D*g:=Nat.le_mul_of_pos_right _ hg1
       have hQg:val U R/U^(jj-1)/D≤g-1:=by have:=(Nat.div_lt_iff_lt_mul hD0).2 (show _<g*D by rw [Nat.mul_comm];exact hlt);omega
       exact Zj<|Za<|Zo<|Zd<|Zg<|mv J<|dt (Zfx (n:=1) J J J)<|as_ J<|Zf<|Za<|Yr (Ij 14 (v':= .int .u64 ((g-1:Nat):Int)) J (Zan (Zup hg1 hgU)))<|Zg<|mv J<|mv J<|tt (Zh (n:=8) (Zfa _ _ _ _ hPb hDg) J J J K2 call173 (Zc 83 J J J (Zc 81 J J J Ze)) J hw) fun v_11 _=>as_ J<|Zf<|Oe<|Qu (Oa 8 83 J J J)<|Xn (g-1,_) ⟨hQg,by dsimp only;omega⟩ (by first | omega | (dsimp only<;>omega)) K9 ⟨by rw [Nat.mul_sub_one];rfl,rfl,rfl,rfl,rfl,rfl,rfl,rfl,rfl,trivial⟩
      ·refine Yv<|Zv<|Zv<|Ox<|Za<|Zd ?_
       have hQ:g=val U R/U^(jj-1)/D:=by
        have h1:=hr_2.1
        have h2:D*g≤val U R/U^(jj-1):=by omega
        exact Nat.le_antisymm ((Nat.le_div_iff_mul_le hD0).2 (by rw [Nat.mul_comm];exact h2)) hg
       refine Zg<|mv J<|tt (Zh (n:=8) (Ol _ _) J J J K1 call127 (Za3 82 J J pU (Zh6 (jj-1) (jj-1+k+1)) (Zi6 _ _ _ _) Ze) J hw) fun _ _=>mv J<|tt (Zh (n:=9) (Zfa _ _ _ _ hWb) J J J K2 call173 (Za3 82 J J pU (row_tz hWz (by rw [hWz]) (Zh6 (jj-1) (jj-1+k+1))) (by rw [Ns];exact(Zi6 _ _ _ _)) (Zc 83 J J J Ze)) J hw) fun v_12 _=>as_ J<|Zf<|Za<|Zd ?_
       have hll:(dg U (val U R/U^(jj-1)-D*g)).length≤jj-1+k+1-(jj-1):=by
        have:val U R/U^(jj-1)-D*g<D:=by rw [hQ];have h3:=Nat.div_add_mod (val U R/U^(jj-1)) D;have h4:=Nat.mod_lt (val U R/U^(jj-1)) hD0;omega
        have:=(Xz Pi k _).2 (Nat.lt_trans this hDk)
        omega
       refine Zg<|mv J<|tt (t_clr (zv:= .bool false) (i:=82) (z:=0) (jj-1) J J J J (by decide) (Zuh _ _ _ (by omega)) (by omega) (by omega) Qa pU (fun w=>zeroValue149 w) J J hw) fun _ _=>Zf<|Za<|Zd<|Zg<|mv J<|mv J<|tt (t_cpy (i:=82) (j:=9) (jj-1) J J J J J J (by decide) J Zi (Zuh _ _ _ (by rw [Ki _ _ _ (by rw [List.length_replicate];omega)];omega)) hll (by rw [Ki _ _ _ (by rw [List.length_replicate];omega)];omega) (by rw [Ki _ _ _ (by rw [List.length_replicate];omega)];omega) Qa pU J hw) fun _ _=>Zf<|Za ?_
       have hL1:jj-1+(List.replicate (jj-1+k+1-(jj-1)) 0).length≤R.length:=by rw [List.length_replicate];omega
       have hl1:=Ki R (jj-1) _ hL1
       have hL2:jj-1+(dg U (val U R/U^(jj-1)-D*g)).length≤(spl R (jj-1) (List.replicate (jj-1+k+1-(jj-1)) 0)).length:=by omega
       have hval:=val_win hRa (j:=jj-1) (n:=jj-1+k+1-(jj-1)) (by omega) (by rw [show jj-1+(jj-1+k+1-(jj-1))=jj-1+k+1 by omega];exact hW1) hll
       rw [Le Pi]at hval
       have hst:=Zyi (j:=jj-1) (N:=x*2^b) (Vq:=val U (q.drop jj)) hD0 hQ (by rw [show jj-1+1=jj by omega];exact hN)
       have hV2:=hst.1
       have hN2:=hst.2
       rw [←hval]at hV2 hN2
       have hdq:val U ((q.set (jj-1) g).drop (jj-1))=g+U*val U (q.drop jj):=by rw [drop_set _ _ _ (by omega),show jj-1+1=jj by omega];rfl
       rw [←hdq]at hN2
       exact Zg<|mv J<|mv J<|mv J<|dt (Xb (ii:=6) (i:=jj-1) J J J J (Yt pU) Qa Mi)<|tt (Ii (i:=6) (enc:=Hg) _ J J J J J J pU J hw (by decide) (by first | omega | (simp only [List.length_set];omega))) fun _ _=>Zf<|Oe<|Za<|Zg<|mv J<|dt (Qd J J J ⟨by omega,by omega⟩)<|as_ J<|Zf<|Xn (jj-1,_,_) ⟨by first | omega | (dsimp only<;>omega),(Ki _ _ _ hL2).trans (hl1.trans hRl),Zna (Zna hRa (Nf _ Pw) _) (Lp Pi _) _,by simp;omega,Lv hqa _ _ hgU,hV2,hN2⟩ (by first | omega | (dsimp only<;>omega)) ⟨by rw [show(((jj-1:Nat):Int)-1)=(jj:Int)-1-1 by omega];rfl,rfl,rfl,rfl,rfl,rfl,trivial⟩ K7
    ·refine Yv<|Zv<|Zv<|Ox<|Za<|Zd ?_
     obtain rfl:jj=0:=by omega
     rw [Nat.pow_zero,Nat.mul_one]at hV
     have hVb:bl (val U R)≤8589934592:=by have:=Oy (Nat.le_of_lt hV);omega
     refine Zg<|mv J<|tt (Zh (n:=9) (Ol _ _) J J J K1 call127 (Xu 6 J J pU Ze) J hw) fun _ _=>Oc (Zgi 6 J J pU)<|mv J<|tt (Zh (n:=9) (Ol _ _) J J J K1 call127 (Xu 82 J J pU Ze) J hw) fun _ _=>Oc (Zgi 82 J J pU)<|Oc (Zfz 82 (Kr Pi R hRa).symm J J)<|mv J<|tt (Zh (n:=10) (nat_shr _ _ _ hVb (by omega)) J J J K2 call195 (Xu 82 J J pU Ze) J hw) fun v_13 _=>as_ J<|as_ J<|Zf<|Za<|Zu ?_
     rw [List.drop_zero,Nat.pow_zero,Nat.mul_one]at hN
     have hqq:tz q=dg U (x/y):=by
      rw [←Kr Pi _ hqa,←Zjr x y b,←hDe,←hN,Nat.mul_comm,Nat.mul_add_div hD0,Nat.div_eq_of_lt hV,Nat.add_zero]
     have hrr:val U R/2^b=x%y:=by
      rw [←Zjq x y b,←hDe,←hN,Nat.mul_comm,Nat.mul_add_mod,Nat.mod_eq_of_lt hV]
     exact Ym (.inl J) hsc (_,_) _ (fun a w hs=>Nl hs results174 J J) J trivial J (Od 6 J J pU hqq (Yi 10 J J J (by rw [hrr]) Zk))
theorem Zmc(v w:Value)(x y:Nat)(hx:bl x≤4000000000:=by omega)(hy:bl y≤4000000000:=by omega):Cal prog 185 #[v,w] [dgp v x,dgp w y] true (G:=Value) (fun r=>True) (fun r=>r) (fun r=>[dgp r (Nat.gcd x y)]):=by
 refine Yc func185 J ntmps185 J K2 ?_
 intro w0 sc hw hsc
 simp only [Zq,Zp]
 have hX:=Ml x
 have hY:=Ml y
 refine Zd<|Zg<|as_ J<|Zf<|Za<|Zd<|Zo<|Yr (Oa 1 91 J J J)<|Yr (Oa 2 92 J J J)<|Nt [] [(0,_),(1,_),(2,_)] (fun(q:Value×Value×Nat×Nat)=>[(0,q.1),(1,q.2.1)]) (fun(q:Value×Value×Nat×Nat)=>[(91,dgp q.1 q.2.2.1),(92,dgp q.2.1 q.2.2.2)]) (fun(q:Value×Value×Nat×Nat)=>(Nat.gcd q.2.2.1 q.2.2.2=Nat.gcd x y)∧(bl q.2.2.1≤4000000000)∧(bl q.2.2.2≤4000000000)) (fun(q:Value×Value×Nat×Nat)=>q.2.2.2) (v,w,x,y) ⟨J,hx,hy⟩ K2 K5 ?_
 rintro⟨va,vb,a,b⟩ ⟨hg,ha,hb⟩
 dsimp only at hg ha hb
 simp only [CA,NA]
 refine Zd<|Zd<|Zg<|mv J<|dt (Yd J J (i:=92) J Zi Qa)<|dt (Pm J J J)<|Zf<|Za<|Zs J (fun h201=>?_) (fun h201=>?_)
 ·have hb0:0<b:=by rcases Nat.eq_zero_or_pos b with h | h;(subst h;simp [Iq]at h201);exact h
  refine Zj<|Za<|Zo<|Zd<|Zg<|mv J<|mv J<|tt (Zh (n:=3) (Zs5 _ _ _ _ ha hb hb0) J J J K2 call174 (Zc 91 J J J (Zc 92 J J J Ze)) J hw) fun g _=>mv J<|dt (Yh J J J)<|dt (Yh J J J)<|as_ J<|as_ J<|Zf<|Za<|Zg<|mv J<|mv J<|as_ J<|as_ J<|Zf<|Oe ?_
  have hlt:a%b<b:=Nat.mod_lt _ hb0
  exact Qu (Oa 92 91 J J J)<|Qu (Oa 4 92 J J J)<|Xn (_,_,b,a%b) ⟨by dsimp only;rw [←hg,Nat.gcd_comm b,←Nat.gcd_rec,Nat.gcd_comm],hb,Nat.le_trans (Oy (Nat.le_of_lt hlt)) hb⟩ hlt K2 K5
 ·have hb0:b=0:=(Pp Pi b).1 (by omega)
  exact Yv<|Zv<|Zv<|Ox<|Za<|Zd<|Zg<|mv J<|as_ J<|Zf<|Za<|Zu<|Ym (.inl J) hsc _ _ (fun a w hs=>Ni hs results185 J) J trivial J (Yi 91 J J J (by rw [←hg,hb0,Nat.gcd_zero_right]) Zk)
theorem Zma(s:Bool)(v:Value)(x:Int)(hs:sg s x):Cal prog 134 #[.agg #[.bool s,v]] [dgp v x.natAbs] true (G:=Bool×Value) (fun r=>sg r.1 (-x)) (fun r=> .agg #[.bool r.1,r.2]) (fun r=>[dgp r.2 (-x).natAbs]):=by
 refine Yc func134 J ntmps134 J K1 ?_
 intro w0 sc hw hsc
 simp only [Zq,Zp]
 exact Zd<|Zg<|tt (Yu (i:=2) J J J J J hw) fun b _=>tt (Zn (i:=3) J J zeroValue154 J J hw) fun b_2 _=>Zf<|Za<|Zd<|Zg<|dt (Xs J J Ld J zT4 J J)<|dt (Oj (i:=2) J J J iA4 J)<|dt (Xg J J)<|dt (Xs J J Ld J Fn J J)<|dt (Oj (i:=2) J J J Ft J)<|dt (Pv (ivs:=[(0,_),(1,_)]) J K4 (fun a w hs=>Nc ((Zb J) a w hs) ((Zl (i:=1) J Zi) a w hs)))<|tt (Zm (i:=3) J J J J J (by decide) J Xe J J ⟨Zb J,Zl (i:=1) J Zi,trivial⟩ J hw trivial) fun _ _=>Zf<|Za<|Zu<|Ym (.inl J) hsc (!s,v) _ (fun a w hs=>Ni hs results134 (Yn (i:=3) J J Kb Xe J)) J (sg_neg hs) J (Yi 1 J J J (by rw [Int.natAbs_neg]) Zk)
theorem Zcl(s t:Bool)(v w:Value)(x y:Int)(hs:sg s x)(ht:sg t y)(hx:bl x.natAbs≤4294967296:=by omega)(hy:bl y.natAbs≤4294967296:=by omega):Cal prog 176 #[.agg #[.bool s,v],.agg #[.bool t,w]] [dgp v x.natAbs,dgp w y.natAbs] true (G:=Bool×Value) (fun r=>sg r.1 (x*y)) (fun r=> .agg #[.bool r.1,r.2]) (fun r=>[dgp r.2 (x*y).natAbs]):=by
 refine Yc func176 J ntmps176 J K2 ?_
 intro w0 sc hw hsc
 simp only [Zq,Zp]
 refine Zd<|Zg<|tt (Yu (i:=3) J J J J J hw) fun b _=>tt (Yu (i:=4) J J J J J hw) fun b_2 _=>tt (Zn (i:=5) J J zeroValue154 J J hw) fun b_3 _=>Zf<|Za<|Zd<|Qi (fun _=>False) [(0,0),(1,0),(2,0),(3,0),(4,0),(5,0),(6,0),(7,0),(8,0),(9,1),(10,0),(11,3)] ?_ ?_
 ·kernel_rfl
 exact r0' J J (st0 (Xs J J Ld J zT4 J J))<|r0' J J (st0 (Oj (i:=3) J J J iA4 J))<|r0' J J (st0 (Xs J J Ld J zT4 J J))<|r0' J J (st0 (Oj (i:=4) J J J iA4 J))<|r0' J J (st0 (Zql J J J uT4))<|r0' J J (st0 (Xs J J Ld J Fn J J))<|r0' J J (st0 (Oj (i:=3) J J J Ft J))<|r0' J J (st0 (Xs J J Ld J Fn J J))<|r0' J J (st0 (Oj (i:=4) J J J Ft J))<|r1' J (Zh (n:=6) (Zs4 _ _ _ _ hx hy) J J J K2 call194 (Zc 1 J J J (Zc 2 J J J Ze)) J hw) fun v _=>r0' J J (st0 (Pv (ivs:=[(0,_),(1,_)]) J K4 (fun a w hs=>Nc ((Zb J) a w hs) ((Zl (i:=6) J Zi) a w hs))))<|r3' J (Zm (i:=5) J J J J J (by decide) J Xe J J ⟨Zb J,Zl (i:=6) J Zi,trivial⟩ J hw trivial) fun _ _=>Of<|Za<|Zu<|Ym (.inl J) hsc (_,_) _ (fun a w hs=>Ni hs results176 (Yn (i:=5) J J Kb Xe J)) J (sg_mul hs ht) J (Yi 6 J J J (by rw [Int.natAbs_mul]) Zk)
theorem Zik(s:Bool)(v:Value)(x:Int)(hs:sg s x)(hx:bl x.natAbs≤4294967296:=by omega):Cal prog 135 #[.agg #[.bool s,v]] [dgp v x.natAbs] true (G:=Unit) (fun _=>True) (fun _=> .int .i64 x.sign) (fun _=>[]):=by
 refine Yc func135 J ntmps135 J K1 ?_
 intro w0 sc hw hsc
 simp only [Zq,Zp]
 have hX:=Ml x.natAbs
 refine Zd<|Zg<|tt (Yu (i:=2) J J J J J hw) fun b _=>as_ J<|Zf<|Za<|Zd<|Zo<|Zd<|Zg<|dt (Xs J J Ld J Fn J J)<|dt (Oj (i:=2) J J J Ft J)<|dt (Yd J J (i:=1) J Zi Qa)<|dt (Pg J J J)<|as_ J<|Zf<|Za<|Zs J (fun h245=>?_) (fun h245=>?_)
 ·exact Zd<|Zg<|as_ J<|Zf<|Za<|Zu<|Ix<|Xa<|xU hsc results135 J J (Zrp h245)
 ·refine Zd<|Zg<|dt (Xs J J Ld J zT4 J J)<|dt (Oj (i:=2) J J J iA4 J)<|as_ J<|Zf<|Za<|Mm J (fun h247=>?_) (fun h247=>?_)
  ·exact Zd<|Zg<|as_ J<|Zf<|Za<|Zu<|Ix<|Xa<|xU hsc results135 J J (Zwl hs h247 h245)
  ·exact Zj<|Oe<|Za<|Zd<|Zg<|as_ J<|Zf<|Za<|Zu<|xU hsc results135 J J (Zwk hs h247 h245)
theorem Ze8(s t:Bool)(v w:Value)(x y:Int)(hs:sg s x)(ht:sg t y)(hx:bl x.natAbs≤4294967296:=by omega)(hy:bl y.natAbs≤4294967296:=by omega):Cal prog 131 #[.agg #[.bool s,v],.agg #[.bool t,w]] [dgp v x.natAbs,dgp w y.natAbs] true (G:=Bool×Value) (fun r=>sg r.1 (x+y)) (fun r=> .agg #[.bool r.1,r.2]) (fun r=>[dgp r.2 (x+y).natAbs]):=by
 refine Yc func131 J ntmps131 J K2 ?_
 intro w0 sc hw hsc
 simp only [Zq,Zp]
 refine Zd<|Zg<|tt (Yu (i:=3) J J J J J hw) fun b _=>tt (Yu (i:=4) J J J J J hw) fun b_2 _=>tt (Zn (i:=5) J J zeroValue154 J J hw) fun b_3 _=>Zf<|Za<|Zd<|Zo<|Zd<|Zg<|dt (Xs J J Ld J zT4 J J)<|dt (Oj (i:=3) J J J iA4 J)<|dt (Xs J J Ld J zT4 J J)<|dt (Oj (i:=4) J J J iA4 J)<|dt (d_eqb J J J uT4)<|as_ J<|Zf<|Za<|Mm J (fun h231=>?_) (fun h231=>?_)
 ·have hst:s=t:=by simpa using h231
  refine Zd<|Qi (fun _=>False) [(0,0),(1,0),(2,0),(3,0),(4,0),(5,0),(6,1),(7,0),(8,3)] ?_ ?_
  ·kernel_rfl
  exact r0' J J (st0 (Xs J J Ld J zT4 J J))<|r0' J J (st0 (Oj (i:=3) J J J iA4 J))<|r0' J J (st0 (Xs J J Ld J Fn J J))<|r0' J J (st0 (Oj (i:=3) J J J Ft J))<|r0' J J (st0 (Xs J J Ld J Fn J J))<|r0' J J (st0 (Oj (i:=4) J J J Ft J))<|r1' J (Zh (n:=6) (Zs6 _ _ _ _ hx hy) J J J K2 call171 (Zc 1 J J J (Zc 2 J J J Ze)) J hw) fun v _=>r0' J J (st0 (Pv (ivs:=[(0,_),(1,_)]) J K4 (fun a w hs=>Nc ((Zb J) a w hs) ((Zl (i:=6) J Zi) a w hs))))<|r3' J (Zm (i:=5) J J J J J (by decide) J Xe J J ⟨Zb J,Zl (i:=6) J Zi,trivial⟩ J hw trivial) fun _ _=>Of<|Za<|Zu<|Ix<|Xa<|Ym (.inl J) hsc (_,_) _ (fun a w hs=>Ni hs results131 (Yn (i:=5) J J Kb Xe J)) J (Zrv hs (hst▸ht)) J (Yi 6 J J J (by rw [Zeb hs (hst▸ht)]) Zk)
 ·have hst:s≠t:=by simpa using h231
  refine Zd<|Zg<|dt (Xs J J Ld J Fn J J)<|dt (Oj (i:=3) J J J Ft J)<|dt (Xs J J Ld J Fn J J)<|dt (Oj (i:=4) J J J Ft J)<|tt (Zh (n:=6) (Ax _ _ _ _ hx hy) J J J K2 call172 (Zc 1 J J J (Zc 2 J J J Ze)) J hw) fun r hr=>dt (Ke J J J)<|as_ J<|Zf<|Za<|Zs J (fun h233=>?_) (fun h233=>?_)
  ·have hge:y.natAbs≤x.natAbs:=by have:=hr.1;omega
   refine Zd<|Qi (fun _=>False) [(0,0),(1,0),(2,0),(3,0),(4,0),(5,0),(6,1),(7,0),(8,3)] ?_ ?_
   ·kernel_rfl
   exact r0' J J (st0 (Xs J J Ld J zT4 J J))<|r0' J J (st0 (Oj (i:=3) J J J iA4 J))<|r0' J J (st0 (Xs J J Ld J Fn J J))<|r0' J J (st0 (Oj (i:=3) J J J Ft J))<|r0' J J (st0 (Xs J J Ld J Fn J J))<|r0' J J (st0 (Oj (i:=4) J J J Ft J))<|r1' J (Zh (n:=7) (Zfa _ _ _ _ hx) J J J K2 call173 (Zc 1 J J J (Zc 2 J J J Ze)) J hw) fun v_2 _=>r0' J J (st0 (Pv (ivs:=[(0,_),(1,_)]) J K4 (fun a w hs=>Nc ((Zb J) a w hs) ((Zl (i:=7) J Zi) a w hs))))<|r3' J (Zm (i:=5) J J J J J (by decide) J Xe J J ⟨Zb J,Zl (i:=7) J Zi,trivial⟩ J hw trivial) fun _ _=>Of<|Za<|Zu<|Ix<|Xa<|Ym (.inl J) hsc (_,_) _ (fun a w hs=>Ni hs results131 (Yn (i:=5) J J Kb Xe J)) J (Zh0 hs ht hst hge) J (Yi 7 J J J (by rw [Bu hs ht hst hge]) Zk)
  ·have hge:x.natAbs≤y.natAbs:=by have:=hr.1;omega
   refine Zj<|Oe<|Za<|Zd<|Qi (fun _=>False) [(0,0),(1,0),(2,0),(3,0),(4,0),(5,0),(6,1),(7,0),(8,3)] ?_ ?_
   ·kernel_rfl
   exact r0' J J (st0 (Xs J J Ld J zT4 J J))<|r0' J J (st0 (Oj (i:=4) J J J iA4 J))<|r0' J J (st0 (Xs J J Ld J Fn J J))<|r0' J J (st0 (Oj (i:=4) J J J Ft J))<|r0' J J (st0 (Xs J J Ld J Fn J J))<|r0' J J (st0 (Oj (i:=3) J J J Ft J))<|r1' J (Zh (n:=8) (Zfa _ _ _ _ hy) J J J K2 call173 (Zc 2 J J J (Zc 1 J J J Ze)) J hw) fun v_3 _=>r0' J J (st0 (Pv (ivs:=[(0,_),(1,_)]) J K4 (fun a w hs=>Nc ((Zb J) a w hs) ((Zl (i:=8) J Zi) a w hs))))<|r3' J (Zm (i:=5) J J J J J (by decide) J Xe J J ⟨Zb J,Zl (i:=8) J Zi,trivial⟩ J hw trivial) fun _ _=>Of<|Za<|Zu<|Ym (.inl J) hsc (_,_) _ (fun a w hs=>Ni hs results131 (Yn (i:=5) J J Kb Xe J)) J (by rw [Int.add_comm];exact Zh0 ht hs (Ne.symm hst) hge) J (Yi 8 J J J (by rw [Int.add_comm,Bu ht hs (Ne.symm hst) hge]) Zk)
theorem Ph(s:Bool)(x:Int)(hs:sg s x)(hx:bl x.natAbs≤4294967296:=by omega):Cal prog 130 #[.agg #[.bool s,.string (Qo x.natAbs)]] [] true (G:=Bool×Value) (fun r=>sg r.1 x) (fun r=> .agg #[.bool r.1,r.2]) (fun r=>[dgp r.2 x.natAbs]):=by
 refine Yc func130 J ntmps130 J trivial ?_
 intro w0 sc hw hsc
 simp only [Zq,Zp]
 refine Zd<|Zg<|tt (Yu (i:=1) J J J J J hw) fun b _=>tt (Zn (i:=2) J J zeroValue154 J J hw) fun b_2 _=>Zf<|Za<|Zd<|Qi (fun _=>False) [(0,0),(1,0),(2,0),(3,0),(4,1),(5,0),(6,3)] ?_ ?_
 ·kernel_rfl
 exact r0' J J (st0 (Xs J J Zam J zT4 J J))<|r0' J J (st0 (Oj (i:=1) J J J iA4 J))<|r0' J J (st0 (Xs J J Zam J zT9 J J))<|r0' J J (st0 (Oj (i:=1) J J J iA9 J))<|r1' J (Zh (n:=3) (Zak _ hx) J J J K1 call170 Ze J hw) fun v _=>r0' J J (st0 (Pv (ivs:=[(0,_),(1,_)]) J K4 (fun a w hs=>Nc ((Zb J) a w hs) ((Zl (i:=3) J Zi) a w hs))))<|r3' J (Zm (i:=2) J J J J J (by decide) J Xe J J ⟨Zb J,Zl (i:=3) J Zi,trivial⟩ J hw trivial) fun _ _=>Of<|Za<|Zu<|Ym (.inl J) hsc (_,_) _ (fun a w hs=>Ni hs results130 (Yn (i:=2) J J Kb Xe J)) J hs J (Yi 3 J J J J Zk)
theorem Ks(s:Bool)(v:Value)(x:Int)(hs:sg s x)(hx:bl x.natAbs≤4294967296:=by omega):Mc prog 128 #[.agg #[.bool s,v]] [dgp v x.natAbs] (Zdf x):=by
 refine Yc func128 J ntmps128 J K1 ?_
 intro w0 sc hw hsc
 simp only [Zq,Zp]
 refine Zd<|Zg<|tt (Yu (i:=2) J J J J J hw) fun b _=>tt (Zn (i:=3) J J zeroValue31 J J hw) fun b_2 _=>as_ J<|Zf<|Za<|Zd<|Zd<|Zg<|dt (Xs J J Ld J Fn J J)<|dt (Oj (i:=2) J J J Ft J)<|tt (Zh (n:=3) (Zin _ _) J J J K1 call168 (Zc 1 J J J Ze) J hw) fun _ _=>dt (Pm J J J)<|Zf<|Za<|Zs J (fun h219=>?_) (fun h219=>?_)
 ·exact Zd<|Zg<|dt (Pv (ivs:=[]) J trivial (fun a w hs=>b31_))<|tt (Zm (i:=3) J J J J J (by decide) J Yq J J ⟨Zb J,Zb J,trivial⟩ J hw trivial) fun _ _=>as_ J<|Zf<|Za<|Zu<|Xa<|Ym (.inl J) hsc () _ (fun a w hs=>Nl hs results128 (Yn (i:=3) J J Qq Yq J) J) (Zq3 h219) trivial J Zk
 ·refine Zj<|Za<|Zd ?_
  cases s
  ·refine Qi (fun _=>False) [(0,0),(1,0),(2,0),(3,2),(4,2),(5,2),(6,2),(7,0),(8,0),(9,0),(10,1),(11,0),(12,3),(13,3)] ?_ ?_
   ·kernel_rfl
   exact r0' J J (st0 (Xs J J Ld J zT4 J J))<|r0' J J (st0 (Oj (i:=2) J J J iA4 J))<|r0' J J (st0 (Yo J J))<|r2 J J J J J J J J<|r2 J J J J J J J J<|r2 J J J J J J J J<|r2 J J J J J J J J<|r0' J J (st0 (Zz J J J))<|r0' J J (st0 (Xs J J Ld J Fn J J))<|r0' J J (st0 (Oj (i:=2) J J J Ft J))<|r1' J (Zh (n:=3) (Zke _ _) J J J K1 call169 (Zc 1 J J J Ze) J hw) fun _ _=>r0' J J (st0 (Pv (ivs:=[(0,_),(1,_)]) J K4 (fun a w hs=>Zvl ((Zb J) a w hs) ((Zb J) a w hs))))<|r3' J (Zm (i:=3) J J J J J (by decide) J Yq J J ⟨Zb J,Zb J,trivial⟩ J hw trivial) fun _ _=>r3' J (Py (Mf J J) J) fun _ _=>Of<|Za<|Zu<|Ym (.inl J) hsc () _ (fun a w hs=>Nl hs results128 (Yn (i:=3) J J Qq Yq J) J) (by first | exact Zng hs h219 | exact Znf hs h219) trivial J Zk
  ·refine Qi (fun _=>False) [(0,0),(1,0),(2,0),(3,0),(4,0),(5,0),(6,0),(7,0),(8,0),(9,0),(10,1),(11,0),(12,3),(13,3)] ?_ ?_
   ·kernel_rfl
   exact r0' J J (st0 (Xs J J Ld J zT4 J J))<|r0' J J (st0 (Oj (i:=2) J J J iA4 J))<|r0' J J (st0 (Yo J J))<|r0g (st0 (Xs J J Ld J Fn J J)) J J J J J<|r0g (st0 (Oj (i:=2) J J J Ft J)) J J J J J<|r0g (st0 (Yd J J (i:=1) J Zi Qa)) J J J J J<|r0g (st0 (Pm J J J)) J J J J J<|r0' J J (st0 (Ys J J J))<|r0' J J (st0 (Xs J J Ld J Fn J J))<|r0' J J (st0 (Oj (i:=2) J J J Ft J))<|r1' J (Zh (n:=3) (Zke _ _) J J J K1 call169 (Zc 1 J J J Ze) J hw) fun _ _=>r0' J J (st0 (Pv (ivs:=[(0,_),(1,_)]) J K4 (fun a w hs=>Zvl ((Zb J) a w hs) ((Zb J) a w hs))))<|r3' J (Zm (i:=3) J J J J J (by decide) J Yq J J ⟨Zb J,Zb J,trivial⟩ J hw trivial) fun _ _=>r3' J (Py (Mf J J) J) fun _ _=>Of<|Za<|Zu<|Ym (.inl J) hsc () _ (fun a w hs=>Nl hs results128 (Yn (i:=3) J J Qq Yq J) J) (by first | exact Zng hs h219 | exact Znf hs h219) trivial J Zk
theorem Qy(s t:Bool)(v w:Value)(x y:Int)(hs:sg s x)(ht:sg t y)(hx:bl x.natAbs≤3000000000:=by omega)(hy:bl y.natAbs≤3000000000:=by omega)(hy0:y≠0:=by decide):Cal prog 133 #[.agg #[.bool s,v],.agg #[.bool t,w]] [dgp v x.natAbs,dgp w y.natAbs] true (G:=Bool×Value×Value) (fun r=>sg r.1 (x/y)) (fun r=> .tuple #[.agg #[.bool r.1,r.2.1],.agg #[.bool false,r.2.2]]) (fun r=>[dgp r.2.1 (x/y).natAbs,dgp r.2.2 (x%y).natAbs]):=by
 refine Yc func133 J ntmps133 J K2 ?_
 intro w0 sc hw hsc
 simp only [Zq,Zp]
 have hX:=Ml x.natAbs
 have hY:=Ml y.natAbs
 have hyp:0<y.natAbs:=by omega
 have hrl:x.natAbs%y.natAbs<y.natAbs:=Nat.mod_lt _ hyp
 have hrb:=Oy (Nat.le_of_lt hrl)
 have hqb:=Oy (Nat.div_le_self x.natAbs y.natAbs)
 refine Zd<|Zg<|tt (Yu (i:=3) J J J J J hw) fun b _=>tt (Yu (i:=4) J J J J J hw) fun b_2 _=>tt (Zn (i:=5) J J zeroValue154 J J hw) fun b_3 _=>tt (Zn (i:=6) J J zeroValue154 J J hw) fun b_4 _=>Zf<|Za<|Zd<|Zg<|dt (Xs J J Ld J Fn J J)<|dt (Oj (i:=3) J J J Ft J)<|dt (Xs J J Ld J Fn J J)<|dt (Oj (i:=4) J J J Ft J)<|tt (Zh (n:=7) (Zs5 _ _ _ _ (by omega) (by omega) hyp) J J J K2 call174 (Zc 1 J J J (Zc 2 J J J Ze)) J hw) fun g _=>mv J<|dt (Yh J J J)<|dt (Yh J J J)<|as_ J<|as_ J<|Zf<|Za<|Zd<|Zd<|Zg<|dt (Xs J J Ld J zT4 J J)<|dt (Oj (i:=3) J J J iA4 J)<|mv J<|Ll (d:=18) J (fun s256=>?_) (fun s256=>?_)
 ·refine gdt (Yo J J) J J<|gdt (Yd J J (i:=8) J Zi Qa) J J<|gdt (Pm J J J) J J<|dt (Ys J J J)<|Zf<|Za<|Zs J (fun h256=>?_) (fun h256=>?_)
  ·subst s256
   have hR0:0<x.natAbs%y.natAbs:=by rcases Nat.eq_zero_or_pos (x.natAbs%y.natAbs)with h | h;(rw [h]at h256;simp [Iq]at h256);exact h
   have hD:=divA hs ht hy0 hR0
   refine Qi (fun _=>False) [(0,0),(3,0),(4,0),(5,0),(1,1),(2,1),(6,1),(7,0),(8,3)] ?_ ?_
   ·kernel_rfl
   refine r0' J J (st0 (Yo J J))<|r0' J J (st0 (Xs J J Ld J Fn J J))<|r0' J J (st0 (Oj (i:=4) J J J Ft J))<|r0' J J (st0 (Yo J J))<|r1' J (Po (i:=9) (ivs:=[(0,_)]) (enc:=Hg) (dg U 1) J J K2 Qa ti149 J J J J J pU.cells J J hw) fun v _=>r1' J (Zh (n:=10) (Zs6 _ _ _ _ (by omega) (show bl 1≤4294967296 by decide)) J J J K2 call171 (Zc 7 J J J (Xu 9 J J pU Ze)) J hw) fun v_2 _=>r1' J (Zh (n:=11) (Zfa _ _ _ _ (by omega)) J J J K2 call173 (Zc 2 J J J (Zc 8 J J J Ze)) J hw) fun v_3 _=>r0' J J (st0 (Mf J J))<|r3' J (Py (Mf J J) J) fun _ _=>Of<|Za<|Zd<|Zg<|dt (Xs J J Ld J zT4 J J)<|dt (Oj (i:=3) J J J iA4 J)<|dt (Xs J J Ld J zT4 J J)<|dt (Oj (i:=4) J J J iA4 J)<|dt (Zql J J J uT4)<|mv J<|dt (Pv (ivs:=[(0,_),(1,_)]) J K4 (fun a w hs=>Nc ((Zb J) a w hs) ((Zl (i:=10) J Zi) a w hs)))<|mv J<|dt (Pv (ivs:=[(0,_),(1,_)]) J K4 (fun a w hs=>Nc ((Zb J) a w hs) ((Zl (i:=11) J Zi) a w hs)))<|tt (Zm (i:=5) J J J J J (by decide) J Xe J J ⟨Zb J,Zl (i:=10) J Zi,trivial⟩ J hw trivial) (fun _ _=>?_)
   exact tt (Zm (i:=6) J J J J J (by decide) J Xe J J ⟨Zb J,Zl (i:=11) J Zi,trivial⟩ J hw trivial) fun _ _=>Zf<|Za<|Zu<|Ym (.inl J) hsc (_,_,_) _ (fun a w hs=>Nl hs results133 (Yn (i:=5) J J Kb Xe J) (Yn (i:=6) J J Kb Xe J)) J hD.1 J (Yi 10 J J J (by rw [hD.2.1]<;>rfl) (Yi 11 J J J (by rw [hD.2.2]<;>rfl) Zk))
  ·have hD:=divB hs ht hy0 (.inr ((Pp Pi _).1 (by omega)))
   exact Zj<|Za<|Zd<|Zg<|dt (Xs J J Ld J zT4 J J)<|dt (Oj (i:=3) J J J iA4 J)<|dt (Xs J J Ld J zT4 J J)<|dt (Oj (i:=4) J J J iA4 J)<|dt (Zql J J J uT4)<|mv J<|dt (Pv (ivs:=[(0,_),(1,_)]) J K4 (fun a w hs=>Nc ((Zb J) a w hs) ((Zl (i:=7) J Zi) a w hs)))<|mv J<|dt (Pv (ivs:=[(0,_),(1,_)]) J K4 (fun a w hs=>Nc ((Zb J) a w hs) ((Zl (i:=8) J Zi) a w hs)))<|tt (Zm (i:=5) J J J J J (by decide) J Xe J J ⟨Zb J,Zl (i:=7) J Zi,trivial⟩ J hw trivial) fun _ _=>tt (Zm (i:=6) J J J J J (by decide) J Xe J J ⟨Zb J,Zl (i:=8) J Zi,trivial⟩ J hw trivial) fun _ _=>Zf<|Za<|Zu<|Ym (.inl J) hsc (_,_,_) _ (fun a w hs=>Nl hs results133 (Yn (i:=5) J J Kb Xe J) (Yn (i:=6) J J Kb Xe J)) J hD.1 J (Yi 7 J J J (by rw [hD.2.1]<;>rfl) (Yi 8 J J J (by rw [hD.2.2]<;>rfl) Zk))
 ·have hD:=divB hs ht hy0 (.inl s256)
  exact gsk J J J<|gsk J J J<|gsk J J J<|dt (Zz J J J)<|Zf<|Za<|Ye J<|Zj<|Za<|Zd<|Zg<|dt (Xs J J Ld J zT4 J J)<|dt (Oj (i:=3) J J J iA4 J)<|dt (Xs J J Ld J zT4 J J)<|dt (Oj (i:=4) J J J iA4 J)<|dt (Zql J J J uT4)<|mv J<|dt (Pv (ivs:=[(0,_),(1,_)]) J K4 (fun a w hs=>Nc ((Zb J) a w hs) ((Zl (i:=7) J Zi) a w hs)))<|mv J<|dt (Pv (ivs:=[(0,_),(1,_)]) J K4 (fun a w hs=>Nc ((Zb J) a w hs) ((Zl (i:=8) J Zi) a w hs)))<|tt (Zm (i:=5) J J J J J (by decide) J Xe J J ⟨Zb J,Zl (i:=7) J Zi,trivial⟩ J hw trivial) fun _ _=>tt (Zm (i:=6) J J J J J (by decide) J Xe J J ⟨Zb J,Zl (i:=8) J Zi,trivial⟩ J hw trivial) fun _ _=>Zf<|Za<|Zu<|Ym (.inl J) hsc (_,_,_) _ (fun a w hs=>Nl hs results133 (Yn (i:=5) J J Kb Xe J) (Yn (i:=6) J J Kb Xe J)) J hD.1 J (Yi 7 J J J (by rw [hD.2.1]<;>rfl) (Yi 8 J J J (by rw [hD.2.2]<;>rfl) Zk))
end Go.Sky

