/- Rules, arithmetic and contracts: part 9. No conditions but those that each theorem names. -/
import Derived.Test.YtcmiiammekgooaaGreatSc07
set_option linter.all false
namespace Go.Sky
open Go.Proofs.Tryz
open Go.Proofs
set_option maxRecDepth 20000
set_option maxHeartbeats 4000000
set_option linter.unusedSimpArgs false
theorem Zyr(v:Value)(xs:List Nat)(hx:xs.length*8≤140737488355328):Yf9 prog 200 #[v] [Px 1 Lm v xs] (G:=Value) (fun r=>True) (fun r=>r) (fun r=>Ld 1 149 Lm r xs):=by
 refine Zw0 func200 J ntmps200 J K1 fun w0 sc hw hsc=>?_
 simp only [Zu,Zt]
 refine Nl (f_nil (i:=1) J Zi) fun hnil=>Zb<|Ze<|Zp J<|Zc<|Za<|Zb<|Zb<|Ze<|mv J<|dt (Zwg J J J (i:=1) J Zi Qa)<|Zc<|Za<|Mf J (fun h357=>?_) (fun h357=>?_)
 ·refine Zb<|Ze<|Zp J<|Zc<|Za<|Zq<|Yn ?_
  obtain rfl:xs=[]:=hnil (by simpa using h357)
  exact Qu (Np 9 1 149 Lm)<|Znh (.inl J) (.slice none 0 0) _ (fun a w hs=>Ni hs results200 J) J trivial J 9 J J J
 ·exact Zk<|Za<|Zb<|Ze<|tt (t_bs0 (i:=2) (enc:=Lm) J J J Qa pU J hw) fun v _=>mv J<|tt (Hd (i:=2) (j:=1) (by_:=8) J J J J J J (by decide) J Zi Qa ti149 J pU J J J (by simp;omega) (by decide) J hw) fun v_2 _=>Zp J<|Zc<|Za<|Zq<|Znh (.inl J) _ _ (fun a w hs=>Ni hs results200 J) J trivial J 2 J (by rfl) J
set_option maxHeartbeats 1600000 in
theorem Zsi(h l y:Nat)(hl:l<U)(hy:y<U)(hh:h<y):On prog 193 #[.int .u64 (h:Int),.int .u64 (l:Int),.int .u64 (y:Int)] [] (.tuple #[.int .u64 (((h*U+l)/y:Nat):Int),.int .u64 (((h*U+l)%y:Nat):Int)]):=by
 refine Yi func193 J ntmps193 J trivial fun w0 sc hw hsc=>?_
 simp only [Zu,Zt]
 have hUe:U=18446744073709551616:=rfl
 have hp:0<y:=by omega
 have hbl:bl y≤64:=(Mo 64 y).2 hy
 obtain⟨s,hs⟩:∃s,s=64-bl y:=⟨_,rfl⟩
 obtain⟨Y,hYe⟩:∃Y,Y=y*2^s:=⟨_,rfl⟩
 obtain⟨hY1,hY2⟩:=Ya9 hp hy hs
 rw [←hYe]at hY1 hY2
 have hYU:=hY2
 obtain⟨D,hD⟩:∃D,D=(h*U+l)*2^s:=⟨_,rfl⟩
 obtain⟨u,hue⟩:∃u,u=D/U:=⟨_,rfl⟩
 obtain⟨v,hve⟩:∃v,v=D%U:=⟨_,rfl⟩
 obtain⟨v1,hv1e⟩:∃x,x=v/4294967296:=⟨_,rfl⟩
 obtain⟨v0,hv0e⟩:∃x,x=v%4294967296:=⟨_,rfl⟩
 obtain⟨y1,hy1e⟩:∃x,x=Y/4294967296:=⟨_,rfl⟩
 obtain⟨y0,hy0e⟩:∃x,x=Y%4294967296:=⟨_,rfl⟩
 have hYs:Y=y1*4294967296+y0:=by omega
 have hhs:=shl_lt hh (show y*2^s<U by rw [←hYe];exact hY2)
 have huY:u<Y:=by rw [hue,hD,hYe];exact top_lt hl hh
 have hu:u<y1*4294967296+y0:=by omega
 have hvU:v<U:=by rw [hve];exact Nat.mod_lt _ Ps
 have hy1:2147483648≤y1:=by omega
 have hy1l:y1<4294967296:=by omega
 have hy0:y0<4294967296:=by omega
 have hv1:v1<4294967296:=by omega
 have hv0:v0<4294967296:=by omega
 obtain⟨Q1,hQ1⟩:∃x,x=(u*4294967296+v1)/Y:=⟨_,rfl⟩
 obtain⟨t,hte⟩:∃x,x=(u*4294967296+v1)%Y:=⟨_,rfl⟩
 have htY:t<Y:=by rw [hte];exact Nat.mod_lt _ (by omega)
 have ht:t<y1*4294967296+y0:=by omega
 obtain⟨Q0,hQ0⟩:∃x,x=(t*4294967296+v0)/Y:=⟨_,rfl⟩
 have hY0:0<Y:=by omega
 obtain⟨hd1,hd2⟩:=dv_two (D:=D) hY0 hue hve hv1e hv0e
 rw [←hQ1,←hte,←hQ0]at hd1
 rw [←hte]at hd2
 have hQ0l:Q0<4294967296:=by rw [hQ0,hYs];exact dv_Q hv0 ht
 have hQ1l:Q1<4294967296:=by rw [hQ1,hYs];exact dv_Q hv1 hu
 refine Zb<|Ze<|Zp J<|Zp J<|Zc<|Za<|Zb<|Zb<|Ze<|mv J<|dt (Pj J J J)<|Zc<|Za<|Zr J (fun h519=>?_) (fun h519=>?_)
 ·exfalso;omega
 ·refine Zk<|Za<|Zb<|Zb<|Ze<|mv J<|mv J<|dt (Dc J J J)<|Zc<|Za<|Zr J (fun h522=>?_) (fun h522=>?_)
  ·exfalso;omega
  ·refine Zk<|Za<|Zb<|Zb<|Ze<|mv J<|dt (Pj J J J)<|Zc<|Za<|Zr J (fun h527=>?_) (fun h527=>?_)
   ·refine Zb<|Qs (fun _=>False) [(0,0),(1,0),(2,0),(3,0),(4,0),(5,0),(6,0),(7,3)] ?_ ?_
    ·kernel_rfl
    exact Zs J J (Yt (Yd J J))<|Zs J J (Yt (Yd J J))<|Zs J J (Yt (Zy3 J J J))<|Zs J J (Yt (Yd J J))<|Zs J J (Yt (Yd J J))<|Zs J J (Yt (u_rem J J J (by omega)))<|Zs J J (Yt (Mb J J))<|Po J (Od (Mb J J) J) fun _ _=>Ob<|Za<|Zq<|Yn<|Yu (.inl J) hsc () _ (fun a w hs=>Og hs results193 J J) (by have h0:h=0:=(by omega);rw [h0];simp) trivial J Zm
   ·refine Zk<|Za<|Zb<|Ze<|mv J<|tt (Zh (n:=0) (Zpw _ hy) J J J K1 call189 Zg J hw) fun _ _=>dt (Ycp J J uT3 underlying212 (by simp only [U];omega))<|Zp J<|Zc<|Za<|Zb<|Yo (Ip 8 (v':= .int .u64 (s:Int)) J (by rw [hs]))<|Ze<|mv J<|mv J<|dt (Zmc J J J J)<|Zp J<|Zc<|Za<|Zb<|Yo (Ip 2 (v':= .int .u64 (Y:Int)) J (by rw [hYe,Nat.mod_eq_of_lt (by rw [←hYe];exact hYU)]))<|Ze<|mv J<|dt (Er (n:=32) (n':=4294967296) J J J J J)<|Zp J<|Zc<|Za<|Zb<|Ze<|mv J<|dt (Zp4 J J J)<|Zp J<|Zc<|Za<|Zb<|Ze<|mv J<|mv J<|dt (Zmc J J J J)<|mv J<|mv J<|dt (Zen J J J (by first | exact Nat.mod_lt _ Ps | omega))<|dt (Zmb J J (n:=64-s) J (by simp only [U];omega))<|dt (Ydd J J J (Nat.mod_lt _ Ps) (Nat.lt_of_le_of_lt (Nat.div_le_self _ _) hl))<|Zp J<|Zc<|Za<|Zb<|Yo (Ip 11 (v':= .int .u64 (u:Int)) J (by rw [hue,hD,Ya0 (by omega) hhs hl]))<|Ze<|mv J<|mv J<|dt (Zmc J J J J)<|Zp J<|Zc<|Za<|Zb<|Yo (Ip 12 (v':= .int .u64 (v:Int)) J (by rw [hve,hD,Zx7 h l s]))<|Ze<|mv J<|dt (Er (n:=32) (n':=4294967296) J J J J J)<|Zp J<|Zc<|Za<|Zb<|Yo (Ip 13 (v':= .int .u64 (v1:Int)) J (by rw [hv1e]))<|Ze<|mv J ?_
    refine dt (Zp4 J J J)<|Zp J<|Zc<|Za<|Zb<|Yo (Ip 14 (v':= .int .u64 (v0:Int)) J (by rw [Zsj,hv0e]))<|Yo (Ip 9 (v':= .int .u64 (y1:Int)) J (by rw [hy1e]))<|Yo (Ip 10 (v':= .int .u64 (y0:Int)) J (by rw [Zsj,hy0e]))<|Ze<|mv J<|mv J<|dt (Zy3 J J J)<|Zp J<|Zc<|Za<|Zb<|Ze<|mv J<|mv J<|mv J<|dt (Bc J J J)<|dt (Zen J J J (by first | exact Nat.mod_lt _ Ps | omega))<|Zp J<|Zc<|Za<|Iz [(2,_),(8,_),(9,_),(10,_),(11,_),(13,_),(14,_)] [(0,_)] (fun(_:Unit)=>[(15,.int .u64 ((Q1:Nat):Int))]) (fun(_:Unit)=>[]) (fun(_:Unit)=>True) K7 K1 ?_ ?_
    ·refine Zo<|Yo (Ip 16 (v':= .int .u64 ((u%y1:Nat):Int)) J (by rw [rsub (by omega) (by omega)]))<|Oc [(2,_),(8,_),(9,_),(10,_),(11,_),(13,_),(14,_)] [(0,_)] (fun(q:Nat×Nat)=>[(15,.int .u64 (q.1:Int)),(16,.int .u64 (q.2:Int))]) (fun(q:Nat×Nat)=>[]) (fun(q:Nat×Nat)=>(dvI u v1 y1 y0 q.1 q.2)∧(q.2<4294967296)) (fun(q:Nat×Nat)=>q.1) (u/y1,u%y1) ⟨dv0 hy1 hy1l hy0 hv1 hu,Nat.lt_trans (Nat.mod_lt _ (by omega)) hy1l⟩ K9 K1 ?_
     rintro⟨a,r⟩ ⟨hI,hr⟩
     dsimp only at hI hr
     simp only [CA,NA]
     have hI1:=hI.1
     have hI2:=hI.2.1
     refine Zb<|Zb<|Ze<|mv J<|dt (Lg J J J)<|mv J<|Pf (d:=69) J (fun s547=>?_) (fun s547=>?_)
     ·refine Xt J J J<|Xt J J J<|Xt J J J<|Xt J J J<|Xt J J J<|Xt J J J<|Xt J J J<|Xt J J J<|dt (Yy J J J)<|Zc<|Za<|Pv J<|Zk<|Za<|Zo<|Zb ?_
      have hst:=Zi9 (by omega) hI hv1 hu (by omega)
      have hst1:=hst.1
      refine Ze<|mv J<|dt (Zen (n:=1) J J J)<|Zp J<|Zc<|Za<|Zb<|Yo (Ip 15 (v':= .int .u64 ((a-1:Nat):Int)) J (Zbp (Zr8 hst1 (by omega))))<|Ze<|mv J<|mv J<|dt (Bx J J J)<|Zp J<|Zc<|Za<|Zb<|Yo (Ip 16 (v':= .int .u64 ((r+y1:Nat):Int)) J (Zbp (Nat.mod_eq_of_lt (by omega))))<|Ze<|mv J<|dt (Lg J J J)<|Zc<|Za<|Zr J (fun h550=>?_) (fun h550=>?_)
      ·refine Yx<|Zhe<|Zx<|Pd ?_
       have hq:Q1=a-1:=by rw [hQ1,hYs];exact(Zgz (by omega) hy0 hst.2 (by omega) (by omega)).symm
       exact Xo () trivial ⟨by rw [hq];rfl,rfl,rfl,rfl,rfl,rfl,rfl,rfl,trivial⟩ K1
      ·exact Zk<|Qn<|Xk (a-1,r+y1) ⟨hst.2,by dsimp only;omega⟩ (by first | omega | (dsimp only<;>omega)) K9 K1
     ·have hm1:=Zrc (show a<4294967296 by omega) hy0
      have e1:=Nat.mod_eq_of_lt (show a*y0<U from hm1)
      have e2:=Nat.mod_eq_of_lt (show 4294967296*r<U by omega)
      have e3:=Nat.mod_eq_of_lt (show 4294967296*r+v1<U by omega)
      refine Xh (Yd J J) J J<|Xh (Yd J J) J J<|Xh (Bc J J J) J J<|Xh (Yd J J) J J<|Xh (Bc J J J) J J<|Xh (Yd J J) J J<|Xh (Bx J J J) J J<|Xh (Pw J J J) J J<|dt (Yh J J J)<|Zc<|Za<|Zr J (fun h547=>?_) (fun h547=>?_)
      ·rw [e1,e2,e3]at h547
       refine Zk<|Za<|Zo<|Zb ?_
       have hst:=Zi9 (by omega) hI hv1 hu (by omega)
       have hst1:=hst.1
       refine Ze<|mv J<|dt (Zen (n:=1) J J J)<|Zp J<|Zc<|Za<|Zb<|Yo (Ip 15 (v':= .int .u64 ((a-1:Nat):Int)) J (Zbp (Zr8 hst1 (by omega))))<|Ze<|mv J<|mv J<|dt (Bx J J J)<|Zp J<|Zc<|Za<|Zb<|Yo (Ip 16 (v':= .int .u64 ((r+y1:Nat):Int)) J (Zbp (Nat.mod_eq_of_lt (by omega))))<|Ze<|mv J<|dt (Lg J J J)<|Zc<|Za<|Zr J (fun h550_2=>?_) (fun h550_2=>?_)
       ·refine Yx<|Zhe<|Zx<|Pd ?_
        have hq:Q1=a-1:=by rw [hQ1,hYs];exact(Zgz (by omega) hy0 hst.2 (by omega) (by omega)).symm
        exact Xo () trivial ⟨by rw [hq];rfl,rfl,rfl,rfl,rfl,rfl,rfl,rfl,trivial⟩ K1
       ·exact Zk<|Qn<|Xk (a-1,r+y1) ⟨hst.2,by dsimp only;omega⟩ (by first | omega | (dsimp only<;>omega)) K9 K1
      ·rw [e1,e2,e3]at h547
       refine Yx<|Zx<|Zx<|Pd ?_
       have hq:Q1=a:=by rw [hQ1,hYs];exact(Zpa (by omega) hI (by omega)).symm
       exact Xo () trivial ⟨by rw [hq];rfl,rfl,rfl,rfl,rfl,rfl,rfl,rfl,trivial⟩ K1
    ·rintro _ -
     simp only [CA,NA]
     refine Zb<|Ze<|mv J<|dt (Bc J J J)<|mv J<|dt (Bx J J J)<|mv J<|mv J<|dt (Bc J J J)<|dt (Zen J J J (by first | exact Nat.mod_lt _ Ps | omega))<|Zp J<|Zc<|Za<|Zb<|Yo (Ip 17 (v':= .int .u64 (t:Int)) J (by rw [hte,hQ1,Zwa hY0 hYU]))<|Ze<|mv J<|mv J<|dt (Zy3 J J J)<|Zp J<|Zc<|Za<|Zb<|Ze<|mv J<|mv J<|mv J<|dt (Bc J J J)<|dt (Zen J J J (by first | exact Nat.mod_lt _ Ps | omega))<|Zp J<|Zc<|Za<|Iz [(2,_),(8,_),(14,_),(15,_),(17,_)] [(0,_)] (fun(_:Unit)=>[(18,.int .u64 ((Q0:Nat):Int))]) (fun(_:Unit)=>[]) (fun(_:Unit)=>True) K5 K1 ?_ ?_
     ·refine Zo<|Yo (Ip 16 (v':= .int .u64 ((t%y1:Nat):Int)) J (by rw [rsub (by omega) (by omega)]))<|Oc [(2,_),(8,_),(9,_),(10,_),(14,_),(15,_),(17,_)] [(0,_)] (fun(q:Nat×Nat)=>[(18,.int .u64 (q.1:Int)),(16,.int .u64 (q.2:Int))]) (fun(q:Nat×Nat)=>[]) (fun(q:Nat×Nat)=>(dvI t v0 y1 y0 q.1 q.2)∧(q.2<4294967296)) (fun(q:Nat×Nat)=>q.1) (t/y1,t%y1) ⟨dv0 hy1 hy1l hy0 hv0 ht,Nat.lt_trans (Nat.mod_lt _ (by omega)) hy1l⟩ K9 K1 ?_
      rintro⟨a,r⟩ ⟨hI,hr⟩
      dsimp only at hI hr
      simp only [CA,NA]
      have hI1:=hI.1
      have hI2:=hI.2.1
      refine Zb<|Zb<|Ze<|mv J<|dt (Lg J J J)<|mv J<|Pf (d:=104) J (fun s559=>?_) (fun s559=>?_)
      ·refine Xt J J J<|Xt J J J<|Xt J J J<|Xt J J J<|Xt J J J<|Xt J J J<|Xt J J J<|Xt J J J<|dt (Yy J J J)<|Zc<|Za<|Pv J<|Zk<|Za<|Zo<|Zb ?_
       have hst:=Zi9 (by omega) hI hv0 ht (by omega)
       have hst1:=hst.1
       refine Ze<|mv J<|dt (Zen (n:=1) J J J)<|Zp J<|Zc<|Za<|Zb<|Yo (Ip 18 (v':= .int .u64 ((a-1:Nat):Int)) J (Zbp (Zr8 hst1 (by omega))))<|Ze<|mv J<|mv J<|dt (Bx J J J)<|Zp J<|Zc<|Za<|Zb<|Yo (Ip 16 (v':= .int .u64 ((r+y1:Nat):Int)) J (Zbp (Nat.mod_eq_of_lt (by omega))))<|Ze<|mv J<|dt (Lg J J J)<|Zc<|Za<|Zr J (fun h562=>?_) (fun h562=>?_)
       ·refine Yx<|Zhe<|Zx<|Pd ?_
        have hq:Q0=a-1:=by rw [hQ0,hYs];exact(Zgz (by omega) hy0 hst.2 (by omega) (by omega)).symm
        exact Xo () trivial ⟨by rw [hq];rfl,rfl,rfl,rfl,rfl,rfl,trivial⟩ K1
       ·exact Zk<|Qn<|Xk (a-1,r+y1) ⟨hst.2,by dsimp only;omega⟩ (by first | omega | (dsimp only<;>omega)) K9 K1
      ·have hm1:=Zrc (show a<4294967296 by omega) hy0
       have e1:=Nat.mod_eq_of_lt (show a*y0<U from hm1)
       have e2:=Nat.mod_eq_of_lt (show 4294967296*r<U by omega)
       have e3:=Nat.mod_eq_of_lt (show 4294967296*r+v0<U by omega)
       refine Xh (Yd J J) J J<|Xh (Yd J J) J J<|Xh (Bc J J J) J J<|Xh (Yd J J) J J<|Xh (Bc J J J) J J<|Xh (Yd J J) J J<|Xh (Bx J J J) J J<|Xh (Pw J J J) J J<|dt (Yh J J J)<|Zc<|Za<|Zr J (fun h559=>?_) (fun h559=>?_)
       ·rw [e1,e2,e3]at h559
        refine Zk<|Za<|Zo<|Zb ?_
        have hst:=Zi9 (by omega) hI hv0 ht (by omega)
        have hst1:=hst.1
        refine Ze<|mv J<|dt (Zen (n:=1) J J J)<|Zp J<|Zc<|Za<|Zb<|Yo (Ip 18 (v':= .int .u64 ((a-1:Nat):Int)) J (Zbp (Zr8 hst1 (by omega))))<|Ze<|mv J<|mv J<|dt (Bx J J J)<|Zp J<|Zc<|Za<|Zb<|Yo (Ip 16 (v':= .int .u64 ((r+y1:Nat):Int)) J (Zbp (Nat.mod_eq_of_lt (by omega))))<|Ze<|mv J<|dt (Lg J J J)<|Zc<|Za<|Zr J (fun h562_2=>?_) (fun h562_2=>?_)
        ·refine Yx<|Zhe<|Zx<|Pd ?_
         have hq:Q0=a-1:=by rw [hQ0,hYs];exact(Zgz (by omega) hy0 hst.2 (by omega) (by omega)).symm
         exact Xo () trivial ⟨by rw [hq];rfl,rfl,rfl,rfl,rfl,rfl,trivial⟩ K1
        ·exact Zk<|Qn<|Xk (a-1,r+y1) ⟨hst.2,by dsimp only;omega⟩ (by first | omega | (dsimp only<;>omega)) K9 K1
       ·rw [e1,e2,e3]at h559
        refine Yx<|Zx<|Zx<|Pd ?_
        have hq:Q0=a:=by rw [hQ0,hYs];exact(Zpa (by omega) hI (by omega)).symm
        exact Xo () trivial ⟨by rw [hq];rfl,rfl,rfl,rfl,rfl,rfl,trivial⟩ K1
     ·rintro _ -
      simp only [CA,NA]
      refine Zb<|Ze<|mv J<|dt (Bc J J J)<|mv J<|dt (Bx J J J)<|mv J<|dt (Bc J J J)<|mv J<|dt (Bx J J J)<|mv J<|mv J<|dt (Bc J J J)<|dt (Zen J J J (by first | exact Nat.mod_lt _ Ps | omega))<|mv J<|dt (Zmb J J J J)<|Zp J<|Zp J<|Zc<|Za<|Zq ?_
      have hA:(Q1*4294967296%U+Q0)%U=(h*U+l)/y:=by rw [←Zmj _ y s,←hD,←hYe,hd1];simp only [U];omega
      have hB:((t*4294967296%U+v0)%U+(U-(Q0*Y)%U))%U/2^s=(h*U+l)%y:=by rw [←Zmi _ y s,←hD,←hYe,hd2,hQ0,Zwa hY0 hYU]
      exact Yu (.inl J) hsc () _ (fun a w hs=>Og hs results193 J J) (by rw [hA,hB]) trivial J Zm
theorem Zx4(v:Value)(x d:Nat)(hx:bl x≤8589934592)(hd:0<d)(hdU:d<U):Cal prog 192 #[v,.int .u64 (d:Int)] [Da v x] false (G:=Value) (fun r=>True) (fun r=> .tuple #[r,.int .u64 ((x%d:Nat):Int)]) (fun r=>[Da r (x/d)]):=by
 refine Yi func192 J ntmps192 J K1 fun w0 sc hw hsc=>?_
 simp only [Zu,Zt]
 have hX:=Lv x
 refine Zb<|Ze<|Zp J<|Zp J<|Zc<|Za<|Zb<|Ze<|mv J<|dt (Yf J J (i:=1) J Zi Qa)<|tt (Ge (i:=2) (n:=(dg U x).length) (by_:=8) (enc:=Lm) 0 J J J J Qa ti149 J pU.cells pU.pos J J J hw) fun v _=>Zp J<|Zc<|Za<|Zb<|Ze<|Zp J<|Zc<|Za<|Zb<|Zb<|Ze<|mv J<|dt (Yf J J (i:=1) J Zi Qa)<|dt (Qd J J J)<|Zp J<|Zc<|Za<|Zo<|Oc [(0,_),(1,_),(6,_)] [(0,_),(1,_)] (fun(q:Nat×List Nat×Nat)=>[(8,.int .i64 ((q.1:Int)-1)),(7,.int .u64 (q.2.2:Int))]) (fun(q:Nat×List Nat×Nat)=>[(2,Ld 1 149 Lm v q.2.1)]) (fun(q:Nat×List Nat×Nat)=>(q.1≤(dg U x).length)∧(q.2.1.length=(dg U x).length)∧(q.2.2<d)∧(∀d∈q.2.1,d<U)∧(Qm U (q.2.1.drop q.1)*d+q.2.2=Qm U ((dg U x).drop q.1))) (fun(q:Nat×List Nat×Nat)=>q.1) ((dg U x).length,List.replicate (dg U x).length 0,0) ⟨Nat.le_refl _,by simp,by first | omega | (dsimp only<;>omega),My _ Ps,by simp [Qm]⟩ K5 K3 ?_
 rintro⟨k,o,r⟩ ⟨hk,hol,hr,hall,hv⟩
 dsimp only at hk hol hr hall hv
 simp only [CA,NA]
 refine Zb<|Zb<|Ze<|mv J<|dt (Lg J J J)<|Zc<|Za<|Zr J (fun h158=>?_) (fun h158=>?_)
 ·exact Zk<|Za<|Zb<|Zo<|Ze<|mv J<|mv J<|mv J<|mv J<|mv J<|dt (Xc (ii:=1) (i:=k-1) J J J J Zi Qa Mk)<|dt (Xr (ii:=1) 0 J J J Zi pU (by first | omega | (simp only [List.length_set];omega)))<|mv J<|tt (Zh (n:=2) (Zsi _ _ _ (Pk Ps (Lf Pm _) _) hdU hr) J J J K3 call193 Zg J hw) fun _ _=>mv J<|dt (Zz J J J)<|dt (Zz J J J)<|dt (Xc (ii:=2) (i:=k-1) J J J J (Xa pU) Qa Mk)<|tt (Im (i:=2) (enc:=Lm) _ J J J J J J pU J hw (by decide) (by first | omega | (simp only [List.length_set];omega))) fun _ _=>Zp J<|Zc<|Qn<|Za<|Ze<|mv J<|dt (Qd J J J)<|Zp J<|Zc<|Xk (k-1,_,_) ⟨by first | omega | (dsimp only<;>omega),by simp;omega,Nat.mod_lt _ hd,Kz hall _ _ (Zrz (Pk Ps (Lf Pm x) _) hr),Zsw hd (by omega) (by omega) (by rw [show k-1+1=k by omega];exact hv)⟩ (by first | omega | (dsimp only<;>omega)) ⟨by rw [show(((k-1:Nat):Int)-1)=(k:Int)-1-1 by omega];rfl,rfl,rfl,rfl,rfl,trivial⟩ K3
 ·refine Yx<|Zx<|Zx<|Pd<|Za<|Zb<|Ze<|mv J<|tt (Zh (n:=2) (Me _ _) J J J K1 call127 (Qt 2 J J pU Zg) J hw) fun _ _=>Pp (Zay 2 J J pU)<|mv J<|Zp J<|Zp J<|Zc<|Za<|Zq ?_
  obtain rfl:k=0:=by omega
  rw [List.drop_zero,List.drop_zero,Ka Pm]at hv
  have hq:tz o=dg U (x/d):=by
   rw [←Ix Pm _ hall,←hv,Nat.mul_comm,Nat.mul_add_div hd,Nat.div_eq_of_lt hr,Nat.add_zero]
  have hm:r=x%d:=by rw [←hv,Nat.mul_comm,Nat.mul_add_mod,Nat.mod_eq_of_lt hr]
  exact Yu (.inl J) hsc _ _ (fun a w hs=>Og hs results192 J J) (by rw [hm]) trivial J (Nj 2 J J pU hq Zm)
theorem Gg(v:Value)(x s:Nat)(hx:bl x≤4294967296)(hs:s≤4294967296:=by decide):Cal prog 132 #[v,.int .i64 (s:Int)] [Da v x] false (G:=Value) (fun r=>True) (fun r=>r) (fun r=>[Da r (x*2^s)]):=by
 refine Yi func132 J ntmps132 J K1 fun w0 sc hw hsc=>?_
 simp only [Zu,Zt]
 obtain⟨w,hwe⟩:∃w,w=s/64:=⟨_,rfl⟩
 obtain⟨b,hbe⟩:∃b,b=s%64:=⟨_,rfl⟩
 have hX:=Lv x
 refine Zb<|Ze<|Zp J<|Zc<|Za<|Zb<|Zb<|Ze<|mv J<|dt (Yf J J (i:=1) J Zi Qa)<|dt (Pj J J J)<|Zc<|Za<|Zr J (fun h122=>?_) (fun h122=>?_)
 ·refine Zb<|Ze<|Zp J<|Zc<|Za<|Zq<|Yn<|Qu (Np 9 1 149 Lm) ?_
  have hx0:x=0:=(Nn Pm x).1 (by omega)
  exact Yu (.inl J) hsc (.slice none 0 0) _ (fun a w hs=>Ni hs results132 J) J trivial J (Nj 9 J J pU (by rw [hx0,Nat.zero_mul];rfl) Zm)
 ·refine Zk<|Za<|Zb<|Ze<|mv J<|dt (Zie J J J)<|mv J<|dt (Zk7 J J J)<|Zp J<|Zp J<|Zc<|Za<|Zb<|Yo (Ip 5 (v':= .int .i64 (w:Int)) J (by congr 1;omega))<|Yo (Ip 6 (v':= .int .i64 (b:Int)) J (by congr 1;omega))<|Ze<|mv J<|dt (Yf J J (i:=1) J Zi Qa)<|mv J<|dt (Ys J J J)<|dt (Ys J J J)<|tt (Ge (i:=2) (n:=(dg U x).length+w+1) (by_:=8) (enc:=Lm) 0 J J J J Qa ti149 J pU.cells pU.pos J J J hw) fun v _=>Zp J<|Zc<|Za<|Zb<|Zb<|Ze<|mv J<|dt (Yf J J (i:=1) J Zi Qa)<|mv J<|Zc<|Za<|Zo ?_
  refine Oc [(5,_),(6,_),(7,_),(23,_),(24,_)] [(0,_),(1,_)] (fun(q:Nat×List Nat)=>[(25,.int .i64 (q.1:Int))]) (fun(q:Nat×List Nat)=>[(2,Ld 1 149 Lm v q.2)]) (fun(q:Nat×List Nat)=>(q.1≤(dg U x).length)∧(q.2.length=(dg U x).length+w+1)∧(q.2.getD (w+q.1) 0<2^b)∧(∀j,w+q.1<j→q.2.getD j 0=0)∧(∀d∈q.2,d<U)∧(Qm U (q.2.take ((dg U x).length+w+1))=Qm U ((dg U x).take q.1)*2^b*U^w)) (fun(q:Nat×List Nat)=>(dg U x).length-q.1) (0,List.replicate ((dg U x).length+w+1) 0) ⟨by first | omega | (dsimp only<;>omega),by simp,by rw [Hg];exact Nat.two_pow_pos b,fun j _=>Hg _ j,My _ Ps,by rw [List.take_replicate,Ff];simp [Qm]⟩ K6 K3 ?_
  rintro⟨i,o⟩ ⟨hi,hol,hc,hz,hall,hv⟩
  dsimp only at hi hol hc hz hall hv
  simp only [CA,NA]
  have hst:i<(dg U x).length→_:=fun hlt=>Zzr (xs:=dg U x) (show b≤63 by omega) hol.symm (show w+i+1<_ by omega) hc (hz (w+i+1) (by omega)) (Pk Ps (Lf Pm x) i) hv
  refine Zb<|Ze<|dt (Xv J J J)<|Zc<|Za<|Zb<|Zr J (fun h127=>?_) (fun h127=>?_)
  ·refine Zk<|Za<|Zb<|Zo<|Zb<|Ze<|mv J<|dt (Xc (ii:=1) J J J J Zi Qa Mk J (by first | omega | (simp only [List.length_set];omega)))<|dt (Xr (ii:=1) 0 J J J Zi pU (by first | omega | (simp only [List.length_set];omega)))<|Zp J<|Zp J<|Zc<|Za<|Zb ?_
   have hX1:=Pk Ps (Lf Pm x) i
   refine Qs (fun _=>False) [(0,0),(1,0),(2,0),(3,0),(4,0),(5,0),(6,0),(7,0),(8,0),(9,0),(10,0),(11,3)] ?_ ?_
   ·kernel_rfl
   refine Zs J J (Yt (Yd J J))<|Zs J J (Yt (Yd J J))<|Zs J J (Yt (Yd J J))<|Zs J J (Yt (Ys J J J))<|Zs J J (Yt (Xc (ii:=2) (i:=w+i) J J J J (Xa pU) Qa Mk))<|Zs J J (Yt (Xr (ii:=2) 0 J J J (Xa pU) pU (by first | omega | (simp only [List.length_set];omega))))<|Zs J J (Yt (Yd J J))<|Zs J J (Yt (Yd J J))<|Zs J J (Yt (Zmc J J (n:=b) J J))<|Zs J J (Yt (Ydd J J J (Pk Ps hall _) (Nat.mod_lt _ Ps)))<|Zs J J (Yt (Xc (ii:=2) (i:=w+i) J J J J (Xa pU) Qa Mk))<|Po J (Im (i:=2) (enc:=Lm) _ J J J J J J pU J hw (by decide) (by first | omega | (simp only [List.length_set];omega))) fun _ _=>Ob<|Za<|Zb<|Ze<|mv J<|dt (Pw J J J)<|Zc<|Za<|Zr J (fun h129=>?_) (fun h129=>?_)
   ·have hal2:=Kz (Kz hall (w+i) (o.getD (w+i) 0 ||| (dg U x).getD i 0*2^b%U) (Nat.or_lt_two_pow (n:=64) (Pk Ps hall _) (Nat.mod_lt _ Ps))) (w+i+1) ((dg U x).getD i 0/2^(64-b)) (Nat.lt_of_le_of_lt (Nat.div_le_self _ _) hX1)
    have hc2:((o.set (w+i) (o.getD (w+i) 0 ||| (dg U x).getD i 0*2^b%U)).set (w+i+1) ((dg U x).getD i 0/2^(64-b))).getD (w+i+1) 0<2^b:=by
     rw [Mt _ _ _ _ _ (by simp;omega),if_pos rfl];exact Zfk (by omega) hX1
    have hz2:∀j,w+i+1<j→((o.set (w+i) (o.getD (w+i) 0 ||| (dg U x).getD i 0*2^b%U)).set (w+i+1) ((dg U x).getD i 0/2^(64-b))).getD j 0=0:=fun j hj=>by
     rw [Mt _ _ _ _ _ (by simp;omega),if_neg (by omega),Mt _ _ _ _ _ (by omega),if_neg (by omega)];exact hz j (by omega)
    have hv2:=hst (by omega)
    exact Ze<|mv J<|mv J<|mv J<|dt (Ys J J J)<|dt (Ys J J J)<|mv J<|mv J<|dt (Qd J J J)<|dt (Zmb J J (n:=64-b) J (by omega))<|dt (Xc (ii:=2) (i:=w+i+1) J J J J (Xa pU) Qa Mk (by omega) (by simp only [List.length_set];omega))<|tt (Im (i:=2) (enc:=Lm) _ J J J J J J pU J hw (by decide) (by simp only [List.length_set];omega)) fun _ _=>Zc<|Qn<|Za<|Ze<|dt (Ys J J J)<|mv J<|Zc<|Xk (i+1,_) ⟨by first | omega | (dsimp only<;>omega),by simp;omega,by dsimp only;rw [show w+(i+1)=w+i+1 by omega];exact hc2,fun j hj=>by have hj2:w+(i+1)<j:=hj;dsimp only;exact hz2 j (by omega),hal2,hv2⟩ (by first | omega | (dsimp only<;>omega)) K6 K3
   ·obtain rfl:b=0:=by omega
    have hal2:=Kz hall (w+i) (o.getD (w+i) 0 ||| (dg U x).getD i 0*2^0%U) (Nat.or_lt_two_pow (n:=64) (Pk Ps hall _) (Nat.mod_lt _ Ps))
    have hc2:(o.set (w+i) (o.getD (w+i) 0 ||| (dg U x).getD i 0*2^0%U)).getD (w+i+1) 0<2^0:=by
     rw [Mt _ _ _ _ _ (by omega),if_neg (by omega),hz _ (by omega)];exact Nat.two_pow_pos 0
    have hz2:∀j,w+i+1<j→(o.set (w+i) (o.getD (w+i) 0 ||| (dg U x).getD i 0*2^0%U)).getD j 0=0:=fun j hj=>by
     rw [Mt _ _ _ _ _ (by omega),if_neg (by omega)];exact hz j (by omega)
    have hv2:=hst (by omega)
    rw [show(dg U x).getD i 0/2^(64-0)=0 from Nat.div_eq_of_lt hX1]at hv2
    have hsame:=Zlw (o.set (w+i) (o.getD (w+i) 0 ||| (dg U x).getD i 0*2^0%U)) (w+i+1) (by rw [Mt _ _ _ _ _ (by omega),if_neg (by omega),hz _ (by omega)])
    rw [hsame]at hv2
    exact Zk<|Qn<|Za<|Ze<|dt (Ys J J J)<|mv J<|Zc<|Xk (i+1,_) ⟨by first | omega | (dsimp only<;>omega),by simp;omega,by dsimp only;rw [show w+(i+1)=w+i+1 by omega];exact hc2,fun j hj=>by have hj2:w+(i+1)<j:=hj;dsimp only;exact hz2 j (by omega),hal2,hv2⟩ (by first | omega | (dsimp only<;>omega)) K6 K3
  ·refine Yx<|Zx<|Zx<|Pd<|Za<|Zb<|Ze<|mv J<|tt (Zh (n:=2) (Me _ _) J J J K1 call127 (Qt 2 J J pU Zg) J hw) fun _ _=>Pp (Zay 2 J J pU)<|Zp J<|Zc<|Za<|Zq ?_
   obtain rfl:i=(dg U x).length:=by omega
   have hx2:tz o=dg U (x*2^s):=by
    rw [←Ix Pm _ hall]
    congr 1
    rw [Lq U o _ (by omega),List.take_of_length_le (Nat.le_refl _),Ka Pm,Zdp,Nat.mul_assoc,←Nat.pow_add,show b+64*w=s by omega]at hv
    exact hv
   exact xG hsc _ results132 J J trivial J (Nj 2 J J pU hx2 Zm)
theorem Yet(v:Value)(x s:Nat)(hx:bl x≤8589934592)(hs:s≤8589934592):Cal prog 195 #[v,.int .i64 (s:Int)] [Da v x] false (G:=Value) (fun r=>True) (fun r=>r) (fun r=>[Da r (x/2^s)]):=by
 refine Yi func195 J ntmps195 J K1 fun w0 sc hw hsc=>?_
 simp only [Zu,Zt]
 obtain⟨w,hwe⟩:∃w,w=s/64:=⟨_,rfl⟩
 obtain⟨b,hbe⟩:∃b,b=s%64:=⟨_,rfl⟩
 have hX:=Lv x
 have hdl:((dg U x).drop w).length=(dg U x).length-w:=List.length_drop
 refine Zb<|Ze<|Zp J<|Zc<|Za<|Zb<|Ze<|mv J<|dt (Zie J J J)<|mv J<|dt (Zk7 J J J)<|Zp J<|Zp J<|Zc<|Za<|Zb<|Zb<|Yo (Ip 5 (v':= .int .i64 (w:Int)) J (by congr 1;omega))<|Yo (Ip 6 (v':= .int .i64 (b:Int)) J (by congr 1;omega))<|Ze<|mv J<|mv J<|dt (Yf J J (i:=1) J Zi Qa)<|dt (Lg J J J)<|Zc<|Za<|Zr J (fun h139=>?_) (fun h139=>?_)
 ·refine Zb<|Ze<|Zp J<|Zc<|Za<|Zq<|Yn<|Qu (Np 9 1 149 Lm) ?_
  have hx0:x/2^s=0:=by
   rw [Zaw hwe hbe,Nat.div_eq_of_lt ((Ph Pm w x).1 (by omega)),Nat.zero_div]
  exact Yu (.inl J) hsc (.slice none 0 0) _ (fun a w hs=>Ni hs results195 J) J trivial J (Nj 9 J J pU (by rw [hx0];rfl) Zm)
 ·refine Zk<|Za<|Zb<|Ze<|mv J<|mv J<|dt (d_suf (ii:=1) (i:=w) J J J J Zi Qa Mk (by omega) (by omega))<|Pp (s_suf 1 2 (w) J J (by omega))<|tt (Zno (n:=3) (Zyr _ _ (by simp only [List.length_drop];omega)) J J J K1 call200 (Zd 2 J J J Zg) J hw) fun v _=>Zp J<|Zc<|Za<|Iz [(7,_)] [(0,_),(1,_),(2,_)] (fun(o:List Nat)=>[]) (fun(o:List Nat)=>[(3,Ld 1 149 Lm v o)]) (fun(o:List Nat)=>(o.length=(dg U x).length-w)∧(∀j,j<o.length→o.getD j 0=x/2^s/U^j%U)) K1 K3 ?_ ?_
  ·refine Zb<|Ze<|mv J<|dt (Pw J J J)<|Zc<|Za<|Zr J (fun h143=>?_) (fun h143=>?_)
   ·refine Zb<|Ze<|mv J<|dt (Yf J J (i:=3) J (Xa pU) Qa)<|mv J<|Zc<|Za<|Zo<|Oc [(0,_),(5,_),(6,_),(7,_),(24,_)] [(0,_),(1,_),(2,_)] (fun(q:Nat×List Nat)=>[(25,.int .i64 (q.1:Int))]) (fun(q:Nat×List Nat)=>[(3,Ld 1 149 Lm v q.2)]) (fun(q:Nat×List Nat)=>(q.1≤(dg U x).length-w)∧(q.2.length=(dg U x).length-w)∧(∀j,j<q.1→q.2.getD j 0=x/2^s/U^j%U)∧(∀j,q.1≤j→q.2.getD j 0=x/U^w/U^j%U)∧(∀d∈q.2,d<U)) (fun(q:Nat×List Nat)=>(dg U x).length-w-q.1) (0,(dg U x).drop w) ⟨Nat.zero_le _,by simp,fun j hj=>absurd hj (Nat.not_lt_zero j),fun j _=>Zwc x w j,fun d hd=>Lf Pm x d (List.mem_of_mem_drop hd)⟩ K6 K4 ?_
    rintro⟨i,o⟩ ⟨hi,hol,hlo,hhi,hall⟩
    dsimp only at hi hol hlo hhi hall
    simp only [CA,NA]
    refine Zb<|Ze<|dt (Xv J J J)<|Zc<|Za<|Zb<|Zr J (fun h144=>?_) (fun h144=>?_)
    ·refine Zk<|Za<|Zb<|Zo<|Zb<|Ze<|mv J<|Zp J<|Zc<|Za<|Zb<|Ze<|mv J<|mv J<|dt (Xc (ii:=3) J J J J (Xa pU) Qa Mk J (by first | omega | (simp only [List.length_set];omega)))<|dt (Xr (ii:=3) 0 J J J (Xa pU) pU (by first | omega | (simp only [List.length_set];omega)))<|mv J<|dt (Zmb J J (n:=b) J J)<|dt (Xc (ii:=3) J J J J (Xa pU) Qa Mk J (by first | omega | (simp only [List.length_set];omega)))<|tt (Im (i:=3) (enc:=Lm) _ J J J J J J pU J hw (by decide) (by first | omega | (simp only [List.length_set];omega))) fun _ _=>Zc<|Za<|Zb<|Ze<|mv J<|dt (Ys J J J)<|mv J<|dt (Yf J J (i:=3) J (Xa pU) Qa)<|dt (Xv J J J)<|Zc<|Za<|Zr J (fun h146=>?_) (fun h146=>?_)
     ·simp only [List.length_set]at h146
      have hnew:∀j,((o.set i (o.getD i 0/2^b)).set i ((o.set i (o.getD i 0/2^b)).getD i 0 ||| ((dg U x).getD (w+i+1) 0*2^(64-b))%U)).getD j 0=if i=j then x/2^s/U^i%U else o.getD j 0:=fun j=>by
       rw [Mt _ _ _ _ _ (by simp;omega),Mt _ _ _ _ _ (by omega),Mt _ _ _ _ _ (by omega)]
       split
       ·rw [if_pos rfl,hhi i (Nat.le_refl _),Gw Pm,Zaw hwe hbe,Zr2,show x/U^(w+i+1)=x/U^w/U^i/U by rw [Nat.div_div_eq_div_mul,Nat.div_div_eq_div_mul,←Nat.pow_succ,←Nat.pow_add];rfl,Zqd _ _ (by omega)]
       ·rfl
      have hal2:=Kz (Kz hall i (o.getD i 0/2^b) (Nat.lt_of_le_of_lt (Nat.div_le_self _ _) (Pk Ps hall _))) i ((o.set i (o.getD i 0/2^b)).getD i 0 ||| ((dg U x).getD (w+i+1) 0*2^(64-b))%U) (Nat.or_lt_two_pow (n:=64) (Pk Ps (Kz hall _ _ (Nat.lt_of_le_of_lt (Nat.div_le_self _ _) (Pk Ps hall _))) _) (Nat.mod_lt _ Ps))
      refine Qs (fun _=>False) [(0,0),(1,0),(2,0),(3,0),(4,0),(5,0),(6,0),(7,0),(8,0),(9,0),(10,0),(11,0),(12,0),(13,0),(14,0),(15,0),(16,3)] ?_ ?_
      ·kernel_rfl
      refine Zs J J (Yt (Yd J J))<|Zs J J (Yt (Yd J J))<|Zs J J (Yt (Xc (ii:=3) J J J J (Xa pU) Qa Mk J (by first | omega | (simp only [List.length_set];omega))))<|Zs J J (Yt (Xr (ii:=3) 0 J J J (Xa pU) pU (by first | omega | (simp only [List.length_set];omega))))<|Zs J J (Yt (Yd J J))<|Zs J J (Yt (Yd J J))<|Zs J J (Yt (Yd J J))<|Zs J J (Yt (Ys J J J))<|Zs J J (Yt (Ys J J J))<|Zs J J (Yt (Xc (ii:=1) (i:=w+i+1) J J J J Zi Qa Mk (by omega) (by first | omega | (simp only [List.length_set];omega))))<|Zs J J (Yt (Xr (ii:=1) 0 J J J Zi pU (by first | omega | (simp only [List.length_set];omega))))<|Zs J J (Yt (Yd J J))<|Zs J J (Yt (Qd J J J))<|Zs J J (Yt (Zmc J J (n:=64-b) J (by omega)))<|Zs J J (Yt (Ydd J J J (Pk Ps (Kz hall _ _ (Nat.lt_of_le_of_lt (Nat.div_le_self _ _) (Pk Ps hall _))) _) (Nat.mod_lt _ Ps)))<|Zs J J (Yt (Xc (ii:=3) J J J J (Xa pU) Qa Mk J (by first | omega | (simp only [List.length_set];omega))))<|Po J (Im (i:=3) (enc:=Lm) _ J J J J J J pU J hw (by decide) (by first | omega | (simp only [List.length_set];omega))) fun _ _=>Ob<|Qn<|Za<|Ze<|dt (Ys J J J)<|mv J<|Zc ?_
      exact Xk (i+1,_) ⟨by first | omega | (dsimp only<;>omega),by simp;omega,fun j hj=>by dsimp only;rw [hnew j];split;(· rename_i e;rw [←e]);exact hlo j (by have:j<i+1:=hj;omega),fun j hj=>by dsimp only;rw [hnew j,if_neg (by have:i+1≤j:=hj;omega)];exact hhi j (by have:i+1≤j:=hj;omega),hal2⟩ (by first | omega | (dsimp only<;>omega)) K6 K4
     ·have hnew:∀j,(o.set i (o.getD i 0/2^b)).getD j 0=if i=j then x/2^s/U^i%U else o.getD j 0:=fun j=>by
       rw [Mt _ _ _ _ _ (by omega)]
       split
       ·rw [hhi i (Nat.le_refl _),Zaw hwe hbe,Zr2,Zxk _ _ (by omega)]
        rw [Nat.div_div_eq_div_mul,←Nat.pow_succ]
        exact Nat.div_eq_of_lt (Zvy (by simp only [List.length_set]at h146;omega))
       ·rfl
      have hal2:=Kz hall i (o.getD i 0/2^b) (Nat.lt_of_le_of_lt (Nat.div_le_self _ _) (Pk Ps hall _))
      exact Zk<|Qn<|Za<|Ze<|dt (Ys J J J)<|mv J<|Zc<|Xk (i+1,_) ⟨by first | omega | (dsimp only<;>omega),by simp;omega,fun j hj=>by dsimp only;rw [hnew j];split;(· rename_i e;rw [←e]);exact hlo j (by have:j<i+1:=hj;omega),fun j hj=>by dsimp only;rw [hnew j,if_neg (by have:i+1≤j:=hj;omega)];exact hhi j (by have:i+1≤j:=hj;omega),hal2⟩ (by first | omega | (dsimp only<;>omega)) K6 K4
    ·exact Yx<|Zx<|Zx<|Pd<|Xo _ ⟨by omega,by intro j hj;rw [hlo j (by omega)]⟩ K1 K4
   ·exact Zk<|Xo _ ⟨by simp,by intro j hj;rw [Zwc,Zaw hwe hbe,show b=0 by omega,Nat.pow_zero,Nat.div_one]⟩ K1 K4
  ·rintro o ⟨hol,hv⟩
   simp only [CA,NA]
   refine Zb<|Ze<|mv J<|tt (Zh (n:=3) (Me _ _) J J J K1 call127 (Qt 3 J J pU Zg) J hw) fun _ _=>Pp (Zay 3 J J pU)<|Zp J<|Zc<|Za<|Zq ?_
   have hx2:tz o=dg U (x/2^s):=Zss Pm hv (by rw [hol,Zaw hwe hbe];exact Nat.lt_of_le_of_lt (Nat.div_le_self _ _) (Zvy (by omega)))
   exact xG hsc _ results195 J J trivial J (Nj 3 J J pU hx2 Zm)
theorem Zmz(v:Value)(x:Nat)(hx:bl x≤4294967296:=by omega):On prog 169 #[v] [Da v x] (.string (Xp x)):=by
 refine Yi func169 J ntmps169 J K1 fun w0 sc hw hsc=>?_
 simp only [Zu,Zt]
 have hX:=Lv x
 have hL:=Zfg x
 have hW:=lenU x
 have hrl:(List.replicate (dg 256 x).length (0:Nat)).length=(dg 256 x).length:=List.length_replicate
 refine Zb<|Ze<|Zp J<|Zc<|Za<|Zb<|Ze<|mv J<|tt (Zh (n:=1) (Zkl _ _) J J J K1 call168 (Zd 1 J J J Zg) J hw) fun _ _=>dt (Ys J J J)<|dt (Zie J J J)<|tt (Ge (i:=2) (n:=(dg 256 x).length) (by_:=1) (enc:=Zl2) 0 J J J J Zij ti5 J pB.cells pB.pos J J J hw) fun v _=>Zp J<|Zc<|Za<|Zb<|Zb<|Ze<|mv J<|dt (Yf J J (i:=2) J (Xa pB) Zij)<|mv J<|Zc<|Za<|Zo<|Oc [(0,_),(3,_),(12,_)] [(0,_),(1,_)] (fun(q:Nat×List Nat)=>[(13,.int .i64 (q.1:Int))]) (fun(q:Nat×List Nat)=>[(2,Ld 1 5 Zl2 v q.2)]) (fun(q:Nat×List Nat)=>(q.1≤(dg 256 x).length)∧(q.2.length=(dg 256 x).length)∧(∀j,j<q.1→q.2.getD j 0=x/256^((dg 256 x).length-1-j)%256)) (fun(q:Nat×List Nat)=>(dg 256 x).length-q.1) (0,List.replicate (dg 256 x).length 0) ⟨by first | omega | (dsimp only<;>omega),by simp,fun j hj=>absurd hj (Nat.not_lt_zero j)⟩ K4 K3 ?_
 rintro⟨i,o⟩ ⟨hi,hol,hov⟩
 dsimp only at hi hol hov
 simp only [CA,NA]
 refine Zb<|Ze<|dt (Xv J J J)<|Zc<|Za<|Zb<|Zr J (fun h48=>?_) (fun h48=>?_)
 ·refine Zk<|Za<|Zb<|Zo<|Zb<|Ze<|mv J<|Zp J<|Zc<|Za<|Zb<|Ze<|mv J<|dt (Yf J J (i:=2) J (Xa pB) Zij)<|dt (Qd J J J)<|mv J<|dt (Qd J J J)<|Zp J<|Zc<|Za<|Yo (Ip 5 (v':= .int .i64 (((dg 256 x).length-1-i:Nat):Int)) J (by congr 1;omega)) ?_
  have hbyte:=Zpq x ((dg 256 x).length-1-i)
  rw [←Gw Pm]at hbyte
  exact Ze<|mv J<|mv J<|mv J<|mv J<|dt (Zie J J J)<|dt (Xc (ii:=1) (i:=((dg 256 x).length-1-i)/8) J J J J Zi Qa Mk)<|dt (Xr (ii:=1) 0 J J J Zi pU)<|mv J<|dt (Zk7 J J J)<|dt (Db J J J)<|dt (Zmb J J (n:=((dg 256 x).length-1-i)%8*8) J (by omega))<|dt (Zey J J Zcn uT5)<|dt (Xc (ii:=2) J J J J (Xa pB) Zij sizeOf5 J (by first | omega | (simp only [List.length_set];omega)))<|tt (Im (i:=2) (enc:=Zl2) _ J J J J J J pB J hw (by decide) (by first | omega | (simp only [List.length_set];omega))) fun _ _=>Zc<|Qn<|Za<|Ze<|dt (Ys J J J)<|mv J<|Zc<|Xk (i+1,_) ⟨by first | omega | (dsimp only<;>omega),by simp;omega,fun j hj=>by dsimp only;rw [Mt _ _ _ _ _ (by omega)];split;(· rename_i e;rw [←e];exact hbyte);exact hov j (by omega)⟩ (by first | omega | (dsimp only<;>omega)) K4 K3
 ·refine Yx<|Zx<|Zx<|Pd<|Za<|Zb<|Ze<|mv J<|dt (d_b2s J J (i:=2) J (Xa pB) Zij uT9 uT5)<|Zp J<|Zc<|Za<|Zq ?_
  have hb:Xp x=⟨(o.map UInt8.ofNat).toArray⟩:=by
   have ho:o=(dg 256 x).reverse:=by
    refine Zfi (by simp;omega) (fun j hj=>?_)
    rw [hov j (by omega),Zoz _ _ _ (by omega),Gw (by omega)]
   rw [ho];rfl
  exact xU hsc results169 J J (by rw [hb])
theorem Zdr(x:Nat)(hx:bl x≤4294967296:=by omega):Cal prog 170 #[.string (Xp x)] [] false (G:=Value) (fun r=>True) (fun r=>r) (fun r=>[Da r x]):=by
 refine Yi func170 J ntmps170 J trivial fun w0 sc hw hsc=>?_
 simp only [Zu,Zt]
 have hX:=Lv x
 have hL:=Zfg x
 have hW:=lenU x
 have hbs:=Hj x
 refine Zb<|Ze<|Zp J<|Zc<|Za<|Zb<|Ze<|mv J<|dt (Cz J J uT9)<|dt (Ys J J J)<|dt (Zie J J J)<|tt (Ge (i:=1) (n:=(dg U x).length) (by_:=8) (enc:=Lm) 0 J J J J Qa ti149 J pU.cells pU.pos J J J hw) fun v _=>Zp J<|Zc<|Za<|Zb<|Zb<|Ze<|mv J<|dt (Cz J J uT9)<|mv J<|Zc<|Za<|Zo<|Oc [(0,_),(3,_),(12,_)] [(0,_)] (fun(q:Nat×List Nat)=>[(13,.int .i64 (q.1:Int))]) (fun(q:Nat×List Nat)=>[(1,Ld 1 149 Lm v q.2)]) (fun(q:Nat×List Nat)=>(q.1≤(dg 256 x).length)∧(q.2.length=(dg U x).length)∧(∀w,w<q.2.length→q.2.getD w 0=hi x ((dg 256 x).length-q.1) w)) (fun(q:Nat×List Nat)=>(dg 256 x).length-q.1) (0,List.replicate (dg U x).length 0) ⟨by first | omega | (dsimp only<;>omega),by simp,fun w hw=>by dsimp only at *;rw [List.length_replicate]at hw;rw [Hg,hi_top (by omega)]⟩ K4 K2 ?_
 rintro⟨i,o⟩ ⟨hik,hol,hov⟩
 dsimp only at hik hol hov
 simp only [CA,NA]
 refine Zb<|Ze<|dt (Xv J J J)<|Zc<|Za<|Zb<|Zr J (fun h30=>?_) (fun h30=>?_)
 ·refine Zk<|Za<|Zb<|Zo<|Zb<|Ze<|mv J<|Zp J<|Zc<|Za<|Zb<|Ze<|mv J<|dt (Cz J J uT9)<|dt (Qd J J J)<|mv J<|dt (Qd J J J)<|Zp J<|Zc<|Za<|Yo (Ip 5 (v':= .int .i64 (((dg 256 x).length-1-i:Nat):Int)) J (by congr 1;omega)) ?_
  have hget:=Zlf x i (by omega)
  have hw0:=hov (((dg 256 x).length-1-i)/8) (by omega)
  have hlt1:o.getD (((dg 256 x).length-1-i)/8) 0<U:=by rw [hw0];exact Nat.mod_lt _ Ps
  have hset:∀w,w<o.length→(o.set (((dg 256 x).length-1-i)/8) (o.getD (((dg 256 x).length-1-i)/8) 0 ||| (((Xp x).data.toList.getD i 0).toNat*2^(((dg 256 x).length-1-i)%8*8))%U)).getD w 0=hi x ((dg 256 x).length-(i+1)) w:=fun w hw=>by
   rw [hget,hw0,show(dg 256 x).length-i=(dg 256 x).length-1-i+1 by omega,Ye1,Mt _ _ _ _ _ (by omega),show(dg 256 x).length-(i+1)=(dg 256 x).length-1-i by omega]
   split
   ·rename_i e;rw [e]
   ·rename_i e;rw [hov w hw,show(dg 256 x).length-i=(dg 256 x).length-1-i+1 by omega];exact Yb3 e
  refine Qs (fun _=>False) [(0,0),(1,0),(2,0),(3,0),(4,0),(5,0),(6,0),(7,0),(8,0),(9,0),(10,0),(11,0),(12,0),(13,0),(14,0),(15,3)] ?_ ?_
  ·kernel_rfl
  exact Zs J J (Yt (Yd J J))<|Zs J J (Yt (Yd J J))<|Zs J J (Yt (Zie J J J))<|Zs J J (Yt (Xc (ii:=1) (i:=((dg 256 x).length-1-i)/8) J J J J (Xa pU) Qa Mk))<|Zs J J (Yt (Xr (ii:=1) 0 J J J (Xa pU) pU (by first | omega | (simp only [List.length_set];omega))))<|Zs J J (Yt (Yd J J))<|Zs J J (Yt (Yd J J))<|Zs J J (Yt (Zsb J J J uT9 J))<|Zs J J (Yt (Ycp J J uT5 Zcn (by have:=(((Xp x).data.toList.getD i 0).toNat_lt);simp only [U];omega)))<|Zs J J (Yt (Yd J J))<|Zs J J (Yt (Zk7 J J J))<|Zs J J (Yt (Db J J J))<|Zs J J (Yt (Zmc J J (n:=((dg 256 x).length-1-i)%8*8) J (by omega)))<|Zs J J (Yt (Ydd J J J (hlt1) (Nat.mod_lt _ Ps)))<|Zs J J (Yt (Xc (ii:=1) (i:=((dg 256 x).length-1-i)/8) J J J J (Xa pU) Qa Mk))<|Po J (Im (i:=1) (enc:=Lm) _ J J J J J J pU J hw (by decide) (by first | omega | (simp only [List.length_set];omega))) fun _ _=>Ob<|Qn<|Za<|Ze<|dt (Ys J J J)<|mv J<|Zc<|Xk (i+1,_) ⟨by first | omega | (dsimp only<;>omega),by simp;omega,fun w hw=>hset w (by simpa using hw)⟩ (by first | omega | (dsimp only<;>omega)) K4 K2
 ·refine Yx<|Zx<|Zx<|Pd<|Za<|Zb<|Ze<|mv J<|Zp J<|Zc<|Za<|Zq ?_
  have ho:o=dg U x:=Zfi hol (fun j hj=>by rw [hov j hj,Gw Pm,Yb5 (by omega)])
  exact xG hsc _ results170 J J trivial J (Nj 1 J J pU ho Zm)
set_option maxHeartbeats 2000000 in
theorem Zvq(v w:Value)(x y:Nat)(hx:bl x≤4000000000)(hy0:bl y≤4000000000)(hy:0<y):Cal prog 174 #[v,w] [Da v x,Da w y] true (G:=Value×Value) (fun r=>True) (fun r=> .tuple #[r.1,r.2]) (fun r=>[Da r.1 (x/y),Da r.2 (x%y)]):=by
 refine Yi func174 J ntmps174 J K2 fun w0 sc hw hsc=>?_
 simp only [Zu,Zt]
 have hX:=Lv x
 have hY:=Lv y
 refine Zb<|Ze<|Zp J<|Zp J<|Zc<|Za<|Zb<|Zb<|Ze<|mv J<|mv J<|tt (Zh (n:=2) (Zc4 _ _ _ _ (by omega) (by omega)) J J J K2 call172 (Zd 1 J J J (Zd 2 J J J Zg)) J hw) fun r hr=>dt (Xv J J J)<|Zc<|Za<|Zr J (fun h166=>?_) (fun h166=>?_)
 ·have hlt:x<y:=hr.1.1 (by omega)
  exact Zb<|Ze<|mv J<|Zp J<|Zp J<|Zc<|Za<|Zq<|Yn<|Qu (Np 9 1 149 Lm)<|Yu (.inl J) hsc (.slice none 0 0,v) _ (fun a w hs=>Og hs results174 J J) J trivial J (Nj 9 J J pU (by rw [Nat.div_eq_of_lt hlt];rfl) (Xe 1 J J J (by rw [Nat.mod_eq_of_lt hlt]) Zm))
 ·have hge:y≤x:=by have:=hr.1;omega
  have hly:=Ny hge
  refine Zk<|Za<|Zb<|Zb<|Ze<|mv J<|dt (Yf J J (i:=2) J Zi Qa)<|dt (Pj J J J)<|Zc<|Za<|Zr J (fun h169=>?_) (fun h169=>?_)
  ·have hyU:y<U:=by have:=(Ph Pm 1 y).1 (by omega);simpa using this
   have hd0:(dg U y).getD 0 0=y:=by rw [Gw Pm];simp [Nat.mod_eq_of_lt hyU]
   exact Zb<|Ze<|mv J<|mv J<|dt (Xc (ii:=2) (i:=0) J J J J Zi Qa Mk J)<|dt (Xr (ii:=2) 0 J J J Zi pU (by first | omega | (simp only [List.length_set];omega)))<|tt (Zh (n:=3) (Zx4 _ _ _ (by omega) (by rw [hd0];exact hy) (by rw [hd0];exact hyU)) J J J K2 call192 (Zd 1 J J J Zg) J hw) fun v _=>mv J<|dt (Zz J J J)<|dt (Zz J J J)<|Zp J<|Zp J<|Zc<|Za<|Zb<|Ze<|mv J<|mv J<|tt (Pn (i:=4) (ivs:=[(0,_)]) (enc:=Lm) [x%(dg U y).getD 0 0] J J K2 Qa ti149 J J J J J pU.cells J J hw) fun v_2 _=>tt (Zh (n:=4) (Me _ _) J J J K1 call127 (Qt 4 J J pU Zg) J hw) fun _ _=>Pp (Zay 4 J J pU)<|Zp J<|Zp J<|Zc<|Za<|Zq<|Yn<|Yu (.inl J) hsc (_,_) _ (fun a w hs=>Og hs results174 J J) J trivial J (Xe 3 J J J (by rw [hd0];rfl) (Nj 4 J J pU (by rw [Zhh (Nat.lt_trans (Nat.mod_lt _ (by rw [hd0];exact hy)) (by rw [hd0];exact hyU)),hd0]) Zm))
  ·refine Zk<|Za<|Zb ?_
   obtain⟨k,hk⟩:∃k,k=(dg U y).length:=⟨_,rfl⟩
   have hkx:k≤(dg U x).length:=by omega
   obtain⟨b,hb⟩:∃b,b=64-bl ((dg U y).getD (k-1) 0):=⟨_,rfl⟩
   obtain⟨hkD0,_,hk1,hDk0,hb63,hD630⟩:=Yeq hy hk hb
   obtain⟨D,hDe⟩:∃D,D=y*2^b:=⟨_,rfl⟩
   have hkD:(dg U D).length=k:=by rw [hDe];exact hkD0
   have hDk:D<U^k:=by rw [hDe];exact hDk0
   have hD63:U^(k-1)*9223372036854775808≤D:=by rw [hDe];exact hD630
   have hD0:0<D:=by rw [hDe];exact Nat.mul_pos hy (Nat.two_pow_pos b)
   have hDb:bl D≤4000000064:=by rw [hDe,Zt6 _ _ hy];omega
   refine Ze<|mv J<|mv J<|dt (Yf J J (i:=2) J Zi Qa)<|dt (Qd J J J)<|dt (Xc (ii:=2) (i:=(dg U y).length-1) J J J J Zi Qa Mk)<|dt (Xr (ii:=2) 0 J J J Zi pU (by first | omega | (simp only [List.length_set];omega)))<|tt (Zh (n:=4) (Zpw _ (Pk Ps (Lf Pm y) _)) J J J K1 call189 Zg J hw) fun _ _=>Pp (Ip 44 (v':= .int .i64 (b:Int)) J (by rw [hb,hk]))<|Zp J<|Zc<|Za<|Iz [(0,_),(8,_)] [(0,_),(1,_),(2,_)] (fun(q:Value×Value)=>[(9,q.1),(10,q.2)]) (fun(q:Value×Value)=>[(81,Da q.1 D),(82,Ld 1 149 Lm q.2 (List.replicate ((dg U x).length+1) 0))]) (fun(q:Value×Value)=>True) K2 K3 ?_ ?_
   ·refine Fs (fun _=>False) [8]<|Ya (n:=4) [(0,0),(1,0),(3,0),(4,0),(5,0)]<|Zs J J (Yt (Yd J J))<|Zs J J (Yt (Yd J J))<|Zs J J (Yt (Yd J J))<|Zs J J (Yt (Yf J J (i:=1) J Zi Qa))<|Zs J J (Yt (Ys J J J))<|Yl<|Pb (n:=3) 2 6 ?_ ?_
    ·exact Yj J (Zh (n:=81) (Gg _ _ _ (by omega) (by omega)) J J J K2 call132 (Zd 2 J J J Zg) J hw) fun v_3 _=>Ya (n:=0) [(7,0),(6,1),(8,3)]<|Zs J J (Yt (Mb J J))<|Xb J (Ge (i:=82) (n:=(dg U x).length+1) (by_:=8) (enc:=Lm) 0 J J J J Qa ti149 J pU.cells pU.pos J J J hw) fun v_4 _=>Po J (Od (Mb J J) J) fun _ _=>Yl<|Yk<|Xo (_,_) trivial K4 ⟨by rw [hDe];rfl,rfl,rfl,rfl,rfl,trivial⟩
    ·exact Yj J (Ge (i:=82) (n:=(dg U x).length+1) (by_:=8) (enc:=Lm) 0 J J J J Qa ti149 J pU.cells pU.pos J J J hw) fun v_5 _=>Ya (n:=0) [(2,1),(7,0),(8,3)]<|Xb J (Zh (n:=81) (Gg _ _ _ (by omega) (by omega)) J J J K2 call132 (Zd 2 J J J Zg) J hw) fun v_6 _=>Zs J J (Yt (Mb J J))<|Po J (Od (Mb J J) J) fun _ _=>Yl<|Yk<|Xo (_,_) trivial K4 ⟨by rw [hDe];rfl,rfl,rfl,rfl,rfl,trivial⟩
   ·rintro⟨vd,vr⟩ -
    simp only [CA,NA]
    refine Zb ?_
    have hnl:(dg U (x*2^b)).length≤(dg U x).length+1:=(Ph Pm _ _).2 (by rw [Nat.pow_succ];exact Nat.mul_lt_mul_of_lt_of_le ((Ph Pm _ x).1 (Nat.le_refl _)) (by rw [Yc6];exact Nat.pow_le_pow_right (by omega) (by omega)) Ps)
    refine Ze<|mv J<|mv J<|mv J<|tt (Zh (n:=5) (Gg _ _ _ (by omega) (by omega)) J J J K2 call132 (Zd 1 J J J Zg) J hw) fun v_7 _=>tt (t_cpy (i:=82) (j:=5) 0 J J J J J J (by decide) J Zi (Ycg _ _ _) (by rw [List.length_replicate];exact hnl) (by rw [List.length_replicate];omega) (by rw [List.length_replicate];omega) Qa pU J hw) fun _ _=>Zc<|Za<|Zb ?_
    have hR0l:(spl (List.replicate ((dg U x).length+1) 0) 0 (dg U (x*2^b))).length=(dg U x).length+1:=by rw [Hr _ _ _ (by rw [List.length_replicate];omega),List.length_replicate]
    refine Ze<|mv J<|dt (Yf J J (i:=81) J Zi Qa)<|Zp J<|Zc<|Za<|Zb ?_
    have hql0:(List.replicate ((dg U x).length+1-k) (0:Nat)).length=(dg U x).length+1-k:=List.length_replicate
    refine Yo (Ip 11 (v':= .int .i64 (k:Int)) J (by rw [hkD]))<|Ze<|mv J<|dt (Yf J J (i:=82) J (Xa pU) Qa)<|mv J<|dt (Qd J J J)<|tt (Ge (i:=6) (n:=(dg U x).length+1-k) (by_:=8) (enc:=Lm) 0 J J J J Qa ti149 J pU.cells pU.pos J J J hw) fun v_8 _=>Zp J<|Zc<|Za<|Zb<|Zb<|Ze<|mv J<|dt (Yf J J (i:=6) J (Xa pU) Qa)<|dt (Qd J J J)<|Zp J<|Zc<|Za<|Zo ?_
    refine Oc [(8,_),(9,_),(10,_),(11,_),(12,_)] [(0,_),(81,_),(1,_),(2,_),(5,_)] (fun(q:Nat×List Nat×List Nat)=>[(13,.int .i64 ((q.1:Int)-1))]) (fun(q:Nat×List Nat×List Nat)=>[(82,Ld 1 149 Lm vr q.2.1),(6,Ld 1 149 Lm v_8 q.2.2)]) (fun(q:Nat×List Nat×List Nat)=>(q.1≤(dg U x).length+1-k)∧(q.2.1.length=(dg U x).length+1)∧(∀d∈q.2.1,d<U)∧(q.2.2.length=(dg U x).length+1-k)∧(∀d∈q.2.2,d<U)∧(Qm U q.2.1<D*U^q.1)∧(Qm U (q.2.2.drop q.1)*U^q.1*D+Qm U q.2.1=x*2^b)) (fun(q:Nat×List Nat×List Nat)=>q.1) ((dg U x).length+1-k,spl (List.replicate ((dg U x).length+1) 0) 0 (dg U (x*2^b)),List.replicate ((dg U x).length+1-k) 0) ⟨Nat.le_refl _,hR0l,Zpy (My _ Ps) (Lf Pm _) 0,by simp,My _ Ps,by rw [Zp3,Ka Pm];exact Yck ((Ph Pm _ x).1 (Nat.le_refl _)) hb63 hk1 (by omega) hD63,by rw [Zp3,Ka Pm];simp [Qm]⟩ ⟨by rw [List.length_replicate];rfl,rfl,rfl,rfl,rfl,rfl,trivial⟩ K7 ?_
    rintro⟨jj,R,q⟩ ⟨hj,hRl,hRa,hql,hqa,hV,hN⟩
    dsimp only at hj hRl hRa hql hqa hV hN
    simp only [CA,NA]
    refine Zb<|Zb<|Ze<|mv J<|dt (Lg J J J)<|Zc<|Za<|Zr J (fun h179=>?_) (fun h179=>?_)
    ·refine Zk<|Za<|Zb<|Zo<|Zb ?_
     have hW1:Qm U R<U^(jj-1+k+1):=by
      refine Nat.lt_of_lt_of_le hV ?_
      rw [show jj-1+k+1=k+jj by omega,Nat.pow_add]
      exact Nat.mul_le_mul_right _ (Nat.le_of_lt hDk)
     have hWz:tz ((R.drop (jj-1)).take (jj-1+k+1-(jj-1)))=dg U (Qm U R/U^(jj-1)):=Yda hRa (by omega) (by rw [show jj-1+(jj-1+k+1-(jj-1))=jj-1+k+1 by omega];exact hW1)
     have hWD:Qm U R/U^(jj-1)<D*U:=by
      rw [Nat.div_lt_iff_lt_mul (Nat.pow_pos Ps),Nat.mul_assoc,←Nat.pow_succ',show(jj-1).succ=jj by omega];exact hV
     have hWb:bl (Qm U R/U^(jj-1))≤4294967296:=by
      have h1:=Ny (Nat.le_of_lt hWD)
      have h2:=Zli D U
      have h3:bl U≤65:=(Mo 65 U).2 (by simp [U])
      omega
     have htop:=Ydi hRa (j:=jj-1) hk1 hW1 (by omega)
     have hDt:(dg U D).getD (k-1) 0*U^(k-1)≤D:=by
      rw [Gw Pm];exact Nat.le_trans (Nat.mul_le_mul_right _ (Nat.mod_le _ _)) (Nat.div_mul_le_self _ _)
     have hQU:Qm U R/U^(jj-1)/D≤18446744073709551615:=by
      have:=(Nat.div_lt_iff_lt_mul hD0).2 (show _<U*D by rw [Nat.mul_comm];exact hWD)
      simp only [U]at this ⊢;omega
     refine Ze<|Zp J<|Zc<|Za<|Iz [(8,_),(9,_),(10,_),(11,_),(12,_),(13,_)] [(0,_),(82,_),(6,_),(81,_),(1,_),(2,_),(5,_)] (fun(g:Nat)=>[(14,.int .u64 (g:Int))]) (fun(g:Nat)=>[]) (fun(g:Nat)=>(Qm U R/U^(jj-1)/D≤g)∧(g<U)) K6 K7 ?_ ?_
     ·refine Zb<|Qs (fun _=>False) [(0,0),(1,0),(2,0),(3,0),(4,0),(5,0),(6,0),(7,0),(8,0),(9,0),(10,0),(11,0)] ?_ ?_
      ·kernel_rfl
      refine Zs J J (Yt (Yd J J))<|Zs J J (Yt (Yd J J))<|Zs J J (Yt (Yd J J))<|Zs J J (Yt (Ys J J J))<|Zs J J (Yt (Xc (ii:=82) (i:=jj-1+k) J J J J (Xa pU) Qa Mk))<|Zs J J (Yt (Xr (ii:=82) 0 J J J (Xa pU) pU (by first | omega | (simp only [List.length_set];omega))))<|Zs J J (Yt (Yd J J))<|Zs J J (Yt (Yd J J))<|Zs J J (Yt (Qd J J J))<|Zs J J (Yt (Xc (ii:=81) (i:=k-1) J J J J Zi Qa Mk))<|Zs J J (Yt (Xr (ii:=81) 0 J J J Zi pU (by first | omega | (simp only [List.length_set];omega))))<|Zs J J (Yt (Xv J J J))<|Ob<|Za<|Zr J (fun h182=>?_) (fun h182=>?_)
      ·refine Qs (fun _=>False) [(0,0),(1,0),(2,0),(3,0),(4,0),(5,0),(6,0),(7,0),(8,0),(9,0),(10,0),(11,0),(12,0),(13,0),(14,0),(15,0),(16,0),(17,0),(18,1),(19,0),(20,0),(21,0),(22,0)] ?_ ?_
       ·kernel_rfl
       exact Zs J J (Yt (Yd J J))<|Zs J J (Yt (Yd J J))<|Zs J J (Yt (Yd J J))<|Zs J J (Yt (Ys J J J))<|Zs J J (Yt (Xc (ii:=82) (i:=jj-1+k) J J J J (Xa pU) Qa Mk))<|Zs J J (Yt (Xr (ii:=82) 0 J J J (Xa pU) pU (by first | omega | (simp only [List.length_set];omega))))<|Zs J J (Yt (Yd J J))<|Zs J J (Yt (Yd J J))<|Zs J J (Yt (Yd J J))<|Zs J J (Yt (Ys J J J))<|Zs J J (Yt (Qd J J J))<|Zs J J (Yt (Xc (ii:=82) (i:=jj-1+k-1) J J J J (Xa pU) Qa Mk))<|Zs J J (Yt (Xr (ii:=82) 0 J J J (Xa pU) pU (by first | omega | (simp only [List.length_set];omega))))<|Zs J J (Yt (Yd J J))<|Zs J J (Yt (Yd J J))<|Zs J J (Yt (Qd J J J))<|Zs J J (Yt (Xc (ii:=81) (i:=k-1) J J J J Zi Qa Mk))<|Zs J J (Yt (Xr (ii:=81) 0 J J J Zi pU (by first | omega | (simp only [List.length_set];omega))))<|Xb J (Zh (n:=6) (Zsi _ _ _ (Pk Ps hRa _) (Pk Ps (Lf Pm _) _) (by omega)) J J J K3 call193 Zg J hw) fun _ _=>Zs J J (Yt (Yd J J))<|Zs J J (Yt (Zz J J J))<|Zs J J (Yt (Zz J J J))<|Zs J J (Yt (Mb J J))<|Ob<|Xo _ ⟨Yb6 hDt (by omega) htop,Zrz (Pk Ps hRa _) (by omega)⟩ K7 K7
      ·exact Zk<|Xo 18446744073709551615 ⟨hQU,by decide⟩ K7 K7
     ·rintro g ⟨hg,hgU⟩
      simp only [CA,NA]
      refine Zb<|Ze<|mv J<|mv J<|mv J<|mv J<|dt (Ys J J J)<|dt (Ys J J J)<|dt (d_mid (ii:=82) (i:=jj-1) (j:=jj-1+k+1) J J J J J (Xa pU) Qa Mk (by omega) (by omega) (by omega) (by omega))<|Zp J<|Zc<|Za<|Zb<|Ze<|mv J<|mv J<|tt (Pn (i:=7) (ivs:=[(0,_)]) (enc:=Lm) [g] J J K2 Qa ti149 J J J J J pU.cells J J hw) fun v_9 _=>tt (Zh (n:=7) (Me _ _) J J J K1 call127 (Qt 7 J J pU Zg) J hw) fun _ _=>Pp (Zay 7 J J pU)<|Pp (Zep 7 (Zhh hgU) J J)<|tt (Zh (n:=83) (Zvp _ _ _ _ (by omega) (Nat.le_trans ((Mo 64 g).2 hgU) (by omega))) J J J K2 call194 (Zd 81 J J J (Qt 7 J J pU Zg)) J hw) fun v_10 _=>Zp J<|Zc<|Za<|Zb<|Zo<|Oc [(8,_),(9,_),(10,_),(11,_),(12,_),(13,_),(15,_)] [(0,_),(82,_),(6,_),(81,_),(1,_),(2,_),(5,_),(7,_)] (fun(q:Nat×Value)=>[(14,.int .u64 (q.1:Int)),(16,q.2)]) (fun(q:Nat×Value)=>[(83,Da q.2 (D*q.1))]) (fun(q:Nat×Value)=>(Qm U R/U^(jj-1)/D≤q.1)∧(q.1<U)) (fun(q:Nat×Value)=>q.1) (g,_) ⟨by first | omega | (dsimp only<;>omega),by first | omega | (dsimp only<;>omega)⟩ K9 K9 ?_
      rintro⟨g,vp⟩ ⟨hg,hgU⟩
      dsimp only at hg hgU
      simp only [CA,NA]
      have hPb:bl (D*g)≤4294967296:=by have h1:=Zli D g;have h2:=(Mo 64 g).2 hgU;omega
      refine Zb<|Zb<|Ze<|mv J<|tt (Zh (n:=7) (Me _ _) J J J K1 call127 (Zd4 82 J J pU (Zix (jj-1) (jj-1+k+1)) (Zje _ _ _ _) Zg) J hw) fun _ _=>mv J<|tt (Zh (n:=7) (Zc4 _ _ _ _ hWb hPb) J J J K2 call172 (Zd4 82 J J pU (Zz6 hWz (by rw [hWz]) (Zix (jj-1) (jj-1+k+1))) (by rw [Lu];exact(Zje _ _ _ _)) (Zd 83 J J J Zg)) J hw) fun r_2 hr_2=>dt (Xv J J J)<|Zc<|Za<|Zr J (fun h187=>?_) (fun h187=>?_)
      ·have hlt:Qm U R/U^(jj-1)<D*g:=hr_2.1.1 (by omega)
       have hg1:1≤g:=by rcases Nat.eq_zero_or_pos g with h | h;(rw [h,Nat.mul_zero]at hlt;exact absurd hlt (Nat.not_lt_zero _));exact h
       have hDg:D≤D*g:=Nat.le_mul_of_pos_right _ hg1
       have hQg:Qm U R/U^(jj-1)/D≤g-1:=by have:=(Nat.div_lt_iff_lt_mul hD0).2 (show _<g*D by rw [Nat.mul_comm];exact hlt);omega
       exact Zk<|Za<|Zo<|Zb<|Ze<|mv J<|dt (Zen (n:=1) J J J)<|Zp J<|Zc<|Za<|Yo (Ip 14 (v':= .int .u64 ((g-1:Nat):Int)) J (Zbp (Zr8 hg1 hgU)))<|Ze<|mv J<|mv J<|tt (Zh (n:=8) (Zgo _ _ _ _ hPb hDg) J J J K2 call173 (Zd 83 J J J (Zd 81 J J J Zg)) J hw) fun v_11 _=>Zp J<|Zc<|Qn<|Qu (Pu 8 83 J J J)<|Xk (g-1,_) ⟨hQg,by dsimp only;omega⟩ (by first | omega | (dsimp only<;>omega)) K9 ⟨by rw [Nat.mul_sub_one];rfl,rfl,rfl,rfl,rfl,rfl,rfl,rfl,rfl,trivial⟩
      ·refine Yx<|Zx<|Zx<|Pd<|Za<|Zb ?_
       have hQ:g=Qm U R/U^(jj-1)/D:=by
        have h1:=hr_2.1
        have h2:D*g≤Qm U R/U^(jj-1):=by omega
        exact Nat.le_antisymm ((Nat.le_div_iff_mul_le hD0).2 (by rw [Nat.mul_comm];exact h2)) hg
       refine Ze<|mv J<|tt (Zh (n:=8) (Me _ _) J J J K1 call127 (Zd4 82 J J pU (Zix (jj-1) (jj-1+k+1)) (Zje _ _ _ _) Zg) J hw) fun _ _=>mv J<|tt (Zh (n:=9) (Zgo _ _ _ _ hWb) J J J K2 call173 (Zd4 82 J J pU (Zz6 hWz (by rw [hWz]) (Zix (jj-1) (jj-1+k+1))) (by rw [Lu];exact(Zje _ _ _ _)) (Zd 83 J J J Zg)) J hw) fun v_12 _=>Zp J<|Zc<|Za<|Zb ?_
       have hll:(dg U (Qm U R/U^(jj-1)-D*g)).length≤jj-1+k+1-(jj-1):=by
        have:Qm U R/U^(jj-1)-D*g<D:=by rw [hQ];have h3:=Nat.div_add_mod (Qm U R/U^(jj-1)) D;have h4:=Nat.mod_lt (Qm U R/U^(jj-1)) hD0;omega
        have:=(Ph Pm k _).2 (Nat.lt_trans this hDk)
        omega
       refine Ze<|mv J<|tt (t_clr (zv:= .bool false) (i:=82) (z:=0) (jj-1) J J J J (by decide) (Zwb _ _ _ (by omega)) (by omega) (by omega) Qa pU (fun w=>zeroValue149 w) J J hw) fun _ _=>Zc<|Za<|Zb<|Ze<|mv J<|mv J<|tt (t_cpy (i:=82) (j:=9) (jj-1) J J J J J J (by decide) J Zi (Zwb _ _ _ (by rw [Hr _ _ _ (by rw [List.length_replicate];omega)];omega)) hll (by rw [Hr _ _ _ (by rw [List.length_replicate];omega)];omega) (by rw [Hr _ _ _ (by rw [List.length_replicate];omega)];omega) Qa pU J hw) fun _ _=>Zc<|Za ?_
       have hL1:jj-1+(List.replicate (jj-1+k+1-(jj-1)) 0).length≤R.length:=by rw [List.length_replicate];omega
       have hl1:=Hr R (jj-1) _ hL1
       have hL2:jj-1+(dg U (Qm U R/U^(jj-1)-D*g)).length≤(spl R (jj-1) (List.replicate (jj-1+k+1-(jj-1)) 0)).length:=by omega
       have hval:=Ydc hRa (j:=jj-1) (n:=jj-1+k+1-(jj-1)) (by omega) (by rw [show jj-1+(jj-1+k+1-(jj-1))=jj-1+k+1 by omega];exact hW1) hll
       rw [Ka Pm]at hval
       have hst:=Yci (j:=jj-1) (N:=x*2^b) (Vq:=Qm U (q.drop jj)) hD0 hQ (by rw [show jj-1+1=jj by omega];exact hN)
       have hV2:=hst.1
       have hN2:=hst.2
       rw [←hval]at hV2 hN2
       have hdq:Qm U ((q.set (jj-1) g).drop (jj-1))=g+U*Qm U (q.drop jj):=by rw [drop_set _ _ _ (by omega),show jj-1+1=jj by omega];rfl
       rw [←hdq]at hN2
       exact Ze<|mv J<|mv J<|mv J<|dt (Xc (ii:=6) (i:=jj-1) J J J J (Xa pU) Qa Mk)<|tt (Im (i:=6) (enc:=Lm) _ J J J J J J pU J hw (by decide) (by first | omega | (simp only [List.length_set];omega))) fun _ _=>Zc<|Qn<|Za<|Ze<|mv J<|dt (Qd J J J)<|Zp J<|Zc<|Xk (jj-1,_,_) ⟨by first | omega | (dsimp only<;>omega),(Hr _ _ _ hL2).trans (hl1.trans hRl),Zpy (Zpy hRa (My _ Ps) _) (Lf Pm _) _,by simp;omega,Kz hqa _ _ hgU,hV2,hN2⟩ (by first | omega | (dsimp only<;>omega)) ⟨by rw [show(((jj-1:Nat):Int)-1)=(jj:Int)-1-1 by omega];rfl,rfl,rfl,rfl,rfl,rfl,trivial⟩ K7
    ·refine Yx<|Zx<|Zx<|Pd<|Za<|Zb ?_
     obtain rfl:jj=0:=by omega
     rw [Nat.pow_zero,Nat.mul_one]at hV
     have hVb:bl (Qm U R)≤8589934592:=by have:=Ny (Nat.le_of_lt hV);omega
     refine Ze<|mv J<|tt (Zh (n:=9) (Me _ _) J J J K1 call127 (Qt 6 J J pU Zg) J hw) fun _ _=>Pp (Zay 6 J J pU)<|mv J<|tt (Zh (n:=9) (Me _ _) J J J K1 call127 (Qt 82 J J pU Zg) J hw) fun _ _=>Pp (Zay 82 J J pU)<|Pp (Zep 82 (Ix Pm R hRa).symm J J)<|mv J<|tt (Zh (n:=10) (Yet _ _ _ hVb (by omega)) J J J K2 call195 (Qt 82 J J pU Zg) J hw) fun v_13 _=>Zp J<|Zp J<|Zc<|Za<|Zq ?_
     rw [List.drop_zero,Nat.pow_zero,Nat.mul_one]at hN
     have hqq:tz q=dg U (x/y):=by
      rw [←Ix Pm _ hqa,←Zmj x y b,←hDe,←hN,Nat.mul_comm,Nat.mul_add_div hD0,Nat.div_eq_of_lt hV,Nat.add_zero]
     have hrr:Qm U R/2^b=x%y:=by
      rw [←Zmi x y b,←hDe,←hN,Nat.mul_comm,Nat.mul_add_mod,Nat.mod_eq_of_lt hV]
     exact Yu (.inl J) hsc (_,_) _ (fun a w hs=>Og hs results174 J J) J trivial J (Nj 6 J J pU hqq (Xe 10 J J J (by rw [hrr]) Zm))
theorem Zou(v w:Value)(x y:Nat)(hx:bl x≤4000000000:=by omega)(hy:bl y≤4000000000:=by omega):Cal prog 185 #[v,w] [Da v x,Da w y] true (G:=Value) (fun r=>True) (fun r=>r) (fun r=>[Da r (Nat.gcd x y)]):=by
 refine Yi func185 J ntmps185 J K2 fun w0 sc hw hsc=>?_
 simp only [Zu,Zt]
 have hX:=Lv x
 have hY:=Lv y
 refine Zb<|Ze<|Zp J<|Zc<|Za<|Zb<|Zo<|Yo (Pu 1 91 J J J)<|Yo (Pu 2 92 J J J)<|Oc [] [(0,_),(1,_),(2,_)] (fun(q:Value×Value×Nat×Nat)=>[(0,q.1),(1,q.2.1)]) (fun(q:Value×Value×Nat×Nat)=>[(91,Da q.1 q.2.2.1),(92,Da q.2.1 q.2.2.2)]) (fun(q:Value×Value×Nat×Nat)=>(Nat.gcd q.2.2.1 q.2.2.2=Nat.gcd x y)∧(bl q.2.2.1≤4000000000)∧(bl q.2.2.2≤4000000000)) (fun(q:Value×Value×Nat×Nat)=>q.2.2.2) (v,w,x,y) ⟨J,hx,hy⟩ K2 K5 ?_
 rintro⟨va,vb,a,b⟩ ⟨hg,ha,hb⟩
 dsimp only at hg ha hb
 simp only [CA,NA]
 refine Zb<|Zb<|Ze<|mv J<|dt (Yf J J (i:=92) J Zi Qa)<|dt (Pw J J J)<|Zc<|Za<|Zr J (fun h201=>?_) (fun h201=>?_)
 ·have hb0:0<b:=by rcases Nat.eq_zero_or_pos b with h | h;(subst h;simp [Gv]at h201);exact h
  refine Zk<|Za<|Zo<|Zb<|Ze<|mv J<|mv J<|tt (Zh (n:=3) (Zvq _ _ _ _ ha hb hb0) J J J K2 call174 (Zd 91 J J J (Zd 92 J J J Zg)) J hw) fun g _=>mv J<|dt (Zz J J J)<|dt (Zz J J J)<|Zp J<|Zp J<|Zc<|Za<|Ze<|mv J<|mv J<|Zp J<|Zp J<|Zc<|Qn ?_
  have hlt:a%b<b:=Nat.mod_lt _ hb0
  exact Qu (Pu 92 91 J J J)<|Qu (Pu 4 92 J J J)<|Xk (_,_,b,a%b) ⟨by dsimp only;rw [←hg,Nat.gcd_comm b,←Nat.gcd_rec,Nat.gcd_comm],hb,Nat.le_trans (Ny (Nat.le_of_lt hlt)) hb⟩ hlt K2 K5
 ·have hb0:b=0:=(Nn Pm b).1 (by omega)
  exact Yx<|Zx<|Zx<|Pd<|Za<|Zb<|Ze<|mv J<|Zp J<|Zc<|Za<|Zq<|xG hsc _ results185 J J trivial J (Xe 91 J J J (by rw [←hg,hb0,Nat.gcd_zero_right]) Zm)
theorem Zor(s:Bool)(v:Value)(x:Int)(hs:sg s x):Cal prog 134 #[.agg #[.bool s,v]] [Da v x.natAbs] true (G:=Bool×Value) (fun r=>sg r.1 (-x)) (fun r=> .agg #[.bool r.1,r.2]) (fun r=>[Da r.2 (-x).natAbs]):=by
 refine Yi func134 J ntmps134 J K1 fun w0 sc hw hsc=>?_
 simp only [Zu,Zt]
 exact Zb<|Ze<|tt (Yw (i:=2) J J J J J hw) fun b _=>tt (Zy (i:=3) J J zeroValue154 J J hw) fun b_2 _=>Zc<|Za<|Zb<|Ze<|dt (Yv J J Mx J zT4 J J)<|dt (Qw (i:=2) J J J iA4 J)<|dt (Xl J J)<|dt (Yv J J Mx J Fe J J)<|dt (Qw (i:=2) J J J Fn J)<|dt (Oq (ivs:=[(0,_),(1,_)]) J K4 (fun a w hs=>Mh ((Zf J) a w hs) ((Zn (i:=1) J Zi) a w hs)))<|tt (Zl (i:=3) J J J J J J Xi J J ⟨Zf J,Zn (i:=1) J Zi,trivial⟩ J hw trivial) fun _ _=>Zc<|Za<|Zq<|Yu (.inl J) hsc (!s,v) _ (fun a w hs=>Ni hs results134 (Xg (i:=3) J J Lp Xi J)) J (Zzv hs) J (Xe 1 J J J (by rw [Int.natAbs_neg]) Zm)
theorem Zd8(s t:Bool)(v w:Value)(x y:Int)(hs:sg s x)(ht:sg t y)(hx:bl x.natAbs≤4294967296:=by omega)(hy:bl y.natAbs≤4294967296:=by omega):Cal prog 176 #[.agg #[.bool s,v],.agg #[.bool t,w]] [Da v x.natAbs,Da w y.natAbs] true (G:=Bool×Value) (fun r=>sg r.1 (x*y)) (fun r=> .agg #[.bool r.1,r.2]) (fun r=>[Da r.2 (x*y).natAbs]):=by
 refine Yi func176 J ntmps176 J K2 fun w0 sc hw hsc=>?_
 simp only [Zu,Zt]
 refine Zb<|Ze<|tt (Yw (i:=3) J J J J J hw) fun b _=>tt (Yw (i:=4) J J J J J hw) fun b_2 _=>tt (Zy (i:=5) J J zeroValue154 J J hw) fun b_3 _=>Zc<|Za<|Zb<|Qs (fun _=>False) [(0,0),(1,0),(2,0),(3,0),(4,0),(5,0),(6,0),(7,0),(8,0),(9,1),(10,0),(11,3)] ?_ ?_
 ·kernel_rfl
 exact Zs J J (Yt (Yv J J Mx J zT4 J J))<|Zs J J (Yt (Qw (i:=3) J J J iA4 J))<|Zs J J (Yt (Yv J J Mx J zT4 J J))<|Zs J J (Yt (Qw (i:=4) J J J iA4 J))<|Zs J J (Yt (Zna J J J uT4))<|Zs J J (Yt (Yv J J Mx J Fe J J))<|Zs J J (Yt (Qw (i:=3) J J J Fn J))<|Zs J J (Yt (Yv J J Mx J Fe J J))<|Zs J J (Yt (Qw (i:=4) J J J Fn J))<|Xb J (Zh (n:=6) (Zvp _ _ _ _ hx hy) J J J K2 call194 (Zd 1 J J J (Zd 2 J J J Zg)) J hw) fun v _=>Zs J J (Yt (Oq (ivs:=[(0,_),(1,_)]) J K4 (fun a w hs=>Mh ((Zf J) a w hs) ((Zn (i:=6) J Zi) a w hs))))<|Po J (Zl (i:=5) J J J J J J Xi J J ⟨Zf J,Zn (i:=6) J Zi,trivial⟩ J hw trivial) fun _ _=>Ob<|Za<|Zq<|Yu (.inl J) hsc (_,_) _ (fun a w hs=>Ni hs results176 (Xg (i:=5) J J Lp Xi J)) J (Zzw hs ht) J (Xe 6 J J J (by rw [Int.natAbs_mul]) Zm)
theorem Zkk(s:Bool)(v:Value)(x:Int)(hs:sg s x)(hx:bl x.natAbs≤4294967296:=by omega):Cal prog 135 #[.agg #[.bool s,v]] [Da v x.natAbs] true (G:=Unit) (fun _=>True) (fun _=> .int .i64 x.sign) (fun _=>[]):=by
 refine Yi func135 J ntmps135 J K1 fun w0 sc hw hsc=>?_
 simp only [Zu,Zt]
 have hX:=Lv x.natAbs
 refine Zb<|Ze<|tt (Yw (i:=2) J J J J J hw) fun b _=>Zp J<|Zc<|Za<|Zb<|Zo<|Zb<|Ze<|dt (Yv J J Mx J Fe J J)<|dt (Qw (i:=2) J J J Fn J)<|dt (Yf J J (i:=1) J Zi Qa)<|dt (Pj J J J)<|Zp J<|Zc<|Za<|Zr J (fun h245=>?_) (fun h245=>?_)
 ·exact Zb<|Ze<|Zp J<|Zc<|Za<|Zq<|Nq<|Yn<|xU hsc results135 J J (Zxj h245)
 ·refine Zb<|Ze<|dt (Yv J J Mx J zT4 J J)<|dt (Qw (i:=2) J J J iA4 J)<|Zp J<|Zc<|Za<|Mf J (fun h247=>?_) (fun h247=>?_)
  ·exact Zb<|Ze<|Zp J<|Zc<|Za<|Zq<|Nq<|Yn<|xU hsc results135 J J (Zzq hs h247 h245)
  ·exact Zk<|Qn<|Za<|Zb<|Ze<|Zp J<|Zc<|Za<|Zq<|xU hsc results135 J J (Zzp hs h247 h245)
theorem Zgn(s t:Bool)(v w:Value)(x y:Int)(hs:sg s x)(ht:sg t y)(hx:bl x.natAbs≤4294967296:=by omega)(hy:bl y.natAbs≤4294967296:=by omega):Cal prog 131 #[.agg #[.bool s,v],.agg #[.bool t,w]] [Da v x.natAbs,Da w y.natAbs] true (G:=Bool×Value) (fun r=>sg r.1 (x+y)) (fun r=> .agg #[.bool r.1,r.2]) (fun r=>[Da r.2 (x+y).natAbs]):=by
 refine Yi func131 J ntmps131 J K2 fun w0 sc hw hsc=>?_
 simp only [Zu,Zt]
 refine Zb<|Ze<|tt (Yw (i:=3) J J J J J hw) fun b _=>tt (Yw (i:=4) J J J J J hw) fun b_2 _=>tt (Zy (i:=5) J J zeroValue154 J J hw) fun b_3 _=>Zc<|Za<|Zb<|Zo<|Zb<|Ze<|dt (Yv J J Mx J zT4 J J)<|dt (Qw (i:=3) J J J iA4 J)<|dt (Yv J J Mx J zT4 J J)<|dt (Qw (i:=4) J J J iA4 J)<|dt (d_eqb J J J uT4)<|Zp J<|Zc<|Za<|Mf J (fun h231=>?_) (fun h231=>?_)
 ·have hst:s=t:=by simpa using h231
  refine Zb<|Qs (fun _=>False) [(0,0),(1,0),(2,0),(3,0),(4,0),(5,0),(6,1),(7,0),(8,3)] ?_ ?_
  ·kernel_rfl
  exact Zs J J (Yt (Yv J J Mx J zT4 J J))<|Zs J J (Yt (Qw (i:=3) J J J iA4 J))<|Zs J J (Yt (Yv J J Mx J Fe J J))<|Zs J J (Yt (Qw (i:=3) J J J Fn J))<|Zs J J (Yt (Yv J J Mx J Fe J J))<|Zs J J (Yt (Qw (i:=4) J J J Fn J))<|Xb J (Zh (n:=6) (Zvr _ _ _ _ hx hy) J J J K2 call171 (Zd 1 J J J (Zd 2 J J J Zg)) J hw) fun v _=>Zs J J (Yt (Oq (ivs:=[(0,_),(1,_)]) J K4 (fun a w hs=>Mh ((Zf J) a w hs) ((Zn (i:=6) J Zi) a w hs))))<|Po J (Zl (i:=5) J J J J J J Xi J J ⟨Zf J,Zn (i:=6) J Zi,trivial⟩ J hw trivial) fun _ _=>Ob<|Za<|Zq<|Nq<|Yn<|Yu (.inl J) hsc (_,_) _ (fun a w hs=>Ni hs results131 (Xg (i:=5) J J Lp Xi J)) J (Zuz hs (hst▸ht)) J (Xe 6 J J J (by rw [Zhd hs (hst▸ht)]) Zm)
 ·have hst:s≠t:=by simpa using h231
  refine Zb<|Ze<|dt (Yv J J Mx J Fe J J)<|dt (Qw (i:=3) J J J Fn J)<|dt (Yv J J Mx J Fe J J)<|dt (Qw (i:=4) J J J Fn J)<|tt (Zh (n:=6) (Zc4 _ _ _ _ hx hy) J J J K2 call172 (Zd 1 J J J (Zd 2 J J J Zg)) J hw) fun r hr=>dt (Lg J J J)<|Zp J<|Zc<|Za<|Zr J (fun h233=>?_) (fun h233=>?_)
  ·have hge:y.natAbs≤x.natAbs:=by have:=hr.1;omega
   refine Zb<|Qs (fun _=>False) [(0,0),(1,0),(2,0),(3,0),(4,0),(5,0),(6,1),(7,0),(8,3)] ?_ ?_
   ·kernel_rfl
   exact Zs J J (Yt (Yv J J Mx J zT4 J J))<|Zs J J (Yt (Qw (i:=3) J J J iA4 J))<|Zs J J (Yt (Yv J J Mx J Fe J J))<|Zs J J (Yt (Qw (i:=3) J J J Fn J))<|Zs J J (Yt (Yv J J Mx J Fe J J))<|Zs J J (Yt (Qw (i:=4) J J J Fn J))<|Xb J (Zh (n:=7) (Zgo _ _ _ _ hx) J J J K2 call173 (Zd 1 J J J (Zd 2 J J J Zg)) J hw) fun v_2 _=>Zs J J (Yt (Oq (ivs:=[(0,_),(1,_)]) J K4 (fun a w hs=>Mh ((Zf J) a w hs) ((Zn (i:=7) J Zi) a w hs))))<|Po J (Zl (i:=5) J J J J J J Xi J J ⟨Zf J,Zn (i:=7) J Zi,trivial⟩ J hw trivial) fun _ _=>Ob<|Za<|Zq<|Nq<|Yn<|Yu (.inl J) hsc (_,_) _ (fun a w hs=>Ni hs results131 (Xg (i:=5) J J Lp Xi J)) J (Ziw hs ht hst hge) J (Xe 7 J J J (by rw [Zbn hs ht hst hge]) Zm)
  ·have hge:x.natAbs≤y.natAbs:=by have:=hr.1;omega
   refine Zk<|Qn<|Za<|Zb<|Qs (fun _=>False) [(0,0),(1,0),(2,0),(3,0),(4,0),(5,0),(6,1),(7,0),(8,3)] ?_ ?_
   ·kernel_rfl
   exact Zs J J (Yt (Yv J J Mx J zT4 J J))<|Zs J J (Yt (Qw (i:=4) J J J iA4 J))<|Zs J J (Yt (Yv J J Mx J Fe J J))<|Zs J J (Yt (Qw (i:=4) J J J Fn J))<|Zs J J (Yt (Yv J J Mx J Fe J J))<|Zs J J (Yt (Qw (i:=3) J J J Fn J))<|Xb J (Zh (n:=8) (Zgo _ _ _ _ hy) J J J K2 call173 (Zd 2 J J J (Zd 1 J J J Zg)) J hw) fun v_3 _=>Zs J J (Yt (Oq (ivs:=[(0,_),(1,_)]) J K4 (fun a w hs=>Mh ((Zf J) a w hs) ((Zn (i:=8) J Zi) a w hs))))<|Po J (Zl (i:=5) J J J J J J Xi J J ⟨Zf J,Zn (i:=8) J Zi,trivial⟩ J hw trivial) fun _ _=>Ob<|Za<|Zq<|Yu (.inl J) hsc (_,_) _ (fun a w hs=>Ni hs results131 (Xg (i:=5) J J Lp Xi J)) J (by rw [Int.add_comm];exact Ziw ht hs (Ne.symm hst) hge) J (Xe 8 J J J (by rw [Int.add_comm,Zbn ht hs (Ne.symm hst) hge]) Zm)
theorem Oj(s:Bool)(x:Int)(hs:sg s x)(hx:bl x.natAbs≤4294967296:=by omega):Cal prog 130 #[.agg #[.bool s,.string (Xp x.natAbs)]] [] true (G:=Bool×Value) (fun r=>sg r.1 x) (fun r=> .agg #[.bool r.1,r.2]) (fun r=>[Da r.2 x.natAbs]):=by
 refine Yi func130 J ntmps130 J trivial fun w0 sc hw hsc=>?_
 simp only [Zu,Zt]
 refine Zb<|Ze<|tt (Yw (i:=1) J J J J J hw) fun b _=>tt (Zy (i:=2) J J zeroValue154 J J hw) fun b_2 _=>Zc<|Za<|Zb<|Qs (fun _=>False) [(0,0),(1,0),(2,0),(3,0),(4,1),(5,0),(6,3)] ?_ ?_
 ·kernel_rfl
 exact Zs J J (Yt (Yv J J Dl J zT4 J J))<|Zs J J (Yt (Qw (i:=1) J J J iA4 J))<|Zs J J (Yt (Yv J J Dl J zT9 J J))<|Zs J J (Yt (Qw (i:=1) J J J iA9 J))<|Xb J (Zh (n:=3) (Zdr _ hx) J J J K1 call170 Zg J hw) fun v _=>Zs J J (Yt (Oq (ivs:=[(0,_),(1,_)]) J K4 (fun a w hs=>Mh ((Zf J) a w hs) ((Zn (i:=3) J Zi) a w hs))))<|Po J (Zl (i:=2) J J J J J J Xi J J ⟨Zf J,Zn (i:=3) J Zi,trivial⟩ J hw trivial) fun _ _=>Ob<|Za<|Zq<|Yu (.inl J) hsc (_,_) _ (fun a w hs=>Ni hs results130 (Xg (i:=2) J J Lp Xi J)) J hs J (Xe 3 J J J J Zm)
theorem Hw(s:Bool)(v:Value)(x:Int)(hs:sg s x)(hx:bl x.natAbs≤4294967296:=by omega):On prog 128 #[.agg #[.bool s,v]] [Da v x.natAbs] (Zcd x):=by
 refine Yi func128 J ntmps128 J K1 fun w0 sc hw hsc=>?_
 simp only [Zu,Zt]
 refine Zb<|Ze<|tt (Yw (i:=2) J J J J J hw) fun b _=>tt (Zy (i:=3) J J zeroValue31 J J hw) fun b_2 _=>Zp J<|Zc<|Za<|Zb<|Zb<|Ze<|dt (Yv J J Mx J Fe J J)<|dt (Qw (i:=2) J J J Fn J)<|tt (Zh (n:=3) (Zkl _ _) J J J K1 call168 (Zd 1 J J J Zg) J hw) fun _ _=>dt (Pw J J J)<|Zc<|Za<|Zr J (fun h219=>?_) (fun h219=>?_)
 ·exact Zb<|Ze<|dt (Oq (ivs:=[]) J trivial (fun a w hs=>Yf8))<|tt (Zl (i:=3) J J J J J J Ye J J ⟨Zf J,Zf J,trivial⟩ J hw trivial) fun _ _=>Zp J<|Zc<|Za<|Zq<|Yn<|Yu (.inl J) hsc () _ (fun a w hs=>Og hs results128 (Xg (i:=3) J J Xs Ye J) J) (Zxa h219) trivial J Zm
 ·refine Zk<|Za<|Zb ?_
  cases s
  ·refine Qs (fun _=>False) [(0,0),(1,0),(2,0),(3,2),(4,2),(5,2),(6,2),(7,0),(8,0),(9,0),(10,1),(11,0),(12,3),(13,3)] ?_ ?_
   ·kernel_rfl
   exact Zs J J (Yt (Yv J J Mx J zT4 J J))<|Zs J J (Yt (Qw (i:=2) J J J iA4 J))<|Zs J J (Yt (Yd J J))<|r2 J J J J J J J J<|r2 J J J J J J J J<|r2 J J J J J J J J<|r2 J J J J J J J J<|Zs J J (Yt (Yh J J J))<|Zs J J (Yt (Yv J J Mx J Fe J J))<|Zs J J (Yt (Qw (i:=2) J J J Fn J))<|Xb J (Zh (n:=3) (Zmz _ _) J J J K1 call169 (Zd 1 J J J Zg) J hw) fun _ _=>Zs J J (Yt (Oq (ivs:=[(0,_),(1,_)]) J K4 (fun a w hs=>Zt9 ((Zf J) a w hs) ((Zf J) a w hs))))<|Po J (Zl (i:=3) J J J J J J Ye J J ⟨Zf J,Zf J,trivial⟩ J hw trivial) fun _ _=>Po J (Od (Mb J J) J) fun _ _=>Ob<|Za<|Zq<|Yu (.inl J) hsc () _ (fun a w hs=>Og hs results128 (Xg (i:=3) J J Xs Ye J) J) (by first | exact Zp2 hs h219 | exact Zp1 hs h219) trivial J Zm
  ·refine Qs (fun _=>False) [(0,0),(1,0),(2,0),(3,0),(4,0),(5,0),(6,0),(7,0),(8,0),(9,0),(10,1),(11,0),(12,3),(13,3)] ?_ ?_
   ·kernel_rfl
   exact Zs J J (Yt (Yv J J Mx J zT4 J J))<|Zs J J (Yt (Qw (i:=2) J J J iA4 J))<|Zs J J (Yt (Yd J J))<|r0g (Yt (Yv J J Mx J Fe J J)) J J J J J<|r0g (Yt (Qw (i:=2) J J J Fn J)) J J J J J<|r0g (Yt (Yf J J (i:=1) J Zi Qa)) J J J J J<|r0g (Yt (Pw J J J)) J J J J J<|Zs J J (Yt (Yy J J J))<|Zs J J (Yt (Yv J J Mx J Fe J J))<|Zs J J (Yt (Qw (i:=2) J J J Fn J))<|Xb J (Zh (n:=3) (Zmz _ _) J J J K1 call169 (Zd 1 J J J Zg) J hw) fun _ _=>Zs J J (Yt (Oq (ivs:=[(0,_),(1,_)]) J K4 (fun a w hs=>Zt9 ((Zf J) a w hs) ((Zf J) a w hs))))<|Po J (Zl (i:=3) J J J J J J Ye J J ⟨Zf J,Zf J,trivial⟩ J hw trivial) fun _ _=>Po J (Od (Mb J J) J) fun _ _=>Ob<|Za<|Zq<|Yu (.inl J) hsc () _ (fun a w hs=>Og hs results128 (Xg (i:=3) J J Xs Ye J) J) (by first | exact Zp2 hs h219 | exact Zp1 hs h219) trivial J Zm
theorem Oa(s t:Bool)(v w:Value)(x y:Int)(hs:sg s x)(ht:sg t y)(hx:bl x.natAbs≤3000000000:=by omega)(hy:bl y.natAbs≤3000000000:=by omega)(hy0:y≠0:=by decide):Cal prog 133 #[.agg #[.bool s,v],.agg #[.bool t,w]] [Da v x.natAbs,Da w y.natAbs] true (G:=Bool×Value×Value) (fun r=>sg r.1 (x/y)) (fun r=> .tuple #[.agg #[.bool r.1,r.2.1],.agg #[.bool false,r.2.2]]) (fun r=>[Da r.2.1 (x/y).natAbs,Da r.2.2 (x%y).natAbs]):=by
 refine Yi func133 J ntmps133 J K2 fun w0 sc hw hsc=>?_
 simp only [Zu,Zt]
 have hX:=Lv x.natAbs
 have hY:=Lv y.natAbs
 have hyp:0<y.natAbs:=by omega
 have hrl:x.natAbs%y.natAbs<y.natAbs:=Nat.mod_lt _ hyp
 have hrb:=Ny (Nat.le_of_lt hrl)
 have hqb:=Ny (Nat.div_le_self x.natAbs y.natAbs)
 refine Zb<|Ze<|tt (Yw (i:=3) J J J J J hw) fun b _=>tt (Yw (i:=4) J J J J J hw) fun b_2 _=>tt (Zy (i:=5) J J zeroValue154 J J hw) fun b_3 _=>tt (Zy (i:=6) J J zeroValue154 J J hw) fun b_4 _=>Zc<|Za<|Zb<|Ze<|dt (Yv J J Mx J Fe J J)<|dt (Qw (i:=3) J J J Fn J)<|dt (Yv J J Mx J Fe J J)<|dt (Qw (i:=4) J J J Fn J)<|tt (Zh (n:=7) (Zvq _ _ _ _ (by omega) (by omega) hyp) J J J K2 call174 (Zd 1 J J J (Zd 2 J J J Zg)) J hw) fun g _=>mv J<|dt (Zz J J J)<|dt (Zz J J J)<|Zp J<|Zp J<|Zc<|Za<|Zb<|Zb<|Ze<|dt (Yv J J Mx J zT4 J J)<|dt (Qw (i:=3) J J J iA4 J)<|mv J<|Ma (d:=18) J (fun s256=>?_) (fun s256=>?_)
 ·refine Xh (Yd J J) J J<|Xh (Yf J J (i:=8) J Zi Qa) J J<|Xh (Pw J J J) J J<|dt (Yy J J J)<|Zc<|Za<|Zr J (fun h256=>?_) (fun h256=>?_)
  ·subst s256
   have hR0:0<x.natAbs%y.natAbs:=by rcases Nat.eq_zero_or_pos (x.natAbs%y.natAbs)with h | h;(rw [h]at h256;simp [Gv]at h256);exact h
   have hD:=divA hs ht hy0 hR0
   refine Qs (fun _=>False) [(0,0),(3,0),(4,0),(5,0),(1,1),(2,1),(6,1),(7,0),(8,3)] ?_ ?_
   ·kernel_rfl
   refine Zs J J (Yt (Yd J J))<|Zs J J (Yt (Yv J J Mx J Fe J J))<|Zs J J (Yt (Qw (i:=4) J J J Fn J))<|Zs J J (Yt (Yd J J))<|Xb J (Pn (i:=9) (ivs:=[(0,_)]) (enc:=Lm) (dg U 1) J J K2 Qa ti149 J J J J J pU.cells J J hw) fun v _=>Xb J (Zh (n:=10) (Zvr _ _ _ _ (by omega) (show bl 1≤4294967296 by decide)) J J J K2 call171 (Zd 7 J J J (Qt 9 J J pU Zg)) J hw) fun v_2 _=>Xb J (Zh (n:=11) (Zgo _ _ _ _ (by omega)) J J J K2 call173 (Zd 2 J J J (Zd 8 J J J Zg)) J hw) fun v_3 _=>Zs J J (Yt (Mb J J))<|Po J (Od (Mb J J) J) fun _ _=>Ob<|Za<|Zb<|Ze<|dt (Yv J J Mx J zT4 J J)<|dt (Qw (i:=3) J J J iA4 J)<|dt (Yv J J Mx J zT4 J J)<|dt (Qw (i:=4) J J J iA4 J)<|dt (Zna J J J uT4)<|mv J<|dt (Oq (ivs:=[(0,_),(1,_)]) J K4 (fun a w hs=>Mh ((Zf J) a w hs) ((Zn (i:=10) J Zi) a w hs)))<|mv J<|dt (Oq (ivs:=[(0,_),(1,_)]) J K4 (fun a w hs=>Mh ((Zf J) a w hs) ((Zn (i:=11) J Zi) a w hs)))<|tt (Zl (i:=5) J J J J J J Xi J J ⟨Zf J,Zn (i:=10) J Zi,trivial⟩ J hw trivial) (fun _ _=>?_)
   exact tt (Zl (i:=6) J J J J J J Xi J J ⟨Zf J,Zn (i:=11) J Zi,trivial⟩ J hw trivial) fun _ _=>Zc<|Za<|Zq<|Yu (.inl J) hsc (_,_,_) _ (fun a w hs=>Og hs results133 (Xg (i:=5) J J Lp Xi J) (Xg (i:=6) J J Lp Xi J)) J hD.1 J (Xe 10 J J J (by rw [hD.2.1]<;>rfl) (Xe 11 J J J (by rw [hD.2.2]<;>rfl) Zm))
  ·have hD:=divB hs ht hy0 (.inr ((Nn Pm _).1 (by omega)))
   exact Zk<|Za<|Zb<|Ze<|dt (Yv J J Mx J zT4 J J)<|dt (Qw (i:=3) J J J iA4 J)<|dt (Yv J J Mx J zT4 J J)<|dt (Qw (i:=4) J J J iA4 J)<|dt (Zna J J J uT4)<|mv J<|dt (Oq (ivs:=[(0,_),(1,_)]) J K4 (fun a w hs=>Mh ((Zf J) a w hs) ((Zn (i:=7) J Zi) a w hs)))<|mv J<|dt (Oq (ivs:=[(0,_),(1,_)]) J K4 (fun a w hs=>Mh ((Zf J) a w hs) ((Zn (i:=8) J Zi) a w hs)))<|tt (Zl (i:=5) J J J J J J Xi J J ⟨Zf J,Zn (i:=7) J Zi,trivial⟩ J hw trivial) fun _ _=>tt (Zl (i:=6) J J J J J J Xi J J ⟨Zf J,Zn (i:=8) J Zi,trivial⟩ J hw trivial) fun _ _=>Zc<|Za<|Zq<|Yu (.inl J) hsc (_,_,_) _ (fun a w hs=>Og hs results133 (Xg (i:=5) J J Lp Xi J) (Xg (i:=6) J J Lp Xi J)) J hD.1 J (Xe 7 J J J (by rw [hD.2.1]<;>rfl) (Xe 8 J J J (by rw [hD.2.2]<;>rfl) Zm))
 ·have hD:=divB hs ht hy0 (.inl s256)
  exact Xt J J J<|Xt J J J<|Xt J J J<|dt (Yh J J J)<|Zc<|Za<|Yp J<|Zk<|Za<|Zb<|Ze<|dt (Yv J J Mx J zT4 J J)<|dt (Qw (i:=3) J J J iA4 J)<|dt (Yv J J Mx J zT4 J J)<|dt (Qw (i:=4) J J J iA4 J)<|dt (Zna J J J uT4)<|mv J<|dt (Oq (ivs:=[(0,_),(1,_)]) J K4 (fun a w hs=>Mh ((Zf J) a w hs) ((Zn (i:=7) J Zi) a w hs)))<|mv J<|dt (Oq (ivs:=[(0,_),(1,_)]) J K4 (fun a w hs=>Mh ((Zf J) a w hs) ((Zn (i:=8) J Zi) a w hs)))<|tt (Zl (i:=5) J J J J J J Xi J J ⟨Zf J,Zn (i:=7) J Zi,trivial⟩ J hw trivial) fun _ _=>tt (Zl (i:=6) J J J J J J Xi J J ⟨Zf J,Zn (i:=8) J Zi,trivial⟩ J hw trivial) fun _ _=>Zc<|Za<|Zq<|Yu (.inl J) hsc (_,_,_) _ (fun a w hs=>Og hs results133 (Xg (i:=5) J J Lp Xi J) (Xg (i:=6) J J Lp Xi J)) J hD.1 J (Xe 7 J J J (by rw [hD.2.1]<;>rfl) (Xe 8 J J J (by rw [hD.2.2]<;>rfl) Zm))
end Go.Sky

