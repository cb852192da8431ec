/- the law: part 20
   Proved without conditions of its own: each theorem bears its own. -/
import Derived.Test.YtcmiiammekgooaaGreatSo03
import Derived.Test.YtcmiiammekgooaaGreatSo02
import Derived.Test.YtcmiiammekgooaaGreatSo01
import Derived.Test.YtcmiiammekgooaaGreatSo10
import Derived.Test.YtcmiiammekgooaaGreatSo12
import Derived.Test.YtcmiiammekgooaaGreatSo18
import Derived.Test.YtcmiiammekgooaaGreatSo14
set_option linter.all false
namespace Go.Sky
open Go.Proofs
set_option maxRecDepth 20000
set_option maxHeartbeats 4000000
set_option linter.unusedSimpArgs false
theorem Zq4(v:Value)(zs:List (Int×SL))(hv:Vp (Zw zs))(h0:zs.length≠0):Cal Tryz.prog 113 #[v] [pp v zs] true (G:=Value×List (Int×SL)) (fun r=>Zw r.2=nrm (Zw zs)) (fun r=>r.1) (fun r=>[pp r.1 r.2]):=by
 refine Yd Tryz.func113 J Tryz.ntmps113 J K1 ?_
 intro w0 sc hw hsc
 simp only [Zp,Zn]
 have hli:=Ya zs
 have hlen:=hv.len
 refine Zb<|Zg<|as_ J J<|Zf<|Za<|Zb<|Zg<|mv J J<|tt (Zh (n:=2) (Iz _ _ (hv.sz.mono (by omega)) (by omega) (fun h=>hv.ne (fun e=>by have h7:=congrArg List.length e;simp only [List.length_nil]at h7;omega))) J J J K1 cF57 (Zd 1 J J J Ze) J hw) J fun g hg=>as_ J J<|Zf<|Za<|Zb<|Zb ?_
 have hpl:=congrArg List.length hg
 rw [Ya,Yi,hli]at hpl
 have hlc:=Nu g.2 (g.2.length-1)
 have hlc2:(g.2.getD (g.2.length-1) I0).1=cf (Yx (Zw zs)) ((Yx (Zw zs)).length-1):=by rw [hlc,hg,Yi,hli,hpl]
 have hpb:=(Lt hv).sz
 refine Zg<|mv J J<|mv J J<|dt (Zy J J (i:=2) J Zz Mj) J<|dt (Qg J J J ⟨by omega,by omega⟩) J<|dt (Yz (ii:=2) (i:=(g.2.length-1)) J J J J Zz Mj Pf (by omega) (by omega)) J<|dt (Xs (ii:=2) I0 J J J Zz pI (by omega)) J<|tt (Zh (n:=2) (Zfk _ _ (by rw [hlc2];have:=hpb ((Yx (Zw zs)).length-1);omega)) J J J K1 cF72 (Oi 2 J J (Yv (zs:=g.2) (i:=g.2.length-1) (d:=I0) (by omega)) Ze) J hw) J fun _ _=>dt (Qb J J J) J<|Zf<|Za<|Zq J (fun h29=>?_) (fun h29=>?_)
 ·have hnn:=Zhm (xs:=Zw zs) (by rw [Yi];omega) (by rw [←hlc2];exact Zqh.1 h29)
  exact Zb<|Zg<|mv J J<|tt (Zh (n:=3) (Zqv _ _ (by rw [hg];exact hpb.mono (by omega)) (by omega)) J J J K1 cF138 (Zd 2 J J J Ze) J hw) J fun g_2 hg_2=>as_ J J<|Zf<|Za<|Zu<|Xe<|Zv (.inl J) hsc _ _ (fun a w hs=>Qj hs Tryz.results113 J) J (by rw [hg_2,hg,hnn]) J (Xb 3 J J J Zj)
 ·have hnn:=Zhl (xs:=Zw zs) (fun h=>h29 (Zqh.2 (by rw [hlc2];exact h)))
  exact Zk<|Za<|Zb<|Zg<|mv J J<|as_ J J<|Zf<|Za<|Zu<|Zv (.inl J) hsc (_,g.2) _ (fun a w hs=>Qj hs Tryz.results113 J) J (by rw [hg,hnn]) J (Xb 2 J J J Zj)
theorem r3_sqf(v:Value)(zs:List (Int×SL))(hv:Vp (Zw zs))(h0:zs.length≠0)(hs:Sz 260 (Zw zs))(hl:zs.length≤8):Cal Tryz.prog 54 #[v] [pp v zs] true (G:=Value×List (Int×SL)) (fun r=>Zw r.2=sqf 13 (Zw zs)) (fun r=>r.1) (fun r=>[pp r.1 r.2]):=by
 refine Yd Tryz.func54 J Tryz.ntmps54 J K1 ?_
 intro w0 sc hw hsc
 simp only [Zp,Zn]
 have hli:=Ya zs
 have hne:Zw zs≠[]:=fun e=>h0 (by rw [←hli,e];rfl)
 obtain⟨k1,k2,k3,k4,k5,k6,k7,k8,k9,k10,k11,k12,k13,k14⟩:=Zp9 hv hne hs (by omega)
 have k6l:=List.length_pos_iff.2 k6
 have k12l:=List.length_pos_iff.2 k12
 have k2l:=k2.len
 have k11l:=k11.len
 refine Zb<|Zg<|as_ J J<|Zf<|Za<|Zb<|Zg<|mv J J<|tt (Zh (n:=2) (Zq4 _ _ hv h0) J J J K1 cF113 (Zd 1 J J J Ze) J hw) J fun g hg=>as_ J J<|Zf<|Za<|Zb ?_
 have hl_qs:=congrArg List.length hg
 rw [Ya]at hl_qs
 refine Zg<|mv J J<|mv J J<|mv J J<|tt (Zh (n:=3) (Zqw _ _ (by rw [hg];exact k1.sz.mono (by omega)) (by omega)) J J J K1 cF115 (Zd 2 J J J Ze) J hw) J (fun g_2 hg_2=>?_)
 have hl_qd:=congrArg List.length hg_2
 rw [Ya]at hl_qd
 refine tt (Zh (n:=4) (rp_gcd _ _ _ _ 13 (by rw [hg];exact k1) (by rw [hg_2,hg];exact k2) (by rw [hg_2,hg];exact k3)) J J J K2 cF114 (Zd 2 J J J (Zd 3 J J J Ze)) J hw) J (fun g_3 hg_3=>?_)
 have hgg:Zw g_3.2=Ko 13 (nrm (Zw zs)) (Pj (nrm (Zw zs))):=by rw [hg_3,hg_2,hg,k4]
 have hl_g:=congrArg List.length hgg
 rw [Ya]at hl_g
 refine tt (Zh (n:=5) (Ak _ _ _ _ (by omega) (by omega) (by omega) (by rw [hg];exact k1.tr) (by rw [hgg];exact k5.tr) (fun _=>by rw [hg,hgg];have:=Nat.mul_le_mul (show g.2.length-g_3.2.length+1≤9 by omega) (show msz (Ko 13 (nrm (Zw zs)) (Pj (nrm (Zw zs))))+1≤391 by omega);omega)) J J J K2 cF55 (Zd 2 J J J (Zd 4 J J J Ze)) J hw) J fun g_4 hg_4=>mv J J<|dt (Yg J J J) J<|dt (Yg J J J) J<|as_ J J<|as_ J J<|Zf<|Za<|Zb ?_
 have hqe:=hg_4 (by rw [hg,hgg];exact k7)
 rw [hg,hgg]at hqe
 have hl_q:=congrArg List.length hqe
 rw [Ya]at hl_q
 exact Zg<|mv J J<|tt (Zh (n:=6) (Zq4 _ _ (by rw [hqe];exact k11) (by rw [hl_q];exact Nat.ne_of_gt k12l)) J J J K1 cF113 (Zd 5 J J J Ze) J hw) J fun g_5 hg_5=>as_ J J<|Zf<|Za<|Zu<|Zv (.inl J) hsc _ _ (fun a w hs=>Qj hs Tryz.results54 J) J (by rw [hg_5,hqe];exact k13) J (Xb 6 J J J Zj)
end Go.Sky
namespace Go.Sky
open Go.Proofs
end Go.Sky
namespace Go.Sky
open Go.Proofs
set_option maxRecDepth 20000
set_option maxHeartbeats 4000000
set_option linter.unusedSimpArgs false
end Go.Sky
namespace Go.Sky
open Go.Proofs
set_option maxRecDepth 20000
set_option maxHeartbeats 4000000
set_option linter.unusedSimpArgs false
end Go.Sky
namespace Go.Sky
open Go.Proofs
set_option maxRecDepth 20000
set_option maxHeartbeats 4000000
set_option linter.unusedSimpArgs false
theorem r4_fits(v:Value)(m:Nat)(zs:List (Int×SL))(hs:Sz 1000000 (Zw zs))(hl:zs.length≤30)(hm:m≤1000):Cal Tryz.prog 15 #[v,.int .i64 (m:Int)] [pp v zs] false (G:=Unit) (fun _=>True) (fun _=> .bool (decide (Bb (Zw zs) m))) (fun _=>[]):=by
 refine Yd Tryz.func15 J Tryz.ntmps15 J K1 ?_
 intro w0 sc hw hsc
 simp only [Zp,Zn]
 have hli:=Ya zs
 have hmz:=Pz hs
 have q1:(zs.length+2)*(zs.length+2)≤32*32:=Nat.mul_le_mul (by omega) (by omega)
 have q2:(zs.length+2)*(zs.length+2)*(msz (Zw zs)+m+2*(zs.length-1)+32)≤32*32*1002100:=Nat.mul_le_mul q1 (by omega)
 have q3:((zs.length:Int)-1+3)*((zs.length:Int)-1+3)=(((zs.length+2)*(zs.length+2):Nat):Int):=by rw [show(zs.length:Int)-1+3=((zs.length+2:Nat):Int) by omega];push_cast;rfl
 have q4:zs.length≠0→((zs.length:Int)-1+3)*((zs.length:Int)-1+3)*((msz (Zw zs):Int)+(m:Int)+2*((zs.length:Int)-1)+32)=(((zs.length+2)*(zs.length+2)*(msz (Zw zs)+m+2*(zs.length-1)+32):Nat):Int):=fun h=>by rw [q3,show(msz (Zw zs):Int)+(m:Int)+2*((zs.length:Int)-1)+32=((msz (Zw zs)+m+2*(zs.length-1)+32:Nat):Int) by omega];push_cast;rfl
 refine Zb<|Zg<|as_ J J<|Zf<|Za<|Zb<|Zg<|mv J J<|dt (Zy J J (i:=1) J Zz Mj) J<|dt (Qg J J J ⟨by omega,by omega⟩) J<|as_ J J<|Zf<|Za<|Zb<|Zg<|mv J J<|dt (Zy J J (i:=1) J Zz Mj) J<|dt (Pi J J J) J<|mv J J<|Qx (d:=12) J (fun s23=>?_) (fun s23=>?_)
 ·exact gsk J J J J J<|gsk J J J J J<|gsk J J J J J<|gsk J J J J J<|gsk J J J J J<|gsk J J J J J<|gsk J J J J J<|gsk J J J J J<|gsk J J J J J<|gsk J J J J J<|gsk J J J J J<|gsk J J J J J<|gsk J J J J J<|gsk J J J J J<|gsk J J J J J<|dt (Xh J J J) J<|as_ J J<|Zf<|Za<|Zu<|Zv (.inl J) hsc () _ (fun a w hs=>Qj hs Tryz.results15 J) (by first | exact Zvd (xs:=Zw zs) (by omega) | (rw [q4 (by omega),←hli];exact Zve (xs:=Zw zs) (by omega) rfl)) trivial J Zj
 ·exact gdt (Ym J J) J J J J<|gdt (Yt J J J ⟨by omega,by omega⟩) J J J J<|gdt (Ym J J) J J J J<|gdt (Yt J J J ⟨by omega,by omega⟩) J J J J<|gdt (Gz J J J (by rw [q3];exact⟨by omega,by omega⟩)) J J J J<|gdt (Ym J J) J J J J<|gtt (Zh (n:=1) (rp_bits _ _ (hs.mono (by omega)) (by omega)) J J J K1 cF52 (Zd 1 J J J Ze) J hw) J J J J fun _ _=>gdt (Ym J J) J J J J<|gdt (Yt J J J ⟨by omega,by omega⟩) J J J J<|gdt (Ym J J) J J J J<|gdt (Gz J J J ⟨by omega,by omega⟩) J J J J<|gdt (Yt J J J ⟨by omega,by omega⟩) J J J J<|gdt (Yt J J J ⟨by omega,by omega⟩) J J J J<|gdt (Gz J J J (by rw [q4 (by omega)];exact⟨by omega,by omega⟩)) J J J J<|gdt (De J J J) J J J J<|dt (Yh J J J) J<|as_ J J<|Zf<|Za<|Zu<|Zv (.inl J) hsc () _ (fun a w hs=>Qj hs Tryz.results15 J) (by first | exact Zvd (xs:=Zw zs) (by omega) | (rw [q4 (by omega),←hli];exact Zve (xs:=Zw zs) (by omega) rfl)) trivial J Zj
set_option maxHeartbeats 4000000 in
theorem Zku(xs:List Int)(hd:Cvd xs)(hx0:xs≠[])(f:Nat)(ih:∀(v:Value) (zs:List (Int×SL)) (hI:RI xs (Zw zs)) (hf:zs.length≤f),Cal Tryz.prog 19 #[v] [pp v zs] true (G:=Value×List (Int×SL)) (fun r=>Zw r.2=Zix 13 f (Zw zs)) (fun r=>r.1) (fun r=>[pp r.1 r.2]))(v:Value)(zs:List (Int×SL))(hI:RI xs (Zw zs))(hf:zs.length≤f+1):Cal Tryz.prog 19 #[v] [pp v zs] true (G:=Value×List (Int×SL)) (fun r=>Zw r.2=Zix 13 (f+1) (Zw zs)) (fun r=>r.1) (fun r=>[pp r.1 r.2]):=by
 refine Yd Tryz.func19 J Tryz.ntmps19 J K1 ?_
 intro w0 sc hw hsc
 simp only [Zp,Zn]
 have hli:=Ya zs
 have hIl:=hI.l
 have hz0:zs.length≠0:=fun e=>hI.ne (List.eq_nil_of_length_eq_zero (by omega))
 refine Zb<|Zg<|as_ J J<|Zf<|Za<|Zb<|Zg<|mv J J<|tt (Zh (n:=2) (r3_sqf _ _ hI.v hz0 (hI.s.mono (by omega)) (by omega)) J J J K1 cF54 (Zd 1 J J J Ze) J hw) J (fun g hg=>?_)
 have H_on:Zw g.2=(sqf 13 (Zw zs)):=hg
 have hl_on:=congrArg List.length H_on
 rw [Ya]at hl_on
 refine as_ J J<|Zf<|Za<|Zb<|Zb<|Zg<|mv J J<|dt (Zy J J (i:=2) J Zz Mj) J<|dt (Pi J J J) J<|Zf<|Za<|Zq J (fun h29=>?_) (fun h29=>?_)
 ·have h1:(sqf 13 (Zw zs)).length=1:=by omega
  exact Zb<|Zg<|mv J J<|as_ J J<|Zf<|Za<|Zu<|Xe<|Zv (.inl J) hsc (_,g.2) _ (fun a w hs=>Qj hs Tryz.results19 J) J (by rw [H_on,rodd_1 h1]) J (Xb 2 J J J Zj)
 ·have h1:(sqf 13 (Zw zs)).length≠1:=by omega
  obtain⟨c1,c2,c3,c4,c5,c6,c7,c8,c9,c10,c11,c12,c13,c14,c15,c16,c17,c18,c19,c20,c21,c22,c23,c24,c25⟩:=RI.step hd hx0 hI
  have m6:=Pz c6
  have m12:=Pz c12
  have hl_lfp:=Yi (Zw zs)
  refine Zk<|Za<|Zb<|Zg<|mv J J<|tt (Zh (n:=3) (Iz _ _ (hI.s.mono (by omega)) (by omega) (fun _=>c5)) J J J K1 cF57 (Zd 1 J J J Ze) J hw) J (fun g_2 hg_2=>?_)
  have H_pp:Zw g_2.2=Yx (Zw zs):=hg_2
  have hl_pp:=congrArg List.length H_pp
  rw [Ya]at hl_pp
  refine tt (Zh (n:=4) (Zi2 1 ⟨by decide,by decide⟩) J J J K1 cF34 Ze J hw) J fun v _=>tt (Zh (n:=5) (Zg4 _ _ _ _ (by rw [H_pp];exact(Iv hI.s).mono (by omega)) (by omega) (by decide +kernel)) J J J K2 cF56 (Zd 3 J J J (Zd 4 J J J Ze)) J hw) J (fun g_3 hg_3=>?_)
  have H_sc:Zw g_3.2=Xk (Yx (Zw zs)) 1:=by rw [hg_3,H_pp]
  have hl_sc:=congrArg List.length H_sc
  rw [Ya]at hl_sc
  refine mv J J<|tt (Zh (n:=6) (Ak _ _ _ _ (by omega) (by omega) (by omega) (by rw [H_sc];exact c7) (by rw [H_on];exact c1) (fun _=>by rw [H_sc,H_on];have h7:=Nat.mul_le_mul (show g_3.2.length-g.2.length+1≤8 by omega) (show msz (sqf 13 (Zw zs))+1≤331 by omega);omega)) J J J K2 cF55 (Zd 5 J J J (Zd 2 J J J Ze)) J hw) J (fun g_4 hg_4=>?_)
  have H_lf:Zw g_4.2=Ml 13 (Zw zs):=by have h9:=hg_4 (by rw [H_sc,H_on];exact c9);rw [H_sc,H_on]at h9;exact h9
  have hl_lf:=congrArg List.length H_lf
  rw [Ya]at hl_lf
  refine mv J J<|dt (Yg J J J) J<|dt (Yg J J J) J<|as_ J J<|as_ J J<|Zf<|Za<|Zb<|Zg<|mv J J<|tt (Zh (n:=7) (r3_sqf _ _ (by rw [H_lf];exact c10) (fun e=>c11 (List.eq_nil_of_length_eq_zero (by rw [←H_lf,Ya];exact e))) (by rw [H_lf];exact c12.mono (by omega)) (by omega)) J J J K1 cF54 (Zd 6 J J J Ze) J hw) J (fun g_5 hg_5=>?_)
  have H_tw:Zw g_5.2=(sqf 13 (Ml 13 (Zw zs))):=by rw [hg_5,H_lf]
  have hl_tw:=congrArg List.length H_tw
  rw [Ya]at hl_tw
  refine as_ J J<|Zf<|Za<|Zb<|Zg<|mv J J<|mv J J<|tt (Zh (n:=8) (Ak _ _ _ _ (by omega) (by omega) (by omega) (by rw [H_on];exact c1) (by rw [H_tw];exact c16) (fun _=>by rw [H_on,H_tw];have h7:=Nat.mul_le_mul (show g.2.length-g_5.2.length+1≤8 by omega) (show msz (sqf 13 (Ml 13 (Zw zs)))+1≤331 by omega);omega)) J J J K2 cF55 (Zd 2 J J J (Zd 7 J J J Ze)) J hw) J (fun g_6 hg_6=>?_)
  have H_ol:Zw g_6.2=Ki (sqf 13 (Zw zs)) (sqf 13 (Ml 13 (Zw zs))):=by have h9:=hg_6 (by rw [H_on,H_tw];exact c20);rw [H_on,H_tw]at h9;exact h9
  have hl_ol:=congrArg List.length H_ol
  rw [Ya]at hl_ol
  refine mv J J<|dt (Yg J J J) J<|dt (Yg J J J) J<|as_ J J<|as_ J J<|Zf<|Za<|Zb<|Zg<|mv J J<|tt (Zh (n:=9) (Iz _ _ (by rw [H_lf];exact c12.mono (by omega)) (by omega) (fun _=>by rw [H_lf];exact c14)) J J J K1 cF57 (Zd 6 J J J Ze) J hw) J (fun g_7 hg_7=>?_)
  have H_p2:Zw g_7.2=(Ml 13 (Zw zs)):=by rw [hg_7,H_lf,c15]
  have hl_p2:=congrArg List.length H_p2
  rw [Ya]at hl_p2
  refine mv J J<|tt (Zh (n:=10) (Ak _ _ _ _ (by omega) (by omega) (by omega) (by rw [H_p2];exact c10.tr) (by rw [H_tw];exact c16) (fun _=>by rw [H_p2,H_tw];have h7:=Nat.mul_le_mul (show g_7.2.length-g_5.2.length+1≤8 by omega) (show msz (sqf 13 (Ml 13 (Zw zs)))+1≤331 by omega);omega)) J J J K2 cF55 (Zd 9 J J J (Zd 7 J J J Ze)) J hw) J (fun g_8 hg_8=>?_)
  have H_rs:Zw g_8.2=Bk 13 (Zw zs):=by have h9:=hg_8 (by rw [H_p2,H_tw];exact c23);rw [H_p2,H_tw]at h9;exact h9.trans (by unfold Bk;rw [c15])
  have hl_rs:=congrArg List.length H_rs
  rw [Ya]at hl_rs
  refine mv J J<|dt (Yg J J J) J<|dt (Yg J J J) J<|as_ J J<|as_ J J<|Zf<|Za<|Zb<|Zg<|mv J J<|mv J J<|tt (Zh (n:=11) (ih _ _ (by rw [H_rs];exact c24) (by have:=c25 h1;omega)) J J J K1 cF19 (Zd 10 J J J Ze) J hw) J (fun g_9 hg_9=>?_)
  have hl_od:=congrArg List.length hg_9
  rw [Ya,H_rs]at hl_od
  obtain⟨q1,q2,q3⟩:=RI.size hd hx0 c24 (f:=f) (by have:=c25 h1;omega)
  exact tt (Zh (n:=12) (rp_mul _ _ _ _ (by rw [H_ol];exact c21.mono (by omega)) (by omega) (by rw [hg_9,H_rs];exact q2.mono (by omega)) (by omega)) J J J K2 cF42 (Zd 8 J J J (Zd 11 J J J Ze)) J hw) J fun g_10 hg_10=>as_ J J<|Zf<|Za<|Zu<|Zv (.inl J) hsc _ _ (fun a w hs=>Qj hs Tryz.results19 J) J (by rw [hg_10,H_ol,hg_9,H_rs];exact(rodd_s h1).symm) J (Xb 12 J J J Zj)
end Go.Sky
namespace Go.Sky
open Go.Proofs
theorem Zfl(xs:List Int)(hd:Cvd xs)(hx0:xs≠[]):∀(f:Nat) (v:Value) (zs:List (Int×SL)) (hI:RI xs (Zw zs)) (hf:zs.length≤f),Cal Tryz.prog 19 #[v] [pp v zs] true (G:=Value×List (Int×SL)) (fun r=>Zw r.2=Zix 13 f (Zw zs)) (fun r=>r.1) (fun r=>[pp r.1 r.2])
 | 0,v,zs,hI,hf=>absurd (List.eq_nil_of_length_eq_zero (by rw [Ya];omega)) hI.ne
 | f+1,v,zs,hI,hf=>Zku xs hd hx0 f (Zfl xs hd hx0 f) v zs hI hf
theorem r4_odd(v:Value)(zs:List (Int×SL))(hd:Cvd (Zw zs))(h0:zs.length≠0):Cal Tryz.prog 19 #[v] [pp v zs] true (G:=Value×List (Int×SL)) (fun r=>Zw r.2=Gx (Zw zs)) (fun r=>r.1) (fun r=>[pp r.1 r.2]):=by
 have hne:Zw zs≠[]:=fun e=>h0 (by rw [←Ya,e];rfl)
 have h:=Zfl (Zw zs) hd hne zs.length v zs (RI.start hd hne) (Nat.le_refl _)
 rw [←Ya zs,Zqx hd hne]at h
 exact h
end Go.Sky
namespace Go.Sky
theorem sm_dec{r:RWL}(h:smR r=true)(hok:okP r=true):Cvd (dec r)∧Sz 32 (dec r)∧(dec r).length=r.length:=by
 obtain⟨h1,h2⟩:=smR_le h
 obtain⟨h3,h4⟩:=Zeh hok
 have h5:=congrArg List.length h4
 rw [List.length_map]at h5
 have hs:Sz 32 (dec r):=Sz.of_mem fun c hc=>by
  have h6:=h2 (wr c) (by rw [h4];exact List.mem_map_of_mem hc)
  exact Zt6 4 h6
 exact⟨⟨h3,hs.mono (by omega),by omega⟩,hs,h5.symm⟩
noncomputable def odR (r:RWL):List Int×Int:=if okP r=true then(if(dec r).length=0 then([],3)else(Gx (dec r),0))else([],2)
theorem Zro{r:RWL}(h:okP r=false):odR r=([],2):=by unfold odR;rw [if_neg (by rw [h];decide)]
theorem Zk4{r:RWL}(h:okP r=true)(h0:(dec r).length=0):odR r=([],3):=by unfold odR;rw [if_pos h,if_pos h0]
theorem Zrn{r:RWL}(h:okP r=true)(h0:(dec r).length≠0):odR r=(Gx (dec r),0):=by unfold odR;rw [if_pos h,if_neg h0]
theorem slp_nil{α:Type}{k:Nat}{enc:α→Value}(w:World):(slp k enc (.slice none 0 0) ([]:List α)).holds w:=⟨⟨_,_,rfl,Nat.le_refl _,Nat.zero_le _,.inl rfl⟩,fun b h=>by cases h⟩
theorem Cal.nilres{P:Program}{f:FuncId}{args:Array Value}{pre:List Pc}{e:Int}(h:Cal P f args pre false (G:=Unit) (fun _=>True) (fun _=> .tuple #[.slice none 0 0,.int .i64 e]) (fun _=>[])) :
  Cal P f args pre true (G:=Value) (fun _=>True) (fun g=> .tuple #[g,.int .i64 e]) (fun g=>[slp 2 wv g []]):=fun w hp=>
 (h w hp).mono fun e' w' ⟨_,he,_,hb,_⟩=>⟨.slice none 0 0,he,trivial,hb,fun p hp=>by
  rw [List.mem_singleton.1 hp];exact⟨slp_nil w',rfl,fun b hb=>by cases hb⟩⟩
end Go.Sky
namespace Go.Sky
open Go.Proofs
theorem Bi(v:Value)(r:List (Bool×ByteArray)):Cal Tryz.prog 14 #[v] [slp 2 Zf0 v r] false (G:=Unit) (fun _=>True) (fun _=> .bool (okP r && decide (Bb (dec r) 0))) (fun _=>[]):=by
 by_cases h:okP r=true
 ·rw [h,Bool.true_and]
  exact Cal.imp (Zgy v (dec r) (Zeh h).1) (Zgq h v) (fun _ h=>h)
 ·have h:okP r=false:=by simpa using h
  rw [h,Bool.false_and];exact Ziu v r h
theorem Zdz(v:Value)(r:List (Bool×ByteArray))(hok:okP r=true):Cal Tryz.prog 16 #[v] [slp 2 Zf0 v r] true (G:=Value×List (Int×SL)) (fun q=>Zw q.2=dec r) (fun q=>q.1) (fun q=>[pp q.1 q.2]):=
 Cal.imp (rp_from v (dec r) ((Zeh hok).1.sz.mono (by omega)) (by have:=(Zeh hok).1.len;omega)) (Zgq hok v) (fun _ h=>h)
theorem Zot(v:Value)(r:List (Bool×ByteArray))(hs:smR r=true):Cal Tryz.prog 12 #[v] [slp 2 Zf0 v r] true (G:=Value) (fun _=>True) (fun g=> .tuple #[g,.int .i64 (odR r).2]) (fun g=>[slp 2 wv g (odR r).1]):=by
 by_cases h:okP r=true
 ·obtain⟨hd,-,hl⟩:=sm_dec hs h
  by_cases h0:(dec r).length=0
  ·rw [Zk4 h h0]
   exact Cal.imp (Zkj v (dec r) hd.v h0).nilres (Zgq h v) (fun _ h=>h)
  ·rw [Zrn h h0]
   exact Cal.imp (Zgv v (dec r) hd (fun e=>h0 (by rw [e];rfl))) (Zgq h v) (fun _ h=>h)
 ·have h:okP r=false:=by simpa using h
  rw [Zro h]
  exact(Zkk v r h).nilres
end Go.Sky
namespace Go.Sky
open Go.Proofs
set_option maxRecDepth 20000
set_option maxHeartbeats 4000000
set_option linter.unusedSimpArgs false
set_option maxHeartbeats 4000000 in
theorem Zlj(v:Value)(r:List (Bool×ByteArray))(b:Int)(hs:smR r=false):Cal Tryz.prog 3 #[v,.int .i64 b] [slp 2 Zf0 v r] false (G:=Unit) (fun _=>True) (fun _=> .bool true) (fun _=>[]):=by
 refine Yd Tryz.func3 J Tryz.ntmps3 J K1 ?_
 intro w0 sc hw hsc
 simp only [Zp,Zn]
 exact Ys (Nj 999 2 31 wv)<|Ys (Po 999 J J pV)<|Zb<|Zg<|as_ J J<|Zf<|Za<|Zb<|Zb<|Zg<|mv J J<|tt (Zh (n:=1) (Zfw _ _) J J J K1 cF10 (Zd 1 J J J Ze) J hw) J fun _ _=>dt (Ye (r':= .bool true) (Xo J J) (congrArg Value.bool (by rw [hs];rfl))) J<|Zf<|Za<|Nf J<|Zb<|Zg<|tt (Zh (n:=1) (Cr) J J J trivial cF11 Ze J hw) J fun _ _=>as_ J J<|Zf<|Za<|Zu<|Xe<|Zv (.inl J) hsc () _ (fun a w hs=>Qj hs Tryz.results3 J) J trivial J Zj
set_option maxHeartbeats 4000000 in
theorem Zli(v:Value)(r:List (Bool×ByteArray))(b:Int)(hs:smR r=true):Cal Tryz.prog 3 #[v,.int .i64 b] [slp 2 Zf0 v r] false (G:=Unit) (fun _=>True) (fun _=> .bool true) (fun _=>[]):=by
 refine Yd Tryz.func3 J Tryz.ntmps3 J K1 ?_
 intro w0 sc hw hsc
 simp only [Zp,Zn]
 obtain⟨hr7,hr4⟩:=smR_le hs
 refine Ys (Nj 999 2 31 wv)<|Ys (Po 999 J J pV)<|Zb<|Zg<|as_ J J<|Zf<|Za<|Zb<|Zb<|Zg<|mv J J<|tt (Zh (n:=1) (Zfw _ _) J J J K1 cF10 (Zd 1 J J J Ze) J hw) J fun _ _=>dt (Ye (r':= .bool false) (Xo J J) (congrArg Value.bool (by rw [hs];rfl))) J<|Zf<|Za<|Yf J<|Zk<|Za<|Zb<|Zg<|mv J J<|tt (Zh (n:=2) (Zot _ _ hs) J J J K1 cF12 (Zd 1 J J J Ze) J hw) J fun _ _=>mv J J<|dt (Yg J J J) J<|dt (Yg J J J) J<|as_ J J<|as_ J J<|Zf<|Za<|Zb<|Zg<|mv J J<|Pq (Nj 3 2 31 Zf0)<|tt (Kt (i:=3) (j:=1) (by_:=24) J J J J J J (by decide) J Zi Qn Tryz.ti31 J pW J J J (by simp;omega) (by decide) J hw) J fun v _=>as_ J J<|Zf<|Za<|Dd [(0,_),(5,_),(6,_)] [(0,_),(1,_),(999,_),(2,_)] (fun(_j:Unit)=>[]) (fun(_j:Unit)=>[]) (fun(_j:Unit)=>True) K3 K4 ?_ ?_
 ·refine Zb<|Zg<|mv J J<|dt (Lq J J J) J<|mv J J<|Qx (d:=22) J (fun s92=>?_) (fun s92=>?_)
  ·refine gdt (Ym J J) J J J J<|gdt (De J J J) J J J J<|dt (Xh J J J) J<|Zf<|Za<|Zq J (fun h92=>?_) (fun h92=>?_)
   ·obtain⟨n,rfl⟩:∃n:Nat,b=(n:Int)+1:=⟨(b-1).toNat,by omega⟩
    have h8:1*2^(n%8)<256:=by rw [Nat.one_mul];exact Nat.lt_of_lt_of_le (Nat.pow_lt_pow_right (by decide) (Nat.mod_lt n (by decide))) (by decide)
    refine Zb<|Zg<|mv J J<|dt (Yt J J J ⟨by omega,by omega⟩) J<|dt (Zhz J J J (by omega) (by omega) (by omega)) J<|tt (Hw (i:=4) (n:=(n/8+1)) (by_:=1) (enc:=Zpl) 0 J J J J J (by omega) Zj8 Tryz.ti5 J pB.cells pB.pos J J (by omega) (by decide) J hw) J fun v_2 _=>as_ J J<|Zf<|Za<|Zb<|Zg<|mv J J<|mv J J<|dt (Qg J J J ⟨by omega,by omega⟩) J<|dt (Zjt J J J (by omega) (by omega)) J<|dt (d_shl8 (m:=1) (n:=n%8) J J J (by omega) (by omega) h8) J<|dt (Yz (ii:=4) (i:=0) J J J J (Yn pB) Zj8 zT5 J (by simp)) J<|tt (Kr (i:=4) (enc:=Zpl) (1*2^(n%8)) J J J J J J (by decide) pB (by simp) J hw) J fun _ _=>Zf<|Za<|Zb<|Zg<|mv J J<|mv J J<|dt (d_b2s J J (i:=4) J (Yn pB) Zj8 uT9 uT5) J<|dt (Oh (ivs:=[(1,_)]) J K2 (fun a w hs=>b31_1 ((Zc J) a w hs))) J<|tt (Pt (i:=5) (ivs:=[(0,_)]) (enc:=Zf0) [(false,⟨(((List.replicate (n/8+1) 0).set 0 (1*2^(n%8))).map (fun x:Nat=>UInt8.ofNat x)).toArray⟩)] J J J K2 Qn Tryz.ti31 J J J J J J pW.cells J J hw) J fun v_3 _=>tt (Kt (i:=3) (j:=5) (by_:=24) J J J J J J (by decide) J (Yn pW) Qn Tryz.ti31 J pW J J J (by simp;omega) (by decide) J hw) J fun v_4 _=>as_ J J<|Zf<|Za<|Zb ?_
    obtain⟨r1,hr1⟩:∃r1:RWL,[] ++ r ++ [(false,⟨(((List.replicate (n/8+1) 0).set 0 (1*2^(n%8))).map (fun x:Nat=>UInt8.ofNat x)).toArray⟩)]=r1:=⟨_,rfl⟩
    refine Ys (Zdt 3 hr1 J J) ?_
    have hr9:r1.length≤9:=by rw [←hr1];simp;omega
    clear hr1
    refine Ys (Po 3 J J pW)<|Zg<|mv J J<|tt (Zh (n:=5) (Zcm _ _) J J J K1 cF13 (Zd 3 J J J Ze) J hw) J fun _ _=>mv J J<|Es (d:=44) J (fun s96=>?_) (fun s96=>?_)
    ·have hok1:okP r1=true:=s96
     exact gdt (Ym J J) J J J J<|gtt (Zh (n:=5) (Bi _ _) J J J K1 cF14 (Zd 3 J J J Ze) J hw) J J J J fun _ _=>gdt (Ym J J) J J J J<|gtt (Zh (n:=6) (Zdz _ _ hok1) J J J K1 cF16 (Zd 3 J J J Ze) J hw) J J J J fun g hg=>gtt (Zh (n:=6) (r4_fits _ 0 _ (by rw [hg];exact(Zeh hok1).1.sz.mono (by omega)) (by have h7:=congrArg List.length hg;rw [Ya]at h7;have:=(Zeh hok1).1.len;omega) (by decide)) J J J K2 cF15 (Zd 6 J J J Ze) J hw) J J J J fun _ _=>gdt (Ye (r':= .bool false) (Zlu J J J uT4) (congrArg Value.bool (by rw [hg,hok1];simp))) J J J J<|dt (Xh J J J) J<|mv J J<|gdt (Ym J J) J J J J<|gtt (Zh (n:=6) (Zcm _ _) J J J K1 cF13 (Zd 3 J J J Ze) J hw) J J J J fun _ _=>gdt (Ye (r':= .bool false) (Xo J J) (congrArg Value.bool (by rw [hok1];rfl))) J J J J<|gdt (Ym J J) J J J J<|gsk J J J J J<|gsk J J J J J<|gdt (Yh J J J) J J J J<|dt (Yh J J J) J<|Zf<|Za<|Yf J<|Zk<|Qv () trivial K3 K4
    ·have hno1:okP r1=false:=s96
     refine gsk J J J J J<|gsk J J J J J<|gsk J J J J J<|gsk J J J J J<|gsk J J J J J<|gsk J J J J J<|dt (Yh J J J) J<|mv J J<|gdt (Ym J J) J J J J<|gtt (Zh (n:=6) (Zcm _ _) J J J K1 cF13 (Zd 3 J J J Ze) J hw) J J J J fun _ _=>gdt (Ye (r':= .bool true) (Xo J J) (congrArg Value.bool (by rw [hno1];rfl))) J J J J<|gdt (Ym J J) J J J J<|gdt (Ym J J) J J J J<|gtt (Zh (n:=6) (Bi _ _) J J J K1 cF14 (Zd 3 J J J Ze) J hw) J J J J fun _ _=>gdt (Xh J J J) J J J J<|dt (Yh J J J) J<|Zf<|Za<|Mq J (fun h96=>?_) (fun h96=>?_)
     ·exfalso;rw [hno1,Bool.false_and]at h96;exact absurd h96 (by decide)
     ·exact Zk<|Qv () trivial K3 K4
   ·exact Zk<|Qv () trivial K3 K4
  ·exact gsk J J J J J<|gsk J J J J J<|dt (Yh J J J) J<|Zf<|Za<|Yf J<|Zk<|Qv () trivial K3 K4
 ·rintro _j -
  simp only [List.cons_append,List.nil_append]
  refine Zb<|Zb<|Zg<|mv J J<|tt (Zh (n:=6) (Zcm _ _) J J J K1 cF13 (Zd 1 J J J Ze) J hw) J fun _ _=>dt (Xo J J) J<|Zf<|Za<|Mq J (fun h100=>?_) (fun h100=>?_)
  ·have hno:okP r=false:=by simpa using h100
   exact Zb<|Zg<|mv J J<|dt (Zy J J (i:=2) J Zi Qn) J<|dt (Ye (r':= .bool true) (Pi J J J) (congrArg Value.bool (by rw [Zro hno];rfl))) J<|mv J J<|gdt (Ym J J) J J J J<|gdt (Ye (r':= .bool true) (Pi J J J) (congrArg Value.bool (by rw [Zro hno];rfl))) J J J J<|dt (Xh J J J) J<|mv J J<|gdt (Ym J J) J J J J<|gtt (Zh (n:=6) (Bi _ _) J J J K1 cF14 (Zd 1 J J J Ze) J hw) J J J J fun _ _=>gdt (Ye (r':= .bool true) (Xo J J) (congrArg Value.bool (by rw [hno];rfl))) J J J J<|dt (Xh J J J) J<|mv J J<|gtt (Zh (n:=6) (Cr) J J J trivial cF11 Ze J hw) J J J J fun _ _=>dt (Xh J J J) J<|as_ J J<|Zf<|Za<|Zu<|Xe<|Zv (.inl J) hsc () _ (fun a w hs=>Qj hs Tryz.results3 J) J trivial J Zj
  ·have hok:okP r=true:=by simpa using h100
   obtain⟨hd,hs32,hlr⟩:=sm_dec hs hok
   refine Zk<|Za<|Zb<|Zb<|Zg<|mv J J<|dt (Zy J J (i:=1) J Zi Qn) J<|dt (Pi J J J) J<|Zf<|Za<|Zq J (fun h103=>?_) (fun h103=>?_)
   ·have h0:(dec r).length=0:=by omega
    exact Zb<|Zg<|mv J J<|dt (Zy J J (i:=2) J Zi Qn) J<|dt (Ye (r':= .bool true) (Pi J J J) (congrArg Value.bool (by rw [Zk4 hok h0];rfl))) J<|mv J J<|gdt (Ym J J) J J J J<|gdt (Ye (r':= .bool true) (Pi J J J) (congrArg Value.bool (by rw [Zk4 hok h0];rfl))) J J J J<|dt (Xh J J J) J<|mv J J<|gtt (Zh (n:=6) (Cr) J J J trivial cF11 Ze J hw) J J J J fun _ _=>dt (Xh J J J) J<|as_ J J<|Zf<|Za<|Zu<|Xe<|Zv (.inl J) hsc () _ (fun a w hs=>Qj hs Tryz.results3 J) J trivial J Zj
   ·have h0:(dec r).length≠0:=by omega
    obtain⟨o1,o2,o3,o4,-⟩:=Zbg hd (fun e=>h0 (by rw [e];rfl))
    have hd7:=hd.l
    refine Zk<|Za<|Zb<|Zg<|mv J J<|mv J J<|tt (Zh (n:=7) (Zdz _ _ hok) J J J K1 cF16 (Zd 1 J J J Ze) J hw) J (fun g_2 hg_2=>?_)
    have hG:Zw g_2.2=dec r:=hg_2
    refine tt (Zh (n:=8) (r4_odd _ _ (by rw [hG];exact hd) (by have h7:=congrArg List.length hG;rw [Ya]at h7;omega)) J J J K1 cF19 (Zd 7 J J J Ze) J hw) J (fun g_3 hg_3=>?_)
    have hO:Zw g_3.2=Gx (dec r):=by rw [hg_3,hG]
    refine tt (Zh (n:=9) (rp_to _ _ (by rw [hg_3,hG];exact o3.mono (by omega)) (by have h7:=congrArg List.length hg_3;rw [Ya,hG]at h7;omega)) J J J K1 cF18 (Zd 8 J J J Ze) J hw) J fun v_5 _=>tt (Zh (n:=9) (Am _ _ _ _) J J J K2 cF17 (Zd 2 J J J (Zd 9 J J J Ze)) J hw) J fun _ _=>mv J J<|Qx (d:=98) J (fun s106=>?_) (fun s106=>?_)
    ·exact gdt (Ym J J) J J J J<|gdt (Ye (r':= .bool true) (Pi J J J) (congrArg Value.bool (by rw [Zrn hok h0];rfl))) J J J J<|dt (Xh J J J) J<|mv J J<|gtt (Zh (n:=9) (Cr) J J J trivial cF11 Ze J hw) J J J J fun _ _=>dt (Xh J J J) J<|as_ J J<|Zf<|Za<|Zu<|Zv (.inl J) hsc () _ (fun a w hs=>Qj hs Tryz.results3 J) J trivial J Zj
    ·exfalso;exact s106 (by rw [Zrn hok h0,hO])
end Go.Sky
namespace Go.Sky
open Go.Proofs
theorem Zwj(v:Value)(r:List (Bool×ByteArray))(b:Int):Cal Tryz.prog 3 #[v,.int .i64 b] [slp 2 Zf0 v r] false (G:=Unit) (fun _=>True) (fun _=> .bool true) (fun _=>[]):=by
 cases h:smR r with
 | false=>exact Zlj v r b h
 | true=>exact Zli v r b h
end Go.Sky
namespace Go.Proofs.YtcmiiammekgooaaGreat
open Go.ChangeShapes Go.WideShapes Go.ChangeAt Go.RowKit Go.Joins Go.Deep Go.Sky
theorem own:ownKnob Tryz.prog.godebug=none:=by kernel_rfl
theorem Zse:laidOutB Tryz.prog=true:=by kernel_rfl
set_option maxRecDepth 100000 in
theorem lifted(os:Os)(started:os.Started)(H:Type)(enc:TypeId×Value→H) :
  ReturnsInHanded {} Tryz.checked os 3 .any (Rows.signOddSpec.pre6 enc Tryz.prog Tryz.f3 Rows.signOddRow.domain false) (Rows.signOddSpec.post enc Tryz.prog Tryz.f3 false true false false):=by
 refine returnsInHanded_of_change (C:=Tryz.checked) own started (by kernel_rfl) Tryz.func3
  (ChangeSpec.witness6 (enc:=enc) (C:=Tryz.checked) false ⟨#[],#[.slice none 0 0,.int .i64 0],[]⟩ 8 (by kernel_rfl) (by kernel_rfl) (by kernel_rfl) (by kernel_rfl)) ?_
 intro W base args ds gs before hval0 hW hcnd _
 have hval:∀(j:Nat) t v,Tryz.f3.params[j]? = some t→args[j]? = some v→Value.okWide Tryz.prog W .any base t v:=hval0
 have hW':=hW
 obtain⟨p,q,hA0,hV,rfl,hfz,hnd⟩:=hW
 have hA:DataW.TrodAll enc Tryz.prog W 0 (fun _=>true) true Tryz.f3.params.toList args.toList ds p:=hA0
 rw [Tryz.params3]at hA hval
 obtain⟨v0,vs0,d0,ds0,p0,q0,hargs,rfl,rfl,h0,r0⟩:=trodAll_cons hA
 obtain⟨v1,vs1,d1,ds1,p1,q1,rfl,rfl,rfl,h1,r1⟩:=trodAll_cons r0
 obtain⟨rfl,rfl,rfl⟩:=trodAll_nil r1
 obtain rfl:args=#[v0,v1]:=by cases args;simp_all
 obtain⟨rfl,rfl⟩:=trodVars_none hV
 have lt0:∀x∈p0,x.block<W.heap.size:=by obtain⟨m,hm⟩:=h0;exact DataW.trod_lt m _ _ _ hm
 obtain⟨l0,hl0⟩:=Zo5 Tryz.underlying23 Tryz.underlying31 (by kernel_rfl) rfl rfl (by kernel_rfl) (by kernel_rfl) (by kernel_rfl) (by kernel_rfl) (hval 0 23 v0 rfl rfl) h0 lt0
 have lt1:∀x∈p1,x.block<W.heap.size:=by obtain⟨m,hm⟩:=h1;exact DataW.trod_lt m _ _ _ hm
 obtain⟨n1,rfl⟩:=okWide_int Tryz.underlying3 (hval 1 3 v1 rfl rfl)
 clear hA0 hval0
 refine(Zwj v0 l0 n1 W (fun p hp=>by cases hp with | head=>exact hl0 | tail _ hp=>cases hp)).mono fun e W' ⟨_,he,_,bel,_⟩=>?_
 subst he
 exact⟨_,rfl,_,_,_,[],_,[],hW',trodAll_mk1 (shut_bool Tryz.underlying4 _),(trodAll_cons_mk (Below.trod Zse (by kernel_rfl) (of_decide_eq_true (by kernel_rfl)) h0 bel lt0) (trodAll_cons_mk (Below.trod Zse (by kernel_rfl) (of_decide_eq_true (by kernel_rfl)) h1 bel lt1) trodAll_mk0)),rfl,bel.frame _,fun h=>by cases h⟩
theorem x_holds : Rows.SignOddSaid :=
 OpenClaim.holds_of_wide 3 Tryz.f3 rfl rfl rfl rfl rfl rfl rfl ⟨rfl,rfl,rfl,rfl,rfl⟩ rfl rfl rfl rfl rfl (by kernel_rfl) Tryz.func3 (by kernel_rfl)
  (of_decide_eq_true (by kernel_rfl)) (by unfold Func.isWrapper;first | (rw [if_pos (by decide +kernel)];kernel_rfl) | (rw [if_neg (by decide +kernel)];exact⟨rfl,rfl⟩))
  (fun os started H enc _=>lifted os started H enc)
#print axioms x_holds
end Go.Proofs.YtcmiiammekgooaaGreat

