/- rules, arithmetic and contracts: part 6
   Proved without conditions of its own: each theorem bears its own. -/
import Derived.Test.YtcmiiammekgooaaGreatSl03
import Derived.Test.YtcmiiammekgooaaGreatSl02
import Derived.Test.YtcmiiammekgooaaGreatSl01
import Derived.Test.YtcmiiammekgooaaGreatSl04
set_option linter.all false
namespace Go.Sky
open Go.Proofs.Tryz
open Go.Proofs
set_option maxRecDepth 20000
set_option maxHeartbeats 4000000
set_option linter.unusedSimpArgs false
theorem Ft(b:Bool)(s:ByteArray):Ml prog 103 #[.agg #[.bool b,.string s]] [] (.bool (okW b s)):=by
 refine Ya func103 J ntmps103 J trivial ?_
 intro w0 sc hw hsc
 simp only [Zp,Zn]
 refine Zc<|Zg<|tt (Xe (i:=1) J J J J J hw) fun b _=>as_ J<|Zf<|Za<|Zc<|Zc<|Zg<|dt (Xx J J Zcw J zT9 J J)<|dt (Ok (i:=1) J J J iA9 J)<|dt (Zkh J J J J)<|Zf<|Za<|Zq J (fun h264=>?_) (fun h264=>?_)
 ·exact Zc<|Zg<|dt (Xx J J Zcw J zT4 J J)<|dt (Ok (i:=1) J J J iA4 J)<|dt (Xp J J)<|as_ J<|Zf<|Za<|Zv<|Xc<|xU hsc results103 J J (by unfold okW;rw [if_pos h264])
 ·refine Zj<|Za<|Zc<|Zg<|dt (Xx J J Zcw J zT9 J J)<|dt (Ok (i:=1) J J J iA9 J)<|dt (Zp2 (i:=0) J J J uT9 J)<|dt (Qb J J J)<|mv J<|Qu (d:=13) J (fun s267=>?_) (fun s267=>?_)
  ·exact gdt (Xx J J Zcw J zT9 J J) J J<|gdt (Ok (i:=1) J J J iA9 J) J J<|gdt (Cp J J uT9) J J<|gdt (Co J J J) J J<|dt (Xh J J J)<|as_ J<|Zf<|Za<|Zv<|xU hsc results103 J J (by unfold okW;rw [if_neg h264];simp_all<;>omega)
  ·exact gsk J J J<|gsk J J J<|gsk J J J<|gsk J J J<|dt (Yh J J J)<|as_ J<|Zf<|Za<|Zv<|xU hsc results103 J J (by unfold okW;rw [if_neg h264];simp_all<;>omega)
theorem Ly(x:Int)(hx:bl x.natAbs≤65536):Cal prog 103 #[wv x] [] false (G:=Unit) (fun _=>True) (fun _=> .bool true) (fun _=>[]):=Bz hx▸Ft _ _
theorem Ziy(b:Bool)(s:ByteArray)(c:Bool)(t:ByteArray):Ml prog 129 #[.agg #[.bool b,.string s],.agg #[.bool c,.string t]] [] (.bool (okW b s && okW c t)):=by
 refine Ya func129 J ntmps129 J trivial ?_
 intro w0 sc hw hsc
 simp only [Zp,Zn]
 refine Zc<|Zg<|tt (Xe (i:=1) J J J J J hw) fun b _=>tt (Xe (i:=2) J J J J J hw) fun b_2 _=>as_ J<|Zf<|Za<|Zc<|Zg<|dt (Zz (i:=1) J J J Qj Yj J J)<|tt (Zh (n:=2) (Ft _ _) J J J K1 Zft Ze J hw) fun _ _=>mv J<|Za5 (d:=7) J (fun s271=>?_) (fun s271=>?_)
 ·exact gdt (Zz (i:=2) J J J Qj Yj J J) J J<|gtt (Zh (n:=2) (Ft _ _) J J J K1 Zft Ze J hw) J J J fun _ _=>dt (Xh J J J)<|as_ J<|Zf<|Za<|Zv<|xU hsc results129 J J (by simp_all)
 ·exact gsk J J J<|gsk J J J<|dt (Yh J J J)<|as_ J<|Zf<|Za<|Zv<|xU hsc results129 J J (by simp_all)
theorem Lu(x y:Int)(hx:bl x.natAbs≤65536)(hy:bl y.natAbs≤65536):Ml prog 129 #[wv x,wv y] [] (.bool true):=by
 have h:=Ziy (decide (x<0)) (Qq x.natAbs) (decide (y<0)) (Qq y.natAbs)
 rw [Bz hx,Bz hy]at h;exact h
theorem Mo(x:Int)(hx:bl x.natAbs≤65536):Ml prog 104 #[wv x] [] (.int .i64 x.sign):=by
 refine Ya func104 J ntmps104 J trivial ?_
 intro w0 sc hw hsc
 simp only [Zp,Zn]
 exact Zc<|Zg<|tt (Xe (i:=1) J J J J J hw) fun b _=>as_ J<|Zf<|Za<|Zc<|Zc<|Zg<|dt (Zz (i:=1) J J J Qj Yj J J)<|tt (Zh (n:=1) (Ly _ ‹_›) J J J K1 Zft Ze J hw) fun _ _=>dt (Xp J J)<|Zf<|Za<|Ye J<|Zj<|Za<|Zc<|Zg<|dt (Zz (i:=1) J J J Qj Yj J J)<|tt (Zh (n:=2) (Pb _ _ (Xl _)) J J J K1 Lj Ze J hw) fun g hg=>tt (Zh (n:=2) (Zh1 _ _ _ ‹_›) J J J K1 call135 (Zb 2 J J J Ze) J hw) fun _ _=>as_ J<|Zf<|Za<|Zv<|xU hsc results104 J J J
theorem Zgt(x:Int)(hx:bl x.natAbs≤65536):Ml prog 145 #[wv x] [] (.int .i64 (bl x.natAbs:Int)):=by
 refine Ya func145 J ntmps145 J trivial ?_
 intro w0 sc hw hsc
 simp only [Zp,Zn]
 exact Zc<|Zg<|tt (Xe (i:=1) J J J J J hw) fun b _=>as_ J<|Zf<|Za<|Zc<|Zc<|Zg<|dt (Zz (i:=1) J J J Qj Yj J J)<|tt (Zh (n:=1) (Ly _ ‹_›) J J J K1 Zft Ze J hw) fun _ _=>dt (Xp J J)<|Zf<|Za<|Ye J<|Zj<|Za<|Zc<|Zg<|dt (Xx J J Zcw J zT9 J J)<|dt (Ok (i:=1) J J J iA9 J)<|tt (Zh (n:=2) (Zaa _) J J J K1 call170 Ze J hw) fun v _=>tt (Zh (n:=2) (Zh4 _ _) J J J K1 call168 (Zb 2 J J J Ze) J hw) fun _ _=>as_ J<|Zf<|Za<|Zv<|xU hsc results145 J J J
theorem Gs(x y:Int)(hx:bl x.natAbs≤65536:=by omega)(hy:bl y.natAbs≤65536:=by omega):Ml prog 82 #[wv x,wv y] [] (Zcv (x+y)):=by
 refine Ya func82 J ntmps82 J trivial ?_
 intro w0 sc hw hsc
 simp only [Zp,Zn]
 have hb:=Kf x y
 refine Zc<|Zg<|tt (Xe (i:=1) J J J J J hw) fun b _=>tt (Xe (i:=2) J J J J J hw) fun b_2 _=>tt (Zo (i:=3) J J zeroValue31 J J hw) fun b_3 _=>as_ J<|Zf<|Za<|Zc<|Zc<|Zg<|dt (Zz (i:=1) J J J Qj Yj J J)<|dt (Zz (i:=2) J J J Qj Yj J J)<|tt (Zh (n:=3) (Lu _ _ ‹_› ‹_›) J J J K2 call129 Ze J hw) fun _ _=>dt (Xp J J)<|Zf<|Za<|Ye J<|Zj<|Za<|Zc<|Ql (fun _=>False) [(0,0),(2,0),(1,1),(3,1),(4,1),(5,1),(6,0),(7,0),(8,3),(9,3)] ?_ ?_
 ·kernel_rfl
 exact r0' J J (st0 (Zz (i:=1) J J J Qj Yj J J))<|r0' J J (st0 (Zz (i:=2) J J J Qj Yj J J))<|r1' J (Zh (n:=4) (Pb _ _ (Xl _)) J J J K1 Lj Ze J hw) fun g hg=>r1' J (Zh (n:=5) (Pb _ _ (Xl _)) J J J K1 Lj Ze J hw) fun g_2 hg_2=>r1' J (Zh (n:=6) (Zet _ _ _ _ _ _ ‹_› ‹_›) J J J K2 call131 (Zb 4 J J J (Zb 5 J J J Ze)) J hw) fun g_3 hg_3=>r1' J (Zh (n:=6) (Kl _ _ _ ‹_›) J J J K1 call128 (Zb 6 J J J Ze) J hw) fun _ _=>r0' J J (st0 (Yf J J J))<|r0' J J (st0 (Yf J J J))<|r3' J (Zm (i:=3) J J J J J (by decide) J Yj J J ⟨Zd J,Zd J,trivial⟩ J hw trivial) fun _ _=>r3' J (Px (Lq J J) J) fun _ _=>Og<|Za<|Zv<|Yn (.inl J) hsc () _ (fun a w hs=>Np hs results82 (Yr (i:=3) J J Qj Yj J) J) J trivial J Zk
theorem Zms(x y:Int)(hx:bl x.natAbs≤65536)(hy:bl y.natAbs≤65536):Ml prog 140 #[wv x,wv y] [] (Zcv (x-y)):=by
 refine Ya func140 J ntmps140 J trivial ?_
 intro w0 sc hw hsc
 simp only [Zp,Zn]
 have hb:=Fp x y
 have hny:=Zkn y
 refine Zc<|Zg<|tt (Xe (i:=1) J J J J J hw) fun b _=>tt (Xe (i:=2) J J J J J hw) fun b_2 _=>tt (Zo (i:=3) J J zeroValue31 J J hw) fun b_3 _=>as_ J<|Zf<|Za<|Zc<|Zc<|Zg<|dt (Zz (i:=1) J J J Qj Yj J J)<|dt (Zz (i:=2) J J J Qj Yj J J)<|tt (Zh (n:=3) (Lu _ _ ‹_› ‹_›) J J J K2 call129 Ze J hw) fun _ _=>dt (Xp J J)<|Zf<|Za<|Ye J<|Zj<|Za<|Zc<|Ql (fun _=>False) [(0,0),(2,0),(1,1),(3,1),(4,1),(5,1),(6,1),(7,0),(8,0),(9,3),(10,3)] ?_ ?_
 ·kernel_rfl
 exact r0' J J (st0 (Zz (i:=1) J J J Qj Yj J J))<|r0' J J (st0 (Zz (i:=2) J J J Qj Yj J J))<|r1' J (Zh (n:=4) (Pb _ _ (Xl _)) J J J K1 Lj Ze J hw) fun g hg=>r1' J (Zh (n:=5) (Pb _ _ (Xl _)) J J J K1 Lj Ze J hw) fun g_2 hg_2=>r1' J (Zh (n:=6) (Zlq _ _ _ ‹_›) J J J K1 call134 (Zb 5 J J J Ze) J hw) fun g_3 hg_3=>r1' J (Zh (n:=7) (Zet _ _ _ _ _ _ ‹_› ‹_›) J J J K2 call131 (Zb 4 J J J (Zb 6 J J J Ze)) J hw) fun g_4 hg_4=>r1' J (Zh (n:=7) (Kl _ _ _ ‹_› (by rw [←Int.sub_eq_add_neg];omega)) J J J K1 call128 (Zb 7 J J J Ze) J hw) fun _ _=>r0' J J (st0 (Yf J J J))<|r0' J J (st0 (Yf J J J))<|r3' J (Zm (i:=3) J J J J J (by decide) J Yj J J ⟨Zd J,Zd J,trivial⟩ J hw trivial) fun _ _=>r3' J (Px (Lq J J) J) fun _ _=>Og<|Za<|Zv<|Yn (.inl J) hsc () _ (fun a w hs=>Np hs results140 (Yr (i:=3) J J Qj Yj J) J) (by rw [Int.sub_eq_add_neg]<;>rfl) trivial J Zk
theorem Et(x y:Int)(hx:bl x.natAbs≤65536:=by omega)(hy:bl y.natAbs≤65536:=by omega):Ml prog 139 #[wv x,wv y] [] (Zcv (x*y)):=by
 refine Ya func139 J ntmps139 J trivial ?_
 intro w0 sc hw hsc
 simp only [Zp,Zn]
 have hb:=Xs x y
 refine Zc<|Zg<|tt (Xe (i:=1) J J J J J hw) fun b _=>tt (Xe (i:=2) J J J J J hw) fun b_2 _=>tt (Zo (i:=3) J J zeroValue31 J J hw) fun b_3 _=>as_ J<|Zf<|Za<|Zc<|Zc<|Zg<|dt (Zz (i:=1) J J J Qj Yj J J)<|dt (Zz (i:=2) J J J Qj Yj J J)<|tt (Zh (n:=3) (Lu _ _ ‹_› ‹_›) J J J K2 call129 Ze J hw) fun _ _=>dt (Xp J J)<|Zf<|Za<|Ye J<|Zj<|Za<|Zc<|Ql (fun _=>False) [(0,0),(2,0),(1,1),(3,1),(4,1),(5,1),(6,0),(7,0),(8,3),(9,3)] ?_ ?_
 ·kernel_rfl
 exact r0' J J (st0 (Zz (i:=1) J J J Qj Yj J J))<|r0' J J (st0 (Zz (i:=2) J J J Qj Yj J J))<|r1' J (Zh (n:=4) (Pb _ _ (Xl _)) J J J K1 Lj Ze J hw) fun g hg=>r1' J (Zh (n:=5) (Pb _ _ (Xl _)) J J J K1 Lj Ze J hw) fun g_2 hg_2=>r1' J (Zh (n:=6) (Zb5 _ _ _ _ _ _ ‹_› ‹_›) J J J K2 call176 (Zb 4 J J J (Zb 5 J J J Ze)) J hw) fun g_3 hg_3=>r1' J (Zh (n:=6) (Kl _ _ _ ‹_›) J J J K1 call128 (Zb 6 J J J Ze) J hw) fun _ _=>r0' J J (st0 (Yf J J J))<|r0' J J (st0 (Yf J J J))<|r3' J (Zm (i:=3) J J J J J (by decide) J Yj J J ⟨Zd J,Zd J,trivial⟩ J hw trivial) fun _ _=>r3' J (Px (Lq J J) J) fun _ _=>Og<|Za<|Zv<|Yn (.inl J) hsc () _ (fun a w hs=>Np hs results139 (Yr (i:=3) J J Qj Yj J) J) J trivial J Zk
theorem Zvc(x y:Int)(hx:bl x.natAbs≤65536)(hy:bl y.natAbs≤65536):Ml prog 196 #[wv x,wv y] [] (Zcv (Int.gcd x y:Int)):=by
 refine Ya func196 J ntmps196 J trivial ?_
 intro w0 sc hw hsc
 simp only [Zp,Zn]
 have hb:=Zu0 x.natAbs y.natAbs
 refine Zc<|Zg<|tt (Xe (i:=1) J J J J J hw) fun b _=>tt (Xe (i:=2) J J J J J hw) fun b_2 _=>tt (Zo (i:=3) J J zeroValue31 J J hw) fun b_3 _=>as_ J<|Zf<|Za<|Zc<|Zc<|Zg<|dt (Zz (i:=1) J J J Qj Yj J J)<|dt (Zz (i:=2) J J J Qj Yj J J)<|tt (Zh (n:=3) (Lu _ _ ‹_› ‹_›) J J J K2 call129 Ze J hw) fun _ _=>dt (Xp J J)<|Zf<|Za<|Ye J<|Zj<|Za<|Zc<|Ql (fun _=>False) [(0,0),(1,0),(3,0),(4,0),(2,1),(5,1),(6,1),(7,0),(8,1),(9,0),(10,0),(11,3),(12,3)] ?_ ?_
 ·kernel_rfl
 exact r0' J J (st0 (Xx J J Zcw J zT9 J J))<|r0' J J (st0 (Ok (i:=1) J J J iA9 J))<|r0' J J (st0 (Xx J J Zcw J zT9 J J))<|r0' J J (st0 (Ok (i:=2) J J J iA9 J))<|r1' J (Zh (n:=4) (Zaa _) J J J K1 call170 Ze J hw) fun v _=>r1' J (Zh (n:=5) (Zaa _) J J J K1 call170 Ze J hw) fun v_2 _=>r1' J (Zh (n:=6) (Zls _ _ _ _) J J J K2 call185 (Zb 4 J J J (Zb 5 J J J Ze)) J hw) fun v_3 _=>r0' J J (st0 (Pz (ivs:=[(0,_),(1,_)]) J K4 (fun a w hs=>Nb ((Zd J) a w hs) ((Zt (i:=6) J Zi) a w hs))))<|r1' J (Zh (n:=6) (Kl false _ (Int.gcd x y:Int) (by simp [sg]) (by show bl (Nat.gcd x.natAbs y.natAbs)≤_;omega)) J J J K1 call128 (Zb 6 J J J Ze) J hw) fun _ _=>r0' J J (st0 (Yf J J J))<|r0' J J (st0 (Yf J J J))<|r3' J (Zm (i:=3) J J J J J (by decide) J Yj J J ⟨Zd J,Zd J,trivial⟩ J hw trivial) fun _ _=>r3' J (Px (Lq J J) J) fun _ _=>Og<|Za<|Zv<|Yn (.inl J) hsc () _ (fun a w hs=>Np hs results196 (Yr (i:=3) J J Qj Yj J) J) J trivial J Zk
theorem Cu(x y:Int)(hx:bl x.natAbs≤65536)(hy:bl y.natAbs≤65536)(hy0:y≠0):Ml prog 158 #[wv x,wv y] [] (.tuple #[wv (Zgm (x/y)),wv (Zgm (x%y)),.int .i64 0]):=by
 refine Ya func158 J ntmps158 J trivial ?_
 intro w0 sc hw hsc
 simp only [Zp,Zn]
 have hb:=Zit x y
 have hb2:=Zmm x y hy0
 refine Zc<|Zg<|tt (Xe (i:=1) J J J J J hw) fun b _=>tt (Xe (i:=2) J J J J J hw) fun b_2 _=>tt (Zo (i:=3) J J zeroValue31 J J hw) fun b_3 _=>tt (Zo (i:=4) J J zeroValue31 J J hw) fun b_4 _=>as_ J<|Zf<|Za<|Zc<|Zc<|Zg<|dt (Zz (i:=1) J J J Qj Yj J J)<|dt (Zz (i:=2) J J J Qj Yj J J)<|tt (Zh (n:=4) (Lu _ _ ‹_› ‹_›) J J J K2 call129 Ze J hw) fun _ _=>dt (Xp J J)<|Zf<|Za<|Ye J<|Zj<|Za<|Zc<|Zc<|Zg<|dt (Xx J J Zcw J zT9 J J)<|dt (Ok (i:=2) J J J iA9 J)<|dt (Zkh J J J J)<|Zf<|Za<|Zq J (fun h337=>?_) (fun h337=>?_)
 ·rw [Mw]at h337
  exfalso;exact hy0 (by have:=(Ph (by omega:2≤256) y.natAbs).1 h337;omega)
 ·refine Zj<|Za<|Dj [(4,_),(5,_)] [(0,_),(1,_),(2,_),(3,_),(4,_)] (fun(q:Bool×Value×Value×Nat×Nat)=>[(7,.pointer (some ⟨q.2.2.2.1,0,none⟩)),(8,.pointer (some ⟨q.2.2.2.2,0,none⟩))]) (fun(q:Bool×Value×Value×Nat×Nat)=>[(84,dgp q.2.1 (x/y).natAbs),(85,dgp q.2.2.1 (x%y).natAbs),(86,box q.2.2.2.1 154 #[.bool q.1,q.2.1]),(87,box q.2.2.2.2 154 #[.bool false,q.2.2.1])]) (fun(q:Bool×Value×Value×Nat×Nat)=>sg q.1 (x/y)) K2 K5 ?_ ?_
  ·refine Oo [1,2] [11]<|Zy (n:=10) [(0,0),(2,0)]<|r0' J J (stf (Zz (i:=1) J J J Qj Yj J J) K2)<|r0' J J (stf (Zz (i:=2) J J J Qj Yj J J) K2)<|Yo<|Zbo (n:=9) 1 8 9 ?_ ?_ ?_
   ·refine Yp J (Zh (n:=81) (Pb _ _ (Xl _)) J J J K1 Lj Ze J hw) fun g hg=>Zbo (n:=8) 3 8 9 ?_ ?_ ?_
    ·refine Yp J (Zh (n:=82) (Pb _ _ (Xl _)) J J J K1 Lj Ze J hw) fun g_2 hg_2=>Zbo (n:=7) 4 8 9 ?_ ?_ ?_
     ·refine Yp J (Zh (n:=84) (Qt _ _ _ _ _ _ ‹_› ‹_› (by omega) (by omega) hy0) J J J K2 Mm (Zb 81 J J J (Zb 82 J J J Ze)) J hw) fun g_3 hg_3=>Zy (n:=4) [(5,0),(6,0),(7,0)]<|r0' J J (stf (Ym J J) K2)<|r0' J J (stf (Yf J J J) K2)<|r0' J J (stf (Yf J J J) K2)<|Yo<|Pu (n:=3) 8 9 ?_ ?_
      ·exact Yp J (Zw (i:=86) J J zeroValue154 J J hw K2) fun b_5 ho=>Zy (n:=0) [(9,1),(10,1),(11,3)]<|r1' J (Zw (i:=87) J J zeroValue154 J J hw K2) fun b_6 ho2=>r1' J (Zm (i:=86) J J J J J (by decide) J Xb J J ⟨Zd J,Zt (i:=84) J Zi,trivial⟩ J hw ho) fun _ _=>r3' J (Zm (i:=87) J J J J J (by decide) J Xb J J ⟨Zd J,Zt (i:=85) J Zi,trivial⟩ J hw trivial) fun _ _=>Yo<|Yg<|Qy (_,_,_,_,_) ‹_› K4 K9
      ·exact Yp J (Zw (i:=87) J J zeroValue154 J J hw K2) fun b_7 ho3=>Zy (n:=0) [(8,1),(10,1),(11,3)]<|r1' J (Zw (i:=86) J J zeroValue154 J J hw K2) fun b_8 ho4=>r1' J (Zm (i:=86) J J J J J (by decide) J Xb J J ⟨Zd J,Zt (i:=84) J Zi,trivial⟩ J hw ho4) fun _ _=>r3' J (Zm (i:=87) J J J J J (by decide) J Xb J J ⟨Zd J,Zt (i:=85) J Zi,trivial⟩ J hw trivial) fun _ _=>Yo<|Yg<|Qy (_,_,_,_,_) ‹_› K4 K9
     ·refine Yp J (Zw (i:=86) J J zeroValue154 J J hw K2) fun b_9 ho5=>Pu (n:=6) 4 9 ?_ ?_
      ·exact Yp J (Zh (n:=84) (Qt _ _ _ _ _ _ ‹_› ‹_› (by omega) (by omega) hy0) J J J K2 Mm (Zb 81 J J J (Zb 82 J J J Ze)) J hw) fun g_4 hg_4=>Zy (n:=0) [(5,0),(6,0),(7,0),(9,1),(10,1),(11,3)]<|r0' J J (stf (Ym J J) K2)<|r0' J J (stf (Yf J J J) K2)<|r0' J J (stf (Yf J J J) K2)<|r1' J (Zw (i:=87) J J zeroValue154 J J hw K2) fun b_10 ho6=>r1' J (Zm (i:=86) J J J J J (by decide) J Xb J J ⟨Zd J,Zt (i:=84) J Zi,trivial⟩ J hw ho5) fun _ _=>r3' J (Zm (i:=87) J J J J J (by decide) J Xb J J ⟨Zd J,Zt (i:=85) J Zi,trivial⟩ J hw trivial) fun _ _=>Yo<|Yg<|Qy (_,_,_,_,_) ‹_› K4 K9
      ·exact Yp J (Zw (i:=87) J J zeroValue154 J J hw K2) fun b_11 ho7=>Zy (n:=0) [(4,1),(5,0),(6,0),(7,0),(10,1),(11,3)]<|r1' J (Zh (n:=84) (Qt _ _ _ _ _ _ ‹_› ‹_› (by omega) (by omega) hy0) J J J K2 Mm (Zb 81 J J J (Zb 82 J J J Ze)) J hw) fun g_5 hg_5=>r0' J J (stf (Ym J J) K2)<|r0' J J (stf (Yf J J J) K2)<|r0' J J (stf (Yf J J J) K2)<|r1' J (Zm (i:=86) J J J J J (by decide) J Xb J J ⟨Zd J,Zt (i:=84) J Zi,trivial⟩ J hw ho5) fun _ _=>r3' J (Zm (i:=87) J J J J J (by decide) J Xb J J ⟨Zd J,Zt (i:=85) J Zi,trivial⟩ J hw trivial) fun _ _=>Yo<|Yg<|Qy (_,_,_,_,_) ‹_› K4 K9
     ·refine Yp J (Zw (i:=87) J J zeroValue154 J J hw K2) fun b_12 ho8=>Pu (n:=6) 4 8 ?_ ?_
      ·exact Yp J (Zh (n:=84) (Qt _ _ _ _ _ _ ‹_› ‹_› (by omega) (by omega) hy0) J J J K2 Mm (Zb 81 J J J (Zb 82 J J J Ze)) J hw) fun g_6 hg_6=>Zy (n:=0) [(5,0),(6,0),(7,0),(8,1),(10,1),(11,3)]<|r0' J J (stf (Ym J J) K2)<|r0' J J (stf (Yf J J J) K2)<|r0' J J (stf (Yf J J J) K2)<|r1' J (Zw (i:=86) J J zeroValue154 J J hw K2) fun b_13 ho9=>r1' J (Zm (i:=86) J J J J J (by decide) J Xb J J ⟨Zd J,Zt (i:=84) J Zi,trivial⟩ J hw ho9) fun _ _=>r3' J (Zm (i:=87) J J J J J (by decide) J Xb J J ⟨Zd J,Zt (i:=85) J Zi,trivial⟩ J hw trivial) fun _ _=>Yo<|Yg<|Qy (_,_,_,_,_) ‹_› K4 K9
      ·exact Yp J (Zw (i:=86) J J zeroValue154 J J hw K2) fun b_14 ho10=>Zy (n:=0) [(4,1),(5,0),(6,0),(7,0),(10,1),(11,3)]<|r1' J (Zh (n:=84) (Qt _ _ _ _ _ _ ‹_› ‹_› (by omega) (by omega) hy0) J J J K2 Mm (Zb 81 J J J (Zb 82 J J J Ze)) J hw) fun g_7 hg_7=>r0' J J (stf (Ym J J) K2)<|r0' J J (stf (Yf J J J) K2)<|r0' J J (stf (Yf J J J) K2)<|r1' J (Zm (i:=86) J J J J J (by decide) J Xb J J ⟨Zd J,Zt (i:=84) J Zi,trivial⟩ J hw ho10) fun _ _=>r3' J (Zm (i:=87) J J J J J (by decide) J Xb J J ⟨Zd J,Zt (i:=85) J Zi,trivial⟩ J hw trivial) fun _ _=>Yo<|Yg<|Qy (_,_,_,_,_) ‹_› K4 K9
    ·refine Yp J (Zw (i:=86) J J zeroValue154 J J hw K2) fun b_15 ho11=>Pu (n:=7) 3 9 ?_ ?_
     ·refine Yp J (Zh (n:=82) (Pb _ _ (Xl _)) J J J K1 Lj Ze J hw) fun g_8 hg_8=>Pu (n:=6) 4 9 ?_ ?_
      ·exact Yp J (Zh (n:=84) (Qt _ _ _ _ _ _ ‹_› ‹_› (by omega) (by omega) hy0) J J J K2 Mm (Zb 81 J J J (Zb 82 J J J Ze)) J hw) fun g_9 hg_9=>Zy (n:=0) [(5,0),(6,0),(7,0),(9,1),(10,1),(11,3)]<|r0' J J (stf (Ym J J) K2)<|r0' J J (stf (Yf J J J) K2)<|r0' J J (stf (Yf J J J) K2)<|r1' J (Zw (i:=87) J J zeroValue154 J J hw K2) fun b_16 ho12=>r1' J (Zm (i:=86) J J J J J (by decide) J Xb J J ⟨Zd J,Zt (i:=84) J Zi,trivial⟩ J hw ho11) fun _ _=>r3' J (Zm (i:=87) J J J J J (by decide) J Xb J J ⟨Zd J,Zt (i:=85) J Zi,trivial⟩ J hw trivial) fun _ _=>Yo<|Yg<|Qy (_,_,_,_,_) ‹_› K4 K9
      ·exact Yp J (Zw (i:=87) J J zeroValue154 J J hw K2) fun b_17 ho13=>Zy (n:=0) [(4,1),(5,0),(6,0),(7,0),(10,1),(11,3)]<|r1' J (Zh (n:=84) (Qt _ _ _ _ _ _ ‹_› ‹_› (by omega) (by omega) hy0) J J J K2 Mm (Zb 81 J J J (Zb 82 J J J Ze)) J hw) fun g_10 hg_10=>r0' J J (stf (Ym J J) K2)<|r0' J J (stf (Yf J J J) K2)<|r0' J J (stf (Yf J J J) K2)<|r1' J (Zm (i:=86) J J J J J (by decide) J Xb J J ⟨Zd J,Zt (i:=84) J Zi,trivial⟩ J hw ho11) fun _ _=>r3' J (Zm (i:=87) J J J J J (by decide) J Xb J J ⟨Zd J,Zt (i:=85) J Zi,trivial⟩ J hw trivial) fun _ _=>Yo<|Yg<|Qy (_,_,_,_,_) ‹_› K4 K9
     ·exact Yp J (Zw (i:=87) J J zeroValue154 J J hw K2) fun b_18 ho14=>Zy (n:=0) [(3,1),(4,1),(5,0),(6,0),(7,0),(10,1),(11,3)]<|r1' J (Zh (n:=82) (Pb _ _ (Xl _)) J J J K1 Lj Ze J hw) fun g_11 hg_11=>r1' J (Zh (n:=84) (Qt _ _ _ _ _ _ ‹_› ‹_› (by omega) (by omega) hy0) J J J K2 Mm (Zb 81 J J J (Zb 82 J J J Ze)) J hw) fun g_12 hg_12=>r0' J J (stf (Ym J J) K2)<|r0' J J (stf (Yf J J J) K2)<|r0' J J (stf (Yf J J J) K2)<|r1' J (Zm (i:=86) J J J J J (by decide) J Xb J J ⟨Zd J,Zt (i:=84) J Zi,trivial⟩ J hw ho11) fun _ _=>r3' J (Zm (i:=87) J J J J J (by decide) J Xb J J ⟨Zd J,Zt (i:=85) J Zi,trivial⟩ J hw trivial) fun _ _=>Yo<|Yg<|Qy (_,_,_,_,_) ‹_› K4 K9
    ·refine Yp J (Zw (i:=87) J J zeroValue154 J J hw K2) fun b_19 ho15=>Pu (n:=7) 3 8 ?_ ?_
     ·refine Yp J (Zh (n:=82) (Pb _ _ (Xl _)) J J J K1 Lj Ze J hw) fun g_13 hg_13=>Pu (n:=6) 4 8 ?_ ?_
      ·exact Yp J (Zh (n:=84) (Qt _ _ _ _ _ _ ‹_› ‹_› (by omega) (by omega) hy0) J J J K2 Mm (Zb 81 J J J (Zb 82 J J J Ze)) J hw) fun g_14 hg_14=>Zy (n:=0) [(5,0),(6,0),(7,0),(8,1),(10,1),(11,3)]<|r0' J J (stf (Ym J J) K2)<|r0' J J (stf (Yf J J J) K2)<|r0' J J (stf (Yf J J J) K2)<|r1' J (Zw (i:=86) J J zeroValue154 J J hw K2) fun b_20 ho16=>r1' J (Zm (i:=86) J J J J J (by decide) J Xb J J ⟨Zd J,Zt (i:=84) J Zi,trivial⟩ J hw ho16) fun _ _=>r3' J (Zm (i:=87) J J J J J (by decide) J Xb J J ⟨Zd J,Zt (i:=85) J Zi,trivial⟩ J hw trivial) fun _ _=>Yo<|Yg<|Qy (_,_,_,_,_) ‹_› K4 K9
      ·exact Yp J (Zw (i:=86) J J zeroValue154 J J hw K2) fun b_21 ho17=>Zy (n:=0) [(4,1),(5,0),(6,0),(7,0),(10,1),(11,3)]<|r1' J (Zh (n:=84) (Qt _ _ _ _ _ _ ‹_› ‹_› (by omega) (by omega) hy0) J J J K2 Mm (Zb 81 J J J (Zb 82 J J J Ze)) J hw) fun g_15 hg_15=>r0' J J (stf (Ym J J) K2)<|r0' J J (stf (Yf J J J) K2)<|r0' J J (stf (Yf J J J) K2)<|r1' J (Zm (i:=86) J J J J J (by decide) J Xb J J ⟨Zd J,Zt (i:=84) J Zi,trivial⟩ J hw ho17) fun _ _=>r3' J (Zm (i:=87) J J J J J (by decide) J Xb J J ⟨Zd J,Zt (i:=85) J Zi,trivial⟩ J hw trivial) fun _ _=>Yo<|Yg<|Qy (_,_,_,_,_) ‹_› K4 K9
     ·exact Yp J (Zw (i:=86) J J zeroValue154 J J hw K2) fun b_22 ho18=>Zy (n:=0) [(3,1),(4,1),(5,0),(6,0),(7,0),(10,1),(11,3)]<|r1' J (Zh (n:=82) (Pb _ _ (Xl _)) J J J K1 Lj Ze J hw) fun g_16 hg_16=>r1' J (Zh (n:=84) (Qt _ _ _ _ _ _ ‹_› ‹_› (by omega) (by omega) hy0) J J J K2 Mm (Zb 81 J J J (Zb 82 J J J Ze)) J hw) fun g_17 hg_17=>r0' J J (stf (Ym J J) K2)<|r0' J J (stf (Yf J J J) K2)<|r0' J J (stf (Yf J J J) K2)<|r1' J (Zm (i:=86) J J J J J (by decide) J Xb J J ⟨Zd J,Zt (i:=84) J Zi,trivial⟩ J hw ho18) fun _ _=>r3' J (Zm (i:=87) J J J J J (by decide) J Xb J J ⟨Zd J,Zt (i:=85) J Zi,trivial⟩ J hw trivial) fun _ _=>Yo<|Yg<|Qy (_,_,_,_,_) ‹_› K4 K9
   ·refine Yp J (Zw (i:=86) J J zeroValue154 J J hw K2) fun b_23 ho19=>Pu (n:=8) 1 9 ?_ ?_
    ·refine Yp J (Zh (n:=81) (Pb _ _ (Xl _)) J J J K1 Lj Ze J hw) fun g_18 hg_18=>Pu (n:=7) 3 9 ?_ ?_
     ·refine Yp J (Zh (n:=82) (Pb _ _ (Xl _)) J J J K1 Lj Ze J hw) fun g_19 hg_19=>Pu (n:=6) 4 9 ?_ ?_
      ·exact Yp J (Zh (n:=84) (Qt _ _ _ _ _ _ ‹_› ‹_› (by omega) (by omega) hy0) J J J K2 Mm (Zb 81 J J J (Zb 82 J J J Ze)) J hw) fun g_20 hg_20=>Zy (n:=0) [(5,0),(6,0),(7,0),(9,1),(10,1),(11,3)]<|r0' J J (stf (Ym J J) K2)<|r0' J J (stf (Yf J J J) K2)<|r0' J J (stf (Yf J J J) K2)<|r1' J (Zw (i:=87) J J zeroValue154 J J hw K2) fun b_24 ho20=>r1' J (Zm (i:=86) J J J J J (by decide) J Xb J J ⟨Zd J,Zt (i:=84) J Zi,trivial⟩ J hw ho19) fun _ _=>r3' J (Zm (i:=87) J J J J J (by decide) J Xb J J ⟨Zd J,Zt (i:=85) J Zi,trivial⟩ J hw trivial) fun _ _=>Yo<|Yg<|Qy (_,_,_,_,_) ‹_› K4 K9
      ·exact Yp J (Zw (i:=87) J J zeroValue154 J J hw K2) fun b_25 ho21=>Zy (n:=0) [(4,1),(5,0),(6,0),(7,0),(10,1),(11,3)]<|r1' J (Zh (n:=84) (Qt _ _ _ _ _ _ ‹_› ‹_› (by omega) (by omega) hy0) J J J K2 Mm (Zb 81 J J J (Zb 82 J J J Ze)) J hw) fun g_21 hg_21=>r0' J J (stf (Ym J J) K2)<|r0' J J (stf (Yf J J J) K2)<|r0' J J (stf (Yf J J J) K2)<|r1' J (Zm (i:=86) J J J J J (by decide) J Xb J J ⟨Zd J,Zt (i:=84) J Zi,trivial⟩ J hw ho19) fun _ _=>r3' J (Zm (i:=87) J J J J J (by decide) J Xb J J ⟨Zd J,Zt (i:=85) J Zi,trivial⟩ J hw trivial) fun _ _=>Yo<|Yg<|Qy (_,_,_,_,_) ‹_› K4 K9
     ·exact Yp J (Zw (i:=87) J J zeroValue154 J J hw K2) fun b_26 ho22=>Zy (n:=0) [(3,1),(4,1),(5,0),(6,0),(7,0),(10,1),(11,3)]<|r1' J (Zh (n:=82) (Pb _ _ (Xl _)) J J J K1 Lj Ze J hw) fun g_22 hg_22=>r1' J (Zh (n:=84) (Qt _ _ _ _ _ _ ‹_› ‹_› (by omega) (by omega) hy0) J J J K2 Mm (Zb 81 J J J (Zb 82 J J J Ze)) J hw) fun g_23 hg_23=>r0' J J (stf (Ym J J) K2)<|r0' J J (stf (Yf J J J) K2)<|r0' J J (stf (Yf J J J) K2)<|r1' J (Zm (i:=86) J J J J J (by decide) J Xb J J ⟨Zd J,Zt (i:=84) J Zi,trivial⟩ J hw ho19) fun _ _=>r3' J (Zm (i:=87) J J J J J (by decide) J Xb J J ⟨Zd J,Zt (i:=85) J Zi,trivial⟩ J hw trivial) fun _ _=>Yo<|Yg<|Qy (_,_,_,_,_) ‹_› K4 K9
    ·exact Yp J (Zw (i:=87) J J zeroValue154 J J hw K2) fun b_27 ho23=>Zy (n:=0) [(1,1),(3,1),(4,1),(5,0),(6,0),(7,0),(10,1),(11,3)]<|r1' J (Zh (n:=81) (Pb _ _ (Xl _)) J J J K1 Lj Ze J hw) fun g_24 hg_24=>r1' J (Zh (n:=82) (Pb _ _ (Xl _)) J J J K1 Lj Ze J hw) fun g_25 hg_25=>r1' J (Zh (n:=84) (Qt _ _ _ _ _ _ ‹_› ‹_› (by omega) (by omega) hy0) J J J K2 Mm (Zb 81 J J J (Zb 82 J J J Ze)) J hw) fun g_26 hg_26=>r0' J J (stf (Ym J J) K2)<|r0' J J (stf (Yf J J J) K2)<|r0' J J (stf (Yf J J J) K2)<|r1' J (Zm (i:=86) J J J J J (by decide) J Xb J J ⟨Zd J,Zt (i:=84) J Zi,trivial⟩ J hw ho19) fun _ _=>r3' J (Zm (i:=87) J J J J J (by decide) J Xb J J ⟨Zd J,Zt (i:=85) J Zi,trivial⟩ J hw trivial) fun _ _=>Yo<|Yg<|Qy (_,_,_,_,_) ‹_› K4 K9
   ·refine Yp J (Zw (i:=87) J J zeroValue154 J J hw K2) fun b_28 ho24=>Pu (n:=8) 1 8 ?_ ?_
    ·refine Yp J (Zh (n:=81) (Pb _ _ (Xl _)) J J J K1 Lj Ze J hw) fun g_27 hg_27=>Pu (n:=7) 3 8 ?_ ?_
     ·refine Yp J (Zh (n:=82) (Pb _ _ (Xl _)) J J J K1 Lj Ze J hw) fun g_28 hg_28=>Pu (n:=6) 4 8 ?_ ?_
      ·exact Yp J (Zh (n:=84) (Qt _ _ _ _ _ _ ‹_› ‹_› (by omega) (by omega) hy0) J J J K2 Mm (Zb 81 J J J (Zb 82 J J J Ze)) J hw) fun g_29 hg_29=>Zy (n:=0) [(5,0),(6,0),(7,0),(8,1),(10,1),(11,3)]<|r0' J J (stf (Ym J J) K2)<|r0' J J (stf (Yf J J J) K2)<|r0' J J (stf (Yf J J J) K2)<|r1' J (Zw (i:=86) J J zeroValue154 J J hw K2) fun b_29 ho25=>r1' J (Zm (i:=86) J J J J J (by decide) J Xb J J ⟨Zd J,Zt (i:=84) J Zi,trivial⟩ J hw ho25) fun _ _=>r3' J (Zm (i:=87) J J J J J (by decide) J Xb J J ⟨Zd J,Zt (i:=85) J Zi,trivial⟩ J hw trivial) fun _ _=>Yo<|Yg<|Qy (_,_,_,_,_) ‹_› K4 K9
      ·exact Yp J (Zw (i:=86) J J zeroValue154 J J hw K2) fun b_30 ho26=>Zy (n:=0) [(4,1),(5,0),(6,0),(7,0),(10,1),(11,3)]<|r1' J (Zh (n:=84) (Qt _ _ _ _ _ _ ‹_› ‹_› (by omega) (by omega) hy0) J J J K2 Mm (Zb 81 J J J (Zb 82 J J J Ze)) J hw) fun g_30 hg_30=>r0' J J (stf (Ym J J) K2)<|r0' J J (stf (Yf J J J) K2)<|r0' J J (stf (Yf J J J) K2)<|r1' J (Zm (i:=86) J J J J J (by decide) J Xb J J ⟨Zd J,Zt (i:=84) J Zi,trivial⟩ J hw ho26) fun _ _=>r3' J (Zm (i:=87) J J J J J (by decide) J Xb J J ⟨Zd J,Zt (i:=85) J Zi,trivial⟩ J hw trivial) fun _ _=>Yo<|Yg<|Qy (_,_,_,_,_) ‹_› K4 K9
     ·exact Yp J (Zw (i:=86) J J zeroValue154 J J hw K2) fun b_31 ho27=>Zy (n:=0) [(3,1),(4,1),(5,0),(6,0),(7,0),(10,1),(11,3)]<|r1' J (Zh (n:=82) (Pb _ _ (Xl _)) J J J K1 Lj Ze J hw) fun g_31 hg_31=>r1' J (Zh (n:=84) (Qt _ _ _ _ _ _ ‹_› ‹_› (by omega) (by omega) hy0) J J J K2 Mm (Zb 81 J J J (Zb 82 J J J Ze)) J hw) fun g_32 hg_32=>r0' J J (stf (Ym J J) K2)<|r0' J J (stf (Yf J J J) K2)<|r0' J J (stf (Yf J J J) K2)<|r1' J (Zm (i:=86) J J J J J (by decide) J Xb J J ⟨Zd J,Zt (i:=84) J Zi,trivial⟩ J hw ho27) fun _ _=>r3' J (Zm (i:=87) J J J J J (by decide) J Xb J J ⟨Zd J,Zt (i:=85) J Zi,trivial⟩ J hw trivial) fun _ _=>Yo<|Yg<|Qy (_,_,_,_,_) ‹_› K4 K9
    ·exact Yp J (Zw (i:=86) J J zeroValue154 J J hw K2) fun b_32 ho28=>Zy (n:=0) [(1,1),(3,1),(4,1),(5,0),(6,0),(7,0),(10,1),(11,3)]<|r1' J (Zh (n:=81) (Pb _ _ (Xl _)) J J J K1 Lj Ze J hw) fun g_33 hg_33=>r1' J (Zh (n:=82) (Pb _ _ (Xl _)) J J J K1 Lj Ze J hw) fun g_34 hg_34=>r1' J (Zh (n:=84) (Qt _ _ _ _ _ _ ‹_› ‹_› (by omega) (by omega) hy0) J J J K2 Mm (Zb 81 J J J (Zb 82 J J J Ze)) J hw) fun g_35 hg_35=>r0' J J (stf (Ym J J) K2)<|r0' J J (stf (Yf J J J) K2)<|r0' J J (stf (Yf J J J) K2)<|r1' J (Zm (i:=86) J J J J J (by decide) J Xb J J ⟨Zd J,Zt (i:=84) J Zi,trivial⟩ J hw ho28) fun _ _=>r3' J (Zm (i:=87) J J J J J (by decide) J Xb J J ⟨Zd J,Zt (i:=85) J Zi,trivial⟩ J hw trivial) fun _ _=>Yo<|Yg<|Qy (_,_,_,_,_) ‹_› K4 K9
  ·rintro⟨qb,qv,rv,b7,b8⟩ hq
   dsimp only at hq
   simp only [CA,NA]
   refine Zc<|Zg<|dt (Zz (i:=86) J J J Lt Xb J J)<|tt (Zh (n:=4) (Kl _ _ _ ‹_›) J J J K1 call128 (Zb 84 J J J Ze) J hw) fun _ _=>mv J<|dt (Yf J J J)<|dt (Yf J J J)<|tt (Zm (i:=3) J J J J J (by decide) J Yj J J ⟨Zd J,Zd J,trivial⟩ J hw trivial) fun _ _=>Zf<|Za<|Zc<|Zg<|dt (Zz (i:=87) J J J Lt Xb J J)<|tt (Zh (n:=4) (Kl _ _ _ (sg_emod x hy0)) J J J K1 call128 (Zb 85 J J J Ze) J hw) fun _ _=>mv J<|dt (Yf J J J)<|dt (Yf J J J)<|tt (Zm (i:=4) J J J J J (by decide) J Yj J J ⟨Zd J,Zd J,trivial⟩ J hw trivial) fun _ _=>Zf<|Za<|Zc<|Oo [4] [3,4]<|Zy (n:=0) [(1,0),(0,1),(2,1),(3,3),(4,3)]<|r0' J J (stf (Zz (i:=4) J J J Qj Yj J J) K1)<|r1' J (Px (Zz (i:=3) J J J Qj Yj J J) J) fun _ _=>r1' J (Zd4 3 J J K1 (fun ob=>(Zm (i:=3) J J J J J (by decide) J Yj J J ⟨Zd J,Zd J,trivial⟩ J hw ob))) fun _ _=>r3' J (Zm (i:=4) J J J J J (by decide) J Yj J J ⟨Zd J,Zd J,trivial⟩ J hw trivial) fun _ _=>r3' J (Px (Lq J J) J) fun _ _=>Yo<|Yg<|Za<|Zv ?_
   exact Yn (.inl J) hsc () _ (fun a w hs=>res3 hs results158 (Yr (i:=3) J J Qj Yj J) (Yr (i:=4) J J Qj Yj J) J) J trivial J Zk
theorem Ab(s t:Bool)(v w:Value)(x y:Int)(hs:sg s x)(ht:sg t y)(hy0:y≠0)(hx:bl x.natAbs≤1000000000:=by omega)(hy:bl y.natAbs≤1000000000:=by omega):Ml prog 163 #[.agg #[.bool s,v],.agg #[.bool t,w]] [dgp v x.natAbs,dgp w y.natAbs] (Zcn x y):=by
 refine Ya func163 J ntmps163 J K2 ?_
 intro w0 sc hw hsc
 simp only [Zp,Zn]
 have hb:=Zu0 x.natAbs y.natAbs
 have hg0:Gi x y≠0:=lgcd_ne hy0
 have hgs:sg t (Gi x y):=sg_lgcd ht hy0
 have hga:=Za0 x y
 have hq1:=Zit x (Gi x y)
 have hq2:=Zit y (Gi x y)
 refine Zc<|Zg<|tt (Xe (i:=3) J J J J J hw) fun b _=>tt (Xe (i:=4) J J J J J hw) fun b_2 _=>tt (Zo (i:=5) J J zeroValue41 J J hw) fun b_3 _=>as_ J<|Zf<|Za<|Zc<|Hb (fun _=>False) [9]<|Zy (n:=4) [(0,0),(1,0),(2,0),(3,0),(4,0),(5,0)]<|r0' J J (st0 (Xx J J Mx J zT4 J J))<|r0' J J (st0 (Ok (i:=4) J J J iA4 J))<|r0' J J (st0 (Xx J J Mx J Fe J J))<|r0' J J (st0 (Ok (i:=3) J J J Fl J))<|r0' J J (st0 (Xx J J Mx J Fe J J))<|r0' J J (st0 (Ok (i:=4) J J J Fl J))<|Yo<|Pu (n:=3) 6 8 ?_ ?_
 ·refine Yp J (Zh (n:=81) (Zls _ _ _ _) J J J K2 call185 (Zb 1 J J J (Zb 2 J J J Ze)) J hw) fun v _=>Zy (n:=0) [(7,0),(8,1),(9,3)]<|r0' J J (st0 (Pz (ivs:=[(0,_),(1,_)]) J K4 (fun a w hs=>Nb ((Zd J) a w hs) ((Zt (i:=81) J Zi) a w hs))))<|r1' J (Zo (i:=82) J J zeroValue154 J J hw) fun b_4 _=>r3' J (Zm (i:=82) J J J J J (by decide) J Xb J J ⟨Zd J,Zt (i:=81) J Zi,trivial⟩ J hw trivial) fun _ _=>Yo<|Yg<|Za<|Zc<|Yl (Gp 81 (Zsz _ x y) J J)<|Zg<|dt (Zz (i:=3) J J J Lt Xb J J)<|dt (Zz (i:=82) J J J Lt Xb J J)<|tt (Zh (n:=6) (Qt _ _ _ _ x (Gi x y) hs hgs (by omega) (by rw [hga];omega) hg0) J J J K2 Mm (Zb 1 J J J (Zb 81 J J J Ze)) J hw) fun g hg=>mv J<|dt (Yf J J J)<|dt (Yf J J J)<|tt (Zm (i:=3) J J J J J (by decide) J Xb J J ⟨Zd J,Zt (i:=6) J Zi,trivial⟩ J hw trivial) fun _ _=>Zf<|Za<|Zc<|Zg<|dt (Zz (i:=4) J J J Lt Xb J J)<|dt (Zz (i:=82) J J J Lt Xb J J)<|tt (Zh (n:=8) (Qt _ _ _ _ y (Gi x y) ht hgs (by omega) (by rw [hga];omega) hg0) J J J K2 Mm (Zb 2 J J J (Zb 81 J J J Ze)) J hw) fun g_2 hg_2=>mv J ?_
  refine dt (Yf J J J)<|dt (Yf J J J)<|tt (Zm (i:=4) J J J J J (by decide) J Xb J J ⟨Zd J,Zt (i:=8) J Zi,trivial⟩ J hw trivial) fun _ _=>Zf<|Za<|Zc<|Zg<|dt (Zz (i:=3) J J J Lt Xb J J)<|tt (Zh (n:=9) (Kl _ _ _ ‹_›) J J J K1 call128 (Zb 6 J J J Ze) J hw) fun _ _=>mv J<|dt (Yf J J J)<|dt (Yf J J J)<|tt (Zo (i:=10) J J zeroValue31 J J hw) fun b_5 _=>tt (Zm (i:=10) J J J J J (by decide) J Yj J J ⟨Zd J,Zd J,trivial⟩ J hw trivial) fun _ _=>as_ J<|Zf<|Za<|Zc<|Zg<|dt (Zz (i:=4) J J J Lt Xb J J)<|tt (Zh (n:=10) (Kl _ _ _ ‹_›) J J J K1 call128 (Zb 8 J J J Ze) J hw) fun _ _=>mv J<|dt (Yf J J J)<|dt (Yf J J J)<|tt (Zo (i:=11) J J zeroValue31 J J hw) fun b_6 _=>tt (Zm (i:=11) J J J J J (by decide) J Yj J J ⟨Zd J,Zd J,trivial⟩ J hw trivial) fun _ _=>as_ J<|Zf<|Za<|Zc<|Zc<|Zg<|mv J<|dt (Qb J J J)<|mv J<|Qu (d:=43) J (fun s460=>?_) (fun s460=>?_)
  ·exact gsk J J J<|gsk J J J<|dt (Xh J J J)<|Zf<|Za<|Ov J<|Zc<|Zg<|dt (Pz (ivs:=[]) J trivial (fun a w hs=>b41_))<|tt (Zm (i:=5) J J J J J (by decide) J Xz J J ⟨Zd J,Zd J,Zd J,Zd J,trivial⟩ J hw trivial) fun _ _=>as_ J<|Zf<|Za<|Zv<|Xc<|Yn (.inl J) hsc () _ (fun a w hs=>Np hs results163 (Yr (i:=5) J J Pv Xz J) J) (Ba (by unfold It;first | exact .inl (Ck ‹_›) | exact .inr (Ck ‹_›))) trivial J Zk
  ·refine gdt (Ym J J) J J<|gdt (Qb J J J) J J<|dt (Yh J J J)<|Zf<|Za<|Zq J (fun h460=>?_) (fun h460=>?_)
   ·exact Zc<|Zg<|dt (Pz (ivs:=[]) J trivial (fun a w hs=>b41_))<|tt (Zm (i:=5) J J J J J (by decide) J Xz J J ⟨Zd J,Zd J,Zd J,Zd J,trivial⟩ J hw trivial) fun _ _=>as_ J<|Zf<|Za<|Zv<|Xc<|Yn (.inl J) hsc () _ (fun a w hs=>Np hs results163 (Yr (i:=5) J J Pv Xz J) J) (Ba (by unfold It;first | exact .inl (Ck ‹_›) | exact .inr (Ck ‹_›))) trivial J Zk
   ·exact Zj<|Za<|Zc<|Zg<|dt (Zz (i:=10) J J J Qj Yj J J)<|dt (Zz (i:=11) J J J Qj Yj J J)<|dt (Pz (ivs:=[(0,_),(1,_)]) J K4 (fun a w hs=>Zfd))<|tt (Zm (i:=5) J J J J J (by decide) J Xz J J ⟨Zd J,Zd J,Zd J,Zd J,trivial⟩ J hw trivial) fun _ _=>as_ J<|Zf<|Za<|Zv<|Yn (.inl J) hsc () _ (fun a w hs=>Np hs results163 (Yr (i:=5) J J Pv Xz J) J) (Zni (Decidable.byContradiction ‹_›) (Decidable.byContradiction ‹_›)) trivial J Zk
 ·refine Yp J (Zo (i:=82) J J zeroValue154 J J hw) fun b_7 _=>Zy (n:=0) [(6,1),(7,0),(9,3)]<|r1' J (Zh (n:=81) (Zls _ _ _ _) J J J K2 call185 (Zb 1 J J J (Zb 2 J J J Ze)) J hw) fun v_2 _=>r0' J J (st0 (Pz (ivs:=[(0,_),(1,_)]) J K4 (fun a w hs=>Nb ((Zd J) a w hs) ((Zt (i:=81) J Zi) a w hs))))<|r3' J (Zm (i:=82) J J J J J (by decide) J Xb J J ⟨Zd J,Zt (i:=81) J Zi,trivial⟩ J hw trivial) fun _ _=>Yo<|Yg<|Za<|Zc<|Yl (Gp 81 (Zsz _ x y) J J)<|Zg<|dt (Zz (i:=3) J J J Lt Xb J J)<|dt (Zz (i:=82) J J J Lt Xb J J)<|tt (Zh (n:=12) (Qt _ _ _ _ x (Gi x y) hs hgs (by omega) (by rw [hga];omega) hg0) J J J K2 Mm (Zb 1 J J J (Zb 81 J J J Ze)) J hw) fun g_3 hg_3=>mv J<|dt (Yf J J J)<|dt (Yf J J J)<|tt (Zm (i:=3) J J J J J (by decide) J Xb J J ⟨Zd J,Zt (i:=12) J Zi,trivial⟩ J hw trivial) fun _ _=>Zf<|Za<|Zc<|Zg<|dt (Zz (i:=4) J J J Lt Xb J J)<|dt (Zz (i:=82) J J J Lt Xb J J)<|tt (Zh (n:=14) (Qt _ _ _ _ y (Gi x y) ht hgs (by omega) (by rw [hga];omega) hg0) J J J K2 Mm (Zb 2 J J J (Zb 81 J J J Ze)) J hw) fun g_4 hg_4=>mv J ?_
  refine dt (Yf J J J)<|dt (Yf J J J)<|tt (Zm (i:=4) J J J J J (by decide) J Xb J J ⟨Zd J,Zt (i:=14) J Zi,trivial⟩ J hw trivial) fun _ _=>Zf<|Za<|Zc<|Zg<|dt (Zz (i:=3) J J J Lt Xb J J)<|tt (Zh (n:=15) (Kl _ _ _ ‹_›) J J J K1 call128 (Zb 12 J J J Ze) J hw) fun _ _=>mv J<|dt (Yf J J J)<|dt (Yf J J J)<|tt (Zo (i:=16) J J zeroValue31 J J hw) fun b_8 _=>tt (Zm (i:=16) J J J J J (by decide) J Yj J J ⟨Zd J,Zd J,trivial⟩ J hw trivial) fun _ _=>as_ J<|Zf<|Za<|Zc<|Zg<|dt (Zz (i:=4) J J J Lt Xb J J)<|tt (Zh (n:=16) (Kl _ _ _ ‹_›) J J J K1 call128 (Zb 14 J J J Ze) J hw) fun _ _=>mv J<|dt (Yf J J J)<|dt (Yf J J J)<|tt (Zo (i:=17) J J zeroValue31 J J hw) fun b_9 _=>tt (Zm (i:=17) J J J J J (by decide) J Yj J J ⟨Zd J,Zd J,trivial⟩ J hw trivial) fun _ _=>as_ J<|Zf<|Za<|Zc<|Zc<|Zg<|mv J<|dt (Qb J J J)<|mv J<|Qu (d:=43) J (fun s460_2=>?_) (fun s460_2=>?_)
  ·exact gsk J J J<|gsk J J J<|dt (Xh J J J)<|Zf<|Za<|Ov J<|Zc<|Zg<|dt (Pz (ivs:=[]) J trivial (fun a w hs=>b41_))<|tt (Zm (i:=5) J J J J J (by decide) J Xz J J ⟨Zd J,Zd J,Zd J,Zd J,trivial⟩ J hw trivial) fun _ _=>as_ J<|Zf<|Za<|Zv<|Xc<|Yn (.inl J) hsc () _ (fun a w hs=>Np hs results163 (Yr (i:=5) J J Pv Xz J) J) (Ba (by unfold It;first | exact .inl (Ck ‹_›) | exact .inr (Ck ‹_›))) trivial J Zk
  ·refine gdt (Ym J J) J J<|gdt (Qb J J J) J J<|dt (Yh J J J)<|Zf<|Za<|Zq J (fun h460_2=>?_) (fun h460_2=>?_)
   ·exact Zc<|Zg<|dt (Pz (ivs:=[]) J trivial (fun a w hs=>b41_))<|tt (Zm (i:=5) J J J J J (by decide) J Xz J J ⟨Zd J,Zd J,Zd J,Zd J,trivial⟩ J hw trivial) fun _ _=>as_ J<|Zf<|Za<|Zv<|Xc<|Yn (.inl J) hsc () _ (fun a w hs=>Np hs results163 (Yr (i:=5) J J Pv Xz J) J) (Ba (by unfold It;first | exact .inl (Ck ‹_›) | exact .inr (Ck ‹_›))) trivial J Zk
   ·exact Zj<|Za<|Zc<|Zg<|dt (Zz (i:=16) J J J Qj Yj J J)<|dt (Zz (i:=17) J J J Qj Yj J J)<|dt (Pz (ivs:=[(0,_),(1,_)]) J K4 (fun a w hs=>Zfd))<|tt (Zm (i:=5) J J J J J (by decide) J Xz J J ⟨Zd J,Zd J,Zd J,Zd J,trivial⟩ J hw trivial) fun _ _=>as_ J<|Zf<|Za<|Zv<|Yn (.inl J) hsc () _ (fun a w hs=>Np hs results163 (Yr (i:=5) J J Pv Xz J) J) (Zni (Decidable.byContradiction ‹_›) (Decidable.byContradiction ‹_›)) trivial J Zk
theorem Zfu(x y:Int)(hx:bl x.natAbs≤65536)(hy:bl y.natAbs≤65536)(hy0:y≠0:=by omega):Ml prog 119 #[wv x,wv y] [] (Zcn x y):=by
 refine Ya func119 J ntmps119 J trivial ?_
 intro w0 sc hw hsc
 simp only [Zp,Zn]
 refine Zc<|Zg<|tt (Xe (i:=1) J J J J J hw) fun b _=>tt (Xe (i:=2) J J J J J hw) fun b_2 _=>tt (Zo (i:=3) J J zeroValue41 J J hw) fun b_3 _=>as_ J<|Zf<|Za<|Zc<|Zc<|Zg<|dt (Zz (i:=1) J J J Qj Yj J J)<|dt (Zz (i:=2) J J J Qj Yj J J)<|tt (Zh (n:=3) (Lu _ _ ‹_› ‹_›) J J J K2 call129 Ze J hw) fun _ _=>dt (Xp J J)<|Zf<|Za<|Ye J<|Zj<|Za<|Zc<|Zc<|Zg<|dt (Xx J J Zcw J zT9 J J)<|dt (Ok (i:=2) J J J iA9 J)<|dt (Zkh J J J J)<|Zf<|Za<|Zq J (fun h471=>?_) (fun h471=>?_)
 ·rw [Mw]at h471
  exfalso;exact hy0 (by have:=(Ph (by omega:2≤256) y.natAbs).1 h471;omega)
 ·refine Zj<|Za<|Zc<|Ql (fun _=>False) [(0,0),(2,0),(1,1),(3,1),(4,1),(5,0),(6,0),(7,3),(8,3)] ?_ ?_
  ·kernel_rfl
  exact r0' J J (st0 (Zz (i:=1) J J J Qj Yj J J))<|r0' J J (st0 (Zz (i:=2) J J J Qj Yj J J))<|r1' J (Zh (n:=4) (Pb _ _ (Xl _)) J J J K1 Lj Ze J hw) fun g hg=>r1' J (Zh (n:=5) (Pb _ _ (Xl _)) J J J K1 Lj Ze J hw) fun g_2 hg_2=>r1' J (Zh (n:=5) (Ab _ _ _ _ _ _ ‹_› ‹_› hy0) J J J K2 call163 (Zb 4 J J J (Zb 5 J J J Ze)) J hw) fun _ _=>r0' J J (st0 (Yf J J J))<|r0' J J (st0 (Yf J J J))<|r3' J (Zm (i:=3) J J J J J (by decide) J Xz J J ⟨Zd J,Zd J,Zd J,Zd J,trivial⟩ J hw trivial) fun _ _=>r3' J (Px (Lq J J) J) fun _ _=>Og<|Za<|Zv<|Yn (.inl J) hsc () _ (fun a w hs=>Np hs results119 (Yr (i:=3) J J Pv Xz J) J) J trivial J Zk
theorem Zdw(b:Bool)(s:ByteArray)(c:Bool)(t:ByteArray):Ml prog 117 #[.agg #[.bool b,.string s,.bool c,.string t]] [] (.bool (okR b s c t)):=by
 refine Ya func117 J ntmps117 J trivial ?_
 intro w0 sc hw hsc
 simp only [Zp,Zn]
 refine Zc<|Zg<|tt (Xe (i:=1) J J J J J hw) fun b _=>as_ J<|Zf<|Za<|Zc<|Zg<|dt (Xx J J Zac J Yj J J)<|dt (Zz (i:=1) J J J Qj Yj J J)<|dt (Xx J J Zac J Yj J J)<|dt (Zz (i:=1) J J J Qj Yj J J)<|tt (Zh (n:=1) (Ziy _ _ _ _) J J J K2 call129 Ze J hw) fun _ _=>mv J<|Za5 (d:=8) J (fun s451=>?_) (fun s451=>?_)
 ·have hcc:okW c t=true:=by simp_all
  have hok:=Znw hcc
  obtain⟨hk1,hk2,hk3⟩:=Classical.choose_spec hok
  generalize Classical.choose hok=z at hk1 hk2 hk3 ⊢
  subst hk2;subst hk3
  try clear hok
  exact gdt (Xx J J Zac J Yj J J) J J<|gdt (Zz (i:=1) J J J Qj Yj J J) J J<|gtt (Zh (n:=1) (Mo z hk1) J J J K1 call104 Ze J hw) J J J fun _ _=>gdt (Oq J J J) J J<|dt (Xh J J J)<|as_ J<|Zf<|Za<|Zv<|xU hsc results117 J J (by first | rw [Znx (by simp_all) hk1] | (unfold okR;simp_all))
 ·exact gsk J J J<|gsk J J J<|gsk J J J<|gsk J J J<|dt (Yh J J J)<|as_ J<|Zf<|Za<|Zv<|xU hsc results117 J J (by first | rw [Znx (by simp_all) hk1] | (unfold okR;simp_all))
theorem Qr(x y:Int)(hy0:0<y)(hx:bl x.natAbs≤65536:=by omega)(hy:bl y.natAbs≤65536:=by omega):Cal prog 117 #[rX x y] [] false (G:=Unit) (fun _=>True) (fun _=> .bool true) (fun _=>[]):=okR_wv hx hy hy0▸Zdw _ _ _ _
theorem Xd(x:Int)(hx:inI x):Ml prog 81 #[.int .i64 x] [] (wv x):=by
 refine Ya func81 J ntmps81 J trivial ?_
 intro w0 sc hw hsc
 simp only [Zp,Zn]
 have hxa:=hx.1
 have hxb:=hx.2
 have hxU:x.natAbs<U:=by simp only [U];omega
 have hxl:bl x.natAbs≤64:=(Me 64 _).2 (by rw [←U_eq];exact hxU)
 refine Zc<|Zg<|tt (Zo (i:=1) J J zeroValue31 J J hw) fun b _=>Zf<|Za<|Zc<|Zg<|mv J<|dt (cv_u64i (r:=x%18446744073709551616) J J uT3 Zd0 J)<|as_ J<|Zf<|Za<|Dj [(0,_),(2,_)] [(0,_),(1,_)] (fun(_:Unit)=>[(3,.int .u64 ((x.natAbs:Nat):Int))]) (fun(_:Unit)=>[]) (fun(_:Unit)=>True) K2 K2 ?_ ?_
 ·refine Zc<|Zg<|mv J<|dt (Xu J J J)<|Zf<|Za<|Zq J (fun h276=>?_) (fun h276=>?_)
  ·exact Zg<|mv J<|dt (u_negm (r:=x.natAbs) J J (by omega))<|as_ J<|Zf<|Qy () trivial ⟨by first | rfl | (rw [show x%18446744073709551616=((x.natAbs:Nat):Int) by omega];rfl),rfl,rfl,trivial⟩ K2
  ·exact Zj<|Qy () trivial ⟨by first | rfl | (rw [show x%18446744073709551616=((x.natAbs:Nat):Int) by omega];rfl),rfl,rfl,trivial⟩ K2
 ·rintro _ -
  simp only [CA,NA]
  exact Zc<|Zg<|mv J<|dt (Xu J J J)<|mv J<|tt (Pn (i:=2) (ivs:=[(0,_)]) (enc:=Iz) [x.natAbs] J J K2 Xv ti149 J J J J J pU.cells J J hw) fun v _=>tt (Zh (n:=2) (Oi _ _) J J J K1 call127 (Xw 2 J J pU Ze) J hw) fun _ _=>Pr (Zf1 2 J J pU)<|Pr (Zcx 2 (Zd2 hxU) J J)<|dt (Pz (ivs:=[(0,_),(1,_)]) J K4 (fun a w hs=>Nb ((Zd J) a w hs) ((Zt (i:=2) J (Yq pU)) a w hs)))<|tt (Zh (n:=2) (Kl _ _ x (Xl _)) J J J K1 call128 (Xw 2 J J pU Ze) J hw) fun _ _=>mv J<|dt (Yf J J J)<|dt (Yf J J J)<|tt (Zo (i:=3) J J zeroValue31 J J hw) fun b_2 _=>tt (Zm (i:=3) J J J J J (by decide) J Yj J J ⟨Zd J,Zd J,trivial⟩ J hw trivial) fun _ _=>as_ J<|Zf<|Za<|Zc<|Zg<|dt (Zz (i:=3) J J J Qj Yj J J)<|tt (Zm (i:=1) J J J J J (by decide) J Yj J J ⟨Zd J,Zd J,trivial⟩ J hw trivial) fun _ _=>Zf<|Za<|Zv<|Yn (.inl J) hsc () _ (fun a w hs=>Nn hs results81 (Yr (i:=1) J J Qj Yj J)) (by rw [Oz (by omega)]<;>rfl) trivial J Zk
theorem Zas(v:Value)(xs:List Int)(hs:Sz 65536 xs):Cal prog 152 #[v] [slp 2 wv v xs] true (G:=Unit) (fun _=>True) (fun _=>Fs v (tzl xs).length) (fun _=>[slp 2 wv (Fs v (tzl xs).length) (tzl xs)]):=by
 refine Ya func152 J ntmps152 J K1 ?_
 intro w0 sc hw hsc
 simp only [Zp,Zn]
 refine Mc (Zti (i:=1) J Zi) fun hself=>Mc (Gj (i:=1) J Zi) fun hlen=>Zc<|Zg<|as_ J<|Zf<|Za<|Zc<|Zl<|Nt [] [(0,_)] (fun(k:Nat)=>[(0,Fs v k)]) (fun(k:Nat)=>[(1,slp 2 wv (Fs v k) (xs.take k))]) (fun(k:Nat)=>(k≤xs.length)∧(tzl (xs.take k)=tzl xs)) (fun(k:Nat)=>k) xs.length ⟨Nat.le_refl _,by rw [List.take_length]⟩ ⟨by rw [hself];rfl,trivial⟩ ⟨by rw [hself,List.take_length];rfl,rfl,trivial⟩ ?_
 rintro k ⟨hk,ht⟩
 simp only [CA,NA]
 have hl:(xs.take k).length=k:=by rw [List.length_take];omega
 refine Zc<|Zc<|Zg<|mv J<|dt (Yb J J (i:=1) J Zi Qp)<|dt (Oq J J J)<|mv J<|Qu (d:=6) J (fun s35=>?_) (fun s35=>?_)
 ·refine gdt (Ym J J) J J<|gdt (Ym J J) J J<|gdt (Yb J J (i:=1) J Zi Qp) J J<|gdt (Qa J J J ⟨by omega,by omega⟩) J J<|gdt (Yw (ii:=1) (i:=k-1) J J J J Zi Qp Yj) J J<|gdt (Xm (ii:=1) 0 J J J Zi pV) J J<|gtt (Zh (n:=1) (Mo _ ((hs.take _).getD _)) J J J K1 call104 Ze J hw) J J J fun _ _=>gdt (Pm J J J) J J<|dt (Xh J J J)<|Zf<|Za<|Zq J (fun h35=>?_) (fun h35=>?_)
  ·have hstep:=Zmx hk (by omega) (Zfw (k:=k) (by omega) (Int.sign_eq_zero_iff_zero.1 ‹_›):cf xs (k-1)=0)
   exact Zj<|Za<|Zl<|Zg<|mv J<|mv J<|dt (Yb J J (i:=1) J Zi Qp)<|dt (Qa J J J ⟨by omega,by omega⟩)<|dt (Zx3 (ii:=1) (i:=k-1) J J J J Zi Qp Yj)<|as_ J<|Zf<|Oa<|Qv (s_pre 1 1 (k-1) J J)<|Xk (k-1) ⟨by first | omega | (dsimp only<;>omega),by rw [←ht,←hstep]⟩ (by first | omega | (dsimp only<;>omega)) ⟨by rw [←Hi v k (k-1)];rfl,trivial⟩ ⟨by rw [Hi,List.take_take,Nat.min_eq_left (by omega)];rfl,rfl,trivial⟩
  ·refine Yu<|Zu<|Zu<|Ox<|Za<|Zc<|Zg<|mv J<|as_ J<|Zf<|Za<|Zv ?_
   have hx:tzl xs=xs.take k:=by rw [←ht];exact Zc3 hk (by first | (left;omega) | (right;exact Zc4 (k:=k) (by omega) ‹_›))
   exact Yn (.inl J) hsc () _ (fun a w hs=>Nn hs results152 J) (by rw [hx,hl]) trivial J (Yk 1 J J J (by rw [hx,hl]) Zk)
 ·refine gsk J J J<|gsk J J J<|gsk J J J<|gsk J J J<|gsk J J J<|gsk J J J<|gsk J J J<|gsk J J J<|dt (Yh J J J)<|Zf<|Za<|Ye J<|Yu<|Zu<|Zu<|Ox<|Za<|Zc<|Zg<|mv J<|as_ J<|Zf<|Za<|Zv ?_
  have hx:tzl xs=xs.take k:=by rw [←ht];exact Zc3 hk (by first | (left;omega) | (right;exact Zc4 (k:=k) (by omega) ‹_›))
  exact Yn (.inl J) hsc () _ (fun a w hs=>Nn hs results152 J) (by rw [hx,hl]) trivial J (Yk 1 J J J (by rw [hx,hl]) Zk)
theorem Zf8(v:Value)(r:List (Bool×ByteArray)):Ml prog 49 #[v] [slp 2 Zie v r] (.bool (okP r)):=by
 refine Ya func49 J ntmps49 J K1 ?_
 intro w0 sc hw hsc
 simp only [Zp,Zn]
 refine Mc (Gj (i:=1) J Zi) fun hlen=>Zc<|Zg<|as_ J<|Zf<|Za<|Zc<|Zc<|Zg<|mv J<|dt (Yb J J (i:=1) J Zi Qp)<|mv J<|Zf<|Za<|Zl<|Nt [(0,_),(5,_),(6,_)] [(0,_),(1,_)] (fun(k:Nat)=>[(7,.int .i64 (k:Int))]) (fun(k:Nat)=>[]) (fun(k:Nat)=>(k≤r.length)∧((r.take k).all (fun w=>okW w.1 w.2)=true)) (fun(k:Nat)=>r.length-k) 0 ⟨by first | omega | (dsimp only<;>omega),by simp⟩ K4 K2 ?_
 rintro k ⟨hk,ha⟩
 simp only [CA,NA]
 refine Zc<|Zg<|dt (Xu J J J)<|Zf<|Za<|Zc<|Zq J (fun h51=>?_) (fun h51=>?_)
 ·refine Zj<|Za<|Zc<|Zl<|Zc<|Zg<|dt (Yw (ii:=1) J J J J Zi Qp Yj J (by first | omega | (simp only [List.length_set];omega)))<|dt (Xm (ii:=1) (false,⟨#[]⟩) J J J Zi pW (by first | omega | (simp only [List.length_set];omega)))<|tt (Zo (i:=2) J J zeroValue31 J J hw) fun b _=>tt (Zm (i:=2) J J J J J (by decide) J Yj J J ⟨Zd J,Zd J,trivial⟩ J hw trivial) fun _ _=>Zf<|Za<|Zc<|Zg<|dt (Zz (i:=2) J J J Qj Yj J J)<|tt (Zh (n:=2) (Ft _ _) J J J K1 Zft Ze J hw) fun _ _=>dt (Xp J J)<|Zf<|Za<|Lm J (fun h52=>?_) (fun h52=>?_)
  ·exact Zc<|Zg<|as_ J<|Zf<|Za<|Zv<|Hf<|Xc<|Xc<|Hf<|Xc<|xU hsc results49 J J (by rw [Zsc (Yv (i:=k) (d:=(false,⟨#[]⟩))) (by simp_all)])
  ·exact Zj<|Oa<|Za<|Zg<|dt (Ys J J J ⟨by omega,by omega⟩)<|mv J<|Zf<|Xk (k+1) ⟨by first | omega | (dsimp only<;>omega),by rw [Of (false,⟨#[]⟩) _ _ (by omega),List.all_append,ha];simpa using h52⟩ (by first | omega | (dsimp only<;>omega)) K4 K2
 ·refine Yu<|Zu<|Zu<|Ox<|Za<|Zc ?_
  obtain rfl:k=r.length:=by omega
  rw [List.take_length]at ha
  obtain⟨xs,hxs,rfl⟩:=Znv (List.all_eq_true.1 ha)
  have hsz:=Sz.of_mem hxs
  rw [List.length_map]at hlen
  refine Yl (Zna 1 (q:=slp 2 wv v xs) J J (Zg9 v xs) (fun _ h=>h) J)<|Zg<|mv J<|dt (Yb J J (i:=1) J Zi Qp)<|dt (Co J J J)<|mv J<|Qu (d:=18) J (fun s56=>?_) (fun s56=>?_)
  ·refine gdt (Ym J J) J J<|gdt (Yb J J (i:=1) J Zi Qp) J J<|gdt (Pm J J J) J J<|gdt (Ym J J) J J<|Qu (d:=22) J (fun s56_2=>?_) (fun s56_2=>?_)
   ·exact gsk J J J<|gsk J J J<|gsk J J J<|gsk J J J<|gsk J J J<|gsk J J J<|gsk J J J<|gsk J J J<|gdt (Xh J J J) J J<|dt (Xh J J J)<|as_ J<|Zf<|Za<|Zv<|xU hsc results49 J J (by rw [Zlp hxs];first | (simp_all;done) | (simp_all;omega))
   ·exact gdt (Ym J J) J J<|gdt (Ym J J) J J<|gdt (Yb J J (i:=1) J Zi Qp) J J<|gdt (Qa J J J ⟨by omega,by omega⟩) J J<|gdt (Yw (ii:=1) (i:=xs.length-1) J J J J Zi Qp Yj) J J<|gdt (Xm (ii:=1) 0 J J J Zi pV) J J<|gtt (Zh (n:=2) (Mo _ (hsz.getD _)) J J J K1 call104 Ze J hw) J J J fun _ _=>gdt (Qb J J J) J J<|gdt (Yh J J J) J J<|dt (Xh J J J)<|as_ J<|Zf<|Za<|Zv<|xU hsc results49 J J (by rw [Zlp hxs];first | (simp_all;done) | (simp_all;omega))
  ·exact gsk J J J<|gsk J J J<|gsk J J J<|gsk J J J<|Zj2 J J<|Zj2 J J<|Zj2 J J<|Zj2 J J<|Zj2 J J<|Zj2 J J<|Zj2 J J<|Zj2 J J<|gsk J J J<|dt (Yh J J J)<|as_ J<|Zf<|Za<|Zv<|xU hsc results49 J J (by rw [Zlp hxs];first | (simp_all;done) | (simp_all;omega))
theorem Xq(v:Value)(xs:List Int)(h:Vp xs):Cal prog 49 #[v] [slp 2 wv v xs] false (G:=Unit) (fun _=>True) (fun _=> .bool true) (fun _=>[]):=okP_wr h▸(Zf8 v (xs.map wr)).imp (Zq1 v xs) (fun _ h=>h)
theorem Nw(v:Value)(xs:List Int)(hs:Sz 65536 xs):Ml prog 149 #[v] [slp 2 wv v xs] (.int .i64 (msz xs:Int)):=by
 refine Ya func149 J ntmps149 J K1 ?_
 intro w0 sc hw hsc
 simp only [Zp,Zn]
 refine Mc (Gj (i:=1) J Zi) fun hlen=>Zc<|Zg<|as_ J<|Zf<|Za<|Zc<|Zg<|as_ J<|Zf<|Za<|Zc<|Zc<|Zg<|mv J<|dt (Yb J J (i:=1) J Zi uT22)<|mv J<|Zf<|Za<|Zl<|Nt [(6,_),(7,_)] [(0,_),(1,_)] (fun(k:Nat)=>[(8,.int .i64 (k:Int)),(3,.int .i64 (msz (xs.take k):Int))]) (fun(k:Nat)=>[]) (fun(k:Nat)=>k≤xs.length) (fun(k:Nat)=>xs.length-k) 0 (by first | omega | (dsimp only<;>omega)) K4 K2 ?_
 rintro k hk
 simp only [CA,NA]
 refine Zc<|Zg<|dt (Xu J J J)<|Zf<|Za<|Zc<|Zq J (fun h83=>?_) (fun h83=>?_)
 ·exact Zj<|Za<|Zc<|Zl<|Zc<|Zg<|dt (Yw (ii:=1) J J J J Zi uT22 Yj J (by first | omega | (simp only [List.length_set];omega)))<|dt (Xm (ii:=1) 0 J J J Zi pV (by first | omega | (simp only [List.length_set];omega)))<|tt (Zo (i:=2) J J zeroValue31 J J hw) fun b _=>tt (Zm (i:=2) J J J J J (by decide) J Yj J J ⟨Zd J,Zd J,trivial⟩ J hw trivial) fun _ _=>Zf<|Za<|Zg<|mv J<|dt (Zz (i:=2) J J J Qj Yj J J)<|tt (Zh (n:=2) (Zgt _ (hs.getD _)) J J J K1 call145 Ze J hw) fun _ _=>dt (Zt6 J J J)<|as_ J<|Zf<|Oa<|Za<|Zg<|dt (Ys J J J ⟨by omega,by omega⟩)<|mv J<|Zf<|Xk (k+1) (by first | omega | (dsimp only<;>omega)) (by first | omega | (dsimp only<;>omega)) ⟨J,by rw [Of 0 _ _ (by omega),Znz];exact congrArg some (Dr (by omega)),rfl,rfl,trivial⟩ K2
 ·exact Yu<|Zu<|Zu<|Ox<|Za<|Zc<|Zg<|mv J<|as_ J<|Zf<|Za<|Zv<|xU hsc results149 J J (by rw [List.take_of_length_le (by omega)])
theorem Zod(bd:Nat)(t:TypeId)(e e2:Int)(n:Bool)(s:ByteArray):Zqc prog 175 #[.pointer (some ⟨bd,0,none⟩),.agg #[.bool n,.string s],.int .i64 e2] [] false bd t #[.int .i64 e] (G:=Unit) (fun _=>True) (fun _=> .agg #[.bool n,.string s]) (fun _=>#[.int .i64 (if e=0 then e2 else e)]) (fun _=>[]):=by
 refine Zcf func175 J ntmps175 J trivial ?_
 intro w0 sc hw hsc
 simp only [Zp,Zn]
 refine Zc<|Zg<|tt (Xe (i:=2) J J J J J hw) fun b _=>tt (Zo (i:=3) J J zeroValue31 J J hw) fun b_2 _=>Zf<|Za<|Zc<|Zc<|Zg<|mv J<|dt (Zfp J J)<|dt (Xx J J Zkw J Gr J J)<|dt (Ok (i:=1) J J J Ax J)<|dt (Pm J J J)<|Zf<|Za<|Zq J (fun h19=>?_) (fun h19=>?_)
 ·exact Zg<|mv J<|mv J<|dt (Zfp J J)<|dt (Xx J J Zkw J Gr J J)<|tt (Zm (i:=1) J J J J J (by decide) J Gr J J ⟨Zd J,trivial⟩ J hw trivial) fun _ _=>Zf<|Za<|Zc<|Zg<|dt (Zz (i:=2) J J J Qj Yj J J)<|tt (Zm (i:=3) J J J J J (by decide) J Yj J J ⟨Zd J,Zd J,trivial⟩ J hw trivial) fun _ _=>Zf<|Za<|Zv<|Zdv (.inl J) hsc () _ (fun a w hs=>Nn hs results175 (Yr (i:=3) J J Qj Yj J)) J trivial 1 J (by simp_all [Ap]) J J Zk
 ·exact Zj<|Za<|Zc<|Zg<|dt (Zz (i:=2) J J J Qj Yj J J)<|tt (Zm (i:=3) J J J J J (by decide) J Yj J J ⟨Zd J,Zd J,trivial⟩ J hw trivial) fun _ _=>Zf<|Za<|Zv<|Zdv (.inl J) hsc () _ (fun a w hs=>Nn hs results175 (Yr (i:=3) J J Qj Yj J)) J trivial 1 J (by simp_all [Ap]) J J Zk
theorem d_mul_(bd:Nat)(e x y:Int)(hx:bl x.natAbs≤65536)(hy:bl y.natAbs≤65536):Zqc prog 153 #[.pointer (some ⟨bd,0,none⟩),wv x,wv y] [] false bd 167 #[.int .i64 e] (G:=Unit) (fun _=>True) (fun _=>wv (Zgm (x*y))) (fun _=>#[.int .i64 (err e (x*y))]) (fun _=>[]):=by
 refine Zcf func153 J ntmps153 J trivial ?_
 intro w0 sc hw hsc
 simp only [Zp,Zn]
 refine Zc<|Zg<|tt (Xe (i:=2) J J J J J hw) fun b _=>tt (Xe (i:=3) J J J J J hw) fun b_2 _=>tt (Zo (i:=4) J J zeroValue31 J J hw) fun b_3 _=>Zf<|Za<|Zc<|Ql (fun x=>x=bd) [(0,0),(1,0),(2,0),(3,0),(4,0),(5,1),(6,0),(7,0),(8,1),(9,3)] ?_ ?_
 ·kernel_rfl
 exact r0' J J (st1 1 J (Ym J J))<|r0' J J (st1 1 J (Zfp J J))<|r0' J J (st1 1 J (Xx J J Zg1 J Zgr J J))<|r0' J J (st1 1 J (Zz (i:=2) J J J Qj Yj J J))<|r0' J J (st1 1 J (Zz (i:=3) J J J Qj Yj J J))<|r1' J (Zh (n:=4) (Et _ _ ‹_› ‹_›) J J J K2 call139 Ze J hw) fun _ _=>r0' J J (st1 1 J (Yf J J J))<|r0' J J (st1 1 J (Yf J J J))<|r1' J (Om (n:=4) (i:=1) (Zod _ _ _ _ _ _) J J J K3 call175 J (by decide) Ze J hw J) fun _ _=>r3' J (Zm (i:=4) J J J J J (by decide) J Yj J J ⟨Zd J,Zd J,trivial⟩ J hw trivial) fun _ _=>Og<|Za<|Zv<|Zdv (.inl J) hsc () _ (fun a w hs=>Nn hs results153 (Yr (i:=4) J J Qj Yj J)) J trivial 1 J J J J Zk
theorem El(bd:Nat)(x y:Int)(hx:bl x.natAbs≤65536)(hy:bl y.natAbs≤65536)(hz:bl (x*y).natAbs≤65536):Zqc prog 153 #[.pointer (some ⟨bd,0,none⟩),wv x,wv y] [] false bd 167 #[.int .i64 0] (G:=Unit) (fun _=>True) (fun _=>wv (x*y)) (fun _=>#[.int .i64 0]) (fun _=>[]):=by
 have h:=d_mul_ bd 0 x y hx hy
 rw [Oz hz,Zto hz]at h;exact h
theorem d_add_(bd:Nat)(e x y:Int)(hx:bl x.natAbs≤65536)(hy:bl y.natAbs≤65536):Zqc prog 159 #[.pointer (some ⟨bd,0,none⟩),wv x,wv y] [] false bd 167 #[.int .i64 e] (G:=Unit) (fun _=>True) (fun _=>wv (Zgm (x+y))) (fun _=>#[.int .i64 (err e (x+y))]) (fun _=>[]):=by
 refine Zcf func159 J ntmps159 J trivial ?_
 intro w0 sc hw hsc
 simp only [Zp,Zn]
 refine Zc<|Zg<|tt (Xe (i:=2) J J J J J hw) fun b _=>tt (Xe (i:=3) J J J J J hw) fun b_2 _=>tt (Zo (i:=4) J J zeroValue31 J J hw) fun b_3 _=>Zf<|Za<|Zc<|Ql (fun x=>x=bd) [(0,0),(1,0),(2,0),(3,0),(4,0),(5,1),(6,0),(7,0),(8,1),(9,3)] ?_ ?_
 ·kernel_rfl
 exact r0' J J (st1 1 J (Ym J J))<|r0' J J (st1 1 J (Zfp J J))<|r0' J J (st1 1 J (Xx J J Zg1 J Zgr J J))<|r0' J J (st1 1 J (Zz (i:=2) J J J Qj Yj J J))<|r0' J J (st1 1 J (Zz (i:=3) J J J Qj Yj J J))<|r1' J (Zh (n:=4) (Gs _ _ ‹_› ‹_›) J J J K2 call82 Ze J hw) fun _ _=>r0' J J (st1 1 J (Yf J J J))<|r0' J J (st1 1 J (Yf J J J))<|r1' J (Om (n:=4) (i:=1) (Zod _ _ _ _ _ _) J J J K3 call175 J (by decide) Ze J hw J) fun _ _=>r3' J (Zm (i:=4) J J J J J (by decide) J Yj J J ⟨Zd J,Zd J,trivial⟩ J hw trivial) fun _ _=>Og<|Za<|Zv<|Zdv (.inl J) hsc () _ (fun a w hs=>Nn hs results159 (Yr (i:=4) J J Qj Yj J)) J trivial 1 J J J J Zk
theorem Zol(bd:Nat)(x y:Int)(hx:bl x.natAbs≤65536)(hy:bl y.natAbs≤65536)(hz:bl (x+y).natAbs≤65536):Zqc prog 159 #[.pointer (some ⟨bd,0,none⟩),wv x,wv y] [] false bd 167 #[.int .i64 0] (G:=Unit) (fun _=>True) (fun _=>wv (x+y)) (fun _=>#[.int .i64 0]) (fun _=>[]):=by
 have h:=d_add_ bd 0 x y hx hy
 rw [Oz hz,Zto hz]at h;exact h
theorem d_sub_(bd:Nat)(e x y:Int)(hx:bl x.natAbs≤65536)(hy:bl y.natAbs≤65536):Zqc prog 137 #[.pointer (some ⟨bd,0,none⟩),wv x,wv y] [] false bd 167 #[.int .i64 e] (G:=Unit) (fun _=>True) (fun _=>wv (Zgm (x-y))) (fun _=>#[.int .i64 (err e (x-y))]) (fun _=>[]):=by
 refine Zcf func137 J ntmps137 J trivial ?_
 intro w0 sc hw hsc
 simp only [Zp,Zn]
 refine Zc<|Zg<|tt (Xe (i:=2) J J J J J hw) fun b _=>tt (Xe (i:=3) J J J J J hw) fun b_2 _=>tt (Zo (i:=4) J J zeroValue31 J J hw) fun b_3 _=>Zf<|Za<|Zc<|Ql (fun x=>x=bd) [(0,0),(1,0),(2,0),(3,0),(4,0),(5,1),(6,0),(7,0),(8,1),(9,3)] ?_ ?_
 ·kernel_rfl
 exact r0' J J (st1 1 J (Ym J J))<|r0' J J (st1 1 J (Zfp J J))<|r0' J J (st1 1 J (Xx J J Zg1 J Zgr J J))<|r0' J J (st1 1 J (Zz (i:=2) J J J Qj Yj J J))<|r0' J J (st1 1 J (Zz (i:=3) J J J Qj Yj J J))<|r1' J (Zh (n:=4) (Zms _ _ ‹_› ‹_›) J J J K2 call140 Ze J hw) fun _ _=>r0' J J (st1 1 J (Yf J J J))<|r0' J J (st1 1 J (Yf J J J))<|r1' J (Om (n:=4) (i:=1) (Zod _ _ _ _ _ _) J J J K3 call175 J (by decide) Ze J hw J) fun _ _=>r3' J (Zm (i:=4) J J J J J (by decide) J Yj J J ⟨Zd J,Zd J,trivial⟩ J hw trivial) fun _ _=>Og<|Za<|Zv<|Zdv (.inl J) hsc () _ (fun a w hs=>Nn hs results137 (Yr (i:=4) J J Qj Yj J)) J trivial 1 J J J J Zk
theorem Zt1(bd:Nat)(x y:Int)(hx:bl x.natAbs≤65536)(hy:bl y.natAbs≤65536)(hz:bl (x-y).natAbs≤65536):Zqc prog 137 #[.pointer (some ⟨bd,0,none⟩),wv x,wv y] [] false bd 167 #[.int .i64 0] (G:=Unit) (fun _=>True) (fun _=>wv (x-y)) (fun _=>#[.int .i64 0]) (fun _=>[]):=by
 have h:=d_sub_ bd 0 x y hx hy
 rw [Oz hz,Zto hz]at h;exact h
theorem d_done(bd:Nat)(v:Value)(xs:List Int)(hs:Sz 65536 xs):Cal prog 154 #[.pointer (some ⟨bd,0,none⟩),v] [Zf5 bd 167 #[.int .i64 0],slp 2 wv v xs] true (G:=Unit) (fun _=>True) (fun _=> .tuple #[Fs v (tzl xs).length,.int .i64 0]) (fun _=>[slp 2 wv (Fs v (tzl xs).length) (tzl xs)]):=by
 refine Ya func154 J ntmps154 J K2 ?_
 intro w0 sc hw hsc
 simp only [Zp,Zn]
 refine Zc<|Zg<|as_ J<|as_ J<|Zf<|Za<|Zc<|Zc<|Zg<|mv J<|dt (Zfp J J)<|dt (Xx J J Zg1 J Zgr J J)<|dt (Xx J J Zkw J Gr J J)<|dt (Zx4 (i:=1) J J J Ax J)<|dt (Qb J J J)<|Zf<|Za<|Zq J (fun h43=>?_) (fun h43=>?_)
 ·exfalso;simp_all
 ·exact Zj<|Za<|Zc<|Zg<|mv J<|tt (Zh (n:=3) (Zas _ _ ‹_›) J J J K1 call152 (Zb 2 J J J Ze) J hw) fun _ _=>as_ J<|as_ J<|Zf<|Za<|Zv<|Yn (.inl J) hsc () _ (fun a w hs=>Np hs results154 J J) J trivial J (Xa 3 J J J Zk)
end Go.Sky

