/- Rules, arithmetic and contracts: part 16. No conditions but those that each theorem names. -/
import Derived.Test.YtcmiiammekgooaaGreatSp14
set_option linter.all false
set_option maxHeartbeats 4000000
namespace Go.Sky
open Go.Proofs.Tryz
open Go.Proofs
set_option maxRecDepth 20000
set_option maxHeartbeats 4000000
set_option linter.unusedSimpArgs false
theorem Zn3(v:Value)(m:Nat)(xs:List Int)(hv:Vp xs)(hm:m≤1000:=by omega):Od prog 50 #[v,.int .i64 (m:Int)] [Pw 2 wv v xs] (.bool (decide (Zc1 xs m))):=by
 refine Yg func50 J ntmps50 J K1 fun w0 sc hw hsc=>?_
 simp only [Zs,Zq]
 have hlen:=hv.len
 have hmz:=Oc hv.sz
 have q1:(xs.length+2)*(xs.length+2)≤27*27:=Nat.mul_le_mul (by omega) (by omega)
 have q2:(xs.length+2)*(xs.length+2)*(Pf xs+m+2*(xs.length-1)+32)≤27*27*70000:=Nat.mul_le_mul q1 (by omega)
 have q3:((xs.length:Int)-1+3)*((xs.length:Int)-1+3)=(((xs.length+2)*(xs.length+2):Nat):Int):=by rw [show(xs.length:Int)-1+3=((xs.length+2:Nat):Int) by omega];push_cast;rfl
 have q4:xs.length≠0→((xs.length:Int)-1+3)*((xs.length:Int)-1+3)*((Pf xs:Int)+(m:Int)+2*((xs.length:Int)-1)+32)=(((xs.length+2)*(xs.length+2)*(Pf xs+m+2*(xs.length-1)+32):Nat):Int):=fun h=>by rw [q3,show(Pf xs:Int)+(m:Int)+2*((xs.length:Int)-1)+32=((Pf xs+m+2*(xs.length-1)+32:Nat):Int) by omega];push_cast;rfl
 refine Zb<|Zf<|Zo J<|Zd<|Za<|Zb<|Zf<|mv J<|tt (Zy (n:=1) (Zig _ _ hv) K4 call105 (Zi 1 K3 Ze) J hw) fun _ _=>mv J<|dt (Xa K3)<|dt (Xa K3)<|Zo J<|Zo J<|Zd<|Za<|Zb<|Zf<|mv J<|tt (Zy (n:=1) (Zm2 _ _ hv) K4 call106 (Zi 1 K3 Ze) J hw) fun _ _=>mv J<|dt (Xa K3)<|dt (Xa K3)<|Zo J<|Zo J<|Zd<|Za<|Zb<|Zf<|mv J<|dt (Yc J J (i:=1) J Zg Xn)<|dt (Hf K3)<|mv J<|Pb (d:=22) J (fun s24=>?_) (fun s24=>?_)
 ·exact Yj K3<|Yj K3<|Yj K3<|Yj K3<|Yj K3<|Yj K3<|Yj K3<|Yj K3<|Yj K3<|Yj K3<|Yj K3<|Yj K3<|Yj K3<|Yj K3<|dt (Om K3)<|Zo J<|Zd<|Za<|Zp<|xU hsc results50 J J (by first | exact sgf_t (by omega) | exact sgf_i (by omega) (q4 (by omega)))
 ·exact Zx (Ya K2) K2<|Zx (Ov K3) K2<|Zx (Ya K2) K2<|Zx (Ov K3) K2<|Zx (Eu J J J (by rw [q3];exact⟨by omega,by omega⟩)) K2<|Zx (Ya K2) K2<|Zx (Ya K2) K2<|Zx (Ov K3) K2<|Zx (Ya K2) K2<|Zx (Eu J J J) K2<|Zx (Ov K3) K2<|Zx (Ov K3) K2<|Zx (Eu J J J (by rw [q4 (by omega)];exact⟨by omega,by omega⟩)) K2<|Zx (Ev J J J) K2<|dt (Ql K3)<|Zo J<|Zd<|Za<|Zp<|xU hsc results50 J J (by first | exact sgf_t (by omega) | exact sgf_i (by omega) (q4 (by omega)))
theorem Zqp(v:Value)(xs:List Int)(hv:Vp xs):Od prog 14 #[v] [Pw 2 wv v xs] (.bool (decide (Zc1 xs 0))):=by
 refine Yg func14 J ntmps14 J K1 fun w0 sc hw hsc=>?_
 simp only [Zs,Zq]
 exact Zb<|Zf<|Zo J<|Zd<|Za<|Zb<|Zf<|mv J<|tt (Zy (n:=1) (Qt _ _ ‹_›) K4 Av (Zi 1 K3 Ze) J hw) fun _ _=>mv J<|Zx (Ya K2) K2<|Pp (Yf (n:=1) (Zn3 _ 0 xs hv) K5 call50 (Zi 1 K3 Ze) J hw) K3 fun _ _=>dt (Om K3)<|Zo J<|Zd<|Za<|Zp<|xU hsc results14 J J J
theorem Hq(x y:Int)(hx:bl x.natAbs≤65536:=by omega)(hy:bl y.natAbs≤65536:=by omega):Od prog 95 #[rX x y] [] (.bool (efit (x,y))):=by
 refine Yg func95 J ntmps95 J trivial fun w0 sc hw hsc=>?_
 simp only [Zs,Zq]
 refine Zb<|Zf<|tt (Xp (i:=1) K5 hw) fun bx _=>Zo J<|Zd<|Za<|Zb<|Qj (fun _=>False) [(0,0),(1,0),(3,0),(4,0),(2,1),(5,1),(6,0),(7,0),(8,3)] ?_ ?_
 ·kernel_rfl
 exact Zh K2 (Yo (Qy K2 Hn J Yb K2))<|Zh K2 (Yo (Qm (i:=1) K3 Xl Yb K2))<|Zh K2 (Yo (Qy K2 Hn J Yb K2))<|Zh K2 (Yo (Qm (i:=1) K3 Xl Yb K2))<|Yq J (Zy (n:=1) (Zjs _ hx) K4 call145 Ze J hw) fun _ _=>Yq J (Zy (n:=1) (Zjs _ hy) K4 call145 Ze J hw) fun _ _=>Zh K2 (Yo (Zsi J J J))<|Zh K2 (Yo (Ev J J J))<|Qs J (Pu (Ok J J) J) fun _ _=>Pv<|Za<|Zp<|xU hsc results95 J J (by unfold efit;exact vB (decide_eq_decide.2 (by dsimp only;omega)))
theorem Fz(x y x2 y2:Int)(hp:0<y)(hp2:0<y2)(hx:bl x.natAbs≤65536:=by omega)(hy:bl y.natAbs≤65536:=by omega)(hx2:bl x2.natAbs≤65536:=by omega)(hy2:bl y2.natAbs≤65536:=by omega):Od prog 96 #[rX x y,rX x2 y2] [] (.int .i64 (Iz (x,y) (x2,y2))):=by
 refine Yg func96 J ntmps96 J trivial fun w0 sc hw hsc=>?_
 simp only [Zs,Zq]
 exact Zb<|Zf<|tt (Xp (i:=1) K5 hw) fun bx _=>tt (Xp (i:=2) K5 hw) fun bx_2 _=>Zo J<|Zd<|Za<|Zb<|Zf<|dt (Pj (i:=1) K3 Xf Ym K4)<|dt (Pj (i:=2) K3 Xf Ym K4)<|tt (Yf (n:=2) (Zfq _ _ _ _ hx hy hx2 hy2 hp hp2) K5 call146 Ze J hw) fun _ _=>mv J<|dt (Xa K3)<|dt (Xa K3)<|Zo J<|Zo J<|Zd<|Za<|Zb<|Zf<|mv J<|Zo J<|Zd<|Za<|Zp<|xU hsc results96 J J J
theorem Zu7(bs:Nat)(v:Value)(xs:List Int)(x y:Int)(hx:bl x.natAbs≤65536)(hy:bl y.natAbs≤65536)(hp:0<y)(hv:Vp xs)(hE:¬Iv xs x y):Od prog 120 #[.pointer (some ⟨bs,0,none⟩),v,rX x y] [Df bs 102 #[.int .i64 0],Pw 2 wv v xs] (.int .i64 (fat x y xs)):=by
 refine Yg func120 J ntmps120 J K2 fun w0 sc hw hsc=>?_
 simp only [Zs,Zq]
 exact Zb<|Zf<|tt (Xp (i:=3) K5 hw) fun bx _=>Zo J<|Zd<|Za<|Zb<|Zf<|mv J<|dt (Pj (i:=3) K3 Xf Ym K4)<|tt (Yf (n:=3) (Zra _ _ _ _ hv hx hy hp) K5 call164 (Zi 2 K3 Ze) J hw) fun _ _=>mv J<|dt (Xa K3)<|dt (Ej (r':= .int .i64 0) (Xa K3) (congrArg (Value.int .i64) (if_neg hE)))<|Zo J<|Zo J<|Zd<|Za<|Zb<|Zb<|Zf<|mv J<|dt (Zay J J)<|dt (Qy K2 Ks J Ie K2)<|dt (Zix (i:=1) J J J Ee J)<|dt (dT (Hf K3) (vB (by decide)))<|Zd<|Za<|Of J<|Zf<|mv J<|mv J<|dt (Zay J J)<|dt (Qy K2 Ks J Ie K2)<|tt (Zmn (i:=1) J J J J J J Ie J J (by simp [Value.oneCell']) J) fun _ _=>Zd<|Za<|Zb<|Zf<|mv J<|Zo J<|Zd<|Za<|Zp<|xU hsc results120 J J (by unfold fat;rw [show evv xs x y=pev xs x y from if_neg hE]<;>rfl)
theorem Zc2(v1 v2:Value)(bs:Nat)(ls cs:List (SL×List Int))(x y:Int)(hp:0<y)(hlsv:∀z∈ls,Vp z.2)(hlsE:∀z∈ls,¬Iv z.2 x y)(hx:bl x.natAbs≤65536:=by omega)(hy:bl y.natAbs≤65536:=by omega):Od prog 62 #[.agg #[v1,v2],.pointer (some ⟨bs,0,none⟩),rX x y] [Ek 1 Gx qZ v1 ls,Ek 1 Gx qZ v2 cs,Df bs 102 #[.int .i64 0]] (.int .i64 (vlu (ls.map Prod.snd) (x,y))):=by
 refine Yg func62 J ntmps62 J K3 fun w0 sc hw hsc=>?_
 simp only [Zs,Zq]
 refine Mi (Hk (i:=1) J Ye) fun hlen=>Zb<|Zf<|tt (Xp (i:=4) K5 hw) fun bx _=>tt (Xp (i:=5) K5 hw) fun bx_2 _=>Zo J<|Zd<|Za<|Zb<|Zb<|Zf<|dt (Qy K2 Znv J Zjq K2)<|dt (Mc (i:=4) K3 isAgg96 J)<|dt (Yc J J (i:=1) J Ye Ze3)<|dt (Hf K3)<|Zd<|Za<|Zr J (fun h160=>?_) (fun h160=>?_)
 ·exact Zb<|Zf<|Zo J<|Zd<|Za<|Zp<|Yp<|xU hsc results62 J J (by unfold vlu;rw [List.length_map,if_pos (by omega)]<;>rfl)
 ·refine Zl<|Za<|Zb<|Qj (fun _=>False) [(0,0),(1,0),(2,0),(3,0),(4,0),(5,0),(6,1),(7,3)] ?_ ?_
  ·kernel_rfl
  exact Zh K2 (Yo (Ya K2))<|Zh K2 (Yo (Qy K2 Znv J Zjq K2))<|Zh K2 (Yo (Mc (i:=4) K3 isAgg96 J))<|Zh K2 (Yo (Nj (ii:=1) (i:=0) K4 Ye Ze3 sizeOf23 J))<|Zh K2 (Yo (Ms (ii:=1) Z0 K3 Ye pS))<|Zh K2 (Yo (Pj (i:=5) K3 Xf Ym K4))<|Yq J (Xv (n:=5) (Zu7 _ (svv (ls.getD 0 Z0).1) (ls.getD 0 Z0).2 _ _ hx hy hp (hlsv (ls.getD 0 Z0) (Xc)) (hlsE (ls.getD 0 Z0) (Xc))) J J J K3 call120 (Zi 3 K3 (Ya3 1 J J (Xc (i:=0) (zs:=ls) (d:=Z0)) Ze)) J hw) fun _ _=>Qs J (Pu (Ok J J) J) fun _ _=>Pv<|Za<|Zp<|xU hsc results62 J J (by unfold vlu;rw [List.length_map,if_neg (by omega),Zho _ (by omega)]<;>rfl)
theorem Zqr(v1 v2:Value)(bs:Nat)(ls cs:List (SL×List Int))(x y:Int)(hx:bl x.natAbs≤65536)(hy:bl y.natAbs≤65536)(hp:0<y)(hlsv:∀z∈ls,Vp z.2)(hlsE:∀z∈ls,¬Iv z.2 x y):Od prog 99 #[.agg #[v1,v2],.pointer (some ⟨bs,0,none⟩),rX x y] [Ek 1 Gx qZ v1 ls,Ek 1 Gx qZ v2 cs,Df bs 102 #[.int .i64 0]] (.int .i64 (aft (ls.map Prod.snd) (x,y))):=by
 refine Yg func99 J ntmps99 J K3 fun w0 sc hw hsc=>?_
 simp only [Zs,Zq]
 refine Mi (Hk (i:=1) J Ye) (fun hlen=>?_)
 have hLl:=Zk4 ls (fat x y)
 have hLg:=fun i (h:i<ls.length)=>Zqm ls (fat x y) h
 refine Zb<|Zf<|tt (Xp (i:=4) K5 hw) fun bx _=>tt (Xp (i:=5) K5 hw) fun bx_2 _=>Zo J<|Zd<|Za<|Zb<|Zb<|Zf<|dt (Qy K2 Znv J Zjq K2)<|dt (Mc (i:=4) K3 isAgg96 J)<|dt (Yc J J (i:=1) J Ye Ze3)<|mv J<|Zd<|Za<|Zn<|Px [(1,_),(5,_),(11,_),(12,_)] [(0,_),(1,_),(2,_),(3,_),(4,_),(5,_)] (fun(i:Nat)=>[(13,.int .i64 (i:Int))]) (fun(i:Nat)=>[]) (fun(i:Nat)=>(i≤ls.length)∧(∀k,k<i→(sgx ls (fat x y)).getD k 0=0)) (fun(i:Nat)=>ls.length-i) 0 ⟨by first | omega | (dsimp only<;>omega),fun k hk=>absurd hk (Nat.not_lt_zero k)⟩ K5 K6 ?_
 rintro i ⟨hi,hz⟩
 simp only [CA,NA]
 refine Zb<|Zf<|dt (Pa K3)<|Zd<|Za<|Zb<|Zr J (fun h168=>?_) (fun h168=>?_)
 ·refine Zl<|Za<|Zb<|Zn<|Zb<|Zf<|dt (Nj (ii:=1) K4 Ye Ze3 sizeOf23 J (by first | omega | (simp only [List.length_set];omega)))<|dt (Ms (ii:=1) Z0 K3 Ye pS (by first | omega | (simp only [List.length_set];omega)))<|Zo J<|Zd<|Za<|Zb<|Yl (Zhq 1 91 (ls.getD i Z0) J J (Xc) J)<|Zf<|mv J<|mv J<|dt (Pj (i:=5) K3 Xf Ym K4)<|tt (Xv (n:=5) (Zu7 _ (svv (ls.getD i Z0).1) (ls.getD i Z0).2 _ _ hx hy hp (hlsv (ls.getD i Z0) (Xc)) (hlsE (ls.getD i Z0) (Xc))) J J J K3 call120 (Zi 3 K3 (Zi 91 K3 Ze)) J hw) fun _ _=>Zo J<|Zd<|Za<|Zb<|Zf<|mv J<|dt (Pk K3)<|Zd<|Za<|Zr J (fun h169=>?_) (fun h169=>?_)
  ·exact Zb<|Zf<|mv J<|Zo J<|Zd<|Za<|Zp<|Md<|Yp<|Yp<|Md<|Yp<|xU hsc results99 J J (by rw [Zxj,Zr3 ‹_› (by omega) hz (hLg i (by omega))]<;>rfl)
  ·exact Zl<|Qh<|Za<|Zf<|dt (Ov K3)<|mv J<|Zd<|Xg (i+1) ⟨by first | omega | (dsimp only<;>omega),fun k hk2=>by rcases Nat.lt_succ_iff_lt_or_eq.1 hk2 with h9 | h9;exact hz k h9;subst h9;rw [hLg _ (by omega)];exact Decidable.byContradiction ‹_›⟩ (by first | omega | (dsimp only<;>omega)) K5 K6
 ·exact Yt<|Zv<|Zv<|Pd<|Za<|Zb<|Zf<|Zo J<|Zd<|Za<|Zp<|xU hsc results99 J J (by rw [Zxj,Znc (fun k hk=>hz k (by omega))]<;>rfl)
theorem Zka(v1 v2:Value)(bs:Nat)(ls cs:List (SL×List Int))(x y:Int)(hx:bl x.natAbs≤65536)(hy:bl y.natAbs≤65536)(hp:0<y)(hcsv:∀z∈cs,Vp z.2)(hcsE:∀z∈cs,¬Iv z.2 x y):Od prog 148 #[.agg #[v1,v2],.pointer (some ⟨bs,0,none⟩),rX x y] [Ek 1 Gx qZ v1 ls,Ek 1 Gx qZ v2 cs,Df bs 102 #[.int .i64 0]] (.int .i64 (chv (cs.map Prod.snd) (x,y))):=by
 refine Yg func148 J ntmps148 J K3 fun w0 sc hw hsc=>?_
 simp only [Zs,Zq]
 refine Mi (Hk (i:=2) J Ye) (fun hlen=>?_)
 have hLl:=Zk4 cs (fat x y)
 have hLg:=fun i (h:i<cs.length)=>Zqm cs (fat x y) h
 refine Zb<|Zf<|tt (Xp (i:=4) K5 hw) fun bx _=>tt (Xp (i:=5) K5 hw) fun bx_2 _=>Zo J<|Zd<|Za<|Zb<|Zf<|Zo J<|Zo J<|Zd<|Za<|Zb<|Zb<|Zf<|dt (Qy K2 Znv J Zjq K2)<|dt (Mc (i:=4) K3 isAgg96 J)<|dt (Yc J J (i:=2) J Ye Ze3)<|mv J<|Zd<|Za<|Zn<|Px [(1,_),(5,_),(13,_),(14,_)] [(0,_),(1,_),(2,_),(3,_),(4,_),(5,_)] (fun(q:Nat×Int×Int)=>[(15,.int .i64 (q.1:Int)),(7,.int .i64 q.2.1),(8,.int .i64 q.2.2)]) (fun(q:Nat×Int×Int)=>[]) (fun(q:Nat×Int×Int)=>(q.1≤cs.length)∧((q.2.1,q.2.2)=((sgx cs (fat x y)).take q.1).foldl Mr (0,0))∧(0≤q.2.1)∧(q.2.1≤(q.1:Int))∧(-1≤q.2.2∧q.2.2≤1)) (fun(q:Nat×Int×Int)=>cs.length-q.1) (0,0,0) ⟨by first | omega | (dsimp only<;>omega),by simp,by first | omega | (dsimp only<;>omega),by first | omega | (dsimp only<;>omega),by first | omega | (dsimp only<;>omega)⟩ K7 K6 ?_
 rintro⟨i,n,l⟩ ⟨hi,hc,hn0,hn1,hl⟩
 dsimp only at hi hc hn0 hn1 hl
 simp only [CA,NA]
 have hfr:=fat_r x y (cs.getD i Z0).2
 refine Zb<|Zf<|dt (Pa K3)<|Zd<|Za<|Zb<|Zr J (fun h179=>?_) (fun h179=>?_)
 ·refine Zl<|Za<|Zb<|Zn<|Zb<|Zf<|dt (Nj (ii:=2) K4 Ye Ze3 sizeOf23 J (by first | omega | (simp only [List.length_set];omega)))<|dt (Ms (ii:=2) Z0 K3 Ye pS (by first | omega | (simp only [List.length_set];omega)))<|Zo J<|Zd<|Za<|Zb<|Yl (Zhq 2 91 (cs.getD i Z0) J J (Xc) J)<|Zf<|mv J<|mv J<|dt (Pj (i:=5) K3 Xf Ym K4)<|tt (Xv (n:=5) (Zu7 _ (svv (cs.getD i Z0).1) (cs.getD i Z0).2 _ _ hx hy hp (hcsv (cs.getD i Z0) (Xc)) (hcsE (cs.getD i Z0) (Xc))) J J J K3 call120 (Zi 3 K3 (Zi 91 K3 Ze)) J hw) fun _ _=>Zo J<|Zd<|Za<|Zb<|Zb<|Zf<|mv J<|mv J<|dt (Eu J J J (sgm_i hfr hl))<|dt (Pa K3)<|Zd<|Za<|Zr J (fun h181=>?_) (fun h181=>?_)
  ·refine Zf<|mv J<|dt (Ov K3)<|Zo J<|Zd<|Za<|Zb<|Zf<|mv J<|dt (Pk K3)<|Zd<|Za<|Zr J (fun h184=>?_) (fun h184=>?_)
   ·exact Zf<|mv J<|Zo J<|Zd<|Qh<|Za<|Zf<|dt (Ov K3)<|mv J<|Zd<|Xg (i+1,_,_) ⟨by first | omega | (dsimp only<;>omega),by first | exact Zxa (by omega) hc (hLg i (by omega)) (Decidable.byContradiction ‹_›) | exact Zw9 (by omega) hc (hLg i (by omega)) ‹_› (Zu3 hfr (by omega) ‹_›) | exact Zw8 (by omega) hc (hLg i (by omega)) ‹_› (Zu2 hfr (by omega) ‹_› ‹_›) | exact absurd ‹_› (Zu4 (Decidable.byContradiction ‹_›)),by first | exact hn0 | (dsimp only;omega),by dsimp only;omega,by first | exact hl | exact hfr⟩ (by first | omega | (dsimp only<;>omega)) K7 K6
   ·exact Zl<|Qh<|Za<|Zf<|dt (Ov K3)<|mv J<|Zd<|Xg (i+1,_,_) ⟨by first | omega | (dsimp only<;>omega),by first | exact Zxa (by omega) hc (hLg i (by omega)) (Decidable.byContradiction ‹_›) | exact Zw9 (by omega) hc (hLg i (by omega)) ‹_› (Zu3 hfr (by omega) ‹_›) | exact Zw8 (by omega) hc (hLg i (by omega)) ‹_› (Zu2 hfr (by omega) ‹_› ‹_›) | exact absurd ‹_› (Zu4 (Decidable.byContradiction ‹_›)),by first | exact hn0 | (dsimp only;omega),by dsimp only;omega,by first | exact hl | exact hfr⟩ (by first | omega | (dsimp only<;>omega)) K7 K6
  ·refine Zl<|Za<|Zb<|Zf<|mv J<|dt (Pk K3)<|Zd<|Za<|Zr J (fun h184_2=>?_) (fun h184_2=>?_)
   ·exact Zf<|mv J<|Zo J<|Zd<|Qh<|Za<|Zf<|dt (Ov K3)<|mv J<|Zd<|Xg (i+1,_,_) ⟨by first | omega | (dsimp only<;>omega),by first | exact Zxa (by omega) hc (hLg i (by omega)) (Decidable.byContradiction ‹_›) | exact Zw9 (by omega) hc (hLg i (by omega)) ‹_› (Zu3 hfr (by omega) ‹_›) | exact Zw8 (by omega) hc (hLg i (by omega)) ‹_› (Zu2 hfr (by omega) ‹_› ‹_›) | exact absurd ‹_› (Zu4 (Decidable.byContradiction ‹_›)),by first | exact hn0 | (dsimp only;omega),by dsimp only;omega,by first | exact hl | exact hfr⟩ (by first | omega | (dsimp only<;>omega)) K7 K6
   ·exact Zl<|Qh<|Za<|Zf<|dt (Ov K3)<|mv J<|Zd<|Xg (i+1,_,_) ⟨by first | omega | (dsimp only<;>omega),by first | exact Zxa (by omega) hc (hLg i (by omega)) (Decidable.byContradiction ‹_›) | exact Zw9 (by omega) hc (hLg i (by omega)) ‹_› (Zu3 hfr (by omega) ‹_›) | exact Zw8 (by omega) hc (hLg i (by omega)) ‹_› (Zu2 hfr (by omega) ‹_› ‹_›) | exact absurd ‹_› (Zu4 (Decidable.byContradiction ‹_›)),by first | exact hn0 | (dsimp only;omega),by dsimp only;omega,by first | exact hl | exact hfr⟩ (by first | omega | (dsimp only<;>omega)) K7 K6
 ·exact Yt<|Zv<|Zv<|Pd<|Za<|Zb<|Zf<|mv J<|Zo J<|Zd<|Za<|Zp<|xU hsc results148 J J (by rw [Ygf,Ygj (by omega) hc]<;>rfl)
theorem Zj8(v1 v2:Value)(bs:Nat)(ls cs:List (SL×List Int))(x y x2 y2:Int)(hx:bl x.natAbs≤65536)(hy:bl y.natAbs≤65536)(hx2:bl x2.natAbs≤65536)(hy2:bl y2.natAbs≤65536)(hp:0<y)(hp2:0<y2)(hcsv:∀z∈cs,Vp z.2)(hcsE:∀z∈cs,¬Iv z.2 x y)(hcsF:∀z∈cs,¬Iv z.2 x2 y2)(hlc:cs.length≤1000):Od prog 100 #[.agg #[v1,v2],.pointer (some ⟨bs,0,none⟩),rX x y,rX x2 y2] [Ek 1 Gx qZ v1 ls,Ek 1 Gx qZ v2 cs,Df bs 102 #[.int .i64 0]] (.bool (crb (cs.map Prod.snd) (x,y) (x2,y2))):=by
 refine Yg func100 J ntmps100 J K3 fun w0 sc hw hsc=>?_
 simp only [Zs,Zq]
 refine Mi (Hk (i:=2) J Ye) (fun hlen=>?_)
 have hr1:=Zw7 (cs.map Prod.snd) (x,y)
 have hr2:=Zw7 (cs.map Prod.snd) (x2,y2)
 rw [List.length_map]at hr1 hr2
 refine Zb<|Zf<|tt (Xp (i:=4) K5 hw) fun bx _=>tt (Xp (i:=5) K5 hw) fun bx_2 _=>tt (Xp (i:=6) K5 hw) fun bx_3 _=>Zo J<|Zd<|Za<|Zb<|Zb<|Zf<|dt (Qy K2 Znv J Zjq K2)<|dt (Mc (i:=4) K3 isAgg96 J)<|dt (Yc J J (i:=2) J Ye Ze3)<|dt (Hf K3)<|Zd<|Za<|Zr J (fun h193=>?_) (fun h193=>?_)
 ·exact Zb<|Zf<|Zo J<|Zd<|Za<|Zp<|Yp<|xU hsc results100 J J (by unfold crb;rw [List.length_map,if_pos (by omega)]<;>rfl)
 ·refine Zl<|Za<|Zb<|Qj (fun _=>False) [(0,0),(1,0),(2,0),(4,0),(5,0),(6,0),(3,1),(7,1),(8,0),(9,3)] ?_ ?_
  ·kernel_rfl
  refine Zh K2 (Yo (Qm (i:=4) K3 Bf Gu K2))<|Zh K2 (Yo (Ya K2))<|Zh K2 (Yo (Pj (i:=5) K3 Xf Ym K4))<|Zh K2 (Yo (Qm (i:=4) K3 Bf Gu K2))<|Zh K2 (Yo (Ya K2))<|Zh K2 (Yo (Pj (i:=6) K3 Xf Ym K4))<|Yq J (Xv (n:=6) (Zka _ _ _ _ _ _ _ hx hy hp hcsv hcsE) J J J K3 call148 (Zi 1 K3 (Zi 2 K3 (Zi 3 K3 Ze))) J hw) fun _ _=>Yq J (Xv (n:=6) (Zka _ _ _ _ _ _ _ hx2 hy2 hp2 hcsv hcsF) J J J K3 call148 (Zi 1 K3 (Zi 2 K3 (Zi 3 K3 Ze))) J hw) fun _ _=>Zh K2 (Yo (Pq K3))<|Qs J (Pu (Ok J J) J) fun _ _=>Pv<|Za<|Zb<|Zb<|Qj (fun _=>False) [(0,0),(1,0),(2,0),(3,0),(4,0),(5,0),(6,1),(7,0)] ?_ ?_
  ·kernel_rfl
  refine Zh K2 (Yo (Ya K2))<|Zh K2 (Yo (Qy K2 Znv J Zjq K2))<|Zh K2 (Yo (Mc (i:=4) K3 isAgg96 J))<|Zh K2 (Yo (Nj (ii:=2) (i:=0) K4 Ye Ze3 sizeOf23 J))<|Zh K2 (Yo (Ms (ii:=2) Z0 K3 Ye pS))<|Zh K2 (Yo (Pj (i:=6) K3 Xf Ym K4))<|Yq J (Xv (n:=6) (Zu7 _ (svv (cs.getD 0 Z0).1) (cs.getD 0 Z0).2 _ _ hx2 hy2 hp2 (hcsv (cs.getD 0 Z0) (Xc)) (hcsF (cs.getD 0 Z0) (Xc))) J J J K3 call120 (Zi 3 K3 (Ya3 2 J J (Xc (i:=0) (zs:=cs) (d:=Z0)) Ze)) J hw) fun _ _=>Zh K2 (Yo (Hf K3))<|Pv<|Za<|Zr J (fun h197=>?_) (fun h197=>?_)
  ·exact Zf<|mv J<|dt (Pq K3)<|Zo J<|Zd<|Za<|Zb<|Zf<|mv J<|dt (Fd K3)<|Zo J<|Zd<|Za<|Zp<|xU hsc results100 J J (by first | exact crb_t (by omega) ‹_› | exact crb_f (by omega) ‹_›)
  ·exact Zl<|Za<|Zb<|Zf<|mv J<|dt (Fd K3)<|Zo J<|Zd<|Za<|Zp<|xU hsc results100 J J (by first | exact crb_t (by omega) ‹_› | exact crb_f (by omega) ‹_›)
theorem Hj(v1 v2:Value)(bs:Nat)(ls cs:List (SL×List Int))(x y x2 y2:Int)(hp:0<y)(hp2:0<y2)(hlsv:∀z∈ls,Vp z.2)(hlsE:∀z∈ls,¬Iv z.2 x y)(hcsv:∀z∈cs,Vp z.2)(hcsE:∀z∈cs,¬Iv z.2 x y)(hcsF:∀z∈cs,¬Iv z.2 x2 y2)(hlc:cs.length≤1000)(hx:bl x.natAbs≤65536:=by omega)(hy:bl y.natAbs≤65536:=by omega)(hx2:bl x2.natAbs≤65536:=by omega)(hy2:bl y2.natAbs≤65536:=by omega):Od prog 61 #[.agg #[v1,v2],.pointer (some ⟨bs,0,none⟩),rX x y,rX x2 y2] [Ek 1 Gx qZ v1 ls,Ek 1 Gx qZ v2 cs,Df bs 102 #[.int .i64 0]] (.bool (Bj (ls.map Prod.snd) (cs.map Prod.snd) (x,y) (x2,y2))):=by
 refine Yg func61 J ntmps61 J K3 fun w0 sc hw hsc=>?_
 simp only [Zs,Zq]
 refine Zb<|Zf<|tt (Xp (i:=4) K5 hw) fun bx _=>tt (Xp (i:=5) K5 hw) fun bx_2 _=>tt (Xp (i:=6) K5 hw) fun bx_3 _=>Zo J<|Zd<|Za<|Zb<|Zb<|Zf<|dt (Pj (i:=5) K3 Xf Ym K4)<|dt (Pj (i:=6) K3 Xf Ym K4)<|tt (Yf (n:=6) (Fz _ _ _ _ hp hp2 hx hy hx2 hy2) K5 call96 Ze J hw) fun _ _=>dt (Hf K3)<|Zd<|Za<|Zr J (fun h205=>?_) (fun h205=>?_)
 ·exact Zb<|Zf<|dt (Qm (i:=4) K3 Bf Gu K2)<|mv J<|dt (Pj (i:=5) K3 Xf Ym K4)<|tt (Xv (n:=6) (Zc2 _ _ _ _ _ _ _ hp hlsv hlsE hx hy) J J J K3 call62 (Zi 1 K3 (Zi 2 K3 (Zi 3 K3 Ze))) J hw) fun _ _=>dt (Pa K3)<|Zo J<|Zd<|Za<|Zp<|Yp<|xU hsc results61 J J (by unfold Bj;rw [if_pos ‹_›])
 ·refine Zl<|Za<|Zb<|Zf<|dt (Qm (i:=4) K3 Bf Gu K2)<|mv J<|dt (Pj (i:=5) K3 Xf Ym K4)<|tt (Xv (n:=6) (Zqr _ _ _ _ _ _ _ hx hy hp hlsv hlsE) J J J K3 call99 (Zi 1 K3 (Zi 2 K3 (Zi 3 K3 Ze))) J hw) fun _ _=>dt (Pa K3)<|mv J<|Pb (d:=23) J (fun s208=>?_) (fun s208=>?_)
  ·exact Yj K3<|Yj K3<|Yj K3<|Yj K3<|Yj K3<|dt (Om K3)<|Zo J<|Zd<|Za<|Zp<|xU hsc results61 J J (by first | exact ngb_t ‹_› ‹_› | exact ngb_f ‹_› ‹_›)
  ·exact Zx (Qm (i:=4) K3 Bf Gu K2) K2<|Zx (Ya K2) K2<|Zx (Pj (i:=5) K3 Xf Ym K4) K2<|Zx (Pj (i:=6) K3 Xf Ym K4) K2<|Pp (Xv (n:=6) (Zj8 _ _ _ _ _ _ _ _ _ hx hy hx2 hy2 hp hp2 hcsv hcsE hcsF hlc) J J J K4 call100 (Zi 1 K3 (Zi 2 K3 (Zi 3 K3 Ze))) J hw) K3 fun _ _=>dt (Ql K3)<|Zo J<|Zd<|Za<|Zp<|xU hsc results61 J J (by first | exact ngb_t ‹_› ‹_› | exact ngb_f ‹_› ‹_›)
theorem Zhp(bs:Nat)(x y x2 y2:Int)(hp:0<y)(hp2:0<y2)(hm:Zag (x,y) (x2,y2))(hx:bl x.natAbs≤65536:=by omega)(hy:bl y.natAbs≤65536:=by omega)(hx2:bl x2.natAbs≤65536:=by omega)(hy2:bl y2.natAbs≤65536:=by omega):Od prog 94 #[.pointer (some ⟨bs,0,none⟩),rX x y,rX x2 y2] [Df bs 102 #[.int .i64 0]] (.agg #[.bool (decide ((Pe (x,y) (x2,y2)).1<0)),.string (Xk (Pe (x,y) (x2,y2)).1.natAbs),.bool (decide ((Pe (x,y) (x2,y2)).2<0)),.string (Xk (Pe (x,y) (x2,y2)).2.natAbs)]):=by
 refine Yg func94 J ntmps94 J K1 fun w0 sc hw hsc=>?_
 simp only [Zs,Zq]
 have hq:¬Hd (x*y2+x2*y) (y*y2):=hm.1
 obtain⟨hn1,hn2,hn3⟩:=Zfe hq
 obtain⟨hb1,hb2⟩:=nr_bl hq
 have hdp:=Zkw hq (Int.mul_pos hp hp2)
 have hm2:=Zyk hm
 refine Zb<|Zf<|tt (Xp (i:=2) K5 hw) fun bx _=>tt (Xp (i:=3) K5 hw) fun bx_2 _=>tt (Xi (i:=4) K2 zeroValue41 K2 hw) fun bx_3 _=>Zd<|Za<|Zb<|Zf<|dt (Pj (i:=2) K3 Xf Ym K4)<|dt (Pj (i:=3) K3 Xf Ym K4)<|tt (Yf (n:=4) (Zlx _ _ _ _ hx hy hx2 hy2 hp hp2) K5 call143 Ze J hw) fun _ _=>mv J<|dt (Xa K3)<|dt (Ej (r':= .int .i64 0) (Xa K3) (congrArg (Value.int .i64) hn3))<|tt (Xi (i:=5) K2 zeroValue41 K2 hw) fun bx_4 _=>tt (Zt (i:=5) K6 Ym K2 ⟨Zc J,Zc J,Zc J,Zc J,trivial⟩ J hw trivial) fun _ _=>Zo J<|Zd<|Za<|Zb<|Zb<|Zf<|mv J<|dt (Zay J J)<|dt (Qy K2 Ks J Ie K2)<|dt (Zix (i:=1) J J J Ee J)<|dt (dT (Hf K3) (vB (by decide)))<|Zd<|Za<|Of J<|Zf<|mv J<|mv J<|dt (Zay J J)<|dt (Qy K2 Ks J Ie K2)<|tt (Zmn (i:=1) J J J J J J Ie J J (by simp [Value.oneCell']) J) fun _ _=>Zd<|Za<|Zb<|Ni [5] [10]<|Zw (n:=10) [(0,0)]<|Zh K2 (Yy (Pj (i:=5) K3 Xf Ym K4) K1)<|Yi<|Qg (n:=9) 1 8 ?_ ?_
 ·refine Yd J (Zy (n:=5) (Xw _ ⟨by decide,by decide⟩) K4 Fb Ze J hw) fun _ _=>Qg (n:=8) 2 8 ?_ ?_
  ·refine Yd J (Zy (n:=5) (Xw _ ⟨by decide,by decide⟩) K4 Fb Ze J hw) fun _ _=>Zw (n:=7) [(3,0)]<|Zh K2 (Yy (Oi (ivs:=[(0,_),(1,_)]) J K4 (fun a w hs=>Zfn)) K1)<|Yi<|Qg (n:=6) 4 8 ?_ ?_
   ·exact Yd J (Yf (n:=5) (Ci _ _ 1 2 hb1 hb2 (by decide +kernel) (by decide +kernel) hdp) K5 call144 Ze J hw) fun _ _=>Zw (n:=0) [(5,0),(6,0),(7,0),(8,1),(9,1),(10,3)]<|Zh K2 (Yy (Ya K2) K1)<|Zh K2 (Yy (Xa K3) K1)<|Zh K2 (Yy (Ej (r':= .int .i64 0) (Xa K3) (congrArg (Value.int .i64) hm2)) K1)<|Yq J (Xj (i:=6) K2 zeroValue41 K2 hw K1) fun bx_5 ho=>Yq J (Zt (i:=6) K6 Ym K2 ⟨Zc J,Zc J,Zc J,Zc J,trivial⟩ J hw ho) fun _ _=>Qs J (Pu (Ok J J) J) fun _ _=>Yi<|Yh<|Za<|Zb<|Zb<|Zf<|mv J<|dt (Zay J J)<|dt (Qy K2 Ks J Ie K2)<|dt (Zix (i:=1) J J J Ee J)<|dt (dT (Hf K3) (vB (by decide)))<|Zd<|Za<|Of J<|Zf<|mv J<|mv J<|dt (Zay J J)<|dt (Qy K2 Ks J Ie K2)<|tt (Zmn (i:=1) J J J J J J Ie J J (by simp [Value.oneCell']) J) fun _ _=>Zd<|Za<|Zb<|Zf<|dt (Pj (i:=6) K3 Xf Ym K4)<|tt (Zt (i:=4) K6 Ym K2 ⟨Zc J,Zc J,Zc J,Zc J,trivial⟩ J hw trivial) fun _ _=>Zd<|Za<|Zp<|Yr (.inl J) hsc () _ (fun a w hs=>Nr hs results94 (Yw (i:=4) J J Xf Ym J)) J trivial J Zm
   ·exact Yd J (Xj (i:=7) K2 zeroValue41 K2 hw K1) fun bx_6 ho2=>Zw (n:=0) [(4,1),(5,0),(6,0),(7,0),(9,1),(10,3)]<|Yq J (Yf (n:=7) (Ci _ _ 1 2 hb1 hb2 (by decide +kernel) (by decide +kernel) hdp) K5 call144 Ze J hw) fun _ _=>Zh K2 (Yy (Ya K2) K1)<|Zh K2 (Yy (Xa K3) K1)<|Zh K2 (Yy (Ej (r':= .int .i64 0) (Xa K3) (congrArg (Value.int .i64) hm2)) K1)<|Yq J (Zt (i:=7) K6 Ym K2 ⟨Zc J,Zc J,Zc J,Zc J,trivial⟩ J hw ho2) fun _ _=>Qs J (Pu (Ok J J) J) fun _ _=>Yi<|Yh<|Za<|Zb<|Zb<|Zf<|mv J<|dt (Zay J J)<|dt (Qy K2 Ks J Ie K2)<|dt (Zix (i:=1) J J J Ee J)<|dt (dT (Hf K3) (vB (by decide)))<|Zd<|Za<|Of J<|Zf<|mv J<|mv J<|dt (Zay J J)<|dt (Qy K2 Ks J Ie K2)<|tt (Zmn (i:=1) J J J J J J Ie J J (by simp [Value.oneCell']) J) fun _ _=>Zd<|Za<|Zb<|Zf<|dt (Pj (i:=7) K3 Xf Ym K4)<|tt (Zt (i:=4) K6 Ym K2 ⟨Zc J,Zc J,Zc J,Zc J,trivial⟩ J hw trivial) fun _ _=>Zd<|Za<|Zp<|Yr (.inl J) hsc () _ (fun a w hs=>Nr hs results94 (Yw (i:=4) J J Xf Ym J)) J trivial J Zm
  ·refine Yd J (Xj (i:=8) K2 zeroValue41 K2 hw K1) fun bx_7 ho3=>Zw (n:=0) [(2,1),(3,0),(4,1),(5,0),(6,0),(7,0),(9,1),(10,3)]<|Yq J (Zy (n:=8) (Xw _ ⟨by decide,by decide⟩) K4 Fb Ze J hw) fun _ _=>Zh K2 (Yy (Oi (ivs:=[(0,_),(1,_)]) J K4 (fun a w hs=>Zfn)) K1)<|Yq J (Yf (n:=8) (Ci _ _ 1 2 hb1 hb2 (by decide +kernel) (by decide +kernel) hdp) K5 call144 Ze J hw) fun _ _=>Zh K2 (Yy (Ya K2) K1)<|Zh K2 (Yy (Xa K3) K1)<|Zh K2 (Yy (Ej (r':= .int .i64 0) (Xa K3) (congrArg (Value.int .i64) hm2)) K1)<|Yq J (Zt (i:=8) K6 Ym K2 ⟨Zc J,Zc J,Zc J,Zc J,trivial⟩ J hw ho3) fun _ _=>Qs J (Pu (Ok J J) J) fun _ _=>Yi<|Yh<|Za<|Zb<|Zb<|Zf<|mv J<|dt (Zay J J)<|dt (Qy K2 Ks J Ie K2)<|dt (Zix (i:=1) J J J Ee J)<|dt (dT (Hf K3) (vB (by decide)))<|Zd<|Za<|Of J<|Zf<|mv J<|mv J<|dt (Zay J J)<|dt (Qy K2 Ks J Ie K2)<|tt (Zmn (i:=1) J J J J J J Ie J J (by simp [Value.oneCell']) J) fun _ _=>Zd<|Za<|Zb<|Zf<|dt (Pj (i:=8) K3 Xf Ym K4) ?_
   exact tt (Zt (i:=4) K6 Ym K2 ⟨Zc J,Zc J,Zc J,Zc J,trivial⟩ J hw trivial) fun _ _=>Zd<|Za<|Zp<|Yr (.inl J) hsc () _ (fun a w hs=>Nr hs results94 (Yw (i:=4) J J Xf Ym J)) J trivial J Zm
 ·refine Yd J (Xj (i:=9) K2 zeroValue41 K2 hw K1) fun bx_8 ho4=>Zw (n:=0) [(1,1),(2,1),(3,0),(4,1),(5,0),(6,0),(7,0),(9,1),(10,3)]<|Yq J (Zy (n:=9) (Xw _ ⟨by decide,by decide⟩) K4 Fb Ze J hw) fun _ _=>Yq J (Zy (n:=9) (Xw _ ⟨by decide,by decide⟩) K4 Fb Ze J hw) fun _ _=>Zh K2 (Yy (Oi (ivs:=[(0,_),(1,_)]) J K4 (fun a w hs=>Zfn)) K1)<|Yq J (Yf (n:=9) (Ci _ _ 1 2 hb1 hb2 (by decide +kernel) (by decide +kernel) hdp) K5 call144 Ze J hw) fun _ _=>Zh K2 (Yy (Ya K2) K1)<|Zh K2 (Yy (Xa K3) K1)<|Zh K2 (Yy (Ej (r':= .int .i64 0) (Xa K3) (congrArg (Value.int .i64) hm2)) K1)<|Yq J (Zt (i:=9) K6 Ym K2 ⟨Zc J,Zc J,Zc J,Zc J,trivial⟩ J hw ho4) fun _ _=>Qs J (Pu (Ok J J) J) fun _ _=>Yi<|Yh<|Za<|Zb<|Zb<|Zf<|mv J<|dt (Zay J J)<|dt (Qy K2 Ks J Ie K2)<|dt (Zix (i:=1) J J J Ee J)<|dt (dT (Hf K3) (vB (by decide)))<|Zd<|Za<|Of J<|Zf<|mv J<|mv J<|dt (Zay J J)<|dt (Qy K2 Ks J Ie K2)<|tt (Zmn (i:=1) J J J J J J Ie J J (by simp [Value.oneCell']) J) fun _ _=>Zd ?_
  exact Za<|Zb<|Zf<|dt (Pj (i:=9) K3 Xf Ym K4)<|tt (Zt (i:=4) K6 Ym K2 ⟨Zc J,Zc J,Zc J,Zc J,trivial⟩ J hw trivial) fun _ _=>Zd<|Za<|Zp<|Yr (.inl J) hsc () _ (fun a w hs=>Nr hs results94 (Yw (i:=4) J J Xf Ym J)) J trivial J Zm
structure Cvd (xs:List Int):Prop where
 v:Vp xs
 s:Sz 70 xs
 l:xs.length≤7
theorem Zg1{xs r:List Int}(h:Cvd xs)(h0:xs≠[])(hr:Dp xs r):Sz 200 r∧r.length≤7:=by
 obtain⟨s1,s2⟩:=hr.sz h.v.tr h0 h.s (by have:=h.l;omega)
 exact⟨s1,by have:=h.l;omega⟩
theorem Zd3{xs r:List Int}(h:Cvd xs)(h0:xs≠[])(hr:Dp xs r) :
  Vp r∧r≠[]∧(∀i,bl (cf r (i+1)*((i:Int)+1)).natAbs≤65536)∧Vp (Xy r)∧¬Znb r (Xy r)∧eok 13 (gA r (Xy r)) (gB r (Xy r))∧Mp 13 r (Xy r)=Ns 13 r∧Vp (Ns 13 r)∧
  Bv r (Ns 13 r)=0∧pdv r (Ns 13 r)∧Kt r (Ns 13 r)=sqf 13 r∧Vp (sqf 13 r)∧Sz 330 (sqf 13 r)∧(sqf 13 r).length≤7∧Dp xs (Ns 13 r)∧sqf 13 r≠[]∧((sqf 13 r).length≠1→(Ns 13 r).length<r.length)∧Di 13 r:=by
 obtain⟨s1,s2⟩:=Zg1 h h0 hr
 have hv:Vp r:=⟨s1.mono (by omega),hr.1,by omega⟩
 have hok:=hr.ok h.v.tr h0 h.s (by omega) (by have:=h.l;omega) (show xs.length≤13+1 by have:=h.l;omega)
 obtain⟨⟨q1,q2,q3,q4,q5⟩,-,-⟩:=hok.1
 have hn:=hr.2.2.1
 have hs9:=(chF 13 hr.1 hr.2.1 s1 (by omega) (by omega) (by omega)).2.1
 have hl9:=(chF 13 hr.1 hr.2.1 s1 (by omega) (by omega) (by omega)).2.2.1
 have hvs:=Zjt hv hr.2.1 hok.1.1
 have hg:Ns 13 r=Mp 13 r (Xy r):=by unfold Ns;rw [hn]
 have hd:=hr.next hok.2
 have hvg:Vp (Ns 13 r):=by obtain⟨t1,t2⟩:=Zg1 h h0 hd;exact⟨t1.mono (by omega),hd.1,by omega⟩
 have hsq:sqf 13 r=Kt r (Ns 13 r):=by unfold sqf Ns;rw [hn]
 obtain⟨f1,f2,f3,f4,f5,f6⟩:=Mf (F:=13) hr.1 hr.2.1 hok.2
 have hq1:∀i,bl (cf r (i+1)*((i:Int)+1)).natAbs≤65536:=fun i=>by
  by_cases hi:i<r.length
  ·have:=q1 i hi;rwa [hn]at this
  ·rw [Xt (by omega)];simp [Lu]
 rw [hn]at q2 q3 q4 q5
 rw [←hg]at q4 q5
 refine⟨hv,hr.2.1,hq1,Zfs hv (fun i _=>hq1 i),q2,q3,hg.symm,hvg,q4,q5,hsq.symm,hvs,hs9,by omega,hd,f3,fun hne=>?_,hok.2⟩
 refine Zla hr.1 hr.2.1 hok.2 ?_
 have:=Oz hr.1 hr.2.1 hok.2
 have l1:=List.length_pos_iff.2 f3
 have l2:=List.length_pos_iff.2 this.2.1
 omega
def Kb(xs:List Int):List Int:=Zoy 13 xs.length [1] (Qa xs)
structure OddI (xs:List Int) (t:Nat) (rest out before:List Int):Prop where
 ex:∃f q,Dp xs q∧q.length≤f∧Zoy 13 f out q=Kb xs∧Tr out∧Op xs out q∧((t%2=1∧rest=q)∨(t%2=0∧rest=Ns 13 q∧before=sqf 13 q∧(sqf 13 q).length≠1))
theorem OddI.start{xs b:List Int}(h:Cvd xs)(h0:xs≠[]):OddI xs 1 (Qa xs) [1] b:=
 ⟨xs.length,Qa xs,Dp.start h.v.tr h0,by rw [Nf h.v.tr];exact Nat.le_refl _,rfl,.inr (by decide),Op.start h.v.tr,.inl ⟨rfl,rfl⟩⟩
theorem OddI.dp{xs:List Int}{t:Nat}{rest out before:List Int}(h:Cvd xs)(h0:xs≠[])(hI:OddI xs t rest out before):Dp xs rest:=by
 obtain⟨f,q,h1,h2,h3,h4,h5,h6 | ⟨-,rfl,-⟩⟩:=hI.ex
 ·rw [h6.2];exact h1
 ·exact(Zd3 h h0 h1).2.2.2.2.2.2.2.2.2.2.2.2.2.2.1
theorem OddI.out{xs:List Int}{t:Nat}{rest out before:List Int}(h:Cvd xs)(h0:xs≠[])(hI:OddI xs t rest out before):Vp out∧Sz 200 out∧out.length≤7:=by
 obtain⟨f,q,h1,h2,h3,h4,h5,-⟩:=hI.ex
 obtain⟨s1,s2,s3⟩:=h5.sz h.v.tr h0 h.s (by have:=h.l;omega) h4 h1.1
 have:=h.l
 exact⟨⟨s1.mono (by omega),h4,by omega⟩,s1,by omega⟩
theorem OddI.odd_end{xs:List Int}{t:Nat}{rest out before:List Int}(h:Cvd xs)(h0:xs≠[])(hI:OddI xs t rest out before)(ht:t%2=1)(hl:(sqf 13 rest).length=1):out=Kb xs:=by
 obtain⟨f,q,h1,h2,h3,h4,h5,⟨-,rfl⟩ | ⟨h7,-⟩⟩:=hI.ex
 ·cases f with
  | zero=>exact absurd (List.length_pos_iff.2 h1.2.1) (by omega)
  | succ f=>unfold Zoy at h3;rw [if_pos hl]at h3;exact h3
 ·omega
theorem OddI.odd_next{xs:List Int}{t:Nat}{rest out before:List Int}(hI:OddI xs t rest out before)(ht:t%2=1)(hl:(sqf 13 rest).length≠1):OddI xs (t+1) (Ns 13 rest) out (sqf 13 rest):=by
 obtain⟨f,q,h1,h2,h3,h4,h5,⟨-,rfl⟩ | ⟨h7,-⟩⟩:=hI.ex
 ·exact⟨f,rest,h1,h2,h3,h4,h5,.inr ⟨by omega,rfl,rfl,hl⟩⟩
 ·omega
theorem OddI.even{xs:List Int}{t:Nat}{rest out before:List Int}(h:Cvd xs)(h0:xs≠[])(hI:OddI xs t rest out before)(ht:t%2=0) :
  Vp before∧Bv before (sqf 13 rest)=0∧pdv before (sqf 13 rest)∧Vp (Kt before (sqf 13 rest))∧¬Zgr out (Kt before (sqf 13 rest))∧
  ((sqf 13 rest).length=1→Oo out (Kt before (sqf 13 rest))=Kb xs)∧((sqf 13 rest).length≠1→OddI xs (t+1) (Ns 13 rest) (Oo out (Kt before (sqf 13 rest))) (sqf 13 rest))∧Vp (Oo out (Kt before (sqf 13 rest))):=by
 obtain⟨f,q,h1,h2,h3,h4,h5,⟨h7,-⟩ | ⟨-,rfl,rfl,hq⟩⟩:=hI.ex
 ·omega
 obtain⟨a1,a2,a3,a4,a5,a6,a7,a8,a9,a10,a11,a12,a13,a14,a15,a16,a17,a18⟩:=Zd3 h h0 h1
 obtain⟨b1,b2,b3,b4,b5,b6,b7,b8,b9,b10,b11,b12,b13,b14,b15,b16,b17,b18⟩:=Zd3 h h0 a15
 obtain⟨c1,c2,c3,c4⟩:=Cy h1.1 h1.2.1 a18 b18
 have hO:=h5.next h1.1 h1.2.1 h1.2.2.1 a18 b18
 have ho:=h.l
 obtain⟨s1,s2,s3⟩:=hO.sz h.v.tr h0 h.s (by omega) (Oj _ _) b15.1
 obtain⟨o1,o2,o3⟩:=h5.sz h.v.tr h0 h.s (by omega) h4 h1.1
 have hol:(Bi 13 q).length≤7:=by
  have e:=congrArg List.length c2
  rw [Nv c3 b12.tr c4 b16]at e
  have:=List.length_pos_iff.2 b16
  omega
 have hos:Sz 335 (Bi 13 q):=by
  obtain⟨a,ha,e⟩:=hO
  have e2:Qa xs=Oo (Oo (Oo a (Ns 13 (Ns 13 q))) out) (Bi 13 q):=e.trans ((Oj _ _).ext (Oj _ _) fun i=>Lp (fun x=>by simp only [Xo];grind) i)
  exact(Ztx h.v.tr h0 h.s (by omega) (Oj _ _) c3 e2).1.mono (by omega)
 have hd:Bv (sqf 13 q) (sqf 13 (Ns 13 q))=0:=by
  have m1:=Oc a13
  have m2:=Oc b13
  have l1:=List.length_pos_iff.2 b16
  unfold Bv
  rw [if_neg (by omega)]
  split
  ·rfl
  ·have:((sqf 13 q).length-(sqf 13 (Ns 13 q)).length+1)*(Pf (sqf 13 (Ns 13 q))+1)≤8*331:=Nat.mul_le_mul (by omega) (by omega)
   rw [if_neg (by omega)]
 have hvo:Vp (Bi 13 q):=⟨hos.mono (by omega),c3,by omega⟩
 have hm:¬Zgr out (Bi 13 q):=fun hF=>by
  have m1:=Oc o1
  have m2:=Oc hos
  rcases hF.2.2 with w | w<;>omega
 refine⟨a12,hd,c1,hvo,hm,fun hl=>?_,fun hl=>?_,⟨s1.mono (by omega),Oj _ _,Nat.le_trans s2 (by omega)⟩⟩
 ·cases f with
  | zero=>exact absurd (List.length_pos_iff.2 h1.2.1) (by omega)
  | succ f=>unfold Zoy at h3;rw [if_neg hq,if_pos hl]at h3;exact h3
 ·cases f with
  | zero=>exact absurd (List.length_pos_iff.2 h1.2.1) (by omega)
  | succ f=>
   unfold Zoy at h3;rw [if_neg hq,if_neg hl]at h3
   have l1:=a17 hq
   have l2:=b17 hl
   exact⟨f,Ns 13 (Ns 13 q),b15,by omega,h3,Oj _ _,hO,.inl ⟨by omega,rfl⟩⟩
theorem Zyd{xs:List Int}(h:Cvd xs)(h0:xs≠[]):Kb xs=Bd 13 xs.length (Qa xs):=by
 have hD:=Dp.start h.v.tr h0
 have hl:=h.l
 have hok:=(hD.ok h.v.tr h0 h.s (by omega) (by omega) (show xs.length≤13+1 by omega)).2
 unfold Kb
 rw [Zvw h.v.tr h0 h.s (by omega) (by omega) (by omega) xs.length [1] (Qa xs) (.inr (show cf [1] 0≠0 by decide)) hD (by rw [Nf h.v.tr];exact Nat.le_refl _),Zvr (Zjb (p:=xs) hD.1 hD.2.1 hok)]
theorem Zb9{xs:List Int}(h:Cvd xs)(h0:xs≠[]):Odp 13 70 xs (Kb xs)∧Vp (Kb xs)∧Sz 200 (Kb xs)∧(Kb xs).length≤xs.length∧Za5 (Kb xs):=by
 have hD:=Dp.start h.v.tr h0
 have hl:=h.l
 have hok:=(hD.ok h.v.tr h0 h.s (by omega) (by omega) (show xs.length≤13+1 by omega)).2
 have he:=Zyd h h0
 have ht:Tr (Kb xs):=by rw [he];exact Zjb (p:=xs) hD.1 hD.2.1 hok
 obtain⟨⟨B,hB⟩,-⟩:=Ep h.v.tr h0 h.s (by omega) (by omega) (show xs.length≤13+1 by omega) xs.length (Qa xs) hD (by rw [Nf h.v.tr];exact Nat.le_refl _)
 rw [←he]at hB
 have e:Qa xs=Oo (Oo B B) (Kb xs):=hD.1.ext (Oj _ _) fun i=>Lp (fun x=>by rw [hB x,Xo,Xo];grind) i
 obtain⟨s1,s2,s3⟩:=Ztx h.v.tr h0 h.s (by omega) (Oj _ _) ht e
 have hC:=(chF 13 ht s3 s1 (by omega) (by omega) (by omega)).1
 refine⟨⟨h.v.tr,h0,h.s,by omega,by omega,by omega,he,ht,s3,hC⟩,⟨s1.mono (by omega),ht,by omega⟩,s1,s2,.inr ?_⟩
 have m1:=Oc s1
 have g1:((Kb xs).length+2)*((Kb xs).length+2)≤9*9:=Nat.mul_le_mul (by omega) (by omega)
 have g2:((Kb xs).length+2)*((Kb xs).length+2)*(Pf (Kb xs)+16)≤9*9*216:=Nat.mul_le_mul g1 (by omega)
 omega
def Gz(xs:List Int):List (List Int):=if xs.length=0 then []else chn 13 (Kb xs)
def Qq(xs:List Int):List (List Int):=Zfl xs.length xs
theorem Zsf:∀(n k:Nat) (p:List Int),Tr p→p.length≤25→Sz k p→∀q∈Zfl n p,Tr q∧q.length≤p.length∧Sz (k+5*n) q
 | 0,_,_,_,_,_,q,hq=>absurd hq (by simp [Zfl])
 | n+1,k,p,ht,hl,hs,q,hq=>by
  unfold Zfl at hq
  by_cases h0:p.length=0
  ·rw [if_pos h0]at hq;exact absurd hq (by simp)
  ·rw [if_neg h0]at hq
   rcases List.mem_cons.1 hq with rfl | hq
   ·exact⟨ht,Nat.le_refl _,hs.mono (by omega)⟩
   ·have ld':=Nq p
    obtain⟨a1,a2,a3⟩:=Zsf n (k+5) (Xy p) (Mv ht) (by omega) (Fl hs hl) q hq
    exact⟨a1,by omega,a3.mono (by omega)⟩
theorem Lm{xs:List Int}(h:Cvd xs):∀q∈Qq xs,Vp q∧Pf q≤8525∧q.length≤7:=fun q hq=>by
 have hl:=h.l
 obtain⟨a1,a2,a3⟩:=Zsf xs.length 70 xs h.v.tr (by omega) h.s q hq
 have:=Oc a3
 exact⟨⟨a3.mono (by omega),a1,by omega⟩,by omega,by omega⟩
theorem Dl{xs:List Int}(h:Cvd xs):∀q∈Gz xs,Vp q∧Pf q≤8525∧q.length≤7:=fun q hq=>by
 have hl:=h.l
 unfold Gz at hq
 by_cases h0:xs.length=0
 ·rw [if_pos h0]at hq;exact absurd hq (by simp)
 ·rw [if_neg h0]at hq
  have h0':xs≠[]:=fun e=>h0 (by rw [e];rfl)
  obtain⟨a1,a2,a3,a4,a5⟩:=Zb9 h h0'
  obtain⟨b1,b2,b3,b4⟩:=chF 13 a1.otr a1.one a3 (by omega) (by omega) (show(Kb xs).length≤13+1 by omega)
  exact⟨Zze a2 a1.one b1 q hq,(b4 q hq).1,by have:=(b4 q hq).2;omega⟩
theorem Cm(xs:List Int):(Gz xs).length≤1000:=by
 unfold Gz
 split
 ·exact Nat.zero_le _
 ·have:=Zav 13 (sqf 13 (Kb xs)) (Yx (Xy (sqf 13 (Kb xs))));unfold chn;omega
theorem Zqk{p:List Int}{m:R2}(h1:Pf p≤8525)(h2:p.length≤7)(a:bl m.1.natAbs≤3100)(b:bl m.2.natAbs≤3100):¬Iv p m.1 m.2:=fun hF=>by
 have h3:Pf [m.1,m.2]≤3100:=by show max (bl m.1.natAbs) (max (bl m.2.natAbs) 0)≤3100;omega
 have h4:(p.length-1)*Pf [m.1,m.2]≤6*3100:=Nat.mul_le_mul (by omega) h3
 have:=hF.2
 omega
theorem Ky{xs:List Int}(h:Cvd xs){m:R2}(a:bl m.1.natAbs≤3100)(b:bl m.2.natAbs≤3100):(∀p∈Qq xs,¬Iv p m.1 m.2)∧(∀p∈Gz xs,¬Iv p m.1 m.2):=
 ⟨fun p hp=>Zqk (Lm h p hp).2.1 (Lm h p hp).2.2 a b,fun p hp=>Zqk (Dl h p hp).2.1 (Dl h p hp).2.2 a b⟩
theorem Yaw{a b:R2}(ha:0<a.2)(hb:0<b.2):((a.1*b.2-b.1*a.2:Int):Rat)=(qv a-qv b)*((a.2:Rat)*(b.2:Rat)):=by
 have h1:=Gw ha
 have h2:=Gw hb
 unfold qv
 push_cast
 grind
theorem Yga{a b:R2}(ha:0<a.2)(hb:0<b.2):Iz a b<0↔qv a<qv b:=by
 have e:=Yaw ha hb
 have hp:=Rat.mul_pos (Gw ha) (Gw hb)
 unfold Iz
 rw [Qu]
 constructor
 ·intro h
  have h1:((a.1*b.2-b.1*a.2:Int):Rat)<0:=by exact_mod_cast h
  rcases(show qv a<qv b∨qv b≤qv a by grind)with q | q
  ·exact q
  ·have:=Rat.mul_nonneg (show 0≤qv a-qv b by grind) (Rat.le_of_lt hp);grind
 ·intro h
  have:=Rat.mul_pos (show 0<qv b-qv a by grind) hp
  have h1:((a.1*b.2-b.1*a.2:Int):Rat)<0:=by grind
  exact_mod_cast h1
theorem Zpq{a b:R2}(ha:0<a.2)(hb:0<b.2):Iz a b=0↔qv a=qv b:=by
 have e:=Yaw ha hb
 have hp:=Rat.mul_pos (Gw ha) (Gw hb)
 unfold Iz
 rw [Int.sign_eq_zero_iff_zero]
 constructor
 ·intro h
  rw [h]at e
  rcases Rat.mul_eq_zero.1 (show(qv a-qv b)*((a.2:Rat)*(b.2:Rat))=0 by rw [←e];rfl)with q | q
  ·grind
  ·rw [q]at hp;grind
 ·intro h
  have h1:((a.1*b.2-b.1*a.2:Int):Rat)=0:=by rw [e,h];grind
  exact_mod_cast h1
theorem Zch{a b:R2}(ha:0<a.2)(hb:0<b.2):Iz a b≤0↔qv a≤qv b:=by
 have h1:=Yga ha hb
 have h2:=Zpq ha hb
 constructor
 ·intro h
  rcases(show Iz a b<0∨Iz a b=0 by omega)with q | q
  ·exact Rat.le_of_lt (h1.1 q)
  ·have:=h2.1 q;grind
 ·intro h
  rcases(show qv a<qv b∨qv a=qv b by grind)with q | q
  ·exact Int.le_of_lt (h1.2 q)
  ·exact Int.le_of_eq (h2.2 q)
theorem Yco{m:R2}(hm:0<m.2)(p:List Int):fat m.1 m.2 p=Dd (Zu p (qv m)):=Zeg hm p
theorem Yge{xs:List Int}(h:Cvd xs)(h0:xs≠[]){a b:R2}(ha:0<a.2)(hb:0<b.2):crb (Gz xs) a b=true↔Zam 13 (Kb xs) (qv a) (qv b):=by
 obtain⟨a1,a2,a3,a4,a5⟩:=Zb9 h h0
 have hl0:xs.length≠0:=fun e=>h0 (List.eq_nil_of_length_eq_zero e)
 unfold crb Zam Gz
 rw [if_neg hl0]
 have hh:∃r,chn 13 (Kb xs)=sqf 13 (Kb xs) :: r:=by
  unfold chn Le
  split<;>exact⟨_,rfl⟩
 obtain⟨r,hr⟩:=hh
 have hv:∀m:R2,0<m.2→chv (chn 13 (Kb xs)) m=vch 13 (Kb xs) (qv m):=fun m hm=>(cvc_v (F:=13) (xs:=Kb xs) hm)
 rw [if_neg (by rw [hr];simp),hv a ha,hv b hb]
 have hg:(chn 13 (Kb xs)).getD 0 []=sqf 13 (Kb xs):=by rw [hr];rfl
 rw [hg,Yco hb]
 have hz:Dd (Zu (sqf 13 (Kb xs)) (qv b))=0↔Zu (Kb xs) (qv b)=0:=⟨fun e=>(a1.zero _).1 (Zqw e),fun e=>Zqx ((a1.zero _).2 e)⟩
 by_cases hb0:Zu (Kb xs) (qv b)=0
 ·rw [if_pos hb0,if_pos (hz.2 hb0)];exact decide_eq_true_iff
 ·rw [if_neg hb0,if_neg (fun e=>hb0 (hz.1 e))];exact decide_eq_true_iff
theorem Zjv{xs:List Int}{m:R2}(hm:0<m.2):vlu (Qq xs) m=Dd (Zu xs (qv m)):=by
 unfold vlu Qq
 by_cases h0:xs.length=0
 ·have:xs=[]:=List.eq_nil_of_length_eq_zero h0
  subst this;rfl
 ·obtain⟨n,hn⟩:∃n,xs.length=n+1:=⟨xs.length-1,by omega⟩
  rw [hn];unfold Zfl;rw [if_neg h0,if_neg (by simp)]
  exact Yco hm xs
theorem Zca{xs:List Int}(h:Cvd xs){a b:R2}(ha:0<a.2)(hb:0<b.2)(hab:qv a≤qv b):Bj (Qq xs) (Gz xs) a b=true↔Ziz xs (qv a) (qv b):=by
 unfold Bj
 by_cases hc:Iz a b=0
 ·rw [if_pos hc,Zjv ha,decide_eq_true_iff]
  have e:=(Zpq ha hb).1 hc
  constructor
  ·intro h1
   refine⟨qv a,Rat.le_refl,hab,?_⟩
   rcases Oy (Zu xs (qv a))with⟨h5,h6⟩ | ⟨h5,h6⟩ | ⟨h5,h6⟩
   ·rw [h6]at h1;exact absurd h1 (by decide)
   ·exact h5
   ·rw [h6]at h1;exact absurd h1 (by decide)
  ·rintro⟨x,x1,x2,x3⟩
   have:x=qv a:=by grind
   rw [←this,Zmt x3];decide
 ·rw [if_neg hc]
  have hlt:qv a<qv b:=by have:=fun e=>hc ((Zpq ha hb).2 e);grind
  by_cases h0:xs=[]
  ·subst h0
   constructor
   ·intro h1;exact absurd h1 (by show ¬(decide ((0:Int)<0) || false)=true;decide)
   ·rintro⟨x,x1,x2,x3⟩;exact absurd x3 (by show ¬(0:Rat)<0;grind)
  ·obtain⟨a1,a2,a3,a4,a5⟩:=Zb9 h h0
   rw [←a1.sem hlt,Bool.or_eq_true,decide_eq_true_iff,Yge h h0 ha hb,show aft (Qq xs) a=Du xs.length xs (qv a)from Zlh ha _ _ (Nat.le_refl _)]
theorem Ba{xs:List Int}(h:Cvd xs){m:Nat}(hm:m≤100):Zc1 xs m:=by
 refine .inr ?_
 have hl:=h.l
 have m1:=Oc h.s
 have g1:(xs.length+2)*(xs.length+2)≤9*9:=Nat.mul_le_mul (by omega) (by omega)
 have g2:(xs.length+2)*(xs.length+2)*(Pf xs+m+2*(xs.length-1)+32)≤9*9*250:=Nat.mul_le_mul g1 (by omega)
 omega
theorem Znh{xs:List Int}(h:xs.length=0):Qq xs=[]:=by unfold Qq;rw [h];rfl
theorem Ygd{xs:List Int}(h:xs.length=0):Gz xs=[]:=by unfold Gz;rw [if_pos h]
theorem Zpt{xs:List Int}(h:xs.length≠0):Gz xs=chn 13 (Kb xs):=by unfold Gz;rw [if_neg h]
theorem Zni:∀(n m:Nat) (p:List Int),p.length≤n→p.length≤m→Zfl n p=Zfl m p
 | 0,m,p,h1,h2=>by
  have h0:p.length=0:=by omega
  cases m with
  | zero=>rfl
  | succ m=>unfold Zfl;rw [if_pos h0]
 | n+1,m,p,h1,h2=>by
  have ld':=Nq p
  cases m with
  | zero=>unfold Zfl;rw [if_pos (by omega)]
  | succ m=>
   unfold Zfl
   by_cases h0:p.length=0
   ·rw [if_pos h0,if_pos h0]
   ·rw [if_neg h0,if_neg h0,Zni n m (Xy p) (by omega) (by omega)]
theorem Zei{p:List Int}(h:p.length≠0):Qq p=p :: Qq (Xy p):=by
 have ld':=Nq p
 unfold Qq
 obtain⟨n,hn⟩:∃n,p.length=n+1:=⟨p.length-1,by omega⟩
 rw [hn,show Zfl (n+1) p=if p.length=0 then []else p :: Zfl n (Xy p)from rfl,if_neg h,Zni n (Xy p).length (Xy p) (by omega) (Nat.le_refl _)]
abbrev RZ:=(Bool×ByteArray)×(Bool×ByteArray)
abbrev Q0:RZ:=((false,⟨#[]⟩),(false,⟨#[]⟩))
def qOK(z:RZ):Bool:=okR z.1.1 z.1.2 z.2.1 z.2.2
noncomputable def qx (z:RZ):Int:=if h:okR z.1.1 z.1.2 z.2.1 z.2.2=true then(Ztp h).choose else 0
noncomputable def qy (z:RZ):Int:=if h:okR z.1.1 z.1.2 z.2.1 z.2.2=true then(Ztp h).choose_spec.choose else 0
theorem q_ok{z:RZ}(h:qOK z=true):bl (qx z).natAbs≤65536∧bl (qy z).natAbs≤65536∧0<qy z∧z=((decide (qx z<0),Xk (qx z).natAbs),(decide (qy z<0),Xk (qy z).natAbs)):=by
 have h':okR z.1.1 z.1.2 z.2.1 z.2.2=true:=h
 unfold qx qy
 rw [dif_pos h',dif_pos h']
 obtain⟨h1,h2,h3,e1,e2,e3,e4⟩:=(Ztp h').choose_spec.choose_spec
 exact⟨h1,h2,h3,Prod.ext (Prod.ext e1 e2) (Prod.ext e3 e4)⟩
theorem Zd0(x y x2 y2:Int)(hp:0<y)(hp2:0<y2)(hx:bl x.natAbs≤65536:=by omega)(hy:bl y.natAbs≤65536:=by omega)(hx2:bl x2.natAbs≤65536:=by omega)(hy2:bl y2.natAbs≤65536:=by omega):Od prog 60 #[rX x y,rX x2 y2] [] (.agg #[.bool (decide ((slow (x,y)).1<0)),.string (Xk (slow (x,y)).1.natAbs),.bool (decide ((slow (x,y)).2<0)),.string (Xk (slow (x,y)).2.natAbs),.bool (decide ((slow (x2,y2)).1<0)),.string (Xk (slow (x2,y2)).1.natAbs),.bool (decide ((slow (x2,y2)).2<0)),.string (Xk (slow (x2,y2)).2.natAbs)]):=by
 refine Yg func60 J ntmps60 J trivial fun w0 sc hw hsc=>?_
 simp only [Zs,Zq]
 refine Zb<|Zf<|tt (Xp (i:=1) K5 hw) fun bx _=>tt (Xp (i:=2) K5 hw) fun bx_2 _=>tt (Xi (i:=3) K2 zeroValue62 K2 hw) fun bx_3 _=>Zd<|Za<|Zb<|Zf<|dt (Qy K2 Hn J Yb K2)<|dt (Qm (i:=1) K3 Xl Yb K2)<|dt (Qy K2 Hn J Yb K2)<|dt (Qm (i:=1) K3 Xl Yb K2)<|tt (Yf (n:=3) (Zjr _ _ hx hy) K5 call119 Ze J hw) fun _ _=>mv J<|dt (Xa K3)<|dt (Xa K3)<|tt (Xi (i:=4) K2 zeroValue41 K2 hw) fun bx_4 _=>tt (Zt (i:=4) K6 Ym K2 ⟨Zc J,Zc J,Zc J,Zc J,trivial⟩ J hw trivial) fun _ _=>Zo J<|Zd<|Za<|Zb<|Zf<|dt (Qy K2 Hn J Yb K2)<|dt (Qm (i:=2) K3 Xl Yb K2)<|dt (Qy K2 Hn J Yb K2)<|dt (Qm (i:=2) K3 Xl Yb K2)<|tt (Yf (n:=4) (Zjr _ _ hx2 hy2) K5 call119 Ze J hw) fun _ _=>mv J<|dt (Xa K3)<|dt (Xa K3)<|tt (Xi (i:=5) K2 zeroValue41 K2 hw) fun bx_5 _=>tt (Zt (i:=5) K6 Ym K2 ⟨Zc J,Zc J,Zc J,Zc J,trivial⟩ J hw trivial) fun _ _=>Zo J<|Zd<|Za<|Zb<|Zf<|dt (Pj (i:=4) K3 Xf Ym K4)<|dt (Pj (i:=5) K3 Xf Ym K4) ?_
 exact dt (Oi (ivs:=[(0,_),(1,_)]) J K4 (fun a w hs=>Ydj))<|tt (Zt (i:=3) K6 Fe K2 ⟨Zc J,Zc J,Zc J,Zc J,Zc J,Zc J,Zc J,Zc J,trivial⟩ J hw trivial) fun _ _=>Zd<|Za<|Zp<|Yr (.inl J) hsc () _ (fun a w hs=>Nr hs results60 (Yw (i:=3) J J Zct Fe J)) J trivial J Zm
theorem Zqn(v:Value)(xs:List Int)(hv:Vp xs)(h0:xs≠[]):Cal prog 107 #[v] [Pw 2 wv v xs] true (G:=Value) (fun r=>True) (fun r=> .tuple #[r,.int .i64 0]) (fun r=>[Pw 2 wv r (Qa xs)]):=by
 refine Yg func107 J ntmps107 J K1 fun w0 sc hw hsc=>?_
 simp only [Zs,Zq]
 have hvp:=Ij hv
 have hl0:=List.length_pos_iff.2 h0
 have hlp:=Yv xs
 have hlen:=hv.len
 refine Zb<|Zf<|Zo J<|Zo J<|Zd<|Za<|Zb<|Zf<|mv J<|tt (Zy (n:=2) (Ku _ _ hv) K4 call150 (Zi 1 K3 Ze) J hw) fun _ _=>mv J<|dt (Xa K3)<|dt (Xa K3)<|Zo J<|Zo J<|Zd<|Za<|Zb<|Zb<|Zf<|mv J<|dt (dT (Hf K3) (vB (by decide)))<|mv J<|Zx (Ya K2) K2<|Zx (Yc J J (i:=2) J Zg Xn) K2<|Zx (dT (Fd K3) (vB (decide_eq_true (by omega)))) K2<|dt (Om K3)<|mv J<|Zx (Ya K2) K2<|Zx (Ya K2) K2<|Zx (Yc J J (i:=2) J Zg Xn) K2<|Zx (Pq K3) K2<|Zx (Nj (ii:=2) (i:=((Yx xs).length-1)) K4 Zg Xn Yb) K2<|Zx (Ms (ii:=2) 0 K3 Zg pV (by first | omega | (simp only [List.length_set];omega))) K2<|Pp (Zy (n:=2) (Km _ (hvp.sz _)) K4 call104 Ze J hw) K3 fun _ _=>Zx (Pa K3) K2<|dt (Om K3)<|Zd<|Za<|Zr J (fun h63=>?_) (fun h63=>?_)
 ·exact Zb<|Zf<|mv J<|tt (Zy (n:=2) (Xw _ ⟨by decide,by decide⟩) K4 Fb Ze J hw) fun _ _=>tt (Yf (n:=3) (Ak _ _ _ hvp (by decide +kernel) (fun i=>Zcj hvp.sz i)) K5 call151 (Zi 2 K3 Ze) J hw) fun _ _=>dt (Xa K3)<|dt (Xa K3)<|Zo J<|Zo J<|Zd<|Za<|Zp<|Yp<|Yr (.inl J) hsc _ _ (fun a w hs=>Pz hs results107 J J) J trivial J (Lg 3 K3 (by rw [Zje (by omega) ((Qu _).1 ‹_›)]<;>rfl) Zm)
 ·exact Zl<|Za<|Zb<|Zf<|mv J<|mv J<|Zo J<|Zo J<|Zd<|Za<|Zp<|Yr (.inl J) hsc _ _ (fun a w hs=>Pz hs results107 J J) J trivial J (Lg 2 K3 (by rw [Zjd (fun h=>by have h2:=(Qu _).2 h;exact absurd h2 ‹_›)]<;>rfl) Zm)
theorem Zz6(v:Value)(xs:List Int)(hd:Cvd xs)(h0:xs≠[]):Cal prog 51 #[v] [Pw 2 wv v xs] true (G:=Value) (fun r=>True) (fun r=> .tuple #[r,.int .i64 0]) (fun r=>[Pw 2 wv r (Kb xs)]):=by
 refine Yg func51 J ntmps51 J K1 fun w0 sc hw hsc=>?_
 simp only [Zs,Zq]
 refine Yl (Nc 999 2 31 wv)<|Yl (Qw 999 J J pV)<|Zb<|Zf<|Zo J<|Zo J<|Zd<|Za<|Zb<|Zf<|mv J<|tt (Zy (n:=2) (Zqn _ _ hd.v h0) K4 call107 (Zi 1 K3 Ze) J hw) fun _ _=>mv J<|dt (Xa K3)<|dt (Xa K3)<|Zo J<|Zo J<|Zd<|Za<|Zb<|Zb<|Zf<|mv J<|dt (dF (Pk K3) (vB (by decide)))<|Zd<|Za<|Yk J<|Zl<|Za<|Zb<|Zf<|tt (Kp (i:=3) (ivs:=[(0,_)]) (enc:=Eh) ([1]:List Int) K4 Ol ti3 K5 pZ.cells K2 hw) fun v _=>Qx (Qw 3 J J pZ)<|tt (Zy (n:=4) (Yew _ _ (fun x h=>by rw [List.mem_singleton.1 h];exact⟨by decide,by decide⟩) (by decide)) K4 call108 (Zi 3 K3 Ze) J hw) fun _ _=>mv J<|dt (Xa K3)<|dt (Xa K3)<|Zo J<|Zo J<|Zd<|Za<|Zb<|Zf<|Zo J<|Zd<|Za<|Zb<|Zf<|Zo J<|Zd<|Za<|Zn<|Yl (Np 2 80 K3)<|Yl (Np 4 81 K3)<|Yl (Np 999 82 K3) ?_
 refine Px [] [(0,_),(1,_),(999,_),(2,_),(3,_),(4,_)] (fun(q:Value×Value×Value×List Int×List Int×List Int×Nat)=>[(4,q.1),(6,q.2.1),(8,q.2.2.1),(9,.int .i64 (q.2.2.2.2.2.2:Int))]) (fun(q:Value×Value×Value×List Int×List Int×List Int×Nat)=>[(80,Pw 2 wv q.1 q.2.2.2.1),(81,Pw 2 wv q.2.1 q.2.2.2.2.1),(82,Pw 2 wv q.2.2.1 q.2.2.2.2.2.1)]) (fun(q:Value×Value×Value×List Int×List Int×List Int×Nat)=>(OddI xs q.2.2.2.2.2.2 q.2.2.2.1 q.2.2.2.2.1 q.2.2.2.2.2.1)∧(1≤q.2.2.2.2.2.2)∧(q.2.2.2.2.2.2+q.2.2.2.1.length≤10)) (fun(q:Value×Value×Value×List Int×List Int×List Int×Nat)=>q.2.2.2.1.length) (_,_,_,Qa xs,[1],[],1) ⟨OddI.start hd h0,by first | omega | (dsimp only<;>omega),by have:=Nf hd.v.tr;have:=hd.l;dsimp only;omega⟩ K4 K9 ?_
 rintro⟨vr,vo,vb,rest,out,bef,t⟩ ⟨hI,ht1,ht2⟩
 dsimp only at hI ht1 ht2
 simp only [CA,NA]
 obtain⟨a1,a2,a3,a4,a5,a6,a7,a8,a9,a10,a11,a12,a13,a14,a15,a16,a17,a18⟩:=Zd3 hd h0 (hI.dp hd h0)
 obtain⟨o1,o2,o3⟩:=hI.out hd h0
 refine Zb<|Zn<|Zb<|Zf<|mv J<|tt (Zy (n:=5) (Zae _ _ a1 a3) K4 call109 (Zi 80 K3 Ze) J hw) fun _ _=>mv J<|dt (Xa K3)<|dt (Xa K3)<|Zo J<|Zo J<|Zd<|Za<|Zb<|Zb<|Zf<|mv J<|dt (dF (Pk K3) (vB (by decide)))<|Zd<|Za<|Yk J<|Zl<|Za<|Zb<|Zf<|mv J<|mv J<|tt (Yf (n:=6) (Zrb _ _ _ _ a1 a4 13 a5 a6) K5 call110 (Zi 80 K3 (Zi 5 K3 Ze)) J hw) fun _ _=>Qx (Fc 6 (q:=Pw 2 wv _ (Ns 13 rest)) (congrArg (Pw 2 wv _) a7) J J)<|mv J<|dt (Xa K3)<|dt (Xa K3)<|Zo J<|Zo J<|Zd<|Za<|Zb<|Zb<|Zf<|mv J<|dt (dF (Pk K3) (vB (by decide)))<|Zd<|Za<|Yk J<|Zl<|Za<|Zb<|Zf<|mv J<|mv J<|tt (Yf (n:=7) (Zc8 _ _ _ _ a1 a8 a9) K5 call111 (Zi 80 K3 (Zi 6 K3 Ze)) J hw) fun _ _=>Qx (Fc 7 (q:=Pw 2 wv _ (sqf 13 rest)) (congrArg (Pw 2 wv _) ((if_pos a10).trans a11)) J J)<|mv J<|dt (Xa K3)<|dt (Xa K3)<|Zo J<|Zo J<|Zd<|Za<|Zb<|Zb<|Zf<|mv J<|dt (dF (Pk K3) (vB (decide_eq_false (fun h=>h (if_pos a10)))))<|Zd<|Za<|Yk J<|Zl<|Za<|Zb<|Zb<|Zf<|mv J<|dt (Zli J J J)<|dt (Hf K3)<|Zd ?_
 refine Za<|Zr J (fun h91=>?_) (fun h91=>?_)
 ·have ht:t%2=0:=by omega
  obtain⟨e1,e2,e3,e4,e5,e6,e7,e8⟩:=hI.even hd h0 ht
  refine Zb<|Zf<|mv J<|mv J<|tt (Yf (n:=8) (Zc8 _ _ _ _ e1 a12 e2) K5 call111 (Zi 82 K3 (Zi 7 K3 Ze)) J hw) fun _ _=>Qx (Fc 8 (q:=Pw 2 wv _ (Kt bef (sqf 13 rest))) (congrArg (Pw 2 wv _) (if_pos e3)) J J)<|mv J<|dt (Xa K3)<|dt (Xa K3)<|Zo J<|Zo J<|Zd<|Za<|Zb<|Zb<|Zf<|mv J<|dt (dF (Pk K3) (vB (decide_eq_false (fun h=>h (if_pos e3)))))<|Zd<|Za<|Yk J<|Zl<|Za<|Zb<|Zf<|mv J<|mv J<|tt (Yf (n:=9) (Ya8 _ _ _ _ o1 e4 e5) K5 call112 (Zi 81 K3 (Zi 8 K3 Ze)) J hw) fun _ _=>mv J<|dt (Xa K3)<|dt (Xa K3)<|Zo J<|Zo J<|Zd<|Za<|Zb<|Zf<|mv J<|dt (dF (Pk K3) (vB (by decide)))<|Zd<|Za<|Yk J<|Zl<|Za<|Zb<|Zb<|Zf<|mv J<|dt (Yc J J (i:=7) J Zg Xn)<|dt (Hf K3)<|Zd<|Za<|Zr J (fun h101=>?_) (fun h101=>?_)
  ·exact Zb<|Zf<|mv J<|Zo J<|Zo J<|Zd<|Za<|Zp<|Yp<|Md<|Yp<|Yp<|Md<|Yr (.inl J) hsc _ _ (fun a w hs=>Pz hs results51 J J) J trivial J (Lg 9 K3 (by first | (rw [hI.odd_end hd h0 (by omega) (by omega)]<;>rfl) | (rw [e6 (by omega)]<;>rfl)) Zm)
  ·exact Zl<|Za<|Zf<|mv J<|mv J<|Zo J<|Zo J<|Zd<|Qh<|Za<|Zf<|mv J<|dt (Ov K3)<|Zo J<|Zd<|Qn (Np 6 80 K3)<|Qn (Np 9 81 K3)<|Qn (Np 7 82 K3)<|Xg (_,_,_,Ns 13 rest,_,sqf 13 rest,t+1) ⟨by first | exact hI.odd_next (by omega) (by omega) | exact e7 (by omega),by first | omega | (dsimp only<;>omega),by have:=a17 (by omega);dsimp only;omega⟩ (a17 (by omega)) K4 K9
 ·have ht:t%2=1:=by omega
  refine Zl<|Za<|Zb<|Zb<|Zf<|mv J<|dt (Yc J J (i:=7) J Zg Xn)<|dt (Hf K3)<|Zd<|Za<|Zr J (fun h101_2=>?_) (fun h101_2=>?_)
  ·exact Zb<|Zf<|mv J<|Zo J<|Zo J<|Zd<|Za<|Zp<|Yp<|Md<|Yp<|Yp<|Md<|Yr (.inl J) hsc _ _ (fun a w hs=>Pz hs results51 J J) J trivial J (Lg 81 K3 (by first | (rw [hI.odd_end hd h0 (by omega) (by omega)]<;>rfl) | (rw [e6 (by omega)]<;>rfl)) Zm)
  ·exact Zl<|Za<|Zf<|mv J<|mv J<|Zo J<|Zo J<|Zd<|Qh<|Za<|Zf<|mv J<|dt (Ov K3)<|Zo J<|Zd<|Qn (Np 6 80 K3)<|Qn (Np 7 82 K3)<|Xg (_,_,_,Ns 13 rest,_,sqf 13 rest,t+1) ⟨by first | exact hI.odd_next (by omega) (by omega) | exact e7 (by omega),by first | omega | (dsimp only<;>omega),by have:=a17 (by omega);dsimp only;omega⟩ (a17 (by omega)) K4 K9
theorem Zn2(v:Value)(xs:List Int)(hd:Cvd xs)(h0:xs≠[]:=by decide):Cal prog 12 #[v] [Pw 2 wv v xs] true (G:=Value) (fun r=>True) (fun r=> .tuple #[r,.int .i64 0]) (fun r=>[Pw 2 wv r (Kb xs)]):=by
 refine Yg func12 J ntmps12 J K1 fun w0 sc hw hsc=>?_
 simp only [Zs,Zq]
 have hv:=hd.v
 have hl0:=List.length_pos_iff.2 h0
 exact Yl (Nc 999 2 31 wv)<|Yl (Qw 999 J J pV)<|Zb<|Zf<|Zo J<|Zo J<|Zd<|Za<|Zb<|Zn<|Zb<|Zf<|mv J<|tt (Zy (n:=1) (Qt _ _ ‹_›) K4 Av (Zi 1 K3 Ze) J hw) fun _ _=>dt (Xh J J)<|Zo J<|Zd<|Za<|Yk J<|Zb<|Zf<|mv J<|dt (Yc J J (i:=1) J Zg Xn)<|dt (dF (Hf K3) (vB (decide_eq_false (by omega))))<|Zo J<|Zd<|Za<|Yk J<|Zb<|Zf<|mv J<|tt (Yf (n:=1) (Zn3 _ 0 xs hv) K5 call50 (Zi 1 K3 Ze) J hw) fun _ _=>dt (dF (Zev J J) (vB (decide_eq_false (fun h=>h (Ba hd (by omega))))))<|Zo J<|Zd<|Za<|Yk J<|Zl<|Qh<|Za<|Zb<|Zf<|mv J<|tt (Zy (n:=2) (Zz6 _ _ hd h0) K4 call51 (Zi 1 K3 Ze) J hw) fun _ _=>dt (Xa K3)<|dt (Xa K3)<|Zo J<|Zo J<|Zd<|Za<|Zp<|Yr (.inl J) hsc _ _ (fun a w hs=>Pz hs results12 J J) J trivial J (Kg 2 K3 Zm)
theorem Zj6(v:Value)(xs:List Int)(hd:Cvd xs):Cal prog 59 #[v] [Pw 2 wv v xs] true (G:=Value×List (SL×List Int)×Value×List (SL×List Int)) (fun r=>r.2.1.map Prod.snd=Qq xs∧r.2.2.2.map Prod.snd=Gz xs) (fun r=> .tuple #[.agg #[r.1,r.2.2.1],.int .i64 0]) (fun r=>[Ek 1 Gx qZ r.1 r.2.1,Ek 1 Gx qZ r.2.2.1 r.2.2.2]):=by
 refine Yg func59 J ntmps59 J K1 fun w0 sc hw hsc=>?_
 simp only [Zs,Zq]
 refine Ziw (Na 1 J Zg) (fun sv hsv=>?_)
 subst hsv
 have hv:=hd.v
 refine Yl (Nc 999 2 31 wv)<|Yl (Qw 999 J J pV)<|Zb<|Zf<|tt (Xi (i:=2) K2 zeroValue98 K2 hw) fun bx _=>Zo J<|Zd<|Za<|Zb<|Zf<|tt (Xi (i:=3) K2 zeroValue98 K2 hw) fun bx_2 _=>Zd<|Za<|Zb<|Zb<|Zf<|mv J<|dt (Yc J J (i:=1) J Zg Xn)<|dt (Hf K3)<|Zd<|Za<|Zr J (fun h129=>?_) (fun h129=>?_)
 ·exact Zb<|Zf<|dt (Qm (i:=3) K3 Bf Gu K2)<|tt (Zt (i:=2) K6 Gu K2 ⟨Zc J,Zc J,trivial⟩ J hw trivial) fun _ _=>Zo J<|Zd<|Za<|Zp<|Yp<|Qn (Nc 70 1 23 (Gx (α:=List Int)))<|Qn (Ke qZ 71)<|Qn (Qw 70 J J pS)<|Qn (Lx 70 71 72 J J J J)<|Yr (.inl J) hsc (.slice none 0 0,[],.slice none 0 0,[]) _ (fun a w hs=>Pz hs results59 (Yw (i:=2) J J Bf Gu J) J) J ⟨(Znh (by omega)).symm,(Ygd (by omega)).symm⟩ J (Kg 72 K3 (Kg 72 K3 Zm))
 ·have h0:xs≠[]:=fun e=>by rw [e]at h129;simp at h129
  obtain⟨q1,q2,q3,q4,q5⟩:=Zb9 hd h0
  refine Zl<|Za<|Zb<|Zb<|Zf<|mv J<|Zo J<|Zo J<|Zd<|Za<|Zn<|Yl (Nc 70 1 23 (Gx (α:=List Int)))<|Yl (Ke qZ 71)<|Yl (Np 1 80 K3)<|Px [(0,_),(2,_),(4,_)] [(0,_),(1,_),(999,_),(2,_)] (fun(q:List (SL×List Int)×SL×List Int×Value×Nat)=>[(5,svv q.2.1)]) (fun(q:List (SL×List Int)×SL×List Int×Value×Nat)=>[(70,Lf 1 23 Gx q.2.2.2.1 q.1),(71,Cd qZ q.1),(80,Pw 2 wv (svv q.2.1) q.2.2.1),(3,box bx_2 98 #[q.2.2.2.1,.slice none 0 0])]) (fun(q:List (SL×List Int)×SL×List Int×Value×Nat)=>(Vp q.2.2.1)∧(Sz q.2.2.2.2 q.2.2.1)∧(q.2.2.2.2+5*q.2.2.1.length≤110)∧(q.1.length+q.2.2.1.length≤7)∧(q.1.map Prod.snd ++ Qq q.2.2.1=Qq xs)) (fun(q:List (SL×List Int)×SL×List Int×Value×Nat)=>q.2.2.1.length) ([],sv,xs,_,70) ⟨hv,hd.s,by have:=hd.l;dsimp only;omega,by have:=hd.l;simp;omega,rfl⟩ K4 K8 ?_
  rintro⟨ws,sd,y,vo,k⟩ ⟨hy,hys,hk,hyl,hws⟩
  dsimp only at hy hys hk hyl hws
  simp only [CA,NA]
  refine Zb<|Zb<|Zf<|mv J<|dt (Yc J J (i:=80) J Zg Xn)<|dt (Fd K3)<|Zd<|Za<|Zr J (fun h132=>?_) (fun h132=>?_)
  ·refine Zl<|Za<|Zn<|Zb ?_
   have hpl:=Nq y
   have hdz:∀i,bl (cf y (i+1)*((i:Int)+1)).natAbs≤65536:=fun i=>by have h:=Fl hys (by omega) i;rw [Zg9]at h;omega
   refine Zf<|dt (Qy K2 Znv J Zjq K2)<|dt (Mc (i:=3) K3 isAgg96 J)<|mv J<|tt (Kp (i:=4) (ivs:=[(0,_)]) (enc:=Gx) [(sd,y)] K4 Ze3 ti23 K5 pS.cells K2 hw) fun v _=>tt (Ho (i:=70) (j:=4) (by_:=24) J J J J J J (by decide) J (Yu pS) Ze3 ti23 J pS J J J (by simp;omega) (by decide) J hw) fun v_2 _=>dt (Qy K2 Znv J Zjq K2)<|tt (Zzj (i:=3) J J J J J Zjq J (Zj (i:=70) J (Yu pS)) J hw trivial) fun _ _=>Zd<|Za<|Zb<|Zf<|mv J<|tt (Zy (n:=84) (Zae _ _ hy hdz) K4 call109 (Zi 80 K3 Ze) J hw) fun _ _=>Yca (Na 84 J Zg) (fun sn hsn=>?_)
   subst hsn
   exact mv J<|dt (Xa K3)<|dt (Xa K3)<|Zo J<|Zo J<|Zd<|Za<|Zb<|Zf<|mv J<|dt (dF (Pk K3) (vB (by decide)))<|Zd<|Za<|Yk J<|Zl<|Qh<|Qn (Ot (q:=qZ) (z:=(sd,y)) 71 80 71 J J J J J)<|Qn (Np 84 80 K3)<|Xg (ws ++ [(sd,y)],sn,Xy y,_,k+5) ⟨Zfs hy (fun i _=>hdz i),Fl hys (by omega),by dsimp only;omega,by dsimp only;simp;omega,by dsimp only;rw [List.map_append,List.append_assoc,←hws,Zei (p:=y) (by omega)];rfl⟩ (by dsimp only;omega) K4 K8
  ·refine Yt<|Zv<|Zv<|Pd<|Za<|Zb ?_
   have hy0:y.length=0:=by omega
   have hw2:ws.map Prod.snd=Qq xs:=by rw [←hws,Znh hy0,List.append_nil]
   exact Yl (Qw 70 J J pS)<|Yl (Lx 70 71 72 J J J J)<|Zf<|mv J<|tt (Zy (n:=5) (Zz6 _ _ hd h0) K4 call51 (Zi 1 K3 Ze) J hw) fun _ _=>mv J<|dt (Xa K3)<|dt (Xa K3)<|Zo J<|Zo J<|Zd<|Za<|Zb<|Zb<|Zf<|mv J<|dt (dF (Pk K3) (vB (by decide)))<|Zd<|Za<|Yk J<|Zl<|Za<|Zb<|Zf<|mv J<|tt (Zy (n:=6) (Zzv _ _ q2 q1.one q5 13 q1.ok) K4 call118 (Zi 5 K3 Ze) J hw) fun g hg=>mv J<|dt (Xa K3)<|dt (Xa K3)<|dt (Qy K2 Znv J Zjq K2)<|tt (Zzj (i:=3) J J J J J Zjq J (Zj (i:=6) J Ye) J hw trivial) fun _ _=>Zo J<|Zd<|Za<|Zb<|Zf<|dt (Qm (i:=3) K3 Bf Gu K2)<|mv J<|tt (Zt (i:=2) K6 Gu K2 ⟨Zj (i:=72) J Ye,Zj (i:=6) J Ye,trivial⟩ J hw trivial) fun _ _=>Zo J<|Zd<|Za<|Zp<|Yr (.inl J) hsc (_,ws,_,g.2) _ (fun a w hs=>Pz hs results59 (Yw (i:=2) J J Bf Gu J) J) J ⟨hw2,(hg).trans (Zpt (by omega)).symm⟩ J (Kg 72 K3 (Kg 6 K3 Zm))
theorem Zc3(v:Value)(xs:List Int)(x y x2 y2:Int)(hp:0<y)(hp2:0<y2)(hv:Vp xs)(hf:Zc1 xs 0)(he1:efit (x,y)=true)(he2:efit (x2,y2)=true)(hx:bl x.natAbs≤65536:=by omega)(hy:bl y.natAbs≤65536:=by omega)(hx2:bl x2.natAbs≤65536:=by omega)(hy2:bl y2.natAbs≤65536:=by omega):Od prog 58 #[v,rX x y,rX x2 y2,.slice none 0 0] [Pw 2 wv v xs] (.int .i64 (if 0<Iz (x,y) (x2,y2)then 3 else 0)):=by
 refine Yg func58 J ntmps58 J K1 fun w0 sc hw hsc=>?_
 simp only [Zs,Zq]
 refine Yl (Nc 999 2 31 wv)<|Yl (Qw 999 J J pV)<|Zb<|Zf<|tt (Xp (i:=2) K5 hw) fun bx _=>tt (Xp (i:=3) K5 hw) fun bx_2 _=>Zo J<|Zd<|Za<|Zb<|Zb<|Zf<|mv J<|tt (Zy (n:=3) (Qt _ _ ‹_›) K4 Av (Zi 1 K3 Ze) J hw) fun _ _=>dt (dF (Xh J J) (vB (by decide)))<|mv J<|Zx (Pj (i:=2) K3 Xf Ym K4) K2<|Pp (Zy (n:=3) (Oh _ _ hp hx hy) K4 Zbq Ze J hw) K3 fun _ _=>Zx (dF (Xh J J) (vB (by decide))) K2<|dt (Ql K3)<|mv J<|Zx (Pj (i:=3) K3 Xf Ym K4) K2<|Pp (Zy (n:=3) (Oh _ _ hp2 hx2 hy2) K4 Zbq Ze J hw) K3 fun _ _=>Zx (dF (Xh J J) (vB (by decide))) K2<|dt (Ql K3)<|mv J<|Zx (Ya K2) K2<|Zx (Yc J J (i:=999) J Zg Ad) K2<|Zx (dF (Fd K3) (vB (by decide))) K2<|dt (Ql K3)<|Zd<|Za<|Yk J<|Zl<|Za<|Zb<|Zf<|mv J<|tt (Zy (n:=3) (Zqp _ _ hv) K4 call14 (Zi 1 K3 Ze) J hw) fun _ _=>dt (dF (Zev J J) (vB (decide_eq_false (fun h=>h hf))))<|mv J<|Zx (Pj (i:=2) K3 Xf Ym K4) K2 ?_
 refine Pp (Zy (n:=3) (Hq _ _ hx hy) K4 call95 Ze J hw) K3 fun _ _=>Zx (dF (Xh J J) (vB (by rw [he1];rfl))) K2<|dt (Ql K3)<|mv J<|Zx (Pj (i:=3) K3 Xf Ym K4) K2<|Pp (Zy (n:=3) (Hq _ _ hx2 hy2) K4 call95 Ze J hw) K3 fun _ _=>Zx (dF (Xh J J) (vB (by rw [he2];rfl))) K2<|dt (Ql K3)<|Zo J<|Zd<|Za<|Zb<|Zb<|Zf<|mv J<|dt (Yc J J (i:=999) J Zg Ad)<|mv J<|Zd<|Za<|Zn<|Px [(5,_),(6,_),(43,_),(44,_)] [(0,_),(1,_),(999,_),(2,_),(3,_)] (fun(_:Unit)=>[(45,.int .i64 0),(9,.bool false)]) (fun(_:Unit)=>[]) (fun(_:Unit)=>True) (fun(_:Unit)=>0) () trivial K6 K5 ?_
 rintro _ -
 simp only [CA,NA]
 refine Zb<|Zf<|dt (dF (Pa K3) (vB (by decide)))<|Zd<|Za<|Zb<|Yk J<|Yt<|Zv<|Zv<|Pd<|Za<|Zb<|Zb<|Zf<|dt (Pj (i:=2) K3 Xf Ym K4)<|dt (Pj (i:=3) K3 Xf Ym K4)<|tt (Yf (n:=3) (Fz _ _ _ _ hp hp2 hx hy hx2 hy2) K5 call96 Ze J hw) fun _ _=>dt (Fd K3)<|Zd<|Za<|Zr J (fun h45=>?_) (fun h45=>?_)
 ·exact Zb<|Zf<|Zo J<|Zd<|Za<|Zp<|Yp<|xU hsc results58 J J (by rw [if_pos ‹_›])
 ·exact Zl<|Za<|Zb<|Zb<|Zf<|mv J<|Zd<|Za<|Yk J<|Zl<|Za<|Zb<|Zf<|Zo J<|Zd<|Za<|Zp<|xU hsc results58 J J (by rw [if_neg ‹_›])
theorem Zn4(v:Value)(r:List (Bool×ByteArray))(z1 z2:RZ)(hbad:(okP r && qOK z1 && qOK z2)=false):Od prog 58 #[v,.agg #[.bool z1.1.1,.string z1.1.2,.bool z1.2.1,.string z1.2.2],.agg #[.bool z2.1.1,.string z2.1.2,.bool z2.2.1,.string z2.2.2],.slice none 0 0] [Pw 2 Zax v r] (.int .i64 2):=by
 refine Yg func58 J ntmps58 J K1 fun w0 sc hw hsc=>?_
 simp only [Zs,Zq]
 refine Yl (Nc 999 2 31 wv)<|Yl (Qw 999 J J pV)<|Zb<|Zf<|tt (Xp (i:=2) K5 hw) fun bx _=>tt (Xp (i:=3) K5 hw) fun bx_2 _=>Zo J<|Zd<|Za<|Zb<|Zb<|Zf<|mv J<|tt (Zy (n:=3) (Zkm _ _) K4 Av (Zi 1 K3 Ze) J hw) fun _ _=>dt (Xh J J)<|mv J<|Kx (d:=15) J (fun s35=>?_) (fun s35=>?_)
 ·exact Yj K3<|Yj K3<|Yj K3<|dt (Om K3)<|mv J<|Yj K3<|Yj K3<|Yj K3<|dt (Om K3)<|mv J<|Yj K3<|Yj K3<|Yj K3<|dt (Om K3)<|Zd<|Za<|Of J<|Zb<|Zf<|Zo J<|Zd<|Za<|Zp<|Yp<|xU hsc results58 J J J
 ·refine Zx (Pj (i:=2) K3 Xf Ym K4) K2<|Pp (Zy (n:=3) (Bc _ _ _ _) K4 Zbq Ze J hw) K3 fun _ _=>Zx (Xh J J) K2<|dt (Ql K3)<|mv J<|Kx (d:=20) J (fun s35_2=>?_) (fun s35_2=>?_)
  ·exact Yj K3<|Yj K3<|Yj K3<|dt (Om K3)<|mv J<|Yj K3<|Yj K3<|Yj K3<|dt (Om K3)<|Zd<|Za<|Of J<|Zb<|Zf<|Zo J<|Zd<|Za<|Zp<|Yp<|xU hsc results58 J J J
  ·refine Zx (Pj (i:=3) K3 Xf Ym K4) K2<|Pp (Zy (n:=3) (Bc _ _ _ _) K4 Zbq Ze J hw) K3 fun _ _=>Zx (Xh J J) K2<|dt (Ql K3)<|mv J<|Kx (d:=25) J (fun s35_3=>?_) (fun s35_3=>?_)
   ·exact Yj K3<|Yj K3<|Yj K3<|dt (Om K3)<|Zd<|Za<|Of J<|Zb<|Zf<|Zo J<|Zd<|Za<|Zp<|Yp<|xU hsc results58 J J J
   ·refine Zx (Ya K2) K2<|Zx (Yc J J (i:=999) J Zg Ad) K2<|Zx (dF (Fd K3) (vB (by decide))) K2<|dt (Ql K3)<|Zd<|Za<|Yk J<|Zl<|Za<|Zb ?_
    exfalso;simp_all [qOK]
def Lw(z:R2):Prop:=0<z.2∧Int.gcd z.1 z.2=1
theorem lgcd_p{x y:Int}(hy:0<y):Kw x y=(Int.gcd x y:Int):=by unfold Kw;rw [if_neg (by omega)]
theorem Yb4{x y:Int}(hy:0<y):Lw (x/Kw x y,y/Kw x y):=by
 have hg:0<Int.gcd x y:=Int.gcd_pos_of_ne_zero_right _ (by omega)
 rw [lgcd_p hy]
 refine⟨Int.ediv_pos_of_pos_of_dvd hy (by omega) (Int.gcd_dvd_right ..),?_⟩
 exact Int.gcd_ediv_gcd_ediv_gcd hg
theorem Zo3{a:R2}(ha:0<a.2)(h:¬Hd a.1 a.2):Lw (slow a):=by
 obtain⟨n1,n2,-⟩:=Zfe h
 have:=Yb4 (x:=a.1) ha
 unfold slow;rw [n1,n2];exact this
theorem Yb3{a b:R2}(h:Zag a b)(ha:0<a.2)(hb:0<b.2):Lw (Pe a b):=by
 obtain⟨n1,n2,-⟩:=Zfe h.2
 have hp:0<Cu (a.1*b.2+b.1*a.2) (a.2*b.2)*2:=Int.mul_pos (Zkw h.1 (Int.mul_pos ha hb)) (by decide)
 have:=Yb4 (x:=Bp (a.1*b.2+b.1*a.2) (a.2*b.2)*1) hp
 unfold Pe;rw [n1,n2];exact this
structure Hv (n Q j:Nat) (W:Rat) (a b:R2):Prop where
 hQ:0<Q
 hQ2:Q<2^(2*n)
 ea:En (2^n) Q j a
 eb:En (2^n) Q j b
 wd:(qv b-qv a)*((2^j:Nat):Rat)=W
 le:qv a≤qv b
 la:Lw a
 lb:Lw b
theorem Hv.start{n:Nat}{a b:R2}(ha:0<a.2)(hb:0<b.2)(a1:bl a.1.natAbs≤n)(a2:bl a.2.natAbs≤n)(b1:bl b.1.natAbs≤n)(b2:bl b.2.natAbs≤n)(hn:n≤65536)(hle:qv a≤qv b):∃Q,Hv n Q 0 (qv b-qv a) (slow a) (slow b):=by
 obtain⟨s1,s2,s3,s4,s5⟩:=Zc0 ha a1 a2 hn
 obtain⟨t1,t2,t3,t4,t5⟩:=Zc0 hb b1 b2 hn
 have pa:=(Mj n _).1 s4
 have pb:=(Mj n _).1 t4
 have qa:=Zhv ha (Nat.le_of_lt ((Mj n _).1 a1))
 have qb:=Zhv hb (Nat.le_of_lt ((Mj n _).1 b1))
 have hQ0:0<(slow a).2.natAbs*(slow b).2.natAbs:=Nat.mul_pos (by omega) (by omega)
 have hQ1:(slow a).2.natAbs*(slow b).2.natAbs<2^(2*n):=by
  rw [show 2*n=n+n by omega,Nat.pow_add]
  exact Nat.mul_lt_mul_of_lt_of_le pa (Nat.le_of_lt pb) (Nat.pow_pos (by decide))
 generalize hQ:(slow a).2.natAbs*(slow b).2.natAbs=Q at *
 have hcast:((Q*2^0:Nat):Int)=(slow a).2*(slow b).2:=by
  rw [Nat.pow_zero,Nat.mul_one,←hQ];push_cast;rw [Int.natAbs_of_nonneg (by omega),Int.natAbs_of_nonneg (by omega)]
 have ea:En (2^n) Q 0 (slow a):=⟨s2,by rw [hcast];exact Int.dvd_mul_right _ _,by rw [s5];exact qa.1,by rw [s5];exact qa.2⟩
 have eb:En (2^n) Q 0 (slow b):=⟨t2,by rw [hcast];exact Int.dvd_mul_left _ _,by rw [t5];exact qb.1,by rw [t5];exact qb.2⟩
 exact⟨Q,hQ0,hQ1,ea,eb,by rw [s5,t5,Nat.pow_zero];push_cast;grind,by rw [s5,t5];exact hle,Zo3 ha s1,Zo3 hb t1⟩
theorem Hv.mid{n Q j B:Nat}{W:Rat}{a b:R2}(h:Hv n Q j W a b)(hB:3*n+2+j≤B)(hB2:B≤65536) :
  Zag a b∧(bl (Pe a b).1.natAbs≤B∧bl (Pe a b).2.natAbs≤B∧0<(Pe a b).2)∧qv (Pe a b)=(qv a+qv b)/2∧(bl a.1.natAbs≤B∧bl a.2.natAbs≤B∧0<a.2)∧(bl b.1.natAbs≤B∧bl b.2.natAbs≤B∧0<b.2)∧
  Hv n Q (j+1) W a (Pe a b)∧Hv n Q (j+1) W (Pe a b) b:=by
 have hpow:∀m,m≤B→2^m≤2^B:=fun m h=>Nat.pow_le_pow_right (by decide) h
 have hB1:Q*2^(j+1)<2^B:=by
  have:Q*2^(j+1)<2^(2*n)*2^(j+1):=Nat.mul_lt_mul_of_pos_right h.hQ2 (Nat.pow_pos (by decide))
  rw [←Nat.pow_add]at this
  exact Nat.lt_of_lt_of_le this (hpow _ (by omega))
 have hB3:2*2^n*(Q*2^j)<2^B:=by
  have h1:Q*2^j<2^(2*n)*2^j:=Nat.mul_lt_mul_of_pos_right h.hQ2 (Nat.pow_pos (by decide))
  have h2:2*2^n*(Q*2^j)<2*2^n*(2^(2*n)*2^j):=Nat.mul_lt_mul_of_pos_left h1 (Nat.mul_pos (by decide) (Nat.pow_pos (by decide)))
  have h3:2*2^n*(2^(2*n)*2^j)=2^(3*n+1+j):=by
   rw [←Nat.pow_add,←Nat.pow_succ',←Nat.pow_add];congr 1;omega
  rw [h3]at h2
  exact Nat.lt_of_lt_of_le h2 (hpow _ (by omega))
 obtain⟨m1,m2,m3,m4,m5⟩:=Ybz h.ea h.eb h.hQ hB1 hB3 hB2
 obtain⟨p1,p2⟩:=Ycs (e:=j) (w:=0) (B:=B) h.ea h.hQ h.hQ2 (by omega)
 obtain⟨r1,r2⟩:=Ycs (e:=j) (w:=0) (B:=B) h.eb h.hQ h.hQ2 (by omega)
 have hlm:=Yb3 m1 h.ea.pos h.eb.pos
 have hw:((2^(j+1):Nat):Rat)=2*((2^j:Nat):Rat):=by rw [Nat.pow_succ];push_cast;grind
 have hle:=h.le
 refine⟨m1,⟨m4,m5,m2.pos⟩,m3,⟨p1,p2,h.ea.pos⟩,⟨r1,r2,h.eb.pos⟩,⟨h.hQ,h.hQ2,h.ea.up,m2,?_,by grind,h.la,hlm⟩,⟨h.hQ,h.hQ2,m2,h.eb.up,?_,by grind,hlm,h.lb⟩⟩
 ·rw [m3,hw,←h.wd];grind
 ·rw [m3,hw,←h.wd];grind
theorem Yeg{xs:List Int}(h:Cvd xs)(h0:xs≠[]):Az 13 xs∧∀u v:Rat,-((2^34:Nat):Rat)≤u→u≤v→v≤((2^34:Nat):Rat)→v-u≤1/((2^2700:Nat):Rat)→vch 13 xs u-vch 13 xs v≤1:=by
 have hl:=h.l
 obtain⟨hC,hq1,hq2,hq3⟩:=chF 13 h.v.tr h0 h.s (by omega) (by omega) (by omega)
 have hd:=Fl hq1 (by omega)
 have hss:∀n,n≤7→2≤n→Zu9 (2^34) (2^205) n 2700=true:=by decide +kernel
 exact⟨hC,fun u v=>sep_of h.v.tr h0 hC (Nat.pow_pos (by decide)) (A:=2^205) (Nat.pow_pos (by decide)) (fun i=>Nat.le_trans (Zhm hq1 i) (Nat.pow_le_pow_right (by decide) (by omega))) (fun i=>Zhm hd i) (fun h2=>hss _ (by omega) h2) u v⟩
theorem Zya{j e w:Nat}{x W:Rat}(h1:1/((2^(e+1):Nat):Rat)<x)(h2:x*((2^j:Nat):Rat)=W)(h3:W≤((2^w:Nat):Rat)):j<e+1+w:=by
 have p1:=two_pow_pos (e+1)
 have p2:=two_pow_pos j
 rcases Nat.lt_or_ge j (e+1+w)with q | q
 ·exact q
 ·exfalso
  have hi:0<((2^(e+1):Nat):Rat)⁻¹:=Rat.inv_pos.2 p1
  have hc:((2^(e+1):Nat):Rat)*((2^(e+1):Nat):Rat)⁻¹=1:=Rat.mul_inv_cancel _ (by grind)
  have g1:((2^(e+1):Nat):Rat)*((2^w:Nat):Rat)≤((2^j:Nat):Rat):=by
   have:2^(e+1)*2^w≤2^j:=by rw [←Nat.pow_add];exact Nat.pow_le_pow_right (by decide) q
   exact_mod_cast this
  have g2:((2^(e+1):Nat):Rat)⁻¹<x:=by grind
  have g3:=Rat.mul_pos (show 0<x-((2^(e+1):Nat):Rat)⁻¹ by grind) p2
  have g4:=Rat.mul_nonneg (Rat.le_of_lt hi) (show 0≤((2^j:Nat):Rat)-((2^(e+1):Nat):Rat)*((2^w:Nat):Rat) by grind)
  have g5:((2^(e+1):Nat):Rat)⁻¹*(((2^(e+1):Nat):Rat)*((2^w:Nat):Rat))=((2^w:Nat):Rat):=by
   rw [←Rat.mul_assoc,Rat.mul_comm (((2^(e+1):Nat):Rat)⁻¹),hc,Rat.one_mul]
  grind
structure NIn (xs:List Int) (s t:Rat) (j:Nat) (a b:R2):Prop where
 ex:∃Q W,Hv 34 Q j W a b∧W≤((2^34:Nat):Rat)
 lo:s≤qv a
 hi:qv b≤t
 l0:-((2^33:Nat):Rat)≤s
 h0:t≤((2^33:Nat):Rat)
 pa:0≤Zu xs (qv a)
 pb:0≤Zu xs (qv b)
 ng:Ziz xs (qv a) (qv b)
theorem rat34:((2^34:Nat):Rat)=2*((2^33:Nat):Rat)∧(1:Rat)≤((2^33:Nat):Rat):=by
 have h:∀n:Nat,((2^(n+1):Nat):Rat)=2*((2^n:Nat):Rat):=fun n=>by rw [Nat.pow_succ];push_cast;grind
 constructor
 ·exact h 33
 ·exact_mod_cast (show 1≤2^33 by decide)
theorem NIn.j{xs:List Int}{lo hi:Rat}{j:Nat}{a b:R2}(hd:Cvd xs)(h0:xs≠[])(h:NIn xs lo hi j a b):j<2735:=by
 obtain⟨Q,W,h1,h2⟩:=h.ex
 obtain⟨hC,hs⟩:=Yeg hd h0
 obtain⟨k1,k2⟩:=rat34
 have a1:=h.lo
 have a2:=h.hi
 have a3:=h.l0
 have a4:=h.h0
 have:=Ye8 (Zb9 hd h0).1 hC (K:=2^34) (e:=2700) hs (s:=qv a) (t:=qv b) (by grind) (by grind) h.pa h.pb h.ng
 exact Zya (e:=2700) (w:=34) this h1.wd h2
theorem NIn.start{xs:List Int}{a b:R2}(ha:0<a.2)(hb:0<b.2)(a1:bl a.1.natAbs≤32)(a2:bl a.2.natAbs≤32)(b1:bl b.1.natAbs≤32)(b2:bl b.2.natAbs≤32)(hle:qv a≤qv b)(pa:0≤Zu xs (qv a))(pb:0≤Zu xs (qv b))(ng:Ziz xs (qv a) (qv b)) :
  NIn xs (qv a) (qv b) 0 (slow a) (slow b):=by
 obtain⟨Q,hh⟩:=Hv.start (n:=34) ha hb (by omega) (by omega) (by omega) (by omega) (by omega) hle
 obtain⟨-,-,-,-,s5⟩:=Zc0 (n:=34) ha (by omega) (by omega) (by omega)
 obtain⟨-,-,-,-,t5⟩:=Zc0 (n:=34) hb (by omega) (by omega) (by omega)
 have q1:=Zhv (K:=2^33) ha (Nat.le_trans (Nat.le_of_lt ((Mj 32 _).1 a1)) (by decide))
 have q2:=Zhv (K:=2^33) hb (Nat.le_trans (Nat.le_of_lt ((Mj 32 _).1 b1)) (by decide))
 obtain⟨k1,k2⟩:=rat34
 exact⟨⟨Q,_,hh,by grind⟩,by rw [s5];exact Rat.le_refl,by rw [t5];exact Rat.le_refl,q1.1,q2.2,by rw [s5];exact pa,by rw [t5];exact pb,by rw [s5,t5];exact ng⟩
structure Fnd (xs:List Int) (s t:Rat) (m:R2):Prop where
 ng:Zu xs (qv m)<0
 lo:s≤qv m
 hi:qv m≤t
 b1:bl m.1.natAbs≤3000
 b2:bl m.2.natAbs≤3000
 lw:Lw m
theorem NIn.round{xs:List Int}{lo hi:Rat}{j:Nat}{a b:R2}(hd:Cvd xs)(h0:xs≠[])(h:NIn xs lo hi j a b) :
  Zag a b∧(bl (Pe a b).1.natAbs≤3000∧bl (Pe a b).2.natAbs≤3000∧0<(Pe a b).2)∧(bl a.1.natAbs≤3000∧bl a.2.natAbs≤3000∧0<a.2)∧(bl b.1.natAbs≤3000∧bl b.2.natAbs≤3000∧0<b.2)∧
  (vlu (Qq xs) (Pe a b)<0→Fnd xs lo hi (Pe a b))∧(¬vlu (Qq xs) (Pe a b)<0→Bj (Qq xs) (Gz xs) a (Pe a b)=true→NIn xs lo hi (j+1) a (Pe a b))∧
  (¬vlu (Qq xs) (Pe a b)<0→Bj (Qq xs) (Gz xs) a (Pe a b)=false→NIn xs lo hi (j+1) (Pe a b) b):=by
 have hj:=h.j hd h0
 obtain⟨Q,W,h1,h2⟩:=h.ex
 obtain⟨m1,m2,m3,m4,m5,m6,m7⟩:=h1.mid (B:=3000) (by omega) (by omega)
 have hle:=h1.le
 have l1:=h.lo
 have l2:=h.hi
 have hv:=Zjv (xs:=xs) m2.2.2
 have hns:¬vlu (Qq xs) (Pe a b)<0→0≤Zu xs (qv (Pe a b)):=fun hn=>by
  rw [hv]at hn
  rcases Oy (Zu xs (qv (Pe a b)))with⟨h5,h6⟩ | ⟨h5,h6⟩ | ⟨h5,h6⟩
  ·exact Rat.le_of_lt h5
  ·rw [h6]at hn;exact absurd (by decide) hn
  ·rw [h5];exact Rat.le_refl
 have hsem:=Zca hd m4.2.2 m2.2.2 (show qv a≤qv (Pe a b) by grind)
 refine⟨m1,m2,m4,m5,fun hn=>?_,fun hn hb=>?_,fun hn hb=>?_⟩
 ·have:Zu xs (qv (Pe a b))<0:=by
   rw [hv]at hn
   rcases Oy (Zu xs (qv (Pe a b)))with⟨h5,h6⟩ | ⟨h5,h6⟩ | ⟨h5,h6⟩
   ·rw [h6]at hn;exact absurd hn (by decide)
   ·exact h5
   ·rw [h6]at hn;exact absurd hn (by decide)
  exact⟨this,by grind,by grind,m2.1,m2.2.1,Yb3 m1 m4.2.2 m5.2.2⟩
 ·exact⟨⟨Q,W,m6,h2⟩,l1,by grind,h.l0,h.h0,h.pa,hns hn,hsem.1 hb⟩
 ·refine⟨⟨Q,W,m7,h2⟩,by grind,l2,h.l0,h.h0,hns hn,h.pb,?_⟩
  obtain⟨x,x1,x2,x3⟩:=h.ng
  rcases(show x≤qv (Pe a b)∨qv (Pe a b)≤x by grind)with q | q
  ·have:=hsem.2 ⟨x,x1,q,x3⟩;rw [hb]at this;exact absurd this (by decide)
  ·exact⟨x,q,x2,x3⟩
def frs(xs:List Int):Nat→R2→R2→R2×R2
 | 0,a,b=>(a,b)
 | n+1,a,b=>if Bj (Qq xs) (Gz xs) a (Pe a b)then frs xs n a (Pe a b)else frs xs n (Pe a b) b
structure E32 (a:R2):Prop where
 p:0<a.2
 b1:bl a.1.natAbs≤32
 b2:bl a.2.natAbs≤32
theorem E32.slow{a:R2}(h:E32 a):E32 (slow a)∧qv (Go.Sky.slow a)=qv a∧Lw (Go.Sky.slow a)∧¬Hd a.1 a.2:=by
 obtain⟨s1,s2,s3,s4,s5⟩:=Zc0 (n:=32) h.p h.b1 h.b2 (by omega)
 exact⟨⟨s2,s3,s4⟩,s5,Zo3 h.p s1,s1⟩
theorem Zi2{xs:List Int}{m:R2}(hm:0<m.2):vlu (Qq xs) m<0↔Zu xs (qv m)<0:=by
 rw [Zjv hm]
 rcases Oy (Zu xs (qv m))with⟨h5,h6⟩ | ⟨h5,h6⟩ | ⟨h5,h6⟩
 ·rw [h6];constructor
  ·intro h;exact absurd h (by decide)
  ·intro h;grind
 ·rw [h6];exact⟨fun _=>h5,fun _=>by decide⟩
 ·rw [h6,h5];constructor
  ·intro h;exact absurd h (by decide)
  ·intro h;grind
theorem end_l{xs:List Int}{a b:R2}(ha:E32 a)(hle:qv a≤qv b)(h:vlu (Qq xs) (slow a)<0):Fnd xs (qv a) (qv b) (slow a):=by
 obtain⟨s1,s2,s3,s4⟩:=ha.slow
 have h9:=(Zi2 s1.p).1 h
 exact⟨h9,by rw [s2];exact Rat.le_refl,by rw [s2];exact hle,Nat.le_trans s1.b1 (by decide),Nat.le_trans s1.b2 (by decide),s3⟩
theorem end_r{xs:List Int}{a b:R2}(hb:E32 b)(hle:qv a≤qv b)(h:vlu (Qq xs) (slow b)<0):Fnd xs (qv a) (qv b) (slow b):=by
 obtain⟨s1,s2,s3,s4⟩:=hb.slow
 have h9:=(Zi2 s1.p).1 h
 exact⟨h9,by rw [s2];exact hle,by rw [s2];exact Rat.le_refl,Nat.le_trans s1.b1 (by decide),Nat.le_trans s1.b2 (by decide),s3⟩
theorem Zye{xs:List Int}{a b:R2}(hd:Cvd xs)(ha:E32 a)(hb:E32 b)(hle:qv a≤qv b)(h1:¬vlu (Qq xs) (slow a)<0)(h2:¬vlu (Qq xs) (slow b)<0)(hn:Bj (Qq xs) (Gz xs) a b=true) :
  NIn xs (qv a) (qv b) 0 (slow a) (slow b):=by
 obtain⟨s1,s2,s3,s4⟩:=ha.slow
 obtain⟨t1,t2,t3,t4⟩:=hb.slow
 have k1:¬Zu xs (qv (slow a))<0:=fun e=>h1 ((Zi2 s1.p).2 e)
 have k2:¬Zu xs (qv (slow b))<0:=fun e=>h2 ((Zi2 t1.p).2 e)
 rw [s2]at k1
 rw [t2]at k2
 exact NIn.start ha.p hb.p ha.b1 ha.b2 hb.b1 hb.b2 hle (by grind) (by grind) ((Zca hd ha.p hb.p hle).1 hn)
theorem ngb_ne{xs:List Int}{a b:R2}(h:Bj (Qq xs) (Gz xs) a b=true):xs≠[]:=fun e=>by
 subst e
 unfold Bj at h
 split at h
 ·exact absurd h (by show ¬decide ((0:Int)<0)=true;decide)
 ·exact absurd h (by show ¬(decide ((0:Int)<0) || false)=true;decide)
theorem E32.efit{a:R2}(h:E32 a):efit a=true:=by
 have:=h.b1
 have:=h.b2
 unfold Go.Sky.efit;exact decide_eq_true (by omega)
theorem Zr4{xs:List Int}{n:Nat}{a b:R2} : frs xs (n+1) a b=if Bj (Qq xs) (Gz xs) a (Pe a b)then frs xs n a (Pe a b)else frs xs n (Pe a b) b:=rfl
structure FIn (xs:List Int) (j:Nat) (a b:R2):Prop where
 ex:∃Q W,Hv 34 Q j W a b
 bj:j≤200
theorem FIn.start{xs:List Int}{a b:R2}(ha:E32 a)(hb:E32 b)(hle:qv a≤qv b):FIn xs 0 (slow a) (slow b):=by
 obtain⟨Q,hh⟩:=Hv.start (n:=34) ha.p hb.p (Nat.le_trans ha.b1 (by decide)) (Nat.le_trans ha.b2 (by decide)) (Nat.le_trans hb.b1 (by decide)) (Nat.le_trans hb.b2 (by decide)) (by omega) hle
 exact⟨⟨Q,_,hh⟩,by omega⟩
theorem FIn.round{xs:List Int}{j:Nat}{a b:R2}(h:FIn xs j a b) :
  Zag a b∧(bl (Pe a b).1.natAbs≤3000∧bl (Pe a b).2.natAbs≤3000∧0<(Pe a b).2)∧(bl a.1.natAbs≤3000∧bl a.2.natAbs≤3000∧0<a.2)∧(bl b.1.natAbs≤3000∧bl b.2.natAbs≤3000∧0<b.2)∧
  (j<200→FIn xs (j+1) a (Pe a b)∧FIn xs (j+1) (Pe a b) b):=by
 obtain⟨Q,W,h1⟩:=h.ex
 have hj:=h.bj
 obtain⟨m1,m2,m3,m4,m5,m6,m7⟩:=h1.mid (B:=3000) (by omega) (by omega)
 exact⟨m1,m2,m4,m5,fun hj2=>⟨⟨⟨Q,W,m6⟩,by omega⟩,⟨⟨Q,W,m7⟩,by omega⟩⟩⟩
theorem Ye7{xs:List Int}{a b:R2}(ha:E32 a)(hb:E32 b)(hle:qv a≤qv b){i:Nat}(hi:i<2)(h:vlu (Qq xs) ([slow a,slow b].getD i (0,0))<0):Fnd xs (qv a) (qv b) ([slow a,slow b].getD i (0,0)):=by
 rcases(show i=0∨i=1 by omega)with e | e
 ·subst e;exact end_l ha hle h
 ·subst e;exact end_r hb hle h
theorem Yft{a b:R2}(ha:E32 a)(hb:E32 b)(i:Nat)(hi:i<2):E32 ([slow a,slow b].getD i (0,0)):=by
 rcases(show i=0∨i=1 by omega)with e | e
 ·subst e;exact ha.slow.1
 ·subst e;exact hb.slow.1
theorem Zw1{a b:R2}(ha:E32 a)(hb:E32 b)(h:¬0<Iz a b):qv a≤qv b:=(Zch ha.p hb.p).1 (by omega)
end Go.Sky

