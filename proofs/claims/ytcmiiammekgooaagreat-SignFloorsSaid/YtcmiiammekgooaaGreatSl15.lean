/- rules, arithmetic and contracts: part 16
   Proved without conditions of its own: each theorem bears its own. -/
import Derived.Test.YtcmiiammekgooaaGreatSl03
import Derived.Test.YtcmiiammekgooaaGreatSl02
import Derived.Test.YtcmiiammekgooaaGreatSl01
import Derived.Test.YtcmiiammekgooaaGreatSl12
import Derived.Test.YtcmiiammekgooaaGreatSl14
import Derived.Test.YtcmiiammekgooaaGreatSl11
import Derived.Test.YtcmiiammekgooaaGreatSl13
set_option linter.all false
namespace Go.Sky
open Go.Proofs.Tryz
open Go.Proofs
set_option maxRecDepth 20000
set_option maxHeartbeats 4000000
set_option linter.unusedSimpArgs false
theorem Zhf(v:Value)(m:Nat)(xs:List Int)(hv:Vp xs)(hm:m≤1000:=by omega):Ml prog 50 #[v,.int .i64 (m:Int)] [slp 2 wv v xs] (.bool (decide (Dn xs m))):=by
 refine Ya func50 J ntmps50 J K1 ?_
 intro w0 sc hw hsc
 simp only [Zp,Zn]
 have hlen:=hv.len
 have hmz:=Ps hv.sz
 have q1:(xs.length+2)*(xs.length+2)≤27*27:=Nat.mul_le_mul (by omega) (by omega)
 have q2:(xs.length+2)*(xs.length+2)*(msz xs+m+2*(xs.length-1)+32)≤27*27*70000:=Nat.mul_le_mul q1 (by omega)
 have q3:((xs.length:Int)-1+3)*((xs.length:Int)-1+3)=(((xs.length+2)*(xs.length+2):Nat):Int):=by rw [show(xs.length:Int)-1+3=((xs.length+2:Nat):Int) by omega];push_cast;rfl
 have q4:xs.length≠0→((xs.length:Int)-1+3)*((xs.length:Int)-1+3)*((msz xs:Int)+(m:Int)+2*((xs.length:Int)-1)+32)=(((xs.length+2)*(xs.length+2)*(msz xs+m+2*(xs.length-1)+32):Nat):Int):=fun h=>by rw [q3,show(msz xs:Int)+(m:Int)+2*((xs.length:Int)-1)+32=((msz xs+m+2*(xs.length-1)+32:Nat):Int) by omega];push_cast;rfl
 refine Zc<|Zg<|as_ J<|Zf<|Za<|Zc<|Zg<|mv J<|tt (Zh (n:=1) (Zeo _ _ hv) J J J K1 call105 (Zb 1 J J J Ze) J hw) fun _ _=>mv J<|dt (Yf J J J)<|dt (Yf J J J)<|as_ J<|as_ J<|Zf<|Za<|Zc<|Zg<|mv J<|tt (Zh (n:=1) (Zjs _ _ hv) J J J K1 call106 (Zb 1 J J J Ze) J hw) fun _ _=>mv J<|dt (Yf J J J)<|dt (Yf J J J)<|as_ J<|as_ J<|Zf<|Za<|Zc<|Zg<|mv J<|dt (Yb J J (i:=1) J Zi Qp)<|dt (Pm J J J)<|mv J<|Qu (d:=22) J (fun s24=>?_) (fun s24=>?_)
 ·exact gsk J J J<|gsk J J J<|gsk J J J<|gsk J J J<|gsk J J J<|gsk J J J<|gsk J J J<|gsk J J J<|gsk J J J<|gsk J J J<|gsk J J J<|gsk J J J<|gsk J J J<|gsk J J J<|dt (Xh J J J)<|as_ J<|Zf<|Za<|Zv<|xU hsc results50 J J (by first | exact Zv4 (by omega) | exact Zv5 (by omega) (q4 (by omega)))
 ·exact gdt (Ym J J) J J<|gdt (Ys J J J ⟨by omega,by omega⟩) J J<|gdt (Ym J J) J J<|gdt (Ys J J J ⟨by omega,by omega⟩) J J<|gdt (Gq J J J (by rw [q3];exact⟨by omega,by omega⟩)) J J<|gdt (Ym J J) J J<|gdt (Ym J J) J J<|gdt (Ys J J J ⟨by omega,by omega⟩) J J<|gdt (Ym J J) J J<|gdt (Gq J J J ⟨by omega,by omega⟩) J J<|gdt (Ys J J J ⟨by omega,by omega⟩) J J<|gdt (Ys J J J ⟨by omega,by omega⟩) J J<|gdt (Gq J J J (by rw [q4 (by omega)];exact⟨by omega,by omega⟩)) J J<|gdt (Co J J J) J J<|dt (Yh J J J)<|as_ J<|Zf<|Za<|Zv<|xU hsc results50 J J (by first | exact Zv4 (by omega) | exact Zv5 (by omega) (q4 (by omega)))
theorem Zm7(v:Value)(xs:List Int)(hv:Vp xs):Ml prog 14 #[v] [slp 2 wv v xs] (.bool (decide (Dn xs 0))):=by
 refine Ya func14 J ntmps14 J K1 ?_
 intro w0 sc hw hsc
 simp only [Zp,Zn]
 exact Zc<|Zg<|as_ J<|Zf<|Za<|Zc<|Zg<|mv J<|tt (Zh (n:=1) (Xq _ _ ‹_›) J J J K1 Zdr (Zb 1 J J J Ze) J hw) fun _ _=>mv J<|gdt (Ym J J) J J<|gtt (Zh (n:=1) (Zhf _ 0 xs hv) J J J K2 call50 (Zb 1 J J J Ze) J hw) J J J fun _ _=>dt (Xh J J J)<|as_ J<|Zf<|Za<|Zv<|xU hsc results14 J J J
theorem Kr(x y:Int)(hx:bl x.natAbs≤65536:=by omega)(hy:bl y.natAbs≤65536:=by omega):Ml prog 95 #[rX x y] [] (.bool (efit (x,y))):=by
 refine Ya func95 J ntmps95 J trivial ?_
 intro w0 sc hw hsc
 simp only [Zp,Zn]
 refine Zc<|Zg<|tt (Xe (i:=1) J J J J J hw) fun bx _=>as_ J<|Zf<|Za<|Zc<|Ql (fun _=>False) [(0,0),(1,0),(3,0),(4,0),(2,1),(5,1),(6,0),(7,0),(8,3)] ?_ ?_
 ·kernel_rfl
 exact r0' J J (st0 (Xx J J Zac J Yj J J))<|r0' J J (st0 (Zz (i:=1) J J J Qj Yj J J))<|r0' J J (st0 (Xx J J Zac J Yj J J))<|r0' J J (st0 (Zz (i:=1) J J J Qj Yj J J))<|r1' J (Zh (n:=1) (Zgt _ hx) J J J K1 call145 Ze J hw) fun _ _=>r1' J (Zh (n:=1) (Zgt _ hy) J J J K1 call145 Ze J hw) fun _ _=>r0' J J (st0 (Zt6 J J J))<|r0' J J (st0 (Co J J J))<|r3' J (Px (Lq J J) J) fun _ _=>Og<|Za<|Zv<|xU hsc results95 J J (by unfold efit;exact congrArg Value.bool (decide_eq_decide.2 (by dsimp only;omega)))
theorem Gc(x y x2 y2:Int)(hp:0<y)(hp2:0<y2)(hx:bl x.natAbs≤65536:=by omega)(hy:bl y.natAbs≤65536:=by omega)(hx2:bl x2.natAbs≤65536:=by omega)(hy2:bl y2.natAbs≤65536:=by omega):Ml prog 96 #[rX x y,rX x2 y2] [] (.int .i64 (cmp (x,y) (x2,y2))):=by
 refine Ya func96 J ntmps96 J trivial ?_
 intro w0 sc hw hsc
 simp only [Zp,Zn]
 exact Zc<|Zg<|tt (Xe (i:=1) J J J J J hw) fun bx _=>tt (Xe (i:=2) J J J J J hw) fun bx_2 _=>as_ J<|Zf<|Za<|Zc<|Zg<|dt (Yy (i:=1) J J J Pv Xz J J J J)<|dt (Yy (i:=2) J J J Pv Xz J J J J)<|tt (Zh (n:=2) (Zbr _ _ _ _ hx hy hx2 hy2 hp hp2) J J J K2 call146 Ze J hw) fun _ _=>mv J<|dt (Yf J J J)<|dt (Yf J J J)<|as_ J<|as_ J<|Zf<|Za<|Zc<|Zg<|mv J<|as_ J<|Zf<|Za<|Zv<|xU hsc results96 J J J
theorem Zv8(bs:Nat)(v:Value)(xs:List Int)(x y:Int)(hx:bl x.natAbs≤65536)(hy:bl y.natAbs≤65536)(hp:0<y)(hv:Vp xs)(hE:¬Kj xs x y):Ml prog 120 #[.pointer (some ⟨bs,0,none⟩),v,rX x y] [Zf5 bs 102 #[.int .i64 0],slp 2 wv v xs] (.int .i64 (fat x y xs)):=by
 refine Ya func120 J ntmps120 J K2 ?_
 intro w0 sc hw hsc
 simp only [Zp,Zn]
 exact Zc<|Zg<|tt (Xe (i:=3) J J J J J hw) fun bx _=>as_ J<|Zf<|Za<|Zc<|Zg<|mv J<|dt (Yy (i:=3) J J J Pv Xz J J J J)<|tt (Zh (n:=3) (Zli _ _ _ _ hv hx hy hp) J J J K2 call164 (Zb 2 J J J Ze) J hw) fun _ _=>mv J<|dt (Yf J J J)<|dt (Yc (r':= .int .i64 0) (Yf J J J) (congrArg (Value.int .i64) (if_neg hE)))<|as_ J<|as_ J<|Zf<|Za<|Zc<|Zc<|Zg<|mv J<|dt (Zfp J J)<|dt (Xx J J Ky J Gr J J)<|dt (Zx4 (i:=1) J J J Ax J)<|dt (Yc (r':= .bool true) (Pm J J J) (congrArg Value.bool (by decide)))<|Zf<|Za<|Ov J<|Zg<|mv J<|mv J<|dt (Zfp J J)<|dt (Xx J J Ky J Gr J J)<|tt (Zpf (i:=1) J J J J J J Gr J J (by simp [Value.oneCell']) J) fun _ _=>Zf<|Za<|Zc<|Zg<|mv J<|as_ J<|Zf<|Za<|Zv<|xU hsc results120 J J (by unfold fat;rw [show evv xs x y=pev xs x y from if_neg hE]<;>rfl)
theorem Zak(v1 v2:Value)(bs:Nat)(ls cs:List (SL×List Int))(x y:Int)(hp:0<y)(hlsv:∀z∈ls,Vp z.2)(hlsE:∀z∈ls,¬Kj z.2 x y)(hx:bl x.natAbs≤65536:=by omega)(hy:bl y.natAbs≤65536:=by omega):Ml prog 62 #[.agg #[v1,v2],.pointer (some ⟨bs,0,none⟩),rX x y] [Au 1 Bh qZ v1 ls,Au 1 Bh qZ v2 cs,Zf5 bs 102 #[.int .i64 0]] (.int .i64 (vlu (ls.map Prod.snd) (x,y))):=by
 refine Ya func62 J ntmps62 J K3 ?_
 intro w0 sc hw hsc
 simp only [Zp,Zn]
 refine Mc (Gj (i:=1) J Zx) fun hlen=>Zc<|Zg<|tt (Xe (i:=4) J J J J J hw) fun bx _=>tt (Xe (i:=5) J J J J J hw) fun bx_2 _=>as_ J<|Zf<|Za<|Zc<|Zc<|Zg<|dt (Xx J J Zvh J Zqe J J)<|dt (Ok (i:=4) J J J isAgg96 J)<|dt (Yb J J (i:=1) J Zx Zku)<|dt (Pm J J J)<|Zf<|Za<|Zq J (fun h160=>?_) (fun h160=>?_)
 ·exact Zc<|Zg<|as_ J<|Zf<|Za<|Zv<|Xc<|xU hsc results62 J J (by unfold vlu;rw [List.length_map,if_pos (by omega)]<;>rfl)
 ·refine Zj<|Za<|Zc<|Ql (fun _=>False) [(0,0),(1,0),(2,0),(3,0),(4,0),(5,0),(6,1),(7,3)] ?_ ?_
  ·kernel_rfl
  exact r0' J J (st0 (Ym J J))<|r0' J J (st0 (Xx J J Zvh J Zqe J J))<|r0' J J (st0 (Ok (i:=4) J J J isAgg96 J))<|r0' J J (st0 (Yw (ii:=1) (i:=0) J J J J Zx Zku sizeOf23 J))<|r0' J J (st0 (Xm (ii:=1) Z0 J J J Zx pS))<|r0' J J (st0 (Yy (i:=5) J J J Pv Xz J J J J))<|r1' J (Zh (n:=5) (Zv8 _ (svv (ls.getD 0 Z0).1) (ls.getD 0 Z0).2 _ _ hx hy hp (hlsv (ls.getD 0 Z0) (Yv)) (hlsE (ls.getD 0 Z0) (Yv))) J J J K3 call120 (Zb 3 J J J (pre_dZ 1 J J (Yv (i:=0) (zs:=ls) (d:=Z0)) Ze)) J hw) fun _ _=>r3' J (Px (Lq J J) J) fun _ _=>Og<|Za<|Zv<|xU hsc results62 J J (by unfold vlu;rw [List.length_map,if_neg (by omega),Zeb _ (by omega)]<;>rfl)
theorem Zm9(v1 v2:Value)(bs:Nat)(ls cs:List (SL×List Int))(x y:Int)(hx:bl x.natAbs≤65536)(hy:bl y.natAbs≤65536)(hp:0<y)(hlsv:∀z∈ls,Vp z.2)(hlsE:∀z∈ls,¬Kj z.2 x y):Ml prog 99 #[.agg #[v1,v2],.pointer (some ⟨bs,0,none⟩),rX x y] [Au 1 Bh qZ v1 ls,Au 1 Bh qZ v2 cs,Zf5 bs 102 #[.int .i64 0]] (.int .i64 (aft (ls.map Prod.snd) (x,y))):=by
 refine Ya func99 J ntmps99 J K3 ?_
 intro w0 sc hw hsc
 simp only [Zp,Zn]
 refine Mc (Gj (i:=1) J Zx) (fun hlen=>?_)
 have hLl:=Zgg ls (fat x y)
 have hLg:=fun i (h:i<ls.length)=>Zm6 ls (fat x y) h
 refine Zc<|Zg<|tt (Xe (i:=4) J J J J J hw) fun bx _=>tt (Xe (i:=5) J J J J J hw) fun bx_2 _=>as_ J<|Zf<|Za<|Zc<|Zc<|Zg<|dt (Xx J J Zvh J Zqe J J)<|dt (Ok (i:=4) J J J isAgg96 J)<|dt (Yb J J (i:=1) J Zx Zku)<|mv J<|Zf<|Za<|Zl<|Nt [(1,_),(5,_),(11,_),(12,_)] [(0,_),(1,_),(2,_),(3,_),(4,_),(5,_)] (fun(i:Nat)=>[(13,.int .i64 (i:Int))]) (fun(i:Nat)=>[]) (fun(i:Nat)=>(i≤ls.length)∧(∀k,k<i→(sgx ls (fat x y)).getD k 0=0)) (fun(i:Nat)=>ls.length-i) 0 ⟨by first | omega | (dsimp only<;>omega),fun k hk=>absurd hk (Nat.not_lt_zero k)⟩ K5 K6 ?_
 rintro i ⟨hi,hz⟩
 simp only [CA,NA]
 refine Zc<|Zg<|dt (Xu J J J)<|Zf<|Za<|Zc<|Zq J (fun h168=>?_) (fun h168=>?_)
 ·refine Zj<|Za<|Zc<|Zl<|Zc<|Zg<|dt (Yw (ii:=1) J J J J Zx Zku sizeOf23 J (by first | omega | (simp only [List.length_set];omega)))<|dt (Xm (ii:=1) Z0 J J J Zx pS (by first | omega | (simp only [List.length_set];omega)))<|as_ J<|Zf<|Za<|Zc<|Yl (Zf2 1 91 (ls.getD i Z0) J J (Yv) J)<|Zg<|mv J<|mv J<|dt (Yy (i:=5) J J J Pv Xz J J J J)<|tt (Zh (n:=5) (Zv8 _ (svv (ls.getD i Z0).1) (ls.getD i Z0).2 _ _ hx hy hp (hlsv (ls.getD i Z0) (Yv)) (hlsE (ls.getD i Z0) (Yv))) J J J K3 call120 (Zb 3 J J J (Zb 91 J J J Ze)) J hw) fun _ _=>as_ J<|Zf<|Za<|Zc<|Zg<|mv J<|dt (Qb J J J)<|Zf<|Za<|Zq J (fun h169=>?_) (fun h169=>?_)
  ·exact Zc<|Zg<|mv J<|as_ J<|Zf<|Za<|Zv<|Hf<|Xc<|Xc<|Hf<|Xc<|xU hsc results99 J J (by rw [Zu4,Zob ‹_› (by omega) hz (hLg i (by omega))]<;>rfl)
  ·exact Zj<|Oa<|Za<|Zg<|dt (Ys J J J ⟨by omega,by omega⟩)<|mv J<|Zf<|Xk (i+1) ⟨by first | omega | (dsimp only<;>omega),fun k hk2=>by rcases Nat.lt_succ_iff_lt_or_eq.1 hk2 with h9 | h9;exact hz k h9;subst h9;rw [hLg _ (by omega)];exact Decidable.byContradiction ‹_›⟩ (by first | omega | (dsimp only<;>omega)) K5 K6
 ·exact Yu<|Zu<|Zu<|Ox<|Za<|Zc<|Zg<|as_ J<|Zf<|Za<|Zv<|xU hsc results99 J J (by rw [Zu4,Zj5 (fun k hk=>hz k (by omega))]<;>rfl)
theorem Zf0(v1 v2:Value)(bs:Nat)(ls cs:List (SL×List Int))(x y:Int)(hx:bl x.natAbs≤65536)(hy:bl y.natAbs≤65536)(hp:0<y)(hcsv:∀z∈cs,Vp z.2)(hcsE:∀z∈cs,¬Kj z.2 x y):Ml prog 148 #[.agg #[v1,v2],.pointer (some ⟨bs,0,none⟩),rX x y] [Au 1 Bh qZ v1 ls,Au 1 Bh qZ v2 cs,Zf5 bs 102 #[.int .i64 0]] (.int .i64 (chv (cs.map Prod.snd) (x,y))):=by
 refine Ya func148 J ntmps148 J K3 ?_
 intro w0 sc hw hsc
 simp only [Zp,Zn]
 refine Mc (Gj (i:=2) J Zx) (fun hlen=>?_)
 have hLl:=Zgg cs (fat x y)
 have hLg:=fun i (h:i<cs.length)=>Zm6 cs (fat x y) h
 refine Zc<|Zg<|tt (Xe (i:=4) J J J J J hw) fun bx _=>tt (Xe (i:=5) J J J J J hw) fun bx_2 _=>as_ J<|Zf<|Za<|Zc<|Zg<|as_ J<|as_ J<|Zf<|Za<|Zc<|Zc<|Zg<|dt (Xx J J Zvh J Zqe J J)<|dt (Ok (i:=4) J J J isAgg96 J)<|dt (Yb J J (i:=2) J Zx Zku)<|mv J<|Zf<|Za<|Zl<|Nt [(1,_),(5,_),(13,_),(14,_)] [(0,_),(1,_),(2,_),(3,_),(4,_),(5,_)] (fun(q:Nat×Int×Int)=>[(15,.int .i64 (q.1:Int)),(7,.int .i64 q.2.1),(8,.int .i64 q.2.2)]) (fun(q:Nat×Int×Int)=>[]) (fun(q:Nat×Int×Int)=>(q.1≤cs.length)∧((q.2.1,q.2.2)=((sgx cs (fat x y)).take q.1).foldl Kx (0,0))∧(0≤q.2.1)∧(q.2.1≤(q.1:Int))∧(-1≤q.2.2∧q.2.2≤1)) (fun(q:Nat×Int×Int)=>cs.length-q.1) (0,0,0) ⟨by first | omega | (dsimp only<;>omega),by simp,by first | omega | (dsimp only<;>omega),by first | omega | (dsimp only<;>omega),by first | omega | (dsimp only<;>omega)⟩ K7 K6 ?_
 rintro⟨i,n,l⟩ ⟨hi,hc,hn0,hn1,hl⟩
 dsimp only at hi hc hn0 hn1 hl
 simp only [CA,NA]
 have hfr:=fat_r x y (cs.getD i Z0).2
 refine Zc<|Zg<|dt (Xu J J J)<|Zf<|Za<|Zc<|Zq J (fun h179=>?_) (fun h179=>?_)
 ·refine Zj<|Za<|Zc<|Zl<|Zc<|Zg<|dt (Yw (ii:=2) J J J J Zx Zku sizeOf23 J (by first | omega | (simp only [List.length_set];omega)))<|dt (Xm (ii:=2) Z0 J J J Zx pS (by first | omega | (simp only [List.length_set];omega)))<|as_ J<|Zf<|Za<|Zc<|Yl (Zf2 2 91 (cs.getD i Z0) J J (Yv) J)<|Zg<|mv J<|mv J<|dt (Yy (i:=5) J J J Pv Xz J J J J)<|tt (Zh (n:=5) (Zv8 _ (svv (cs.getD i Z0).1) (cs.getD i Z0).2 _ _ hx hy hp (hcsv (cs.getD i Z0) (Yv)) (hcsE (cs.getD i Z0) (Yv))) J J J K3 call120 (Zb 3 J J J (Zb 91 J J J Ze)) J hw) fun _ _=>as_ J<|Zf<|Za<|Zc<|Zc<|Zg<|mv J<|mv J<|dt (Gq J J J (sgm_i hfr hl))<|dt (Xu J J J)<|Zf<|Za<|Zq J (fun h181=>?_) (fun h181=>?_)
  ·refine Zg<|mv J<|dt (Ys J J J ⟨by omega,by omega⟩)<|as_ J<|Zf<|Za<|Zc<|Zg<|mv J<|dt (Qb J J J)<|Zf<|Za<|Zq J (fun h184=>?_) (fun h184=>?_)
   ·exact Zg<|mv J<|as_ J<|Zf<|Oa<|Za<|Zg<|dt (Ys J J J ⟨by omega,by omega⟩)<|mv J<|Zf<|Xk (i+1,_,_) ⟨by first | omega | (dsimp only<;>omega),by first | exact Zyb (by omega) hc (hLg i (by omega)) (Decidable.byContradiction ‹_›) | exact Zya (by omega) hc (hLg i (by omega)) ‹_› (Zv2 hfr (by omega) ‹_›) | exact Zx9 (by omega) hc (hLg i (by omega)) ‹_› (Zv1 hfr (by omega) ‹_› ‹_›) | exact absurd ‹_› (Zv3 (Decidable.byContradiction ‹_›)),by first | exact hn0 | (dsimp only;omega),by dsimp only;omega,by first | exact hl | exact hfr⟩ (by first | omega | (dsimp only<;>omega)) K7 K6
   ·exact Zj<|Oa<|Za<|Zg<|dt (Ys J J J ⟨by omega,by omega⟩)<|mv J<|Zf<|Xk (i+1,_,_) ⟨by first | omega | (dsimp only<;>omega),by first | exact Zyb (by omega) hc (hLg i (by omega)) (Decidable.byContradiction ‹_›) | exact Zya (by omega) hc (hLg i (by omega)) ‹_› (Zv2 hfr (by omega) ‹_›) | exact Zx9 (by omega) hc (hLg i (by omega)) ‹_› (Zv1 hfr (by omega) ‹_› ‹_›) | exact absurd ‹_› (Zv3 (Decidable.byContradiction ‹_›)),by first | exact hn0 | (dsimp only;omega),by dsimp only;omega,by first | exact hl | exact hfr⟩ (by first | omega | (dsimp only<;>omega)) K7 K6
  ·refine Zj<|Za<|Zc<|Zg<|mv J<|dt (Qb J J J)<|Zf<|Za<|Zq J (fun h184_2=>?_) (fun h184_2=>?_)
   ·exact Zg<|mv J<|as_ J<|Zf<|Oa<|Za<|Zg<|dt (Ys J J J ⟨by omega,by omega⟩)<|mv J<|Zf<|Xk (i+1,_,_) ⟨by first | omega | (dsimp only<;>omega),by first | exact Zyb (by omega) hc (hLg i (by omega)) (Decidable.byContradiction ‹_›) | exact Zya (by omega) hc (hLg i (by omega)) ‹_› (Zv2 hfr (by omega) ‹_›) | exact Zx9 (by omega) hc (hLg i (by omega)) ‹_› (Zv1 hfr (by omega) ‹_› ‹_›) | exact absurd ‹_› (Zv3 (Decidable.byContradiction ‹_›)),by first | exact hn0 | (dsimp only;omega),by dsimp only;omega,by first | exact hl | exact hfr⟩ (by first | omega | (dsimp only<;>omega)) K7 K6
   ·exact Zj<|Oa<|Za<|Zg<|dt (Ys J J J ⟨by omega,by omega⟩)<|mv J<|Zf<|Xk (i+1,_,_) ⟨by first | omega | (dsimp only<;>omega),by first | exact Zyb (by omega) hc (hLg i (by omega)) (Decidable.byContradiction ‹_›) | exact Zya (by omega) hc (hLg i (by omega)) ‹_› (Zv2 hfr (by omega) ‹_›) | exact Zx9 (by omega) hc (hLg i (by omega)) ‹_› (Zv1 hfr (by omega) ‹_› ‹_›) | exact absurd ‹_› (Zv3 (Decidable.byContradiction ‹_›)),by first | exact hn0 | (dsimp only;omega),by dsimp only;omega,by first | exact hl | exact hfr⟩ (by first | omega | (dsimp only<;>omega)) K7 K6
 ·exact Yu<|Zu<|Zu<|Ox<|Za<|Zc<|Zg<|mv J<|as_ J<|Zf<|Za<|Zv<|xU hsc results148 J J (by rw [chv_sgx,chg_end (by omega) hc]<;>rfl)
theorem Zfz(v1 v2:Value)(bs:Nat)(ls cs:List (SL×List Int))(x y x2 y2:Int)(hx:bl x.natAbs≤65536)(hy:bl y.natAbs≤65536)(hx2:bl x2.natAbs≤65536)(hy2:bl y2.natAbs≤65536)(hp:0<y)(hp2:0<y2)(hcsv:∀z∈cs,Vp z.2)(hcsE:∀z∈cs,¬Kj z.2 x y)(hcsF:∀z∈cs,¬Kj z.2 x2 y2)(hlc:cs.length≤1000):Ml prog 100 #[.agg #[v1,v2],.pointer (some ⟨bs,0,none⟩),rX x y,rX x2 y2] [Au 1 Bh qZ v1 ls,Au 1 Bh qZ v2 cs,Zf5 bs 102 #[.int .i64 0]] (.bool (crb (cs.map Prod.snd) (x,y) (x2,y2))):=by
 refine Ya func100 J ntmps100 J K3 ?_
 intro w0 sc hw hsc
 simp only [Zp,Zn]
 refine Mc (Gj (i:=2) J Zx) (fun hlen=>?_)
 have hr1:=Zx8 (cs.map Prod.snd) (x,y)
 have hr2:=Zx8 (cs.map Prod.snd) (x2,y2)
 rw [List.length_map]at hr1 hr2
 refine Zc<|Zg<|tt (Xe (i:=4) J J J J J hw) fun bx _=>tt (Xe (i:=5) J J J J J hw) fun bx_2 _=>tt (Xe (i:=6) J J J J J hw) fun bx_3 _=>as_ J<|Zf<|Za<|Zc<|Zc<|Zg<|dt (Xx J J Zvh J Zqe J J)<|dt (Ok (i:=4) J J J isAgg96 J)<|dt (Yb J J (i:=2) J Zx Zku)<|dt (Pm J J J)<|Zf<|Za<|Zq J (fun h193=>?_) (fun h193=>?_)
 ·exact Zc<|Zg<|as_ J<|Zf<|Za<|Zv<|Xc<|xU hsc results100 J J (by unfold crb;rw [List.length_map,if_pos (by omega)]<;>rfl)
 ·refine Zj<|Za<|Zc<|Ql (fun _=>False) [(0,0),(1,0),(2,0),(4,0),(5,0),(6,0),(3,1),(7,1),(8,0),(9,3)] ?_ ?_
  ·kernel_rfl
  refine r0' J J (st0 (Zz (i:=4) J J J Zc1 Ct J J))<|r0' J J (st0 (Ym J J))<|r0' J J (st0 (Yy (i:=5) J J J Pv Xz J J J J))<|r0' J J (st0 (Zz (i:=4) J J J Zc1 Ct J J))<|r0' J J (st0 (Ym J J))<|r0' J J (st0 (Yy (i:=6) J J J Pv Xz J J J J))<|r1' J (Zh (n:=6) (Zf0 _ _ _ _ _ _ _ hx hy hp hcsv hcsE) J J J K3 call148 (Zb 1 J J J (Zb 2 J J J (Zb 3 J J J Ze))) J hw) fun _ _=>r1' J (Zh (n:=6) (Zf0 _ _ _ _ _ _ _ hx2 hy2 hp2 hcsv hcsF) J J J K3 call148 (Zb 1 J J J (Zb 2 J J J (Zb 3 J J J Ze))) J hw) fun _ _=>r0' J J (st0 (Qa J J J ⟨by omega,by omega⟩))<|r3' J (Px (Lq J J) J) fun _ _=>Og<|Za<|Zc<|Zc<|Ql (fun _=>False) [(0,0),(1,0),(2,0),(3,0),(4,0),(5,0),(6,1),(7,0)] ?_ ?_
  ·kernel_rfl
  refine r0' J J (st0 (Ym J J))<|r0' J J (st0 (Xx J J Zvh J Zqe J J))<|r0' J J (st0 (Ok (i:=4) J J J isAgg96 J))<|r0' J J (st0 (Yw (ii:=2) (i:=0) J J J J Zx Zku sizeOf23 J))<|r0' J J (st0 (Xm (ii:=2) Z0 J J J Zx pS))<|r0' J J (st0 (Yy (i:=6) J J J Pv Xz J J J J))<|r1' J (Zh (n:=6) (Zv8 _ (svv (cs.getD 0 Z0).1) (cs.getD 0 Z0).2 _ _ hx2 hy2 hp2 (hcsv (cs.getD 0 Z0) (Yv)) (hcsF (cs.getD 0 Z0) (Yv))) J J J K3 call120 (Zb 3 J J J (pre_dZ 2 J J (Yv (i:=0) (zs:=cs) (d:=Z0)) Ze)) J hw) fun _ _=>r0' J J (st0 (Pm J J J))<|Og<|Za<|Zq J (fun h197=>?_) (fun h197=>?_)
  ·exact Zg<|mv J<|dt (Qa J J J ⟨by omega,by omega⟩)<|as_ J<|Zf<|Za<|Zc<|Zg<|mv J<|dt (Oq J J J)<|as_ J<|Zf<|Za<|Zv<|xU hsc results100 J J (by first | exact crb_t (by omega) ‹_› | exact crb_f (by omega) ‹_›)
  ·exact Zj<|Za<|Zc<|Zg<|mv J<|dt (Oq J J J)<|as_ J<|Zf<|Za<|Zv<|xU hsc results100 J J (by first | exact crb_t (by omega) ‹_› | exact crb_f (by omega) ‹_›)
theorem Lv(v1 v2:Value)(bs:Nat)(ls cs:List (SL×List Int))(x y x2 y2:Int)(hp:0<y)(hp2:0<y2)(hlsv:∀z∈ls,Vp z.2)(hlsE:∀z∈ls,¬Kj z.2 x y)(hcsv:∀z∈cs,Vp z.2)(hcsE:∀z∈cs,¬Kj z.2 x y)(hcsF:∀z∈cs,¬Kj z.2 x2 y2)(hlc:cs.length≤1000)(hx:bl x.natAbs≤65536:=by omega)(hy:bl y.natAbs≤65536:=by omega)(hx2:bl x2.natAbs≤65536:=by omega)(hy2:bl y2.natAbs≤65536:=by omega):Ml prog 61 #[.agg #[v1,v2],.pointer (some ⟨bs,0,none⟩),rX x y,rX x2 y2] [Au 1 Bh qZ v1 ls,Au 1 Bh qZ v2 cs,Zf5 bs 102 #[.int .i64 0]] (.bool (ngb (ls.map Prod.snd) (cs.map Prod.snd) (x,y) (x2,y2))):=by
 refine Ya func61 J ntmps61 J K3 ?_
 intro w0 sc hw hsc
 simp only [Zp,Zn]
 refine Zc<|Zg<|tt (Xe (i:=4) J J J J J hw) fun bx _=>tt (Xe (i:=5) J J J J J hw) fun bx_2 _=>tt (Xe (i:=6) J J J J J hw) fun bx_3 _=>as_ J<|Zf<|Za<|Zc<|Zc<|Zg<|dt (Yy (i:=5) J J J Pv Xz J J J J)<|dt (Yy (i:=6) J J J Pv Xz J J J J)<|tt (Zh (n:=6) (Gc _ _ _ _ hp hp2 hx hy hx2 hy2) J J J K2 call96 Ze J hw) fun _ _=>dt (Pm J J J)<|Zf<|Za<|Zq J (fun h205=>?_) (fun h205=>?_)
 ·exact Zc<|Zg<|dt (Zz (i:=4) J J J Zc1 Ct J J)<|mv J<|dt (Yy (i:=5) J J J Pv Xz J J J J)<|tt (Zh (n:=6) (Zak _ _ _ _ _ _ _ hp hlsv hlsE hx hy) J J J K3 call62 (Zb 1 J J J (Zb 2 J J J (Zb 3 J J J Ze))) J hw) fun _ _=>dt (Xu J J J)<|as_ J<|Zf<|Za<|Zv<|Xc<|xU hsc results61 J J (by unfold ngb;rw [if_pos ‹_›])
 ·refine Zj<|Za<|Zc<|Zg<|dt (Zz (i:=4) J J J Zc1 Ct J J)<|mv J<|dt (Yy (i:=5) J J J Pv Xz J J J J)<|tt (Zh (n:=6) (Zm9 _ _ _ _ _ _ _ hx hy hp hlsv hlsE) J J J K3 call99 (Zb 1 J J J (Zb 2 J J J (Zb 3 J J J Ze))) J hw) fun _ _=>dt (Xu J J J)<|mv J<|Qu (d:=23) J (fun s208=>?_) (fun s208=>?_)
  ·exact gsk J J J<|gsk J J J<|gsk J J J<|gsk J J J<|gsk J J J<|dt (Xh J J J)<|as_ J<|Zf<|Za<|Zv<|xU hsc results61 J J (by first | exact ngb_t ‹_› ‹_› | exact ngb_f ‹_› ‹_›)
  ·exact gdt (Zz (i:=4) J J J Zc1 Ct J J) J J<|gdt (Ym J J) J J<|gdt (Yy (i:=5) J J J Pv Xz J J J J) J J<|gdt (Yy (i:=6) J J J Pv Xz J J J J) J J<|gtt (Zh (n:=6) (Zfz _ _ _ _ _ _ _ _ _ hx hy hx2 hy2 hp hp2 hcsv hcsE hcsF hlc) J J J K4 call100 (Zb 1 J J J (Zb 2 J J J (Zb 3 J J J Ze))) J hw) J J J fun _ _=>dt (Yh J J J)<|as_ J<|Zf<|Za<|Zv<|xU hsc results61 J J (by first | exact ngb_t ‹_› ‹_› | exact ngb_f ‹_› ‹_›)
theorem Zjc(bs:Nat)(x y x2 y2:Int)(hp:0<y)(hp2:0<y2)(hm:Zfn (x,y) (x2,y2))(hx:bl x.natAbs≤65536:=by omega)(hy:bl y.natAbs≤65536:=by omega)(hx2:bl x2.natAbs≤65536:=by omega)(hy2:bl y2.natAbs≤65536:=by omega):Ml prog 94 #[.pointer (some ⟨bs,0,none⟩),rX x y,rX x2 y2] [Zf5 bs 102 #[.int .i64 0]] (.agg #[.bool (decide ((Mp (x,y) (x2,y2)).1<0)),.string (Qq (Mp (x,y) (x2,y2)).1.natAbs),.bool (decide ((Mp (x,y) (x2,y2)).2<0)),.string (Qq (Mp (x,y) (x2,y2)).2.natAbs)]):=by
 refine Ya func94 J ntmps94 J K1 ?_
 intro w0 sc hw hsc
 simp only [Zp,Zn]
 have hq:¬It (x*y2+x2*y) (y*y2):=hm.1
 obtain⟨hn1,hn2,hn3⟩:=Zeu hq
 obtain⟨hb1,hb2⟩:=nr_bl hq
 have hdp:=Zsh hq (Int.mul_pos hp hp2)
 have hm2:=Zst hm
 refine Zc<|Zg<|tt (Xe (i:=2) J J J J J hw) fun bx _=>tt (Xe (i:=3) J J J J J hw) fun bx_2 _=>tt (Zo (i:=4) J J zeroValue41 J J hw) fun bx_3 _=>Zf<|Za<|Zc<|Zg<|dt (Yy (i:=2) J J J Pv Xz J J J J)<|dt (Yy (i:=3) J J J Pv Xz J J J J)<|tt (Zh (n:=4) (Zgu _ _ _ _ hx hy hx2 hy2 hp hp2) J J J K2 call143 Ze J hw) fun _ _=>mv J<|dt (Yf J J J)<|dt (Yc (r':= .int .i64 0) (Yf J J J) (congrArg (Value.int .i64) hn3))<|tt (Zo (i:=5) J J zeroValue41 J J hw) fun bx_4 _=>tt (Zm (i:=5) J J J J J (by decide) J Xz J J ⟨Zd J,Zd J,Zd J,Zd J,trivial⟩ J hw trivial) fun _ _=>as_ J<|Zf<|Za<|Zc<|Zc<|Zg<|mv J<|dt (Zfp J J)<|dt (Xx J J Ky J Gr J J)<|dt (Zx4 (i:=1) J J J Ax J)<|dt (Yc (r':= .bool true) (Pm J J J) (congrArg Value.bool (by decide)))<|Zf<|Za<|Ov J<|Zg<|mv J<|mv J<|dt (Zfp J J)<|dt (Xx J J Ky J Gr J J)<|tt (Zpf (i:=1) J J J J J J Gr J J (by simp [Value.oneCell']) J) fun _ _=>Zf<|Za<|Zc<|Oo [5] [10]<|Zy (n:=10) [(0,0)]<|r0' J J (stf (Yy (i:=5) J J J Pv Xz J J J J) K1)<|Yo<|Pu (n:=9) 1 8 ?_ ?_
 ·refine Yp J (Zh (n:=5) (Xd _ ⟨by decide,by decide⟩) J J J K1 Bj Ze J hw) fun _ _=>Pu (n:=8) 2 8 ?_ ?_
  ·refine Yp J (Zh (n:=5) (Xd _ ⟨by decide,by decide⟩) J J J K1 Bj Ze J hw) fun _ _=>Zy (n:=7) [(3,0)]<|r0' J J (stf (Pz (ivs:=[(0,_),(1,_)]) J K4 (fun a w hs=>Zfd)) K1)<|Yo<|Pu (n:=6) 4 8 ?_ ?_
   ·refine Yp J (Zh (n:=5) (Hw _ _ 1 2 hb1 hb2 (by decide +kernel) (by decide +kernel) hdp) J J J K2 call144 Ze J hw) fun _ _=>Zy (n:=0) [(5,0),(6,0),(7,0),(8,1),(9,1),(10,3)]<|r0' J J (stf (Ym J J) K1)<|r0' J J (stf (Yf J J J) K1)<|r0' J J (stf (Yc (r':= .int .i64 0) (Yf J J J) (congrArg (Value.int .i64) hm2)) K1)<|r1' J (Zw (i:=6) J J zeroValue41 J J hw K1) fun bx_5 ho=>r1' J (Zm (i:=6) J J J J J (by decide) J Xz J J ⟨Zd J,Zd J,Zd J,Zd J,trivial⟩ J hw ho) fun _ _=>r3' J (Px (Lq J J) J) fun _ _=>Yo<|Yg<|Za<|Zc<|Zc<|Zg<|mv J<|dt (Zfp J J)<|dt (Xx J J Ky J Gr J J)<|dt (Zx4 (i:=1) J J J Ax J)<|dt (Yc (r':= .bool true) (Pm J J J) (congrArg Value.bool (by decide)))<|Zf<|Za<|Ov J<|Zg<|mv J<|mv J<|dt (Zfp J J)<|dt (Xx J J Ky J Gr J J)<|tt (Zpf (i:=1) J J J J J J Gr J J (by simp [Value.oneCell']) J) fun _ _=>Zf<|Za<|Zc<|Zg<|dt (Yy (i:=6) J J J Pv Xz J J J J)<|tt (Zm (i:=4) J J J J J (by decide) J Xz J J ⟨Zd J,Zd J,Zd J,Zd J,trivial⟩ J hw trivial) fun _ _=>Zf<|Za<|Zv ?_
    exact Yn (.inl J) hsc () _ (fun a w hs=>Nn hs results94 (Yr (i:=4) J J Pv Xz J)) J trivial J Zk
   ·refine Yp J (Zw (i:=7) J J zeroValue41 J J hw K1) fun bx_6 ho2=>Zy (n:=0) [(4,1),(5,0),(6,0),(7,0),(9,1),(10,3)]<|r1' J (Zh (n:=7) (Hw _ _ 1 2 hb1 hb2 (by decide +kernel) (by decide +kernel) hdp) J J J K2 call144 Ze J hw) fun _ _=>r0' J J (stf (Ym J J) K1)<|r0' J J (stf (Yf J J J) K1)<|r0' J J (stf (Yc (r':= .int .i64 0) (Yf J J J) (congrArg (Value.int .i64) hm2)) K1)<|r1' J (Zm (i:=7) J J J J J (by decide) J Xz J J ⟨Zd J,Zd J,Zd J,Zd J,trivial⟩ J hw ho2) fun _ _=>r3' J (Px (Lq J J) J) fun _ _=>Yo<|Yg<|Za<|Zc<|Zc<|Zg<|mv J<|dt (Zfp J J)<|dt (Xx J J Ky J Gr J J)<|dt (Zx4 (i:=1) J J J Ax J)<|dt (Yc (r':= .bool true) (Pm J J J) (congrArg Value.bool (by decide)))<|Zf<|Za<|Ov J<|Zg<|mv J<|mv J<|dt (Zfp J J)<|dt (Xx J J Ky J Gr J J)<|tt (Zpf (i:=1) J J J J J J Gr J J (by simp [Value.oneCell']) J) fun _ _=>Zf<|Za<|Zc<|Zg<|dt (Yy (i:=7) J J J Pv Xz J J J J)<|tt (Zm (i:=4) J J J J J (by decide) J Xz J J ⟨Zd J,Zd J,Zd J,Zd J,trivial⟩ J hw trivial) fun _ _=>Zf<|Za<|Zv ?_
    exact Yn (.inl J) hsc () _ (fun a w hs=>Nn hs results94 (Yr (i:=4) J J Pv Xz J)) J trivial J Zk
  ·refine Yp J (Zw (i:=8) J J zeroValue41 J J hw K1) fun bx_7 ho3=>Zy (n:=0) [(2,1),(3,0),(4,1),(5,0),(6,0),(7,0),(9,1),(10,3)]<|r1' J (Zh (n:=8) (Xd _ ⟨by decide,by decide⟩) J J J K1 Bj Ze J hw) fun _ _=>r0' J J (stf (Pz (ivs:=[(0,_),(1,_)]) J K4 (fun a w hs=>Zfd)) K1)<|r1' J (Zh (n:=8) (Hw _ _ 1 2 hb1 hb2 (by decide +kernel) (by decide +kernel) hdp) J J J K2 call144 Ze J hw) fun _ _=>r0' J J (stf (Ym J J) K1)<|r0' J J (stf (Yf J J J) K1)<|r0' J J (stf (Yc (r':= .int .i64 0) (Yf J J J) (congrArg (Value.int .i64) hm2)) K1)<|r1' J (Zm (i:=8) J J J J J (by decide) J Xz J J ⟨Zd J,Zd J,Zd J,Zd J,trivial⟩ J hw ho3) fun _ _=>r3' J (Px (Lq J J) J) fun _ _=>Yo<|Yg<|Za<|Zc<|Zc<|Zg<|mv J<|dt (Zfp J J)<|dt (Xx J J Ky J Gr J J)<|dt (Zx4 (i:=1) J J J Ax J)<|dt (Yc (r':= .bool true) (Pm J J J) (congrArg Value.bool (by decide)))<|Zf<|Za<|Ov J<|Zg<|mv J<|mv J<|dt (Zfp J J)<|dt (Xx J J Ky J Gr J J)<|tt (Zpf (i:=1) J J J J J J Gr J J (by simp [Value.oneCell']) J) fun _ _=>Zf<|Za<|Zc<|Zg<|dt (Yy (i:=8) J J J Pv Xz J J J J) ?_
   exact tt (Zm (i:=4) J J J J J (by decide) J Xz J J ⟨Zd J,Zd J,Zd J,Zd J,trivial⟩ J hw trivial) fun _ _=>Zf<|Za<|Zv<|Yn (.inl J) hsc () _ (fun a w hs=>Nn hs results94 (Yr (i:=4) J J Pv Xz J)) J trivial J Zk
 ·refine Yp J (Zw (i:=9) J J zeroValue41 J J hw K1) fun bx_8 ho4=>Zy (n:=0) [(1,1),(2,1),(3,0),(4,1),(5,0),(6,0),(7,0),(9,1),(10,3)]<|r1' J (Zh (n:=9) (Xd _ ⟨by decide,by decide⟩) J J J K1 Bj Ze J hw) fun _ _=>r1' J (Zh (n:=9) (Xd _ ⟨by decide,by decide⟩) J J J K1 Bj Ze J hw) fun _ _=>r0' J J (stf (Pz (ivs:=[(0,_),(1,_)]) J K4 (fun a w hs=>Zfd)) K1)<|r1' J (Zh (n:=9) (Hw _ _ 1 2 hb1 hb2 (by decide +kernel) (by decide +kernel) hdp) J J J K2 call144 Ze J hw) fun _ _=>r0' J J (stf (Ym J J) K1)<|r0' J J (stf (Yf J J J) K1)<|r0' J J (stf (Yc (r':= .int .i64 0) (Yf J J J) (congrArg (Value.int .i64) hm2)) K1)<|r1' J (Zm (i:=9) J J J J J (by decide) J Xz J J ⟨Zd J,Zd J,Zd J,Zd J,trivial⟩ J hw ho4) fun _ _=>r3' J (Px (Lq J J) J) fun _ _=>Yo<|Yg<|Za<|Zc<|Zc<|Zg<|mv J<|dt (Zfp J J)<|dt (Xx J J Ky J Gr J J)<|dt (Zx4 (i:=1) J J J Ax J)<|dt (Yc (r':= .bool true) (Pm J J J) (congrArg Value.bool (by decide)))<|Zf<|Za<|Ov J<|Zg<|mv J<|mv J<|dt (Zfp J J)<|dt (Xx J J Ky J Gr J J) ?_
  exact tt (Zpf (i:=1) J J J J J J Gr J J (by simp [Value.oneCell']) J) fun _ _=>Zf<|Za<|Zc<|Zg<|dt (Yy (i:=9) J J J Pv Xz J J J J)<|tt (Zm (i:=4) J J J J J (by decide) J Xz J J ⟨Zd J,Zd J,Zd J,Zd J,trivial⟩ J hw trivial) fun _ _=>Zf<|Za<|Zv<|Yn (.inl J) hsc () _ (fun a w hs=>Nn hs results94 (Yr (i:=4) J J Pv Xz J)) J trivial J Zk
structure Cvd (xs:List Int):Prop where
 v:Vp xs
 s:Sz 70 xs
 l:xs.length≤7
theorem Ze3{xs r:List Int}(h:Cvd xs)(h0:xs≠[])(hr:Dp xs r):Sz 200 r∧r.length≤7:=by
 obtain⟨s1,s2⟩:=hr.sz h.v.tr h0 h.s (by have:=h.l;omega)
 exact⟨s1,by have:=h.l;omega⟩
theorem Zb1{xs r:List Int}(h:Cvd xs)(h0:xs≠[])(hr:Dp xs r) :
  Vp r∧r≠[]∧(∀i,bl (cf r (i+1)*((i:Int)+1)).natAbs≤65536)∧Vp (Pf r)∧¬Zpz r (Pf r)∧eok 13 (gA r (Pf r)) (gB r (Pf r))∧Ku 13 r (Pf r)=gcf 13 r∧Vp (gcf 13 r)∧
  Zdn r (gcf 13 r)=0∧pdv r (gcf 13 r)∧Kn r (gcf 13 r)=sqf 13 r∧Vp (sqf 13 r)∧Sz 330 (sqf 13 r)∧(sqf 13 r).length≤7∧Dp xs (gcf 13 r)∧sqf 13 r≠[]∧((sqf 13 r).length≠1→(gcf 13 r).length<r.length)∧Za8 13 r:=by
 obtain⟨s1,s2⟩:=Ze3 h h0 hr
 have hv:Vp r:=⟨s1.mono (by omega),hr.1,by omega⟩
 have hok:=hr.ok h.v.tr h0 h.s (by omega) (by have:=h.l;omega) (show xs.length≤13+1 by have:=h.l;omega)
 obtain⟨⟨q1,q2,q3,q4,q5⟩,-,-⟩:=hok.1
 have hn:=hr.2.2.1
 have hs9:=(chF 13 hr.1 hr.2.1 s1 (by omega) (by omega) (by omega)).2.1
 have hl9:=(chF 13 hr.1 hr.2.1 s1 (by omega) (by omega) (by omega)).2.2.1
 have hvs:=Zi0 hv hr.2.1 hok.1.1
 have hg:gcf 13 r=Ku 13 r (Pf r):=by unfold gcf;rw [hn]
 have hd:=hr.next hok.2
 have hvg:Vp (gcf 13 r):=by obtain⟨t1,t2⟩:=Ze3 h h0 hd;exact⟨t1.mono (by omega),hd.1,by omega⟩
 have hsq:sqf 13 r=Kn r (gcf 13 r):=by unfold sqf gcf;rw [hn]
 obtain⟨f1,f2,f3,f4,f5,f6⟩:=Nh (F:=13) hr.1 hr.2.1 hok.2
 have hq1:∀i,bl (cf r (i+1)*((i:Int)+1)).natAbs≤65536:=fun i=>by
  by_cases hi:i<r.length
  ·have:=q1 i hi;rwa [hn]at this
  ·rw [Qf (by omega)];simp [Le]
 rw [hn]at q2 q3 q4 q5
 rw [←hg]at q4 q5
 refine⟨hv,hr.2.1,hq1,Zdz hv (fun i _=>hq1 i),q2,q3,hg.symm,hvg,q4,q5,hsq.symm,hvs,hs9,by omega,hd,f3,fun hne=>?_,hok.2⟩
 refine Zj4 hr.1 hr.2.1 hok.2 ?_
 have:=Pp hr.1 hr.2.1 hok.2
 have l1:=List.length_pos_iff.2 f3
 have l2:=List.length_pos_iff.2 this.2.1
 omega
def Hq(xs:List Int):List Int:=Zw3 13 xs.length [1] (nrm xs)
structure OddI (xs:List Int) (t:Nat) (rest out before:List Int):Prop where
 ex:∃f q,Dp xs q∧q.length≤f∧Zw3 13 f out q=Hq xs∧Tr out∧Op xs out q∧((t%2=1∧rest=q)∨(t%2=0∧rest=gcf 13 q∧before=sqf 13 q∧(sqf 13 q).length≠1))
theorem OddI.start{xs b:List Int}(h:Cvd xs)(h0:xs≠[]):OddI xs 1 (nrm xs) [1] b:=
 ⟨xs.length,nrm xs,Dp.start h.v.tr h0,by rw [Pt h.v.tr];exact Nat.le_refl _,rfl,.inr (by decide),Op.start h.v.tr,.inl ⟨rfl,rfl⟩⟩
theorem OddI.dp{xs:List Int}{t:Nat}{rest out before:List Int}(h:Cvd xs)(h0:xs≠[])(hI:OddI xs t rest out before):Dp xs rest:=by
 obtain⟨f,q,h1,h2,h3,h4,h5,h6 | ⟨-,rfl,-⟩⟩:=hI.ex
 ·rw [h6.2];exact h1
 ·exact(Zb1 h h0 h1).2.2.2.2.2.2.2.2.2.2.2.2.2.2.1
theorem OddI.out{xs:List Int}{t:Nat}{rest out before:List Int}(h:Cvd xs)(h0:xs≠[])(hI:OddI xs t rest out before):Vp out∧Sz 200 out∧out.length≤7:=by
 obtain⟨f,q,h1,h2,h3,h4,h5,-⟩:=hI.ex
 obtain⟨s1,s2,s3⟩:=h5.sz h.v.tr h0 h.s (by have:=h.l;omega) h4 h1.1
 have:=h.l
 exact⟨⟨s1.mono (by omega),h4,by omega⟩,s1,by omega⟩
theorem OddI.odd_end{xs:List Int}{t:Nat}{rest out before:List Int}(h:Cvd xs)(h0:xs≠[])(hI:OddI xs t rest out before)(ht:t%2=1)(hl:(sqf 13 rest).length=1):out=Hq xs:=by
 obtain⟨f,q,h1,h2,h3,h4,h5,⟨-,rfl⟩ | ⟨h7,-⟩⟩:=hI.ex
 ·cases f with
  | zero=>exact absurd (List.length_pos_iff.2 h1.2.1) (by omega)
  | succ f=>unfold Zw3 at h3;rw [if_pos hl]at h3;exact h3
 ·omega
theorem OddI.odd_next{xs:List Int}{t:Nat}{rest out before:List Int}(hI:OddI xs t rest out before)(ht:t%2=1)(hl:(sqf 13 rest).length≠1):OddI xs (t+1) (gcf 13 rest) out (sqf 13 rest):=by
 obtain⟨f,q,h1,h2,h3,h4,h5,⟨-,rfl⟩ | ⟨h7,-⟩⟩:=hI.ex
 ·exact⟨f,rest,h1,h2,h3,h4,h5,.inr ⟨by omega,rfl,rfl,hl⟩⟩
 ·omega
theorem OddI.even{xs:List Int}{t:Nat}{rest out before:List Int}(h:Cvd xs)(h0:xs≠[])(hI:OddI xs t rest out before)(ht:t%2=0) :
  Vp before∧Zdn before (sqf 13 rest)=0∧pdv before (sqf 13 rest)∧Vp (Kn before (sqf 13 rest))∧¬Zex out (Kn before (sqf 13 rest))∧
  ((sqf 13 rest).length=1→Mb out (Kn before (sqf 13 rest))=Hq xs)∧((sqf 13 rest).length≠1→OddI xs (t+1) (gcf 13 rest) (Mb out (Kn before (sqf 13 rest))) (sqf 13 rest))∧Vp (Mb out (Kn before (sqf 13 rest))):=by
 obtain⟨f,q,h1,h2,h3,h4,h5,⟨h7,-⟩ | ⟨-,rfl,rfl,hq⟩⟩:=hI.ex
 ·omega
 obtain⟨a1,a2,a3,a4,a5,a6,a7,a8,a9,a10,a11,a12,a13,a14,a15,a16,a17,a18⟩:=Zb1 h h0 h1
 obtain⟨b1,b2,b3,b4,b5,b6,b7,b8,b9,b10,b11,b12,b13,b14,b15,b16,b17,b18⟩:=Zb1 h h0 a15
 obtain⟨c1,c2,c3,c4⟩:=Gh h1.1 h1.2.1 a18 b18
 have hO:=h5.next h1.1 h1.2.1 h1.2.2.1 a18 b18
 have ho:=h.l
 obtain⟨s1,s2,s3⟩:=hO.sz h.v.tr h0 h.s (by omega) (Pi _ _) b15.1
 obtain⟨o1,o2,o3⟩:=h5.sz h.v.tr h0 h.s (by omega) h4 h1.1
 have hol:(Bp 13 q).length≤7:=by
  have e:=congrArg List.length c2
  rw [Oe c3 b12.tr c4 b16]at e
  have:=List.length_pos_iff.2 b16
  omega
 have hos:Sz 335 (Bp 13 q):=by
  obtain⟨a,ha,e⟩:=hO
  have e2:nrm xs=Mb (Mb (Mb a (gcf 13 (gcf 13 q))) out) (Bp 13 q):=e.trans ((Pi _ _).ext (Pi _ _) fun i=>Mh (fun x=>by simp only [Yz];grind) i)
  exact(Zth h.v.tr h0 h.s (by omega) (Pi _ _) c3 e2).1.mono (by omega)
 have hd:Zdn (sqf 13 q) (sqf 13 (gcf 13 q))=0:=by
  have m1:=Ps a13
  have m2:=Ps b13
  have l1:=List.length_pos_iff.2 b16
  unfold Zdn
  rw [if_neg (by omega)]
  split
  ·rfl
  ·have:((sqf 13 q).length-(sqf 13 (gcf 13 q)).length+1)*(msz (sqf 13 (gcf 13 q))+1)≤8*331:=Nat.mul_le_mul (by omega) (by omega)
   rw [if_neg (by omega)]
 have hvo:Vp (Bp 13 q):=⟨hos.mono (by omega),c3,by omega⟩
 have hm:¬Zex out (Bp 13 q):=fun hF=>by
  have m1:=Ps o1
  have m2:=Ps hos
  rcases hF.2.2 with w | w<;>omega
 refine⟨a12,hd,c1,hvo,hm,fun hl=>?_,fun hl=>?_,⟨s1.mono (by omega),Pi _ _,Nat.le_trans s2 (by omega)⟩⟩
 ·cases f with
  | zero=>exact absurd (List.length_pos_iff.2 h1.2.1) (by omega)
  | succ f=>unfold Zw3 at h3;rw [if_neg hq,if_pos hl]at h3;exact h3
 ·cases f with
  | zero=>exact absurd (List.length_pos_iff.2 h1.2.1) (by omega)
  | succ f=>
   unfold Zw3 at h3;rw [if_neg hq,if_neg hl]at h3
   have l1:=a17 hq
   have l2:=b17 hl
   exact⟨f,gcf 13 (gcf 13 q),b15,by omega,h3,Pi _ _,hO,.inl ⟨by omega,rfl⟩⟩
theorem Zsd{xs:List Int}(h:Cvd xs)(h0:xs≠[]):Hq xs=Zcz 13 xs.length (nrm xs):=by
 have hD:=Dp.start h.v.tr h0
 have hl:=h.l
 have hok:=(hD.ok h.v.tr h0 h.s (by omega) (by omega) (show xs.length≤13+1 by omega)).2
 unfold Hq
 rw [Zse h.v.tr h0 h.s (by omega) (by omega) (by omega) xs.length [1] (nrm xs) (.inr (show cf [1] 0≠0 by decide)) hD (by rw [Pt h.v.tr];exact Nat.le_refl _),Zr5 (Zhx (p:=xs) hD.1 hD.2.1 hok)]
theorem Al{xs:List Int}(h:Cvd xs)(h0:xs≠[]):Odp 13 70 xs (Hq xs)∧Vp (Hq xs)∧Sz 200 (Hq xs)∧(Hq xs).length≤xs.length∧Zbz (Hq xs):=by
 have hD:=Dp.start h.v.tr h0
 have hl:=h.l
 have hok:=(hD.ok h.v.tr h0 h.s (by omega) (by omega) (show xs.length≤13+1 by omega)).2
 have he:=Zsd h h0
 have ht:Tr (Hq xs):=by rw [he];exact Zhx (p:=xs) hD.1 hD.2.1 hok
 obtain⟨⟨B,hB⟩,-⟩:=Iv h.v.tr h0 h.s (by omega) (by omega) (show xs.length≤13+1 by omega) xs.length (nrm xs) hD (by rw [Pt h.v.tr];exact Nat.le_refl _)
 rw [←he]at hB
 have e:nrm xs=Mb (Mb B B) (Hq xs):=hD.1.ext (Pi _ _) fun i=>Mh (fun x=>by rw [hB x,Yz,Yz];grind) i
 obtain⟨s1,s2,s3⟩:=Zth h.v.tr h0 h.s (by omega) (Pi _ _) ht e
 have hC:=(chF 13 ht s3 s1 (by omega) (by omega) (by omega)).1
 refine⟨⟨h.v.tr,h0,h.s,by omega,by omega,by omega,he,ht,s3,hC⟩,⟨s1.mono (by omega),ht,by omega⟩,s1,s2,.inr ?_⟩
 have m1:=Ps s1
 have g1:((Hq xs).length+2)*((Hq xs).length+2)≤9*9:=Nat.mul_le_mul (by omega) (by omega)
 have g2:((Hq xs).length+2)*((Hq xs).length+2)*(msz (Hq xs)+16)≤9*9*216:=Nat.mul_le_mul g1 (by omega)
 omega
def chx(xs:List Int):List (List Int):=if xs.length=0 then []else chn 13 (Hq xs)
def Pw(xs:List Int):List (List Int):=Zmc xs.length xs
theorem Zop:∀(n k:Nat) (p:List Int),Tr p→p.length≤25→Sz k p→∀q∈Zmc n p,Tr q∧q.length≤p.length∧Sz (k+5*n) q
 | 0,_,_,_,_,_,q,hq=>absurd hq (by simp [Zmc])
 | n+1,k,p,ht,hl,hs,q,hq=>by
  unfold Zmc at hq
  by_cases h0:p.length=0
  ·rw [if_pos h0]at hq;exact absurd hq (by simp)
  ·rw [if_neg h0]at hq
   rcases List.mem_cons.1 hq with rfl | hq
   ·exact⟨ht,Nat.le_refl _,hs.mono (by omega)⟩
   ·have ld':=Oj p
    obtain⟨a1,a2,a3⟩:=Zop n (k+5) (Pf p) (Nv ht) (by omega) (He hs hl) q hq
    exact⟨a1,by omega,a3.mono (by omega)⟩
theorem Nx{xs:List Int}(h:Cvd xs):∀q∈Pw xs,Vp q∧msz q≤8525∧q.length≤7:=fun q hq=>by
 have hl:=h.l
 obtain⟨a1,a2,a3⟩:=Zop xs.length 70 xs h.v.tr (by omega) h.s q hq
 have:=Ps a3
 exact⟨⟨a3.mono (by omega),a1,by omega⟩,by omega,by omega⟩
theorem Gk{xs:List Int}(h:Cvd xs):∀q∈chx xs,Vp q∧msz q≤8525∧q.length≤7:=fun q hq=>by
 have hl:=h.l
 unfold chx at hq
 by_cases h0:xs.length=0
 ·rw [if_pos h0]at hq;exact absurd hq (by simp)
 ·rw [if_neg h0]at hq
  have h0':xs≠[]:=fun e=>h0 (by rw [e];rfl)
  obtain⟨a1,a2,a3,a4,a5⟩:=Al h h0'
  obtain⟨b1,b2,b3,b4⟩:=chF 13 a1.otr a1.one a3 (by omega) (by omega) (show(Hq xs).length≤13+1 by omega)
  exact⟨vp_chn a2 a1.one b1 q hq,(b4 q hq).1,by have:=(b4 q hq).2;omega⟩
theorem Fm(xs:List Int):(chx xs).length≤1000:=by
 unfold chx
 split
 ·exact Nat.zero_le _
 ·have:=De 13 (sqf 13 (Hq xs)) (Yx (Pf (sqf 13 (Hq xs))));unfold chn;omega
theorem Zm3{p:List Int}{m:R2}(h1:msz p≤8525)(h2:p.length≤7)(a:bl m.1.natAbs≤3100)(b:bl m.2.natAbs≤3100):¬Kj p m.1 m.2:=fun hF=>by
 have h3:msz [m.1,m.2]≤3100:=by show max (bl m.1.natAbs) (max (bl m.2.natAbs) 0)≤3100;omega
 have h4:(p.length-1)*msz [m.1,m.2]≤6*3100:=Nat.mul_le_mul (by omega) h3
 have:=hF.2
 omega
theorem Kp{xs:List Int}(h:Cvd xs){m:R2}(a:bl m.1.natAbs≤3100)(b:bl m.2.natAbs≤3100):(∀p∈Pw xs,¬Kj p m.1 m.2)∧(∀p∈chx xs,¬Kj p m.1 m.2):=
 ⟨fun p hp=>Zm3 (Nx h p hp).2.1 (Nx h p hp).2.2 a b,fun p hp=>Zm3 (Gk h p hp).2.1 (Gk h p hp).2.2 a b⟩
theorem qv_mul{a b:R2}(ha:0<a.2)(hb:0<b.2):((a.1*b.2-b.1*a.2:Int):Rat)=(qv a-qv b)*((a.2:Rat)*(b.2:Rat)):=by
 have h1:=Iu ha
 have h2:=Iu hb
 unfold qv
 push_cast
 grind
theorem cmpq_lt{a b:R2}(ha:0<a.2)(hb:0<b.2):cmp a b<0↔qv a<qv b:=by
 have e:=qv_mul ha hb
 have hp:=Rat.mul_pos (Iu ha) (Iu hb)
 unfold cmp
 rw [Qk]
 constructor
 ·intro h
  have h1:((a.1*b.2-b.1*a.2:Int):Rat)<0:=by exact_mod_cast h
  rcases(show qv a<qv b∨qv b≤qv a by grind)with q | q
  ·exact q
  ·have:=Rat.mul_nonneg (show 0≤qv a-qv b by grind) (Rat.le_of_lt hp);grind
 ·intro h
  have:=Rat.mul_pos (show 0<qv b-qv a by grind) hp
  have h1:((a.1*b.2-b.1*a.2:Int):Rat)<0:=by grind
  exact_mod_cast h1
theorem Zmi{a b:R2}(ha:0<a.2)(hb:0<b.2):cmp a b=0↔qv a=qv b:=by
 have e:=qv_mul ha hb
 have hp:=Rat.mul_pos (Iu ha) (Iu hb)
 unfold cmp
 rw [Int.sign_eq_zero_iff_zero]
 constructor
 ·intro h
  rw [h]at e
  rcases Rat.mul_eq_zero.1 (show(qv a-qv b)*((a.2:Rat)*(b.2:Rat))=0 by rw [←e];rfl)with q | q
  ·grind
  ·rw [q]at hp;grind
 ·intro h
  have h1:((a.1*b.2-b.1*a.2:Int):Rat)=0:=by rw [e,h];grind
  exact_mod_cast h1
theorem Zmh{a b:R2}(ha:0<a.2)(hb:0<b.2):cmp a b≤0↔qv a≤qv b:=by
 have h1:=cmpq_lt ha hb
 have h2:=Zmi ha hb
 constructor
 ·intro h
  rcases(show cmp a b<0∨cmp a b=0 by omega)with q | q
  ·exact Rat.le_of_lt (h1.1 q)
  ·have:=h2.1 q;grind
 ·intro h
  rcases(show qv a<qv b∨qv a=qv b by grind)with q | q
  ·exact Int.le_of_lt (h1.2 q)
  ·exact Int.le_of_eq (h2.2 q)
theorem fat_qv{m:R2}(hm:0<m.2)(p:List Int):fat m.1 m.2 p=rsg (rev p (qv m)):=Zcb hm p
theorem chx_crb{xs:List Int}(h:Cvd xs)(h0:xs≠[]){a b:R2}(ha:0<a.2)(hb:0<b.2):crb (chx xs) a b=true↔Cq 13 (Hq xs) (qv a) (qv b):=by
 obtain⟨a1,a2,a3,a4,a5⟩:=Al h h0
 have hl0:xs.length≠0:=fun e=>h0 (List.eq_nil_of_length_eq_zero e)
 unfold crb Cq chx
 rw [if_neg hl0]
 have hh:∃r,chn 13 (Hq xs)=sqf 13 (Hq xs) :: r:=by
  unfold chn Mk
  split<;>exact⟨_,rfl⟩
 obtain⟨r,hr⟩:=hh
 have hv:∀m:R2,0<m.2→chv (chn 13 (Hq xs)) m=vch 13 (Hq xs) (qv m):=fun m hm=>(cvc_v (F:=13) (xs:=Hq xs) hm)
 rw [if_neg (by rw [hr];simp),hv a ha,hv b hb]
 have hg:(chn 13 (Hq xs)).getD 0 []=sqf 13 (Hq xs):=by rw [hr];rfl
 rw [hg,fat_qv hb]
 have hz:rsg (rev (sqf 13 (Hq xs)) (qv b))=0↔rev (Hq xs) (qv b)=0:=⟨fun e=>(a1.zero _).1 (Znb e),fun e=>Zrg ((a1.zero _).2 e)⟩
 by_cases hb0:rev (Hq xs) (qv b)=0
 ·rw [if_pos hb0,if_pos (hz.2 hb0)];exact decide_eq_true_iff
 ·rw [if_neg hb0,if_neg (fun e=>hb0 (hz.1 e))];exact decide_eq_true_iff
theorem Zgx{xs:List Int}{m:R2}(hm:0<m.2):vlu (Pw xs) m=rsg (rev xs (qv m)):=by
 unfold vlu Pw
 by_cases h0:xs.length=0
 ·have:xs=[]:=List.eq_nil_of_length_eq_zero h0
  subst this;rfl
 ·obtain⟨n,hn⟩:∃n,xs.length=n+1:=⟨xs.length-1,by omega⟩
  rw [hn];unfold Zmc;rw [if_neg h0,if_neg (by simp)]
  exact fat_qv hm xs
theorem Zev{xs:List Int}(h:Cvd xs){a b:R2}(ha:0<a.2)(hb:0<b.2)(hab:qv a≤qv b):ngb (Pw xs) (chx xs) a b=true↔NegI xs (qv a) (qv b):=by
 unfold ngb
 by_cases hc:cmp a b=0
 ·rw [if_pos hc,Zgx ha,decide_eq_true_iff]
  have e:=(Zmi ha hb).1 hc
  constructor
  ·intro h1
   refine⟨qv a,Rat.le_refl,hab,?_⟩
   rcases Po (rev xs (qv a))with⟨h5,h6⟩ | ⟨h5,h6⟩ | ⟨h5,h6⟩
   ·rw [h6]at h1;exact absurd h1 (by decide)
   ·exact h5
   ·rw [h6]at h1;exact absurd h1 (by decide)
  ·rintro⟨x,x1,x2,x3⟩
   have:x=qv a:=by grind
   rw [←this,Zpj x3];decide
 ·rw [if_neg hc]
  have hlt:qv a<qv b:=by have:=fun e=>hc ((Zmi ha hb).2 e);grind
  by_cases h0:xs=[]
  ·subst h0
   constructor
   ·intro h1;exact absurd h1 (by show ¬(decide ((0:Int)<0) || false)=true;decide)
   ·rintro⟨x,x1,x2,x3⟩;exact absurd x3 (by show ¬(0:Rat)<0;grind)
  ·obtain⟨a1,a2,a3,a4,a5⟩:=Al h h0
   rw [←a1.sem hlt,Bool.or_eq_true,decide_eq_true_iff,chx_crb h h0 ha hb,show aft (Pw xs) a=Zbn xs.length xs (qv a)from Zoq ha _ _ (Nat.le_refl _)]
theorem Dk{xs:List Int}(h:Cvd xs){m:Nat}(hm:m≤100):Dn xs m:=by
 refine .inr ?_
 have hl:=h.l
 have m1:=Ps h.s
 have g1:(xs.length+2)*(xs.length+2)≤9*9:=Nat.mul_le_mul (by omega) (by omega)
 have g2:(xs.length+2)*(xs.length+2)*(msz xs+m+2*(xs.length-1)+32)≤9*9*250:=Nat.mul_le_mul g1 (by omega)
 omega
theorem Zkc{xs:List Int}(h:xs.length=0):Pw xs=[]:=by unfold Pw;rw [h];rfl
theorem chx_nil{xs:List Int}(h:xs.length=0):chx xs=[]:=by unfold chx;rw [if_pos h]
theorem Zow{xs:List Int}(h:xs.length≠0):chx xs=chn 13 (Hq xs):=by unfold chx;rw [if_neg h]
theorem Zkd:∀(n m:Nat) (p:List Int),p.length≤n→p.length≤m→Zmc n p=Zmc m p
 | 0,m,p,h1,h2=>by
  have h0:p.length=0:=by omega
  cases m with
  | zero=>rfl
  | succ m=>unfold Zmc;rw [if_pos h0]
 | n+1,m,p,h1,h2=>by
  have ld':=Oj p
  cases m with
  | zero=>unfold Zmc;rw [if_pos (by omega)]
  | succ m=>
   unfold Zmc
   by_cases h0:p.length=0
   ·rw [if_pos h0,if_pos h0]
   ·rw [if_neg h0,if_neg h0,Zkd n m (Pf p) (by omega) (by omega)]
theorem Zbe{p:List Int}(h:p.length≠0):Pw p=p :: Pw (Pf p):=by
 have ld':=Oj p
 unfold Pw
 obtain⟨n,hn⟩:∃n,p.length=n+1:=⟨p.length-1,by omega⟩
 rw [hn,show Zmc (n+1) p=if p.length=0 then []else p :: Zmc n (Pf p)from rfl,if_neg h,Zkd n (Pf p).length (Pf p) (by omega) (Nat.le_refl _)]
abbrev RZ:=(Bool×ByteArray)×(Bool×ByteArray)
abbrev Q0:RZ:=((false,⟨#[]⟩),(false,⟨#[]⟩))
def qOK(z:RZ):Bool:=okR z.1.1 z.1.2 z.2.1 z.2.2
noncomputable def qx (z:RZ):Int:=if h:okR z.1.1 z.1.2 z.2.1 z.2.2=true then(okR_ex h).choose else 0
noncomputable def qy (z:RZ):Int:=if h:okR z.1.1 z.1.2 z.2.1 z.2.2=true then(okR_ex h).choose_spec.choose else 0
theorem Zal(x y x2 y2:Int)(hp:0<y)(hp2:0<y2)(hx:bl x.natAbs≤65536:=by omega)(hy:bl y.natAbs≤65536:=by omega)(hx2:bl x2.natAbs≤65536:=by omega)(hy2:bl y2.natAbs≤65536:=by omega):Ml prog 60 #[rX x y,rX x2 y2] [] (.agg #[.bool (decide ((slow (x,y)).1<0)),.string (Qq (slow (x,y)).1.natAbs),.bool (decide ((slow (x,y)).2<0)),.string (Qq (slow (x,y)).2.natAbs),.bool (decide ((slow (x2,y2)).1<0)),.string (Qq (slow (x2,y2)).1.natAbs),.bool (decide ((slow (x2,y2)).2<0)),.string (Qq (slow (x2,y2)).2.natAbs)]):=by
 refine Ya func60 J ntmps60 J trivial ?_
 intro w0 sc hw hsc
 simp only [Zp,Zn]
 refine Zc<|Zg<|tt (Xe (i:=1) J J J J J hw) fun bx _=>tt (Xe (i:=2) J J J J J hw) fun bx_2 _=>tt (Zo (i:=3) J J zeroValue62 J J hw) fun bx_3 _=>Zf<|Za<|Zc<|Zg<|dt (Xx J J Zac J Yj J J)<|dt (Zz (i:=1) J J J Qj Yj J J)<|dt (Xx J J Zac J Yj J J)<|dt (Zz (i:=1) J J J Qj Yj J J)<|tt (Zh (n:=3) (Zfu _ _ hx hy) J J J K2 call119 Ze J hw) fun _ _=>mv J<|dt (Yf J J J)<|dt (Yf J J J)<|tt (Zo (i:=4) J J zeroValue41 J J hw) fun bx_4 _=>tt (Zm (i:=4) J J J J J (by decide) J Xz J J ⟨Zd J,Zd J,Zd J,Zd J,trivial⟩ J hw trivial) fun _ _=>as_ J<|Zf<|Za<|Zc<|Zg<|dt (Xx J J Zac J Yj J J)<|dt (Zz (i:=2) J J J Qj Yj J J)<|dt (Xx J J Zac J Yj J J)<|dt (Zz (i:=2) J J J Qj Yj J J)<|tt (Zh (n:=4) (Zfu _ _ hx2 hy2) J J J K2 call119 Ze J hw) fun _ _=>mv J<|dt (Yf J J J)<|dt (Yf J J J)<|tt (Zo (i:=5) J J zeroValue41 J J hw) fun bx_5 _=>tt (Zm (i:=5) J J J J J (by decide) J Xz J J ⟨Zd J,Zd J,Zd J,Zd J,trivial⟩ J hw trivial) fun _ _=>as_ J<|Zf<|Za<|Zc<|Zg<|dt (Yy (i:=4) J J J Pv Xz J J J J)<|dt (Yy (i:=5) J J J Pv Xz J J J J) ?_
 exact dt (Pz (ivs:=[(0,_),(1,_)]) J K4 (fun a w hs=>b62_01))<|tt (Zm (i:=3) J J J J J (by decide) J Bl J J ⟨Zd J,Zd J,Zd J,Zd J,Zd J,Zd J,Zd J,Zd J,trivial⟩ J hw trivial) fun _ _=>Zf<|Za<|Zv<|Yn (.inl J) hsc () _ (fun a w hs=>Nn hs results60 (Yr (i:=3) J J Ziw Bl J)) J trivial J Zk
theorem Zk3(v:Value)(xs:List Int)(hv:Vp xs)(h0:xs≠[]):Cal prog 107 #[v] [slp 2 wv v xs] true (G:=Value) (fun r=>True) (fun r=> .tuple #[r,.int .i64 0]) (fun r=>[slp 2 wv r (nrm xs)]):=by
 refine Ya func107 J ntmps107 J K1 ?_
 intro w0 sc hw hsc
 simp only [Zp,Zn]
 have hvp:=Lo hv
 have hl0:=List.length_pos_iff.2 h0
 have hlp:=Yi xs
 have hlen:=hv.len
 refine Zc<|Zg<|as_ J<|as_ J<|Zf<|Za<|Zc<|Zg<|mv J<|tt (Zh (n:=2) (Mi _ _ hv) J J J K1 call150 (Zb 1 J J J Ze) J hw) fun _ _=>mv J<|dt (Yf J J J)<|dt (Yf J J J)<|as_ J<|as_ J<|Zf<|Za<|Zc<|Zc<|Zg<|mv J<|dt (Yc (r':= .bool true) (Pm J J J) (congrArg Value.bool (by decide)))<|mv J<|gdt (Ym J J) J J<|gdt (Yb J J (i:=2) J Zi Qp) J J<|gdt (Yc (r':= .bool true) (Oq J J J) (congrArg Value.bool (decide_eq_true (by omega)))) J J<|dt (Xh J J J)<|mv J<|gdt (Ym J J) J J<|gdt (Ym J J) J J<|gdt (Yb J J (i:=2) J Zi Qp) J J<|gdt (Qa J J J ⟨by omega,by omega⟩) J J<|gdt (Yw (ii:=2) (i:=((Yx xs).length-1)) J J J J Zi Qp Yj) J J<|gdt (Xm (ii:=2) 0 J J J Zi pV (by first | omega | (simp only [List.length_set];omega))) J J<|gtt (Zh (n:=2) (Mo _ (hvp.sz _)) J J J K1 call104 Ze J hw) J J J fun _ _=>gdt (Xu J J J) J J<|dt (Xh J J J)<|Zf<|Za<|Zq J (fun h63=>?_) (fun h63=>?_)
 ·exact Zc<|Zg<|mv J<|tt (Zh (n:=2) (Xd _ ⟨by decide,by decide⟩) J J J K1 Bj Ze J hw) fun _ _=>tt (Zh (n:=3) (Ec _ _ _ hvp (by decide +kernel) (fun i=>Aw hvp.sz i)) J J J K2 call151 (Zb 2 J J J Ze) J hw) fun _ _=>dt (Yf J J J)<|dt (Yf J J J)<|as_ J<|as_ J<|Zf<|Za<|Zv<|Xc<|Yn (.inl J) hsc _ _ (fun a w hs=>Np hs results107 J J) J trivial J (Yk 3 J J J (by rw [Zh3 (by omega) ((Qk _).1 ‹_›)]<;>rfl) Zk)
 ·exact Zj<|Za<|Zc<|Zg<|mv J<|mv J<|as_ J<|as_ J<|Zf<|Za<|Zv<|Yn (.inl J) hsc _ _ (fun a w hs=>Np hs results107 J J) J trivial J (Yk 2 J J J (by rw [Zh2 (fun h=>by have h2:=(Qk _).2 h;exact absurd h2 ‹_›)]<;>rfl) Zk)
set_option maxHeartbeats 4000000 in
theorem sg_odd(v:Value)(xs:List Int)(hd:Cvd xs)(h0:xs≠[]):Cal prog 51 #[v] [slp 2 wv v xs] true (G:=Value) (fun r=>True) (fun r=> .tuple #[r,.int .i64 0]) (fun r=>[slp 2 wv r (Hq xs)]):=by
 refine Ya func51 J ntmps51 J K1 ?_
 intro w0 sc hw hsc
 simp only [Zp,Zn]
 refine Yl (Nj 999 2 31 wv)<|Yl (Qz 999 J J pV)<|Zc<|Zg<|as_ J<|as_ J<|Zf<|Za<|Zc<|Zg<|mv J<|tt (Zh (n:=2) (Zk3 _ _ hd.v h0) J J J K1 call107 (Zb 1 J J J Ze) J hw) fun _ _=>mv J<|dt (Yf J J J)<|dt (Yf J J J)<|as_ J<|as_ J<|Zf<|Za<|Zc<|Zc<|Zg<|mv J<|dt (Yc (r':= .bool false) (Qb J J J) (congrArg Value.bool (by decide)))<|Zf<|Za<|Ye J<|Zj<|Za<|Zc<|Zg<|tt (Pn (i:=3) (ivs:=[(0,_)]) (enc:=Ay) ([1]:List Int) J J K2 Ny ti3 J J J J J pZ.cells J J hw) fun v _=>Pr (Qz 3 J J pZ)<|tt (Zh (n:=4) (poly_of _ _ (fun x h=>by rw [List.mem_singleton.1 h];exact⟨by decide,by decide⟩) (by decide)) J J J K1 call108 (Zb 3 J J J Ze) J hw) fun _ _=>mv J<|dt (Yf J J J)<|dt (Yf J J J)<|as_ J<|as_ J<|Zf<|Za<|Zc<|Zg<|as_ J<|Zf<|Za<|Zc<|Zg<|as_ J<|Zf<|Za<|Zl<|Yl (Oc 2 80 J J J)<|Yl (Oc 4 81 J J J)<|Yl (Oc 999 82 J J J) ?_
 refine Nt [] [(0,_),(1,_),(999,_),(2,_),(3,_),(4,_)] (fun(q:Value×Value×Value×List Int×List Int×List Int×Nat)=>[(4,q.1),(6,q.2.1),(8,q.2.2.1),(9,.int .i64 (q.2.2.2.2.2.2:Int))]) (fun(q:Value×Value×Value×List Int×List Int×List Int×Nat)=>[(80,slp 2 wv q.1 q.2.2.2.1),(81,slp 2 wv q.2.1 q.2.2.2.2.1),(82,slp 2 wv q.2.2.1 q.2.2.2.2.2.1)]) (fun(q:Value×Value×Value×List Int×List Int×List Int×Nat)=>(OddI xs q.2.2.2.2.2.2 q.2.2.2.1 q.2.2.2.2.1 q.2.2.2.2.2.1)∧(1≤q.2.2.2.2.2.2)∧(q.2.2.2.2.2.2+q.2.2.2.1.length≤10)) (fun(q:Value×Value×Value×List Int×List Int×List Int×Nat)=>q.2.2.2.1.length) (_,_,_,nrm xs,[1],[],1) ⟨OddI.start hd h0,by first | omega | (dsimp only<;>omega),by have:=Pt hd.v.tr;have:=hd.l;dsimp only;omega⟩ K4 K9 ?_
 rintro⟨vr,vo,vb,rest,out,bef,t⟩ ⟨hI,ht1,ht2⟩
 dsimp only at hI ht1 ht2
 simp only [CA,NA]
 obtain⟨a1,a2,a3,a4,a5,a6,a7,a8,a9,a10,a11,a12,a13,a14,a15,a16,a17,a18⟩:=Zb1 hd h0 (hI.dp hd h0)
 obtain⟨o1,o2,o3⟩:=hI.out hd h0
 refine Zc<|Zl<|Zc<|Zg<|mv J<|tt (Zh (n:=5) (Dc _ _ a1 a3) J J J K1 call109 (Zb 80 J J J Ze) J hw) fun _ _=>mv J<|dt (Yf J J J)<|dt (Yf J J J)<|as_ J<|as_ J<|Zf<|Za<|Zc<|Zc<|Zg<|mv J<|dt (Yc (r':= .bool false) (Qb J J J) (congrArg Value.bool (by decide)))<|Zf<|Za<|Ye J<|Zj<|Za<|Zc<|Zg<|mv J<|mv J<|tt (Zh (n:=6) (Znr _ _ _ _ a1 a4 13 a5 a6) J J J K2 call110 (Zb 80 J J J (Zb 5 J J J Ze)) J hw) fun _ _=>Pr (Gp 6 (q:=slp 2 wv _ (gcf 13 rest)) (congrArg (slp 2 wv _) a7) J J)<|mv J<|dt (Yf J J J)<|dt (Yf J J J)<|as_ J<|as_ J<|Zf<|Za<|Zc<|Zc<|Zg<|mv J<|dt (Yc (r':= .bool false) (Qb J J J) (congrArg Value.bool (by decide)))<|Zf<|Za<|Ye J<|Zj<|Za<|Zc<|Zg<|mv J<|mv J<|tt (Zh (n:=7) (Ak _ _ _ _ a1 a8 a9) J J J K2 call111 (Zb 80 J J J (Zb 6 J J J Ze)) J hw) fun _ _=>Pr (Gp 7 (q:=slp 2 wv _ (sqf 13 rest)) (congrArg (slp 2 wv _) ((if_pos a10).trans a11)) J J)<|mv J<|dt (Yf J J J)<|dt (Yf J J J)<|as_ J<|as_ J<|Zf<|Za<|Zc<|Zc<|Zg<|mv J<|dt (Yc (r':= .bool false) (Qb J J J) (congrArg Value.bool (decide_eq_false (fun h=>h (if_pos a10))))) ?_
 refine Zf<|Za<|Ye J<|Zj<|Za<|Zc<|Zc<|Zg<|mv J<|dt (Zkf J J J)<|dt (Pm J J J)<|Zf<|Za<|Zq J (fun h91=>?_) (fun h91=>?_)
 ·have ht:t%2=0:=by omega
  obtain⟨e1,e2,e3,e4,e5,e6,e7,e8⟩:=hI.even hd h0 ht
  refine Zc<|Zg<|mv J<|mv J<|tt (Zh (n:=8) (Ak _ _ _ _ e1 a12 e2) J J J K2 call111 (Zb 82 J J J (Zb 7 J J J Ze)) J hw) fun _ _=>Pr (Gp 8 (q:=slp 2 wv _ (Kn bef (sqf 13 rest))) (congrArg (slp 2 wv _) (if_pos e3)) J J)<|mv J<|dt (Yf J J J)<|dt (Yf J J J)<|as_ J<|as_ J<|Zf<|Za<|Zc<|Zc<|Zg<|mv J<|dt (Yc (r':= .bool false) (Qb J J J) (congrArg Value.bool (decide_eq_false (fun h=>h (if_pos e3)))))<|Zf<|Za<|Ye J<|Zj<|Za<|Zc<|Zg<|mv J<|mv J<|tt (Zh (n:=9) (Zwt _ _ _ _ o1 e4 e5) J J J K2 call112 (Zb 81 J J J (Zb 8 J J J Ze)) J hw) fun _ _=>mv J<|dt (Yf J J J)<|dt (Yf J J J)<|as_ J<|as_ J<|Zf<|Za<|Zc<|Zg<|mv J<|dt (Yc (r':= .bool false) (Qb J J J) (congrArg Value.bool (by decide)))<|Zf<|Za<|Ye J<|Zj<|Za<|Zc<|Zc<|Zg<|mv J<|dt (Yb J J (i:=7) J Zi Qp)<|dt (Pm J J J)<|Zf<|Za<|Zq J (fun h101=>?_) (fun h101=>?_)
  ·exact Zc<|Zg<|mv J<|as_ J<|as_ J<|Zf<|Za<|Zv<|Xc<|Hf<|Xc<|Xc<|Hf<|Yn (.inl J) hsc _ _ (fun a w hs=>Np hs results51 J J) J trivial J (Yk 9 J J J (by first | (rw [hI.odd_end hd h0 (by omega) (by omega)]<;>rfl) | (rw [e6 (by omega)]<;>rfl)) Zk)
  ·exact Zj<|Za<|Zg<|mv J<|mv J<|as_ J<|as_ J<|Zf<|Oa<|Za<|Zg<|mv J<|dt (Ys J J J ⟨by omega,by omega⟩)<|as_ J<|Zf<|Qv (Oc 6 80 J J J)<|Qv (Oc 9 81 J J J)<|Qv (Oc 7 82 J J J)<|Xk (_,_,_,gcf 13 rest,_,sqf 13 rest,t+1) ⟨by first | exact hI.odd_next (by omega) (by omega) | exact e7 (by omega),by first | omega | (dsimp only<;>omega),by have:=a17 (by omega);dsimp only;omega⟩ (a17 (by omega)) K4 K9
 ·have ht:t%2=1:=by omega
  refine Zj<|Za<|Zc<|Zc<|Zg<|mv J<|dt (Yb J J (i:=7) J Zi Qp)<|dt (Pm J J J)<|Zf<|Za<|Zq J (fun h101_2=>?_) (fun h101_2=>?_)
  ·exact Zc<|Zg<|mv J<|as_ J<|as_ J<|Zf<|Za<|Zv<|Xc<|Hf<|Xc<|Xc<|Hf<|Yn (.inl J) hsc _ _ (fun a w hs=>Np hs results51 J J) J trivial J (Yk 81 J J J (by first | (rw [hI.odd_end hd h0 (by omega) (by omega)]<;>rfl) | (rw [e6 (by omega)]<;>rfl)) Zk)
  ·exact Zj<|Za<|Zg<|mv J<|mv J<|as_ J<|as_ J<|Zf<|Oa<|Za<|Zg<|mv J<|dt (Ys J J J ⟨by omega,by omega⟩)<|as_ J<|Zf<|Qv (Oc 6 80 J J J)<|Qv (Oc 7 82 J J J)<|Xk (_,_,_,gcf 13 rest,_,sqf 13 rest,t+1) ⟨by first | exact hI.odd_next (by omega) (by omega) | exact e7 (by omega),by first | omega | (dsimp only<;>omega),by have:=a17 (by omega);dsimp only;omega⟩ (a17 (by omega)) K4 K9
theorem Zk5(v:Value)(xs:List Int)(hd:Cvd xs)(h0:xs≠[]:=by decide):Cal prog 12 #[v] [slp 2 wv v xs] true (G:=Value) (fun r=>True) (fun r=> .tuple #[r,.int .i64 0]) (fun r=>[slp 2 wv r (Hq xs)]):=by
 refine Ya func12 J ntmps12 J K1 ?_
 intro w0 sc hw hsc
 simp only [Zp,Zn]
 have hv:=hd.v
 have hl0:=List.length_pos_iff.2 h0
 exact Yl (Nj 999 2 31 wv)<|Yl (Qz 999 J J pV)<|Zc<|Zg<|as_ J<|as_ J<|Zf<|Za<|Zc<|Zl<|Zc<|Zg<|mv J<|tt (Zh (n:=1) (Xq _ _ ‹_›) J J J K1 Zdr (Zb 1 J J J Ze) J hw) fun _ _=>dt (Xp J J)<|as_ J<|Zf<|Za<|Ye J<|Zc<|Zg<|mv J<|dt (Yb J J (i:=1) J Zi Qp)<|dt (Yc (r':= .bool false) (Pm J J J) (congrArg Value.bool (decide_eq_false (by omega))))<|as_ J<|Zf<|Za<|Ye J<|Zc<|Zg<|mv J<|tt (Zh (n:=1) (Zhf _ 0 xs hv) J J J K2 call50 (Zb 1 J J J Ze) J hw) fun _ _=>dt (Yc (r':= .bool false) (Ze6 J J) (congrArg Value.bool (decide_eq_false (fun h=>h (Dk hd (by omega))))))<|as_ J<|Zf<|Za<|Ye J<|Zj<|Oa<|Za<|Zc<|Zg<|mv J<|tt (Zh (n:=2) (sg_odd _ _ hd h0) J J J K1 call51 (Zb 1 J J J Ze) J hw) fun _ _=>dt (Yf J J J)<|dt (Yf J J J)<|as_ J<|as_ J<|Zf<|Za<|Zv<|Yn (.inl J) hsc _ _ (fun a w hs=>Np hs results12 J J) J trivial J (Xa 2 J J J Zk)
set_option maxHeartbeats 4000000 in
theorem Zk4(v:Value)(xs:List Int)(hd:Cvd xs):Cal prog 59 #[v] [slp 2 wv v xs] true (G:=Value×List (SL×List Int)×Value×List (SL×List Int)) (fun r=>r.2.1.map Prod.snd=Pw xs∧r.2.2.2.map Prod.snd=chx xs) (fun r=> .tuple #[.agg #[r.1,r.2.2.1],.int .i64 0]) (fun r=>[Au 1 Bh qZ r.1 r.2.1,Au 1 Bh qZ r.2.2.1 r.2.2.2]):=by
 refine Ya func59 J ntmps59 J K1 ?_
 intro w0 sc hw hsc
 simp only [Zp,Zn]
 refine e_ex (On 1 J Zi) (fun sv hsv=>?_)
 subst hsv
 have hv:=hd.v
 refine Yl (Nj 999 2 31 wv)<|Yl (Qz 999 J J pV)<|Zc<|Zg<|tt (Zo (i:=2) J J zeroValue98 J J hw) fun bx _=>as_ J<|Zf<|Za<|Zc<|Zg<|tt (Zo (i:=3) J J zeroValue98 J J hw) fun bx_2 _=>Zf<|Za<|Zc<|Zc<|Zg<|mv J<|dt (Yb J J (i:=1) J Zi Qp)<|dt (Pm J J J)<|Zf<|Za<|Zq J (fun h129=>?_) (fun h129=>?_)
 ·exact Zc<|Zg<|dt (Zz (i:=3) J J J Zc1 Ct J J)<|tt (Zm (i:=2) J J J J J (by decide) J Ct J J ⟨Zd J,Zd J,trivial⟩ J hw trivial) fun _ _=>as_ J<|Zf<|Za<|Zv<|Xc<|Qv (Nj 70 1 23 (Bh (α:=List Int)))<|Qv (Nz qZ 71)<|Qv (Qz 70 J J pS)<|Qv (Ma 70 71 72 J J J J)<|Yn (.inl J) hsc (.slice none 0 0,[],.slice none 0 0,[]) _ (fun a w hs=>Np hs results59 (Yr (i:=2) J J Zc1 Ct J) J) J ⟨(Zkc (by omega)).symm,(chx_nil (by omega)).symm⟩ J (Xa 72 J J J (Xa 72 J J J Zk))
 ·have h0:xs≠[]:=fun e=>by rw [e]at h129;simp at h129
  obtain⟨q1,q2,q3,q4,q5⟩:=Al hd h0
  refine Zj<|Za<|Zc<|Zc<|Zg<|mv J<|as_ J<|as_ J<|Zf<|Za<|Zl<|Yl (Nj 70 1 23 (Bh (α:=List Int)))<|Yl (Nz qZ 71)<|Yl (Oc 1 80 J J J)<|Nt [(0,_),(2,_),(4,_)] [(0,_),(1,_),(999,_),(2,_)] (fun(q:List (SL×List Int)×SL×List Int×Value×Nat)=>[(5,svv q.2.1)]) (fun(q:List (SL×List Int)×SL×List Int×Value×Nat)=>[(70,osl 1 23 Bh q.2.2.2.1 q.1),(71,Zb7 qZ q.1),(80,slp 2 wv (svv q.2.1) q.2.2.1),(3,box bx_2 98 #[q.2.2.2.1,.slice none 0 0])]) (fun(q:List (SL×List Int)×SL×List Int×Value×Nat)=>(Vp q.2.2.1)∧(Sz q.2.2.2.2 q.2.2.1)∧(q.2.2.2.2+5*q.2.2.1.length≤110)∧(q.1.length+q.2.2.1.length≤7)∧(q.1.map Prod.snd ++ Pw q.2.2.1=Pw xs)) (fun(q:List (SL×List Int)×SL×List Int×Value×Nat)=>q.2.2.1.length) ([],sv,xs,_,70) ⟨hv,hd.s,by have:=hd.l;dsimp only;omega,by have:=hd.l;simp;omega,rfl⟩ K4 K8 ?_
  rintro⟨ws,sd,y,vo,k⟩ ⟨hy,hys,hk,hyl,hws⟩
  dsimp only at hy hys hk hyl hws
  simp only [CA,NA]
  refine Zc<|Zc<|Zg<|mv J<|dt (Yb J J (i:=80) J Zi Qp)<|dt (Oq J J J)<|Zf<|Za<|Zq J (fun h132=>?_) (fun h132=>?_)
  ·refine Zj<|Za<|Zl<|Zc ?_
   have hpl:=Oj y
   have hdz:∀i,bl (cf y (i+1)*((i:Int)+1)).natAbs≤65536:=fun i=>by have h:=He hys (by omega) i;rw [Zdq]at h;omega
   refine Zg<|dt (Xx J J Zvh J Zqe J J)<|dt (Ok (i:=3) J J J isAgg96 J)<|mv J<|tt (Pn (i:=4) (ivs:=[(0,_)]) (enc:=Bh) [(sd,y)] J J K2 Zku ti23 J J J J J pS.cells J J hw) fun v _=>tt (Im (i:=70) (j:=4) (by_:=24) J J J J J J (by decide) J (Yq pS) Zku ti23 J pS J J J (by simp;omega) (by decide) J hw) fun v_2 _=>dt (Xx J J Zvh J Zqe J J)<|tt (t_stp1 (i:=3) J J J J J Zqe J (Zt (i:=70) J (Yq pS)) J hw trivial) fun _ _=>Zf<|Za<|Zc<|Zg<|mv J<|tt (Zh (n:=84) (Dc _ _ hy hdz) J J J K1 call109 (Zb 80 J J J Ze) J hw) fun _ _=>l_ex (On 84 J Zi) (fun sn hsn=>?_)
   subst hsn
   exact mv J<|dt (Yf J J J)<|dt (Yf J J J)<|as_ J<|as_ J<|Zf<|Za<|Zc<|Zg<|mv J<|dt (Yc (r':= .bool false) (Qb J J J) (congrArg Value.bool (by decide)))<|Zf<|Za<|Ye J<|Zj<|Oa<|Qv (Pj (q:=qZ) (z:=(sd,y)) 71 80 71 J J J J J)<|Qv (Oc 84 80 J J J)<|Xk (ws ++ [(sd,y)],sn,Pf y,_,k+5) ⟨Zdz hy (fun i _=>hdz i),He hys (by omega),by dsimp only;omega,by dsimp only;simp;omega,by dsimp only;rw [List.map_append,List.append_assoc,←hws,Zbe (p:=y) (by omega)];rfl⟩ (by dsimp only;omega) K4 K8
  ·refine Yu<|Zu<|Zu<|Ox<|Za<|Zc ?_
   have hy0:y.length=0:=by omega
   have hw2:ws.map Prod.snd=Pw xs:=by rw [←hws,Zkc hy0,List.append_nil]
   exact Yl (Qz 70 J J pS)<|Yl (Ma 70 71 72 J J J J)<|Zg<|mv J<|tt (Zh (n:=5) (sg_odd _ _ hd h0) J J J K1 call51 (Zb 1 J J J Ze) J hw) fun _ _=>mv J<|dt (Yf J J J)<|dt (Yf J J J)<|as_ J<|as_ J<|Zf<|Za<|Zc<|Zc<|Zg<|mv J<|dt (Yc (r':= .bool false) (Qb J J J) (congrArg Value.bool (by decide)))<|Zf<|Za<|Ye J<|Zj<|Za<|Zc<|Zg<|mv J<|tt (Zh (n:=6) (Zvt _ _ q2 q1.one q5 13 q1.ok) J J J K1 call118 (Zb 5 J J J Ze) J hw) fun g hg=>mv J<|dt (Yf J J J)<|dt (Yf J J J)<|dt (Xx J J Zvh J Zqe J J)<|tt (t_stp1 (i:=3) J J J J J Zqe J (Zt (i:=6) J Zx) J hw trivial) fun _ _=>as_ J<|Zf<|Za<|Zc<|Zg<|dt (Zz (i:=3) J J J Zc1 Ct J J)<|mv J<|tt (Zm (i:=2) J J J J J (by decide) J Ct J J ⟨Zt (i:=72) J Zx,Zt (i:=6) J Zx,trivial⟩ J hw trivial) fun _ _=>as_ J<|Zf<|Za<|Zv<|Yn (.inl J) hsc (_,ws,_,g.2) _ (fun a w hs=>Np hs results59 (Yr (i:=2) J J Zc1 Ct J) J) J ⟨hw2,(hg).trans (Zow (by omega)).symm⟩ J (Xa 72 J J J (Xa 6 J J J Zk))
theorem Zc9(v:Value)(xs:List Int)(x y x2 y2:Int)(hp:0<y)(hp2:0<y2)(hv:Vp xs)(hf:Dn xs 0)(he1:efit (x,y)=true)(he2:efit (x2,y2)=true)(hx:bl x.natAbs≤65536:=by omega)(hy:bl y.natAbs≤65536:=by omega)(hx2:bl x2.natAbs≤65536:=by omega)(hy2:bl y2.natAbs≤65536:=by omega):Ml prog 58 #[v,rX x y,rX x2 y2,.slice none 0 0] [slp 2 wv v xs] (.int .i64 (if 0<cmp (x,y) (x2,y2)then 3 else 0)):=by
 refine Ya func58 J ntmps58 J K1 ?_
 intro w0 sc hw hsc
 simp only [Zp,Zn]
 refine Yl (Nj 999 2 31 wv)<|Yl (Qz 999 J J pV)<|Zc<|Zg<|tt (Xe (i:=2) J J J J J hw) fun bx _=>tt (Xe (i:=3) J J J J J hw) fun bx_2 _=>as_ J<|Zf<|Za<|Zc<|Zc<|Zg<|mv J<|tt (Zh (n:=3) (Xq _ _ ‹_›) J J J K1 Zdr (Zb 1 J J J Ze) J hw) fun _ _=>dt (Yc (r':= .bool false) (Xp J J) (congrArg Value.bool (by decide)))<|mv J<|gdt (Yy (i:=2) J J J Pv Xz J J J J) J J<|gtt (Zh (n:=3) (Qr _ _ hp hx hy) J J J K1 call117 Ze J hw) J J J fun _ _=>gdt (Yc (r':= .bool false) (Xp J J) (congrArg Value.bool (by decide))) J J<|dt (Yh J J J)<|mv J<|gdt (Yy (i:=3) J J J Pv Xz J J J J) J J<|gtt (Zh (n:=3) (Qr _ _ hp2 hx2 hy2) J J J K1 call117 Ze J hw) J J J fun _ _=>gdt (Yc (r':= .bool false) (Xp J J) (congrArg Value.bool (by decide))) J J<|dt (Yh J J J)<|mv J<|gdt (Ym J J) J J<|gdt (Yb J J (i:=999) J Zi Zvi) J J<|gdt (Yc (r':= .bool false) (Oq J J J) (congrArg Value.bool (by decide))) J J<|dt (Yh J J J)<|Zf<|Za<|Ye J<|Zj<|Za<|Zc<|Zg<|mv J<|tt (Zh (n:=3) (Zm7 _ _ hv) J J J K1 call14 (Zb 1 J J J Ze) J hw) (fun _ _=>?_)
 refine dt (Yc (r':= .bool false) (Ze6 J J) (congrArg Value.bool (decide_eq_false (fun h=>h hf))))<|mv J<|gdt (Yy (i:=2) J J J Pv Xz J J J J) J J<|gtt (Zh (n:=3) (Kr _ _ hx hy) J J J K1 call95 Ze J hw) J J J fun _ _=>gdt (Yc (r':= .bool false) (Xp J J) (congrArg Value.bool (by rw [he1];rfl))) J J<|dt (Yh J J J)<|mv J<|gdt (Yy (i:=3) J J J Pv Xz J J J J) J J<|gtt (Zh (n:=3) (Kr _ _ hx2 hy2) J J J K1 call95 Ze J hw) J J J fun _ _=>gdt (Yc (r':= .bool false) (Xp J J) (congrArg Value.bool (by rw [he2];rfl))) J J<|dt (Yh J J J)<|as_ J<|Zf<|Za<|Zc<|Zc<|Zg<|mv J<|dt (Yb J J (i:=999) J Zi Zvi)<|mv J<|Zf<|Za<|Zl<|Nt [(5,_),(6,_),(43,_),(44,_)] [(0,_),(1,_),(999,_),(2,_),(3,_)] (fun(_:Unit)=>[(45,.int .i64 0),(9,.bool false)]) (fun(_:Unit)=>[]) (fun(_:Unit)=>True) (fun(_:Unit)=>0) () trivial K6 K5 ?_
 rintro _ -
 simp only [CA,NA]
 refine Zc<|Zg<|dt (Yc (r':= .bool false) (Xu J J J) (congrArg Value.bool (by decide)))<|Zf<|Za<|Zc<|Ye J<|Yu<|Zu<|Zu<|Ox<|Za<|Zc<|Zc<|Zg<|dt (Yy (i:=2) J J J Pv Xz J J J J)<|dt (Yy (i:=3) J J J Pv Xz J J J J)<|tt (Zh (n:=3) (Gc _ _ _ _ hp hp2 hx hy hx2 hy2) J J J K2 call96 Ze J hw) fun _ _=>dt (Oq J J J)<|Zf<|Za<|Zq J (fun h45=>?_) (fun h45=>?_)
 ·exact Zc<|Zg<|as_ J<|Zf<|Za<|Zv<|Xc<|xU hsc results58 J J (by rw [if_pos ‹_›])
 ·exact Zj<|Za<|Zc<|Zc<|Zg<|mv J<|Zf<|Za<|Ye J<|Zj<|Za<|Zc<|Zg<|as_ J<|Zf<|Za<|Zv<|xU hsc results58 J J (by rw [if_neg ‹_›])
def Lw(z:R2):Prop:=0<z.2∧Int.gcd z.1 z.2=1
theorem lgcd_p{x y:Int}(hy:0<y):Gi x y=(Int.gcd x y:Int):=by unfold Gi;rw [if_neg (by omega)]
theorem lw_div{x y:Int}(hy:0<y):Lw (x/Gi x y,y/Gi x y):=by
 have hg:0<Int.gcd x y:=Int.gcd_pos_of_ne_zero_right _ (by omega)
 rw [lgcd_p hy]
 refine⟨Int.ediv_pos_of_pos_of_dvd hy (by omega) (Int.gcd_dvd_right ..),?_⟩
 exact Int.gcd_ediv_gcd_ediv_gcd hg
theorem Zlv{a:R2}(ha:0<a.2)(h:¬It a.1 a.2):Lw (slow a):=by
 obtain⟨n1,n2,-⟩:=Zeu h
 have:=lw_div (x:=a.1) ha
 unfold slow;rw [n1,n2];exact this
theorem lw_mid{a b:R2}(h:Zfn a b)(ha:0<a.2)(hb:0<b.2):Lw (Mp a b):=by
 obtain⟨n1,n2,-⟩:=Zeu h.2
 have hp:0<Zcm (a.1*b.2+b.1*a.2) (a.2*b.2)*2:=Int.mul_pos (Zsh h.1 (Int.mul_pos ha hb)) (by decide)
 have:=lw_div (x:=Zda (a.1*b.2+b.1*a.2) (a.2*b.2)*1) hp
 unfold Mp;rw [n1,n2];exact this
structure Hv (n Q j:Nat) (W:Rat) (a b:R2):Prop where
 hQ:0<Q
 hQ2:Q<2^(2*n)
 ea:En (2^n) Q j a
 eb:En (2^n) Q j b
 wd:(qv b-qv a)*((2^j:Nat):Rat)=W
 le:qv a≤qv b
 la:Lw a
 lb:Lw b
theorem Hv.start{n:Nat}{a b:R2}(ha:0<a.2)(hb:0<b.2)(a1:bl a.1.natAbs≤n)(a2:bl a.2.natAbs≤n)(b1:bl b.1.natAbs≤n)(b2:bl b.2.natAbs≤n)(hn:n≤65536)(hle:qv a≤qv b):∃Q,Hv n Q 0 (qv b-qv a) (slow a) (slow b):=by
 obtain⟨s1,s2,s3,s4,s5⟩:=Zaj ha a1 a2 hn
 obtain⟨t1,t2,t3,t4,t5⟩:=Zaj hb b1 b2 hn
 have pa:=(Me n _).1 s4
 have pb:=(Me n _).1 t4
 have qa:=Znn ha (Nat.le_of_lt ((Me n _).1 a1))
 have qb:=Znn hb (Nat.le_of_lt ((Me n _).1 b1))
 have hQ0:0<(slow a).2.natAbs*(slow b).2.natAbs:=Nat.mul_pos (by omega) (by omega)
 have hQ1:(slow a).2.natAbs*(slow b).2.natAbs<2^(2*n):=by
  rw [show 2*n=n+n by omega,Nat.pow_add]
  exact Nat.mul_lt_mul_of_lt_of_le pa (Nat.le_of_lt pb) (Nat.pow_pos (by decide))
 generalize hQ:(slow a).2.natAbs*(slow b).2.natAbs=Q at *
 have hcast:((Q*2^0:Nat):Int)=(slow a).2*(slow b).2:=by
  rw [Nat.pow_zero,Nat.mul_one,←hQ];push_cast;rw [Int.natAbs_of_nonneg (by omega),Int.natAbs_of_nonneg (by omega)]
 have ea:En (2^n) Q 0 (slow a):=⟨s2,by rw [hcast];exact Int.dvd_mul_right _ _,by rw [s5];exact qa.1,by rw [s5];exact qa.2⟩
 have eb:En (2^n) Q 0 (slow b):=⟨t2,by rw [hcast];exact Int.dvd_mul_left _ _,by rw [t5];exact qb.1,by rw [t5];exact qb.2⟩
 exact⟨Q,hQ0,hQ1,ea,eb,by rw [s5,t5,Nat.pow_zero];push_cast;grind,by rw [s5,t5];exact hle,Zlv ha s1,Zlv hb t1⟩
theorem Hv.mid{n Q j B:Nat}{W:Rat}{a b:R2}(h:Hv n Q j W a b)(hB:3*n+2+j≤B)(hB2:B≤65536) :
  Zfn a b∧(bl (Mp a b).1.natAbs≤B∧bl (Mp a b).2.natAbs≤B∧0<(Mp a b).2)∧qv (Mp a b)=(qv a+qv b)/2∧(bl a.1.natAbs≤B∧bl a.2.natAbs≤B∧0<a.2)∧(bl b.1.natAbs≤B∧bl b.2.natAbs≤B∧0<b.2)∧
  Hv n Q (j+1) W a (Mp a b)∧Hv n Q (j+1) W (Mp a b) b:=by
 have hpow:∀m,m≤B→2^m≤2^B:=fun m h=>Nat.pow_le_pow_right (by decide) h
 have hB1:Q*2^(j+1)<2^B:=by
  have:Q*2^(j+1)<2^(2*n)*2^(j+1):=Nat.mul_lt_mul_of_pos_right h.hQ2 (Nat.pow_pos (by decide))
  rw [←Nat.pow_add]at this
  exact Nat.lt_of_lt_of_le this (hpow _ (by omega))
 have hB3:2*2^n*(Q*2^j)<2^B:=by
  have h1:Q*2^j<2^(2*n)*2^j:=Nat.mul_lt_mul_of_pos_right h.hQ2 (Nat.pow_pos (by decide))
  have h2:2*2^n*(Q*2^j)<2*2^n*(2^(2*n)*2^j):=Nat.mul_lt_mul_of_pos_left h1 (Nat.mul_pos (by decide) (Nat.pow_pos (by decide)))
  have h3:2*2^n*(2^(2*n)*2^j)=2^(3*n+1+j):=by
   rw [←Nat.pow_add,←Nat.pow_succ',←Nat.pow_add];congr 1;omega
  rw [h3]at h2
  exact Nat.lt_of_lt_of_le h2 (hpow _ (by omega))
 obtain⟨m1,m2,m3,m4,m5⟩:=mid_en h.ea h.eb h.hQ hB1 hB3 hB2
 obtain⟨p1,p2⟩:=en_bl2 (e:=j) (w:=0) (B:=B) h.ea h.hQ h.hQ2 (by omega)
 obtain⟨r1,r2⟩:=en_bl2 (e:=j) (w:=0) (B:=B) h.eb h.hQ h.hQ2 (by omega)
 have hlm:=lw_mid m1 h.ea.pos h.eb.pos
 have hw:((2^(j+1):Nat):Rat)=2*((2^j:Nat):Rat):=by rw [Nat.pow_succ];push_cast;grind
 have hle:=h.le
 refine⟨m1,⟨m4,m5,m2.pos⟩,m3,⟨p1,p2,h.ea.pos⟩,⟨r1,r2,h.eb.pos⟩,⟨h.hQ,h.hQ2,h.ea.up,m2,?_,by grind,h.la,hlm⟩,⟨h.hQ,h.hQ2,m2,h.eb.up,?_,by grind,hlm,h.lb⟩⟩
 ·rw [m3,hw,←h.wd];grind
 ·rw [m3,hw,←h.wd];grind
theorem sep_cvd{xs:List Int}(h:Cvd xs)(h0:xs≠[]):Zfh 13 xs∧∀u v:Rat,-((2^34:Nat):Rat)≤u→u≤v→v≤((2^34:Nat):Rat)→v-u≤1/((2^2700:Nat):Rat)→vch 13 xs u-vch 13 xs v≤1:=by
 have hl:=h.l
 obtain⟨hC,hq1,hq2,hq3⟩:=chF 13 h.v.tr h0 h.s (by omega) (by omega) (by omega)
 have hd:=He hq1 (by omega)
 have hss:∀n,n≤7→2≤n→Zv9 (2^34) (2^205) n 2700=true:=by decide +kernel
 exact⟨hC,fun u v=>sep_of h.v.tr h0 hC (Nat.pow_pos (by decide)) (A:=2^205) (Nat.pow_pos (by decide)) (fun i=>Nat.le_trans (Zfx hq1 i) (Nat.pow_le_pow_right (by decide) (by omega))) (fun i=>Zfx hd i) (fun h2=>hss _ (by omega) h2) u v⟩
theorem Zr2{j e w:Nat}{x W:Rat}(h1:1/((2^(e+1):Nat):Rat)<x)(h2:x*((2^j:Nat):Rat)=W)(h3:W≤((2^w:Nat):Rat)):j<e+1+w:=by
 have p1:=two_pow_pos (e+1)
 have p2:=two_pow_pos j
 rcases Nat.lt_or_ge j (e+1+w)with q | q
 ·exact q
 ·exfalso
  have hi:0<((2^(e+1):Nat):Rat)⁻¹:=Rat.inv_pos.2 p1
  have hc:((2^(e+1):Nat):Rat)*((2^(e+1):Nat):Rat)⁻¹=1:=Rat.mul_inv_cancel _ (by grind)
  have g1:((2^(e+1):Nat):Rat)*((2^w:Nat):Rat)≤((2^j:Nat):Rat):=by
   have:2^(e+1)*2^w≤2^j:=by rw [←Nat.pow_add];exact Nat.pow_le_pow_right (by decide) q
   exact_mod_cast this
  have g2:((2^(e+1):Nat):Rat)⁻¹<x:=by grind
  have g3:=Rat.mul_pos (show 0<x-((2^(e+1):Nat):Rat)⁻¹ by grind) p2
  have g4:=Rat.mul_nonneg (Rat.le_of_lt hi) (show 0≤((2^j:Nat):Rat)-((2^(e+1):Nat):Rat)*((2^w:Nat):Rat) by grind)
  have g5:((2^(e+1):Nat):Rat)⁻¹*(((2^(e+1):Nat):Rat)*((2^w:Nat):Rat))=((2^w:Nat):Rat):=by
   rw [←Rat.mul_assoc,Rat.mul_comm (((2^(e+1):Nat):Rat)⁻¹),hc,Rat.one_mul]
  grind
structure NIn (xs:List Int) (s t:Rat) (j:Nat) (a b:R2):Prop where
 ex:∃Q W,Hv 34 Q j W a b∧W≤((2^34:Nat):Rat)
 lo:s≤qv a
 hi:qv b≤t
 l0:-((2^33:Nat):Rat)≤s
 h0:t≤((2^33:Nat):Rat)
 pa:0≤rev xs (qv a)
 pb:0≤rev xs (qv b)
 ng:NegI xs (qv a) (qv b)
theorem rat34:((2^34:Nat):Rat)=2*((2^33:Nat):Rat)∧(1:Rat)≤((2^33:Nat):Rat):=by
 have h:∀n:Nat,((2^(n+1):Nat):Rat)=2*((2^n:Nat):Rat):=fun n=>by rw [Nat.pow_succ];push_cast;grind
 constructor
 ·exact h 33
 ·exact_mod_cast (show 1≤2^33 by decide)
theorem NIn.j{xs:List Int}{lo hi:Rat}{j:Nat}{a b:R2}(hd:Cvd xs)(h0:xs≠[])(h:NIn xs lo hi j a b):j<2735:=by
 obtain⟨Q,W,h1,h2⟩:=h.ex
 obtain⟨hC,hs⟩:=sep_cvd hd h0
 obtain⟨k1,k2⟩:=rat34
 have a1:=h.lo
 have a2:=h.hi
 have a3:=h.l0
 have a4:=h.h0
 have:=neg_sep (Al hd h0).1 hC (K:=2^34) (e:=2700) hs (s:=qv a) (t:=qv b) (by grind) (by grind) h.pa h.pb h.ng
 exact Zr2 (e:=2700) (w:=34) this h1.wd h2
theorem NIn.start{xs:List Int}{a b:R2}(ha:0<a.2)(hb:0<b.2)(a1:bl a.1.natAbs≤32)(a2:bl a.2.natAbs≤32)(b1:bl b.1.natAbs≤32)(b2:bl b.2.natAbs≤32)(hle:qv a≤qv b)(pa:0≤rev xs (qv a))(pb:0≤rev xs (qv b))(ng:NegI xs (qv a) (qv b)) :
  NIn xs (qv a) (qv b) 0 (slow a) (slow b):=by
 obtain⟨Q,hh⟩:=Hv.start (n:=34) ha hb (by omega) (by omega) (by omega) (by omega) (by omega) hle
 obtain⟨-,-,-,-,s5⟩:=Zaj (n:=34) ha (by omega) (by omega) (by omega)
 obtain⟨-,-,-,-,t5⟩:=Zaj (n:=34) hb (by omega) (by omega) (by omega)
 have q1:=Znn (K:=2^33) ha (Nat.le_trans (Nat.le_of_lt ((Me 32 _).1 a1)) (by decide))
 have q2:=Znn (K:=2^33) hb (Nat.le_trans (Nat.le_of_lt ((Me 32 _).1 b1)) (by decide))
 obtain⟨k1,k2⟩:=rat34
 exact⟨⟨Q,_,hh,by grind⟩,by rw [s5];exact Rat.le_refl,by rw [t5];exact Rat.le_refl,q1.1,q2.2,by rw [s5];exact pa,by rw [t5];exact pb,by rw [s5,t5];exact ng⟩
structure Fnd (xs:List Int) (s t:Rat) (m:R2):Prop where
 ng:rev xs (qv m)<0
 lo:s≤qv m
 hi:qv m≤t
 b1:bl m.1.natAbs≤3000
 b2:bl m.2.natAbs≤3000
 lw:Lw m
theorem NIn.round{xs:List Int}{lo hi:Rat}{j:Nat}{a b:R2}(hd:Cvd xs)(h0:xs≠[])(h:NIn xs lo hi j a b) :
  Zfn a b∧(bl (Mp a b).1.natAbs≤3000∧bl (Mp a b).2.natAbs≤3000∧0<(Mp a b).2)∧(bl a.1.natAbs≤3000∧bl a.2.natAbs≤3000∧0<a.2)∧(bl b.1.natAbs≤3000∧bl b.2.natAbs≤3000∧0<b.2)∧
  (vlu (Pw xs) (Mp a b)<0→Fnd xs lo hi (Mp a b))∧(¬vlu (Pw xs) (Mp a b)<0→ngb (Pw xs) (chx xs) a (Mp a b)=true→NIn xs lo hi (j+1) a (Mp a b))∧
  (¬vlu (Pw xs) (Mp a b)<0→ngb (Pw xs) (chx xs) a (Mp a b)=false→NIn xs lo hi (j+1) (Mp a b) b):=by
 have hj:=h.j hd h0
 obtain⟨Q,W,h1,h2⟩:=h.ex
 obtain⟨m1,m2,m3,m4,m5,m6,m7⟩:=h1.mid (B:=3000) (by omega) (by omega)
 have hle:=h1.le
 have l1:=h.lo
 have l2:=h.hi
 have hv:=Zgx (xs:=xs) m2.2.2
 have hns:¬vlu (Pw xs) (Mp a b)<0→0≤rev xs (qv (Mp a b)):=fun hn=>by
  rw [hv]at hn
  rcases Po (rev xs (qv (Mp a b)))with⟨h5,h6⟩ | ⟨h5,h6⟩ | ⟨h5,h6⟩
  ·exact Rat.le_of_lt h5
  ·rw [h6]at hn;exact absurd (by decide) hn
  ·rw [h5];exact Rat.le_refl
 have hsem:=Zev hd m4.2.2 m2.2.2 (show qv a≤qv (Mp a b) by grind)
 refine⟨m1,m2,m4,m5,fun hn=>?_,fun hn hb=>?_,fun hn hb=>?_⟩
 ·have:rev xs (qv (Mp a b))<0:=by
   rw [hv]at hn
   rcases Po (rev xs (qv (Mp a b)))with⟨h5,h6⟩ | ⟨h5,h6⟩ | ⟨h5,h6⟩
   ·rw [h6]at hn;exact absurd hn (by decide)
   ·exact h5
   ·rw [h6]at hn;exact absurd hn (by decide)
  exact⟨this,by grind,by grind,m2.1,m2.2.1,lw_mid m1 m4.2.2 m5.2.2⟩
 ·exact⟨⟨Q,W,m6,h2⟩,l1,by grind,h.l0,h.h0,h.pa,hns hn,hsem.1 hb⟩
 ·refine⟨⟨Q,W,m7,h2⟩,by grind,l2,h.l0,h.h0,hns hn,h.pb,?_⟩
  obtain⟨x,x1,x2,x3⟩:=h.ng
  rcases(show x≤qv (Mp a b)∨qv (Mp a b)≤x by grind)with q | q
  ·have:=hsem.2 ⟨x,x1,q,x3⟩;rw [hb]at this;exact absurd this (by decide)
  ·exact⟨x,q,x2,x3⟩
def frs(xs:List Int):Nat→R2→R2→R2×R2
 | 0,a,b=>(a,b)
 | n+1,a,b=>if ngb (Pw xs) (chx xs) a (Mp a b)then frs xs n a (Mp a b)else frs xs n (Mp a b) b
structure E32 (a:R2):Prop where
 p:0<a.2
 b1:bl a.1.natAbs≤32
 b2:bl a.2.natAbs≤32
theorem E32.slow{a:R2}(h:E32 a):E32 (slow a)∧qv (Go.Sky.slow a)=qv a∧Lw (Go.Sky.slow a)∧¬It a.1 a.2:=by
 obtain⟨s1,s2,s3,s4,s5⟩:=Zaj (n:=32) h.p h.b1 h.b2 (by omega)
 exact⟨⟨s2,s3,s4⟩,s5,Zlv h.p s1,s1⟩
theorem Zgw{xs:List Int}{m:R2}(hm:0<m.2):vlu (Pw xs) m<0↔rev xs (qv m)<0:=by
 rw [Zgx hm]
 rcases Po (rev xs (qv m))with⟨h5,h6⟩ | ⟨h5,h6⟩ | ⟨h5,h6⟩
 ·rw [h6];constructor
  ·intro h;exact absurd h (by decide)
  ·intro h;grind
 ·rw [h6];exact⟨fun _=>h5,fun _=>by decide⟩
 ·rw [h6,h5];constructor
  ·intro h;exact absurd h (by decide)
  ·intro h;grind
theorem end_l{xs:List Int}{a b:R2}(ha:E32 a)(hle:qv a≤qv b)(h:vlu (Pw xs) (slow a)<0):Fnd xs (qv a) (qv b) (slow a):=by
 obtain⟨s1,s2,s3,s4⟩:=ha.slow
 have h9:=(Zgw s1.p).1 h
 exact⟨h9,by rw [s2];exact Rat.le_refl,by rw [s2];exact hle,Nat.le_trans s1.b1 (by decide),Nat.le_trans s1.b2 (by decide),s3⟩
theorem end_r{xs:List Int}{a b:R2}(hb:E32 b)(hle:qv a≤qv b)(h:vlu (Pw xs) (slow b)<0):Fnd xs (qv a) (qv b) (slow b):=by
 obtain⟨s1,s2,s3,s4⟩:=hb.slow
 have h9:=(Zgw s1.p).1 h
 exact⟨h9,by rw [s2];exact hle,by rw [s2];exact Rat.le_refl,Nat.le_trans s1.b1 (by decide),Nat.le_trans s1.b2 (by decide),s3⟩
theorem Zsj{xs:List Int}{a b:R2}(hd:Cvd xs)(ha:E32 a)(hb:E32 b)(hle:qv a≤qv b)(h1:¬vlu (Pw xs) (slow a)<0)(h2:¬vlu (Pw xs) (slow b)<0)(hn:ngb (Pw xs) (chx xs) a b=true) :
  NIn xs (qv a) (qv b) 0 (slow a) (slow b):=by
 obtain⟨s1,s2,s3,s4⟩:=ha.slow
 obtain⟨t1,t2,t3,t4⟩:=hb.slow
 have k1:¬rev xs (qv (slow a))<0:=fun e=>h1 ((Zgw s1.p).2 e)
 have k2:¬rev xs (qv (slow b))<0:=fun e=>h2 ((Zgw t1.p).2 e)
 rw [s2]at k1
 rw [t2]at k2
 exact NIn.start ha.p hb.p ha.b1 ha.b2 hb.b1 hb.b2 hle (by grind) (by grind) ((Zev hd ha.p hb.p hle).1 hn)
theorem ngb_ne{xs:List Int}{a b:R2}(h:ngb (Pw xs) (chx xs) a b=true):xs≠[]:=fun e=>by
 subst e
 unfold ngb at h
 split at h
 ·exact absurd h (by show ¬decide ((0:Int)<0)=true;decide)
 ·exact absurd h (by show ¬(decide ((0:Int)<0) || false)=true;decide)
theorem E32.efit{a:R2}(h:E32 a):efit a=true:=by
 have:=h.b1
 have:=h.b2
 unfold Go.Sky.efit;exact decide_eq_true (by omega)
theorem Zoc{xs:List Int}{n:Nat}{a b:R2} : frs xs (n+1) a b=if ngb (Pw xs) (chx xs) a (Mp a b)then frs xs n a (Mp a b)else frs xs n (Mp a b) b:=rfl
structure FIn (xs:List Int) (j:Nat) (a b:R2):Prop where
 ex:∃Q W,Hv 34 Q j W a b
 bj:j≤200
theorem FIn.start{xs:List Int}{a b:R2}(ha:E32 a)(hb:E32 b)(hle:qv a≤qv b):FIn xs 0 (slow a) (slow b):=by
 obtain⟨Q,hh⟩:=Hv.start (n:=34) ha.p hb.p (Nat.le_trans ha.b1 (by decide)) (Nat.le_trans ha.b2 (by decide)) (Nat.le_trans hb.b1 (by decide)) (Nat.le_trans hb.b2 (by decide)) (by omega) hle
 exact⟨⟨Q,_,hh⟩,by omega⟩
theorem FIn.round{xs:List Int}{j:Nat}{a b:R2}(h:FIn xs j a b) :
  Zfn a b∧(bl (Mp a b).1.natAbs≤3000∧bl (Mp a b).2.natAbs≤3000∧0<(Mp a b).2)∧(bl a.1.natAbs≤3000∧bl a.2.natAbs≤3000∧0<a.2)∧(bl b.1.natAbs≤3000∧bl b.2.natAbs≤3000∧0<b.2)∧
  (j<200→FIn xs (j+1) a (Mp a b)∧FIn xs (j+1) (Mp a b) b):=by
 obtain⟨Q,W,h1⟩:=h.ex
 have hj:=h.bj
 obtain⟨m1,m2,m3,m4,m5,m6,m7⟩:=h1.mid (B:=3000) (by omega) (by omega)
 exact⟨m1,m2,m4,m5,fun hj2=>⟨⟨⟨Q,W,m6⟩,by omega⟩,⟨⟨Q,W,m7⟩,by omega⟩⟩⟩
theorem neg_two{xs:List Int}{a b:R2}(ha:E32 a)(hb:E32 b)(hle:qv a≤qv b){i:Nat}(hi:i<2)(h:vlu (Pw xs) ([slow a,slow b].getD i (0,0))<0):Fnd xs (qv a) (qv b) ([slow a,slow b].getD i (0,0)):=by
 rcases(show i=0∨i=1 by omega)with e | e
 ·subst e;exact end_l ha hle h
 ·subst e;exact end_r hb hle h
theorem e32_two{a b:R2}(ha:E32 a)(hb:E32 b)(i:Nat)(hi:i<2):E32 ([slow a,slow b].getD i (0,0)):=by
 rcases(show i=0∨i=1 by omega)with e | e
 ·subst e;exact ha.slow.1
 ·subst e;exact hb.slow.1
theorem Zue{a b:R2}(ha:E32 a)(hb:E32 b)(h:¬0<cmp a b):qv a≤qv b:=(Zmh ha.p hb.p).1 (by omega)
end Go.Sky

