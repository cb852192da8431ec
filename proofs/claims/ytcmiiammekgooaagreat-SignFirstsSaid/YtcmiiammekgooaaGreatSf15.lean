/- rules, arithmetic and contracts: part 16
   Proved without conditions of its own: each theorem bears its own. -/
import Derived.Test.YtcmiiammekgooaaGreatSf03
import Derived.Test.YtcmiiammekgooaaGreatSf02
import Derived.Test.YtcmiiammekgooaaGreatSf01
import Derived.Test.YtcmiiammekgooaaGreatSf12
import Derived.Test.YtcmiiammekgooaaGreatSf14
import Derived.Test.YtcmiiammekgooaaGreatSf11
import Derived.Test.YtcmiiammekgooaaGreatSf13
set_option linter.all false
namespace Go.Sky
open Go.Proofs.Tryz
open Go.Proofs
set_option maxRecDepth 20000
set_option maxHeartbeats 4000000
set_option linter.unusedSimpArgs false
theorem Zlr(v:Value)(m:Nat)(xs:List Int)(hv:Vp xs)(hm:m≤1000:=by omega):Mc prog 50 #[v,.int .i64 (m:Int)] [slp 2 wv v xs] (.bool (decide (Zc2 xs m))):=by
 refine Yc func50 J ntmps50 J K1 ?_
 intro w0 sc hw hsc
 simp only [Zq,Zp]
 have hlen:=hv.len
 have hmz:=Ob hv.sz
 have q1:(xs.length+2)*(xs.length+2)≤27*27:=Nat.mul_le_mul (by omega) (by omega)
 have q2:(xs.length+2)*(xs.length+2)*(msz xs+m+2*(xs.length-1)+32)≤27*27*70000:=Nat.mul_le_mul q1 (by omega)
 have q3:((xs.length:Int)-1+3)*((xs.length:Int)-1+3)=(((xs.length+2)*(xs.length+2):Nat):Int):=by rw [show(xs.length:Int)-1+3=((xs.length+2:Nat):Int) by omega];push_cast;rfl
 have q4:xs.length≠0→((xs.length:Int)-1+3)*((xs.length:Int)-1+3)*((msz xs:Int)+(m:Int)+2*((xs.length:Int)-1)+32)=(((xs.length+2)*(xs.length+2)*(msz xs+m+2*(xs.length-1)+32):Nat):Int):=fun h=>by rw [q3,show(msz xs:Int)+(m:Int)+2*((xs.length:Int)-1)+32=((msz xs+m+2*(xs.length-1)+32:Nat):Int) by omega];push_cast;rfl
 refine Zd<|Zg<|as_ J<|Zf<|Za<|Zd<|Zg<|mv J<|tt (Zh (n:=1) (Ze3 _ _ hv) J J J K1 call105 (Zc 1 J J J Ze) J hw) fun _ _=>mv J<|dt (Yh J J J)<|dt (Yh J J J)<|as_ J<|as_ J<|Zf<|Za<|Zd<|Zg<|mv J<|tt (Zh (n:=1) (Zka _ _ hv) J J J K1 call106 (Zc 1 J J J Ze) J hw) fun _ _=>mv J<|dt (Yh J J J)<|dt (Yh J J J)<|as_ J<|as_ J<|Zf<|Za<|Zd<|Zg<|mv J<|dt (Yd J J (i:=1) J Zi Qx)<|dt (Pg J J J)<|mv J<|Qm (d:=22) J (fun s24=>?_) (fun s24=>?_)
 ·exact gsk J J J<|gsk J J J<|gsk J J J<|gsk J J J<|gsk J J J<|gsk J J J<|gsk J J J<|gsk J J J<|gsk J J J<|gsk J J J<|gsk J J J<|gsk J J J<|gsk J J J<|gsk J J J<|dt (Ys J J J)<|as_ J<|Zf<|Za<|Zu<|xU hsc results50 J J (by first | exact sgf_t (by omega) | exact sgf_i (by omega) (q4 (by omega)))
 ·exact gdt (Yo J J) J J<|gdt (Yx J J J ⟨by omega,by omega⟩) J J<|gdt (Yo J J) J J<|gdt (Yx J J J ⟨by omega,by omega⟩) J J<|gdt (Dx J J J (by rw [q3];exact⟨by omega,by omega⟩)) J J<|gdt (Yo J J) J J<|gdt (Yo J J) J J<|gdt (Yx J J J ⟨by omega,by omega⟩) J J<|gdt (Yo J J) J J<|gdt (Dx J J J ⟨by omega,by omega⟩) J J<|gdt (Yx J J J ⟨by omega,by omega⟩) J J<|gdt (Yx J J J ⟨by omega,by omega⟩) J J<|gdt (Dx J J J (by rw [q4 (by omega)];exact⟨by omega,by omega⟩)) J J<|gdt (Cf J J J) J J<|dt (Zz J J J)<|as_ J<|Zf<|Za<|Zu<|xU hsc results50 J J (by first | exact sgf_t (by omega) | exact sgf_i (by omega) (q4 (by omega)))
theorem Znt(v:Value)(xs:List Int)(hv:Vp xs):Mc prog 14 #[v] [slp 2 wv v xs] (.bool (decide (Zc2 xs 0))):=by
 refine Yc func14 J ntmps14 J K1 ?_
 intro w0 sc hw hsc
 simp only [Zq,Zp]
 exact Zd<|Zg<|as_ J<|Zf<|Za<|Zd<|Zg<|mv J<|tt (Zh (n:=1) (Xy _ _ ‹_›) J J J K1 Zfq (Zc 1 J J J Ze) J hw) fun _ _=>mv J<|gdt (Yo J J) J J<|gtt (Zh (n:=1) (Zlr _ 0 xs hv) J J J K2 call50 (Zc 1 J J J Ze) J hw) J J J fun _ _=>dt (Ys J J J)<|as_ J<|Zf<|Za<|Zu<|xU hsc results14 J J J
theorem Ky(x y:Int)(hx:bl x.natAbs≤65536:=by omega)(hy:bl y.natAbs≤65536:=by omega):Mc prog 95 #[rX x y] [] (.bool (efit (x,y))):=by
 refine Yc func95 J ntmps95 J trivial ?_
 intro w0 sc hw hsc
 simp only [Zq,Zp]
 refine Zd<|Zg<|tt (Yu (i:=1) J J J J J hw) fun bx _=>as_ J<|Zf<|Za<|Zd<|Qi (fun _=>False) [(0,0),(1,0),(3,0),(4,0),(2,1),(5,1),(6,0),(7,0),(8,3)] ?_ ?_
 ·kernel_rfl
 exact r0' J J (st0 (Xs J J Cd J Yq J J))<|r0' J J (st0 (Zy (i:=1) J J J Qq Yq J J))<|r0' J J (st0 (Xs J J Cd J Yq J J))<|r0' J J (st0 (Zy (i:=1) J J J Qq Yq J J))<|r1' J (Zh (n:=1) (Zhe _ hx) J J J K1 call145 Ze J hw) fun _ _=>r1' J (Zh (n:=1) (Zhe _ hy) J J J K1 call145 Ze J hw) fun _ _=>r0' J J (st0 (Zur J J J))<|r0' J J (st0 (Cf J J J))<|r3' J (Py (Mf J J) J) fun _ _=>Of<|Za<|Zu<|xU hsc results95 J J (by unfold efit;exact congrArg Value.bool (decide_eq_decide.2 (by dsimp only;omega)))
theorem Gh(x y x2 y2:Int)(hp:0<y)(hp2:0<y2)(hx:bl x.natAbs≤65536:=by omega)(hy:bl y.natAbs≤65536:=by omega)(hx2:bl x2.natAbs≤65536:=by omega)(hy2:bl y2.natAbs≤65536:=by omega):Mc prog 96 #[rX x y,rX x2 y2] [] (.int .i64 (cmp (x,y) (x2,y2))):=by
 refine Yc func96 J ntmps96 J trivial ?_
 intro w0 sc hw hsc
 simp only [Zq,Zp]
 exact Zd<|Zg<|tt (Yu (i:=1) J J J J J hw) fun bx _=>tt (Yu (i:=2) J J J J J hw) fun bx_2 _=>as_ J<|Zf<|Za<|Zd<|Zg<|dt (Yp (i:=1) J J J Qp Xk J J J J)<|dt (Yp (i:=2) J J J Qp Xk J J J J)<|tt (Zh (n:=2) (Zb4 _ _ _ _ hx hy hx2 hy2 hp hp2) J J J K2 call146 Ze J hw) fun _ _=>mv J<|dt (Yh J J J)<|dt (Yh J J J)<|as_ J<|as_ J<|Zf<|Za<|Zd<|Zg<|mv J<|as_ J<|Zf<|Za<|Zu<|xU hsc results96 J J J
theorem Zws(bs:Nat)(v:Value)(xs:List Int)(x y:Int)(hx:bl x.natAbs≤65536)(hy:bl y.natAbs≤65536)(hp:0<y)(hv:Vp xs)(hE:¬Kq xs x y):Mc prog 120 #[.pointer (some ⟨bs,0,none⟩),v,rX x y] [Zgm bs 102 #[.int .i64 0],slp 2 wv v xs] (.int .i64 (fat x y xs)):=by
 refine Yc func120 J ntmps120 J K2 ?_
 intro w0 sc hw hsc
 simp only [Zq,Zp]
 exact Zd<|Zg<|tt (Yu (i:=3) J J J J J hw) fun bx _=>as_ J<|Zf<|Za<|Zd<|Zg<|mv J<|dt (Yp (i:=3) J J J Qp Xk J J J J)<|tt (Zh (n:=3) (Zl2 _ _ _ _ hv hx hy hp) J J J K2 call164 (Zc 2 J J J Ze) J hw) fun _ _=>mv J<|dt (Yh J J J)<|dt (Ya (r':= .int .i64 0) (Yh J J J) (congrArg (Value.int .i64) (if_neg hE)))<|as_ J<|as_ J<|Zf<|Za<|Zd<|Zd<|Zg<|mv J<|dt (Zf7 J J)<|dt (Xs J J Ig J Gw J J)<|dt (Zyn (i:=1) J J J Zag J)<|dt (Ya (r':= .bool true) (Pg J J J) (congrArg Value.bool (by decide)))<|Zf<|Za<|Pf J<|Zg<|mv J<|mv J<|dt (Zf7 J J)<|dt (Xs J J Ig J Gw J J)<|tt (Zpy (i:=1) J J J J J J Gw J J (by simp [Value.oneCell']) J) fun _ _=>Zf<|Za<|Zd<|Zg<|mv J<|as_ J<|Zf<|Za<|Zu<|xU hsc results120 J J (by unfold fat;rw [show evv xs x y=pev xs x y from if_neg hE]<;>rfl)
theorem Zav(v1 v2:Value)(bs:Nat)(ls cs:List (SL×List Int))(x y:Int)(hp:0<y)(hlsv:∀z∈ls,Vp z.2)(hlsE:∀z∈ls,¬Kq z.2 x y)(hx:bl x.natAbs≤65536:=by omega)(hy:bl y.natAbs≤65536:=by omega):Mc prog 62 #[.agg #[v1,v2],.pointer (some ⟨bs,0,none⟩),rX x y] [Zad 1 Br qZ v1 ls,Zad 1 Br qZ v2 cs,Zgm bs 102 #[.int .i64 0]] (.int .i64 (vlu (ls.map Prod.snd) (x,y))):=by
 refine Yc func62 J ntmps62 J K3 ?_
 intro w0 sc hw hsc
 simp only [Zq,Zp]
 refine Md (Ge (i:=1) J Yb) fun hlen=>Zd<|Zg<|tt (Yu (i:=4) J J J J J hw) fun bx _=>tt (Yu (i:=5) J J J J J hw) fun bx_2 _=>as_ J<|Zf<|Za<|Zd<|Zd<|Zg<|dt (Xs J J Zv4 J Zqz J J)<|dt (Oj (i:=4) J J J isAgg96 J)<|dt (Yd J J (i:=1) J Yb Zlf)<|dt (Pg J J J)<|Zf<|Za<|Zs J (fun h160=>?_) (fun h160=>?_)
 ·exact Zd<|Zg<|as_ J<|Zf<|Za<|Zu<|Xa<|xU hsc results62 J J (by unfold vlu;rw [List.length_map,if_pos (by omega)]<;>rfl)
 ·refine Zj<|Za<|Zd<|Qi (fun _=>False) [(0,0),(1,0),(2,0),(3,0),(4,0),(5,0),(6,1),(7,3)] ?_ ?_
  ·kernel_rfl
  exact r0' J J (st0 (Yo J J))<|r0' J J (st0 (Xs J J Zv4 J Zqz J J))<|r0' J J (st0 (Oj (i:=4) J J J isAgg96 J))<|r0' J J (st0 (Xb (ii:=1) (i:=0) J J J J Yb Zlf sizeOf23 J))<|r0' J J (st0 (Xv (ii:=1) Z0 J J J Yb pS))<|r0' J J (st0 (Yp (i:=5) J J J Qp Xk J J J J))<|r1' J (Zh (n:=5) (Zws _ (svv (ls.getD 0 Z0).1) (ls.getD 0 Z0).2 _ _ hx hy hp (hlsv (ls.getD 0 Z0) (Yz)) (hlsE (ls.getD 0 Z0) (Yz))) J J J K3 call120 (Zc 3 J J J (pre_dZ 1 J J (Yz (i:=0) (zs:=ls) (d:=Z0)) Ze)) J hw) fun _ _=>r3' J (Py (Mf J J) J) fun _ _=>Of<|Za<|Zu<|xU hsc results62 J J (by unfold vlu;rw [List.length_map,if_neg (by omega),Zer _ (by omega)]<;>rfl)
theorem Znv(v1 v2:Value)(bs:Nat)(ls cs:List (SL×List Int))(x y:Int)(hx:bl x.natAbs≤65536)(hy:bl y.natAbs≤65536)(hp:0<y)(hlsv:∀z∈ls,Vp z.2)(hlsE:∀z∈ls,¬Kq z.2 x y):Mc prog 99 #[.agg #[v1,v2],.pointer (some ⟨bs,0,none⟩),rX x y] [Zad 1 Br qZ v1 ls,Zad 1 Br qZ v2 cs,Zgm bs 102 #[.int .i64 0]] (.int .i64 (aft (ls.map Prod.snd) (x,y))):=by
 refine Yc func99 J ntmps99 J K3 ?_
 intro w0 sc hw hsc
 simp only [Zq,Zp]
 refine Md (Ge (i:=1) J Yb) (fun hlen=>?_)
 have hLl:=Zg0 ls (fat x y)
 have hLg:=fun i (h:i<ls.length)=>Zns ls (fat x y) h
 refine Zd<|Zg<|tt (Yu (i:=4) J J J J J hw) fun bx _=>tt (Yu (i:=5) J J J J J hw) fun bx_2 _=>as_ J<|Zf<|Za<|Zd<|Zd<|Zg<|dt (Xs J J Zv4 J Zqz J J)<|dt (Oj (i:=4) J J J isAgg96 J)<|dt (Yd J J (i:=1) J Yb Zlf)<|mv J<|Zf<|Za<|Zo<|Nt [(1,_),(5,_),(11,_),(12,_)] [(0,_),(1,_),(2,_),(3,_),(4,_),(5,_)] (fun(i:Nat)=>[(13,.int .i64 (i:Int))]) (fun(i:Nat)=>[]) (fun(i:Nat)=>(i≤ls.length)∧(∀k,k<i→(sgx ls (fat x y)).getD k 0=0)) (fun(i:Nat)=>ls.length-i) 0 ⟨by first | omega | (dsimp only<;>omega),fun k hk=>absurd hk (Nat.not_lt_zero k)⟩ K5 K6 ?_
 rintro i ⟨hi,hz⟩
 simp only [CA,NA]
 refine Zd<|Zg<|dt (Xr J J J)<|Zf<|Za<|Zd<|Zs J (fun h168=>?_) (fun h168=>?_)
 ·refine Zj<|Za<|Zd<|Zo<|Zd<|Zg<|dt (Xb (ii:=1) J J J J Yb Zlf sizeOf23 J (by first | omega | (simp only [List.length_set];omega)))<|dt (Xv (ii:=1) Z0 J J J Yb pS (by first | omega | (simp only [List.length_set];omega)))<|as_ J<|Zf<|Za<|Zd<|Yr (Zgj 1 91 (ls.getD i Z0) J J (Yz) J)<|Zg<|mv J<|mv J<|dt (Yp (i:=5) J J J Qp Xk J J J J)<|tt (Zh (n:=5) (Zws _ (svv (ls.getD i Z0).1) (ls.getD i Z0).2 _ _ hx hy hp (hlsv (ls.getD i Z0) (Yz)) (hlsE (ls.getD i Z0) (Yz))) J J J K3 call120 (Zc 3 J J J (Zc 91 J J J Ze)) J hw) fun _ _=>as_ J<|Zf<|Za<|Zd<|Zg<|mv J<|dt (Qc J J J)<|Zf<|Za<|Zs J (fun h169=>?_) (fun h169=>?_)
  ·exact Zd<|Zg<|mv J<|as_ J<|Zf<|Za<|Zu<|Ix<|Xa<|Xa<|Ix<|Xa<|xU hsc results99 J J (by rw [Zvn,Zow ‹_› (by omega) hz (hLg i (by omega))]<;>rfl)
  ·exact Zj<|Oe<|Za<|Zg<|dt (Yx J J J ⟨by omega,by omega⟩)<|mv J<|Zf<|Xn (i+1) ⟨by first | omega | (dsimp only<;>omega),fun k hk2=>by rcases Nat.lt_succ_iff_lt_or_eq.1 hk2 with h9 | h9;exact hz k h9;subst h9;rw [hLg _ (by omega)];exact Decidable.byContradiction ‹_›⟩ (by first | omega | (dsimp only<;>omega)) K5 K6
 ·exact Yv<|Zv<|Zv<|Ox<|Za<|Zd<|Zg<|as_ J<|Zf<|Za<|Zu<|xU hsc results99 J J (by rw [Zvn,Zkp (fun k hk=>hz k (by omega))]<;>rfl)
theorem Zgh(v1 v2:Value)(bs:Nat)(ls cs:List (SL×List Int))(x y:Int)(hx:bl x.natAbs≤65536)(hy:bl y.natAbs≤65536)(hp:0<y)(hcsv:∀z∈cs,Vp z.2)(hcsE:∀z∈cs,¬Kq z.2 x y):Mc prog 148 #[.agg #[v1,v2],.pointer (some ⟨bs,0,none⟩),rX x y] [Zad 1 Br qZ v1 ls,Zad 1 Br qZ v2 cs,Zgm bs 102 #[.int .i64 0]] (.int .i64 (chv (cs.map Prod.snd) (x,y))):=by
 refine Yc func148 J ntmps148 J K3 ?_
 intro w0 sc hw hsc
 simp only [Zq,Zp]
 refine Md (Ge (i:=2) J Yb) (fun hlen=>?_)
 have hLl:=Zg0 cs (fat x y)
 have hLg:=fun i (h:i<cs.length)=>Zns cs (fat x y) h
 refine Zd<|Zg<|tt (Yu (i:=4) J J J J J hw) fun bx _=>tt (Yu (i:=5) J J J J J hw) fun bx_2 _=>as_ J<|Zf<|Za<|Zd<|Zg<|as_ J<|as_ J<|Zf<|Za<|Zd<|Zd<|Zg<|dt (Xs J J Zv4 J Zqz J J)<|dt (Oj (i:=4) J J J isAgg96 J)<|dt (Yd J J (i:=2) J Yb Zlf)<|mv J<|Zf<|Za<|Zo<|Nt [(1,_),(5,_),(13,_),(14,_)] [(0,_),(1,_),(2,_),(3,_),(4,_),(5,_)] (fun(q:Nat×Int×Int)=>[(15,.int .i64 (q.1:Int)),(7,.int .i64 q.2.1),(8,.int .i64 q.2.2)]) (fun(q:Nat×Int×Int)=>[]) (fun(q:Nat×Int×Int)=>(q.1≤cs.length)∧((q.2.1,q.2.2)=((sgx cs (fat x y)).take q.1).foldl Ie (0,0))∧(0≤q.2.1)∧(q.2.1≤(q.1:Int))∧(-1≤q.2.2∧q.2.2≤1)) (fun(q:Nat×Int×Int)=>cs.length-q.1) (0,0,0) ⟨by first | omega | (dsimp only<;>omega),by simp,by first | omega | (dsimp only<;>omega),by first | omega | (dsimp only<;>omega),by first | omega | (dsimp only<;>omega)⟩ K7 K6 ?_
 rintro⟨i,n,l⟩ ⟨hi,hc,hn0,hn1,hl⟩
 dsimp only at hi hc hn0 hn1 hl
 simp only [CA,NA]
 have hfr:=fat_r x y (cs.getD i Z0).2
 refine Zd<|Zg<|dt (Xr J J J)<|Zf<|Za<|Zd<|Zs J (fun h179=>?_) (fun h179=>?_)
 ·refine Zj<|Za<|Zd<|Zo<|Zd<|Zg<|dt (Xb (ii:=2) J J J J Yb Zlf sizeOf23 J (by first | omega | (simp only [List.length_set];omega)))<|dt (Xv (ii:=2) Z0 J J J Yb pS (by first | omega | (simp only [List.length_set];omega)))<|as_ J<|Zf<|Za<|Zd<|Yr (Zgj 2 91 (cs.getD i Z0) J J (Yz) J)<|Zg<|mv J<|mv J<|dt (Yp (i:=5) J J J Qp Xk J J J J)<|tt (Zh (n:=5) (Zws _ (svv (cs.getD i Z0).1) (cs.getD i Z0).2 _ _ hx hy hp (hcsv (cs.getD i Z0) (Yz)) (hcsE (cs.getD i Z0) (Yz))) J J J K3 call120 (Zc 3 J J J (Zc 91 J J J Ze)) J hw) fun _ _=>as_ J<|Zf<|Za<|Zd<|Zd<|Zg<|mv J<|mv J<|dt (Dx J J J (sgm_i hfr hl))<|dt (Xr J J J)<|Zf<|Za<|Zs J (fun h181=>?_) (fun h181=>?_)
  ·refine Zg<|mv J<|dt (Yx J J J ⟨by omega,by omega⟩)<|as_ J<|Zf<|Za<|Zd<|Zg<|mv J<|dt (Qc J J J)<|Zf<|Za<|Zs J (fun h184=>?_) (fun h184=>?_)
   ·exact Zg<|mv J<|as_ J<|Zf<|Oe<|Za<|Zg<|dt (Yx J J J ⟨by omega,by omega⟩)<|mv J<|Zf<|Xn (i+1,_,_) ⟨by first | omega | (dsimp only<;>omega),by first | exact Zyu (by omega) hc (hLg i (by omega)) (Decidable.byContradiction ‹_›) | exact Zyt (by omega) hc (hLg i (by omega)) ‹_› (Zwo hfr (by omega) ‹_›) | exact Zys (by omega) hc (hLg i (by omega)) ‹_› (Zwn hfr (by omega) ‹_› ‹_›) | exact absurd ‹_› (Zwp (Decidable.byContradiction ‹_›)),by first | exact hn0 | (dsimp only;omega),by dsimp only;omega,by first | exact hl | exact hfr⟩ (by first | omega | (dsimp only<;>omega)) K7 K6
   ·exact Zj<|Oe<|Za<|Zg<|dt (Yx J J J ⟨by omega,by omega⟩)<|mv J<|Zf<|Xn (i+1,_,_) ⟨by first | omega | (dsimp only<;>omega),by first | exact Zyu (by omega) hc (hLg i (by omega)) (Decidable.byContradiction ‹_›) | exact Zyt (by omega) hc (hLg i (by omega)) ‹_› (Zwo hfr (by omega) ‹_›) | exact Zys (by omega) hc (hLg i (by omega)) ‹_› (Zwn hfr (by omega) ‹_› ‹_›) | exact absurd ‹_› (Zwp (Decidable.byContradiction ‹_›)),by first | exact hn0 | (dsimp only;omega),by dsimp only;omega,by first | exact hl | exact hfr⟩ (by first | omega | (dsimp only<;>omega)) K7 K6
  ·refine Zj<|Za<|Zd<|Zg<|mv J<|dt (Qc J J J)<|Zf<|Za<|Zs J (fun h184_2=>?_) (fun h184_2=>?_)
   ·exact Zg<|mv J<|as_ J<|Zf<|Oe<|Za<|Zg<|dt (Yx J J J ⟨by omega,by omega⟩)<|mv J<|Zf<|Xn (i+1,_,_) ⟨by first | omega | (dsimp only<;>omega),by first | exact Zyu (by omega) hc (hLg i (by omega)) (Decidable.byContradiction ‹_›) | exact Zyt (by omega) hc (hLg i (by omega)) ‹_› (Zwo hfr (by omega) ‹_›) | exact Zys (by omega) hc (hLg i (by omega)) ‹_› (Zwn hfr (by omega) ‹_› ‹_›) | exact absurd ‹_› (Zwp (Decidable.byContradiction ‹_›)),by first | exact hn0 | (dsimp only;omega),by dsimp only;omega,by first | exact hl | exact hfr⟩ (by first | omega | (dsimp only<;>omega)) K7 K6
   ·exact Zj<|Oe<|Za<|Zg<|dt (Yx J J J ⟨by omega,by omega⟩)<|mv J<|Zf<|Xn (i+1,_,_) ⟨by first | omega | (dsimp only<;>omega),by first | exact Zyu (by omega) hc (hLg i (by omega)) (Decidable.byContradiction ‹_›) | exact Zyt (by omega) hc (hLg i (by omega)) ‹_› (Zwo hfr (by omega) ‹_›) | exact Zys (by omega) hc (hLg i (by omega)) ‹_› (Zwn hfr (by omega) ‹_› ‹_›) | exact absurd ‹_› (Zwp (Decidable.byContradiction ‹_›)),by first | exact hn0 | (dsimp only;omega),by dsimp only;omega,by first | exact hl | exact hfr⟩ (by first | omega | (dsimp only<;>omega)) K7 K6
 ·exact Yv<|Zv<|Zv<|Ox<|Za<|Zd<|Zg<|mv J<|as_ J<|Zf<|Za<|Zu<|xU hsc results148 J J (by rw [chv_sgx,chg_end (by omega) hc]<;>rfl)
theorem Zgg(v1 v2:Value)(bs:Nat)(ls cs:List (SL×List Int))(x y x2 y2:Int)(hx:bl x.natAbs≤65536)(hy:bl y.natAbs≤65536)(hx2:bl x2.natAbs≤65536)(hy2:bl y2.natAbs≤65536)(hp:0<y)(hp2:0<y2)(hcsv:∀z∈cs,Vp z.2)(hcsE:∀z∈cs,¬Kq z.2 x y)(hcsF:∀z∈cs,¬Kq z.2 x2 y2)(hlc:cs.length≤1000):Mc prog 100 #[.agg #[v1,v2],.pointer (some ⟨bs,0,none⟩),rX x y,rX x2 y2] [Zad 1 Br qZ v1 ls,Zad 1 Br qZ v2 cs,Zgm bs 102 #[.int .i64 0]] (.bool (crb (cs.map Prod.snd) (x,y) (x2,y2))):=by
 refine Yc func100 J ntmps100 J K3 ?_
 intro w0 sc hw hsc
 simp only [Zq,Zp]
 refine Md (Ge (i:=2) J Yb) (fun hlen=>?_)
 have hr1:=Zyr (cs.map Prod.snd) (x,y)
 have hr2:=Zyr (cs.map Prod.snd) (x2,y2)
 rw [List.length_map]at hr1 hr2
 refine Zd<|Zg<|tt (Yu (i:=4) J J J J J hw) fun bx _=>tt (Yu (i:=5) J J J J J hw) fun bx_2 _=>tt (Yu (i:=6) J J J J J hw) fun bx_3 _=>as_ J<|Zf<|Za<|Zd<|Zd<|Zg<|dt (Xs J J Zv4 J Zqz J J)<|dt (Oj (i:=4) J J J isAgg96 J)<|dt (Yd J J (i:=2) J Yb Zlf)<|dt (Pg J J J)<|Zf<|Za<|Zs J (fun h193=>?_) (fun h193=>?_)
 ·exact Zd<|Zg<|as_ J<|Zf<|Za<|Zu<|Xa<|xU hsc results100 J J (by unfold crb;rw [List.length_map,if_pos (by omega)]<;>rfl)
 ·refine Zj<|Za<|Zd<|Qi (fun _=>False) [(0,0),(1,0),(2,0),(4,0),(5,0),(6,0),(3,1),(7,1),(8,0),(9,3)] ?_ ?_
  ·kernel_rfl
  refine r0' J J (st0 (Zy (i:=4) J J J Zdk Bb J J))<|r0' J J (st0 (Yo J J))<|r0' J J (st0 (Yp (i:=5) J J J Qp Xk J J J J))<|r0' J J (st0 (Zy (i:=4) J J J Zdk Bb J J))<|r0' J J (st0 (Yo J J))<|r0' J J (st0 (Yp (i:=6) J J J Qp Xk J J J J))<|r1' J (Zh (n:=6) (Zgh _ _ _ _ _ _ _ hx hy hp hcsv hcsE) J J J K3 call148 (Zc 1 J J J (Zc 2 J J J (Zc 3 J J J Ze))) J hw) fun _ _=>r1' J (Zh (n:=6) (Zgh _ _ _ _ _ _ _ hx2 hy2 hp2 hcsv hcsF) J J J K3 call148 (Zc 1 J J J (Zc 2 J J J (Zc 3 J J J Ze))) J hw) fun _ _=>r0' J J (st0 (Qd J J J ⟨by omega,by omega⟩))<|r3' J (Py (Mf J J) J) fun _ _=>Of<|Za<|Zd<|Zd<|Qi (fun _=>False) [(0,0),(1,0),(2,0),(3,0),(4,0),(5,0),(6,1),(7,0)] ?_ ?_
  ·kernel_rfl
  refine r0' J J (st0 (Yo J J))<|r0' J J (st0 (Xs J J Zv4 J Zqz J J))<|r0' J J (st0 (Oj (i:=4) J J J isAgg96 J))<|r0' J J (st0 (Xb (ii:=2) (i:=0) J J J J Yb Zlf sizeOf23 J))<|r0' J J (st0 (Xv (ii:=2) Z0 J J J Yb pS))<|r0' J J (st0 (Yp (i:=6) J J J Qp Xk J J J J))<|r1' J (Zh (n:=6) (Zws _ (svv (cs.getD 0 Z0).1) (cs.getD 0 Z0).2 _ _ hx2 hy2 hp2 (hcsv (cs.getD 0 Z0) (Yz)) (hcsF (cs.getD 0 Z0) (Yz))) J J J K3 call120 (Zc 3 J J J (pre_dZ 2 J J (Yz (i:=0) (zs:=cs) (d:=Z0)) Ze)) J hw) fun _ _=>r0' J J (st0 (Pg J J J))<|Of<|Za<|Zs J (fun h197=>?_) (fun h197=>?_)
  ·exact Zg<|mv J<|dt (Qd J J J ⟨by omega,by omega⟩)<|as_ J<|Zf<|Za<|Zd<|Zg<|mv J<|dt (Pm J J J)<|as_ J<|Zf<|Za<|Zu<|xU hsc results100 J J (by first | exact crb_t (by omega) ‹_› | exact crb_f (by omega) ‹_›)
  ·exact Zj<|Za<|Zd<|Zg<|mv J<|dt (Pm J J J)<|as_ J<|Zf<|Za<|Zu<|xU hsc results100 J J (by first | exact crb_t (by omega) ‹_› | exact crb_f (by omega) ‹_›)
theorem Kd(v1 v2:Value)(bs:Nat)(ls cs:List (SL×List Int))(x y x2 y2:Int)(hp:0<y)(hp2:0<y2)(hlsv:∀z∈ls,Vp z.2)(hlsE:∀z∈ls,¬Kq z.2 x y)(hcsv:∀z∈cs,Vp z.2)(hcsE:∀z∈cs,¬Kq z.2 x y)(hcsF:∀z∈cs,¬Kq z.2 x2 y2)(hlc:cs.length≤1000)(hx:bl x.natAbs≤65536:=by omega)(hy:bl y.natAbs≤65536:=by omega)(hx2:bl x2.natAbs≤65536:=by omega)(hy2:bl y2.natAbs≤65536:=by omega):Mc prog 61 #[.agg #[v1,v2],.pointer (some ⟨bs,0,none⟩),rX x y,rX x2 y2] [Zad 1 Br qZ v1 ls,Zad 1 Br qZ v2 cs,Zgm bs 102 #[.int .i64 0]] (.bool (ngb (ls.map Prod.snd) (cs.map Prod.snd) (x,y) (x2,y2))):=by
 refine Yc func61 J ntmps61 J K3 ?_
 intro w0 sc hw hsc
 simp only [Zq,Zp]
 refine Zd<|Zg<|tt (Yu (i:=4) J J J J J hw) fun bx _=>tt (Yu (i:=5) J J J J J hw) fun bx_2 _=>tt (Yu (i:=6) J J J J J hw) fun bx_3 _=>as_ J<|Zf<|Za<|Zd<|Zd<|Zg<|dt (Yp (i:=5) J J J Qp Xk J J J J)<|dt (Yp (i:=6) J J J Qp Xk J J J J)<|tt (Zh (n:=6) (Gh _ _ _ _ hp hp2 hx hy hx2 hy2) J J J K2 call96 Ze J hw) fun _ _=>dt (Pg J J J)<|Zf<|Za<|Zs J (fun h205=>?_) (fun h205=>?_)
 ·exact Zd<|Zg<|dt (Zy (i:=4) J J J Zdk Bb J J)<|mv J<|dt (Yp (i:=5) J J J Qp Xk J J J J)<|tt (Zh (n:=6) (Zav _ _ _ _ _ _ _ hp hlsv hlsE hx hy) J J J K3 call62 (Zc 1 J J J (Zc 2 J J J (Zc 3 J J J Ze))) J hw) fun _ _=>dt (Xr J J J)<|as_ J<|Zf<|Za<|Zu<|Xa<|xU hsc results61 J J (by unfold ngb;rw [if_pos ‹_›])
 ·refine Zj<|Za<|Zd<|Zg<|dt (Zy (i:=4) J J J Zdk Bb J J)<|mv J<|dt (Yp (i:=5) J J J Qp Xk J J J J)<|tt (Zh (n:=6) (Znv _ _ _ _ _ _ _ hx hy hp hlsv hlsE) J J J K3 call99 (Zc 1 J J J (Zc 2 J J J (Zc 3 J J J Ze))) J hw) fun _ _=>dt (Xr J J J)<|mv J<|Qm (d:=23) J (fun s208=>?_) (fun s208=>?_)
  ·exact gsk J J J<|gsk J J J<|gsk J J J<|gsk J J J<|gsk J J J<|dt (Ys J J J)<|as_ J<|Zf<|Za<|Zu<|xU hsc results61 J J (by first | exact ngb_t ‹_› ‹_› | exact ngb_f ‹_› ‹_›)
  ·exact gdt (Zy (i:=4) J J J Zdk Bb J J) J J<|gdt (Yo J J) J J<|gdt (Yp (i:=5) J J J Qp Xk J J J J) J J<|gdt (Yp (i:=6) J J J Qp Xk J J J J) J J<|gtt (Zh (n:=6) (Zgg _ _ _ _ _ _ _ _ _ hx hy hx2 hy2 hp hp2 hcsv hcsE hcsF hlc) J J J K4 call100 (Zc 1 J J J (Zc 2 J J J (Zc 3 J J J Ze))) J hw) J J J fun _ _=>dt (Zz J J J)<|as_ J<|Zf<|Za<|Zu<|xU hsc results61 J J (by first | exact ngb_t ‹_› ‹_› | exact ngb_f ‹_› ‹_›)
theorem Zjs(bs:Nat)(x y x2 y2:Int)(hp:0<y)(hp2:0<y2)(hm:Zdi (x,y) (x2,y2))(hx:bl x.natAbs≤65536:=by omega)(hy:bl y.natAbs≤65536:=by omega)(hx2:bl x2.natAbs≤65536:=by omega)(hy2:bl y2.natAbs≤65536:=by omega):Mc prog 94 #[.pointer (some ⟨bs,0,none⟩),rX x y,rX x2 y2] [Zgm bs 102 #[.int .i64 0]] (.agg #[.bool (decide ((Ny (x,y) (x2,y2)).1<0)),.string (Qo (Ny (x,y) (x2,y2)).1.natAbs),.bool (decide ((Ny (x,y) (x2,y2)).2<0)),.string (Qo (Ny (x,y) (x2,y2)).2.natAbs)]):=by
 refine Yc func94 J ntmps94 J K1 ?_
 intro w0 sc hw hsc
 simp only [Zq,Zp]
 have hq:¬Ha (x*y2+x2*y) (y*y2):=hm.1
 obtain⟨hn1,hn2,hn3⟩:=Af hq
 obtain⟨hb1,hb2⟩:=nr_bl hq
 have hdp:=Zoj hq (Int.mul_pos hp hp2)
 have hm2:=Ztc hm
 refine Zd<|Zg<|tt (Yu (i:=2) J J J J J hw) fun bx _=>tt (Yu (i:=3) J J J J J hw) fun bx_2 _=>tt (Zn (i:=4) J J zeroValue41 J J hw) fun bx_3 _=>Zf<|Za<|Zd<|Zg<|dt (Yp (i:=2) J J J Qp Xk J J J J)<|dt (Yp (i:=3) J J J Qp Xk J J J J)<|tt (Zh (n:=4) (Zhf _ _ _ _ hx hy hx2 hy2 hp hp2) J J J K2 call143 Ze J hw) fun _ _=>mv J<|dt (Yh J J J)<|dt (Ya (r':= .int .i64 0) (Yh J J J) (congrArg (Value.int .i64) hn3))<|tt (Zn (i:=5) J J zeroValue41 J J hw) fun bx_4 _=>tt (Zm (i:=5) J J J J J (by decide) J Xk J J ⟨Zb J,Zb J,Zb J,Zb J,trivial⟩ J hw trivial) fun _ _=>as_ J<|Zf<|Za<|Zd<|Zd<|Zg<|mv J<|dt (Zf7 J J)<|dt (Xs J J Ig J Gw J J)<|dt (Zyn (i:=1) J J J Zag J)<|dt (Ya (r':= .bool true) (Pg J J J) (congrArg Value.bool (by decide)))<|Zf<|Za<|Pf J<|Zg<|mv J<|mv J<|dt (Zf7 J J)<|dt (Xs J J Ig J Gw J J)<|tt (Zpy (i:=1) J J J J J J Gw J J (by simp [Value.oneCell']) J) fun _ _=>Zf<|Za<|Zd<|Oi [5] [10]<|Zx (n:=10) [(0,0)]<|r0' J J (stf (Yp (i:=5) J J J Qp Xk J J J J) K1)<|Yk<|Pb (n:=9) 1 8 ?_ ?_
 ·refine Yj J (Zh (n:=5) (Xf _ ⟨by decide,by decide⟩) J J J K1 Bt Ze J hw) fun _ _=>Pb (n:=8) 2 8 ?_ ?_
  ·refine Yj J (Zh (n:=5) (Xf _ ⟨by decide,by decide⟩) J J J K1 Bt Ze J hw) fun _ _=>Zx (n:=7) [(3,0)]<|r0' J J (stf (Pv (ivs:=[(0,_),(1,_)]) J K4 (fun a w hs=>Zdd)) K1)<|Yk<|Pb (n:=6) 4 8 ?_ ?_
   ·refine Yj J (Zh (n:=5) (Ga _ _ 1 2 hb1 hb2 (by decide +kernel) (by decide +kernel) hdp) J J J K2 call144 Ze J hw) fun _ _=>Zx (n:=0) [(5,0),(6,0),(7,0),(8,1),(9,1),(10,3)]<|r0' J J (stf (Yo J J) K1)<|r0' J J (stf (Yh J J J) K1)<|r0' J J (stf (Ya (r':= .int .i64 0) (Yh J J J) (congrArg (Value.int .i64) hm2)) K1)<|r1' J (Zr (i:=6) J J zeroValue41 J J hw K1) fun bx_5 ho=>r1' J (Zm (i:=6) J J J J J (by decide) J Xk J J ⟨Zb J,Zb J,Zb J,Zb J,trivial⟩ J hw ho) fun _ _=>r3' J (Py (Mf J J) J) fun _ _=>Yk<|Yf<|Za<|Zd<|Zd<|Zg<|mv J<|dt (Zf7 J J)<|dt (Xs J J Ig J Gw J J)<|dt (Zyn (i:=1) J J J Zag J)<|dt (Ya (r':= .bool true) (Pg J J J) (congrArg Value.bool (by decide)))<|Zf<|Za<|Pf J<|Zg<|mv J<|mv J<|dt (Zf7 J J)<|dt (Xs J J Ig J Gw J J)<|tt (Zpy (i:=1) J J J J J J Gw J J (by simp [Value.oneCell']) J) fun _ _=>Zf<|Za<|Zd<|Zg<|dt (Yp (i:=6) J J J Qp Xk J J J J)<|tt (Zm (i:=4) J J J J J (by decide) J Xk J J ⟨Zb J,Zb J,Zb J,Zb J,trivial⟩ J hw trivial) fun _ _=>Zf<|Za<|Zu ?_
    exact Ym (.inl J) hsc () _ (fun a w hs=>Ni hs results94 (Yn (i:=4) J J Qp Xk J)) J trivial J Zk
   ·refine Yj J (Zr (i:=7) J J zeroValue41 J J hw K1) fun bx_6 ho2=>Zx (n:=0) [(4,1),(5,0),(6,0),(7,0),(9,1),(10,3)]<|r1' J (Zh (n:=7) (Ga _ _ 1 2 hb1 hb2 (by decide +kernel) (by decide +kernel) hdp) J J J K2 call144 Ze J hw) fun _ _=>r0' J J (stf (Yo J J) K1)<|r0' J J (stf (Yh J J J) K1)<|r0' J J (stf (Ya (r':= .int .i64 0) (Yh J J J) (congrArg (Value.int .i64) hm2)) K1)<|r1' J (Zm (i:=7) J J J J J (by decide) J Xk J J ⟨Zb J,Zb J,Zb J,Zb J,trivial⟩ J hw ho2) fun _ _=>r3' J (Py (Mf J J) J) fun _ _=>Yk<|Yf<|Za<|Zd<|Zd<|Zg<|mv J<|dt (Zf7 J J)<|dt (Xs J J Ig J Gw J J)<|dt (Zyn (i:=1) J J J Zag J)<|dt (Ya (r':= .bool true) (Pg J J J) (congrArg Value.bool (by decide)))<|Zf<|Za<|Pf J<|Zg<|mv J<|mv J<|dt (Zf7 J J)<|dt (Xs J J Ig J Gw J J)<|tt (Zpy (i:=1) J J J J J J Gw J J (by simp [Value.oneCell']) J) fun _ _=>Zf<|Za<|Zd<|Zg<|dt (Yp (i:=7) J J J Qp Xk J J J J)<|tt (Zm (i:=4) J J J J J (by decide) J Xk J J ⟨Zb J,Zb J,Zb J,Zb J,trivial⟩ J hw trivial) fun _ _=>Zf<|Za<|Zu ?_
    exact Ym (.inl J) hsc () _ (fun a w hs=>Ni hs results94 (Yn (i:=4) J J Qp Xk J)) J trivial J Zk
  ·refine Yj J (Zr (i:=8) J J zeroValue41 J J hw K1) fun bx_7 ho3=>Zx (n:=0) [(2,1),(3,0),(4,1),(5,0),(6,0),(7,0),(9,1),(10,3)]<|r1' J (Zh (n:=8) (Xf _ ⟨by decide,by decide⟩) J J J K1 Bt Ze J hw) fun _ _=>r0' J J (stf (Pv (ivs:=[(0,_),(1,_)]) J K4 (fun a w hs=>Zdd)) K1)<|r1' J (Zh (n:=8) (Ga _ _ 1 2 hb1 hb2 (by decide +kernel) (by decide +kernel) hdp) J J J K2 call144 Ze J hw) fun _ _=>r0' J J (stf (Yo J J) K1)<|r0' J J (stf (Yh J J J) K1)<|r0' J J (stf (Ya (r':= .int .i64 0) (Yh J J J) (congrArg (Value.int .i64) hm2)) K1)<|r1' J (Zm (i:=8) J J J J J (by decide) J Xk J J ⟨Zb J,Zb J,Zb J,Zb J,trivial⟩ J hw ho3) fun _ _=>r3' J (Py (Mf J J) J) fun _ _=>Yk<|Yf<|Za<|Zd<|Zd<|Zg<|mv J<|dt (Zf7 J J)<|dt (Xs J J Ig J Gw J J)<|dt (Zyn (i:=1) J J J Zag J)<|dt (Ya (r':= .bool true) (Pg J J J) (congrArg Value.bool (by decide)))<|Zf<|Za<|Pf J<|Zg<|mv J<|mv J<|dt (Zf7 J J)<|dt (Xs J J Ig J Gw J J)<|tt (Zpy (i:=1) J J J J J J Gw J J (by simp [Value.oneCell']) J) fun _ _=>Zf<|Za<|Zd<|Zg<|dt (Yp (i:=8) J J J Qp Xk J J J J) ?_
   exact tt (Zm (i:=4) J J J J J (by decide) J Xk J J ⟨Zb J,Zb J,Zb J,Zb J,trivial⟩ J hw trivial) fun _ _=>Zf<|Za<|Zu<|Ym (.inl J) hsc () _ (fun a w hs=>Ni hs results94 (Yn (i:=4) J J Qp Xk J)) J trivial J Zk
 ·refine Yj J (Zr (i:=9) J J zeroValue41 J J hw K1) fun bx_8 ho4=>Zx (n:=0) [(1,1),(2,1),(3,0),(4,1),(5,0),(6,0),(7,0),(9,1),(10,3)]<|r1' J (Zh (n:=9) (Xf _ ⟨by decide,by decide⟩) J J J K1 Bt Ze J hw) fun _ _=>r1' J (Zh (n:=9) (Xf _ ⟨by decide,by decide⟩) J J J K1 Bt Ze J hw) fun _ _=>r0' J J (stf (Pv (ivs:=[(0,_),(1,_)]) J K4 (fun a w hs=>Zdd)) K1)<|r1' J (Zh (n:=9) (Ga _ _ 1 2 hb1 hb2 (by decide +kernel) (by decide +kernel) hdp) J J J K2 call144 Ze J hw) fun _ _=>r0' J J (stf (Yo J J) K1)<|r0' J J (stf (Yh J J J) K1)<|r0' J J (stf (Ya (r':= .int .i64 0) (Yh J J J) (congrArg (Value.int .i64) hm2)) K1)<|r1' J (Zm (i:=9) J J J J J (by decide) J Xk J J ⟨Zb J,Zb J,Zb J,Zb J,trivial⟩ J hw ho4) fun _ _=>r3' J (Py (Mf J J) J) fun _ _=>Yk<|Yf<|Za<|Zd<|Zd<|Zg<|mv J<|dt (Zf7 J J)<|dt (Xs J J Ig J Gw J J)<|dt (Zyn (i:=1) J J J Zag J)<|dt (Ya (r':= .bool true) (Pg J J J) (congrArg Value.bool (by decide)))<|Zf<|Za<|Pf J<|Zg<|mv J<|mv J<|dt (Zf7 J J)<|dt (Xs J J Ig J Gw J J) ?_
  exact tt (Zpy (i:=1) J J J J J J Gw J J (by simp [Value.oneCell']) J) fun _ _=>Zf<|Za<|Zd<|Zg<|dt (Yp (i:=9) J J J Qp Xk J J J J)<|tt (Zm (i:=4) J J J J J (by decide) J Xk J J ⟨Zb J,Zb J,Zb J,Zb J,trivial⟩ J hw trivial) fun _ _=>Zf<|Za<|Zu<|Ym (.inl J) hsc () _ (fun a w hs=>Ni hs results94 (Yn (i:=4) J J Qp Xk J)) J trivial J Zk
structure Cvd (xs:List Int):Prop where
 v:Vp xs
 s:Sz 70 xs
 l:xs.length≤7
theorem Zfh{xs r:List Int}(h:Cvd xs)(h0:xs≠[])(hr:Dp xs r):Sz 200 r∧r.length≤7:=by
 obtain⟨s1,s2⟩:=hr.sz h.v.tr h0 h.s (by have:=h.l;omega)
 exact⟨s1,by have:=h.l;omega⟩
theorem Zcg{xs r:List Int}(h:Cvd xs)(h0:xs≠[])(hr:Dp xs r) :
  Vp r∧r≠[]∧(∀i,bl (cf r (i+1)*((i:Int)+1)).natAbs≤65536)∧Vp (Pk r)∧¬Zqj r (Pk r)∧eok 13 (gA r (Pk r)) (gB r (Pk r))∧Ib 13 r (Pk r)=gcf 13 r∧Vp (gcf 13 r)∧
  Zd5 r (gcf 13 r)=0∧pdv r (gcf 13 r)∧Ku r (gcf 13 r)=sqf 13 r∧Vp (sqf 13 r)∧Sz 330 (sqf 13 r)∧(sqf 13 r).length≤7∧Dp xs (gcf 13 r)∧sqf 13 r≠[]∧((sqf 13 r).length≠1→(gcf 13 r).length<r.length)∧Zbl 13 r:=by
 obtain⟨s1,s2⟩:=Zfh h h0 hr
 have hv:Vp r:=⟨s1.mono (by omega),hr.1,by omega⟩
 have hok:=hr.ok h.v.tr h0 h.s (by omega) (by have:=h.l;omega) (show xs.length≤13+1 by have:=h.l;omega)
 obtain⟨⟨q1,q2,q3,q4,q5⟩,-,-⟩:=hok.1
 have hn:=hr.2.2.1
 have hs9:=(chF 13 hr.1 hr.2.1 s1 (by omega) (by omega) (by omega)).2.1
 have hl9:=(chF 13 hr.1 hr.2.1 s1 (by omega) (by omega) (by omega)).2.2.1
 have hvs:=Zjg hv hr.2.1 hok.1.1
 have hg:gcf 13 r=Ib 13 r (Pk r):=by unfold gcf;rw [hn]
 have hd:=hr.next hok.2
 have hvg:Vp (gcf 13 r):=by obtain⟨t1,t2⟩:=Zfh h h0 hd;exact⟨t1.mono (by omega),hd.1,by omega⟩
 have hsq:sqf 13 r=Ku r (gcf 13 r):=by unfold sqf gcf;rw [hn]
 obtain⟨f1,f2,f3,f4,f5,f6⟩:=Nh (F:=13) hr.1 hr.2.1 hok.2
 have hq1:∀i,bl (cf r (i+1)*((i:Int)+1)).natAbs≤65536:=fun i=>by
  by_cases hi:i<r.length
  ·have:=q1 i hi;rwa [hn]at this
  ·rw [Qh (by omega)];simp [Lm]
 rw [hn]at q2 q3 q4 q5
 rw [←hg]at q4 q5
 refine⟨hv,hr.2.1,hq1,Zef hv (fun i _=>hq1 i),q2,q3,hg.symm,hvg,q4,q5,hsq.symm,hvs,hs9,by omega,hd,f3,fun hne=>?_,hok.2⟩
 refine Zko hr.1 hr.2.1 hok.2 ?_
 have:=Pu hr.1 hr.2.1 hok.2
 have l1:=List.length_pos_iff.2 f3
 have l2:=List.length_pos_iff.2 this.2.1
 omega
def Hu(xs:List Int):List Int:=Zxn 13 xs.length [1] (nrm xs)
structure OddI (xs:List Int) (t:Nat) (rest out before:List Int):Prop where
 ex:∃f q,Dp xs q∧q.length≤f∧Zxn 13 f out q=Hu xs∧Tr out∧Op xs out q∧((t%2=1∧rest=q)∨(t%2=0∧rest=gcf 13 q∧before=sqf 13 q∧(sqf 13 q).length≠1))
theorem OddI.start{xs b:List Int}(h:Cvd xs)(h0:xs≠[]):OddI xs 1 (nrm xs) [1] b:=
 ⟨xs.length,nrm xs,Dp.start h.v.tr h0,by rw [Px h.v.tr];exact Nat.le_refl _,rfl,.inr (by decide),Op.start h.v.tr,.inl ⟨rfl,rfl⟩⟩
theorem OddI.dp{xs:List Int}{t:Nat}{rest out before:List Int}(h:Cvd xs)(h0:xs≠[])(hI:OddI xs t rest out before):Dp xs rest:=by
 obtain⟨f,q,h1,h2,h3,h4,h5,h6 | ⟨-,rfl,-⟩⟩:=hI.ex
 ·rw [h6.2];exact h1
 ·exact(Zcg h h0 h1).2.2.2.2.2.2.2.2.2.2.2.2.2.2.1
theorem OddI.out{xs:List Int}{t:Nat}{rest out before:List Int}(h:Cvd xs)(h0:xs≠[])(hI:OddI xs t rest out before):Vp out∧Sz 200 out∧out.length≤7:=by
 obtain⟨f,q,h1,h2,h3,h4,h5,-⟩:=hI.ex
 obtain⟨s1,s2,s3⟩:=h5.sz h.v.tr h0 h.s (by have:=h.l;omega) h4 h1.1
 have:=h.l
 exact⟨⟨s1.mono (by omega),h4,by omega⟩,s1,by omega⟩
theorem OddI.odd_end{xs:List Int}{t:Nat}{rest out before:List Int}(h:Cvd xs)(h0:xs≠[])(hI:OddI xs t rest out before)(ht:t%2=1)(hl:(sqf 13 rest).length=1):out=Hu xs:=by
 obtain⟨f,q,h1,h2,h3,h4,h5,⟨-,rfl⟩ | ⟨h7,-⟩⟩:=hI.ex
 ·cases f with
  | zero=>exact absurd (List.length_pos_iff.2 h1.2.1) (by omega)
  | succ f=>unfold Zxn at h3;rw [if_pos hl]at h3;exact h3
 ·omega
theorem OddI.odd_next{xs:List Int}{t:Nat}{rest out before:List Int}(hI:OddI xs t rest out before)(ht:t%2=1)(hl:(sqf 13 rest).length≠1):OddI xs (t+1) (gcf 13 rest) out (sqf 13 rest):=by
 obtain⟨f,q,h1,h2,h3,h4,h5,⟨-,rfl⟩ | ⟨h7,-⟩⟩:=hI.ex
 ·exact⟨f,rest,h1,h2,h3,h4,h5,.inr ⟨by omega,rfl,rfl,hl⟩⟩
 ·omega
theorem OddI.even{xs:List Int}{t:Nat}{rest out before:List Int}(h:Cvd xs)(h0:xs≠[])(hI:OddI xs t rest out before)(ht:t%2=0) :
  Vp before∧Zd5 before (sqf 13 rest)=0∧pdv before (sqf 13 rest)∧Vp (Ku before (sqf 13 rest))∧¬Zfb out (Ku before (sqf 13 rest))∧
  ((sqf 13 rest).length=1→Mg out (Ku before (sqf 13 rest))=Hu xs)∧((sqf 13 rest).length≠1→OddI xs (t+1) (gcf 13 rest) (Mg out (Ku before (sqf 13 rest))) (sqf 13 rest))∧Vp (Mg out (Ku before (sqf 13 rest))):=by
 obtain⟨f,q,h1,h2,h3,h4,h5,⟨h7,-⟩ | ⟨-,rfl,rfl,hq⟩⟩:=hI.ex
 ·omega
 obtain⟨a1,a2,a3,a4,a5,a6,a7,a8,a9,a10,a11,a12,a13,a14,a15,a16,a17,a18⟩:=Zcg h h0 h1
 obtain⟨b1,b2,b3,b4,b5,b6,b7,b8,b9,b10,b11,b12,b13,b14,b15,b16,b17,b18⟩:=Zcg h h0 a15
 obtain⟨c1,c2,c3,c4⟩:=Gq h1.1 h1.2.1 a18 b18
 have hO:=h5.next h1.1 h1.2.1 h1.2.2.1 a18 b18
 have ho:=h.l
 obtain⟨s1,s2,s3⟩:=hO.sz h.v.tr h0 h.s (by omega) (Pr _ _) b15.1
 obtain⟨o1,o2,o3⟩:=h5.sz h.v.tr h0 h.s (by omega) h4 h1.1
 have hol:(Bx 13 q).length≤7:=by
  have e:=congrArg List.length c2
  rw [Ok c3 b12.tr c4 b16]at e
  have:=List.length_pos_iff.2 b16
  omega
 have hos:Sz 335 (Bx 13 q):=by
  obtain⟨a,ha,e⟩:=hO
  have e2:nrm xs=Mg (Mg (Mg a (gcf 13 (gcf 13 q))) out) (Bx 13 q):=e.trans ((Pr _ _).ext (Pr _ _) fun i=>Mj (fun x=>by simp only [Xd];grind) i)
  exact(Zt1 h.v.tr h0 h.s (by omega) (Pr _ _) c3 e2).1.mono (by omega)
 have hd:Zd5 (sqf 13 q) (sqf 13 (gcf 13 q))=0:=by
  have m1:=Ob a13
  have m2:=Ob b13
  have l1:=List.length_pos_iff.2 b16
  unfold Zd5
  rw [if_neg (by omega)]
  split
  ·rfl
  ·have:((sqf 13 q).length-(sqf 13 (gcf 13 q)).length+1)*(msz (sqf 13 (gcf 13 q))+1)≤8*331:=Nat.mul_le_mul (by omega) (by omega)
   rw [if_neg (by omega)]
 have hvo:Vp (Bx 13 q):=⟨hos.mono (by omega),c3,by omega⟩
 have hm:¬Zfb out (Bx 13 q):=fun hF=>by
  have m1:=Ob o1
  have m2:=Ob hos
  rcases hF.2.2 with w | w<;>omega
 refine⟨a12,hd,c1,hvo,hm,fun hl=>?_,fun hl=>?_,⟨s1.mono (by omega),Pr _ _,Nat.le_trans s2 (by omega)⟩⟩
 ·cases f with
  | zero=>exact absurd (List.length_pos_iff.2 h1.2.1) (by omega)
  | succ f=>unfold Zxn at h3;rw [if_neg hq,if_pos hl]at h3;exact h3
 ·cases f with
  | zero=>exact absurd (List.length_pos_iff.2 h1.2.1) (by omega)
  | succ f=>
   unfold Zxn at h3;rw [if_neg hq,if_neg hl]at h3
   have l1:=a17 hq
   have l2:=b17 hl
   exact⟨f,gcf 13 (gcf 13 q),b15,by omega,h3,Pr _ _,hO,.inl ⟨by omega,rfl⟩⟩
theorem Zsx{xs:List Int}(h:Cvd xs)(h0:xs≠[]):Hu xs=Zdh 13 xs.length (nrm xs):=by
 have hD:=Dp.start h.v.tr h0
 have hl:=h.l
 have hok:=(hD.ok h.v.tr h0 h.s (by omega) (by omega) (show xs.length≤13+1 by omega)).2
 unfold Hu
 rw [Zsy h.v.tr h0 h.s (by omega) (by omega) (by omega) xs.length [1] (nrm xs) (.inr (show cf [1] 0≠0 by decide)) hD (by rw [Px h.v.tr];exact Nat.le_refl _),Zsn (Zig (p:=xs) hD.1 hD.2.1 hok)]
theorem Aw{xs:List Int}(h:Cvd xs)(h0:xs≠[]):Odp 13 70 xs (Hu xs)∧Vp (Hu xs)∧Sz 200 (Hu xs)∧(Hu xs).length≤xs.length∧Zcd (Hu xs):=by
 have hD:=Dp.start h.v.tr h0
 have hl:=h.l
 have hok:=(hD.ok h.v.tr h0 h.s (by omega) (by omega) (show xs.length≤13+1 by omega)).2
 have he:=Zsx h h0
 have ht:Tr (Hu xs):=by rw [he];exact Zig (p:=xs) hD.1 hD.2.1 hok
 obtain⟨⟨B,hB⟩,-⟩:=Hc h.v.tr h0 h.s (by omega) (by omega) (show xs.length≤13+1 by omega) xs.length (nrm xs) hD (by rw [Px h.v.tr];exact Nat.le_refl _)
 rw [←he]at hB
 have e:nrm xs=Mg (Mg B B) (Hu xs):=hD.1.ext (Pr _ _) fun i=>Mj (fun x=>by rw [hB x,Xd,Xd];grind) i
 obtain⟨s1,s2,s3⟩:=Zt1 h.v.tr h0 h.s (by omega) (Pr _ _) ht e
 have hC:=(chF 13 ht s3 s1 (by omega) (by omega) (by omega)).1
 refine⟨⟨h.v.tr,h0,h.s,by omega,by omega,by omega,he,ht,s3,hC⟩,⟨s1.mono (by omega),ht,by omega⟩,s1,s2,.inr ?_⟩
 have m1:=Ob s1
 have g1:((Hu xs).length+2)*((Hu xs).length+2)≤9*9:=Nat.mul_le_mul (by omega) (by omega)
 have g2:((Hu xs).length+2)*((Hu xs).length+2)*(msz (Hu xs)+16)≤9*9*216:=Nat.mul_le_mul g1 (by omega)
 omega
def chx(xs:List Int):List (List Int):=if xs.length=0 then []else chn 13 (Hu xs)
def Pq(xs:List Int):List (List Int):=Zmx xs.length xs
theorem Zpa:∀(n k:Nat) (p:List Int),Tr p→p.length≤25→Sz k p→∀q∈Zmx n p,Tr q∧q.length≤p.length∧Sz (k+5*n) q
 | 0,_,_,_,_,_,q,hq=>absurd hq (by simp [Zmx])
 | n+1,k,p,ht,hl,hs,q,hq=>by
  unfold Zmx at hq
  by_cases h0:p.length=0
  ·rw [if_pos h0]at hq;exact absurd hq (by simp)
  ·rw [if_neg h0]at hq
   rcases List.mem_cons.1 hq with rfl | hq
   ·exact⟨ht,Nat.le_refl _,hs.mono (by omega)⟩
   ·have ld':=Om p
    obtain⟨a1,a2,a3⟩:=Zpa n (k+5) (Pk p) (Nz ht) (by omega) (Hl hs hl) q hq
    exact⟨a1,by omega,a3.mono (by omega)⟩
theorem Mb{xs:List Int}(h:Cvd xs):∀q∈Pq xs,Vp q∧msz q≤8525∧q.length≤7:=fun q hq=>by
 have hl:=h.l
 obtain⟨a1,a2,a3⟩:=Zpa xs.length 70 xs h.v.tr (by omega) h.s q hq
 have:=Ob a3
 exact⟨⟨a3.mono (by omega),a1,by omega⟩,by omega,by omega⟩
theorem Gr{xs:List Int}(h:Cvd xs):∀q∈chx xs,Vp q∧msz q≤8525∧q.length≤7:=fun q hq=>by
 have hl:=h.l
 unfold chx at hq
 by_cases h0:xs.length=0
 ·rw [if_pos h0]at hq;exact absurd hq (by simp)
 ·rw [if_neg h0]at hq
  have h0':xs≠[]:=fun e=>h0 (by rw [e];rfl)
  obtain⟨a1,a2,a3,a4,a5⟩:=Aw h h0'
  obtain⟨b1,b2,b3,b4⟩:=chF 13 a1.otr a1.one a3 (by omega) (by omega) (show(Hu xs).length≤13+1 by omega)
  exact⟨vp_chn a2 a1.one b1 q hq,(b4 q hq).1,by have:=(b4 q hq).2;omega⟩
theorem Fu(xs:List Int):(chx xs).length≤1000:=by
 unfold chx
 split
 ·exact Nat.zero_le _
 ·have:=Dq 13 (sqf 13 (Hu xs)) (Xc (Pk (sqf 13 (Hu xs))));unfold chn;omega
theorem Znp{p:List Int}{m:R2}(h1:msz p≤8525)(h2:p.length≤7)(a:bl m.1.natAbs≤3100)(b:bl m.2.natAbs≤3100):¬Kq p m.1 m.2:=fun hF=>by
 have h3:msz [m.1,m.2]≤3100:=by show max (bl m.1.natAbs) (max (bl m.2.natAbs) 0)≤3100;omega
 have h4:(p.length-1)*msz [m.1,m.2]≤6*3100:=Nat.mul_le_mul (by omega) h3
 have:=hF.2
 omega
theorem Kw{xs:List Int}(h:Cvd xs){m:R2}(a:bl m.1.natAbs≤3100)(b:bl m.2.natAbs≤3100):(∀p∈Pq xs,¬Kq p m.1 m.2)∧(∀p∈chx xs,¬Kq p m.1 m.2):=
 ⟨fun p hp=>Znp (Mb h p hp).2.1 (Mb h p hp).2.2 a b,fun p hp=>Znp (Gr h p hp).2.1 (Gr h p hp).2.2 a b⟩
theorem qv_mul{a b:R2}(ha:0<a.2)(hb:0<b.2):((a.1*b.2-b.1*a.2:Int):Rat)=(qv a-qv b)*((a.2:Rat)*(b.2:Rat)):=by
 have h1:=Hb ha
 have h2:=Hb hb
 unfold qv
 push_cast
 grind
theorem cmpq_lt{a b:R2}(ha:0<a.2)(hb:0<b.2):cmp a b<0↔qv a<qv b:=by
 have e:=qv_mul ha hb
 have hp:=Rat.mul_pos (Hb ha) (Hb hb)
 unfold cmp
 rw [Qe]
 constructor
 ·intro h
  have h1:((a.1*b.2-b.1*a.2:Int):Rat)<0:=by exact_mod_cast h
  rcases(show qv a<qv b∨qv b≤qv a by grind)with q | q
  ·exact q
  ·have:=Rat.mul_nonneg (show 0≤qv a-qv b by grind) (Rat.le_of_lt hp);grind
 ·intro h
  have:=Rat.mul_pos (show 0<qv b-qv a by grind) hp
  have h1:((a.1*b.2-b.1*a.2:Int):Rat)<0:=by grind
  exact_mod_cast h1
theorem Zm3{a b:R2}(ha:0<a.2)(hb:0<b.2):cmp a b=0↔qv a=qv b:=by
 have e:=qv_mul ha hb
 have hp:=Rat.mul_pos (Hb ha) (Hb hb)
 unfold cmp
 rw [Int.sign_eq_zero_iff_zero]
 constructor
 ·intro h
  rw [h]at e
  rcases Rat.mul_eq_zero.1 (show(qv a-qv b)*((a.2:Rat)*(b.2:Rat))=0 by rw [←e];rfl)with q | q
  ·grind
  ·rw [q]at hp;grind
 ·intro h
  have h1:((a.1*b.2-b.1*a.2:Int):Rat)=0:=by rw [e,h];grind
  exact_mod_cast h1
theorem Zcv{a b:R2}(ha:0<a.2)(hb:0<b.2):cmp a b≤0↔qv a≤qv b:=by
 have h1:=cmpq_lt ha hb
 have h2:=Zm3 ha hb
 constructor
 ·intro h
  rcases(show cmp a b<0∨cmp a b=0 by omega)with q | q
  ·exact Rat.le_of_lt (h1.1 q)
  ·have:=h2.1 q;grind
 ·intro h
  rcases(show qv a<qv b∨qv a=qv b by grind)with q | q
  ·exact Int.le_of_lt (h1.2 q)
  ·exact Int.le_of_eq (h2.2 q)
theorem fat_qv{m:R2}(hm:0<m.2)(p:List Int):fat m.1 m.2 p=rsg (rev p (qv m)):=Zcq hm p
theorem chx_crb{xs:List Int}(h:Cvd xs)(h0:xs≠[]){a b:R2}(ha:0<a.2)(hb:0<b.2):crb (chx xs) a b=true↔Cx 13 (Hu xs) (qv a) (qv b):=by
 obtain⟨a1,a2,a3,a4,a5⟩:=Aw h h0
 have hl0:xs.length≠0:=fun e=>h0 (List.eq_nil_of_length_eq_zero e)
 unfold crb Cx chx
 rw [if_neg hl0]
 have hh:∃r,chn 13 (Hu xs)=sqf 13 (Hu xs) :: r:=by
  unfold chn Mn
  split<;>exact⟨_,rfl⟩
 obtain⟨r,hr⟩:=hh
 have hv:∀m:R2,0<m.2→chv (chn 13 (Hu xs)) m=vch 13 (Hu xs) (qv m):=fun m hm=>(cvc_v (F:=13) (xs:=Hu xs) hm)
 rw [if_neg (by rw [hr];simp),hv a ha,hv b hb]
 have hg:(chn 13 (Hu xs)).getD 0 []=sqf 13 (Hu xs):=by rw [hr];rfl
 rw [hg,fat_qv hb]
 have hz:rsg (rev (sqf 13 (Hu xs)) (qv b))=0↔rev (Hu xs) (qv b)=0:=⟨fun e=>(a1.zero _).1 (Znx e),fun e=>Zr1 ((a1.zero _).2 e)⟩
 by_cases hb0:rev (Hu xs) (qv b)=0
 ·rw [if_pos hb0,if_pos (hz.2 hb0)];exact decide_eq_true_iff
 ·rw [if_neg hb0,if_neg (fun e=>hb0 (hz.1 e))];exact decide_eq_true_iff
theorem Zhi{xs:List Int}{m:R2}(hm:0<m.2):vlu (Pq xs) m=rsg (rev xs (qv m)):=by
 unfold vlu Pq
 by_cases h0:xs.length=0
 ·have:xs=[]:=List.eq_nil_of_length_eq_zero h0
  subst this;rfl
 ·obtain⟨n,hn⟩:∃n,xs.length=n+1:=⟨xs.length-1,by omega⟩
  rw [hn];unfold Zmx;rw [if_neg h0,if_neg (by simp)]
  exact fat_qv hm xs
theorem Ze9{xs:List Int}(h:Cvd xs){a b:R2}(ha:0<a.2)(hb:0<b.2)(hab:qv a≤qv b):ngb (Pq xs) (chx xs) a b=true↔NegI xs (qv a) (qv b):=by
 unfold ngb
 by_cases hc:cmp a b=0
 ·rw [if_pos hc,Zhi ha,decide_eq_true_iff]
  have e:=(Zm3 ha hb).1 hc
  constructor
  ·intro h1
   refine⟨qv a,Rat.le_refl,hab,?_⟩
   rcases Pt (rev xs (qv a))with⟨h5,h6⟩ | ⟨h5,h6⟩ | ⟨h5,h6⟩
   ·rw [h6]at h1;exact absurd h1 (by decide)
   ·exact h5
   ·rw [h6]at h1;exact absurd h1 (by decide)
  ·rintro⟨x,x1,x2,x3⟩
   have:x=qv a:=by grind
   rw [←this,Zp3 x3];decide
 ·rw [if_neg hc]
  have hlt:qv a<qv b:=by have:=fun e=>hc ((Zm3 ha hb).2 e);grind
  by_cases h0:xs=[]
  ·subst h0
   constructor
   ·intro h1;exact absurd h1 (by show ¬(decide ((0:Int)<0) || false)=true;decide)
   ·rintro⟨x,x1,x2,x3⟩;exact absurd x3 (by show ¬(0:Rat)<0;grind)
  ·obtain⟨a1,a2,a3,a4,a5⟩:=Aw h h0
   rw [←a1.sem hlt,Bool.or_eq_true,decide_eq_true_iff,chx_crb h h0 ha hb,show aft (Pq xs) a=Zb2 xs.length xs (qv a)from Zpb ha _ _ (Nat.le_refl _)]
theorem Fj{xs:List Int}(h:Cvd xs){m:Nat}(hm:m≤100):Zc2 xs m:=by
 refine .inr ?_
 have hl:=h.l
 have m1:=Ob h.s
 have g1:(xs.length+2)*(xs.length+2)≤9*9:=Nat.mul_le_mul (by omega) (by omega)
 have g2:(xs.length+2)*(xs.length+2)*(msz xs+m+2*(xs.length-1)+32)≤9*9*250:=Nat.mul_le_mul g1 (by omega)
 omega
theorem Zkx{xs:List Int}(h:xs.length=0):Pq xs=[]:=by unfold Pq;rw [h];rfl
theorem chx_nil{xs:List Int}(h:xs.length=0):chx xs=[]:=by unfold chx;rw [if_pos h]
theorem Zpi{xs:List Int}(h:xs.length≠0):chx xs=chn 13 (Hu xs):=by unfold chx;rw [if_neg h]
theorem Zky:∀(n m:Nat) (p:List Int),p.length≤n→p.length≤m→Zmx n p=Zmx m p
 | 0,m,p,h1,h2=>by
  have h0:p.length=0:=by omega
  cases m with
  | zero=>rfl
  | succ m=>unfold Zmx;rw [if_pos h0]
 | n+1,m,p,h1,h2=>by
  have ld':=Om p
  cases m with
  | zero=>unfold Zmx;rw [if_pos (by omega)]
  | succ m=>
   unfold Zmx
   by_cases h0:p.length=0
   ·rw [if_pos h0,if_pos h0]
   ·rw [if_neg h0,if_neg h0,Zky n m (Pk p) (by omega) (by omega)]
theorem Zbr{p:List Int}(h:p.length≠0):Pq p=p :: Pq (Pk p):=by
 have ld':=Om p
 unfold Pq
 obtain⟨n,hn⟩:∃n,p.length=n+1:=⟨p.length-1,by omega⟩
 rw [hn,show Zmx (n+1) p=if p.length=0 then []else p :: Zmx n (Pk p)from rfl,if_neg h,Zky n (Pk p).length (Pk p) (by omega) (Nat.le_refl _)]
abbrev RZ:=(Bool×ByteArray)×(Bool×ByteArray)
abbrev Q0:RZ:=((false,⟨#[]⟩),(false,⟨#[]⟩))
def qOK(z:RZ):Bool:=okR z.1.1 z.1.2 z.2.1 z.2.2
noncomputable def qx (z:RZ):Int:=if h:okR z.1.1 z.1.2 z.2.1 z.2.2=true then(Zsv h).choose else 0
noncomputable def qy (z:RZ):Int:=if h:okR z.1.1 z.1.2 z.2.1 z.2.2=true then(Zsv h).choose_spec.choose else 0
theorem q_ok{z:RZ}(h:qOK z=true):bl (qx z).natAbs≤65536∧bl (qy z).natAbs≤65536∧0<qy z∧z=((decide (qx z<0),Qo (qx z).natAbs),(decide (qy z<0),Qo (qy z).natAbs)):=by
 have h':okR z.1.1 z.1.2 z.2.1 z.2.2=true:=h
 unfold qx qy
 rw [dif_pos h',dif_pos h']
 obtain⟨h1,h2,h3,e1,e2,e3,e4⟩:=(Zsv h').choose_spec.choose_spec
 exact⟨h1,h2,h3,Prod.ext (Prod.ext e1 e2) (Prod.ext e3 e4)⟩
theorem Zaw(x y x2 y2:Int)(hp:0<y)(hp2:0<y2)(hx:bl x.natAbs≤65536:=by omega)(hy:bl y.natAbs≤65536:=by omega)(hx2:bl x2.natAbs≤65536:=by omega)(hy2:bl y2.natAbs≤65536:=by omega):Mc prog 60 #[rX x y,rX x2 y2] [] (.agg #[.bool (decide ((slow (x,y)).1<0)),.string (Qo (slow (x,y)).1.natAbs),.bool (decide ((slow (x,y)).2<0)),.string (Qo (slow (x,y)).2.natAbs),.bool (decide ((slow (x2,y2)).1<0)),.string (Qo (slow (x2,y2)).1.natAbs),.bool (decide ((slow (x2,y2)).2<0)),.string (Qo (slow (x2,y2)).2.natAbs)]):=by
 refine Yc func60 J ntmps60 J trivial ?_
 intro w0 sc hw hsc
 simp only [Zq,Zp]
 refine Zd<|Zg<|tt (Yu (i:=1) J J J J J hw) fun bx _=>tt (Yu (i:=2) J J J J J hw) fun bx_2 _=>tt (Zn (i:=3) J J zeroValue62 J J hw) fun bx_3 _=>Zf<|Za<|Zd<|Zg<|dt (Xs J J Cd J Yq J J)<|dt (Zy (i:=1) J J J Qq Yq J J)<|dt (Xs J J Cd J Yq J J)<|dt (Zy (i:=1) J J J Qq Yq J J)<|tt (Zh (n:=3) (Zgb _ _ hx hy) J J J K2 call119 Ze J hw) fun _ _=>mv J<|dt (Yh J J J)<|dt (Yh J J J)<|tt (Zn (i:=4) J J zeroValue41 J J hw) fun bx_4 _=>tt (Zm (i:=4) J J J J J (by decide) J Xk J J ⟨Zb J,Zb J,Zb J,Zb J,trivial⟩ J hw trivial) fun _ _=>as_ J<|Zf<|Za<|Zd<|Zg<|dt (Xs J J Cd J Yq J J)<|dt (Zy (i:=2) J J J Qq Yq J J)<|dt (Xs J J Cd J Yq J J)<|dt (Zy (i:=2) J J J Qq Yq J J)<|tt (Zh (n:=4) (Zgb _ _ hx2 hy2) J J J K2 call119 Ze J hw) fun _ _=>mv J<|dt (Yh J J J)<|dt (Yh J J J)<|tt (Zn (i:=5) J J zeroValue41 J J hw) fun bx_5 _=>tt (Zm (i:=5) J J J J J (by decide) J Xk J J ⟨Zb J,Zb J,Zb J,Zb J,trivial⟩ J hw trivial) fun _ _=>as_ J<|Zf<|Za<|Zd<|Zg<|dt (Yp (i:=4) J J J Qp Xk J J J J)<|dt (Yp (i:=5) J J J Qp Xk J J J J) ?_
 exact dt (Pv (ivs:=[(0,_),(1,_)]) J K4 (fun a w hs=>Zvj))<|tt (Zm (i:=3) J J J J J (by decide) J Km J J ⟨Zb J,Zb J,Zb J,Zb J,Zb J,Zb J,Zb J,Zb J,trivial⟩ J hw trivial) fun _ _=>Zf<|Za<|Zu<|Ym (.inl J) hsc () _ (fun a w hs=>Ni hs results60 (Yn (i:=3) J J Ce Km J)) J trivial J Zk
theorem Zlo(v:Value)(xs:List Int)(hv:Vp xs)(h0:xs≠[]):Cal prog 107 #[v] [slp 2 wv v xs] true (G:=Value) (fun r=>True) (fun r=> .tuple #[r,.int .i64 0]) (fun r=>[slp 2 wv r (nrm xs)]):=by
 refine Yc func107 J ntmps107 J K1 ?_
 intro w0 sc hw hsc
 simp only [Zq,Zp]
 have hvp:=Lx hv
 have hl0:=List.length_pos_iff.2 h0
 have hlp:=Yl xs
 have hlen:=hv.len
 refine Zd<|Zg<|as_ J<|as_ J<|Zf<|Za<|Zd<|Zg<|mv J<|tt (Zh (n:=2) (Mk _ _ hv) J J J K1 call150 (Zc 1 J J J Ze) J hw) fun _ _=>mv J<|dt (Yh J J J)<|dt (Yh J J J)<|as_ J<|as_ J<|Zf<|Za<|Zd<|Zd<|Zg<|mv J<|dt (Ya (r':= .bool true) (Pg J J J) (congrArg Value.bool (by decide)))<|mv J<|gdt (Yo J J) J J<|gdt (Yd J J (i:=2) J Zi Qx) J J<|gdt (Ya (r':= .bool true) (Pm J J J) (congrArg Value.bool (decide_eq_true (by omega)))) J J<|dt (Ys J J J)<|mv J<|gdt (Yo J J) J J<|gdt (Yo J J) J J<|gdt (Yd J J (i:=2) J Zi Qx) J J<|gdt (Qd J J J ⟨by omega,by omega⟩) J J<|gdt (Xb (ii:=2) (i:=((Xc xs).length-1)) J J J J Zi Qx Yq) J J<|gdt (Xv (ii:=2) 0 J J J Zi pV (by first | omega | (simp only [List.length_set];omega))) J J<|gtt (Zh (n:=2) (Ms _ (hvp.sz _)) J J J K1 call104 Ze J hw) J J J fun _ _=>gdt (Xr J J J) J J<|dt (Ys J J J)<|Zf<|Za<|Zs J (fun h63=>?_) (fun h63=>?_)
 ·exact Zd<|Zg<|mv J<|tt (Zh (n:=2) (Xf _ ⟨by decide,by decide⟩) J J J K1 Bt Ze J hw) fun _ _=>tt (Zh (n:=3) (Eo _ _ _ hvp (by decide +kernel) (fun i=>Zaf hvp.sz i)) J J J K2 call151 (Zc 2 J J J Ze) J hw) fun _ _=>dt (Yh J J J)<|dt (Yh J J J)<|as_ J<|as_ J<|Zf<|Za<|Zu<|Xa<|Ym (.inl J) hsc _ _ (fun a w hs=>Nl hs results107 J J) J trivial J (Yi 3 J J J (by rw [Zim (by omega) ((Qe _).1 ‹_›)]<;>rfl) Zk)
 ·exact Zj<|Za<|Zd<|Zg<|mv J<|mv J<|as_ J<|as_ J<|Zf<|Za<|Zu<|Ym (.inl J) hsc _ _ (fun a w hs=>Nl hs results107 J J) J trivial J (Yi 2 J J J (by rw [Zil (fun h=>by have h2:=(Qe _).2 h;exact absurd h2 ‹_›)]<;>rfl) Zk)
set_option maxHeartbeats 4000000 in
theorem sg_odd(v:Value)(xs:List Int)(hd:Cvd xs)(h0:xs≠[]):Cal prog 51 #[v] [slp 2 wv v xs] true (G:=Value) (fun r=>True) (fun r=> .tuple #[r,.int .i64 0]) (fun r=>[slp 2 wv r (Hu xs)]):=by
 refine Yc func51 J ntmps51 J K1 ?_
 intro w0 sc hw hsc
 simp only [Zq,Zp]
 refine Yr (Na 999 2 31 wv)<|Yr (Pd 999 J J pV)<|Zd<|Zg<|as_ J<|as_ J<|Zf<|Za<|Zd<|Zg<|mv J<|tt (Zh (n:=2) (Zlo _ _ hd.v h0) J J J K1 call107 (Zc 1 J J J Ze) J hw) fun _ _=>mv J<|dt (Yh J J J)<|dt (Yh J J J)<|as_ J<|as_ J<|Zf<|Za<|Zd<|Zd<|Zg<|mv J<|dt (Ya (r':= .bool false) (Qc J J J) (congrArg Value.bool (by decide)))<|Zf<|Za<|Ye J<|Zj<|Za<|Zd<|Zg<|tt (Po (i:=3) (ivs:=[(0,_)]) (enc:=Zah) ([1]:List Int) J J K2 Me ti3 J J J J J pZ.cells J J hw) fun v _=>Oc (Pd 3 J J pZ)<|tt (Zh (n:=4) (poly_of _ _ (fun x h=>by rw [List.mem_singleton.1 h];exact⟨by decide,by decide⟩) (by decide)) J J J K1 call108 (Zc 3 J J J Ze) J hw) fun _ _=>mv J<|dt (Yh J J J)<|dt (Yh J J J)<|as_ J<|as_ J<|Zf<|Za<|Zd<|Zg<|as_ J<|Zf<|Za<|Zd<|Zg<|as_ J<|Zf<|Za<|Zo<|Yr (Oa 2 80 J J J)<|Yr (Oa 4 81 J J J)<|Yr (Oa 999 82 J J J) ?_
 refine Nt [] [(0,_),(1,_),(999,_),(2,_),(3,_),(4,_)] (fun(q:Value×Value×Value×List Int×List Int×List Int×Nat)=>[(4,q.1),(6,q.2.1),(8,q.2.2.1),(9,.int .i64 (q.2.2.2.2.2.2:Int))]) (fun(q:Value×Value×Value×List Int×List Int×List Int×Nat)=>[(80,slp 2 wv q.1 q.2.2.2.1),(81,slp 2 wv q.2.1 q.2.2.2.2.1),(82,slp 2 wv q.2.2.1 q.2.2.2.2.2.1)]) (fun(q:Value×Value×Value×List Int×List Int×List Int×Nat)=>(OddI xs q.2.2.2.2.2.2 q.2.2.2.1 q.2.2.2.2.1 q.2.2.2.2.2.1)∧(1≤q.2.2.2.2.2.2)∧(q.2.2.2.2.2.2+q.2.2.2.1.length≤10)) (fun(q:Value×Value×Value×List Int×List Int×List Int×Nat)=>q.2.2.2.1.length) (_,_,_,nrm xs,[1],[],1) ⟨OddI.start hd h0,by first | omega | (dsimp only<;>omega),by have:=Px hd.v.tr;have:=hd.l;dsimp only;omega⟩ K4 K9 ?_
 rintro⟨vr,vo,vb,rest,out,bef,t⟩ ⟨hI,ht1,ht2⟩
 dsimp only at hI ht1 ht2
 simp only [CA,NA]
 obtain⟨a1,a2,a3,a4,a5,a6,a7,a8,a9,a10,a11,a12,a13,a14,a15,a16,a17,a18⟩:=Zcg hd h0 (hI.dp hd h0)
 obtain⟨o1,o2,o3⟩:=hI.out hd h0
 refine Zd<|Zo<|Zd<|Zg<|mv J<|tt (Zh (n:=5) (Dm _ _ a1 a3) J J J K1 call109 (Zc 80 J J J Ze) J hw) fun _ _=>mv J<|dt (Yh J J J)<|dt (Yh J J J)<|as_ J<|as_ J<|Zf<|Za<|Zd<|Zd<|Zg<|mv J<|dt (Ya (r':= .bool false) (Qc J J J) (congrArg Value.bool (by decide)))<|Zf<|Za<|Ye J<|Zj<|Za<|Zd<|Zg<|mv J<|mv J<|tt (Zh (n:=6) (Zoc _ _ _ _ a1 a4 13 a5 a6) J J J K2 call110 (Zc 80 J J J (Zc 5 J J J Ze)) J hw) fun _ _=>Oc (Gv 6 (q:=slp 2 wv _ (gcf 13 rest)) (congrArg (slp 2 wv _) a7) J J)<|mv J<|dt (Yh J J J)<|dt (Yh J J J)<|as_ J<|as_ J<|Zf<|Za<|Zd<|Zd<|Zg<|mv J<|dt (Ya (r':= .bool false) (Qc J J J) (congrArg Value.bool (by decide)))<|Zf<|Za<|Ye J<|Zj<|Za<|Zd<|Zg<|mv J<|mv J<|tt (Zh (n:=7) (Av _ _ _ _ a1 a8 a9) J J J K2 call111 (Zc 80 J J J (Zc 6 J J J Ze)) J hw) fun _ _=>Oc (Gv 7 (q:=slp 2 wv _ (sqf 13 rest)) (congrArg (slp 2 wv _) ((if_pos a10).trans a11)) J J)<|mv J<|dt (Yh J J J)<|dt (Yh J J J)<|as_ J<|as_ J<|Zf<|Za<|Zd<|Zd<|Zg<|mv J<|dt (Ya (r':= .bool false) (Qc J J J) (congrArg Value.bool (decide_eq_false (fun h=>h (if_pos a10))))) ?_
 refine Zf<|Za<|Ye J<|Zj<|Za<|Zd<|Zd<|Zg<|mv J<|dt (Zmy J J J)<|dt (Pg J J J)<|Zf<|Za<|Zs J (fun h91=>?_) (fun h91=>?_)
 ·have ht:t%2=0:=by omega
  obtain⟨e1,e2,e3,e4,e5,e6,e7,e8⟩:=hI.even hd h0 ht
  refine Zd<|Zg<|mv J<|mv J<|tt (Zh (n:=8) (Av _ _ _ _ e1 a12 e2) J J J K2 call111 (Zc 82 J J J (Zc 7 J J J Ze)) J hw) fun _ _=>Oc (Gv 8 (q:=slp 2 wv _ (Ku bef (sqf 13 rest))) (congrArg (slp 2 wv _) (if_pos e3)) J J)<|mv J<|dt (Yh J J J)<|dt (Yh J J J)<|as_ J<|as_ J<|Zf<|Za<|Zd<|Zd<|Zg<|mv J<|dt (Ya (r':= .bool false) (Qc J J J) (congrArg Value.bool (decide_eq_false (fun h=>h (if_pos e3)))))<|Zf<|Za<|Ye J<|Zj<|Za<|Zd<|Zg<|mv J<|mv J<|tt (Zh (n:=9) (Zxd _ _ _ _ o1 e4 e5) J J J K2 call112 (Zc 81 J J J (Zc 8 J J J Ze)) J hw) fun _ _=>mv J<|dt (Yh J J J)<|dt (Yh J J J)<|as_ J<|as_ J<|Zf<|Za<|Zd<|Zg<|mv J<|dt (Ya (r':= .bool false) (Qc J J J) (congrArg Value.bool (by decide)))<|Zf<|Za<|Ye J<|Zj<|Za<|Zd<|Zd<|Zg<|mv J<|dt (Yd J J (i:=7) J Zi Qx)<|dt (Pg J J J)<|Zf<|Za<|Zs J (fun h101=>?_) (fun h101=>?_)
  ·exact Zd<|Zg<|mv J<|as_ J<|as_ J<|Zf<|Za<|Zu<|Xa<|Ix<|Xa<|Xa<|Ix<|Ym (.inl J) hsc _ _ (fun a w hs=>Nl hs results51 J J) J trivial J (Yi 9 J J J (by first | (rw [hI.odd_end hd h0 (by omega) (by omega)]<;>rfl) | (rw [e6 (by omega)]<;>rfl)) Zk)
  ·exact Zj<|Za<|Zg<|mv J<|mv J<|as_ J<|as_ J<|Zf<|Oe<|Za<|Zg<|mv J<|dt (Yx J J J ⟨by omega,by omega⟩)<|as_ J<|Zf<|Qu (Oa 6 80 J J J)<|Qu (Oa 9 81 J J J)<|Qu (Oa 7 82 J J J)<|Xn (_,_,_,gcf 13 rest,_,sqf 13 rest,t+1) ⟨by first | exact hI.odd_next (by omega) (by omega) | exact e7 (by omega),by first | omega | (dsimp only<;>omega),by have:=a17 (by omega);dsimp only;omega⟩ (a17 (by omega)) K4 K9
 ·have ht:t%2=1:=by omega
  refine Zj<|Za<|Zd<|Zd<|Zg<|mv J<|dt (Yd J J (i:=7) J Zi Qx)<|dt (Pg J J J)<|Zf<|Za<|Zs J (fun h101_2=>?_) (fun h101_2=>?_)
  ·exact Zd<|Zg<|mv J<|as_ J<|as_ J<|Zf<|Za<|Zu<|Xa<|Ix<|Xa<|Xa<|Ix<|Ym (.inl J) hsc _ _ (fun a w hs=>Nl hs results51 J J) J trivial J (Yi 81 J J J (by first | (rw [hI.odd_end hd h0 (by omega) (by omega)]<;>rfl) | (rw [e6 (by omega)]<;>rfl)) Zk)
  ·exact Zj<|Za<|Zg<|mv J<|mv J<|as_ J<|as_ J<|Zf<|Oe<|Za<|Zg<|mv J<|dt (Yx J J J ⟨by omega,by omega⟩)<|as_ J<|Zf<|Qu (Oa 6 80 J J J)<|Qu (Oa 7 82 J J J)<|Xn (_,_,_,gcf 13 rest,_,sqf 13 rest,t+1) ⟨by first | exact hI.odd_next (by omega) (by omega) | exact e7 (by omega),by first | omega | (dsimp only<;>omega),by have:=a17 (by omega);dsimp only;omega⟩ (a17 (by omega)) K4 K9
theorem Zlq(v:Value)(xs:List Int)(hd:Cvd xs)(h0:xs≠[]:=by decide):Cal prog 12 #[v] [slp 2 wv v xs] true (G:=Value) (fun r=>True) (fun r=> .tuple #[r,.int .i64 0]) (fun r=>[slp 2 wv r (Hu xs)]):=by
 refine Yc func12 J ntmps12 J K1 ?_
 intro w0 sc hw hsc
 simp only [Zq,Zp]
 have hv:=hd.v
 have hl0:=List.length_pos_iff.2 h0
 exact Yr (Na 999 2 31 wv)<|Yr (Pd 999 J J pV)<|Zd<|Zg<|as_ J<|as_ J<|Zf<|Za<|Zd<|Zo<|Zd<|Zg<|mv J<|tt (Zh (n:=1) (Xy _ _ ‹_›) J J J K1 Zfq (Zc 1 J J J Ze) J hw) fun _ _=>dt (Xg J J)<|as_ J<|Zf<|Za<|Ye J<|Zd<|Zg<|mv J<|dt (Yd J J (i:=1) J Zi Qx)<|dt (Ya (r':= .bool false) (Pg J J J) (congrArg Value.bool (decide_eq_false (by omega))))<|as_ J<|Zf<|Za<|Ye J<|Zd<|Zg<|mv J<|tt (Zh (n:=1) (Zlr _ 0 xs hv) J J J K2 call50 (Zc 1 J J J Ze) J hw) fun _ _=>dt (Ya (r':= .bool false) (Zf6 J J) (congrArg Value.bool (decide_eq_false (fun h=>h (Fj hd (by omega))))))<|as_ J<|Zf<|Za<|Ye J<|Zj<|Oe<|Za<|Zd<|Zg<|mv J<|tt (Zh (n:=2) (sg_odd _ _ hd h0) J J J K1 call51 (Zc 1 J J J Ze) J hw) fun _ _=>dt (Yh J J J)<|dt (Yh J J J)<|as_ J<|as_ J<|Zf<|Za<|Zu<|Ym (.inl J) hsc _ _ (fun a w hs=>Nl hs results12 J J) J trivial J (Yy 2 J J J Zk)
set_option maxHeartbeats 4000000 in
theorem Zlp(v:Value)(xs:List Int)(hd:Cvd xs):Cal prog 59 #[v] [slp 2 wv v xs] true (G:=Value×List (SL×List Int)×Value×List (SL×List Int)) (fun r=>r.2.1.map Prod.snd=Pq xs∧r.2.2.2.map Prod.snd=chx xs) (fun r=> .tuple #[.agg #[r.1,r.2.2.1],.int .i64 0]) (fun r=>[Zad 1 Br qZ r.1 r.2.1,Zad 1 Br qZ r.2.2.1 r.2.2.2]):=by
 refine Yc func59 J ntmps59 J K1 ?_
 intro w0 sc hw hsc
 simp only [Zq,Zp]
 refine e_ex (Ov 1 J Zi) (fun sv hsv=>?_)
 subst hsv
 have hv:=hd.v
 refine Yr (Na 999 2 31 wv)<|Yr (Pd 999 J J pV)<|Zd<|Zg<|tt (Zn (i:=2) J J zeroValue98 J J hw) fun bx _=>as_ J<|Zf<|Za<|Zd<|Zg<|tt (Zn (i:=3) J J zeroValue98 J J hw) fun bx_2 _=>Zf<|Za<|Zd<|Zd<|Zg<|mv J<|dt (Yd J J (i:=1) J Zi Qx)<|dt (Pg J J J)<|Zf<|Za<|Zs J (fun h129=>?_) (fun h129=>?_)
 ·exact Zd<|Zg<|dt (Zy (i:=3) J J J Zdk Bb J J)<|tt (Zm (i:=2) J J J J J (by decide) J Bb J J ⟨Zb J,Zb J,trivial⟩ J hw trivial) fun _ _=>as_ J<|Zf<|Za<|Zu<|Xa<|Qu (Na 70 1 23 (Br (α:=List Int)))<|Qu (Mt qZ 71)<|Qu (Pd 70 J J pS)<|Qu (Mq 70 71 72 J J J J)<|Ym (.inl J) hsc (.slice none 0 0,[],.slice none 0 0,[]) _ (fun a w hs=>Nl hs results59 (Yn (i:=2) J J Zdk Bb J) J) J ⟨(Zkx (by omega)).symm,(chx_nil (by omega)).symm⟩ J (Yy 72 J J J (Yy 72 J J J Zk))
 ·have h0:xs≠[]:=fun e=>by rw [e]at h129;simp at h129
  obtain⟨q1,q2,q3,q4,q5⟩:=Aw hd h0
  refine Zj<|Za<|Zd<|Zd<|Zg<|mv J<|as_ J<|as_ J<|Zf<|Za<|Zo<|Yr (Na 70 1 23 (Br (α:=List Int)))<|Yr (Mt qZ 71)<|Yr (Oa 1 80 J J J)<|Nt [(0,_),(2,_),(4,_)] [(0,_),(1,_),(999,_),(2,_)] (fun(q:List (SL×List Int)×SL×List Int×Value×Nat)=>[(5,svv q.2.1)]) (fun(q:List (SL×List Int)×SL×List Int×Value×Nat)=>[(70,osl 1 23 Br q.2.2.2.1 q.1),(71,Zcn qZ q.1),(80,slp 2 wv (svv q.2.1) q.2.2.1),(3,box bx_2 98 #[q.2.2.2.1,.slice none 0 0])]) (fun(q:List (SL×List Int)×SL×List Int×Value×Nat)=>(Vp q.2.2.1)∧(Sz q.2.2.2.2 q.2.2.1)∧(q.2.2.2.2+5*q.2.2.1.length≤110)∧(q.1.length+q.2.2.1.length≤7)∧(q.1.map Prod.snd ++ Pq q.2.2.1=Pq xs)) (fun(q:List (SL×List Int)×SL×List Int×Value×Nat)=>q.2.2.1.length) ([],sv,xs,_,70) ⟨hv,hd.s,by have:=hd.l;dsimp only;omega,by have:=hd.l;simp;omega,rfl⟩ K4 K8 ?_
  rintro⟨ws,sd,y,vo,k⟩ ⟨hy,hys,hk,hyl,hws⟩
  dsimp only at hy hys hk hyl hws
  simp only [CA,NA]
  refine Zd<|Zd<|Zg<|mv J<|dt (Yd J J (i:=80) J Zi Qx)<|dt (Pm J J J)<|Zf<|Za<|Zs J (fun h132=>?_) (fun h132=>?_)
  ·refine Zj<|Za<|Zo<|Zd ?_
   have hpl:=Om y
   have hdz:∀i,bl (cf y (i+1)*((i:Int)+1)).natAbs≤65536:=fun i=>by have h:=Hl hys (by omega) i;rw [Zd8]at h;omega
   refine Zg<|dt (Xs J J Zv4 J Zqz J J)<|dt (Oj (i:=3) J J J isAgg96 J)<|mv J<|tt (Po (i:=4) (ivs:=[(0,_)]) (enc:=Br) [(sd,y)] J J K2 Zlf ti23 J J J J J pS.cells J J hw) fun v _=>tt (Iu (i:=70) (j:=4) (by_:=24) J J J J J J (by decide) J (Yt pS) Zlf ti23 J pS J J J (by simp;omega) (by decide) J hw) fun v_2 _=>dt (Xs J J Zv4 J Zqz J J)<|tt (t_stp1 (i:=3) J J J J J Zqz J (Zl (i:=70) J (Yt pS)) J hw trivial) fun _ _=>Zf<|Za<|Zd<|Zg<|mv J<|tt (Zh (n:=84) (Dm _ _ hy hdz) J J J K1 call109 (Zc 80 J J J Ze) J hw) fun _ _=>l_ex (Ov 84 J Zi) (fun sn hsn=>?_)
   subst hsn
   exact mv J<|dt (Yh J J J)<|dt (Yh J J J)<|as_ J<|as_ J<|Zf<|Za<|Zd<|Zg<|mv J<|dt (Ya (r':= .bool false) (Qc J J J) (congrArg Value.bool (by decide)))<|Zf<|Za<|Ye J<|Zj<|Oe<|Qu (Pz (q:=qZ) (z:=(sd,y)) 71 80 71 J J J J J)<|Qu (Oa 84 80 J J J)<|Xn (ws ++ [(sd,y)],sn,Pk y,_,k+5) ⟨Zef hy (fun i _=>hdz i),Hl hys (by omega),by dsimp only;omega,by dsimp only;simp;omega,by dsimp only;rw [List.map_append,List.append_assoc,←hws,Zbr (p:=y) (by omega)];rfl⟩ (by dsimp only;omega) K4 K8
  ·refine Yv<|Zv<|Zv<|Ox<|Za<|Zd ?_
   have hy0:y.length=0:=by omega
   have hw2:ws.map Prod.snd=Pq xs:=by rw [←hws,Zkx hy0,List.append_nil]
   exact Yr (Pd 70 J J pS)<|Yr (Mq 70 71 72 J J J J)<|Zg<|mv J<|tt (Zh (n:=5) (sg_odd _ _ hd h0) J J J K1 call51 (Zc 1 J J J Ze) J hw) fun _ _=>mv J<|dt (Yh J J J)<|dt (Yh J J J)<|as_ J<|as_ J<|Zf<|Za<|Zd<|Zd<|Zg<|mv J<|dt (Ya (r':= .bool false) (Qc J J J) (congrArg Value.bool (by decide)))<|Zf<|Za<|Ye J<|Zj<|Za<|Zd<|Zg<|mv J<|tt (Zh (n:=6) (Zwf _ _ q2 q1.one q5 13 q1.ok) J J J K1 call118 (Zc 5 J J J Ze) J hw) fun g hg=>mv J<|dt (Yh J J J)<|dt (Yh J J J)<|dt (Xs J J Zv4 J Zqz J J)<|tt (t_stp1 (i:=3) J J J J J Zqz J (Zl (i:=6) J Yb) J hw trivial) fun _ _=>as_ J<|Zf<|Za<|Zd<|Zg<|dt (Zy (i:=3) J J J Zdk Bb J J)<|mv J<|tt (Zm (i:=2) J J J J J (by decide) J Bb J J ⟨Zl (i:=72) J Yb,Zl (i:=6) J Yb,trivial⟩ J hw trivial) fun _ _=>as_ J<|Zf<|Za<|Zu<|Ym (.inl J) hsc (_,ws,_,g.2) _ (fun a w hs=>Nl hs results59 (Yn (i:=2) J J Zdk Bb J) J) J ⟨hw2,(hg).trans (Zpi (by omega)).symm⟩ J (Yy 72 J J J (Yy 6 J J J Zk))
theorem Zay(v:Value)(xs:List Int)(x y x2 y2:Int)(hp:0<y)(hp2:0<y2)(hv:Vp xs)(hf:Zc2 xs 0)(he1:efit (x,y)=true)(he2:efit (x2,y2)=true)(hx:bl x.natAbs≤65536:=by omega)(hy:bl y.natAbs≤65536:=by omega)(hx2:bl x2.natAbs≤65536:=by omega)(hy2:bl y2.natAbs≤65536:=by omega):Mc prog 58 #[v,rX x y,rX x2 y2,.slice none 0 0] [slp 2 wv v xs] (.int .i64 (if 0<cmp (x,y) (x2,y2)then 3 else 0)):=by
 refine Yc func58 J ntmps58 J K1 ?_
 intro w0 sc hw hsc
 simp only [Zq,Zp]
 refine Yr (Na 999 2 31 wv)<|Yr (Pd 999 J J pV)<|Zd<|Zg<|tt (Yu (i:=2) J J J J J hw) fun bx _=>tt (Yu (i:=3) J J J J J hw) fun bx_2 _=>as_ J<|Zf<|Za<|Zd<|Zd<|Zg<|mv J<|tt (Zh (n:=3) (Xy _ _ ‹_›) J J J K1 Zfq (Zc 1 J J J Ze) J hw) fun _ _=>dt (Ya (r':= .bool false) (Xg J J) (congrArg Value.bool (by decide)))<|mv J<|gdt (Yp (i:=2) J J J Qp Xk J J J J) J J<|gtt (Zh (n:=3) (Qv _ _ hp hx hy) J J J K1 call117 Ze J hw) J J J fun _ _=>gdt (Ya (r':= .bool false) (Xg J J) (congrArg Value.bool (by decide))) J J<|dt (Zz J J J)<|mv J<|gdt (Yp (i:=3) J J J Qp Xk J J J J) J J<|gtt (Zh (n:=3) (Qv _ _ hp2 hx2 hy2) J J J K1 call117 Ze J hw) J J J fun _ _=>gdt (Ya (r':= .bool false) (Xg J J) (congrArg Value.bool (by decide))) J J<|dt (Zz J J J)<|mv J<|gdt (Yo J J) J J<|gdt (Yd J J (i:=999) J Zi Zvs) J J<|gdt (Ya (r':= .bool false) (Pm J J J) (congrArg Value.bool (by decide))) J J<|dt (Zz J J J)<|Zf<|Za<|Ye J<|Zj<|Za<|Zd<|Zg<|mv J<|tt (Zh (n:=3) (Znt _ _ hv) J J J K1 call14 (Zc 1 J J J Ze) J hw) (fun _ _=>?_)
 refine dt (Ya (r':= .bool false) (Zf6 J J) (congrArg Value.bool (decide_eq_false (fun h=>h hf))))<|mv J<|gdt (Yp (i:=2) J J J Qp Xk J J J J) J J<|gtt (Zh (n:=3) (Ky _ _ hx hy) J J J K1 call95 Ze J hw) J J J fun _ _=>gdt (Ya (r':= .bool false) (Xg J J) (congrArg Value.bool (by rw [he1];rfl))) J J<|dt (Zz J J J)<|mv J<|gdt (Yp (i:=3) J J J Qp Xk J J J J) J J<|gtt (Zh (n:=3) (Ky _ _ hx2 hy2) J J J K1 call95 Ze J hw) J J J fun _ _=>gdt (Ya (r':= .bool false) (Xg J J) (congrArg Value.bool (by rw [he2];rfl))) J J<|dt (Zz J J J)<|as_ J<|Zf<|Za<|Zd<|Zd<|Zg<|mv J<|dt (Yd J J (i:=999) J Zi Zvs)<|mv J<|Zf<|Za<|Zo<|Nt [(5,_),(6,_),(43,_),(44,_)] [(0,_),(1,_),(999,_),(2,_),(3,_)] (fun(_:Unit)=>[(45,.int .i64 0),(9,.bool false)]) (fun(_:Unit)=>[]) (fun(_:Unit)=>True) (fun(_:Unit)=>0) () trivial K6 K5 ?_
 rintro _ -
 simp only [CA,NA]
 refine Zd<|Zg<|dt (Ya (r':= .bool false) (Xr J J J) (congrArg Value.bool (by decide)))<|Zf<|Za<|Zd<|Ye J<|Yv<|Zv<|Zv<|Ox<|Za<|Zd<|Zd<|Zg<|dt (Yp (i:=2) J J J Qp Xk J J J J)<|dt (Yp (i:=3) J J J Qp Xk J J J J)<|tt (Zh (n:=3) (Gh _ _ _ _ hp hp2 hx hy hx2 hy2) J J J K2 call96 Ze J hw) fun _ _=>dt (Pm J J J)<|Zf<|Za<|Zs J (fun h45=>?_) (fun h45=>?_)
 ·exact Zd<|Zg<|as_ J<|Zf<|Za<|Zu<|Xa<|xU hsc results58 J J (by rw [if_pos ‹_›])
 ·exact Zj<|Za<|Zd<|Zd<|Zg<|mv J<|Zf<|Za<|Ye J<|Zj<|Za<|Zd<|Zg<|as_ J<|Zf<|Za<|Zu<|xU hsc results58 J J (by rw [if_neg ‹_›])
theorem Zjw(v:Value)(r:List (Bool×ByteArray))(z1 z2:RZ)(hbad:(okP r && qOK z1 && qOK z2)=false):Mc prog 58 #[v,.agg #[.bool z1.1.1,.string z1.1.2,.bool z1.2.1,.string z1.2.2],.agg #[.bool z2.1.1,.string z2.1.2,.bool z2.2.1,.string z2.2.2],.slice none 0 0] [slp 2 Zfg v r] (.int .i64 2):=by
 refine Yc func58 J ntmps58 J K1 ?_
 intro w0 sc hw hsc
 simp only [Zq,Zp]
 refine Yr (Na 999 2 31 wv)<|Yr (Pd 999 J J pV)<|Zd<|Zg<|tt (Yu (i:=2) J J J J J hw) fun bx _=>tt (Yu (i:=3) J J J J J hw) fun bx_2 _=>as_ J<|Zf<|Za<|Zd<|Zd<|Zg<|mv J<|tt (Zh (n:=3) (Zgr _ _) J J J K1 Zfq (Zc 1 J J J Ze) J hw) fun _ _=>dt (Xg J J)<|mv J<|Ll (d:=15) J (fun s35=>?_) (fun s35=>?_)
 ·exact gsk J J J<|gsk J J J<|gsk J J J<|dt (Ys J J J)<|mv J<|gsk J J J<|gsk J J J<|gsk J J J<|dt (Ys J J J)<|mv J<|gsk J J J<|gsk J J J<|gsk J J J<|dt (Ys J J J)<|Zf<|Za<|Pf J<|Zd<|Zg<|as_ J<|Zf<|Za<|Zu<|Xa<|xU hsc results58 J J J
 ·refine gdt (Yp (i:=2) J J J Qp Xk J J J J) J J<|gtt (Zh (n:=3) (Gl _ _ _ _) J J J K1 call117 Ze J hw) J J J fun _ _=>gdt (Xg J J) J J<|dt (Zz J J J)<|mv J<|Ll (d:=20) J (fun s35_2=>?_) (fun s35_2=>?_)
  ·exact gsk J J J<|gsk J J J<|gsk J J J<|dt (Ys J J J)<|mv J<|gsk J J J<|gsk J J J<|gsk J J J<|dt (Ys J J J)<|Zf<|Za<|Pf J<|Zd<|Zg<|as_ J<|Zf<|Za<|Zu<|Xa<|xU hsc results58 J J J
  ·refine gdt (Yp (i:=3) J J J Qp Xk J J J J) J J<|gtt (Zh (n:=3) (Gl _ _ _ _) J J J K1 call117 Ze J hw) J J J fun _ _=>gdt (Xg J J) J J<|dt (Zz J J J)<|mv J<|Ll (d:=25) J (fun s35_3=>?_) (fun s35_3=>?_)
   ·exact gsk J J J<|gsk J J J<|gsk J J J<|dt (Ys J J J)<|Zf<|Za<|Pf J<|Zd<|Zg<|as_ J<|Zf<|Za<|Zu<|Xa<|xU hsc results58 J J J
   ·refine gdt (Yo J J) J J<|gdt (Yd J J (i:=999) J Zi Zvs) J J<|gdt (Ya (r':= .bool false) (Pm J J J) (congrArg Value.bool (by decide))) J J<|dt (Zz J J J)<|Zf<|Za<|Ye J<|Zj<|Za<|Zd ?_
    exfalso;simp_all [qOK]
def Lw(z:R2):Prop:=0<z.2∧Int.gcd z.1 z.2=1
theorem lgcd_p{x y:Int}(hy:0<y):Mz x y=(Int.gcd x y:Int):=by unfold Mz;rw [if_neg (by omega)]
theorem lw_div{x y:Int}(hy:0<y):Lw (x/Mz x y,y/Mz x y):=by
 have hg:0<Int.gcd x y:=Int.gcd_pos_of_ne_zero_right _ (by omega)
 rw [lgcd_p hy]
 refine⟨Int.ediv_pos_of_pos_of_dvd hy (by omega) (Int.gcd_dvd_right ..),?_⟩
 exact Int.gcd_ediv_gcd_ediv_gcd hg
theorem Zmf{a:R2}(ha:0<a.2)(h:¬Ha a.1 a.2):Lw (slow a):=by
 obtain⟨n1,n2,-⟩:=Af h
 have:=lw_div (x:=a.1) ha
 unfold slow;rw [n1,n2];exact this
theorem lw_mid{a b:R2}(h:Zdi a b)(ha:0<a.2)(hb:0<b.2):Lw (Ny a b):=by
 obtain⟨n1,n2,-⟩:=Af h.2
 have hp:0<Zc5 (a.1*b.2+b.1*a.2) (a.2*b.2)*2:=Int.mul_pos (Zoj h.1 (Int.mul_pos ha hb)) (by decide)
 have:=lw_div (x:=Zds (a.1*b.2+b.1*a.2) (a.2*b.2)*1) hp
 unfold Ny;rw [n1,n2];exact this
structure Hv (n Q j:Nat) (W:Rat) (a b:R2):Prop where
 hQ:0<Q
 hQ2:Q<2^(2*n)
 ea:En (2^n) Q j a
 eb:En (2^n) Q j b
 wd:(qv b-qv a)*((2^j:Nat):Rat)=W
 le:qv a≤qv b
 la:Lw a
 lb:Lw b
theorem Hv.start{n:Nat}{a b:R2}(ha:0<a.2)(hb:0<b.2)(a1:bl a.1.natAbs≤n)(a2:bl a.2.natAbs≤n)(b1:bl b.1.natAbs≤n)(b2:bl b.2.natAbs≤n)(hn:n≤65536)(hle:qv a≤qv b):∃Q,Hv n Q 0 (qv b-qv a) (slow a) (slow b):=by
 obtain⟨s1,s2,s3,s4,s5⟩:=Zau ha a1 a2 hn
 obtain⟨t1,t2,t3,t4,t5⟩:=Zau hb b1 b2 hn
 have pa:=(Mp n _).1 s4
 have pb:=(Mp n _).1 t4
 have qa:=Zn7 ha (Nat.le_of_lt ((Mp n _).1 a1))
 have qb:=Zn7 hb (Nat.le_of_lt ((Mp n _).1 b1))
 have hQ0:0<(slow a).2.natAbs*(slow b).2.natAbs:=Nat.mul_pos (by omega) (by omega)
 have hQ1:(slow a).2.natAbs*(slow b).2.natAbs<2^(2*n):=by
  rw [show 2*n=n+n by omega,Nat.pow_add]
  exact Nat.mul_lt_mul_of_lt_of_le pa (Nat.le_of_lt pb) (Nat.pow_pos (by decide))
 generalize hQ:(slow a).2.natAbs*(slow b).2.natAbs=Q at *
 have hcast:((Q*2^0:Nat):Int)=(slow a).2*(slow b).2:=by
  rw [Nat.pow_zero,Nat.mul_one,←hQ];push_cast;rw [Int.natAbs_of_nonneg (by omega),Int.natAbs_of_nonneg (by omega)]
 have ea:En (2^n) Q 0 (slow a):=⟨s2,by rw [hcast];exact Int.dvd_mul_right _ _,by rw [s5];exact qa.1,by rw [s5];exact qa.2⟩
 have eb:En (2^n) Q 0 (slow b):=⟨t2,by rw [hcast];exact Int.dvd_mul_left _ _,by rw [t5];exact qb.1,by rw [t5];exact qb.2⟩
 exact⟨Q,hQ0,hQ1,ea,eb,by rw [s5,t5,Nat.pow_zero];push_cast;grind,by rw [s5,t5];exact hle,Zmf ha s1,Zmf hb t1⟩
theorem Hv.mid{n Q j B:Nat}{W:Rat}{a b:R2}(h:Hv n Q j W a b)(hB:3*n+2+j≤B)(hB2:B≤65536) :
  Zdi a b∧(bl (Ny a b).1.natAbs≤B∧bl (Ny a b).2.natAbs≤B∧0<(Ny a b).2)∧qv (Ny a b)=(qv a+qv b)/2∧(bl a.1.natAbs≤B∧bl a.2.natAbs≤B∧0<a.2)∧(bl b.1.natAbs≤B∧bl b.2.natAbs≤B∧0<b.2)∧
  Hv n Q (j+1) W a (Ny a b)∧Hv n Q (j+1) W (Ny a b) b:=by
 have hpow:∀m,m≤B→2^m≤2^B:=fun m h=>Nat.pow_le_pow_right (by decide) h
 have hB1:Q*2^(j+1)<2^B:=by
  have:Q*2^(j+1)<2^(2*n)*2^(j+1):=Nat.mul_lt_mul_of_pos_right h.hQ2 (Nat.pow_pos (by decide))
  rw [←Nat.pow_add]at this
  exact Nat.lt_of_lt_of_le this (hpow _ (by omega))
 have hB3:2*2^n*(Q*2^j)<2^B:=by
  have h1:Q*2^j<2^(2*n)*2^j:=Nat.mul_lt_mul_of_pos_right h.hQ2 (Nat.pow_pos (by decide))
  have h2:2*2^n*(Q*2^j)<2*2^n*(2^(2*n)*2^j):=Nat.mul_lt_mul_of_pos_left h1 (Nat.mul_pos (by decide) (Nat.pow_pos (by decide)))
  have h3:2*2^n*(2^(2*n)*2^j)=2^(3*n+1+j):=by
   rw [←Nat.pow_add,←Nat.pow_succ',←Nat.pow_add];congr 1;omega
  rw [h3]at h2
  exact Nat.lt_of_lt_of_le h2 (hpow _ (by omega))
 obtain⟨m1,m2,m3,m4,m5⟩:=mid_en h.ea h.eb h.hQ hB1 hB3 hB2
 obtain⟨p1,p2⟩:=en_bl2 (e:=j) (w:=0) (B:=B) h.ea h.hQ h.hQ2 (by omega)
 obtain⟨r1,r2⟩:=en_bl2 (e:=j) (w:=0) (B:=B) h.eb h.hQ h.hQ2 (by omega)
 have hlm:=lw_mid m1 h.ea.pos h.eb.pos
 have hw:((2^(j+1):Nat):Rat)=2*((2^j:Nat):Rat):=by rw [Nat.pow_succ];push_cast;grind
 have hle:=h.le
 refine⟨m1,⟨m4,m5,m2.pos⟩,m3,⟨p1,p2,h.ea.pos⟩,⟨r1,r2,h.eb.pos⟩,⟨h.hQ,h.hQ2,h.ea.up,m2,?_,by grind,h.la,hlm⟩,⟨h.hQ,h.hQ2,m2,h.eb.up,?_,by grind,hlm,h.lb⟩⟩
 ·rw [m3,hw,←h.wd];grind
 ·rw [m3,hw,←h.wd];grind
theorem sep_cvd{xs:List Int}(h:Cvd xs)(h0:xs≠[]):Zfv 13 xs∧∀u v:Rat,-((2^34:Nat):Rat)≤u→u≤v→v≤((2^34:Nat):Rat)→v-u≤1/((2^2700:Nat):Rat)→vch 13 xs u-vch 13 xs v≤1:=by
 have hl:=h.l
 obtain⟨hC,hq1,hq2,hq3⟩:=chF 13 h.v.tr h0 h.s (by omega) (by omega) (by omega)
 have hd:=Hl hq1 (by omega)
 have hss:∀n,n≤7→2≤n→Zwt (2^34) (2^205) n 2700=true:=by decide +kernel
 exact⟨hC,fun u v=>sep_of h.v.tr h0 hC (Nat.pow_pos (by decide)) (A:=2^205) (Nat.pow_pos (by decide)) (fun i=>Nat.le_trans (Zge hq1 i) (Nat.pow_le_pow_right (by decide) (by omega))) (fun i=>Zge hd i) (fun h2=>hss _ (by omega) h2) u v⟩
theorem Zsl{j e w:Nat}{x W:Rat}(h1:1/((2^(e+1):Nat):Rat)<x)(h2:x*((2^j:Nat):Rat)=W)(h3:W≤((2^w:Nat):Rat)):j<e+1+w:=by
 have p1:=two_pow_pos (e+1)
 have p2:=two_pow_pos j
 rcases Nat.lt_or_ge j (e+1+w)with q | q
 ·exact q
 ·exfalso
  have hi:0<((2^(e+1):Nat):Rat)⁻¹:=Rat.inv_pos.2 p1
  have hc:((2^(e+1):Nat):Rat)*((2^(e+1):Nat):Rat)⁻¹=1:=Rat.mul_inv_cancel _ (by grind)
  have g1:((2^(e+1):Nat):Rat)*((2^w:Nat):Rat)≤((2^j:Nat):Rat):=by
   have:2^(e+1)*2^w≤2^j:=by rw [←Nat.pow_add];exact Nat.pow_le_pow_right (by decide) q
   exact_mod_cast this
  have g2:((2^(e+1):Nat):Rat)⁻¹<x:=by grind
  have g3:=Rat.mul_pos (show 0<x-((2^(e+1):Nat):Rat)⁻¹ by grind) p2
  have g4:=Rat.mul_nonneg (Rat.le_of_lt hi) (show 0≤((2^j:Nat):Rat)-((2^(e+1):Nat):Rat)*((2^w:Nat):Rat) by grind)
  have g5:((2^(e+1):Nat):Rat)⁻¹*(((2^(e+1):Nat):Rat)*((2^w:Nat):Rat))=((2^w:Nat):Rat):=by
   rw [←Rat.mul_assoc,Rat.mul_comm (((2^(e+1):Nat):Rat)⁻¹),hc,Rat.one_mul]
  grind
structure NIn (xs:List Int) (s t:Rat) (j:Nat) (a b:R2):Prop where
 ex:∃Q W,Hv 34 Q j W a b∧W≤((2^34:Nat):Rat)
 lo:s≤qv a
 hi:qv b≤t
 l0:-((2^33:Nat):Rat)≤s
 h0:t≤((2^33:Nat):Rat)
 pa:0≤rev xs (qv a)
 pb:0≤rev xs (qv b)
 ng:NegI xs (qv a) (qv b)
theorem rat34:((2^34:Nat):Rat)=2*((2^33:Nat):Rat)∧(1:Rat)≤((2^33:Nat):Rat):=by
 have h:∀n:Nat,((2^(n+1):Nat):Rat)=2*((2^n:Nat):Rat):=fun n=>by rw [Nat.pow_succ];push_cast;grind
 constructor
 ·exact h 33
 ·exact_mod_cast (show 1≤2^33 by decide)
theorem NIn.j{xs:List Int}{lo hi:Rat}{j:Nat}{a b:R2}(hd:Cvd xs)(h0:xs≠[])(h:NIn xs lo hi j a b):j<2735:=by
 obtain⟨Q,W,h1,h2⟩:=h.ex
 obtain⟨hC,hs⟩:=sep_cvd hd h0
 obtain⟨k1,k2⟩:=rat34
 have a1:=h.lo
 have a2:=h.hi
 have a3:=h.l0
 have a4:=h.h0
 have:=neg_sep (Aw hd h0).1 hC (K:=2^34) (e:=2700) hs (s:=qv a) (t:=qv b) (by grind) (by grind) h.pa h.pb h.ng
 exact Zsl (e:=2700) (w:=34) this h1.wd h2
theorem NIn.start{xs:List Int}{a b:R2}(ha:0<a.2)(hb:0<b.2)(a1:bl a.1.natAbs≤32)(a2:bl a.2.natAbs≤32)(b1:bl b.1.natAbs≤32)(b2:bl b.2.natAbs≤32)(hle:qv a≤qv b)(pa:0≤rev xs (qv a))(pb:0≤rev xs (qv b))(ng:NegI xs (qv a) (qv b)) :
  NIn xs (qv a) (qv b) 0 (slow a) (slow b):=by
 obtain⟨Q,hh⟩:=Hv.start (n:=34) ha hb (by omega) (by omega) (by omega) (by omega) (by omega) hle
 obtain⟨-,-,-,-,s5⟩:=Zau (n:=34) ha (by omega) (by omega) (by omega)
 obtain⟨-,-,-,-,t5⟩:=Zau (n:=34) hb (by omega) (by omega) (by omega)
 have q1:=Zn7 (K:=2^33) ha (Nat.le_trans (Nat.le_of_lt ((Mp 32 _).1 a1)) (by decide))
 have q2:=Zn7 (K:=2^33) hb (Nat.le_trans (Nat.le_of_lt ((Mp 32 _).1 b1)) (by decide))
 obtain⟨k1,k2⟩:=rat34
 exact⟨⟨Q,_,hh,by grind⟩,by rw [s5];exact Rat.le_refl,by rw [t5];exact Rat.le_refl,q1.1,q2.2,by rw [s5];exact pa,by rw [t5];exact pb,by rw [s5,t5];exact ng⟩
structure Fnd (xs:List Int) (s t:Rat) (m:R2):Prop where
 ng:rev xs (qv m)<0
 lo:s≤qv m
 hi:qv m≤t
 b1:bl m.1.natAbs≤3000
 b2:bl m.2.natAbs≤3000
 lw:Lw m
theorem NIn.round{xs:List Int}{lo hi:Rat}{j:Nat}{a b:R2}(hd:Cvd xs)(h0:xs≠[])(h:NIn xs lo hi j a b) :
  Zdi a b∧(bl (Ny a b).1.natAbs≤3000∧bl (Ny a b).2.natAbs≤3000∧0<(Ny a b).2)∧(bl a.1.natAbs≤3000∧bl a.2.natAbs≤3000∧0<a.2)∧(bl b.1.natAbs≤3000∧bl b.2.natAbs≤3000∧0<b.2)∧
  (vlu (Pq xs) (Ny a b)<0→Fnd xs lo hi (Ny a b))∧(¬vlu (Pq xs) (Ny a b)<0→ngb (Pq xs) (chx xs) a (Ny a b)=true→NIn xs lo hi (j+1) a (Ny a b))∧
  (¬vlu (Pq xs) (Ny a b)<0→ngb (Pq xs) (chx xs) a (Ny a b)=false→NIn xs lo hi (j+1) (Ny a b) b):=by
 have hj:=h.j hd h0
 obtain⟨Q,W,h1,h2⟩:=h.ex
 obtain⟨m1,m2,m3,m4,m5,m6,m7⟩:=h1.mid (B:=3000) (by omega) (by omega)
 have hle:=h1.le
 have l1:=h.lo
 have l2:=h.hi
 have hv:=Zhi (xs:=xs) m2.2.2
 have hns:¬vlu (Pq xs) (Ny a b)<0→0≤rev xs (qv (Ny a b)):=fun hn=>by
  rw [hv]at hn
  rcases Pt (rev xs (qv (Ny a b)))with⟨h5,h6⟩ | ⟨h5,h6⟩ | ⟨h5,h6⟩
  ·exact Rat.le_of_lt h5
  ·rw [h6]at hn;exact absurd (by decide) hn
  ·rw [h5];exact Rat.le_refl
 have hsem:=Ze9 hd m4.2.2 m2.2.2 (show qv a≤qv (Ny a b) by grind)
 refine⟨m1,m2,m4,m5,fun hn=>?_,fun hn hb=>?_,fun hn hb=>?_⟩
 ·have:rev xs (qv (Ny a b))<0:=by
   rw [hv]at hn
   rcases Pt (rev xs (qv (Ny a b)))with⟨h5,h6⟩ | ⟨h5,h6⟩ | ⟨h5,h6⟩
   ·rw [h6]at hn;exact absurd hn (by decide)
   ·exact h5
   ·rw [h6]at hn;exact absurd hn (by decide)
  exact⟨this,by grind,by grind,m2.1,m2.2.1,lw_mid m1 m4.2.2 m5.2.2⟩
 ·exact⟨⟨Q,W,m6,h2⟩,l1,by grind,h.l0,h.h0,h.pa,hns hn,hsem.1 hb⟩
 ·refine⟨⟨Q,W,m7,h2⟩,by grind,l2,h.l0,h.h0,hns hn,h.pb,?_⟩
  obtain⟨x,x1,x2,x3⟩:=h.ng
  rcases(show x≤qv (Ny a b)∨qv (Ny a b)≤x by grind)with q | q
  ·have:=hsem.2 ⟨x,x1,q,x3⟩;rw [hb]at this;exact absurd this (by decide)
  ·exact⟨x,q,x2,x3⟩
def frs(xs:List Int):Nat→R2→R2→R2×R2
 | 0,a,b=>(a,b)
 | n+1,a,b=>if ngb (Pq xs) (chx xs) a (Ny a b)then frs xs n a (Ny a b)else frs xs n (Ny a b) b
structure E32 (a:R2):Prop where
 p:0<a.2
 b1:bl a.1.natAbs≤32
 b2:bl a.2.natAbs≤32
theorem E32.slow{a:R2}(h:E32 a):E32 (slow a)∧qv (Go.Sky.slow a)=qv a∧Lw (Go.Sky.slow a)∧¬Ha a.1 a.2:=by
 obtain⟨s1,s2,s3,s4,s5⟩:=Zau (n:=32) h.p h.b1 h.b2 (by omega)
 exact⟨⟨s2,s3,s4⟩,s5,Zmf h.p s1,s1⟩
theorem Zhh{xs:List Int}{m:R2}(hm:0<m.2):vlu (Pq xs) m<0↔rev xs (qv m)<0:=by
 rw [Zhi hm]
 rcases Pt (rev xs (qv m))with⟨h5,h6⟩ | ⟨h5,h6⟩ | ⟨h5,h6⟩
 ·rw [h6];constructor
  ·intro h;exact absurd h (by decide)
  ·intro h;grind
 ·rw [h6];exact⟨fun _=>h5,fun _=>by decide⟩
 ·rw [h6,h5];constructor
  ·intro h;exact absurd h (by decide)
  ·intro h;grind
theorem end_l{xs:List Int}{a b:R2}(ha:E32 a)(hle:qv a≤qv b)(h:vlu (Pq xs) (slow a)<0):Fnd xs (qv a) (qv b) (slow a):=by
 obtain⟨s1,s2,s3,s4⟩:=ha.slow
 have h9:=(Zhh s1.p).1 h
 exact⟨h9,by rw [s2];exact Rat.le_refl,by rw [s2];exact hle,Nat.le_trans s1.b1 (by decide),Nat.le_trans s1.b2 (by decide),s3⟩
theorem end_r{xs:List Int}{a b:R2}(hb:E32 b)(hle:qv a≤qv b)(h:vlu (Pq xs) (slow b)<0):Fnd xs (qv a) (qv b) (slow b):=by
 obtain⟨s1,s2,s3,s4⟩:=hb.slow
 have h9:=(Zhh s1.p).1 h
 exact⟨h9,by rw [s2];exact hle,by rw [s2];exact Rat.le_refl,Nat.le_trans s1.b1 (by decide),Nat.le_trans s1.b2 (by decide),s3⟩
theorem Zs2{xs:List Int}{a b:R2}(hd:Cvd xs)(ha:E32 a)(hb:E32 b)(hle:qv a≤qv b)(h1:¬vlu (Pq xs) (slow a)<0)(h2:¬vlu (Pq xs) (slow b)<0)(hn:ngb (Pq xs) (chx xs) a b=true) :
  NIn xs (qv a) (qv b) 0 (slow a) (slow b):=by
 obtain⟨s1,s2,s3,s4⟩:=ha.slow
 obtain⟨t1,t2,t3,t4⟩:=hb.slow
 have k1:¬rev xs (qv (slow a))<0:=fun e=>h1 ((Zhh s1.p).2 e)
 have k2:¬rev xs (qv (slow b))<0:=fun e=>h2 ((Zhh t1.p).2 e)
 rw [s2]at k1
 rw [t2]at k2
 exact NIn.start ha.p hb.p ha.b1 ha.b2 hb.b1 hb.b2 hle (by grind) (by grind) ((Ze9 hd ha.p hb.p hle).1 hn)
theorem ngb_ne{xs:List Int}{a b:R2}(h:ngb (Pq xs) (chx xs) a b=true):xs≠[]:=fun e=>by
 subst e
 unfold ngb at h
 split at h
 ·exact absurd h (by show ¬decide ((0:Int)<0)=true;decide)
 ·exact absurd h (by show ¬(decide ((0:Int)<0) || false)=true;decide)
theorem E32.efit{a:R2}(h:E32 a):efit a=true:=by
 have:=h.b1
 have:=h.b2
 unfold Go.Sky.efit;exact decide_eq_true (by omega)
theorem Zbk{xs:List Int}{n:Nat}{a b:R2} : frs xs (n+1) a b=if ngb (Pq xs) (chx xs) a (Ny a b)then frs xs n a (Ny a b)else frs xs n (Ny a b) b:=rfl
structure FIn (xs:List Int) (j:Nat) (a b:R2):Prop where
 ex:∃Q W,Hv 34 Q j W a b
 bj:j≤200
theorem FIn.start{xs:List Int}{a b:R2}(ha:E32 a)(hb:E32 b)(hle:qv a≤qv b):FIn xs 0 (slow a) (slow b):=by
 obtain⟨Q,hh⟩:=Hv.start (n:=34) ha.p hb.p (Nat.le_trans ha.b1 (by decide)) (Nat.le_trans ha.b2 (by decide)) (Nat.le_trans hb.b1 (by decide)) (Nat.le_trans hb.b2 (by decide)) (by omega) hle
 exact⟨⟨Q,_,hh⟩,by omega⟩
theorem FIn.round{xs:List Int}{j:Nat}{a b:R2}(h:FIn xs j a b) :
  Zdi a b∧(bl (Ny a b).1.natAbs≤3000∧bl (Ny a b).2.natAbs≤3000∧0<(Ny a b).2)∧(bl a.1.natAbs≤3000∧bl a.2.natAbs≤3000∧0<a.2)∧(bl b.1.natAbs≤3000∧bl b.2.natAbs≤3000∧0<b.2)∧
  (j<200→FIn xs (j+1) a (Ny a b)∧FIn xs (j+1) (Ny a b) b):=by
 obtain⟨Q,W,h1⟩:=h.ex
 have hj:=h.bj
 obtain⟨m1,m2,m3,m4,m5,m6,m7⟩:=h1.mid (B:=3000) (by omega) (by omega)
 exact⟨m1,m2,m4,m5,fun hj2=>⟨⟨⟨Q,W,m6⟩,by omega⟩,⟨⟨Q,W,m7⟩,by omega⟩⟩⟩
theorem neg_two{xs:List Int}{a b:R2}(ha:E32 a)(hb:E32 b)(hle:qv a≤qv b){i:Nat}(hi:i<2)(h:vlu (Pq xs) ([slow a,slow b].getD i (0,0))<0):Fnd xs (qv a) (qv b) ([slow a,slow b].getD i (0,0)):=by
 rcases(show i=0∨i=1 by omega)with e | e
 ·subst e;exact end_l ha hle h
 ·subst e;exact end_r hb hle h
theorem e32_two{a b:R2}(ha:E32 a)(hb:E32 b)(i:Nat)(hi:i<2):E32 ([slow a,slow b].getD i (0,0)):=by
 rcases(show i=0∨i=1 by omega)with e | e
 ·subst e;exact ha.slow.1
 ·subst e;exact hb.slow.1
theorem Zm4{a b:R2}(ha:E32 a)(hb:E32 b)(h:¬0<cmp a b):qv a≤qv b:=(Zcv ha.p hb.p).1 (by omega)
end Go.Sky

