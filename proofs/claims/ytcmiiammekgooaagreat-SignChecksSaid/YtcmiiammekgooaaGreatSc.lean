/- The law: part 20. No conditions but those that each theorem names. -/
import Derived.Test.YtcmiiammekgooaaGreatSc18
set_option linter.all false
set_option maxHeartbeats 4000000
namespace Go.Sky
open Go.Proofs.Tryz
open Go.Proofs
set_option maxRecDepth 20000
set_option maxHeartbeats 4000000
set_option linter.unusedSimpArgs false
theorem Za1(v w u:Value)(zs:List (Int×SL))(x y:Int)(hx:bl x.natAbs≤1000000)(hy:bl y.natAbs≤1000000)(hs:Sz 1000000 (Zj zs))(hl:zs.length≤30:=by omega):On prog 65 #[v,.agg #[.bool (decide (x<0)),w,.bool (decide (y<0)),u]] [pp v zs,Mw w x.natAbs,Mw u y.natAbs] (.int .i64 (fat x y (Zj zs))):=by
 refine Yi func65 J ntmps65 J K3 fun w0 sc hw hsc=>?_
 simp only [Zu,Zt]
 have hli:=Yc zs
 exact Zb<|Ze<|tt (Yw (i:=4) J J J J J hw) fun bx _=>Zp J<|Zc<|Za<|Zb<|Ze<|mv J<|dt (Ym (i:=4) J J J Gc Ml J J J J)<|tt (Zh (n:=5) (Zu4 _ _ _ _ x y hs hx hy) J J J K2 call121 (Zd 1 J J J (Zd 2 J J J (Zd 3 J J J Zg))) J hw) fun v _=>tt (Zh (n:=5) (Dw _ _ (by have:=ev_b hs (by omega) hx hy;omega)) J J J K1 call72 (Zd 5 J J J Zg) J hw) fun _ _=>Zp J<|Zc<|Za<|Zq<|xU hsc results65 J J J
theorem Zlz(x y:Int)(hx:bl x.natAbs≤1000000)(hy:bl y.natAbs≤1000000)(n:Nat)(ih:∀(v w u:Value) (zs:List (Int×SL)) (k:Nat) (hv:Vp (Zj zs)) (hk:Sz k (Zj zs)) (hkk:k+5*zs.length≤110) (hf:zs.length<n),Cal prog 66 #[v,.agg #[.bool (decide (x<0)),w,.bool (decide (y<0)),u]] [pp v zs,Mw w x.natAbs,Mw u y.natAbs] false (G:=Unit) (fun _=>True) (fun _=> .int .i64 (aft (Ol (Zj zs)) (x,y))) (fun _=>[]))(v w u:Value)(zs:List (Int×SL))(k:Nat)(hv:Vp (Zj zs))(hk:Sz k (Zj zs))(hkk:k+5*zs.length≤110)(hf:zs.length<n+1):Cal prog 66 #[v,.agg #[.bool (decide (x<0)),w,.bool (decide (y<0)),u]] [pp v zs,Mw w x.natAbs,Mw u y.natAbs] false (G:=Unit) (fun _=>True) (fun _=> .int .i64 (aft (Ol (Zj zs)) (x,y))) (fun _=>[]):=by
 refine Yi func66 J ntmps66 J K3 fun w0 sc hw hsc=>?_
 simp only [Zu,Zt]
 have hli:=Yc zs
 have hlen:=hv.len
 have hld:=Nv (Zj zs)
 have hvd:=Zxb hv hk (by omega)
 have hkd:=Fh hk (by omega)
 refine Zb<|Ze<|tt (Yw (i:=4) J J J J J hw) fun bx _=>Zp J<|Zc<|Za<|Zb<|Zb<|Ze<|mv J<|dt (Yf J J (i:=1) J Yg Pq)<|dt (Pj J J J)<|mv J<|Pf (d:=8) J (fun s44=>?_) (fun s44=>?_)
 ·exact Xt J J J<|Xt J J J<|Xt J J J<|Xt J J J<|dt (Yy J J J)<|Zc<|Za<|Pv J<|Zb<|Ze<|mv J<|dt (Ym (i:=4) J J J Gc Ml J J J J)<|tt (Zh (n:=4) (Za1 _ _ _ _ x y hx hy (hv.sz.mono (by omega))) J J J K2 call65 (Zd 1 J J J (Zd 2 J J J (Zd 3 J J J Zg))) J hw) fun _ _=>Zp J<|Zc<|Za<|Zq<|Yn<|xU hsc results66 J J (by rw [Zsk (by first | (left;omega) | (right;assumption))])
 ·refine Xh (Yd J J) J J<|Xh (Ym (i:=4) J J J Gc Ml J J J J) J J<|Lz (Zh (n:=4) (Za1 _ _ _ _ x y hx hy (hv.sz.mono (by omega))) J J J K2 call65 (Zd 1 J J J (Zd 2 J J J (Zd 3 J J J Zg))) J hw) J J J fun _ _=>Xh (Xz J J J) J J<|dt (Yh J J J)<|Zc<|Za<|Zr J (fun h44=>?_) (fun h44=>?_)
  ·exact Zb<|Ze<|mv J<|dt (Ym (i:=4) J J J Gc Ml J J J J)<|tt (Zh (n:=4) (Za1 _ _ _ _ x y hx hy (hv.sz.mono (by omega))) J J J K2 call65 (Zd 1 J J J (Zd 2 J J J (Zd 3 J J J Zg))) J hw) fun _ _=>Zp J<|Zc<|Za<|Zq<|Yn<|xU hsc results66 J J (by rw [Zsk (by first | (left;omega) | (right;assumption))])
  ·refine Zk<|Za<|Zb<|Fs (fun _=>False) [4]<|Ya (n:=2) [(0,0),(2,0),(1,1)]<|Zs J J (Yt (Yd J J))<|Zs J J (Yt (Ym (i:=4) J J J Gc Ml J J J J))<|Xb J (Zh (n:=5) (Zhp _ _ (hv.sz.mono (by omega))) J J J K1 call115 (Zd 1 J J J Zg) J hw) fun g hg=>Yl ?_
   have hD:Zj g.2=Qi (Zj zs):=hg
   have hl7:=congrArg List.length hD
   rw [Yc]at hl7
   exact Ya (n:=0) [(3,1),(4,3)]<|Xb J (Zh (n:=5) (ih _ _ _ _ (k+5) (by rw [hD];exact hvd) (by rw [hD];exact hkd) (by omega) (by omega)) J J J K2 call66 (Zd 5 J J J (Zd 2 J J J (Zd 3 J J J Zg))) J hw) fun _ _=>Po J (Od (Mb J J) J) fun _ _=>Yl<|Yk<|Za<|Zq<|xU hsc results66 J J (by rw [aft_go (p:=Zj zs) (by omega) (Decidable.byContradiction ‹_›),←hD])
theorem Zqw(x y:Int)(hx:bl x.natAbs≤1000000)(hy:bl y.natAbs≤1000000):∀(n:Nat) (v w u:Value) (zs:List (Int×SL)) (k:Nat) (hv:Vp (Zj zs)) (hk:Sz k (Zj zs)) (hkk:k+5*zs.length≤110) (hf:zs.length<n),Cal prog 66 #[v,.agg #[.bool (decide (x<0)),w,.bool (decide (y<0)),u]] [pp v zs,Mw w x.natAbs,Mw u y.natAbs] false (G:=Unit) (fun _=>True) (fun _=> .int .i64 (aft (Ol (Zj zs)) (x,y))) (fun _=>[])
 | 0,v,w,u,zs,k,hv,hk,hkk,hf=>absurd hf (Nat.not_lt_zero _)
 | n+1,v,w,u,zs,k,hv,hk,hkk,hf=>Zlz x y hx hy n (Zqw x y hx hy n) v w u zs k hv hk hkk hf
theorem Zs9(v w u w2 u2:Value)(zs:List (Int×SL))(x y x2 y2:Int)(hx:bl x.natAbs≤1000000)(hy:bl y.natAbs≤1000000)(hx2:bl x2.natAbs≤1000000)(hy2:bl y2.natAbs≤1000000)(hp2:0<y2)(hd:Cvd (Zj zs)):On prog 67 #[v,.agg #[.bool (decide (x<0)),w,.bool (decide (y<0)),u],.agg #[.bool (decide (x2<0)),w2,.bool (decide (y2<0)),u2]] [pp v zs,Mw w x.natAbs,Mw u y.natAbs,Mw w2 x2.natAbs,Mw u2 y2.natAbs] (.bool (crb (Bb (Zj zs)) (x,y) (x2,y2))):=by
 refine Yi func67 J ntmps67 J K5 fun w0 sc hw hsc=>?_
 simp only [Zu,Zt]
 have hli:=Yc zs
 have hd7:=hd.l
 have hr1:=Zwu (Bb (Zj zs)) (x,y)
 have hr2:=Zwu (Bb (Zj zs)) (x2,y2)
 have hr3:=Cg (Zj zs)
 refine Zb<|Ze<|tt (Yw (i:=6) J J J J J hw) fun bx _=>tt (Yw (i:=7) J J J J J hw) fun bx_2 _=>Zp J<|Zc<|Za<|Zb<|Zb<|Ze<|mv J<|dt (Yf J J (i:=1) J Yg Pq)<|dt (Pj J J J)<|Zc<|Za<|Zr J (fun h52=>?_) (fun h52=>?_)
 ·exact Zb<|Ze<|Zp J<|Zc<|Za<|Zq<|Yn<|xU hsc results67 J J (by rw [Yfk (by omega)])
 ·have hz0:(Zj zs).length≠0:=by omega
  obtain⟨o1,o2,o3,o4,-⟩:=Zb3 hd (fun e=>hz0 (by rw [e];rfl))
  refine Zk<|Za<|Zb<|Ze<|mv J<|tt (Zh (n:=8) (r4_odd _ _ hd (by omega)) J J J K1 call19 (Zd 1 J J J Zg) J hw) (fun g hg=>?_)
  have hO:Zj g.2=Kf (Zj zs):=hg
  have hl7:=congrArg List.length hO
  rw [Yc]at hl7
  refine Zp J<|Zc<|Za<|Zb<|Ze<|mv J<|dt (Ym (i:=6) J J J Gc Ml J J J J)<|dt (Ym (i:=7) J J J Gc Ml J J J J)<|tt (Zh (n:=8) (Yai _ _ _ _ _ _ x y x2 y2 (by rw [hO];exact o2) (fun e=>o1.one (List.eq_nil_of_length_eq_zero (by rw [←hO,Yc];exact e))) (by rw [hO];exact o3.mono (by omega)) (by omega) hx hy hx2 hy2) J J J K3 call122 (Zd 8 J J J (Zd 2 J J J (Zd 3 J J J (Zd 4 J J J (Zd 5 J J J Zg))))) J hw) fun _ _=>Zp J<|Zc<|Za<|Zb<|Zb<|Yo (Ip 8 (v':= .int .i64 ((chv (Bb (Zj zs)) (x,y))-(chv (Bb (Zj zs)) (x2,y2)))) J (by rw [hO,Zwn hz0,Zwn hz0]))<|Ze<|mv J<|dt (Ym (i:=7) J J J Gc Ml J J J J)<|tt (Zh (n:=8) (Za1 _ _ _ _ x2 y2 hx2 hy2 (by rw [hO];exact o2.sz.mono (by omega))) J J J K2 call65 (Zd 8 J J J (Zd 4 J J J (Zd 5 J J J Zg))) J hw) fun _ _=>dt (Pj J J J)<|Zc<|Za<|Zr J (fun h57=>?_) (fun h57=>?_)
  ·have hfz:fat x2 y2 (Kf (Zj zs))=0:=by rw [←hO];exact h57
   exact Ze<|mv J<|dt (Qd J J J)<|Zp J<|Zc<|Za<|Zb<|Ze<|mv J<|dt (Pw J J J)<|Zp J<|Zc<|Za<|Zq<|xU hsc results67 J J (by first | rw [crx_t hd hz0 hp2 hfz] | rw [crx_f hd hz0 hp2 hfz])
  ·have hfz:¬fat x2 y2 (Kf (Zj zs))=0:=by rw [←hO];exact h57
   exact Zk<|Za<|Zb<|Ze<|mv J<|dt (Pw J J J)<|Zp J<|Zc<|Za<|Zq<|xU hsc results67 J J (by first | rw [crx_t hd hz0 hp2 hfz] | rw [crx_f hd hz0 hp2 hfz])
theorem Zpj(n:Nat):Fd n 0=1:=by cases n<;>rfl
theorem Zja:∀(n i:Nat),i≤n→Fd n (i+1)*(i+1)=Fd n i*(n-i)
 | 0,i,h=>by
   obtain rfl:i=0:=by omega
   rfl
 | n+1,0,_=>by
  have ih:=Zja n 0 (Nat.zero_le _)
  rw [Zpj]at ih
  show(Fd n 0+Fd n (0+1))*(0+1)=Fd (n+1) 0*(n+1-0)
  rw [Zpj,Zpj];omega
 | n+1,i+1,h=>by
  have i1:=Zja n i (by omega)
  rcases Nat.lt_or_ge i n with q | q
  ·have i2:=Zja n (i+1) (by omega)
   show(Fd n (i+1)+Fd n (i+1+1))*(i+1+1)=(Fd n i+Fd n (i+1))*(n+1-(i+1))
   rw [show n+1-(i+1)=n-i by omega,Nat.add_mul,i2,Nat.add_mul,←i1,←Nat.mul_add,←Nat.mul_add]
   congr 1;omega
  ·obtain rfl:i=n:=by omega
   show(Fd i (i+1)+Fd i (i+1+1))*(i+1+1)=(Fd i i+Fd i (i+1))*(i+1-(i+1))
   rw [Zla i (i+1) (by omega),Zla i (i+1+1) (by omega),Nat.sub_self,Nat.mul_zero];simp
theorem chz_q{n i:Nat}(h:i<n):((Fd n i:Nat):Int)*((n:Int)-(i:Int))/((i:Int)+1)=((Fd n (i+1):Nat):Int):=by
 have h1:=Zja n i (by omega)
 have h2:((Fd n i:Nat):Int)*((n:Int)-(i:Int))=((Fd n (i+1):Nat):Int)*((i:Int)+1):=by
  have:=congrArg (fun k:Nat=>(k:Int)) h1
  push_cast at this
  rw [Int.natCast_sub (by omega)]at this
  exact this.symm
 rw [h2];exact Int.mul_ediv_cancel _ (by omega)
theorem chz_mb{n i:Nat}(hn:n≤24)(h:i<n):0≤((Fd n i:Nat):Int)*((n:Int)-(i:Int))∧((Fd n i:Nat):Int)*((n:Int)-(i:Int))≤9223372036854775807:=by
 have h1:=Znc (n:=n) (k:=i) hn
 have h2:((Fd n i:Nat):Int)*((n:Int)-(i:Int))=((Fd n i*(n-i):Nat):Int):=by
  push_cast;rw [Int.natCast_sub (by omega)]
 have h3:Fd n i*(n-i)≤16777216*24:=Nat.mul_le_mul h1 (by omega)
 rw [h2];omega
theorem vlu_x(xs:List Int)(a:R2):vlu (Ol xs) a=fat a.1 a.2 xs:=Zxc xs a.1 a.2
theorem Yea(n k:Nat)(hn:n≤24)(hk:k≤n):On prog 180 #[.int .i64 (n:Int),.int .i64 (k:Int)] [] (.int .i64 ((Fd n k:Nat):Int)):=by
 refine Yi func180 J ntmps180 J trivial fun w0 sc hw hsc=>?_
 simp only [Zu,Zt]
 refine Zb<|Ze<|Zp J<|Zc<|Za<|Zb<|Ze<|Zp J<|Zc<|Za<|Zb<|Zb<|Ze<|Zp J<|Zc<|Za<|Zo<|Oc [(0,_),(1,_)] [(0,_)] (fun(i:Nat)=>[(6,.int .i64 (i:Int)),(5,.int .i64 ((Fd n i:Nat):Int))]) (fun(i:Nat)=>[]) (fun(i:Nat)=>i≤k) (fun(i:Nat)=>k-i) 0 (by first | omega | (dsimp only<;>omega)) ⟨J,(by rw [Zpj]<;>rfl),J,J,trivial⟩ K1 ?_
 rintro i hi
 simp only [CA,NA]
 refine Zb<|Zb<|Ze<|mv J<|mv J<|dt (Xv J J J)<|Zc<|Za<|Zr J (fun h94=>?_) (fun h94=>?_)
 ·refine Zk<|Za<|Zb<|Zo ?_
  obtain⟨hm1,hm2⟩:=chz_mb hn (show i<n by omega)
  exact Ze<|mv J<|mv J<|mv J<|dt (Qd J J J)<|dt (Db J J J)<|mv J<|dt (Ys J J J)<|dt (Zie J J J)<|Zp J<|Zc<|Qn<|Za<|Ze<|mv J<|dt (Ys J J J)<|Zp J<|Zc<|Xk (i+1) (by first | omega | (dsimp only<;>omega)) (by first | omega | (dsimp only<;>omega)) ⟨J,(by rw [chz_q (n:=n) (i:=i) (by omega)]<;>rfl),J,J,trivial⟩ K1
 ·exact Yx<|Zx<|Zx<|Pd<|Za<|Zb<|Ze<|mv J<|Zp J<|Zc<|Za<|Zq<|xU hsc results180 J J (by rw [show i=k by omega])
theorem Yaf(v w u w2 u2:Value)(zs:List (Int×SL))(a b:R2)(hd:Cvd (Zj zs))(ha:Ef a)(hb:Ef b):On prog 147 #[v,.agg #[.bool (decide (a.1<0)),w,.bool (decide (a.2<0)),u],.agg #[.bool (decide (b.1<0)),w2,.bool (decide (b.2<0)),u2]] [pp v zs,Mw w a.1.natAbs,Mw u a.2.natAbs,Mw w2 b.1.natAbs,Mw u2 b.2.natAbs] (.bool (Zao (Zj zs) a b)):=by
 refine Yi func147 J ntmps147 J K5 fun w0 sc hw hsc=>?_
 simp only [Zu,Zt]
 have hli:=Yc zs
 have hv:=hd.v
 have ha1:=ha.b1
 have ha2:=ha.b2
 have hb1:=hb.b1
 have hb2:=hb.b2
 obtain⟨p1,p2,p3,p4,p5,p6,p7,p8⟩:=pl_sz hd ha hb
 have hlx:=hd.l
 have hmz:=Oi hd.s
 refine Zb<|Ze<|tt (Yw (i:=6) J J J J J hw) fun bx _=>tt (Yw (i:=7) J J J J J hw) fun bx_2 _=>Zp J<|Zc<|Za<|Zb<|Zb<|Ze<|mv J<|dt (Yf J J (i:=1) J Yg Pq)<|dt (Pj J J J)<|Zc<|Za<|Zr J (fun h102=>?_) (fun h102=>?_)
 ·exact Zb<|Ze<|Zp J<|Zc<|Za<|Zq<|Yn<|xU hsc results147 J J (by rw [Zmv (by omega)])
 ·have h0:(Zj zs).length≠0:=by omega
  refine Zk<|Za<|Iz [(0,_),(4,_),(5,_)] [(0,_),(1,_),(2,_),(3,_),(4,_),(5,_),(6,_),(7,_)] (fun(q:Value×Value×Nat×Nat)=>[(7,.pointer (some ⟨q.2.2.1,0,none⟩)),(8,.pointer (some ⟨q.2.2.2,0,none⟩))]) (fun(q:Value×Value×Nat×Nat)=>[(65,Mw q.1 (plx a b).natAbs),(66,Mw q.2.1 (ply a b).natAbs),(95,box q.2.2.1 48 #[.bool (decide ((plx a b)<0)),q.1]),(96,box q.2.2.2 48 #[.bool (decide ((ply a b)<0)),q.2.1])]) (fun(q:Value×Value×Nat×Nat)=>True) K3 K8 ?_ ?_
  ·refine Nm [6,7] [13]<|Ya (n:=6) [(0,0),(1,0),(2,0),(3,0),(5,0),(6,0),(7,0),(8,0)]<|Zs J J (Xm (Yv J J Zii J Yz J J) K2)<|Zs J J (Xm (Yb (i:=6) J J J Oy Yz J J) K2)<|Zs J J (Xm (Yv J J Zii J Yz J J) K2)<|Zs J J (Xm (Yb (i:=7) J J J Oy Yz J J) K2)<|Zs J J (Xm (Yv J J Zii J Yz J J) K2)<|Zs J J (Xm (Yb (i:=7) J J J Oy Yz J J) K2)<|Zs J J (Xm (Yv J J Zii J Yz J J) K2)<|Zs J J (Xm (Yb (i:=6) J J J Oy Yz J J) K2)<|Yl<|Dm (n:=5) 4 10 11 ?_ ?_ ?_
   ·refine Yj J (Zh (n:=65) (Kc _ _ a.1 b.2) J J J K2 Gp (Zd 2 J J J (Zd 5 J J J Zg)) J hw) fun v _=>Dm (n:=4) 9 10 11 ?_ ?_ ?_
    ·refine Yj J (Zh (n:=66) (Kc _ _ b.1 a.2) J J J K2 Gp (Zd 4 J J J (Zd 3 J J J Zg)) J hw) fun v_2 _=>Pb (n:=3) 10 11 ?_ ?_
     ·exact Yj J (Zv (i:=95) J J zeroValue48 J J hw K2) fun bx_3 ho=>Ya (n:=0) [(11,1),(12,1),(13,3)]<|Xb J (Zv (i:=96) J J zeroValue48 J J hw K2) fun bx_4 ho2=>Xb J (Zl (i:=95) J J J J J J Yz J J ⟨Zf J,Zn (i:=65) J Zi,trivial⟩ J hw ho) fun _ _=>Po J (Zl (i:=96) J J J J J J Yz J J ⟨Zf J,Zn (i:=66) J Zi,trivial⟩ J hw trivial) fun _ _=>Yl<|Yk<|Xo (v,v_2,_,_) trivial K5 K12
     ·exact Yj J (Zv (i:=96) J J zeroValue48 J J hw K2) fun bx_5 ho3=>Ya (n:=0) [(10,1),(12,1),(13,3)]<|Xb J (Zv (i:=95) J J zeroValue48 J J hw K2) fun bx_6 ho4=>Xb J (Zl (i:=95) J J J J J J Yz J J ⟨Zf J,Zn (i:=65) J Zi,trivial⟩ J hw ho4) fun _ _=>Po J (Zl (i:=96) J J J J J J Yz J J ⟨Zf J,Zn (i:=66) J Zi,trivial⟩ J hw trivial) fun _ _=>Yl<|Yk<|Xo (v,v_2,_,_) trivial K5 K12
    ·refine Yj J (Zv (i:=95) J J zeroValue48 J J hw K2) fun bx_7 ho5=>Pb (n:=3) 9 11 ?_ ?_
     ·exact Yj J (Zh (n:=66) (Kc _ _ b.1 a.2) J J J K2 Gp (Zd 4 J J J (Zd 3 J J J Zg)) J hw) fun v_3 _=>Ya (n:=0) [(11,1),(12,1),(13,3)]<|Xb J (Zv (i:=96) J J zeroValue48 J J hw K2) fun bx_8 ho6=>Xb J (Zl (i:=95) J J J J J J Yz J J ⟨Zf J,Zn (i:=65) J Zi,trivial⟩ J hw ho5) fun _ _=>Po J (Zl (i:=96) J J J J J J Yz J J ⟨Zf J,Zn (i:=66) J Zi,trivial⟩ J hw trivial) fun _ _=>Yl<|Yk<|Xo (v,v_3,_,_) trivial K5 K12
     ·exact Yj J (Zv (i:=96) J J zeroValue48 J J hw K2) fun bx_9 ho7=>Ya (n:=0) [(9,1),(12,1),(13,3)]<|Xb J (Zh (n:=66) (Kc _ _ b.1 a.2) J J J K2 Gp (Zd 4 J J J (Zd 3 J J J Zg)) J hw) fun v_4 _=>Xb J (Zl (i:=95) J J J J J J Yz J J ⟨Zf J,Zn (i:=65) J Zi,trivial⟩ J hw ho5) fun _ _=>Po J (Zl (i:=96) J J J J J J Yz J J ⟨Zf J,Zn (i:=66) J Zi,trivial⟩ J hw trivial) fun _ _=>Yl<|Yk<|Xo (v,v_4,_,_) trivial K5 K12
    ·refine Yj J (Zv (i:=96) J J zeroValue48 J J hw K2) fun bx_10 ho8=>Pb (n:=3) 9 10 ?_ ?_
     ·exact Yj J (Zh (n:=66) (Kc _ _ b.1 a.2) J J J K2 Gp (Zd 4 J J J (Zd 3 J J J Zg)) J hw) fun v_5 _=>Ya (n:=0) [(10,1),(12,1),(13,3)]<|Xb J (Zv (i:=95) J J zeroValue48 J J hw K2) fun bx_11 ho9=>Xb J (Zl (i:=95) J J J J J J Yz J J ⟨Zf J,Zn (i:=65) J Zi,trivial⟩ J hw ho9) fun _ _=>Po J (Zl (i:=96) J J J J J J Yz J J ⟨Zf J,Zn (i:=66) J Zi,trivial⟩ J hw trivial) fun _ _=>Yl<|Yk<|Xo (v,v_5,_,_) trivial K5 K12
     ·exact Yj J (Zv (i:=95) J J zeroValue48 J J hw K2) fun bx_12 ho10=>Ya (n:=0) [(9,1),(12,1),(13,3)]<|Xb J (Zh (n:=66) (Kc _ _ b.1 a.2) J J J K2 Gp (Zd 4 J J J (Zd 3 J J J Zg)) J hw) fun v_6 _=>Xb J (Zl (i:=95) J J J J J J Yz J J ⟨Zf J,Zn (i:=65) J Zi,trivial⟩ J hw ho10) fun _ _=>Po J (Zl (i:=96) J J J J J J Yz J J ⟨Zf J,Zn (i:=66) J Zi,trivial⟩ J hw trivial) fun _ _=>Yl<|Yk<|Xo (v,v_6,_,_) trivial K5 K12
   ·refine Yj J (Zv (i:=95) J J zeroValue48 J J hw K2) fun bx_13 ho11=>Pb (n:=4) 4 11 ?_ ?_
    ·refine Yj J (Zh (n:=65) (Kc _ _ a.1 b.2) J J J K2 Gp (Zd 2 J J J (Zd 5 J J J Zg)) J hw) fun v_7 _=>Pb (n:=3) 9 11 ?_ ?_
     ·exact Yj J (Zh (n:=66) (Kc _ _ b.1 a.2) J J J K2 Gp (Zd 4 J J J (Zd 3 J J J Zg)) J hw) fun v_8 _=>Ya (n:=0) [(11,1),(12,1),(13,3)]<|Xb J (Zv (i:=96) J J zeroValue48 J J hw K2) fun bx_14 ho12=>Xb J (Zl (i:=95) J J J J J J Yz J J ⟨Zf J,Zn (i:=65) J Zi,trivial⟩ J hw ho11) fun _ _=>Po J (Zl (i:=96) J J J J J J Yz J J ⟨Zf J,Zn (i:=66) J Zi,trivial⟩ J hw trivial) fun _ _=>Yl<|Yk<|Xo (v_7,v_8,_,_) trivial K5 K12
     ·exact Yj J (Zv (i:=96) J J zeroValue48 J J hw K2) fun bx_15 ho13=>Ya (n:=0) [(9,1),(12,1),(13,3)]<|Xb J (Zh (n:=66) (Kc _ _ b.1 a.2) J J J K2 Gp (Zd 4 J J J (Zd 3 J J J Zg)) J hw) fun v_9 _=>Xb J (Zl (i:=95) J J J J J J Yz J J ⟨Zf J,Zn (i:=65) J Zi,trivial⟩ J hw ho11) fun _ _=>Po J (Zl (i:=96) J J J J J J Yz J J ⟨Zf J,Zn (i:=66) J Zi,trivial⟩ J hw trivial) fun _ _=>Yl<|Yk<|Xo (v_7,v_9,_,_) trivial K5 K12
    ·exact Yj J (Zv (i:=96) J J zeroValue48 J J hw K2) fun bx_16 ho14=>Ya (n:=0) [(4,1),(9,1),(12,1),(13,3)]<|Xb J (Zh (n:=65) (Kc _ _ a.1 b.2) J J J K2 Gp (Zd 2 J J J (Zd 5 J J J Zg)) J hw) fun v_10 _=>Xb J (Zh (n:=66) (Kc _ _ b.1 a.2) J J J K2 Gp (Zd 4 J J J (Zd 3 J J J Zg)) J hw) fun v_11 _=>Xb J (Zl (i:=95) J J J J J J Yz J J ⟨Zf J,Zn (i:=65) J Zi,trivial⟩ J hw ho11) fun _ _=>Po J (Zl (i:=96) J J J J J J Yz J J ⟨Zf J,Zn (i:=66) J Zi,trivial⟩ J hw trivial) fun _ _=>Yl<|Yk<|Xo (v_10,v_11,_,_) trivial K5 K12
   ·refine Yj J (Zv (i:=96) J J zeroValue48 J J hw K2) fun bx_17 ho15=>Pb (n:=4) 4 10 ?_ ?_
    ·refine Yj J (Zh (n:=65) (Kc _ _ a.1 b.2) J J J K2 Gp (Zd 2 J J J (Zd 5 J J J Zg)) J hw) fun v_12 _=>Pb (n:=3) 9 10 ?_ ?_
     ·exact Yj J (Zh (n:=66) (Kc _ _ b.1 a.2) J J J K2 Gp (Zd 4 J J J (Zd 3 J J J Zg)) J hw) fun v_13 _=>Ya (n:=0) [(10,1),(12,1),(13,3)]<|Xb J (Zv (i:=95) J J zeroValue48 J J hw K2) fun bx_18 ho16=>Xb J (Zl (i:=95) J J J J J J Yz J J ⟨Zf J,Zn (i:=65) J Zi,trivial⟩ J hw ho16) fun _ _=>Po J (Zl (i:=96) J J J J J J Yz J J ⟨Zf J,Zn (i:=66) J Zi,trivial⟩ J hw trivial) fun _ _=>Yl<|Yk<|Xo (v_12,v_13,_,_) trivial K5 K12
     ·exact Yj J (Zv (i:=95) J J zeroValue48 J J hw K2) fun bx_19 ho17=>Ya (n:=0) [(9,1),(12,1),(13,3)]<|Xb J (Zh (n:=66) (Kc _ _ b.1 a.2) J J J K2 Gp (Zd 4 J J J (Zd 3 J J J Zg)) J hw) fun v_14 _=>Xb J (Zl (i:=95) J J J J J J Yz J J ⟨Zf J,Zn (i:=65) J Zi,trivial⟩ J hw ho17) fun _ _=>Po J (Zl (i:=96) J J J J J J Yz J J ⟨Zf J,Zn (i:=66) J Zi,trivial⟩ J hw trivial) fun _ _=>Yl<|Yk<|Xo (v_12,v_14,_,_) trivial K5 K12
    ·exact Yj J (Zv (i:=95) J J zeroValue48 J J hw K2) fun bx_20 ho18=>Ya (n:=0) [(4,1),(9,1),(12,1),(13,3)]<|Xb J (Zh (n:=65) (Kc _ _ a.1 b.2) J J J K2 Gp (Zd 2 J J J (Zd 5 J J J Zg)) J hw) fun v_15 _=>Xb J (Zh (n:=66) (Kc _ _ b.1 a.2) J J J K2 Gp (Zd 4 J J J (Zd 3 J J J Zg)) J hw) fun v_16 _=>Xb J (Zl (i:=95) J J J J J J Yz J J ⟨Zf J,Zn (i:=65) J Zi,trivial⟩ J hw ho18) fun _ _=>Po J (Zl (i:=96) J J J J J J Yz J J ⟨Zf J,Zn (i:=66) J Zi,trivial⟩ J hw trivial) fun _ _=>Yl<|Yk<|Xo (v_15,v_16,_,_) trivial K5 K12
  ·rintro⟨w5,w6,b7,b8⟩ -
   simp only [CA,NA]
   refine Zb<|Qs (fun _=>False) [(0,0),(1,0),(2,0),(3,0),(5,0),(6,0),(7,0),(8,0),(4,1),(9,1),(10,1),(11,3)] ?_ ?_
   ·kernel_rfl
   refine Zs J J (Yt (Yd J J))<|Zs J J (Yt (Yb (i:=95) J J J Oy Yz J J))<|Zs J J (Yt (Yb (i:=96) J J J Oy Yz J J))<|Zs J J (Yt (Yb (i:=95) J J J Oy Yz J J))<|Zs J J (Yt (Yv J J Zii J Yz J J))<|Zs J J (Yt (Yb (i:=6) J J J Oy Yz J J))<|Zs J J (Yt (Yv J J Zii J Yz J J))<|Zs J J (Yt (Yb (i:=7) J J J Oy Yz J J))<|Xb J (Zh (n:=8) (Zgf _ _ (ply a b) (plx a b)) J J J K2 call87 (Zd 66 J J J (Zd 65 J J J Zg)) J hw) fun v_17 _=>Xb J (Zh (n:=9) (Kc _ _ a.2 b.2) J J J K2 Gp (Zd 3 J J J (Zd 5 J J J Zg)) J hw) fun v_18 _=>Xb J (Zh (n:=10) (Zs3 _ _ _ _ _ (plx a b) ((ply a b)-(plx a b)) (pld a b) 1025 (by omega) (by omega) (by omega) (show bl (pld a b).natAbs≤1025 by omega) (by have:=Nat.mul_le_mul (show zs.length≤7 by omega) (show 1025+1≤1026 by omega);omega)) J J J K4 call179 (Zd 1 J J J (Zd 65 J J J (Zd 8 J J J (Zd 9 J J J Zg)))) J hw) fun g hg=>Po J (Od (Mb J J) J) fun _ _=>Ob<|Za<|Zb ?_
   have hCz:Zj g.2=(Fl (Zj zs) a b):=hg
   have hcl:=congrArg List.length hCz
   rw [Yc]at hcl
   refine Ze<|mv J<|dt (Yf J J (i:=1) J Yg Pq)<|dt (Qd J J J)<|Zp J<|Zc<|Za<|Zb<|Zb<|Ze<|Zp J<|Zc<|Za<|Zo<|Oc [(9,_),(10,_)] [(0,_),(65,_),(66,_),(95,_),(96,_),(1,_),(2,_),(3,_),(4,_),(5,_),(6,_),(7,_),(8,_),(9,_),(10,_)] (fun(j:Nat)=>[(11,.int .i64 (j:Int))]) (fun(j:Nat)=>[]) (fun(j:Nat)=>(j≤(Zj zs).length)∧(∀k,k<j→0≤Cp (Fl (Zj zs) a b) ((Zj zs).length-1) k (min (k+1) (Fl (Zj zs) a b).length))) (fun(j:Nat)=>(Zj zs).length-j) 0 ⟨by first | omega | (dsimp only<;>omega),fun k hk=>absurd hk (Nat.not_lt_zero k)⟩ K3 K15 ?_
   rintro j ⟨hj,hz⟩
   simp only [CA,NA]
   refine Zb<|Zb<|Ze<|mv J<|mv J<|dt (Dc J J J)<|Zc<|Za<|Zr J (fun h108=>?_) (fun h108=>?_)
   ·refine Zk<|Za<|Zb<|Zo<|Zb<|Ze<|dt (Oq (ivs:=[]) J trivial (fun a w hs=>Zyu))<|tt (Zy (i:=11) J J zeroValue48 J J hw) fun bx_21 _=>tt (Zl (i:=11) J J J J J J Yz J J ⟨Zf J,Zf J,trivial⟩ J hw trivial) fun _ _=>Zc<|Za<|Zb<|Zb<|Ze<|Zp J<|Zc<|Za<|Zo<|Yo (Np 98 1 3 Ht)<|Yo (Pg 98 J J pN)<|Oc [(9,_),(10,_),(11,_),(12,_)] [(0,_),(65,_),(66,_),(95,_),(96,_),(1,_),(2,_),(3,_),(4,_),(5,_),(6,_),(7,_),(8,_),(9,_),(10,_)] (fun(q:Nat×Value)=>[(13,.int .i64 (q.1:Int))]) (fun(q:Nat×Value)=>[(11,box bx_21 48 #[.bool (decide ((Cp (Fl (Zj zs) a b) ((Zj zs).length-1) j q.1)<0)),q.2]),(98,Mw q.2 (Cp (Fl (Zj zs) a b) ((Zj zs).length-1) j q.1).natAbs)]) (fun(q:Nat×Value)=>(q.1≤j+1)∧(q.1≤(Fl (Zj zs) a b).length)) (fun(q:Nat×Value)=>j+1-q.1) (0,.slice none 0 0) ⟨by first | omega | (dsimp only<;>omega),by first | omega | (dsimp only<;>omega)⟩ K5 K17 ?_
    rintro⟨i,vs⟩ ⟨hi1,hi2⟩
    dsimp only at hi1 hi2
    simp only [CA,NA]
    have hch:=Znc (n:=((Zj zs).length-1)-i) (k:=j-i) 
    have hcb:=Zt1 (n:=((Zj zs).length-1)-i) (k:=j-i) (by omega)
    have htb:bl (cf (Fl (Zj zs) a b) i*((Fd (((Zj zs).length-1)-i) (j-i):Nat):Int)).natAbs≤7025:=Zbl (p7 i) hcb
    have hsb:=Zb0 (d:=((Zj zs).length-1)) (j:=j) p7 (by omega) i
    have hci:=Nx g.2 i
    rw [hCz]at hci
    refine Zb<|Zb<|Ze<|mv J<|mv J<|dt (Dc J J J)<|mv J<|Pf (d:=50) J (fun s110=>?_) (fun s110=>?_)
    ·refine Xh (Yd J J) J J<|Xh (Yd J J) J J<|Xh (Yf J J (i:=10) J Yg Pq) J J<|Xh (Xv J J J) J J<|dt (Yy J J J)<|Zc<|Za<|Zr J (fun h110=>?_) (fun h110=>?_)
     ·refine Zk<|Za<|Zb<|Zo<|Qs (fun _=>False) [(0,0),(1,0),(2,0),(3,0),(4,0),(5,0),(6,0),(7,0),(8,0),(9,0),(10,0),(11,1),(12,1),(13,1),(14,1),(15,3)] ?_ ?_
      ·kernel_rfl
      refine Zs J J (Yt (Yb (i:=11) J J J Oy Yz J J))<|Zs J J (Yt (Yd J J))<|Zs J J (Yt (Yd J J))<|Zs J J (Yt (Xc (ii:=10) J J J J Yg Pq Yz J (by first | omega | (simp only [List.length_set];omega))))<|Zs J J (Yt (Xr (ii:=10) I0 J J J Yg pI (by first | omega | (simp only [List.length_set];omega))))<|Zs J J (Yt (Yd J J))<|Zs J J (Yt (Yd J J))<|Zs J J (Yt (Eb (r':= .int .i64 ((((Zj zs).length-1)-i:Nat):Int)) (Qd J J J) (congrArg (Value.int .i64) (by omega))))<|Zs J J (Yt (Yd J J))<|Zs J J (Yt (Yd J J))<|Zs J J (Yt (Eb (r':= .int .i64 ((j-i:Nat):Int)) (Qd J J J) (congrArg (Value.int .i64) (by omega))))<|Xb J (Zh (n:=11) (Yea (((Zj zs).length-1)-i) (j-i) (by omega) (by omega)) J J J K2 call180 Zg J hw) fun _ _=>Xb J (Zh (n:=12) (Zgg ((Fd (((Zj zs).length-1)-i) (j-i):Nat):Int)) J J J K1 call34 Zg J hw) fun v_19 _=>Xb J (Zh (n:=13) (Kc _ _ _ ((Fd (((Zj zs).length-1)-i) (j-i):Nat):Int) (by rw [hci];have:=p7 i;omega)) J J J K2 Gp (Nf 10 J J (Xj) (Zd 12 J J J Zg)) J hw) (fun v_20 _=>?_)
      exact Xb J (Zh (n:=14) (Zmr _ _ (Cp (Fl (Zj zs) a b) ((Zj zs).length-1) j i) _ (by omega) (by rw [hci];omega)) J J J K2 call37 (Zd 98 J J J (Zd 13 J J J Zg)) J hw) fun v_21 _=>Po J (Zl (i:=11) J J J J J J Yz J J ⟨Zf J,Zn (i:=14) J Zi,trivial⟩ J hw trivial) fun _ _=>Ob<|Qn<|Za<|Ze<|mv J<|dt (Ys J J J)<|Zp J<|Zc<|Qu (Pu 14 98 J J J)<|Xk (i+1,v_21) ⟨by first | omega | (dsimp only<;>omega),by first | omega | (dsimp only<;>omega)⟩ (by first | omega | (dsimp only<;>omega)) K5 ⟨by rw [Zd3,←hci];rfl,by rw [Zd3,←hci];rfl,rfl,rfl,rfl,rfl,rfl,rfl,rfl,rfl,rfl,rfl,rfl,rfl,rfl,rfl,rfl,trivial⟩
     ·refine Yx<|Zx<|Zx<|Pd<|Za<|Zb ?_
      obtain rfl:i=(min (j+1) (Fl (Zj zs) a b).length):=by omega
      have hsb9:=Zb0 (d:=((Zj zs).length-1)) (j:=j) p7 (by omega) (min (j+1) (Fl (Zj zs) a b).length)
      refine Ze<|dt (Yb (i:=11) J J J Oy Yz J J)<|tt (Zh (n:=14) (Dw _ (Cp (Fl (Zj zs) a b) ((Zj zs).length-1) j (min (j+1) (Fl (Zj zs) a b).length))) J J J K1 call72 (Zd 98 J J J Zg) J hw) fun _ _=>dt (Xv J J J)<|Zc<|Za<|Zr J (fun h113=>?_) (fun h113=>?_)
      ·have hpn:=(Qz _).1 h113
       exact Zb<|Ze<|Zp J<|Zc<|Za<|Zq<|Nq<|Yn<|Yn<|Nq<|Yn<|xU hsc results147 J J (by rw [Zi2 h0 (by omega) hpn])
      ·have hpi:¬(Cp (Fl (Zj zs) a b) ((Zj zs).length-1) j (min (j+1) (Fl (Zj zs) a b).length))<0:=fun e=>h113 ((Qz _).2 e)
       exact Zk<|Qn<|Za<|Ze<|mv J<|dt (Ys J J J)<|Zp J<|Zc<|Xk (j+1) ⟨by first | omega | (dsimp only<;>omega),fun k hk2=>by rcases Nat.lt_succ_iff_lt_or_eq.1 hk2 with h9 | h9;exact hz k h9;subst h9;have h8:=hpi;omega⟩ (by first | omega | (dsimp only<;>omega)) K3 K15
    ·refine Xt J J J<|Xt J J J<|Xt J J J<|Xt J J J<|dt (Yh J J J)<|Zc<|Za<|Yp J<|Yx<|Zx<|Zx<|Pd<|Za<|Zb ?_
     obtain rfl:i=(min (j+1) (Fl (Zj zs) a b).length):=by omega
     have hsb9:=Zb0 (d:=((Zj zs).length-1)) (j:=j) p7 (by omega) (min (j+1) (Fl (Zj zs) a b).length)
     refine Ze<|dt (Yb (i:=11) J J J Oy Yz J J)<|tt (Zh (n:=14) (Dw _ (Cp (Fl (Zj zs) a b) ((Zj zs).length-1) j (min (j+1) (Fl (Zj zs) a b).length))) J J J K1 call72 (Zd 98 J J J Zg) J hw) fun _ _=>dt (Xv J J J)<|Zc<|Za<|Zr J (fun h113_2=>?_) (fun h113_2=>?_)
     ·have hpn:=(Qz _).1 h113_2
      exact Zb<|Ze<|Zp J<|Zc<|Za<|Zq<|Nq<|Yn<|Yn<|Nq<|Yn<|xU hsc results147 J J (by rw [Zi2 h0 (by omega) hpn])
     ·have hpi:¬(Cp (Fl (Zj zs) a b) ((Zj zs).length-1) j (min (j+1) (Fl (Zj zs) a b).length))<0:=fun e=>h113_2 ((Qz _).2 e)
      exact Zk<|Qn<|Za<|Ze<|mv J<|dt (Ys J J J)<|Zp J<|Zc<|Xk (j+1) ⟨by first | omega | (dsimp only<;>omega),fun k hk2=>by rcases Nat.lt_succ_iff_lt_or_eq.1 hk2 with h9 | h9;exact hz k h9;subst h9;have h8:=hpi;omega⟩ (by first | omega | (dsimp only<;>omega)) K3 K15
   ·exact Yx<|Zx<|Zx<|Pd<|Za<|Zb<|Ze<|Zp J<|Zc<|Za<|Zq<|xU hsc results147 J J (by rw [Zvj h0 (fun k hk=>hz k (by omega))])
theorem Yae(v w u w2 u2:Value)(zs:List (Int×SL))(k:Int)(a b:R2)(hd:Cvd (Zj zs))(ha:Ef a)(hb:Ef b):On prog 98 #[v,.int .i64 k,.agg #[.bool (decide (a.1<0)),w,.bool (decide (a.2<0)),u],.agg #[.bool (decide (b.1<0)),w2,.bool (decide (b.2<0)),u2]] [pp v zs,Mw w a.1.natAbs,Mw u a.2.natAbs,Mw w2 b.1.natAbs,Mw u2 b.2.natAbs] (.bool (shw (Zj zs) (k,a,b))):=by
 refine Yi func98 J ntmps98 J K5 fun w0 sc hw hsc=>?_
 simp only [Zu,Zt]
 have hli:=Yc zs
 have hd7:=hd.l
 have hdz:Sz 1000000 (Zj zs):=hd.v.sz.mono (by omega)
 have ha1:=ha.b1
 have ha2:=ha.b2
 have hb1:=hb.b1
 have hb2:=hb.b2
 refine Zb<|Ze<|tt (Yw (i:=6) J J J J J hw) fun bx _=>tt (Yw (i:=7) J J J J J hw) fun bx_2 _=>Zp J<|Zc<|Za<|Zb<|Zb<|Ze<|mv J<|dt (Pj J J J)<|Zc<|Za<|Zr J (fun h122=>?_) (fun h122=>?_)
 ·exact Zb<|Ze<|mv J<|dt (Ym (i:=6) J J J Gc Ml J J J J)<|dt (Ym (i:=7) J J J Gc Ml J J J J)<|tt (Zh (n:=7) (Yaf _ _ _ _ _ _ a b hd ha hb) J J J K3 call147 (Zd 1 J J J (Zd 2 J J J (Zd 3 J J J (Zd 4 J J J (Zd 5 J J J Zg))))) J hw) fun _ _=>Zp J<|Zc<|Za<|Zq<|Yn<|xU hsc results98 J J (by rw [Zeo (show k=1 by assumption)])
 ·refine Zk<|Za<|Zb<|Zb<|Ze<|mv J<|dt (Yf J J (i:=1) J Yg Pq)<|dt (Pj J J J)<|mv J<|Pf (d:=18) J (fun s125=>?_) (fun s125=>?_)
  ·exact Xt J J J<|Xt J J J<|Xt J J J<|Xt J J J<|dt (Yy J J J)<|Zc<|Za<|Pv J<|Zb<|Ze<|mv J<|dt (Ym (i:=6) J J J Gc Ml J J J J)<|tt (Zh (n:=7) (Za1 _ _ _ _ a.1 a.2 (by omega) (by omega) hdz) J J J K2 call65 (Zd 1 J J J (Zd 2 J J J (Zd 3 J J J Zg))) J hw) fun _ _=>dt (Lg J J J)<|Zp J<|Zc<|Za<|Zq<|Yn<|xU hsc results98 J J (by rw [Zcr (show ¬k=1 by assumption) (by first | exact .inl (by omega) | exact .inr ‹_›),vlu_x])
  ·refine Xh (Ym (i:=6) J J J Gc Ml J J J J) J J<|Xh (Ym (i:=7) J J J Gc Ml J J J J) J J<|Lz (Zh (n:=7) (Gk _ _ _ _ a.1 a.2 b.1 b.2) J J J K2 call27 (Zd 2 J J J (Zd 3 J J J (Zd 4 J J J (Zd 5 J J J Zg)))) J hw) J J J fun _ _=>Xh (Pj J J J) J J<|dt (Yh J J J)<|Zc<|Za<|Zr J (fun h125=>?_) (fun h125=>?_)
   ·exact Zb<|Ze<|mv J<|dt (Ym (i:=6) J J J Gc Ml J J J J)<|tt (Zh (n:=7) (Za1 _ _ _ _ a.1 a.2 (by omega) (by omega) hdz) J J J K2 call65 (Zd 1 J J J (Zd 2 J J J (Zd 3 J J J Zg))) J hw) fun _ _=>dt (Lg J J J)<|Zp J<|Zc<|Za<|Zq<|Yn<|xU hsc results98 J J (by rw [Zcr (show ¬k=1 by assumption) (by first | exact .inl (by omega) | exact .inr ‹_›),vlu_x])
   ·refine Zk<|Za<|Zb<|Ze<|mv J<|dt (Ym (i:=6) J J J Gc Ml J J J J)<|tt (Zh (n:=7) (Zqw a.1 a.2 (by omega) (by omega) _ _ _ _ _ 70 hd.v hd.s (by omega) (Nat.lt_succ_self _)) J J J K2 call66 (Zd 1 J J J (Zd 2 J J J (Zd 3 J J J Zg))) J hw) fun _ _=>dt (Pw J J J)<|mv J<|Pf (d:=32) J (fun s128=>?_) (fun s128=>?_)
    ·exact Xh (Yd J J) J J<|Xh (Ym (i:=6) J J J Gc Ml J J J J) J J<|Xh (Ym (i:=7) J J J Gc Ml J J J J) J J<|Lz (Zh (n:=7) (Zs9 _ _ _ _ _ _ a.1 a.2 b.1 b.2 (by omega) (by omega) (by omega) (by omega) hb.p hd) J J J K3 call67 (Zd 1 J J J (Zd 2 J J J (Zd 3 J J J (Zd 4 J J J (Zd 5 J J J Zg))))) J hw) J J J fun _ _=>Xh (Xl J J) J J<|dt (Yy J J J)<|Zp J<|Zc<|Za<|Zq<|xU hsc results98 J J (by rw [Zcs (show ¬k=1 by assumption) (by omega) ‹_›];first | rfl | (rw [decide_eq_true (p:=0<aft (Ol (Zj zs)) a) ‹_›];rfl) | (rw [decide_eq_false (p:=0<aft (Ol (Zj zs)) a) ‹_›];rfl))
    ·exact Xt J J J<|Xt J J J<|Xt J J J<|Xt J J J<|Xt J J J<|dt (Yh J J J)<|Zp J<|Zc<|Za<|Zq<|xU hsc results98 J J (by rw [Zcs (show ¬k=1 by assumption) (by omega) ‹_›];first | rfl | (rw [decide_eq_true (p:=0<aft (Ol (Zj zs)) a) ‹_›];rfl) | (rw [decide_eq_false (p:=0<aft (Ol (Zj zs)) a) ‹_›];rfl))
theorem Zxs(v w u w2 u2 p9:Value)(zs:List (Int×SL))(ps:List PTs)(a b:R2)(hd:Cvd (Zj zs))(ha:Ef a)(hb:Ef b)(hp:Zsm ps):On prog 40 #[v,.agg #[.bool (decide (a.1<0)),w,.bool (decide (a.2<0)),u],.agg #[.bool (decide (b.1<0)),w2,.bool (decide (b.2<0)),u2],p9] [pp v zs,Mw w a.1.natAbs,Mw u a.2.natAbs,Mw w2 b.1.natAbs,Mw u2 b.2.natAbs,Px 9 Zaf p9 ps] (.bool (Zem (Zj zs) ps a b)):=by
 refine Yi func40 J ntmps40 J K6 fun w0 sc hw hsc=>?_
 simp only [Zu,Zt]
 refine Nl (Kk (i:=6) J Zi) (fun hlen=>?_)
 have hli:=Yc zs
 have hb1:=hb.b1
 have hb2:=hb.b2
 refine Zb<|Ze<|tt (Yw (i:=7) J J J J J hw) fun bx _=>tt (Yw (i:=8) J J J J J hw) fun bx_2 _=>Zp J<|Zc<|Za<|Zb<|Ze<|dt (Ym (i:=7) J J J Gc Ml J J J J)<|tt (Zy (i:=9) J J zeroValue50 J J hw) fun bx_3 _=>tt (Zl (i:=9) J J J J J J Ml J J ⟨Zf J,Zn (i:=2) J Zi,Zf J,Zn (i:=3) J Zi,trivial⟩ J hw trivial) fun _ _=>Zc<|Za<|Zb<|Zb<|Ze<|Zp J<|Zc<|Za<|Zo<|Yo (Pu 2 61 J J J)<|Yo (Pu 3 62 J J J)<|Oc [(0,_),(3,_),(6,_),(9,_)] [(0,_),(1,_),(2,_),(3,_),(4,_),(5,_),(6,_),(7,_),(8,_)] (fun(q:Nat×Value×Value)=>[(10,.int .i64 (q.1:Int))]) (fun(q:Nat×Value×Value)=>[(61,Mw q.2.1 (lst a ps q.1).1.natAbs),(62,Mw q.2.2 (lst a ps q.1).2.natAbs),(9,box bx_3 50 #[.bool (decide ((lst a ps q.1).1<0)),q.2.1,.bool (decide ((lst a ps q.1).2<0)),q.2.2])]) (fun(q:Nat×Value×Value)=>(q.1≤ps.length)∧(∀k,k<q.1→Zil (Zj zs) (lst a ps k) (ps.getD k P0)=true)) (fun(q:Nat×Value×Value)=>ps.length-q.1) (0,w,u) ⟨by first | omega | (dsimp only<;>omega),fun k hk=>absurd hk (Nat.not_lt_zero k)⟩ K5 K12 ?_
 rintro⟨i,w5,w6⟩ ⟨hi,hK⟩
 dsimp only at hi hK
 simp only [CA,NA]
 have hlE:=Ybr ha hp hi
 have hl1:=hlE.b1
 have hl2:=hlE.b2
 refine Zb<|Zb<|Ze<|mv J<|mv J<|dt (Yf J J (i:=6) J Zi Dn)<|dt (Xv J J J)<|Zc<|Za<|Zr J (fun h134=>?_) (fun h134=>?_)
 ·refine Zk<|Za<|Zb<|Zo<|Iz [(0,_),(3,_),(6,_),(9,_),(10,_)] [(0,_),(61,_),(62,_),(9,_),(1,_),(2,_),(3,_),(4,_),(5,_),(6,_),(7,_),(8,_)] (fun(q:Value×Value×Value×Value×Nat×Nat)=>[(11,.pointer (some ⟨q.2.2.2.2.1,0,none⟩)),(12,.pointer (some ⟨q.2.2.2.2.2,0,none⟩))]) (fun(q:Value×Value×Value×Value×Nat×Nat)=>[(63,Mw q.1 (ps.getD i P0).2.1.1.natAbs),(64,Mw q.2.1 (ps.getD i P0).2.1.2.natAbs),(65,Mw q.2.2.1 (ps.getD i P0).2.2.1.natAbs),(66,Mw q.2.2.2.1 (ps.getD i P0).2.2.2.natAbs),(97,box q.2.2.2.2.1 50 #[.bool (decide ((ps.getD i P0).2.1.1<0)),q.1,.bool (decide ((ps.getD i P0).2.1.2<0)),q.2.1]),(98,box q.2.2.2.2.2 50 #[.bool (decide ((ps.getD i P0).2.2.1<0)),q.2.2.1,.bool (decide ((ps.getD i P0).2.2.2<0)),q.2.2.2.1])]) (fun(q:Value×Value×Value×Value×Nat×Nat)=>True) K5 K12 ?_ ?_
  ·obtain⟨hk,hf1,hf2⟩:=hp (ps.getD i P0) (Xj)
   have hf11:=hf1.b1
   have hf12:=hf1.b2
   have hf1p:=hf1.p
   have hf21:=hf2.b1
   have hf22:=hf2.b2
   have hf2p:=hf2.p
   refine Nm [6] [15]<|Ya (n:=6) [(0,0),(1,0),(2,0),(3,0),(4,0),(6,0),(7,0),(8,0),(9,0),(10,0)]<|Zs J J (Xm (Yd J J) K1)<|Zs J J (Xm (Yd J J) K1)<|Zs J J (Xm (Xc (ii:=6) J J J J Zi Dn Zji J (by first | omega | (simp only [List.length_set];omega))) K1)<|Zs J J (Xm (Zwh (ii:=6) J J J Zi Iv J Yr J) K1)<|Zs J J (Xm (Ycn (ii:=6) P0 J J J Zi Xq Yr J J J J) K1)<|Zs J J (Xm (Yd J J) K1)<|Zs J J (Xm (Yd J J) K1)<|Zs J J (Xm (Xc (ii:=6) J J J J Zi Dn Zji J (by first | omega | (simp only [List.length_set];omega))) K1)<|Zs J J (Xm (Zwh (ii:=6) J J J Zi Iv J Yr J) K1)<|Zs J J (Xm (Ycn (ii:=6) P0 J J J Zi Xq Yr J J J J) K1)<|Yl<|Dm (n:=5) 5 12 13 ?_ ?_ ?_
   ·refine Yj J (Zh (n:=63) (Ox (ps.getD i P0).2.1.1 (ps.getD i P0).2.1.2) J J J K1 Zbk Zg J hw) fun g _=>Dm (n:=4) 11 12 13 ?_ ?_ ?_
    ·refine Yj J (Zh (n:=65) (Ox (ps.getD i P0).2.2.1 (ps.getD i P0).2.2.2) J J J K1 Zbk Zg J hw) fun g_2 _=>Pb (n:=3) 12 13 ?_ ?_
     ·exact Yj J (Zv (i:=97) J J zeroValue50 J J hw K1) fun bx_4 ho=>Ya (n:=0) [(13,1),(14,1),(15,3)]<|Xb J (Zv (i:=98) J J zeroValue50 J J hw K1) fun bx_5 ho2=>Xb J (Zl (i:=97) J J J J J J Ml J J ⟨Zf J,Zn (i:=63) J Zi,Zf J,Zn (i:=64) J Zi,trivial⟩ J hw ho) fun _ _=>Po J (Zl (i:=98) J J J J J J Ml J J ⟨Zf J,Zn (i:=65) J Zi,Zf J,Zn (i:=66) J Zi,trivial⟩ J hw trivial) fun _ _=>Yl<|Yk<|Xo (g.1,g.2,g_2.1,g_2.2,_,_) trivial K7 K18
     ·exact Yj J (Zv (i:=98) J J zeroValue50 J J hw K1) fun bx_6 ho3=>Ya (n:=0) [(12,1),(14,1),(15,3)]<|Xb J (Zv (i:=97) J J zeroValue50 J J hw K1) fun bx_7 ho4=>Xb J (Zl (i:=97) J J J J J J Ml J J ⟨Zf J,Zn (i:=63) J Zi,Zf J,Zn (i:=64) J Zi,trivial⟩ J hw ho4) fun _ _=>Po J (Zl (i:=98) J J J J J J Ml J J ⟨Zf J,Zn (i:=65) J Zi,Zf J,Zn (i:=66) J Zi,trivial⟩ J hw trivial) fun _ _=>Yl<|Yk<|Xo (g.1,g.2,g_2.1,g_2.2,_,_) trivial K7 K18
    ·refine Yj J (Zv (i:=97) J J zeroValue50 J J hw K1) fun bx_8 ho5=>Pb (n:=3) 11 13 ?_ ?_
     ·exact Yj J (Zh (n:=65) (Ox (ps.getD i P0).2.2.1 (ps.getD i P0).2.2.2) J J J K1 Zbk Zg J hw) fun g_3 _=>Ya (n:=0) [(13,1),(14,1),(15,3)]<|Xb J (Zv (i:=98) J J zeroValue50 J J hw K1) fun bx_9 ho6=>Xb J (Zl (i:=97) J J J J J J Ml J J ⟨Zf J,Zn (i:=63) J Zi,Zf J,Zn (i:=64) J Zi,trivial⟩ J hw ho5) fun _ _=>Po J (Zl (i:=98) J J J J J J Ml J J ⟨Zf J,Zn (i:=65) J Zi,Zf J,Zn (i:=66) J Zi,trivial⟩ J hw trivial) fun _ _=>Yl<|Yk<|Xo (g.1,g.2,g_3.1,g_3.2,_,_) trivial K7 K18
     ·exact Yj J (Zv (i:=98) J J zeroValue50 J J hw K1) fun bx_10 ho7=>Ya (n:=0) [(11,1),(14,1),(15,3)]<|Xb J (Zh (n:=65) (Ox (ps.getD i P0).2.2.1 (ps.getD i P0).2.2.2) J J J K1 Zbk Zg J hw) fun g_4 _=>Xb J (Zl (i:=97) J J J J J J Ml J J ⟨Zf J,Zn (i:=63) J Zi,Zf J,Zn (i:=64) J Zi,trivial⟩ J hw ho5) fun _ _=>Po J (Zl (i:=98) J J J J J J Ml J J ⟨Zf J,Zn (i:=65) J Zi,Zf J,Zn (i:=66) J Zi,trivial⟩ J hw trivial) fun _ _=>Yl<|Yk<|Xo (g.1,g.2,g_4.1,g_4.2,_,_) trivial K7 K18
    ·refine Yj J (Zv (i:=98) J J zeroValue50 J J hw K1) fun bx_11 ho8=>Pb (n:=3) 11 12 ?_ ?_
     ·exact Yj J (Zh (n:=65) (Ox (ps.getD i P0).2.2.1 (ps.getD i P0).2.2.2) J J J K1 Zbk Zg J hw) fun g_5 _=>Ya (n:=0) [(12,1),(14,1),(15,3)]<|Xb J (Zv (i:=97) J J zeroValue50 J J hw K1) fun bx_12 ho9=>Xb J (Zl (i:=97) J J J J J J Ml J J ⟨Zf J,Zn (i:=63) J Zi,Zf J,Zn (i:=64) J Zi,trivial⟩ J hw ho9) fun _ _=>Po J (Zl (i:=98) J J J J J J Ml J J ⟨Zf J,Zn (i:=65) J Zi,Zf J,Zn (i:=66) J Zi,trivial⟩ J hw trivial) fun _ _=>Yl<|Yk<|Xo (g.1,g.2,g_5.1,g_5.2,_,_) trivial K7 K18
     ·exact Yj J (Zv (i:=97) J J zeroValue50 J J hw K1) fun bx_13 ho10=>Ya (n:=0) [(11,1),(14,1),(15,3)]<|Xb J (Zh (n:=65) (Ox (ps.getD i P0).2.2.1 (ps.getD i P0).2.2.2) J J J K1 Zbk Zg J hw) fun g_6 _=>Xb J (Zl (i:=97) J J J J J J Ml J J ⟨Zf J,Zn (i:=63) J Zi,Zf J,Zn (i:=64) J Zi,trivial⟩ J hw ho10) fun _ _=>Po J (Zl (i:=98) J J J J J J Ml J J ⟨Zf J,Zn (i:=65) J Zi,Zf J,Zn (i:=66) J Zi,trivial⟩ J hw trivial) fun _ _=>Yl<|Yk<|Xo (g.1,g.2,g_6.1,g_6.2,_,_) trivial K7 K18
   ·refine Yj J (Zv (i:=97) J J zeroValue50 J J hw K1) fun bx_14 ho11=>Pb (n:=4) 5 13 ?_ ?_
    ·refine Yj J (Zh (n:=63) (Ox (ps.getD i P0).2.1.1 (ps.getD i P0).2.1.2) J J J K1 Zbk Zg J hw) fun g_7 _=>Pb (n:=3) 11 13 ?_ ?_
     ·exact Yj J (Zh (n:=65) (Ox (ps.getD i P0).2.2.1 (ps.getD i P0).2.2.2) J J J K1 Zbk Zg J hw) fun g_8 _=>Ya (n:=0) [(13,1),(14,1),(15,3)]<|Xb J (Zv (i:=98) J J zeroValue50 J J hw K1) fun bx_15 ho12=>Xb J (Zl (i:=97) J J J J J J Ml J J ⟨Zf J,Zn (i:=63) J Zi,Zf J,Zn (i:=64) J Zi,trivial⟩ J hw ho11) fun _ _=>Po J (Zl (i:=98) J J J J J J Ml J J ⟨Zf J,Zn (i:=65) J Zi,Zf J,Zn (i:=66) J Zi,trivial⟩ J hw trivial) fun _ _=>Yl<|Yk<|Xo (g_7.1,g_7.2,g_8.1,g_8.2,_,_) trivial K7 K18
     ·exact Yj J (Zv (i:=98) J J zeroValue50 J J hw K1) fun bx_16 ho13=>Ya (n:=0) [(11,1),(14,1),(15,3)]<|Xb J (Zh (n:=65) (Ox (ps.getD i P0).2.2.1 (ps.getD i P0).2.2.2) J J J K1 Zbk Zg J hw) fun g_9 _=>Xb J (Zl (i:=97) J J J J J J Ml J J ⟨Zf J,Zn (i:=63) J Zi,Zf J,Zn (i:=64) J Zi,trivial⟩ J hw ho11) fun _ _=>Po J (Zl (i:=98) J J J J J J Ml J J ⟨Zf J,Zn (i:=65) J Zi,Zf J,Zn (i:=66) J Zi,trivial⟩ J hw trivial) fun _ _=>Yl<|Yk<|Xo (g_7.1,g_7.2,g_9.1,g_9.2,_,_) trivial K7 K18
    ·exact Yj J (Zv (i:=98) J J zeroValue50 J J hw K1) fun bx_17 ho14=>Ya (n:=0) [(5,1),(11,1),(14,1),(15,3)]<|Xb J (Zh (n:=63) (Ox (ps.getD i P0).2.1.1 (ps.getD i P0).2.1.2) J J J K1 Zbk Zg J hw) fun g_10 _=>Xb J (Zh (n:=65) (Ox (ps.getD i P0).2.2.1 (ps.getD i P0).2.2.2) J J J K1 Zbk Zg J hw) fun g_11 _=>Xb J (Zl (i:=97) J J J J J J Ml J J ⟨Zf J,Zn (i:=63) J Zi,Zf J,Zn (i:=64) J Zi,trivial⟩ J hw ho11) fun _ _=>Po J (Zl (i:=98) J J J J J J Ml J J ⟨Zf J,Zn (i:=65) J Zi,Zf J,Zn (i:=66) J Zi,trivial⟩ J hw trivial) fun _ _=>Yl<|Yk<|Xo (g_10.1,g_10.2,g_11.1,g_11.2,_,_) trivial K7 K18
   ·refine Yj J (Zv (i:=98) J J zeroValue50 J J hw K1) fun bx_18 ho15=>Pb (n:=4) 5 12 ?_ ?_
    ·refine Yj J (Zh (n:=63) (Ox (ps.getD i P0).2.1.1 (ps.getD i P0).2.1.2) J J J K1 Zbk Zg J hw) fun g_12 _=>Pb (n:=3) 11 12 ?_ ?_
     ·exact Yj J (Zh (n:=65) (Ox (ps.getD i P0).2.2.1 (ps.getD i P0).2.2.2) J J J K1 Zbk Zg J hw) fun g_13 _=>Ya (n:=0) [(12,1),(14,1),(15,3)]<|Xb J (Zv (i:=97) J J zeroValue50 J J hw K1) fun bx_19 ho16=>Xb J (Zl (i:=97) J J J J J J Ml J J ⟨Zf J,Zn (i:=63) J Zi,Zf J,Zn (i:=64) J Zi,trivial⟩ J hw ho16) fun _ _=>Po J (Zl (i:=98) J J J J J J Ml J J ⟨Zf J,Zn (i:=65) J Zi,Zf J,Zn (i:=66) J Zi,trivial⟩ J hw trivial) fun _ _=>Yl<|Yk<|Xo (g_12.1,g_12.2,g_13.1,g_13.2,_,_) trivial K7 K18
     ·exact Yj J (Zv (i:=97) J J zeroValue50 J J hw K1) fun bx_20 ho17=>Ya (n:=0) [(11,1),(14,1),(15,3)]<|Xb J (Zh (n:=65) (Ox (ps.getD i P0).2.2.1 (ps.getD i P0).2.2.2) J J J K1 Zbk Zg J hw) fun g_14 _=>Xb J (Zl (i:=97) J J J J J J Ml J J ⟨Zf J,Zn (i:=63) J Zi,Zf J,Zn (i:=64) J Zi,trivial⟩ J hw ho17) fun _ _=>Po J (Zl (i:=98) J J J J J J Ml J J ⟨Zf J,Zn (i:=65) J Zi,Zf J,Zn (i:=66) J Zi,trivial⟩ J hw trivial) fun _ _=>Yl<|Yk<|Xo (g_12.1,g_12.2,g_14.1,g_14.2,_,_) trivial K7 K18
    ·exact Yj J (Zv (i:=97) J J zeroValue50 J J hw K1) fun bx_21 ho18=>Ya (n:=0) [(5,1),(11,1),(14,1),(15,3)]<|Xb J (Zh (n:=63) (Ox (ps.getD i P0).2.1.1 (ps.getD i P0).2.1.2) J J J K1 Zbk Zg J hw) fun g_15 _=>Xb J (Zh (n:=65) (Ox (ps.getD i P0).2.2.1 (ps.getD i P0).2.2.2) J J J K1 Zbk Zg J hw) fun g_16 _=>Xb J (Zl (i:=97) J J J J J J Ml J J ⟨Zf J,Zn (i:=63) J Zi,Zf J,Zn (i:=64) J Zi,trivial⟩ J hw ho18) fun _ _=>Po J (Zl (i:=98) J J J J J J Ml J J ⟨Zf J,Zn (i:=65) J Zi,Zf J,Zn (i:=66) J Zi,trivial⟩ J hw trivial) fun _ _=>Yl<|Yk<|Xo (g_15.1,g_15.2,g_16.1,g_16.2,_,_) trivial K7 K18
  ·rintro⟨v3,v4,v5,v6,b7,b8⟩ -
   simp only [CA,NA]
   obtain⟨hk,hf1,hf2⟩:=hp (ps.getD i P0) (Xj)
   have hf11:=hf1.b1
   have hf12:=hf1.b2
   have hf1p:=hf1.p
   have hf21:=hf2.b1
   have hf22:=hf2.b2
   have hf2p:=hf2.p
   refine Zb<|Zb ?_
   rcases(show Ba (lst a ps i) (ps.getD i P0).2.1≠0∨(Ba (lst a ps i) (ps.getD i P0).2.1=0∧0<Ba (ps.getD i P0).2.1 (ps.getD i P0).2.2)∨(Ba (lst a ps i) (ps.getD i P0).2.1=0∧¬0<Ba (ps.getD i P0).2.1 (ps.getD i P0).2.2) by omega)with hc1 | ⟨hc1,hc2⟩ | ⟨hc1,hc2⟩
   ·refine Qs (fun _=>False) [(0,0),(1,0),(2,1),(3,0),(4,0),(5,2),(6,2),(7,2),(8,2),(9,0),(10,0),(11,2),(12,2),(13,2),(14,2),(15,2),(16,2),(17,2),(18,2),(19,2),(20,2),(21,0)] ?_ ?_
    ·kernel_rfl
    exact Zs J J (Yt (Ym (i:=9) J J J Gc Ml J J J J))<|Zs J J (Yt (Ym (i:=97) J J J Gc Ml J J J J))<|Xb J (Zh (n:=9) (Gk _ _ _ _ (lst a ps i).1 (lst a ps i).2 (ps.getD i P0).2.1.1 (ps.getD i P0).2.1.2) J J J K2 call27 (Zd 61 J J J (Zd 62 J J J (Zd 63 J J J (Zd 64 J J J Zg)))) J hw) fun _ _=>Zs J J (Yt (dT (Xz J J J) (vB (decide_eq_true hc1))))<|Zs J J (Yt (Yd J J))<|r2 J J J J J J J J<|r2 J J J J J J J J<|r2 J J J J J J J J<|r2 J J J J J J J J<|Zs J J (Yt (Yy J J J))<|Zs J J (Yt (Yd J J))<|r2 J J J J J J J J<|r2 J J J J J J J J<|r2 J J J J J J J J<|r2 J J J J J J J J<|r2 J J J J J J J J<|r2 J J J J J J J J<|r2 J J J J J J J J<|r2 J J J J J J J J<|r2 J J J J J J J J<|r2 J J J J J J J J<|Zs J J (Yt (Yy J J J))<|Ob<|Za<|Pv J<|Zb<|Ze<|Zp J<|Zc<|Za<|Zq<|Yn<|Nq<|Yn<|Yn<|Nq<|Yn<|xU hsc results40 J J (by rw [Fo (k:=i) (by omega) (Ya5 hc1) false]<;>rfl)
   ·refine Qs (fun _=>False) [(0,0),(1,0),(2,1),(3,0),(4,0),(5,0),(6,0),(7,1),(8,0),(9,0),(10,0),(11,2),(12,2),(13,2),(14,2),(15,2),(16,2),(17,2),(18,2),(19,2),(20,2),(21,0)] ?_ ?_
    ·kernel_rfl
    refine Zs J J (Yt (Ym (i:=9) J J J Gc Ml J J J J))<|Zs J J (Yt (Ym (i:=97) J J J Gc Ml J J J J))<|Xb J (Zh (n:=9) (Gk _ _ _ _ (lst a ps i).1 (lst a ps i).2 (ps.getD i P0).2.1.1 (ps.getD i P0).2.1.2) J J J K2 call27 (Zd 61 J J J (Zd 62 J J J (Zd 63 J J J (Zd 64 J J J Zg)))) J hw) fun _ _=>Zs J J (Yt (dF (Xz J J J) (vB (decide_eq_false (fun h=>h hc1)))))<|Zs J J (Yt (Yd J J))<|r0g (Yt (Ym (i:=97) J J J Gc Ml J J J J)) J J J J J<|r0g (Yt (Ym (i:=98) J J J Gc Ml J J J J)) J J J J J<|Zxt J J J J J (Zh (n:=9) (Gk _ _ _ _ (ps.getD i P0).2.1.1 (ps.getD i P0).2.1.2 (ps.getD i P0).2.2.1 (ps.getD i P0).2.2.2) J J J K2 call27 (Zd 63 J J J (Zd 64 J J J (Zd 65 J J J (Zd 66 J J J Zg)))) J hw) fun _ _=>r0g (Yt (dT (Pw J J J) (vB (decide_eq_true hc2)))) J J J J J<|Zs J J (Yt (Yh J J J))<|Zs J J (Yt (Yd J J))<|r2 J J J J J J J J<|r2 J J J J J J J J<|r2 J J J J J J J J<|r2 J J J J J J J J<|r2 J J J J J J J J<|r2 J J J J J J J J<|r2 J J J J J J J J<|r2 J J J J J J J J<|r2 J J J J J J J J<|r2 J J J J J J J J<|Zs J J (Yt (Yy J J J))<|Ob<|Za<|Pv J<|Zb<|Ze<|Zp J<|Zc<|Za<|Zq<|Yn<|Nq<|Yn<|Yn<|Nq<|Yn ?_
    exact xU hsc results40 J J (by rw [Fo (k:=i) (by omega) (Ya4 hc2) false]<;>rfl)
   ·refine Qs (fun _=>False) [(0,0),(1,0),(2,1),(3,0),(4,0),(5,0),(6,0),(7,1),(8,0),(9,0),(10,0),(11,0),(12,0),(13,0),(14,0),(15,0),(16,0),(17,0),(18,0),(19,1),(20,0),(21,0)] ?_ ?_
    ·kernel_rfl
    refine Zs J J (Yt (Ym (i:=9) J J J Gc Ml J J J J))<|Zs J J (Yt (Ym (i:=97) J J J Gc Ml J J J J))<|Xb J (Zh (n:=9) (Gk _ _ _ _ (lst a ps i).1 (lst a ps i).2 (ps.getD i P0).2.1.1 (ps.getD i P0).2.1.2) J J J K2 call27 (Zd 61 J J J (Zd 62 J J J (Zd 63 J J J (Zd 64 J J J Zg)))) J hw) fun _ _=>Zs J J (Yt (dF (Xz J J J) (vB (decide_eq_false (fun h=>h hc1)))))<|Zs J J (Yt (Yd J J))<|r0g (Yt (Ym (i:=97) J J J Gc Ml J J J J)) J J J J J<|r0g (Yt (Ym (i:=98) J J J Gc Ml J J J J)) J J J J J<|Zxt J J J J J (Zh (n:=9) (Gk _ _ _ _ (ps.getD i P0).2.1.1 (ps.getD i P0).2.1.2 (ps.getD i P0).2.2.1 (ps.getD i P0).2.2.2) J J J K2 call27 (Zd 63 J J J (Zd 64 J J J (Zd 65 J J J (Zd 66 J J J Zg)))) J hw) fun _ _=>r0g (Yt (dF (Pw J J J) (vB (decide_eq_false hc2)))) J J J J J<|Zs J J (Yt (Yh J J J))<|Zs J J (Yt (Yd J J))<|r0g (Yt (Yd J J)) J J J J J<|r0g (Yt (Yd J J)) J J J J J<|r0g (Yt (Yd J J)) J J J J J<|r0g (Yt (Xc (ii:=6) J J J J Zi Dn Zji J (by first | omega | (simp only [List.length_set];omega)))) J J J J J<|r0g (Yt (Zwh (ii:=6) J J J Zi Iv J sizeOf77 J)) J J J J J<|r0g (Yt (d_ldf (ii:=6) P0 J J J Zi isAgg77 J)) J J J J J ?_
    refine r0g (Yt (Ym (i:=97) J J J Gc Ml J J J J)) J J J J J<|r0g (Yt (Ym (i:=98) J J J Gc Ml J J J J)) J J J J J<|Zxt J J J J J (Zh (n:=9) (Yae _ _ _ _ _ _ (ps.getD i P0).1 (ps.getD i P0).2.1 (ps.getD i P0).2.2 hd hf1 hf2) J J J K4 call98 (Zd 1 J J J (Zd 63 J J J (Zd 64 J J J (Zd 65 J J J (Zd 66 J J J Zg))))) J hw) fun _ _=>r0g (Yt (Xl J J)) J J J J J<|Zs J J (Yt (Yh J J J))<|Ob<|Za<|Mf J (fun h136=>?_) (fun h136=>?_)
    ·exact Zb<|Ze<|Zp J<|Zc<|Za<|Zq<|Yn<|Nq<|Yn<|Yn<|Nq<|Yn<|xU hsc results40 J J (by rw [Fo (k:=i) (by omega) ((Zc3 hc1 hc2).trans (Gd ‹_›)) false]<;>rfl)
    ·exact Zk<|Za<|Ze<|dt (Ym (i:=98) J J J Gc Ml J J J J)<|tt (Zl (i:=9) J J J J J J Ml J J ⟨Zf J,Zn (i:=65) J Zi,Zf J,Zn (i:=66) J Zi,trivial⟩ J hw trivial) fun _ _=>Zc<|Qn<|Za<|Ze<|mv J<|dt (Ys J J J)<|Zp J<|Zc<|Qu (Pu 65 61 J J J)<|Qu (Pu 66 62 J J J)<|Xk (i+1,v5,v6) ⟨by first | omega | (dsimp only<;>omega),fun k hk2=>by rcases Nat.lt_succ_iff_lt_or_eq.1 hk2 with h9 | h9;exact hK k h9;rw [h9];exact(Zc3 hc1 hc2).trans (Ic ‹_›)⟩ (by first | omega | (dsimp only<;>omega)) K5 K12
 ·refine Yx<|Zx<|Zx<|Pd<|Za<|Zb<|Ze<|mv J<|dt (Yf J J (i:=6) J Zi Dn)<|dt (Pw J J J)<|mv J<|Pf (d:=58) J (fun s141=>?_) (fun s141=>?_)
  ·exact Xh (Ym (i:=9) J J J Gc Ml J J J J) J J<|Xh (Ym (i:=8) J J J Gc Ml J J J J) J J<|Lz (Zh (n:=9) (Gk _ _ _ _ (lst a ps i).1 (lst a ps i).2 b.1 b.2) J J J K2 call27 (Zd 61 J J J (Zd 62 J J J (Zd 4 J J J (Zd 5 J J J Zg)))) J hw) J J J fun _ _=>Xh (Pj J J J) J J<|dt (Yy J J J)<|Zp J<|Zc<|Za<|Zq<|xU hsc results40 J J (by rw [Zpl (i:=i) (by omega) hK];first | (rw [decide_eq_true (p:=0<ps.length) (by omega)];rfl) | (rw [decide_eq_false (p:=0<ps.length) (by omega)];rfl))
  ·exact Xt J J J<|Xt J J J<|Xt J J J<|Xt J J J<|dt (Yh J J J)<|Zp J<|Zc<|Za<|Zq<|xU hsc results40 J J (by rw [Zpl (i:=i) (by omega) hK];first | (rw [decide_eq_true (p:=0<ps.length) (by omega)];rfl) | (rw [decide_eq_false (p:=0<ps.length) (by omega)];rfl))
theorem Zro(v u:Value)(r:List (Bool×ByteArray))(z1 z2:RZ)(ls:List Cv)(m:Int)(hn:¬(smR r=true∧[z1,z2].all enR=true∧ls.length≤8)):On prog 8 #[v,.agg #[.bool z1.1.1,.string z1.1.2,.bool z1.2.1,.string z1.2.2],.agg #[.bool z2.1.1,.string z2.1.2,.bool z2.2.1,.string z2.2.2],u,.int .i64 m] [Px 2 Aq v r,Px 9 Hh u ls] (.bool true):=by
 refine Yi func8 J ntmps8 J K2 fun w0 sc hw hsc=>?_
 simp only [Zu,Zt]
 refine Nl (Kk (i:=2) J Zi) fun hlen=>Yo (Np 999 2 31 wv)<|Yo (Pg 999 J J pV)<|Zb<|Ze<|tt (Yw (i:=3) J J J J J hw) fun bx _=>tt (Yw (i:=4) J J J J J hw) fun bx_2 _=>Zp J<|Zc<|Za<|Zb<|Zb<|Ze<|mv J<|tt (Zh (n:=4) (Zkv _ _) J J J K1 call10 (Zd 1 J J J Zg) J hw) fun _ _=>dt (Xl J J)<|mv J<|Ma (d:=19) J (fun s262=>?_) (fun s262=>?_)
 ·exact Xt J J J<|Xt J J J<|Xt J J J<|Xt J J J<|Xt J J J<|dt (Yy J J J)<|mv J<|Xt J J J<|Xt J J J<|Xt J J J<|dt (Yy J J J)<|Zc<|Za<|Pv J<|Zb<|Ze<|tt (Zh (n:=4) (Fx) J J J trivial call11 Zg J hw) fun _ _=>Zp J<|Zc<|Za<|Zq<|Yn<|xU hsc results8 J J J
 ·refine Xh (Ym (i:=3) J J J Xq Yr J J J J) J J<|Xh (Ym (i:=4) J J J Xq Yr J J J J) J J<|Lz (Pn (i:=5) (ivs:=[(0,_),(1,_)]) (enc:=Ycb) [z1,z2] J J K4 Zlo ti41 J J (Zo0 _ _ _ _ _ _ _ _ _ _ _ _) J J pR.cells J J hw) J J J fun v _=>Lz (Zh (n:=5) (Zky _ _) J J J K1 call20 (Qt 5 J J pR Zg) J hw) J J J fun _ _=>Xh (Xl J J) J J<|dt (Yh J J J)<|mv J<|Ma (d:=26) J (fun s262_2=>?_) (fun s262_2=>?_)
  ·exact Xt J J J<|Xt J J J<|Xt J J J<|dt (Yy J J J)<|Zc<|Za<|Pv J<|Zb<|Ze<|tt (Zh (n:=5) (Fx) J J J trivial call11 Zg J hw) fun _ _=>Zp J<|Zc<|Za<|Zq<|Yn<|xU hsc results8 J J J
  ·refine Xh (Yd J J) J J<|Xh (Yf J J (i:=2) J Zi Dn) J J<|Xh (Pw J J J) J J<|dt (Yh J J J)<|Zc<|Za<|Zr J (fun h262=>?_) (fun h262=>?_)
   ·exact Zb<|Ze<|tt (Zh (n:=5) (Fx) J J J trivial call11 Zg J hw) fun _ _=>Zp J<|Zc<|Za<|Zq<|Yn<|xU hsc results8 J J J
   ·exfalso;exact hn ⟨by simp_all,by simp_all,by omega⟩
theorem Zrn(v u:Value)(r:List (Bool×ByteArray))(z1 z2:RZ)(ls:List Cv)(m:Int)(hs:smR r=true)(he:[z1,z2].all enR=true)(hl8:ls.length≤8):On prog 8 #[v,.agg #[.bool z1.1.1,.string z1.1.2,.bool z1.2.1,.string z1.2.2],.agg #[.bool z2.1.1,.string z2.1.2,.bool z2.2.1,.string z2.2.2],u,.int .i64 m] [Px 2 Aq v r,Px 9 Hh u ls] (.bool true):=by
 refine Yi func8 J ntmps8 J K2 fun w0 sc hw hsc=>?_
 simp only [Zu,Zt]
 refine Nl (Kk (i:=2) J Zi) (fun hlen=>?_)
 obtain⟨he1,he2⟩:=Zl4 he
 refine Yo (Np 999 2 31 wv)<|Yo (Pg 999 J J pV)<|Zb<|Ze<|tt (Yw (i:=3) J J J J J hw) fun bx _=>tt (Yw (i:=4) J J J J J hw) fun bx_2 _=>Zp J<|Zc<|Za<|Zb<|Zb<|Ze<|mv J<|tt (Zh (n:=4) (Zkv _ _) J J J K1 call10 (Zd 1 J J J Zg) J hw) fun _ _=>dt (dF (Xl J J) (vB (by rw [hs];rfl)))<|mv J<|Xh (Ym (i:=3) J J J Xq Yr J J J J) J J<|Xh (Ym (i:=4) J J J Xq Yr J J J J) J J<|Lz (Pn (i:=5) (ivs:=[(0,_),(1,_)]) (enc:=Ycb) [z1,z2] J J K4 Zlo ti41 J J (Zo0 _ _ _ _ _ _ _ _ _ _ _ _) J J pR.cells J J hw) J J J fun v _=>Lz (Zh (n:=5) (Zky _ _) J J J K1 call20 (Qt 5 J J pR Zg) J hw) J J J fun _ _=>Xh (dF (Xl J J) (vB (by rw [he];rfl))) J J<|dt (Yh J J J)<|mv J<|Xh (Yd J J) J J<|Xh (Yf J J (i:=2) J Zi Dn) J J<|Xh (dF (Pw J J J) (vB (decide_eq_false (by omega)))) J J<|dt (Yh J J J)<|Zc<|Za<|Yp J<|Zk<|Za<|Zb<|Ze<|mv J<|dt (Ym (i:=3) J J J Xq Yr J J J J)<|dt (Ym (i:=4) J J J Xq Yr J J J J)<|tt (Zh (n:=5) (Zkx _ _ z1 z2 he) J J J K3 call22 (Zd 1 J J J Zg) J hw) fun _ _=>Zp J<|Zc<|Za<|Zb<|Ze<|mv J<|Pp (Np 75 9 79 Hh) ?_
 refine tt (Hd (i:=75) (j:=2) (by_:=104) J J J J J J (by decide) J Zi Dn ti79 J pPR J J J (by simp;omega) (by decide) J hw) fun v_2 _=>Zp J<|Zc<|Za<|Iz [(0,_),(3,_),(6,_),(7,_)] [(0,_),(1,_),(2,_),(999,_),(3,_),(4,_),(5,_)] (fun(q:Int×Value)=>[(11,.int .i64 q.1),(12,q.2)]) (fun(q:Int×Value)=>[(75,Ld 9 79 Hh q.2 (Lx ls m ((1:Int),z2,z2)))]) (fun(q:Int×Value)=>q.1=wF r z1 z2∨200<(Lx ls m ((1:Int),z2,z2)).length) K4 K7 ?_ ?_
 ·refine Zb<|Ze<|mv J<|dt (Lg J J J)<|mv J<|Pf (d:=40) J (fun s267=>?_) (fun s267=>?_)
  ·refine Xh (Yd J J) J J<|Xh (Dc J J J) J J<|dt (Yy J J J)<|Zc<|Za<|Zr J (fun h267=>?_) (fun h267=>?_)
   ·refine Zb<|Zo<|Oc [(0,_),(3,_),(4,_),(6,_),(7,_),(11,_)] [(0,_),(1,_),(2,_),(999,_),(3,_),(4,_),(5,_)] (fun(q:Nat×Value)=>[(12,q.2)]) (fun(q:Nat×Value)=>[(75,Ld 9 79 Hh q.2 (ls ++ List.replicate q.1 ((1:Int),z2,z2)))]) (fun(q:Nat×Value)=>(ls.length:Int)+(q.1:Int)≤m) (fun(q:Nat×Value)=>(m-((ls.length+q.1:Nat):Int)).toNat) (0,_) (by first | omega | (dsimp only<;>omega)) K7 ⟨(congrArg (fun z=>some (Ld 9 79 Hh _ z)) (show([] ++ ls)=(ls ++ List.replicate 0 ((1:Int),z2,z2)) by simp)),J,J,J,J,J,J,J,trivial⟩ ?_
    rintro⟨k,vo⟩ hk
    dsimp only at hk
    simp only [CA,NA]
    have hlk:(ls ++ List.replicate k ((1:Int),z2,z2)).length=ls.length+k:=by simp
    refine Zb<|Zb<|Ze<|mv J<|dt (Yf J J (i:=75) J (Xa pPR) Dn)<|mv J<|dt (Xv J J J)<|Zc<|Za<|Zr J (fun h269=>?_) (fun h269=>?_)
    ·exact Zk<|Za<|Zo<|Ze<|mv J<|dt (Ym (i:=4) J J J Xq Yr J J J J)<|dt (Ym (i:=4) J J J Xq Yr J J J J)<|dt (Oq (ivs:=[(0,_),(1,_),(2,_)]) J K6 (fun a w hs=>Zw6 ((Zf J) a w hs)))<|tt (Pn (i:=6) (ivs:=[(0,_)]) (enc:=Hh) [((1:Int),z2,z2)] J J K2 Dn ti79 J J (Yb7 _ _ _ _ _ _ _ _ _ _ _ _ _ _ _ _ _ _) J J pPR.cells J J hw) fun v_3 _=>tt (Hd (i:=75) (j:=6) (by_:=104) J J J J J J (by decide) J (Xa pPR) Dn ti79 J pPR J J J (by rw [hlk];simp;omega) (by decide) J hw) fun v_4 _=>Zp J<|Zc<|Qn<|Xk (k+1,_) (by first | omega | (dsimp only<;>omega)) (by dsimp only;omega) K7 ⟨(congrArg (fun z=>some (Ld 9 79 Hh _ z)) (show((ls ++ List.replicate k ((1:Int),z2,z2)) ++ [((1:Int),z2,z2)])=(ls ++ List.replicate (k+1) ((1:Int),z2,z2)) by rw [List.replicate_succ',List.append_assoc])),J,J,J,J,J,J,J,trivial⟩
    ·refine Yx<|Zx<|Zx<|Pd<|Za<|Zb<|Ze<|mv J<|dt (Pj J J J)<|mv J<|Pf (d:=56) J (fun s272=>?_) (fun s272=>?_)
     ·refine Xh (Yd J J) J J<|Xh (Pw J J J) J J<|dt (Yy J J J)<|Zc<|Za<|Zr J (fun h272=>?_) (fun h272=>?_)
      ·exact Ze<|Zp J<|Zc<|Xo (2,vo) (.inr (by have h9:=lx_len (X:=((1:Int),z2,z2)) hl8 (show 190≤m∧m≤210 by omega);omega)) K6 ⟨(congrArg (fun z=>some (Ld 9 79 Hh _ z)) (show(ls ++ List.replicate k ((1:Int),z2,z2))=(Lx ls m ((1:Int),z2,z2)) by rw [Zto (k:=k) (by omega) (by omega)])),J,J,J,J,J,J,J,trivial⟩
      ·exact Zk<|Xo (wF r z1 z2,vo) (.inl J) K6 ⟨(congrArg (fun z=>some (Ld 9 79 Hh _ z)) (show(ls ++ List.replicate k ((1:Int),z2,z2))=(Lx ls m ((1:Int),z2,z2)) by rw [Zto (k:=k) (by omega) (by omega)])),J,J,J,J,J,J,J,trivial⟩
     ·exact Xt J J J<|Xt J J J<|dt (Yh J J J)<|Zc<|Za<|Yp J<|Zk<|Xo (wF r z1 z2,vo) (.inl J) K6 ⟨(congrArg (fun z=>some (Ld 9 79 Hh _ z)) (show(ls ++ List.replicate k ((1:Int),z2,z2))=(Lx ls m ((1:Int),z2,z2)) by rw [Zto (k:=k) (by omega) (by omega)])),J,J,J,J,J,J,J,trivial⟩
   ·exact Zk<|Xo (wF r z1 z2,v_2) (.inl J) K6 ⟨(congrArg (fun z=>some (Ld 9 79 Hh _ z)) (show([] ++ ls)=(Lx ls m ((1:Int),z2,z2)) by rw [lx_no (by omega)];rfl)),J,J,J,J,J,J,J,trivial⟩
  ·exact Xt J J J<|Xt J J J<|dt (Yh J J J)<|Zc<|Za<|Yp J<|Zk<|Xo (wF r z1 z2,v_2) (.inl J) K6 ⟨(congrArg (fun z=>some (Ld 9 79 Hh _ z)) (show([] ++ ls)=(Lx ls m ((1:Int),z2,z2)) by rw [lx_no (by omega)];rfl)),J,J,J,J,J,J,J,trivial⟩
 ·rintro⟨w1,vl⟩ hw1
  dsimp only at hw1
  simp only [CA,NA]
  refine Zb<|Zb<|Ze<|mv J<|dt (Yf J J (i:=2) J Zi Dn)<|mv J<|Zc<|Za<|Zo<|Oc [(0,_),(6,_),(7,_),(12,_),(60,_),(61,_)] [(0,_),(75,_),(1,_),(2,_),(999,_),(3,_),(4,_),(5,_)] (fun(q:Nat×Int)=>[(62,.int .i64 (q.1:Int)),(11,.int .i64 q.2)]) (fun(q:Nat×Int)=>[]) (fun(q:Nat×Int)=>(q.1≤ls.length)∧(WS ls q.1 w1 q.2)∧(∀k,k<q.1→enP (ls.getD k P0r))) (fun(q:Nat×Int)=>ls.length-q.1) (0,w1) ⟨by first | omega | (dsimp only<;>omega),ws_0 ls w1,fun k hk=>absurd hk (Nat.not_lt_zero k)⟩ K8 K8 ?_
  rintro⟨i,w⟩ ⟨hi,hW,hE⟩
  dsimp only at hi hW hE
  simp only [CA,NA]
  refine Zb<|Ze<|dt (Xv J J J)<|Zc<|Za<|Zb<|Zr J (fun h276=>?_) (fun h276=>?_)
  ·refine Zk<|Za<|Zb<|Zo<|Zb<|Ze<|dt (Xc (ii:=2) J J J J Zi Dn Zji J (by first | omega | (simp only [List.length_set];omega)))<|dt (Xr (ii:=2) P0r J J J Zi pPR (by first | omega | (simp only [List.length_set];omega)))<|tt (Zy (i:=7) J J zeroValue79 J J hw) fun bx_3 _=>tt (Zl (i:=7) J J J J J J Zji J J ⟨Zf J,Zf J,Zf J,Zf J,Zf J,Zf J,Zf J,Zf J,Zf J,trivial⟩ J hw trivial) fun _ _=>Zc<|Za<|Zb<|Zb<|Ze<|dt (Yv J J Iv J Yr J J)<|dt (Ym (i:=7) J J J Xq Yr J J J J)<|dt (Yv J J Iv J Yr J J)<|dt (Ym (i:=7) J J J Xq Yr J J J J)<|tt (Pn (i:=8) (ivs:=[(0,_),(1,_)]) (enc:=Ycb) [(ls.getD i P0r).2.1,(ls.getD i P0r).2.2] J J K4 Zlo ti41 J J (Zo0 _ _ _ _ _ _ _ _ _ _ _ _) J J pR.cells J J hw) fun v_5 _=>tt (Zh (n:=8) (Zky _ _) J J J K1 call20 (Qt 8 J J pR Zg) J hw) fun _ _=>dt (Xl J J)<|Zc<|Za<|Mf J (fun h277=>?_) (fun h277=>?_)
   ·exact Zb<|Ze<|tt (Zh (n:=8) (Fx) J J J trivial call11 Zg J hw) fun _ _=>Zp J<|Zc<|Za<|Zq<|Yn<|Nq<|Yn<|Yn<|Nq<|Yn<|xU hsc results8 J J J
   ·have hen:=h277
    refine Zk<|Za<|Zb<|Ze<|dt (Yv J J Iv J sizeOf77 J J)<|dt (Qw (i:=7) J J J isAgg77 J)<|dt (Xz J J J)<|mv J<|Pf (d:=77) J (fun s280=>?_) (fun s280=>?_)
    ·refine Xh (Yv J J Iv J sizeOf77 J J) J J<|Xh (Qw (i:=7) J J J isAgg77 J) J J<|Xh (Xz J J J) J J<|dt (Yy J J J)<|mv J<|Pf (d:=82) J (fun s280_2=>?_) (fun s280_2=>?_)
     ·exact Xt J J J<|Xt J J J<|Xt J J J<|Xt J J J<|dt (Yy J J J)<|mv J<|Xt J J J<|Xt J J J<|Xt J J J<|Xt J J J<|dt (Yy J J J)<|Zc<|Za<|Pv J<|Ze<|Zp J<|Zc<|Qn<|Za<|Ze<|dt (Ys J J J)<|mv J<|Zc<|Xk (i+1,_) ⟨by first | omega | (dsimp only<;>omega),by first | exact Zjj hW ⟨by omega,by simp_all [Bd],by simp_all [Bd]⟩ | exact Ze2 (fun h9=>by have h7:=h9.1;have h6:=h9.2.1;have h5:=h9.2.2;first | omega | simp_all [Bd]),fun k hk2=>by rcases Nat.lt_succ_iff_lt_or_eq.1 hk2 with h9 | h9;exact hE k h9;subst h9;exact Zl4 (Ic hen)⟩ (by first | omega | (dsimp only<;>omega)) K8 K8
     ·refine Xh (Yv J J Iv J Yr J J) J J<|Xh (Ym (i:=7) J J J Xq Yr J J J J) J J<|Lz (Zh (n:=8) (Iq _ _ _ _) J J J K1 call25 Zg J hw) J J J fun _ _=>Xh (Xl J J) J J<|dt (Yh J J J)<|mv J<|Ma (d:=88) J (fun s280_3=>?_) (fun s280_3=>?_)
      ·exact Xt J J J<|Xt J J J<|Xt J J J<|Xt J J J<|dt (Yy J J J)<|Zc<|Za<|Pv J<|Ze<|Zp J<|Zc<|Qn<|Za<|Ze<|dt (Ys J J J)<|mv J<|Zc<|Xk (i+1,_) ⟨by first | omega | (dsimp only<;>omega),by first | exact Zjj hW ⟨by omega,by simp_all [Bd],by simp_all [Bd]⟩ | exact Ze2 (fun h9=>by have h7:=h9.1;have h6:=h9.2.1;have h5:=h9.2.2;first | omega | simp_all [Bd]),fun k hk2=>by rcases Nat.lt_succ_iff_lt_or_eq.1 hk2 with h9 | h9;exact hE k h9;subst h9;exact Zl4 (Ic hen)⟩ (by first | omega | (dsimp only<;>omega)) K8 K8
      ·refine Xh (Yv J J Iv J Yr J J) J J<|Xh (Ym (i:=7) J J J Xq Yr J J J J) J J<|Lz (Zh (n:=8) (Iq _ _ _ _) J J J K1 call25 Zg J hw) J J J fun _ _=>Xh (Xl J J) J J<|dt (Yh J J J)<|Zc<|Za<|Mf J (fun h280=>?_) (fun h280=>?_)
       ·exact Ze<|Zp J<|Zc<|Qn<|Za<|Ze<|dt (Ys J J J)<|mv J<|Zc<|Xk (i+1,_) ⟨by first | omega | (dsimp only<;>omega),by first | exact Zjj hW ⟨by omega,by simp_all [Bd],by simp_all [Bd]⟩ | exact Ze2 (fun h9=>by have h7:=h9.1;have h6:=h9.2.1;have h5:=h9.2.2;first | omega | simp_all [Bd]),fun k hk2=>by rcases Nat.lt_succ_iff_lt_or_eq.1 hk2 with h9 | h9;exact hE k h9;subst h9;exact Zl4 (Ic hen)⟩ (by first | omega | (dsimp only<;>omega)) K8 K8
       ·exact Zk<|Qn<|Za<|Ze<|dt (Ys J J J)<|mv J<|Zc<|Xk (i+1,_) ⟨by first | omega | (dsimp only<;>omega),by first | exact Zjj hW ⟨by omega,by simp_all [Bd],by simp_all [Bd]⟩ | exact Ze2 (fun h9=>by have h7:=h9.1;have h6:=h9.2.1;have h5:=h9.2.2;first | omega | simp_all [Bd]),fun k hk2=>by rcases Nat.lt_succ_iff_lt_or_eq.1 hk2 with h9 | h9;exact hE k h9;subst h9;exact Zl4 (Ic hen)⟩ (by first | omega | (dsimp only<;>omega)) K8 K8
    ·refine Xt J J J<|Xt J J J<|Xt J J J<|dt (Yh J J J)<|mv J<|Xh (Yv J J Iv J Yr J J) J J<|Xh (Ym (i:=7) J J J Xq Yr J J J J) J J<|Lz (Zh (n:=8) (Iq _ _ _ _) J J J K1 call25 Zg J hw) J J J fun _ _=>Xh (Xl J J) J J<|dt (Yh J J J)<|mv J<|Ma (d:=88) J (fun s280_4=>?_) (fun s280_4=>?_)
     ·exact Xt J J J<|Xt J J J<|Xt J J J<|Xt J J J<|dt (Yy J J J)<|Zc<|Za<|Pv J<|Ze<|Zp J<|Zc<|Qn<|Za<|Ze<|dt (Ys J J J)<|mv J<|Zc<|Xk (i+1,_) ⟨by first | omega | (dsimp only<;>omega),by first | exact Zjj hW ⟨by omega,by simp_all [Bd],by simp_all [Bd]⟩ | exact Ze2 (fun h9=>by have h7:=h9.1;have h6:=h9.2.1;have h5:=h9.2.2;first | omega | simp_all [Bd]),fun k hk2=>by rcases Nat.lt_succ_iff_lt_or_eq.1 hk2 with h9 | h9;exact hE k h9;subst h9;exact Zl4 (Ic hen)⟩ (by first | omega | (dsimp only<;>omega)) K8 K8
     ·refine Xh (Yv J J Iv J Yr J J) J J<|Xh (Ym (i:=7) J J J Xq Yr J J J J) J J<|Lz (Zh (n:=8) (Iq _ _ _ _) J J J K1 call25 Zg J hw) J J J fun _ _=>Xh (Xl J J) J J<|dt (Yh J J J)<|Zc<|Za<|Mf J (fun h280_2=>?_) (fun h280_2=>?_)
      ·exact Ze<|Zp J<|Zc<|Qn<|Za<|Ze<|dt (Ys J J J)<|mv J<|Zc<|Xk (i+1,_) ⟨by first | omega | (dsimp only<;>omega),by first | exact Zjj hW ⟨by omega,by simp_all [Bd],by simp_all [Bd]⟩ | exact Ze2 (fun h9=>by have h7:=h9.1;have h6:=h9.2.1;have h5:=h9.2.2;first | omega | simp_all [Bd]),fun k hk2=>by rcases Nat.lt_succ_iff_lt_or_eq.1 hk2 with h9 | h9;exact hE k h9;subst h9;exact Zl4 (Ic hen)⟩ (by first | omega | (dsimp only<;>omega)) K8 K8
      ·exact Zk<|Qn<|Za<|Ze<|dt (Ys J J J)<|mv J<|Zc<|Xk (i+1,_) ⟨by first | omega | (dsimp only<;>omega),by first | exact Zjj hW ⟨by omega,by simp_all [Bd],by simp_all [Bd]⟩ | exact Ze2 (fun h9=>by have h7:=h9.1;have h6:=h9.2.1;have h5:=h9.2.2;first | omega | simp_all [Bd]),fun k hk2=>by rcases Nat.lt_succ_iff_lt_or_eq.1 hk2 with h9 | h9;exact hE k h9;subst h9;exact Zl4 (Ic hen)⟩ (by first | omega | (dsimp only<;>omega)) K8 K8
  ·refine Yx<|Zx<|Zx<|Pd<|Za<|Iz [(0,_),(6,_),(7,_),(12,_)] [(0,_),(75,_),(1,_),(2,_),(999,_),(3,_),(4,_),(5,_)] (fun(w3:Int)=>[(11,.int .i64 w3)]) (fun(w3:Int)=>[]) (fun(w3:Int)=>(200<(Lx ls m ((1:Int),z2,z2)).length→w3=2)∧(¬200<(Lx ls m ((1:Int),z2,z2)).length→w3=w)) K4 K8 ?_ ?_
   ·refine Zb<|Ze<|mv J<|dt (Yf J J (i:=75) J (Xa pPR) Dn)<|dt (Pw J J J)<|Zc<|Za<|Zr J (fun h284=>?_) (fun h284=>?_)
    ·exact Ze<|Zp J<|Zc<|Xo 2 ⟨fun h=>by first | rfl | omega,fun h=>by first | rfl | omega⟩ K5 K8
    ·exact Zk<|Xo w ⟨fun h=>by first | rfl | omega,fun h=>by first | rfl | omega⟩ K5 K8
   ·rintro w3 ⟨h31,h32⟩
    simp only [CA,NA]
    refine Zb ?_
    obtain rfl:i=ls.length:=by omega
    have hw3:=w_end hw1 hW h31 h32
    have hLe:∀z∈(Lx ls m ((1:Int),z2,z2)),enP z:=fun z hz=>by
     rcases Ybl hz with h9 | h9
     ·exact Zdb (P:=enP) J hE z h9
     ·rw [h9];exact⟨he2,he2⟩
    refine Yo (Pg 75 J J pPR)<|Ze<|mv J<|dt (Ym (i:=3) J J J Xq Yr J J J J)<|dt (Ym (i:=4) J J J Xq Yr J J J J)<|mv J<|tt (Zh (n:=8) (Znx _ _ _ z1 z2 (Lx ls m ((1:Int),z2,z2)) hs he hLe) J J J K4 call41 (Zd 1 J J J (Zd 75 J J J Zg)) J hw) fun _ _=>Zp J<|Zc<|Za<|Zb<|Zb<|Ze<|mv J<|dt (Xz J J J)<|Zc<|Za<|Zr J (fun h288=>?_) (fun h288=>?_)
    ·exact Zb<|Ze<|mv J<|mv J<|dt (dT (Pj J J J) (vB (decide_eq_true (by rw [hw3];exact ce_we (by rw [←hw3];assumption)))))<|mv J<|Lz (Zh (n:=8) (Fx) J J J trivial call11 Zg J hw) J J J fun _ _=>dt (Yy J J J)<|Zp J<|Zc<|Za<|Zq<|Yn<|xU hsc results8 J J J
    ·have hz0:wE r z1 z2 (Lx ls m ((1:Int),z2,z2))=0:=by rw [←hw3];exact Decidable.byContradiction h288
     obtain⟨⟨a1,a2,a3⟩,hgd,hc0⟩:=we_0 hz0
     obtain⟨hpe,hpv⟩:=Zq5 hgd.2 hLe
     obtain⟨hd,-,-⟩:=Zzn hs a1
     have hcE:=ce_0 hz0
     have ha:=(Zdc a2 he1).1
     have hb:=(Zdc a3 he2).1
     refine Zk<|Za<|Zb<|Zb<|Yo (Zqk (q:=Px 9 Zaf _ ((Lx ls m ((1:Int),z2,z2)).map unr)) 75 76 J J J (fun w h=>Zqc _ _ w (by rw [←hpe];exact h)) (fun _ h=>h) J)<|Qs (fun _=>False) [(0,0),(2,0),(4,0),(6,0),(1,1),(3,1),(5,1),(7,1)] ?_ ?_
     ·kernel_rfl
     refine Zs J J (Yt (Yd J J))<|Zs J J (Yt (Ym (i:=3) J J J Xq Yr J J J J))<|Zs J J (Yt (Ym (i:=4) J J J Xq Yr J J J J))<|Zs J J (Yt (Yd J J))<|Xb J (Zh (n:=9) (Zqp _ r a1) J J J K1 call16 (Zd 1 J J J Zg) J hw) fun g hg=>Xb J (Zh (n:=10) (Zcf z1 a2) J J J K1 Zbk Zg J hw) fun g_2 _=>Xb J (Zh (n:=12) (Zcf z2 a3) J J J K1 Zbk Zg J hw) fun g_3 _=>Xb J (Zh (n:=13) (Zxs _ _ _ _ _ _ _ ((Lx ls m ((1:Int),z2,z2)).map unr) (Fa z1) (Fa z2) (by rw [hg];exact hd) ha.ef hb.ef hpv) J J J K4 call40 (Zd 9 J J J (Zd 10 J J J (Zd 11 J J J (Zd 12 J J J (Zd 13 J J J (Zd 76 J J J Zg)))))) J hw) fun _ _=>Ob<|Za<|Mf J (fun h291=>?_) (fun h291=>?_)
     ·refine Zb ?_
      have hck:Zem (dec r) ((Lx ls m ((1:Int),z2,z2)).map unr) (Fa z1) (Fa z2)=true:=by rw [←hg];assumption
      exact Ze<|mv J<|dt (dT (Pj J J J) (vB (decide_eq_true (by rw [hcE,if_pos hck]))))<|mv J<|Lz (Zh (n:=13) (Fx) J J J trivial call11 Zg J hw) J J J fun _ _=>dt (Yy J J J)<|Zp J<|Zc<|Za<|Zq<|Yn<|xU hsc results8 J J J
     ·refine Zk<|Za<|Zb ?_
      have hck:Zem (dec r) ((Lx ls m ((1:Int),z2,z2)).map unr) (Fa z1) (Fa z2)=false:=by rw [←hg];assumption
      exact Ze<|mv J<|dt (dT (Pj J J J) (vB (decide_eq_true (by rw [hcE,if_neg (by rw [hck];decide)]))))<|mv J<|Lz (Zh (n:=13) (Fx) J J J trivial call11 Zg J hw) J J J fun _ _=>dt (Yy J J J)<|Zp J<|Zc<|Za<|Zq<|xU hsc results8 J J J
theorem Ybt(v:Value)(r:List (Bool×ByteArray))(b1:Bool)(s1:ByteArray)(c1:Bool)(t1:ByteArray)(b2:Bool)(s2:ByteArray)(c2:Bool)(t2:ByteArray)(u:Value)(ls:List Cv)(m:Int):On prog 8 #[v,.agg #[.bool b1,.string s1,.bool c1,.string t1],.agg #[.bool b2,.string s2,.bool c2,.string t2],u,.int .i64 m] [Px 2 Aq v r,Px 9 Hh u ls] (.bool true):=by
 generalize hz1:(((b1,s1),(c1,t1)):RZ)=z1
 generalize hz2:(((b2,s2),(c2,t2)):RZ)=z2
 suffices h:Cal prog 8 #[v,.agg #[.bool z1.1.1,.string z1.1.2,.bool z1.2.1,.string z1.2.2],.agg #[.bool z2.1.1,.string z2.1.2,.bool z2.2.1,.string z2.2.2],u,.int .i64 m] [Px 2 Aq v r,Px 9 Hh u ls] false (G:=Unit) (fun _=>True) (fun _=> .bool true) (fun _=>[]) by
  rw [←hz1,←hz2]at h;exact h
 clear hz1 hz2
 by_cases hn:smR r=true∧[z1,z2].all enR=true∧ls.length≤8
 ·exact Zrn v u r z1 z2 ls m hn.1 hn.2.1 hn.2.2
 ·exact Zro v u r z1 z2 ls m hn
end Go.Sky
namespace Go.Proofs.YtcmiiammekgooaaGreat
open Go.ChangeShapes Go.WideShapes Go.ChangeAt Go.RowKit Go.Joins Go.Deep Go.Sky
theorem own:ownKnob Tryz.prog.godebug=none:=by kernel_rfl
theorem Zgv:laidOutB Tryz.prog=true:=by kernel_rfl
set_option maxRecDepth 100000 in
theorem lifted(os:Os)(started:os.Started)(H:Type)(enc:TypeId×Value→H) :
  ReturnsInHanded {} Tryz.checked os 8 .any (Rows.signChecksSpec.pre6 enc Tryz.prog Tryz.f8 Rows.signChecksRow.domain false) (Rows.signChecksSpec.post enc Tryz.prog Tryz.f8 false true false false):=by
 refine returnsInHanded_of_change (C:=Tryz.checked) own started (by kernel_rfl) Tryz.func8
  (ChangeSpec.witness6 (enc:=enc) (C:=Tryz.checked) false ⟨#[],#[.slice none 0 0,.agg #[.bool false,.string ByteArray.empty,.bool false,.string ByteArray.empty],.agg #[.bool false,.string ByteArray.empty,.bool false,.string ByteArray.empty],.slice none 0 0,.int .i64 0],[]⟩ 8 (by kernel_rfl) (by kernel_rfl) (by kernel_rfl) (by kernel_rfl)) ?_
 intro W base args ds gs before hval0 hW hcnd _
 have hval:∀(j:Nat) t v,Tryz.f8.params[j]? = some t→args[j]? = some v→Value.okWide Tryz.prog W .any base t v:=hval0
 have hW':=hW
 obtain⟨p,q,hA0,hV,rfl,hfz,hnd⟩:=hW
 have hA:DataW.TrodAll enc Tryz.prog W 0 (fun _=>true) true Tryz.f8.params.toList args.toList ds p:=hA0
 rw [Tryz.params8]at hA hval
 obtain⟨v0,vs0,d0,ds0,p0,q0,hargs,rfl,rfl,h0,r0⟩:=trodAll_cons hA
 obtain⟨v1,vs1,d1,ds1,p1,q1,rfl,rfl,rfl,h1,r1⟩:=trodAll_cons r0
 obtain⟨v2,vs2,d2,ds2,p2,q2,rfl,rfl,rfl,h2,r2⟩:=trodAll_cons r1
 obtain⟨v3,vs3,d3,ds3,p3,q3,rfl,rfl,rfl,h3,r3⟩:=trodAll_cons r2
 obtain⟨v4,vs4,d4,ds4,p4,q4,rfl,rfl,rfl,h4,r4⟩:=trodAll_cons r3
 obtain⟨rfl,rfl,rfl⟩:=trodAll_nil r4
 obtain rfl:args=#[v0,v1,v2,v3,v4]:=by cases args;simp_all
 obtain⟨rfl,rfl⟩:=trodVars_none hV
 have lt0:∀x∈p0,x.block<W.heap.size:=by obtain⟨m,hm⟩:=h0;exact DataW.trod_lt m _ _ _ hm
 obtain⟨l0,hl0⟩:=Ztg Tryz.underlying23 Tryz.underlying31 (by kernel_rfl) rfl rfl (by kernel_rfl) (by kernel_rfl) (by kernel_rfl) (by kernel_rfl) (hval 0 23 v0 rfl rfl) h0 lt0
 have lt1:∀x∈p1,x.block<W.heap.size:=by obtain⟨m,hm⟩:=h1;exact DataW.trod_lt m _ _ _ hm
 obtain⟨b1,s1,c1,t1,rfl⟩:=Zkh Tryz.underlying41 Tryz.underlying31 (by kernel_rfl) (by kernel_rfl) rfl rfl rfl rfl (by kernel_rfl) (by kernel_rfl) (by kernel_rfl) (by kernel_rfl) rfl rfl (hval 1 41 v1 rfl rfl) h1
 have lt2:∀x∈p2,x.block<W.heap.size:=by obtain⟨m,hm⟩:=h2;exact DataW.trod_lt m _ _ _ hm
 obtain⟨b2,s2,c2,t2,rfl⟩:=Zkh Tryz.underlying41 Tryz.underlying31 (by kernel_rfl) (by kernel_rfl) rfl rfl rfl rfl (by kernel_rfl) (by kernel_rfl) (by kernel_rfl) (by kernel_rfl) rfl rfl (hval 2 41 v2 rfl rfl) h2
 have lt3:∀x∈p3,x.block<W.heap.size:=by obtain⟨m,hm⟩:=h3;exact DataW.trod_lt m _ _ _ hm
 obtain⟨l3,hl3⟩:=Zth Tryz.underlying74 Tryz.underlying79 (by kernel_rfl) Tryz.underlying77 (by kernel_rfl) rfl rfl rfl rfl rfl Tryz.underlying41 Tryz.underlying31 (by kernel_rfl) (by kernel_rfl) rfl rfl rfl rfl (by kernel_rfl) (by kernel_rfl) (by kernel_rfl) (by kernel_rfl) rfl rfl (hval 3 74 v3 rfl rfl) h3
 have lt4:∀x∈p4,x.block<W.heap.size:=by obtain⟨m,hm⟩:=h4;exact DataW.trod_lt m _ _ _ hm
 obtain⟨n4,rfl⟩:=okWide_int Tryz.underlying3 (hval 4 3 v4 rfl rfl)
 clear hA0 hval0
 refine(Ybt v0 l0 b1 s1 c1 t1 b2 s2 c2 t2 v3 l3 n4 W (fun p hp=>by cases hp with | head=>exact hl0 | tail _ hp=>cases hp with | head=>exact hl3 | tail _ hp=>cases hp)).mono fun e W' ⟨_,he,_,bel,_⟩=>?_
 subst he
 exact⟨_,rfl,_,_,_,[],_,[],hW',trodAll_mk1 (shut_bool Tryz.underlying4 _),(trodAll_cons_mk (Below.trod Zgv (by kernel_rfl) (of_decide_eq_true (by kernel_rfl)) h0 bel lt0) (trodAll_cons_mk (Below.trod Zgv (by kernel_rfl) (of_decide_eq_true (by kernel_rfl)) h1 bel lt1) (trodAll_cons_mk (Below.trod Zgv (by kernel_rfl) (of_decide_eq_true (by kernel_rfl)) h2 bel lt2) (trodAll_cons_mk (Below.trod Zgv (by kernel_rfl) (of_decide_eq_true (by kernel_rfl)) h3 bel lt3) (trodAll_cons_mk (Below.trod Zgv (by kernel_rfl) (of_decide_eq_true (by kernel_rfl)) h4 bel lt4) trodAll_mk0))))),rfl,bel.frame _,fun h=>by cases h⟩
theorem x_holds : Rows.SignChecksSaid :=
 OpenClaim.holds_of_wide 8 Tryz.f8 rfl rfl rfl rfl rfl rfl rfl ⟨rfl,rfl,rfl,rfl,rfl⟩ rfl rfl rfl rfl rfl (by kernel_rfl) Tryz.func8 (by kernel_rfl)
  (of_decide_eq_true (by kernel_rfl)) (by unfold Func.isWrapper;first | (rw [if_pos (by decide +kernel)];kernel_rfl) | (rw [if_neg (by decide +kernel)];exact⟨rfl,rfl⟩))
  (fun os started H enc _=>lifted os started H enc)
#print axioms x_holds
end Go.Proofs.YtcmiiammekgooaaGreat

