/- Rules, arithmetic and contracts: part 19. No conditions but those that each theorem names. -/
import Derived.Test.YtcmiiammekgooaaGreatSc17
set_option linter.all false
set_option maxHeartbeats 4000000
namespace Go.Sky
open Go.Proofs.Tryz
open Go.Proofs
set_option maxRecDepth 20000
set_option maxHeartbeats 4000000
set_option linter.unusedSimpArgs false
theorem r3_rem(v u:Value)(zs ys:List (Int×SL))(F:Nat)(hl:zs.length≤30)(hk:ys.length≤30)(hy0:0<ys.length)(htz:Tr (Zj zs))(ht:Tr (Zj ys))(hF0:zs.length<ys.length+F)(hS0:Pi (Zj zs)+F*(Pi (Zj ys)+1)≤900000):Cal prog 187 #[v,u] [pp v zs,pp u ys] true (G:=Value×List (Int×SL)) (fun r=>Zj r.2=Fc F (Zj zs) (Zj ys)) (fun r=>r.1) (fun r=>[pp r.1 r.2]):=by
 refine Yi func187 J ntmps187 J K2 fun w0 sc hw hsc=>?_
 simp only [Zu,Zt]
 have hli:=Yc zs
 have hli2:=Yc ys
 have hcy:=Nx ys (ys.length-1)
 have hra:=Zw3 (Zj ys)
 refine Zb<|Ze<|Zp J<|Zc<|Za<|Zb<|Ze<|mv J<|mv J<|dt (Yf J J (i:=2) J Yg Pq)<|dt (Qd J J J)<|dt (Xc (ii:=2) (i:=(ys.length-1)) J J J J Yg Pq Yz)<|dt (Xr (ii:=2) I0 J J J Yg pI)<|tt (Zy (i:=85) J J zeroValue48 J J hw) fun b _=>tt (Zl (i:=85) J J J J J J Yz J J ⟨Zf J,Zf J,trivial⟩ J hw trivial) fun _ _=>Pp (Zhm 2 91 (ys.getD (ys.length-1) I0) J J (Xj) J)<|Zc<|Za<|Zb<|Zo<|Yo (Pu 1 80 J J J)<|Oc [(1,_),(5,_)] [(0,_),(1,_),(2,_),(85,_),(91,_)] (fun(q:Value×List (Int×SL)×Nat)=>[(0,q.1)]) (fun(q:Value×List (Int×SL)×Nat)=>[(80,pp q.1 q.2.1)]) (fun(q:Value×List (Int×SL)×Nat)=>(Fc q.2.2 (Zj q.2.1) (Zj ys)=Fc F (Zj zs) (Zj ys))∧((Zj q.2.1).length<(Zj ys).length+q.2.2)∧(Tr (Zj q.2.1))∧(Pi (Zj q.2.1)+q.2.2*(Pi (Zj ys)+1)≤900000)∧(q.2.1.length≤30)) (fun(q:Value×List (Int×SL)×Nat)=>q.2.2) (_,zs,F) ⟨J,by dsimp only;omega,htz,hS0,hl⟩ K3 K6 ?_
 rintro⟨vr,ws,f⟩ ⟨hE,hL,hT,hS,hW⟩
 dsimp only at hE hL hT hS hW
 simp only [CA,NA]
 have hlw:=Yc ws
 have hcw:=Nx ws (ws.length-1)
 refine Zb<|Zb<|Ze<|mv J<|dt (Yf J J (i:=80) J Yg Pq)<|mv J<|dt (Yf J J (i:=2) J Yg Pq)<|dt (Lg J J J)<|Zc<|Za<|Zr J (fun h45=>?_) (fun h45=>?_)
 ·obtain⟨f1,rfl,hE1,hL1,hT1,hS1,hLl⟩:=Zxo (by omega) (by omega) hL hT hS
  have hB:Pi (Zj ws)+(Pi (Zj ys)+1)≤900000:=by rw [Nat.succ_mul]at hS;omega
  have hrb:=bl_rb (Zj ws) (Zj ys)
  refine Zk<|Za<|Zo<|Zb<|Nm [80,85] [10]<|Ya (n:=4) [(0,0),(1,0),(2,0),(3,0),(4,0),(5,0),(6,0)]<|Zs J J (Xm (Yb (i:=85) J J J Oy Yz J J) K2)<|Zs J J (Xm (Yd J J) K2)<|Zs J J (Xm (Yd J J) K2)<|Zs J J (Xm (Yf J J (i:=80) J Yg Pq) K2)<|Zs J J (Xm (Qd J J J) K2)<|Zs J J (Xm (Xc (ii:=80) (i:=(ws.length-1)) J J J J Yg Pq Yz) K2)<|Zs J J (Xm (Xr (ii:=80) I0 J J J Yg pI) K2)<|Yl<|Pb (n:=3) 7 8 ?_ ?_
  ·refine Yj J (Zv (i:=95) J J zeroValue48 J J hw K2) fun b_2 ho=>Ya (n:=0) [(8,1),(9,1),(10,3)]<|Xb J (Zv (i:=96) J J zeroValue48 J J hw K2) fun b_3 ho2=>Xb J (Zl (i:=95) J J J J J J Yz J J ⟨Zf J,Zn (i:=91) J Zi,trivial⟩ J hw ho) fun _ _=>Po J (Zl (i:=96) J J J J J J Yz J J ⟨Zf J,Zf J,trivial⟩ J hw trivial) fun _ _=>Yl<|Yk<|Za<|Iz [(0,_),(1,_),(5,_),(6,_),(7,_)] [(0,_),(80,_),(1,_),(2,_),(85,_),(91,_)] (fun(q:Value×Value)=>[]) (fun(q:Value×Value)=>[(95,box b_2 48 #[.bool (decide ((Fu (Zj ys))<0)),q.1]),(96,box b_3 48 #[.bool (decide ((rb (Zj ws) (Zj ys))<0)),q.2]),(93,Mw q.1 (Fu (Zj ys)).natAbs),(94,Mw q.2 (rb (Zj ws) (Zj ys)).natAbs)]) (fun(q:Value×Value)=>True) K5 K6 ?_ ?_
   ·refine Zb<|Yo (Zhm 80 92 (ws.getD (ws.length-1) I0) J J (Xj) J)<|Ze<|dt (Yb (i:=95) J J J Oy Yz J J)<|tt (Zh (n:=2) (Dw _ _ (by rw [hcy];have:=Ot (Zj ys) (ys.length-1);omega)) J J J K1 call72 (Zd 91 J J J Zg) J hw) fun _ _=>dt (Xv J J J)<|Zc<|Za<|Zr J (fun h47=>?_) (fun h47=>?_)
    ·refine Nm [96] [5]<|Ya (n:=0) [(2,0),(0,1),(1,1),(3,1),(4,1),(5,3)]<|Zs J J (Xm (Yb (i:=96) J J J Oy Yz J J) K1)<|Xb J (Od (Yb (i:=95) J J J Oy Yz J J) J) fun _ _=>Xb J (Zh (n:=3) (Zqu _ _ (by rw [hcy];have:=Ot (Zj ys) (ys.length-1);omega)) J J J K1 call73 (Zd 91 J J J Zg) J hw) fun v _=>Xb J (Zh (n:=4) (Zqu _ _ (by rw [hcw];have:=Ot (Zj ws) (ws.length-1);omega)) J J J K1 call73 (Zd 92 J J J Zg) J hw) fun v_2 _=>Xb J (Zcp 95 J J K1 (fun ob=>Zl (i:=95) J J J J J J Yz J J ⟨Zf J,Zn (i:=3) J Zi,trivial⟩ J hw ob)) fun _ _=>Po J (Zl (i:=96) J J J J J J Yz J J ⟨Zf J,Zn (i:=4) J Zi,trivial⟩ J hw trivial) fun _ _=>Yl<|Yk ?_
     have hra:=Yac hli2 hcy ‹_›
     have hrb:=rb_n (x:=Zj ws) (y:=Zj ys) hli2 hlw hcy hcw ‹_›
     exact Qu (Pu 3 93 J J J)<|Qu (Pu 4 94 J J J)<|Xo (_,_) trivial K5 ⟨by rw [hra];rfl,by rw [hrb];rfl,by rw [hra];rfl,by rw [hrb];rfl,rfl,rfl,rfl,rfl,rfl,rfl,trivial⟩
    ·refine Zk ?_
     have hra:=Yab hli2 hcy ‹_›
     have hrb:=rb_p (x:=Zj ws) (y:=Zj ys) hli2 hlw hcy hcw ‹_›
     exact Qu (Pu 91 93 J J J)<|Qu (Pu 92 94 J J J)<|Xo (_,_) trivial K5 ⟨by rw [hra];rfl,by rw [hrb];rfl,by rw [hra];rfl,by rw [hrb];rfl,rfl,rfl,rfl,rfl,rfl,rfl,trivial⟩
   ·rintro⟨va,vb⟩ -
    simp only [CA,NA]
    refine Zb<|Ze<|mv J<|dt (Yf J J (i:=80) J Yg Pq)<|mv J<|dt (Yf J J (i:=2) J Yg Pq)<|dt (Qd J J J)<|tt (Ge (i:=70) (n:=(ws.length-ys.length)) (by_:=32) (enc:=Hk) I0 J J J J Pq ti48 J pI.cells pI.pos J J J hw) fun v_3 _=>Zp J<|Zc<|Za<|Zb<|Zb<|Ze<|Zp J<|Zc<|Za<|Zo<|Yo (Aa 71 (ws.length-ys.length))<|Oc [(0,_),(1,_),(5,_),(6,_),(7,_)] [(0,_),(95,_),(96,_),(93,_),(94,_),(80,_),(1,_),(2,_),(85,_),(91,_)] (fun(q:Nat×Value×List (Int×SL))=>[(9,.int .i64 (q.1:Int)),(8,q.2.1)]) (fun(q:Nat×Value×List (Int×SL))=>[(70,Ld 2 48 Hk q.2.1 q.2.2),(71,Dx qI q.2.2)]) (fun(q:Nat×Value×List (Int×SL))=>(q.1≤ys.length)∧(Zj q.2.2=shm (Zj ys) (rb (Zj ws) (Zj ys)) ((Zj ws).length-(Zj ys).length) q.1)∧(q.2.2.length=((Zj ws).length-(Zj ys).length)+q.1)) (fun(q:Nat×Value×List (Int×SL))=>ys.length-q.1) (0,_,List.replicate (ws.length-ys.length) I0) ⟨by first | omega | (dsimp only<;>omega),by rw [←Zf4,hlw,hli2];simp [Zj],by simp<;>omega⟩ K7 K12 ?_
    rintro⟨i,vo,ms⟩ ⟨hi,hms,hml⟩
    dsimp only at hi hms hml
    simp only [CA,NA]
    have hci:=Nx ys i
    refine Zb<|Zb<|Ze<|mv J<|mv J<|dt (Yf J J (i:=2) J Yg Pq)<|dt (Xv J J J)<|Zc<|Za<|Zr J (fun h51=>?_) (fun h51=>?_)
    ·refine Zk<|Za<|Zb<|Zo<|Nm [2,96] [9]<|Ya (n:=3) [(0,0),(1,0),(2,0),(3,0),(4,0),(5,0),(6,1)]<|Zs J J (Xm (Yd J J) K2)<|Zs J J (Xm (Yd J J) K2)<|Zs J J (Xm (Yd J J) K2)<|Zs J J (Xm (Xc (ii:=2) J J J J Yg Pq Yz J (by first | omega | (simp only [List.length_set];omega))) K2)<|Zs J J (Xm (Xr (ii:=2) I0 J J J Yg pI (by first | omega | (simp only [List.length_set];omega))) K2)<|Zs J J (Xm (Yb (i:=96) J J J Oy Yz J J) K2)<|Xb J (Zh (n:=86) (Kc _ _ _ _ (by rw [hci];have:=Ot (Zj ys) i;omega)) J J J K2 Gp (Nf 2 J J (Xj (i:=i)) (Zd 94 J J J Zg)) J hw) fun v_4 _=>Yl<|Zdo (Nk 86 J Zi) (fun sl hsl=>?_)
     subst hsl
     exact Ya (n:=0) [(7,1),(8,1),(9,3)]<|Xb J (Pn (i:=87) (ivs:=[(0,_)]) (enc:=Hk) [((ys.getD i I0).1*(rb (Zj ws) (Zj ys)),sl)] J J K2 Pq ti48 J J J J J pI.cells J J hw) fun v_5 _=>Xb J (Ze6 70 J J J K2 (fun hoffr=>(Zbs (xs:=ms) (ys:=[_]) (i:=70) (j:=87) (by_:=32) J J J J J J (by decide) J (Xa pI) Pq ti48 J pI J J J (by simp;omega) (by decide) J hw hoffr))) fun v_6 _=>Po J (Od (Mb J J) J) fun _ _=>Yl<|Yk<|Qn<|Za<|Ze<|mv J<|dt (Ys J J J)<|Zp J<|Zc<|Qu (Ow (q:=qI) (z:=((ys.getD i I0).1*(rb (Zj ws) (Zj ys)),sl)) 71 86 71 J J J J J)<|Xk (i+1,_,ms ++ [((ys.getD i I0).1*(rb (Zj ws) (Zj ys)),sl)]) ⟨by first | omega | (dsimp only<;>omega),by rw [Hz,hms,←Zf5];dsimp only;rw [hci,Int.mul_comm],by simp;omega⟩ (by first | omega | (dsimp only<;>omega)) K7 K12
    ·refine Yx<|Zx<|Zx<|Pd<|Za<|Yo (Pg 70 J J pI)<|Yo (Kb 70 71 72 J J J J)<|Ze<|mv J<|dt (Yb (i:=95) J J J Oy Yz J J)<|tt (Zh (n:=5) (Zaz _ _ _ _ ((Ot _).mono (by omega)) (by omega)) J J J K2 call56 (Zd 80 J J J (Zd 93 J J J Zg)) J hw) (fun g hg=>?_)
     have hlsc:=congrArg List.length hg
     rw [Yc]at hlsc
     have hlsd:=Hq (Zj ws) (Fu (Zj ys))
     refine mv J<|tt (Zh (n:=6) (Zn1 _ _ _ _ (by rw [hg];exact(Zbt (Ot _) hra).mono (by omega)) (by rw [hms];exact sz_shm'.mono (by omega))) J J J K2 call88 (Zd 5 J J J (Zd 72 J J J Zg)) J hw) fun g_2 hg_2=>Zp J<|Zc<|Qn<|Qu (Pu 6 80 J J J) ?_
     have hR:Zj g_2.2=Fi (Zj ws) (Zj ys):=by rw [hg_2,hg,hms,show i=(Zj ys).length by omega];rfl
     exact Xk (_,g_2.2,f1) ⟨by dsimp only;rw [hR,←hE1];exact hE,by dsimp only;rw [hR];exact hL1,by dsimp only;rw [hR];exact hT1,by dsimp only;rw [hR];exact hS1,by dsimp only;rw [←Yc,hR];omega⟩ (Nat.lt_succ_self f1) K3 K6
  ·refine Yj J (Zv (i:=96) J J zeroValue48 J J hw K2) fun b_4 ho3=>Ya (n:=0) [(7,1),(9,1),(10,3)]<|Xb J (Zv (i:=95) J J zeroValue48 J J hw K2) fun b_5 ho4=>Xb J (Zl (i:=95) J J J J J J Yz J J ⟨Zf J,Zn (i:=91) J Zi,trivial⟩ J hw ho4) fun _ _=>Po J (Zl (i:=96) J J J J J J Yz J J ⟨Zf J,Zf J,trivial⟩ J hw trivial) fun _ _=>Yl<|Yk<|Za<|Iz [(0,_),(1,_),(5,_),(6,_),(7,_)] [(0,_),(80,_),(1,_),(2,_),(85,_),(91,_)] (fun(q:Value×Value)=>[]) (fun(q:Value×Value)=>[(95,box b_5 48 #[.bool (decide ((Fu (Zj ys))<0)),q.1]),(96,box b_4 48 #[.bool (decide ((rb (Zj ws) (Zj ys))<0)),q.2]),(93,Mw q.1 (Fu (Zj ys)).natAbs),(94,Mw q.2 (rb (Zj ws) (Zj ys)).natAbs)]) (fun(q:Value×Value)=>True) K5 K6 ?_ ?_
   ·refine Zb<|Yo (Zhm 80 92 (ws.getD (ws.length-1) I0) J J (Xj) J)<|Ze<|dt (Yb (i:=95) J J J Oy Yz J J)<|tt (Zh (n:=6) (Dw _ _ (by rw [hcy];have:=Ot (Zj ys) (ys.length-1);omega)) J J J K1 call72 (Zd 91 J J J Zg) J hw) fun _ _=>dt (Xv J J J)<|Zc<|Za<|Zr J (fun h47_2=>?_) (fun h47_2=>?_)
    ·refine Nm [96] [5]<|Ya (n:=0) [(2,0),(0,1),(1,1),(3,1),(4,1),(5,3)]<|Zs J J (Xm (Yb (i:=96) J J J Oy Yz J J) K1)<|Xb J (Od (Yb (i:=95) J J J Oy Yz J J) J) fun _ _=>Xb J (Zh (n:=7) (Zqu _ _ (by rw [hcy];have:=Ot (Zj ys) (ys.length-1);omega)) J J J K1 call73 (Zd 91 J J J Zg) J hw) fun v_7 _=>Xb J (Zh (n:=8) (Zqu _ _ (by rw [hcw];have:=Ot (Zj ws) (ws.length-1);omega)) J J J K1 call73 (Zd 92 J J J Zg) J hw) fun v_8 _=>Xb J (Zcp 95 J J K1 (fun ob=>Zl (i:=95) J J J J J J Yz J J ⟨Zf J,Zn (i:=7) J Zi,trivial⟩ J hw ob)) fun _ _=>Po J (Zl (i:=96) J J J J J J Yz J J ⟨Zf J,Zn (i:=8) J Zi,trivial⟩ J hw trivial) fun _ _=>Yl<|Yk ?_
     have hra:=Yac hli2 hcy ‹_›
     have hrb:=rb_n (x:=Zj ws) (y:=Zj ys) hli2 hlw hcy hcw ‹_›
     exact Qu (Pu 7 93 J J J)<|Qu (Pu 8 94 J J J)<|Xo (_,_) trivial K5 ⟨by rw [hra];rfl,by rw [hrb];rfl,by rw [hra];rfl,by rw [hrb];rfl,rfl,rfl,rfl,rfl,rfl,rfl,trivial⟩
    ·refine Zk ?_
     have hra:=Yab hli2 hcy ‹_›
     have hrb:=rb_p (x:=Zj ws) (y:=Zj ys) hli2 hlw hcy hcw ‹_›
     exact Qu (Pu 91 93 J J J)<|Qu (Pu 92 94 J J J)<|Xo (_,_) trivial K5 ⟨by rw [hra];rfl,by rw [hrb];rfl,by rw [hra];rfl,by rw [hrb];rfl,rfl,rfl,rfl,rfl,rfl,rfl,trivial⟩
   ·rintro⟨va,vb⟩ -
    simp only [CA,NA]
    refine Zb<|Ze<|mv J<|dt (Yf J J (i:=80) J Yg Pq)<|mv J<|dt (Yf J J (i:=2) J Yg Pq)<|dt (Qd J J J)<|tt (Ge (i:=70) (n:=(ws.length-ys.length)) (by_:=32) (enc:=Hk) I0 J J J J Pq ti48 J pI.cells pI.pos J J J hw) fun v_9 _=>Zp J<|Zc<|Za<|Zb<|Zb<|Ze<|Zp J<|Zc<|Za<|Zo<|Yo (Aa 71 (ws.length-ys.length))<|Oc [(0,_),(1,_),(5,_),(6,_),(7,_)] [(0,_),(95,_),(96,_),(93,_),(94,_),(80,_),(1,_),(2,_),(85,_),(91,_)] (fun(q:Nat×Value×List (Int×SL))=>[(9,.int .i64 (q.1:Int)),(8,q.2.1)]) (fun(q:Nat×Value×List (Int×SL))=>[(70,Ld 2 48 Hk q.2.1 q.2.2),(71,Dx qI q.2.2)]) (fun(q:Nat×Value×List (Int×SL))=>(q.1≤ys.length)∧(Zj q.2.2=shm (Zj ys) (rb (Zj ws) (Zj ys)) ((Zj ws).length-(Zj ys).length) q.1)∧(q.2.2.length=((Zj ws).length-(Zj ys).length)+q.1)) (fun(q:Nat×Value×List (Int×SL))=>ys.length-q.1) (0,_,List.replicate (ws.length-ys.length) I0) ⟨by first | omega | (dsimp only<;>omega),by rw [←Zf4,hlw,hli2];simp [Zj],by simp<;>omega⟩ K7 K12 ?_
    rintro⟨i,vo,ms⟩ ⟨hi,hms,hml⟩
    dsimp only at hi hms hml
    simp only [CA,NA]
    have hci:=Nx ys i
    refine Zb<|Zb<|Ze<|mv J<|mv J<|dt (Yf J J (i:=2) J Yg Pq)<|dt (Xv J J J)<|Zc<|Za<|Zr J (fun h51_2=>?_) (fun h51_2=>?_)
    ·refine Zk<|Za<|Zb<|Zo<|Nm [2,96] [9]<|Ya (n:=3) [(0,0),(1,0),(2,0),(3,0),(4,0),(5,0),(6,1)]<|Zs J J (Xm (Yd J J) K2)<|Zs J J (Xm (Yd J J) K2)<|Zs J J (Xm (Yd J J) K2)<|Zs J J (Xm (Xc (ii:=2) J J J J Yg Pq Yz J (by first | omega | (simp only [List.length_set];omega))) K2)<|Zs J J (Xm (Xr (ii:=2) I0 J J J Yg pI (by first | omega | (simp only [List.length_set];omega))) K2)<|Zs J J (Xm (Yb (i:=96) J J J Oy Yz J J) K2)<|Xb J (Zh (n:=86) (Kc _ _ _ _ (by rw [hci];have:=Ot (Zj ys) i;omega)) J J J K2 Gp (Nf 2 J J (Xj (i:=i)) (Zd 94 J J J Zg)) J hw) fun v_10 _=>Yl<|Zdo (Nk 86 J Zi) (fun sl_2 hsl_2=>?_)
     subst hsl_2
     exact Ya (n:=0) [(7,1),(8,1),(9,3)]<|Xb J (Pn (i:=87) (ivs:=[(0,_)]) (enc:=Hk) [((ys.getD i I0).1*(rb (Zj ws) (Zj ys)),sl_2)] J J K2 Pq ti48 J J J J J pI.cells J J hw) fun v_11 _=>Xb J (Ze6 70 J J J K2 (fun hoffr=>(Zbs (xs:=ms) (ys:=[_]) (i:=70) (j:=87) (by_:=32) J J J J J J (by decide) J (Xa pI) Pq ti48 J pI J J J (by simp;omega) (by decide) J hw hoffr))) fun v_12 _=>Po J (Od (Mb J J) J) fun _ _=>Yl<|Yk<|Qn<|Za<|Ze<|mv J<|dt (Ys J J J)<|Zp J<|Zc<|Qu (Ow (q:=qI) (z:=((ys.getD i I0).1*(rb (Zj ws) (Zj ys)),sl_2)) 71 86 71 J J J J J)<|Xk (i+1,_,ms ++ [((ys.getD i I0).1*(rb (Zj ws) (Zj ys)),sl_2)]) ⟨by first | omega | (dsimp only<;>omega),by rw [Hz,hms,←Zf5];dsimp only;rw [hci,Int.mul_comm],by simp;omega⟩ (by first | omega | (dsimp only<;>omega)) K7 K12
    ·refine Yx<|Zx<|Zx<|Pd<|Za<|Yo (Pg 70 J J pI)<|Yo (Kb 70 71 72 J J J J)<|Ze<|mv J<|dt (Yb (i:=95) J J J Oy Yz J J)<|tt (Zh (n:=9) (Zaz _ _ _ _ ((Ot _).mono (by omega)) (by omega)) J J J K2 call56 (Zd 80 J J J (Zd 93 J J J Zg)) J hw) (fun g_3 hg_3=>?_)
     have hlsc:=congrArg List.length hg_3
     rw [Yc]at hlsc
     have hlsd:=Hq (Zj ws) (Fu (Zj ys))
     refine mv J<|tt (Zh (n:=10) (Zn1 _ _ _ _ (by rw [hg_3];exact(Zbt (Ot _) hra).mono (by omega)) (by rw [hms];exact sz_shm'.mono (by omega))) J J J K2 call88 (Zd 9 J J J (Zd 72 J J J Zg)) J hw) fun g_4 hg_4=>Zp J<|Zc<|Qn<|Qu (Pu 10 80 J J J) ?_
     have hR:Zj g_4.2=Fi (Zj ws) (Zj ys):=by rw [hg_4,hg_3,hms,show i=(Zj ys).length by omega];rfl
     exact Xk (_,g_4.2,f1) ⟨by dsimp only;rw [hR,←hE1];exact hE,by dsimp only;rw [hR];exact hL1,by dsimp only;rw [hR];exact hT1,by dsimp only;rw [hR];exact hS1,by dsimp only;rw [←Yc,hR];omega⟩ (Nat.lt_succ_self f1) K3 K6
 ·have hE2:=Zz2 (f:=f) (x:=Zj ws) (y:=Zj ys) (by omega)
  exact Yx<|Zx<|Zx<|Pd<|Za<|Zb<|Ze<|mv J<|Zp J<|Zc<|Za<|Zq<|Yu (.inl J) hsc (_,ws) _ (fun a w hs=>Ni hs results187 J) J (by rw [←hE,hE2]) J (Xu 80 J J J Zm)
theorem Zvc(v:Value)(zs:List (Int×SL))(hv:Vp (Zj zs))(h0:zs.length≠0):Cal prog 113 #[v] [pp v zs] true (G:=Value×List (Int×SL)) (fun r=>Zj r.2=Qj (Zj zs)) (fun r=>r.1) (fun r=>[pp r.1 r.2]):=by
 refine Yi func113 J ntmps113 J K1 fun w0 sc hw hsc=>?_
 simp only [Zu,Zt]
 have hli:=Yc zs
 have hlen:=hv.len
 refine Zb<|Ze<|Zp J<|Zc<|Za<|Zb<|Ze<|mv J<|tt (Zh (n:=2) (Gs _ _ (hv.sz.mono (by omega)) (fun h=>hv.ne (fun e=>by have h7:=congrArg List.length e;simp only [List.length_nil]at h7;omega))) J J J K1 call57 (Zd 1 J J J Zg) J hw) fun g hg=>Zp J<|Zc<|Za<|Zb<|Zb ?_
 have hpl:=congrArg List.length hg
 rw [Yc,Xd,hli]at hpl
 have hlc:=Nx g.2 (g.2.length-1)
 have hlc2:(g.2.getD (g.2.length-1) I0).1=cf (Xf (Zj zs)) ((Xf (Zj zs)).length-1):=by rw [hlc,hg,Xd,hli,hpl]
 have hpb:=(Ii hv).sz
 refine Ze<|mv J<|mv J<|dt (Yf J J (i:=2) J Yg Pq)<|dt (Qd J J J)<|dt (Xc (ii:=2) (i:=(g.2.length-1)) J J J J Yg Pq Yz)<|dt (Xr (ii:=2) I0 J J J Yg pI)<|tt (Zh (n:=2) (Dw _ _ (by rw [hlc2];have:=hpb ((Xf (Zj zs)).length-1);omega)) J J J K1 call72 (Nf 2 J J (Xj (zs:=g.2) (i:=g.2.length-1) (d:=I0)) Zg) J hw) fun _ _=>dt (Xv J J J)<|Zc<|Za<|Zr J (fun h29=>?_) (fun h29=>?_)
 ·have hnn:=Zi4 (xs:=Zj zs) (by rw [Xd];omega) (by rw [←hlc2];exact Zdy.1 h29)
  exact Zb<|Ze<|mv J<|tt (Zh (n:=3) (Zn2 _ _ (by rw [hg];exact hpb.mono (by omega))) J J J K1 call138 (Zd 2 J J J Zg) J hw) fun g_2 hg_2=>Zp J<|Zc<|Za<|Zq<|Yn<|xG hsc _ results113 J J (by rw [hg_2,hg,hnn]) J (Xu 3 J J J Zm)
 ·have hnn:=Zi3 (xs:=Zj zs) (fun h=>h29 (Zdy.2 (by rw [hlc2];exact h)))
  exact Zk<|Za<|Zb<|Ze<|mv J<|Zp J<|Zc<|Za<|Zq<|Yu (.inl J) hsc (_,g.2) _ (fun a w hs=>Ni hs results113 J) J (by rw [hg,hnn]) J (Xu 2 J J J Zm)
theorem Zta(v:Value)(zs:List (Int×SL))(hv:Vp (Zj zs))(h0:zs.length≠0)(hs:Sz 260 (Zj zs))(hl:zs.length≤8:=by omega):Cal prog 54 #[v] [pp v zs] true (G:=Value×List (Int×SL)) (fun r=>Zj r.2=sqf 13 (Zj zs)) (fun r=>r.1) (fun r=>[pp r.1 r.2]):=by
 refine Yi func54 J ntmps54 J K1 fun w0 sc hw hsc=>?_
 simp only [Zu,Zt]
 have hli:=Yc zs
 have hne:Zj zs≠[]:=fun e=>h0 (by rw [←hli,e];rfl)
 obtain⟨k1,k2,k3,k4,k5,k6,k7,k8,k9,k10,k11,k12,k13,k14⟩:=Zmh hv hne hs (by omega)
 have k6l:=List.length_pos_iff.2 k6
 have k12l:=List.length_pos_iff.2 k12
 have k2l:=k2.len
 have k11l:=k11.len
 refine Zb<|Ze<|Zp J<|Zc<|Za<|Zb<|Ze<|mv J<|tt (Zh (n:=2) (Zvc _ _ hv h0) J J J K1 call113 (Zd 1 J J J Zg) J hw) fun g hg=>Zp J<|Zc<|Za<|Zb ?_
 have hl_qs:=congrArg List.length hg
 rw [Yc]at hl_qs
 refine Ze<|mv J<|mv J<|mv J<|tt (Zh (n:=3) (Zhp _ _ (by rw [hg];exact k1.sz.mono (by omega))) J J J K1 call115 (Zd 2 J J J Zg) J hw) (fun g_2 hg_2=>?_)
 have hl_qd:=congrArg List.length hg_2
 rw [Yc]at hl_qd
 refine tt (Zh (n:=4) (rp_gcd _ _ _ _ 13 (by rw [hg];exact k1) (by rw [hg_2,hg];exact k2) (by rw [hg_2,hg];exact k3)) J J J K2 call114 (Zd 2 J J J (Zd 3 J J J Zg)) J hw) (fun g_3 hg_3=>?_)
 have hgg:Zj g_3.2=Ms 13 (Qj (Zj zs)) (Qi (Qj (Zj zs))):=by rw [hg_3,hg_2,hg,k4]
 have hl_g:=congrArg List.length hgg
 rw [Yc]at hl_g
 refine tt (Zh (n:=5) (Zd0 _ _ _ _ (by rw [hg];exact k1.tr) (by rw [hgg];exact k5.tr) (fun _=>by rw [hg,hgg];have:=Nat.mul_le_mul (show g.2.length-g_3.2.length+1≤9 by omega) (show Pi (Ms 13 (Qj (Zj zs)) (Qi (Qj (Zj zs))))+1≤391 by omega);omega)) J J J K2 call55 (Zd 2 J J J (Zd 4 J J J Zg)) J hw) fun g_4 hg_4=>mv J<|dt (Zz J J J)<|dt (Zz J J J)<|Zp J<|Zp J<|Zc<|Za<|Zb ?_
 have hqe:=hg_4 (by rw [hg,hgg];exact k7)
 rw [hg,hgg]at hqe
 have hl_q:=congrArg List.length hqe
 rw [Yc]at hl_q
 exact Ze<|mv J<|tt (Zh (n:=6) (Zvc _ _ (by rw [hqe];exact k11) (by rw [hl_q];exact Nat.ne_of_gt k12l)) J J J K1 call113 (Zd 5 J J J Zg) J hw) fun g_5 hg_5=>Zp J<|Zc<|Za<|Zq<|xG hsc _ results54 J J (by rw [hg_5,hqe];exact k13) J (Xu 6 J J J Zm)
theorem pT{α:Type} : Enc Tryz.prog 34 1 (Gu (α:=α)):=Enc.flat Tryz.sizeOf34 Tryz.isAgg34 (fun _=>rfl)
theorem Zcy(v:Value)(zs:List (Int×SL))(hs:Sz 1000000 (Zj zs))(hc:zs.length≠0→Ql (Zj zs)≠0)(hl:zs.length≤1000:=by omega):Cal Tryz.prog 57 #[v] [pp v zs] true (G:=SL×List (Int×SL)) (fun r=>Zj r.2=Xf (Zj zs)) (fun r=>svv r.1) (fun r=>[pp (svv r.1) r.2]):=
  (Gs v zs hs hc hl).toS
theorem Yag(v:Value)(zs:List (Int×SL))(hv:Vp (Zj zs))(h0:zs.length≠0)(hs:Sz 260 (Zj zs))(hl:zs.length≤8):Cal Tryz.prog 54 #[v] [pp v zs] true (G:=SL×List (Int×SL)) (fun r=>Zj r.2=sqf 13 (Zj zs)) (fun r=>svv r.1) (fun r=>[pp (svv r.1) r.2]):=
  (Zta v zs hv h0 hs hl).toS
theorem Yaj(v:Value)(zs:List (Int×SL))(hv:Vp (Zj zs))(h0:zs.length≠0)(hs:Sz 260 (Zj zs))(hl:zs.length≤8):Cal prog 166 #[v] [pp v zs] true (G:=Value×List (SL×List (Int×SL))) (fun r=>Bf r.2=chn 13 (Zj zs)) (fun r=>r.1) (fun r=>[Ec 1 Gu qT r.1 r.2]):=by
 refine Yi func166 J ntmps166 J K1 fun w0 sc hw hsc=>?_
 simp only [Zu,Zt]
 have hli:=Yc zs
 have hne:Zj zs≠[]:=fun e=>h0 (by rw [←hli,e];rfl)
 obtain⟨hC,hq,hql⟩:=Ycs hv.tr hne hs (by omega)
 obtain⟨hC1,hC2,hC3⟩:=hC
 have hvq:=Zjm hv hne hC1
 have hq0:sqf 13 (Zj zs)≠[]:=(Zmh hv hne hs (by omega)).2.2.2.2.2.2.2.2.2.2.2.1
 have hqd:=Fh hq (by omega)
 have hqdl:=Nv (sqf 13 (Zj zs))
 have hqdt:=Mz hvq.tr
 have hvqd:Vp (Qi (sqf 13 (Zj zs))):=⟨hqd.mono (by omega),hqdt,by omega⟩
 refine Zb<|Ze<|Zp J<|Zc<|Za<|Zb<|Ze<|mv J<|tt (Zh (n:=2) (Yag _ _ hv h0 hs hl) J J J K1 call54 (Zd 1 J J J Zg) J hw) fun g hg=>Zp J<|Zc<|Za<|Zb<|Ze<|mv J<|tt (Pn (i:=70) (ivs:=[(0,_)]) (enc:=Gu) [g] J J K2 underlying186 ti34 J J J J J pT.cells J J hw) fun v _=>Zp J<|Zc<|Za<|Zb ?_
 have hxe:Zj g.2=sqf 13 (Zj zs):=hg
 have hxl:=congrArg List.length hxe
 rw [Yc]at hxl
 refine Yo (Kj qT 71)<|Yo (Ow (q:=qT) (z:=g) 71 2 71 J J J J J)<|Yo (Pu 2 92 J J J)<|Ze<|mv J<|tt (Zh (n:=3) (Zhp _ _ (by rw [hxe];exact hvq.sz.mono (by omega))) J J J K1 call115 (Zd 2 J J J Zg) J hw) (fun g_2 hg_2=>?_)
 have hdl:=congrArg List.length hg_2
 rw [Yc,hxe,Nv]at hdl
 refine tt (Zh (n:=4) (Zcy _ _ (by rw [hg_2,hxe];exact hqd.mono (by omega)) (fun h=>by rw [hg_2,hxe];exact hvqd.ne (fun e=>h (by have h7:=congrArg List.length hg_2;rw [Yc,hxe,e]at h7;exact h7)))) J J J K1 call57 (Zd 3 J J J Zg) J hw) (fun g_3 hg_3=>?_)
 have hye:Zj g_3.2=Xf (Qi (sqf 13 (Zj zs))):=by rw [show Zj g_3.2=Xf _ from hg_3,hg_2,hxe]
 refine Zp J<|Zc<|Za<|Zb<|Zo<|Yo (Pu 4 80 J J J) ?_
 refine Oc [] [(0,_),(1,_),(2,_),(3,_),(4,_)] (fun(q:List (SL×List (Int×SL))×(SL×List (Int×SL))×(SL×List (Int×SL))×Nat×Value)=>[(4,q.2.2.2.2),(3,svv q.2.1.1),(5,svv q.2.2.1.1)]) (fun(q:List (SL×List (Int×SL))×(SL×List (Int×SL))×(SL×List (Int×SL))×Nat×Value)=>[(70,Ld 1 34 Gu q.2.2.2.2 (q.1 ++ [q.2.1])),(71,Dx qT (q.1 ++ [q.2.1])),(92,pp (svv q.2.1.1) q.2.1.2),(80,pp (svv q.2.2.1.1) q.2.2.1.2)]) (fun(q:List (SL×List (Int×SL))×(SL×List (Int×SL))×(SL×List (Int×SL))×Nat×Value)=>(Vp (Zj q.2.1.2))∧(Vp (Zj q.2.2.1.2))∧(cok q.2.2.2.1 (Zj q.2.1.2) (Zj q.2.2.1.2))∧(Bf q.1 ++ Li q.2.2.2.1 (Zj q.2.1.2) (Zj q.2.2.1.2)=chn 13 (Zj zs))∧(q.2.1.2.length≤8)∧(q.2.2.1.2.length≤8)∧(q.1.length+q.2.2.1.2.length≤25)) (fun(q:List (SL×List (Int×SL))×(SL×List (Int×SL))×(SL×List (Int×SL))×Nat×Value)=>q.2.2.1.2.length) ([],g,g_3,13,_) ⟨by dsimp only;rw [hxe];exact hvq,by dsimp only;rw [hye];exact Ii hvqd,by dsimp only;rw [hxe,hye];exact hC3,by dsimp only;rw [hxe,hye];rfl,by dsimp only;omega,by dsimp only;rw [←Yc,hye,Xd];omega,by dsimp only;rw [←Yc,hye,Xd];simp;omega⟩ K3 K9 ?_
 rintro⟨ws,ex,ey,f,vo⟩ ⟨hvx,hvy,hck,hch,hx8,hy8,hwl⟩
 dsimp only at hvx hvy hck hch hx8 hy8 hwl
 simp only [CA,NA]
 have hlx:=Yc ex.2
 have hly:=Yc ey.2
 refine Zb<|Zb<|Ze<|mv J<|dt (Yf J J (i:=80) J Yg Pq)<|dt (Pw J J J)<|Zc<|Za<|Zr J (fun h64=>?_) (fun h64=>?_)
 ·have hy0:Zj ey.2≠[]:=fun e=>by have h7:=congrArg List.length e;rw [hly]at h7;simp only [List.length_nil]at h7;omega
  obtain⟨f0,rfl,hd,hle,hck2,hsc2⟩:=Zg6 hck hy0
  refine Zk<|Za<|Zo<|Zb<|Ze<|mv J<|mv J<|tt (Pn (i:=5) (ivs:=[(0,_)]) (enc:=Gu) [ey] J J K2 underlying186 ti34 J J J J J pT.cells J J hw) fun v_2 _=>tt (Hd (i:=70) (j:=5) (by_:=24) J J J J J J (by decide) J (Xa pT) underlying186 ti34 J pT J J J (by simp;omega) (by decide) J hw) fun v_3 _=>Zp J<|Zc<|Za<|Ze<|mv J<|mv J<|mv J<|tt (Zh (n:=6) (r3_rem _ _ _ _ 8 (by omega) (by omega) (by omega) hvx.tr hvy.tr (by omega) (by have:=Oi hvx.sz;have:=Oi hvy.sz;omega)) J J J K2 call187 (Zd 92 J J J (Zd 80 J J J Zg)) J hw) (fun g_4 hg_4=>?_)
  have hrl:(Fc 8 (Zj ex.2) (Zj ey.2)).length<(Zj ey.2).length:=(Zbx hvy.tr hy0 8 (Zj ex.2) hvx.tr (by omega)).2.1
  have hrm:=Zrd (Zj ey.2) 8 (Zj ex.2)
  have hrt:=(Zbx hvy.tr hy0 8 (Zj ex.2) hvx.tr (by omega)).1
  have hrl2:=congrArg List.length hg_4
  rw [Yc]at hrl2
  refine tt (Zh (n:=7) (Zn2 _ _ (by rw [hg_4];exact(Ot _).mono (by have:=Oi hvx.sz;have:=Oi hvy.sz;omega))) J J J K1 call138 (Zd 6 J J J Zg) J hw) (fun g_5 hg_5=>?_)
  have hnl:=congrArg List.length hg_5
  rw [Yc,hg_4]at hnl
  have hnl2:=Hq (Fc 8 (Zj ex.2) (Zj ey.2)) (-1)
  refine tt (Zh (n:=8) (Zcy _ _ (by rw [hg_5,hg_4];exact(Zbt (Ot _) (m:=1) (by decide)).mono (by have:=Oi hvx.sz;have:=Oi hvy.sz;omega)) (fun h=>Af (by rw [hg_5];exact Oh _ _) (fun e=>h (by rw [←Yc,e];rfl)))) J J J K1 call57 (Zd 7 J J J Zg) J hw) fun g_6 hg_6=>Zp J<|Zp J<|Zc<|Qn ?_
  have hsn:=Zdx (f:=8) hvx.tr hvy.tr hy0 (by omega) (by omega)
  have hnx:Zj g_6.2=Le (Zj ex.2) (Zj ey.2):=by rw [show Zj g_6.2=Xf _ from hg_6,hg_5,hg_4];exact hsn
  have hsl:=Bm (y:=Zj ey.2) hvx.tr
  have hpl:=Ov (Zj ex.2) hy0
  have hnxl:=congrArg List.length hnx
  rw [Yc]at hnxl
  exact Qu (Ow (q:=qT) (z:=ey) 71 80 71 J J J J J)<|Qu (Pu 80 92 J J J)<|Qu (Pu 8 80 J J J)<|Xk (ws ++ [ex],ey,g_6,f0,_) ⟨hvy,by dsimp only;rw [hnx];exact Zjn hvx hd,by dsimp only;rw [hnx];exact hck2,by dsimp only;rw [hnx,←hch,hsc2];simp [Bf],hy8,by dsimp only;omega,by dsimp only;simp;omega⟩ (by dsimp only;omega) K3 K9
 ·refine Yx<|Zx<|Zx<|Pd<|Za<|Zb ?_
  have hy0:Zj ey.2=[]:=List.eq_nil_of_length_eq_zero (by omega)
  exact Yo (Pg 70 J J pT)<|Yo (Kb 70 71 72 J J J J)<|Ze<|mv J<|Zp J<|Zc<|Za<|Zq<|Yu (.inl J) hsc (_,ws ++ [ex]) _ (fun a w hs=>Ni hs results166 J) J (by rw [←hch,hy0,Dt];simp [Bf]) J (Xu 72 J J J Zm)
theorem Yah(v:Value)(l:List Int)(hl:∀i,-1≤l.getD i 0∧l.getD i 0≤1)(hlen:l.length≤1000):On prog 188 #[v] [Px 1 Fz v l] (.int .i64 (chg l)):=by
 refine Yi func188 J ntmps188 J K1 fun w0 sc hw hsc=>?_
 simp only [Zu,Zt]
 refine Zb<|Ze<|Zp J<|Zc<|Za<|Zb<|Ze<|Zp J<|Zp J<|Zc<|Za<|Zb<|Zb<|Ze<|Zp J<|Zc<|Za<|Zo<|Oc [(0,_)] [(0,_),(1,_)] (fun(q:Nat×Int×Int)=>[(5,.int .i64 (q.1:Int)),(3,.int .i64 q.2.1),(4,.int .i64 q.2.2)]) (fun(q:Nat×Int×Int)=>[]) (fun(q:Nat×Int×Int)=>(q.1≤l.length)∧((q.2.1,q.2.2)=(l.take q.1).foldl Mu (0,0))∧(0≤q.2.1)∧(q.2.1≤(q.1:Int))∧(-1≤q.2.2)∧(q.2.2≤1)) (fun(q:Nat×Int×Int)=>l.length-q.1) (0,0,0) ⟨by first | omega | (dsimp only<;>omega),by simp,Int.le_refl _,Int.le_refl _,by decide,by decide⟩ K4 K2 ?_
 rintro⟨i,n,m⟩ ⟨hi,hc,hn0,hn1,hm0,hm1⟩
 dsimp only at hi hc hn0 hn1 hm0 hm1
 simp only [CA,NA]
 have hx:=hl i
 refine Zb<|Zb<|Ze<|mv J<|mv J<|dt (Yf J J (i:=1) J Zi Oo)<|dt (Xv J J J)<|Zc<|Za<|Zr J (fun h74=>?_) (fun h74=>?_)
 ·refine Zk<|Za<|Zb<|Zo<|Zb<|Zb<|Ze<|mv J<|mv J<|dt (Xc (ii:=1) J J J J Zi Oo zT3 J (by first | omega | (simp only [List.length_set];omega)))<|dt (Xr (ii:=1) 0 J J J Zi pZ (by first | omega | (simp only [List.length_set];omega)))<|mv J<|dt (Db J J J (mul_r hx.1 hx.2 hm0 hm1))<|dt (Xv J J J)<|Zc<|Za<|Zr J (fun h75=>?_) (fun h75=>?_)
  ·refine Ze<|mv J<|dt (Ys J J J)<|Zp J<|Zc<|Za<|Zb<|Ze<|mv J<|mv J<|dt (Xc (ii:=1) J J J J Zi Oo zT3 J (by first | omega | (simp only [List.length_set];omega)))<|dt (Xr (ii:=1) 0 J J J Zi pZ (by first | omega | (simp only [List.length_set];omega)))<|dt (Xz J J J)<|Zc<|Za<|Zr J (fun h78=>?_) (fun h78=>?_)
   ·refine Ze<|mv J<|mv J<|dt (Xc (ii:=1) J J J J Zi Oo zT3 J (by first | omega | (simp only [List.length_set];omega)))<|dt (Xr (ii:=1) 0 J J J Zi pZ (by first | omega | (simp only [List.length_set];omega)))<|Zp J<|Zc<|Qn<|Za<|Ze<|mv J<|dt (Ys J J J)<|Zp J<|Zc ?_
    have hst:=Zdu (l:=l) (i:=i) (by omega) hc
    exact Xk (i+1,_,_) ⟨by first | omega | (dsimp only<;>omega),by dsimp only;rw [hst];first | exact(Zvb hm0 hm1 hx.1 hx.2 ‹_› ‹_›).symm | exact(Zva hm0 hm1 hx.1 hx.2 ‹_› ‹_›).symm | exact(Zu9 hm0 hm1 hx.1 hx.2 ‹_› ‹_›).symm | exact(Zu8 hm0 hm1 hx.1 hx.2 ‹_› ‹_›).symm,by dsimp only;omega,by dsimp only;omega,by first | exact hx.1 | exact hm0,by first | exact hx.2 | exact hm1⟩ (by first | omega | (dsimp only<;>omega)) K4 K2
   ·refine Zk<|Qn<|Za<|Ze<|mv J<|dt (Ys J J J)<|Zp J<|Zc ?_
    have hst:=Zdu (l:=l) (i:=i) (by omega) hc
    exact Xk (i+1,_,_) ⟨by first | omega | (dsimp only<;>omega),by dsimp only;rw [hst];first | exact(Zvb hm0 hm1 hx.1 hx.2 ‹_› ‹_›).symm | exact(Zva hm0 hm1 hx.1 hx.2 ‹_› ‹_›).symm | exact(Zu9 hm0 hm1 hx.1 hx.2 ‹_› ‹_›).symm | exact(Zu8 hm0 hm1 hx.1 hx.2 ‹_› ‹_›).symm,by dsimp only;omega,by dsimp only;omega,by first | exact hx.1 | exact hm0,by first | exact hx.2 | exact hm1⟩ (by first | omega | (dsimp only<;>omega)) K4 K2
  ·refine Zk<|Za<|Zb<|Ze<|mv J<|mv J<|dt (Xc (ii:=1) J J J J Zi Oo zT3 J (by first | omega | (simp only [List.length_set];omega)))<|dt (Xr (ii:=1) 0 J J J Zi pZ (by first | omega | (simp only [List.length_set];omega)))<|dt (Xz J J J)<|Zc<|Za<|Zr J (fun h78_2=>?_) (fun h78_2=>?_)
   ·refine Ze<|mv J<|mv J<|dt (Xc (ii:=1) J J J J Zi Oo zT3 J (by first | omega | (simp only [List.length_set];omega)))<|dt (Xr (ii:=1) 0 J J J Zi pZ (by first | omega | (simp only [List.length_set];omega)))<|Zp J<|Zc<|Qn<|Za<|Ze<|mv J<|dt (Ys J J J)<|Zp J<|Zc ?_
    have hst:=Zdu (l:=l) (i:=i) (by omega) hc
    exact Xk (i+1,_,_) ⟨by first | omega | (dsimp only<;>omega),by dsimp only;rw [hst];first | exact(Zvb hm0 hm1 hx.1 hx.2 ‹_› ‹_›).symm | exact(Zva hm0 hm1 hx.1 hx.2 ‹_› ‹_›).symm | exact(Zu9 hm0 hm1 hx.1 hx.2 ‹_› ‹_›).symm | exact(Zu8 hm0 hm1 hx.1 hx.2 ‹_› ‹_›).symm,by dsimp only;omega,by dsimp only;omega,by first | exact hx.1 | exact hm0,by first | exact hx.2 | exact hm1⟩ (by first | omega | (dsimp only<;>omega)) K4 K2
   ·refine Zk<|Qn<|Za<|Ze<|mv J<|dt (Ys J J J)<|Zp J<|Zc ?_
    have hst:=Zdu (l:=l) (i:=i) (by omega) hc
    exact Xk (i+1,_,_) ⟨by first | omega | (dsimp only<;>omega),by dsimp only;rw [hst];first | exact(Zvb hm0 hm1 hx.1 hx.2 ‹_› ‹_›).symm | exact(Zva hm0 hm1 hx.1 hx.2 ‹_› ‹_›).symm | exact(Zu9 hm0 hm1 hx.1 hx.2 ‹_› ‹_›).symm | exact(Zu8 hm0 hm1 hx.1 hx.2 ‹_› ‹_›).symm,by dsimp only;omega,by dsimp only;omega,by first | exact hx.1 | exact hm0,by first | exact hx.2 | exact hm1⟩ (by first | omega | (dsimp only<;>omega)) K4 K2
 ·exact Yx<|Zx<|Zx<|Pd<|Za<|Zb<|Ze<|mv J<|Zp J<|Zc<|Za<|Zq<|xU hsc results188 J J (by unfold chg;rw [show l=l.take i by rw [List.take_of_length_le (by omega)],←hc]<;>rfl)
theorem r3_at(v w u:Value)(ls:List (SL×List (Int×SL)))(x y:Int)(hz:∀z∈ls,Vp (Zj z.2))(hx:bl x.natAbs≤1000000)(hy:bl y.natAbs≤1000000)(hlen:ls.length≤30:=by omega):On prog 167 #[v,.agg #[.bool (decide (x<0)),w,.bool (decide (y<0)),u]] [Ec 1 Gu qT v ls,Mw w x.natAbs,Mw u y.natAbs] (.int .i64 (chg ((Bf ls).map (fat x y)))):=by
 refine Yi func167 J ntmps167 J K3 fun w0 sc hw hsc=>?_
 simp only [Zu,Zt]
 have hLl:((Bf ls).map (fat x y)).length=ls.length:=by simp
 have hLg:=fun i (h:i<ls.length)=>Zyh (z:=ls) rfl (fat x y) h
 refine Zb<|Ze<|tt (Yw (i:=4) J J J J J hw) fun b _=>Zp J<|Zc<|Za<|Zb<|Ze<|Zp J<|Zc<|Za<|Zb<|Zb<|Ze<|Zp J<|Zc<|Za<|Zo<|Yo (Np 70 1 3 Fz)<|Oc [(0,_),(3,_)] [(0,_),(1,_),(2,_),(3,_),(4,_)] (fun(q:Nat×Value)=>[(6,.int .i64 (q.1:Int)),(5,q.2)]) (fun(q:Nat×Value)=>[(70,Ld 1 3 Fz q.2 (((Bf ls).map (fat x y)).take q.1))]) (fun(q:Nat×Value)=>q.1≤ls.length) (fun(q:Nat×Value)=>ls.length-q.1) (0,.slice none 0 0) (by first | omega | (dsimp only<;>omega)) K4 K6 ?_
 rintro⟨i,vo⟩ hi
 dsimp only at hi
 simp only [CA,NA]
 have htl:(((Bf ls).map (fat x y)).take i).length=i:=by rw [List.length_take];omega
 refine Zb<|Zb<|Ze<|mv J<|mv J<|dt (Yf J J (i:=1) J Yg underlying186)<|dt (Xv J J J)<|Zc<|Za<|Zr J (fun h88=>?_) (fun h88=>?_)
 ·refine Zk<|Za<|Zb<|Zo ?_
  have hvi:=hz (ls.getD i T0) (Xj)
  have hvl:=hvi.len
  rw [Yc]at hvl
  refine Yo (Zhm 1 91 (ls.getD i T0) J J (Xj) J)<|Nm [1,4] [10]<|Ya (n:=0) [(0,0),(1,0),(2,0),(3,0),(4,0),(5,0),(6,1),(7,1),(8,1),(9,1),(10,3)]<|Zs J J (Xm (Yd J J) K2)<|Zs J J (Xm (Yd J J) K2)<|Zs J J (Xm (Yd J J) K2)<|Zs J J (Xm (Xc (ii:=1) J J J J Yg underlying186 sizeOf34 J (by first | omega | (simp only [List.length_set];omega))) K2)<|Zs J J (Xm (Xr (ii:=1) T0 J J J Yg pT (by first | omega | (simp only [List.length_set];omega))) K2)<|Zs J J (Xm (Ym (i:=4) J J J Gc Ml J J J J) K2)<|Xb J (Zh (n:=5) (Zu4 _ _ _ _ x y (hvi.sz.mono (by omega)) hx hy) J J J K2 call121 (Zd 91 J J J (Zd 2 J J J (Zd 3 J J J Zg))) J hw) fun v _=>Xb J (Zh (n:=5) (Dw _ _ (by have:=ev_b (hvi.sz.mono (by omega):Sz 1000000 _) (by have:=hvi.len;omega) hx hy;omega)) J J J K1 call72 (Zd 5 J J J Zg) J hw) fun _ _=>Xb J (Pn (i:=6) (ivs:=[(0,_)]) (enc:=Fz) [(fat x y (Zj (ls.getD i T0).2))] J J K2 Oo ti3 J J J J J pZ.cells J J hw) (fun v_2 _=>?_)
  exact Xb J (Ze6 70 J J J K2 (fun hoffr=>(Zbs (i:=70) (j:=6) (by_:=8) J J J J J J (by decide) J (Xa pZ) Oo ti3 J pZ J J J (by rw [htl];simp;omega) (by decide) J hw hoffr))) fun v_3 _=>Po J (Od (Mb J J) J) fun _ _=>Yl<|Yk<|Qn<|Za<|Ze<|mv J<|dt (Ys J J J)<|Zp J<|Zc<|Xk (i+1,_) (by first | omega | (dsimp only<;>omega)) (by first | omega | (dsimp only<;>omega)) K4 ⟨by rw [Mc 0 _ _ (by omega),hLg i (by omega)];rfl,rfl,rfl,rfl,rfl,rfl,trivial⟩
 ·refine Yx<|Zx<|Zx<|Pd<|Za<|Zb<|Yo (Pg 70 J J pZ) ?_
  have htk:((Bf ls).map (fat x y)).take i=((Bf ls).map (fat x y)):=List.take_of_length_le (by omega)
  exact Ze<|mv J<|tt (Zh (n:=6) (Yah _ _ (fun i=>by rw [htk];by_cases hi9:i<ls.length;(rw [hLg i hi9];exact fat_r _ _ _);(rw [show((Bf ls).map (fat x y)).getD i 0=0 from Qe (by omega)];decide)) (by omega)) J J J K1 call188 (Zd 70 J J J Zg) J hw) fun _ _=>Zp J<|Zc<|Za<|Zq<|xU hsc results167 J J (by rw [htk])
theorem Yai(v w u w2 u2:Value)(zs:List (Int×SL))(x y x2 y2:Int)(hv:Vp (Zj zs))(h0:zs.length≠0)(hs:Sz 260 (Zj zs))(hl:zs.length≤8)(hx:bl x.natAbs≤1000000)(hy:bl y.natAbs≤1000000)(hx2:bl x2.natAbs≤1000000)(hy2:bl y2.natAbs≤1000000):On prog 122 #[v,.agg #[.bool (decide (x<0)),w,.bool (decide (y<0)),u],.agg #[.bool (decide (x2<0)),w2,.bool (decide (y2<0)),u2]] [pp v zs,Mw w x.natAbs,Mw u y.natAbs,Mw w2 x2.natAbs,Mw u2 y2.natAbs] (.int .i64 (cnt 13 (Zj zs) x y-cnt 13 (Zj zs) x2 y2)):=by
 refine Yi func122 J ntmps122 J K5 fun w0 sc hw hsc=>?_
 simp only [Zu,Zt]
 have hli:=Yc zs
 have hne:Zj zs≠[]:=fun e=>h0 (by rw [←hli,e];rfl)
 obtain⟨hC,hq,hql⟩:=Ycs hv.tr hne hs (by omega)
 refine Zb<|Ze<|tt (Yw (i:=6) J J J J J hw) fun b _=>tt (Yw (i:=7) J J J J J hw) fun b_2 _=>Zp J<|Zc<|Za<|Zb<|Ze<|mv J<|tt (Zh (n:=8) (Yaj _ _ hv h0 hs hl) J J J K1 call166 (Zd 1 J J J Zg) J hw) fun g hg=>Zp J<|Zc<|Za<|Zb ?_
 have hT:Bf g.2=chn 13 (Zj zs):=hg
 have hTl:=Zyi hT
 have hll:(chn 13 (Zj zs)).length≤_:=Zaq 13 _ _
 have hr1:=Zbh ((Bf g.2).map (fat x y))
 have hr2:=Zbh ((Bf g.2).map (fat x2 y2))
 simp only [List.length_map]at hr1 hr2
 have hVz:∀z∈g.2,Vp (Zj z.2):=fun z hz=>Zy2 hv hne hC _ (by rw [←hT];exact List.mem_map_of_mem (f:=fun z=>Zj z.2) hz)
 refine Qs (fun _=>False) [(0,0),(1,0),(3,0),(4,0),(2,1),(5,1),(6,0),(7,3)] ?_ ?_
 ·kernel_rfl
 exact Zs J J (Yt (Yd J J))<|Zs J J (Yt (Ym (i:=6) J J J Gc Ml J J J J))<|Zs J J (Yt (Yd J J))<|Zs J J (Yt (Ym (i:=7) J J J Gc Ml J J J J))<|Xb J (Zh (n:=8) (r3_at _ _ _ _ x y hVz hx hy) J J J K2 call167 (Zd 8 J J J (Zd 2 J J J (Zd 3 J J J Zg))) J hw) fun _ _=>Xb J (Zh (n:=8) (r3_at _ _ _ _ x2 y2 hVz hx2 hy2) J J J K2 call167 (Zd 8 J J J (Zd 4 J J J (Zd 5 J J J Zg))) J hw) fun _ _=>Zs J J (Yt (Qd J J J))<|Po J (Od (Mb J J) J) fun _ _=>Ob<|Za<|Zq<|xU hsc results122 J J (by rw [hT]<;>rfl)
theorem Zqv(xs:List Int)(hd:Cvd xs)(hx0:xs≠[])(f:Nat)(ih:∀(v:Value) (zs:List (Int×SL)) (hI:RI xs (Zj zs)) (hf:zs.length≤f),Cal prog 19 #[v] [pp v zs] true (G:=Value×List (Int×SL)) (fun r=>Zj r.2=Zcz 13 f (Zj zs)) (fun r=>r.1) (fun r=>[pp r.1 r.2]))(v:Value)(zs:List (Int×SL))(hI:RI xs (Zj zs))(hf:zs.length≤f+1):Cal prog 19 #[v] [pp v zs] true (G:=Value×List (Int×SL)) (fun r=>Zj r.2=Zcz 13 (f+1) (Zj zs)) (fun r=>r.1) (fun r=>[pp r.1 r.2]):=by
 refine Yi func19 J ntmps19 J K1 fun w0 sc hw hsc=>?_
 simp only [Zu,Zt]
 have hli:=Yc zs
 have hIl:=hI.l
 have hz0:zs.length≠0:=fun e=>hI.ne (List.eq_nil_of_length_eq_zero (by omega))
 refine Zb<|Ze<|Zp J<|Zc<|Za<|Zb<|Ze<|mv J<|tt (Zh (n:=2) (Zta _ _ hI.v hz0 (hI.s.mono (by omega))) J J J K1 call54 (Zd 1 J J J Zg) J hw) (fun g hg=>?_)
 have H_on:Zj g.2=(sqf 13 (Zj zs)):=hg
 have hl_on:=congrArg List.length H_on
 rw [Yc]at hl_on
 refine Zp J<|Zc<|Za<|Zb<|Zb<|Ze<|mv J<|dt (Yf J J (i:=2) J Yg Pq)<|dt (Pj J J J)<|Zc<|Za<|Zr J (fun h29=>?_) (fun h29=>?_)
 ·have h1:(sqf 13 (Zj zs)).length=1:=by omega
  exact Zb<|Ze<|mv J<|Zp J<|Zc<|Za<|Zq<|Yn<|Yu (.inl J) hsc (_,g.2) _ (fun a w hs=>Ni hs results19 J) J (by rw [H_on,rodd_1 h1]) J (Xu 2 J J J Zm)
 ·have h1:(sqf 13 (Zj zs)).length≠1:=by omega
  obtain⟨c1,c2,c3,c4,c5,c6,c7,c8,c9,c10,c11,c12,c13,c14,c15,c16,c17,c18,c19,c20,c21,c22,c23,c24,c25⟩:=RI.step hd hx0 hI
  have m6:=Oi c6
  have m12:=Oi c12
  have hl_lfp:=Xd (Zj zs)
  refine Zk<|Za<|Zb<|Ze<|mv J<|tt (Zh (n:=3) (Gs _ _ (hI.s.mono (by omega)) (fun _=>c5)) J J J K1 call57 (Zd 1 J J J Zg) J hw) (fun g_2 hg_2=>?_)
  have H_pp:Zj g_2.2=Xf (Zj zs):=hg_2
  have hl_pp:=congrArg List.length H_pp
  rw [Yc]at hl_pp
  refine tt (Zh (n:=4) (Zgg 1 ⟨by decide,by decide⟩) J J J K1 call34 Zg J hw) fun v _=>tt (Zh (n:=5) (Zaz _ _ _ _ (by rw [H_pp];exact(Fg hI.s).mono (by omega)) (by decide +kernel)) J J J K2 call56 (Zd 3 J J J (Zd 4 J J J Zg)) J hw) (fun g_3 hg_3=>?_)
  have H_sc:Zj g_3.2=Xw (Xf (Zj zs)) 1:=by rw [hg_3,H_pp]
  have hl_sc:=congrArg List.length H_sc
  rw [Yc]at hl_sc
  refine mv J<|tt (Zh (n:=6) (Zd0 _ _ _ _ (by rw [H_sc];exact c7) (by rw [H_on];exact c1) (fun _=>by rw [H_sc,H_on];have h7:=Nat.mul_le_mul (show g_3.2.length-g.2.length+1≤8 by omega) (show Pi (sqf 13 (Zj zs))+1≤331 by omega);omega)) J J J K2 call55 (Zd 5 J J J (Zd 2 J J J Zg)) J hw) (fun g_4 hg_4=>?_)
  have H_lf:Zj g_4.2=Mr 13 (Zj zs):=by have h9:=hg_4 (by rw [H_sc,H_on];exact c9);rw [H_sc,H_on]at h9;exact h9
  have hl_lf:=congrArg List.length H_lf
  rw [Yc]at hl_lf
  refine mv J<|dt (Zz J J J)<|dt (Zz J J J)<|Zp J<|Zp J<|Zc<|Za<|Zb<|Ze<|mv J<|tt (Zh (n:=7) (Zta _ _ (by rw [H_lf];exact c10) (fun e=>c11 (List.eq_nil_of_length_eq_zero (by rw [←H_lf,Yc];exact e))) (by rw [H_lf];exact c12.mono (by omega))) J J J K1 call54 (Zd 6 J J J Zg) J hw) (fun g_5 hg_5=>?_)
  have H_tw:Zj g_5.2=(sqf 13 (Mr 13 (Zj zs))):=by rw [hg_5,H_lf]
  have hl_tw:=congrArg List.length H_tw
  rw [Yc]at hl_tw
  refine Zp J<|Zc<|Za<|Zb<|Ze<|mv J<|mv J<|tt (Zh (n:=8) (Zd0 _ _ _ _ (by rw [H_on];exact c1) (by rw [H_tw];exact c16) (fun _=>by rw [H_on,H_tw];have h7:=Nat.mul_le_mul (show g.2.length-g_5.2.length+1≤8 by omega) (show Pi (sqf 13 (Mr 13 (Zj zs)))+1≤331 by omega);omega)) J J J K2 call55 (Zd 2 J J J (Zd 7 J J J Zg)) J hw) (fun g_6 hg_6=>?_)
  have H_ol:Zj g_6.2=Kt (sqf 13 (Zj zs)) (sqf 13 (Mr 13 (Zj zs))):=by have h9:=hg_6 (by rw [H_on,H_tw];exact c20);rw [H_on,H_tw]at h9;exact h9
  have hl_ol:=congrArg List.length H_ol
  rw [Yc]at hl_ol
  refine mv J<|dt (Zz J J J)<|dt (Zz J J J)<|Zp J<|Zp J<|Zc<|Za<|Zb<|Ze<|mv J<|tt (Zh (n:=9) (Gs _ _ (by rw [H_lf];exact c12.mono (by omega)) (fun _=>by rw [H_lf];exact c14)) J J J K1 call57 (Zd 6 J J J Zg) J hw) (fun g_7 hg_7=>?_)
  have H_p2:Zj g_7.2=(Mr 13 (Zj zs)):=by rw [hg_7,H_lf,c15]
  have hl_p2:=congrArg List.length H_p2
  rw [Yc]at hl_p2
  refine mv J<|tt (Zh (n:=10) (Zd0 _ _ _ _ (by rw [H_p2];exact c10.tr) (by rw [H_tw];exact c16) (fun _=>by rw [H_p2,H_tw];have h7:=Nat.mul_le_mul (show g_7.2.length-g_5.2.length+1≤8 by omega) (show Pi (sqf 13 (Mr 13 (Zj zs)))+1≤331 by omega);omega)) J J J K2 call55 (Zd 9 J J J (Zd 7 J J J Zg)) J hw) (fun g_8 hg_8=>?_)
  have H_rs:Zj g_8.2=Ab 13 (Zj zs):=by have h9:=hg_8 (by rw [H_p2,H_tw];exact c23);rw [H_p2,H_tw]at h9;exact h9.trans (by unfold Ab;rw [c15])
  have hl_rs:=congrArg List.length H_rs
  rw [Yc]at hl_rs
  refine mv J<|dt (Zz J J J)<|dt (Zz J J J)<|Zp J<|Zp J<|Zc<|Za<|Zb<|Ze<|mv J<|mv J<|tt (Zh (n:=11) (ih _ _ (by rw [H_rs];exact c24) (by have:=c25 h1;omega)) J J J K1 call19 (Zd 10 J J J Zg) J hw) (fun g_9 hg_9=>?_)
  have hl_od:=congrArg List.length hg_9
  rw [Yc,H_rs]at hl_od
  obtain⟨q1,q2,q3⟩:=RI.size hd hx0 c24 (f:=f) (by have:=c25 h1;omega)
  exact tt (Zh (n:=12) (Zz4 _ _ _ _ (by rw [H_ol];exact c21.mono (by omega)) (by rw [hg_9,H_rs];exact q2.mono (by omega)) (by omega)) J J J K2 call42 (Zd 8 J J J (Zd 11 J J J Zg)) J hw) fun g_10 hg_10=>Zp J<|Zc<|Za<|Zq<|xG hsc _ results19 J J (by rw [hg_10,H_ol,hg_9,H_rs];exact(rodd_s h1).symm) J (Xu 12 J J J Zm)
theorem Zj9(xs:List Int)(hd:Cvd xs)(hx0:xs≠[]):∀(f:Nat) (v:Value) (zs:List (Int×SL)) (hI:RI xs (Zj zs)) (hf:zs.length≤f),Cal prog 19 #[v] [pp v zs] true (G:=Value×List (Int×SL)) (fun r=>Zj r.2=Zcz 13 f (Zj zs)) (fun r=>r.1) (fun r=>[pp r.1 r.2])
 | 0,v,zs,hI,hf=>absurd (List.eq_nil_of_length_eq_zero (by rw [Yc];omega)) hI.ne
 | f+1,v,zs,hI,hf=>Zqv xs hd hx0 f (Zj9 xs hd hx0 f) v zs hI hf
theorem r4_odd(v:Value)(zs:List (Int×SL))(hd:Cvd (Zj zs))(h0:zs.length≠0):Cal prog 19 #[v] [pp v zs] true (G:=Value×List (Int×SL)) (fun r=>Zj r.2=Kf (Zj zs)) (fun r=>r.1) (fun r=>[pp r.1 r.2]):=by
 have hne:Zj zs≠[]:=fun e=>h0 (by rw [←Yc,e];rfl)
 have h:=Zj9 (Zj zs) hd hne zs.length v zs (RI.start hd hne) (Nat.le_refl _)
 rw [←Yc zs,Zxp hd hne]at h
 exact h
theorem Zqp(v:Value)(r:List (Bool×ByteArray))(hok:okP r=true):Cal prog 16 #[v] [Px 2 Aq v r] true (G:=Value×List (Int×SL)) (fun q=>Zj q.2=dec r) (fun q=>q.1) (fun q=>[pp q.1 q.2]):=
 Cal.imp (Yd1 v (dec r) ((Zpc hok).1.sz.mono (by omega)) (by have:=(Zpc hok).1.len;omega)) (Znq hok v) (fun _ h=>h)
set_option maxRecDepth 100000
theorem pPR:Enc prog 79 9 Hh:=Enc.agg (by decide) Tryz.sizeOf79 Tryz.isAgg79 (fun x=>⟨[.int .i64 x.1,.bool x.2.1.1.1,.string x.2.1.1.2,.bool x.2.1.2.1,.string x.2.1.2.2,.bool x.2.2.1.1,.string x.2.2.1.2,.bool x.2.2.2.1,.string x.2.2.2.2],rfl,rfl,by simp [Value.oneCell']⟩)
theorem Et(z:RZ)(h:Bd z=true):On prog 95 #[.agg #[.bool z.1.1,.string z.1.2,.bool z.2.1,.string z.2.2]] [] (.bool (efit (Fa z))):=by
 obtain⟨h1,h2,h3,h4⟩:=Yed h
 have h5:=Ks (qx z) (qy z) h1 h2
 have e:(Value.agg #[.bool z.1.1,.string z.1.2,.bool z.2.1,.string z.2.2])= .agg #[.bool (decide (qx z<0)),.string (Xp (qx z).natAbs),.bool (decide (qy z<0)),.string (Xp (qy z).natAbs)]:=by
  conv=>lhs;rw [h4]
 rw [e];exact h5
theorem Znu(v u:Value)(xs:List Int)(ls:List Cv)(a b:R2)(hd:Cvd xs)(ha:E32 a)(hb:E32 b)(hb9:¬((ls.length≤200∧∀z∈ls,vpz z)∧∀z∈ls,fpz z)):Cal prog 58 #[v,rX a.1 a.2,rX b.1 b.2,u] [Px 2 wv v xs,Px 9 Hh u ls] false (G:=Int) (fun e=>BadE ls e) (fun e=> .int .i64 e) (fun e=>[]):=by
 refine Yi func58 J ntmps58 J K2 fun w0 sc hw hsc=>?_
 simp only [Zu,Zt]
 have hv0:=hd.v
 have ha1:=ha.b1
 have ha2:=ha.b2
 have hap:=ha.p
 have hb1:=hb.b1
 have hb2:=hb.b2
 have hbp:=hb.p
 refine Nl (Kk (i:=2) J Zi) fun hlen=>Yo (Np 999 2 31 wv)<|Yo (Pg 999 J J pV)<|Zb<|Ze<|tt (Yw (i:=3) J J J J J hw) fun bx _=>tt (Yw (i:=4) J J J J J hw) fun bx_2 _=>Zp J<|Zc<|Za<|Zb<|Zb<|Ze<|mv J<|tt (Zh (n:=4) (Qx _ _ ‹_›) J J J K1 Bq (Zd 1 J J J Zg) J hw) fun _ _=>dt (dF (Xl J J) (vB (by decide)))<|mv J<|Xh (Ym (i:=3) J J J Xq Yr J J J J) J J<|Lz (Zh (n:=4) (Pt a.1 a.2 hap) J J J K1 Di Zg J hw) J J J fun _ _=>Xh (dF (Xl J J) (vB (by decide))) J J<|dt (Yh J J J)<|mv J<|Xh (Ym (i:=4) J J J Xq Yr J J J J) J J<|Lz (Zh (n:=4) (Pt b.1 b.2 hbp) J J J K1 Di Zg J hw) J J J fun _ _=>Xh (dF (Xl J J) (vB (by decide))) J J<|dt (Yh J J J)<|mv J<|Xh (Yd J J) J J<|Xh (Yf J J (i:=2) J Zi Dn) J J<|Xh (Pw J J J) J J<|dt (Yh J J J)<|Zc<|Za<|Zr J (fun h35=>?_) (fun h35=>?_)
 ·exact Zb<|Ze<|Zp J<|Zc<|Za<|Zq<|Yn<|Yu (.inl J) hsc 2 _ (fun a w hs=>Ni hs results58 J) J ⟨fun _=>J,fun _=>by decide⟩ J Zm
 ·refine Zk<|Za<|Zb<|Ze<|mv J<|tt (Zh (n:=4) (Zj1 _ xs hv0) J J J K1 call14 (Zd 1 J J J Zg) J hw) fun _ _=>dt (dF (Zdi J J) (vB (decide_eq_false (fun h=>h (Ct hd (by omega))))))<|mv J<|Xh (Ym (i:=3) J J J Xq Yr J J J J) J J<|Lz (Zh (n:=4) (Ks a.1 a.2) J J J K1 call95 Zg J hw) J J J fun _ _=>Xh (dF (Xl J J) (vB (by rw [ha.efit];rfl))) J J<|dt (Yh J J J)<|mv J<|Xh (Ym (i:=4) J J J Xq Yr J J J J) J J<|Lz (Zh (n:=4) (Ks b.1 b.2) J J J K1 call95 Zg J hw) J J J fun _ _=>Xh (dF (Xl J J) (vB (by rw [hb.efit];rfl))) J J<|dt (Yh J J J)<|Zp J<|Zc<|Za<|Zb<|Zb<|Ze<|mv J<|dt (Yf J J (i:=2) J Zi Dn)<|mv J<|Zc<|Za<|Zo ?_
  refine Oc [(5,_),(6,_),(43,_),(44,_)] [(0,_),(1,_),(2,_),(999,_),(3,_),(4,_)] (fun(q:Nat×Bool)=>[(45,.int .i64 (q.1:Int)),(9,.bool q.2)]) (fun(q:Nat×Bool)=>[]) (fun(q:Nat×Bool)=>(q.1≤ls.length)∧(∀k,k<q.1→vpz (ls.getD k P0r))∧(q.2=true∨∀k,k<q.1→fpz (ls.getD k P0r))) (fun(q:Nat×Bool)=>ls.length-q.1) (0,false) ⟨by first | omega | (dsimp only<;>omega),fun k hk=>absurd hk (Nat.not_lt_zero k),.inr fun k hk=>absurd hk (Nat.not_lt_zero k)⟩ K6 K6 ?_
  rintro⟨i,fl⟩ ⟨hi,hv,hfl⟩
  dsimp only at hi hv hfl
  simp only [CA,NA]
  refine Zb<|Ze<|dt (Xv J J J)<|Zc<|Za<|Zb<|Zr J (fun h39=>?_) (fun h39=>?_)
  ·refine Zk<|Za<|Zb<|Zo<|Zb<|Ze<|dt (Xc (ii:=2) J J J J Zi Dn Zji J (by first | omega | (simp only [List.length_set];omega)))<|dt (Xr (ii:=2) P0r J J J Zi pPR (by first | omega | (simp only [List.length_set];omega)))<|tt (Zy (i:=5) J J zeroValue79 J J hw) fun bx_3 _=>tt (Zl (i:=5) J J J J J J Zji J J ⟨Zf J,Zf J,Zf J,Zf J,Zf J,Zf J,Zf J,Zf J,Zf J,trivial⟩ J hw trivial) fun _ _=>Zc<|Za<|Zb<|Zb<|Ze<|dt (Yv J J Iv J sizeOf77 J J)<|dt (Qw (i:=5) J J J isAgg77 J)<|dt (Xz J J J)<|mv J<|Pf (d:=52) J (fun s40=>?_) (fun s40=>?_)
   ·refine Xh (Yv J J Iv J sizeOf77 J J) J J<|Xh (Qw (i:=5) J J J isAgg77 J) J J<|Xh (Xz J J J) J J<|dt (Yy J J J)<|mv J<|Pf (d:=57) J (fun s40_2=>?_) (fun s40_2=>?_)
    ·exact Xt J J J<|Xt J J J<|Xt J J J<|Xt J J J<|dt (Yy J J J)<|mv J<|Xt J J J<|Xt J J J<|Xt J J J<|Xt J J J<|dt (Yy J J J)<|Zc<|Za<|Pv J<|Zb<|Ze<|Zp J<|Zc<|Za<|Zq<|Yn<|Nq<|Yn<|Yn<|Nq<|Yn<|Yu (.inl J) hsc 2 _ (fun a w hs=>Ni hs results58 J) J ⟨fun _=>J,fun _=>by decide⟩ J Zm
    ·refine Xh (Yv J J Iv J Yr J J) J J<|Xh (Ym (i:=5) J J J Xq Yr J J J J) J J<|Lz (Zh (n:=5) (Ki _ _ _ _) J J J K1 Di Zg J hw) J J J fun _ _=>Xh (Xl J J) J J<|dt (Yh J J J)<|mv J<|Ma (d:=63) J (fun s40_3=>?_) (fun s40_3=>?_)
     ·exact Xt J J J<|Xt J J J<|Xt J J J<|Xt J J J<|dt (Yy J J J)<|Zc<|Za<|Pv J<|Zb<|Ze<|Zp J<|Zc<|Za<|Zq<|Yn<|Nq<|Yn<|Yn<|Nq<|Yn<|Yu (.inl J) hsc 2 _ (fun a w hs=>Ni hs results58 J) J ⟨fun _=>J,fun _=>by decide⟩ J Zm
     ·refine Xh (Yv J J Iv J Yr J J) J J<|Xh (Ym (i:=5) J J J Xq Yr J J J J) J J<|Lz (Zh (n:=5) (Ki _ _ _ _) J J J K1 Di Zg J hw) J J J fun _ _=>Xh (Xl J J) J J<|dt (Yh J J J)<|Zc<|Za<|Mf J (fun h40=>?_) (fun h40=>?_)
      ·exact Zb<|Ze<|Zp J<|Zc<|Za<|Zq<|Yn<|Nq<|Yn<|Yn<|Nq<|Yn<|Yu (.inl J) hsc 2 _ (fun a w hs=>Ni hs results58 J) J ⟨fun _=>J,fun _=>by decide⟩ J Zm
      ·refine Zk<|Za ?_
       have hvz:vpz (ls.getD i P0r):=⟨by omega,by simp_all [Bd],by simp_all [Bd]⟩
       refine Ze<|mv J<|mv J<|Ma (d:=70) J (fun s43=>?_) (fun s43=>?_)
       ·exact Xt J J J<|Xt J J J<|Xt J J J<|Xt J J J<|dt (Yy J J J)<|mv J<|Xt J J J<|Xt J J J<|Xt J J J<|Xt J J J<|dt (Yy J J J)<|Zp J<|Zc<|Qn<|Za<|Ze<|dt (Ys J J J)<|mv J<|Zc<|Xk (i+1,_) ⟨by first | omega | (dsimp only<;>omega),fun k hk2=>by rcases Nat.lt_succ_iff_lt_or_eq.1 hk2 with h9 | h9;exact hv k h9;subst h9;exact hvz,by first | exact .inl rfl | exact Zef hfl ‹_› ‹_›⟩ (by first | omega | (dsimp only<;>omega)) K6 K6
       ·refine Xh (Yv J J Iv J Yr J J) J J<|Xh (Ym (i:=5) J J J Xq Yr J J J J) J J<|Lz (Zh (n:=5) (Et (ls.getD i P0r).2.1 hvz.2.1) J J J K1 call95 Zg J hw) J J J fun _ _=>Xh (Xl J J) J J<|dt (Yh J J J)<|mv J<|Ma (d:=76) J (fun s43_2=>?_) (fun s43_2=>?_)
        ·exact Xt J J J<|Xt J J J<|Xt J J J<|Xt J J J<|dt (Yy J J J)<|Zp J<|Zc<|Qn<|Za<|Ze<|dt (Ys J J J)<|mv J<|Zc<|Xk (i+1,_) ⟨by first | omega | (dsimp only<;>omega),fun k hk2=>by rcases Nat.lt_succ_iff_lt_or_eq.1 hk2 with h9 | h9;exact hv k h9;subst h9;exact hvz,by first | exact .inl rfl | exact Zef hfl ‹_› ‹_›⟩ (by first | omega | (dsimp only<;>omega)) K6 K6
        ·exact Xh (Yv J J Iv J Yr J J) J J<|Xh (Ym (i:=5) J J J Xq Yr J J J J) J J<|Lz (Zh (n:=5) (Et (ls.getD i P0r).2.2 hvz.2.2) J J J K1 call95 Zg J hw) J J J fun _ _=>Xh (Xl J J) J J<|dt (Yh J J J)<|Zp J<|Zc<|Qn<|Za<|Ze<|dt (Ys J J J)<|mv J<|Zc<|Xk (i+1,_) ⟨by first | omega | (dsimp only<;>omega),fun k hk2=>by rcases Nat.lt_succ_iff_lt_or_eq.1 hk2 with h9 | h9;exact hv k h9;subst h9;exact hvz,by first | exact .inl rfl | exact Zef hfl ‹_› ‹_›⟩ (by first | omega | (dsimp only<;>omega)) K6 K6
   ·refine Xt J J J<|Xt J J J<|Xt J J J<|dt (Yh J J J)<|mv J<|Xh (Yv J J Iv J Yr J J) J J<|Xh (Ym (i:=5) J J J Xq Yr J J J J) J J<|Lz (Zh (n:=5) (Ki _ _ _ _) J J J K1 Di Zg J hw) J J J fun _ _=>Xh (Xl J J) J J<|dt (Yh J J J)<|mv J<|Ma (d:=63) J (fun s40_4=>?_) (fun s40_4=>?_)
    ·exact Xt J J J<|Xt J J J<|Xt J J J<|Xt J J J<|dt (Yy J J J)<|Zc<|Za<|Pv J<|Zb<|Ze<|Zp J<|Zc<|Za<|Zq<|Yn<|Nq<|Yn<|Yn<|Nq<|Yn<|Yu (.inl J) hsc 2 _ (fun a w hs=>Ni hs results58 J) J ⟨fun _=>J,fun _=>by decide⟩ J Zm
    ·refine Xh (Yv J J Iv J Yr J J) J J<|Xh (Ym (i:=5) J J J Xq Yr J J J J) J J<|Lz (Zh (n:=5) (Ki _ _ _ _) J J J K1 Di Zg J hw) J J J fun _ _=>Xh (Xl J J) J J<|dt (Yh J J J)<|Zc<|Za<|Mf J (fun h40_2=>?_) (fun h40_2=>?_)
     ·exact Zb<|Ze<|Zp J<|Zc<|Za<|Zq<|Yn<|Nq<|Yn<|Yn<|Nq<|Yn<|Yu (.inl J) hsc 2 _ (fun a w hs=>Ni hs results58 J) J ⟨fun _=>J,fun _=>by decide⟩ J Zm
     ·refine Zk<|Za ?_
      have hvz:vpz (ls.getD i P0r):=⟨by omega,by simp_all [Bd],by simp_all [Bd]⟩
      refine Ze<|mv J<|mv J<|Ma (d:=70) J (fun s43_3=>?_) (fun s43_3=>?_)
      ·exact Xt J J J<|Xt J J J<|Xt J J J<|Xt J J J<|dt (Yy J J J)<|mv J<|Xt J J J<|Xt J J J<|Xt J J J<|Xt J J J<|dt (Yy J J J)<|Zp J<|Zc<|Qn<|Za<|Ze<|dt (Ys J J J)<|mv J<|Zc<|Xk (i+1,_) ⟨by first | omega | (dsimp only<;>omega),fun k hk2=>by rcases Nat.lt_succ_iff_lt_or_eq.1 hk2 with h9 | h9;exact hv k h9;subst h9;exact hvz,by first | exact .inl rfl | exact Zef hfl ‹_› ‹_›⟩ (by first | omega | (dsimp only<;>omega)) K6 K6
      ·refine Xh (Yv J J Iv J Yr J J) J J<|Xh (Ym (i:=5) J J J Xq Yr J J J J) J J<|Lz (Zh (n:=5) (Et (ls.getD i P0r).2.1 hvz.2.1) J J J K1 call95 Zg J hw) J J J fun _ _=>Xh (Xl J J) J J<|dt (Yh J J J)<|mv J<|Ma (d:=76) J (fun s43_4=>?_) (fun s43_4=>?_)
       ·exact Xt J J J<|Xt J J J<|Xt J J J<|Xt J J J<|dt (Yy J J J)<|Zp J<|Zc<|Qn<|Za<|Ze<|dt (Ys J J J)<|mv J<|Zc<|Xk (i+1,_) ⟨by first | omega | (dsimp only<;>omega),fun k hk2=>by rcases Nat.lt_succ_iff_lt_or_eq.1 hk2 with h9 | h9;exact hv k h9;subst h9;exact hvz,by first | exact .inl rfl | exact Zef hfl ‹_› ‹_›⟩ (by first | omega | (dsimp only<;>omega)) K6 K6
       ·exact Xh (Yv J J Iv J Yr J J) J J<|Xh (Ym (i:=5) J J J Xq Yr J J J J) J J<|Lz (Zh (n:=5) (Et (ls.getD i P0r).2.2 hvz.2.2) J J J K1 call95 Zg J hw) J J J fun _ _=>Xh (Xl J J) J J<|dt (Yh J J J)<|Zp J<|Zc<|Qn<|Za<|Ze<|dt (Ys J J J)<|mv J<|Zc<|Xk (i+1,_) ⟨by first | omega | (dsimp only<;>omega),fun k hk2=>by rcases Nat.lt_succ_iff_lt_or_eq.1 hk2 with h9 | h9;exact hv k h9;subst h9;exact hvz,by first | exact .inl rfl | exact Zef hfl ‹_› ‹_›⟩ (by first | omega | (dsimp only<;>omega)) K6 K6
  ·refine Yx<|Zx<|Zx<|Pd<|Za<|Zb<|Zb<|Ze<|dt (Ym (i:=3) J J J Xq Yr J J J J)<|dt (Ym (i:=4) J J J Xq Yr J J J J)<|tt (Zh (n:=5) (Ft a.1 a.2 b.1 b.2 hap hbp) J J J K2 call96 Zg J hw) fun _ _=>dt (Pw J J J)<|Zc<|Za<|Zr J (fun h45=>?_) (fun h45=>?_)
   ·exact Zb<|Ze<|Zp J<|Zc<|Za<|Zq<|Yn<|Yu (.inl J) hsc 3 _ (fun a w hs=>Ni hs results58 J) J (Zw5 (i:=i) (by omega) (by omega) hv (by decide)) J Zm
   ·refine Zk<|Za<|Zb<|Zb<|Ze<|mv J<|Zc<|Za<|Mf J (fun h48=>?_) (fun h48=>?_)
    ·exact Zb<|Ze<|Zp J<|Zc<|Za<|Zq<|Yn<|Yu (.inl J) hsc 7 _ (fun a w hs=>Ni hs results58 J) J (Zw5 (i:=i) (by omega) (by omega) hv (by decide)) J Zm
    ·exact Zk<|Za<|Zb<|Ze<|Zp J<|Zc<|Za<|Zq<|Yu (.inl J) hsc 0 _ (fun a w hs=>Ni hs results58 J) J (absurd ⟨⟨by omega,Zdb (i:=i) (by omega) hv⟩,Zdb (i:=i) (by omega) (hfl.resolve_left (by rw [show fl=false from by assumption];decide))⟩ hb9) J Zm
theorem Znw(v u:Value)(xs:List Int)(ls:List Cv)(a b:R2)(hd:Cvd xs)(ha:E32 a)(hb:E32 b)(hb9:¬((ls.length≤200∧∀z∈ls,vpz z)∧∀z∈ls,fpz z)):Cal prog 41 #[v,rX a.1 a.2,rX b.1 b.2,u] [Px 2 wv v xs,Px 9 Hh u ls] false (G:=Int) (fun e=>BadE ls e) (fun e=> .int .i64 e) (fun e=>[]):=by
 refine Yi func41 J ntmps41 J K2 fun w0 sc hw hsc=>?_
 simp only [Zu,Zt]
 have hv0:=hd.v
 have ha1:=ha.b1
 have ha2:=ha.b2
 have hap:=ha.p
 have hb1:=hb.b1
 have hb2:=hb.b2
 have hbp:=hb.p
 exact Nl (Kk (i:=2) J Zi) fun hlen=>Zb<|Ze<|tt (Yw (i:=3) J J J J J hw) fun bx _=>tt (Yw (i:=4) J J J J J hw) fun bx_2 _=>Zp J<|Zc<|Za<|Zi8<|Zb<|Zb<|Ze<|mv J<|dt (Ym (i:=3) J J J Xq Yr J J J J)<|dt (Ym (i:=4) J J J Xq Yr J J J J)<|mv J<|tt (Zh (n:=4) (Znu _ _ xs ls a b hd ha hb hb9) J J J K4 call58 (Zd 1 J J J (Zd 2 J J J Zg)) J hw) fun g hg=>Zp J<|Zc<|Za<|Zb<|Ze<|mv J<|dt (dT (Xz J J J) (vB (decide_eq_true (hg.ne hb9))))<|Zc<|Za<|Pv J<|Zb<|Ze<|mv J<|Zp J<|Zc<|Za<|Zq<|Yn<|Zl5<|xG hsc g results41 J J hg J Zm
theorem Zlu(v u:Value)(r:List (Bool×ByteArray))(z1 z2:RZ)(ls:List Cv)(hbad:(okP r && Bd z1 && Bd z2)=false):On prog 58 #[v,.agg #[.bool z1.1.1,.string z1.1.2,.bool z1.2.1,.string z1.2.2],.agg #[.bool z2.1.1,.string z2.1.2,.bool z2.2.1,.string z2.2.2],u] [Px 2 Aq v r,Px 9 Hh u ls] (.int .i64 2):=by
 refine Yi func58 J ntmps58 J K2 fun w0 sc hw hsc=>?_
 simp only [Zu,Zt]
 refine Nl (Kk (i:=2) J Zi) fun hlen=>Yo (Np 999 2 31 wv)<|Yo (Pg 999 J J pV)<|Zb<|Ze<|tt (Yw (i:=3) J J J J J hw) fun bx _=>tt (Yw (i:=4) J J J J J hw) fun bx_2 _=>Zp J<|Zc<|Za<|Zb<|Zb<|Ze<|mv J<|tt (Zh (n:=4) (Zkc _ _) J J J K1 Bq (Zd 1 J J J Zg) J hw) fun _ _=>dt (Xl J J)<|mv J<|Ma (d:=15) J (fun s35=>?_) (fun s35=>?_)
 ·exact Xt J J J<|Xt J J J<|Xt J J J<|dt (Yy J J J)<|mv J<|Xt J J J<|Xt J J J<|Xt J J J<|dt (Yy J J J)<|mv J<|Xt J J J<|Xt J J J<|Xt J J J<|dt (Yy J J J)<|Zc<|Za<|Pv J<|Zb<|Ze<|Zp J<|Zc<|Za<|Zq<|Yn<|xU hsc results58 J J J
 ·refine Xh (Ym (i:=3) J J J Xq Yr J J J J) J J<|Lz (Zh (n:=4) (Ki _ _ _ _) J J J K1 Di Zg J hw) J J J fun _ _=>Xh (Xl J J) J J<|dt (Yh J J J)<|mv J<|Ma (d:=20) J (fun s35_2=>?_) (fun s35_2=>?_)
  ·exact Xt J J J<|Xt J J J<|Xt J J J<|dt (Yy J J J)<|mv J<|Xt J J J<|Xt J J J<|Xt J J J<|dt (Yy J J J)<|Zc<|Za<|Pv J<|Zb<|Ze<|Zp J<|Zc<|Za<|Zq<|Yn<|xU hsc results58 J J J
  ·refine Xh (Ym (i:=4) J J J Xq Yr J J J J) J J<|Lz (Zh (n:=4) (Ki _ _ _ _) J J J K1 Di Zg J hw) J J J fun _ _=>Xh (Xl J J) J J<|dt (Yh J J J)<|mv J<|Ma (d:=25) J (fun s35_3=>?_) (fun s35_3=>?_)
   ·exact Xt J J J<|Xt J J J<|Xt J J J<|dt (Yy J J J)<|Zc<|Za<|Pv J<|Zb<|Ze<|Zp J<|Zc<|Za<|Zq<|Yn<|xU hsc results58 J J J
   ·refine Xh (Yd J J) J J<|Xh (Yf J J (i:=2) J Zi Dn) J J<|Xh (Pw J J J) J J<|dt (Yh J J J)<|Zc<|Za<|Zr J (fun h35=>?_) (fun h35=>?_)
    ·exact Zb<|Ze<|Zp J<|Zc<|Za<|Zq<|Yn<|xU hsc results58 J J J
    ·refine Zk<|Za<|Zb ?_
     exfalso;simp_all [Bd]
theorem Zlv(v u:Value)(r:List (Bool×ByteArray))(z1 z2:RZ)(ls:List Cv)(hbad:(okP r && Bd z1 && Bd z2)=false):On prog 41 #[v,.agg #[.bool z1.1.1,.string z1.1.2,.bool z1.2.1,.string z1.2.2],.agg #[.bool z2.1.1,.string z2.1.2,.bool z2.2.1,.string z2.2.2],u] [Px 2 Aq v r,Px 9 Hh u ls] (.int .i64 2):=by
 refine Yi func41 J ntmps41 J K2 fun w0 sc hw hsc=>?_
 simp only [Zu,Zt]
 exact Nl (Kk (i:=2) J Zi) fun hlen=>Zb<|Ze<|tt (Yw (i:=3) J J J J J hw) fun bx _=>tt (Yw (i:=4) J J J J J hw) fun bx_2 _=>Zp J<|Zc<|Za<|Zi8<|Zb<|Zb<|Ze<|mv J<|dt (Ym (i:=3) J J J Xq Yr J J J J)<|dt (Ym (i:=4) J J J Xq Yr J J J J)<|mv J<|tt (Zh (n:=4) (Zlu _ _ _ z1 z2 _ hbad) J J J K4 call58 (Zd 1 J J J (Zd 2 J J J Zg)) J hw) fun _ _=>Zp J<|Zc<|Za<|Zb<|Ze<|mv J<|dt (dT (Xz J J J) (vB (by decide)))<|Zc<|Za<|Pv J<|Zb<|Ze<|mv J<|Zp J<|Zc<|Za<|Zq<|Yn<|Zl5<|xU hsc results41 J J J
def qsum(f:Nat→Rat):Nat→Rat
 | 0=>0
 | n+1=>qsum f n+f n
def bS(d:Nat)(c:List Int)(j:Nat):Int:=Qr (fun i=>cf c i*(Fd (d-i) (j-i):Int)) (j+1)
def gdz(z:RZ):Prop:=Bd z=true∧z.1.2.size≤2∧z.2.2.size≤2
def GoodP(xs:List Int)(ls:List Cv)(a b:R2):Prop:=∃ps:List PTs,ls=ps.map Yd9∧Zsm ps∧ls.length≤200∧Zem xs ps a b=true
theorem Ydz{a b:R2}(h:rqz a=rqz b):a=b:=by
 have h1:=congrArg (fun z:RZ=>z.1.1) h
 have h2:=congrArg (fun z:RZ=>z.1.2) h
 have h3:=congrArg (fun z:RZ=>z.2.1) h
 have h4:=congrArg (fun z:RZ=>z.2.2) h
 exact Prod.ext (Zsq h1 h2) (Zsq h3 h4)
theorem ef_q{a:R2}(h:Ef a):Bd (rqz a)=true∧Fa (rqz a)=a:=by
 have hq:Bd (rqz a)=true:=Zoo (Nat.le_trans h.b1 (by decide)) (Nat.le_trans h.b2 (by decide)) h.p
 exact⟨hq,(Ydz (Zoc hq)).symm⟩
instance (z:Cv):Decidable (vpz z):=by unfold vpz;infer_instance
def okA(r:RWL)(z1 z2:RZ):Bool:=okP r && Bd z1 && Bd z2
def Zgw(L:List Cv):Prop:=L.length≤200∧∀z∈L,vpz z
instance (L:List Cv):Decidable (Zgw L):=by unfold Zgw;infer_instance
noncomputable def unr (z:Cv):PTs:=(z.1,Fa z.2.1,Fa z.2.2)
noncomputable def wF (r:RWL) (z1 z2:RZ):Int:=if okA r z1 z2=true then(if 0<Ba (Fa z1) (Fa z2)then 3 else 0)else 2
noncomputable def wE (r:RWL) (z1 z2:RZ) (L:List Cv):Int:=if okA r z1 z2=true∧Zgw L then(if 0<Ba (Fa z1) (Fa z2)then 3 else 0)else 2
noncomputable def cE (r:RWL) (z1 z2:RZ) (L:List Cv):Int:=if okA r z1 z2=true∧Zgw L then(if 0<Ba (Fa z1) (Fa z2)then 3 else(if Zem (dec r) (L.map unr) (Fa z1) (Fa z2)=true then 0 else 10))else 2
theorem ce_we{r:RWL}{z1 z2:RZ}{L:List Cv}(h:wE r z1 z2 L≠0):cE r z1 z2 L=wE r z1 z2 L:=by
 unfold cE wE at *
 by_cases h1:okA r z1 z2=true∧Zgw L
 ·rw [if_pos h1,if_pos h1]at *
  by_cases h2:0<Ba (Fa z1) (Fa z2)
  ·rw [if_pos h2,if_pos h2]
  ·rw [if_neg h2]at h;exact absurd rfl h
 ·rw [if_neg h1,if_neg h1]
theorem we_0{r:RWL}{z1 z2:RZ}{L:List Cv}(h:wE r z1 z2 L=0):(okP r=true∧Bd z1=true∧Bd z2=true)∧Zgw L∧¬0<Ba (Fa z1) (Fa z2):=by
 unfold wE at h
 by_cases h1:okA r z1 z2=true∧Zgw L
 ·rw [if_pos h1]at h
  have h2:=h1.1
  unfold okA at h2
  rw [Bool.and_eq_true,Bool.and_eq_true]at h2
  refine⟨⟨h2.1.1,h2.1.2,h2.2⟩,h1.2,fun h3=>?_⟩
  rw [if_pos h3]at h;exact absurd h (by decide)
 ·rw [if_neg h1]at h;exact absurd h (by decide)
theorem ce_0{r:RWL}{z1 z2:RZ}{L:List Cv}(h:wE r z1 z2 L=0):cE r z1 z2 L=if Zem (dec r) (L.map unr) (Fa z1) (Fa z2)=true then 0 else 10:=by
 obtain⟨⟨a1,a2,a3⟩,h2,h3⟩:=we_0 h
 unfold cE
 rw [if_pos ⟨by unfold okA;rw [a1,a2,a3];rfl,h2⟩,if_neg h3]
theorem Zdc{z:RZ}(hq:Bd z=true)(he:enR z=true):E32 (Fa z)∧efit (Fa z)=true:=by
 obtain⟨a,ha,rfl⟩:=e32_q hq he
 have:=(ef_q ha.ef).2
 rw [this];exact⟨ha,ha.ef.efit⟩
def enP(z:Cv):Prop:=enR z.2.1=true∧enR z.2.2=true
theorem Zq5{L:List Cv}(hv:∀z∈L,vpz z)(he:∀z∈L,enP z):L=(L.map unr).map Yd9∧Zsm (L.map unr):=by
 refine⟨?_,fun z hz=>?_⟩
 ·rw [List.map_map]
  conv=>lhs;rw [←List.map_id L]
  refine List.map_congr_left fun z hz=>?_
  obtain⟨-,v2,v3⟩:=hv z hz
  show z=(z.1,rqz (Fa z.2.1),rqz (Fa z.2.2))
  rw [←Zoc v2,←Zoc v3]
 ·obtain⟨y,hy,rfl⟩:=List.mem_map.1 hz
  obtain⟨v1,v2,v3⟩:=hv y hy
  obtain⟨e1,e2⟩:=he y hy
  exact⟨v1,(Zdc v2 e1).1.ef,(Zdc v3 e2).1.ef⟩
def Lx(ls:List Cv)(m:Int)(X:Cv):List Cv:=if 190≤m∧m≤210 then ls ++ List.replicate (m.toNat-ls.length) X else ls
theorem Ybl{ls:List Cv}{m:Int}{X z:Cv}(h:z∈Lx ls m X):z∈ls∨z=X:=by
 unfold Lx at h
 split at h
 ·rcases List.mem_append.1 h with h | h
  ·exact .inl h
  ·exact .inr (List.eq_of_mem_replicate h)
 ·exact .inl h
theorem lx_sub{ls:List Cv}{m:Int}{X z:Cv}(h:z∈ls):z∈Lx ls m X:=by
 unfold Lx;split
 ·exact List.mem_append.2 (.inl h)
 ·exact h
theorem lx_len{ls:List Cv}{m:Int}{X:Cv}(hl:ls.length≤8)(hm:190≤m∧m≤210):((Lx ls m X).length:Int)=m:=by
 unfold Lx;rw [if_pos hm,List.length_append,List.length_replicate];omega
theorem lx_no{ls:List Cv}{m:Int}{X:Cv}(h:¬(190≤m∧m≤210)):Lx ls m X=ls:=if_neg h
theorem Zto{ls:List Cv}{m:Int}{X:Cv}{k:Nat}(h:190≤m∧m≤210)(hk:(ls.length:Int)+(k:Int)=m):Lx ls m X=ls ++ List.replicate k X:=by
 unfold Lx;rw [if_pos h,show m.toNat-ls.length=k by omega]
def WS(ls:List Cv)(i:Nat)(w1 w:Int):Prop:=(w=w1∧∀k,k<i→vpz (ls.getD k P0r))∨(w=2∧∃k,k<i∧¬vpz (ls.getD k P0r))
theorem ws_0(ls:List Cv)(w:Int):WS ls 0 w w:= .inl ⟨rfl,fun k hk=>absurd hk (Nat.not_lt_zero k)⟩
theorem Zjj{ls:List Cv}{i:Nat}{w1 w:Int}(h:WS ls i w1 w)(hv:vpz (ls.getD i P0r)):WS ls (i+1) w1 w:=by
 rcases h with⟨h1,h2⟩ | ⟨h1,k,hk,h2⟩
 ·refine .inl ⟨h1,fun k hk=>?_⟩
  rcases Nat.lt_succ_iff_lt_or_eq.1 hk with h9 | h9
  ·exact h2 k h9
  ·rw [h9];exact hv
 ·exact .inr ⟨h1,k,by omega,h2⟩
theorem Ze2{ls:List Cv}{i:Nat}{w1:Int}(hv:¬vpz (ls.getD i P0r)):WS ls (i+1) w1 2:= .inr ⟨rfl,i,Nat.lt_succ_self i,hv⟩
theorem w_end{r:RWL}{z1 z2:RZ}{ls:List Cv}{m w1 w w3:Int}(hw1:w1=wF r z1 z2∨200<(Lx ls m (1,z2,z2)).length)(hW:WS ls ls.length w1 w)(h1:200<(Lx ls m (1,z2,z2)).length→w3=2)(h2:¬200<(Lx ls m (1,z2,z2)).length→w3=w):w3=wE r z1 z2 (Lx ls m (1,z2,z2)):=by
 by_cases hl:200<(Lx ls m (1,z2,z2)).length
 ·rw [h1 hl]
  unfold wE
  rw [if_neg (fun h=>by have:=h.2.1;omega)]
 ·rw [h2 hl]
  have e1:=hw1.resolve_right hl
  rcases hW with⟨a1,a2⟩ | ⟨a1,k,hk,a2⟩
  ·rw [a1,e1]
   unfold wF wE
   by_cases ho:okA r z1 z2=true
   ·have hq:Bd z2=true:=by unfold okA at ho;rw [Bool.and_eq_true]at ho;exact ho.2
    have hg:Zgw (Lx ls m (1,z2,z2)):=⟨by omega,fun z hz=>by
     rcases Ybl hz with h | h
     ·exact Zdb (P:=vpz) rfl a2 z h
     ·rw [h];exact⟨.inl rfl,hq,hq⟩⟩
    rw [if_pos ho];exact(if_pos ⟨ho,hg⟩).symm
   ·rw [if_neg ho,if_neg (fun h=>ho h.1)]
  ·rw [a1]
   unfold wE
   rw [if_neg (fun h=>a2 (h.2.2 _ (lx_sub (Xj hk))))]
theorem Zgd{z:RZ}(h:Bd z=true):(Value.agg #[.bool z.1.1,.string z.1.2,.bool z.2.1,.string z.2.2])=rX (Fa z).1 (Fa z).2:=by
 conv=>lhs;rw [Zoc h]
theorem Zcf(z:RZ)(h:Bd z=true):Cal prog 23 #[.agg #[.bool z.1.1,.string z.1.2,.bool z.2.1,.string z.2.2]] [] true (G:=Value×Value) (fun r=>True) (fun r=> .agg #[.bool (decide ((Fa z).1<0)),r.1,.bool (decide ((Fa z).2<0)),r.2]) (fun r=>[Mw r.1 ((Fa z).1).natAbs,Mw r.2 ((Fa z).2).natAbs]):=by
 obtain⟨h1,h2,-,-⟩:=Yed h
 rw [Zgd h]
 exact Ox (Fa z).1 (Fa z).2 (Nat.le_trans h1 (by decide)) (Nat.le_trans h2 (by decide))
theorem Zkx(v:Value)(r:List (Bool×ByteArray))(z1 z2:RZ)(he:[z1,z2].all enR=true):On prog 22 #[v,.agg #[.bool z1.1.1,.string z1.1.2,.bool z1.2.1,.string z1.2.2],.agg #[.bool z2.1.1,.string z2.1.2,.bool z2.2.1,.string z2.2.2]] [Px 2 Aq v r] (.int .i64 (wF r z1 z2)):=by
 obtain⟨e1,e2⟩:=Zl4 he
 by_cases h:okA r z1 z2=true
 ·have h':=h
  unfold okA at h'
  rw [Bool.and_eq_true,Bool.and_eq_true]at h'
  rw [Zgd h'.1.2,Zgd h'.2]
  unfold wF
  rw [if_pos h]
  exact Zl1 v r (Fa z1) (Fa z2) h'.1.1 (Zdc h'.1.2 e1).1 (Zdc h'.2 e2).1
 ·unfold wF
  rw [if_neg h]
  exact Zkw v r z1 z2 (by unfold okA at h;simpa using h)
theorem Znx(v u:Value)(r:List (Bool×ByteArray))(z1 z2:RZ)(L:List Cv)(hs:smR r=true)(he:[z1,z2].all enR=true)(hL:∀z∈L,enP z):On prog 41 #[v,.agg #[.bool z1.1.1,.string z1.1.2,.bool z1.2.1,.string z1.2.2],.agg #[.bool z2.1.1,.string z2.1.2,.bool z2.2.1,.string z2.2.2],u] [Px 2 Aq v r,Px 9 Hh u L] (.int .i64 (cE r z1 z2 L)):=by
 obtain⟨e1,e2⟩:=Zl4 he
 by_cases h:okA r z1 z2=true
 ·have h':=h
  unfold okA at h'
  rw [Bool.and_eq_true,Bool.and_eq_true]at h'
  obtain⟨hd,-,-⟩:=Zzn hs h'.1.1
  have ha:=(Zdc h'.1.2 e1).1
  have hb:=(Zdc h'.2 e2).1
  rw [Zgd h'.1.2,Zgd h'.2]
  by_cases hg:Zgw L
  ·obtain⟨hl,hv⟩:=Zq5 hg.2 hL
   have hlen:(L.map unr).length≤200:=by rw [List.length_map];exact hg.1
   have key:∀e:Int,Cal prog 41 #[v,.agg #[.bool (decide ((Fa z1).1<0)),.string (Xp (Fa z1).1.natAbs),.bool (decide ((Fa z1).2<0)),.string (Xp (Fa z1).2.natAbs)],.agg #[.bool (decide ((Fa z2).1<0)),.string (Xp (Fa z2).1.natAbs),.bool (decide ((Fa z2).2<0)),.string (Xp (Fa z2).2.natAbs)],u] [Px 2 wv v (dec r),Px 9 Zaf u (L.map unr)] false (G:=Unit) (fun _=>True) (fun _=> .int .i64 e) (fun _=>[])→Cal prog 41 #[v,.agg #[.bool (decide ((Fa z1).1<0)),.string (Xp (Fa z1).1.natAbs),.bool (decide ((Fa z1).2<0)),.string (Xp (Fa z1).2.natAbs)],.agg #[.bool (decide ((Fa z2).1<0)),.string (Xp (Fa z2).1.natAbs),.bool (decide ((Fa z2).2<0)),.string (Xp (Fa z2).2.natAbs)],u] [Px 2 Aq v r,Px 9 Hh u L] false (G:=Unit) (fun _=>True) (fun _=> .int .i64 e) (fun _=>[]):=fun e hc w hp=>by
    refine(hc w fun p hp3=>?_).mono fun e w' ⟨_,he,_,hb,hi⟩=>⟨(),he,trivial,hb,fun p hp=>by cases hp⟩
    rcases List.mem_cons.1 hp3 with rfl | hp3
    ·exact Znq h'.1.1 v w (hp _ (List.mem_cons_self ..))
    ·rw [List.mem_singleton.1 hp3]
     refine Zqc u (L.map unr) w ?_
     rw [←hl]
     exact hp _ (List.mem_cons_of_mem _ (List.mem_cons_self ..))
   refine key _ ?_
   unfold cE
   rw [if_pos ⟨h,hg⟩]
   by_cases hc:0<Ba (Fa z1) (Fa z2)
   ·rw [if_pos hc];exact Znv v u (dec r) (L.map unr) (Fa z1) (Fa z2) hd ha hb hv hlen hc
   ·rw [if_neg hc];exact Cm v u (dec r) (L.map unr) (Fa z1) (Fa z2) hd ha hb hv hc hlen
  ·have hb9:¬((L.length≤200∧∀z∈L,vpz z)∧∀z∈L,fpz z):=fun h9=>hg h9.1
   have hc:=Znw v u (dec r) L (Fa z1) (Fa z2) hd ha hb hb9
   unfold cE
   rw [if_neg (fun h9=>hg h9.2)]
   refine fun w hp=>(hc w fun p hp3=>?_).mono fun e w' ⟨g,he,hg2,hb,hi⟩=>⟨(),by rw [he,hg2.1 hg],trivial,hb,fun p hp=>by cases hp⟩
   rcases List.mem_cons.1 hp3 with rfl | hp3
   ·exact Znq h'.1.1 v w (hp _ (List.mem_cons_self ..))
   ·rw [List.mem_singleton.1 hp3];exact hp _ (List.mem_cons_of_mem _ (List.mem_cons_self ..))
 ·unfold cE
  rw [if_neg (fun h9=>h h9.1)]
  exact Zlv v u r z1 z2 L (by unfold okA at h;simpa using h)
end Go.Sky

