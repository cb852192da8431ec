/- Rules, arithmetic and contracts: part 20. No conditions but those that each theorem names. -/
import Derived.Test.YtcmiiammekgooaaGreatSp18
set_option linter.all false
set_option maxHeartbeats 4000000
namespace Go.Sky
open Go.Proofs.Tryz
open Go.Proofs
set_option maxRecDepth 20000
set_option maxHeartbeats 4000000
set_option linter.unusedSimpArgs false
theorem r3_rem(v u:Value)(zs ys:List (Int×SL))(F:Nat)(hl:zs.length≤30)(hk:ys.length≤30)(hy0:0<ys.length)(htz:Tr (Zk zs))(ht:Tr (Zk ys))(hF0:zs.length<ys.length+F)(hS0:Pf (Zk zs)+F*(Pf (Zk ys)+1)≤900000):Cal prog 187 #[v,u] [pp v zs,pp u ys] true (G:=Value×List (Int×SL)) (fun r=>Zk r.2=Ff F (Zk zs) (Zk ys)) (fun r=>r.1) (fun r=>[pp r.1 r.2]):=by
 refine Yg func187 J ntmps187 J K2 fun w0 sc hw hsc=>?_
 simp only [Zs,Zq]
 have hli:=Zz zs
 have hli2:=Zz ys
 have hcy:=Nt ys (ys.length-1)
 have hra:=Zxg (Zk ys)
 refine Zb<|Zf<|Zo J<|Zd<|Za<|Zb<|Zf<|mv J<|mv J<|dt (Yc J J (i:=2) J Ye Pm)<|dt (Pq K3)<|dt (Nj (ii:=2) (i:=(ys.length-1)) K4 Ye Pm Ys)<|dt (Ms (ii:=2) I0 K3 Ye pI)<|tt (Xi (i:=85) K2 zeroValue48 K2 hw) fun b _=>tt (Zt (i:=85) K6 Ys K2 ⟨Zc J,Zc J,trivial⟩ J hw trivial) fun _ _=>Qx (Zhq 2 91 (ys.getD (ys.length-1) I0) J J (Xc) J)<|Zd<|Za<|Zb<|Zn<|Yl (Np 1 80 K3)<|Px [(1,_),(5,_)] [(0,_),(1,_),(2,_),(85,_),(91,_)] (fun(q:Value×List (Int×SL)×Nat)=>[(0,q.1)]) (fun(q:Value×List (Int×SL)×Nat)=>[(80,pp q.1 q.2.1)]) (fun(q:Value×List (Int×SL)×Nat)=>(Ff q.2.2 (Zk q.2.1) (Zk ys)=Ff F (Zk zs) (Zk ys))∧((Zk q.2.1).length<(Zk ys).length+q.2.2)∧(Tr (Zk q.2.1))∧(Pf (Zk q.2.1)+q.2.2*(Pf (Zk ys)+1)≤900000)∧(q.2.1.length≤30)) (fun(q:Value×List (Int×SL)×Nat)=>q.2.2) (_,zs,F) ⟨J,by dsimp only;omega,htz,hS0,hl⟩ K3 K6 ?_
 rintro⟨vr,ws,f⟩ ⟨hE,hL,hT,hS,hW⟩
 dsimp only at hE hL hT hS hW
 simp only [CA,NA]
 have hlw:=Zz ws
 have hcw:=Nt ws (ws.length-1)
 refine Zb<|Zb<|Zf<|mv J<|dt (Yc J J (i:=80) J Ye Pm)<|mv J<|dt (Yc J J (i:=2) J Ye Pm)<|dt (Lh J J J)<|Zd<|Za<|Zr J (fun h45=>?_) (fun h45=>?_)
 ·obtain⟨f1,rfl,hE1,hL1,hT1,hS1,hLl⟩:=Zxz (by omega) (by omega) hL hT hS
  have hB:Pf (Zk ws)+(Pf (Zk ys)+1)≤900000:=by rw [Nat.succ_mul]at hS;omega
  have hrb:=bl_rb (Zk ws) (Zk ys)
  refine Zl<|Za<|Zn<|Zb<|Ni [80,85] [10]<|Zw (n:=4) [(0,0),(1,0),(2,0),(3,0),(4,0),(5,0),(6,0)]<|Zh K2 (Yy (Qm (i:=85) K3 Ou Ys K2) K2)<|Zh K2 (Yy (Ya K2) K2)<|Zh K2 (Yy (Ya K2) K2)<|Zh K2 (Yy (Yc J J (i:=80) J Ye Pm) K2)<|Zh K2 (Yy (Pq K3) K2)<|Zh K2 (Yy (Nj (ii:=80) (i:=(ws.length-1)) K4 Ye Pm Ys) K2)<|Zh K2 (Yy (Ms (ii:=80) I0 K3 Ye pI) K2)<|Yi<|Qg (n:=3) 7 8 ?_ ?_
  ·refine Yd J (Xj (i:=95) K2 zeroValue48 K2 hw K2) fun b_2 ho=>Zw (n:=0) [(8,1),(9,1),(10,3)]<|Yq J (Xj (i:=96) K2 zeroValue48 K2 hw K2) fun b_3 ho2=>Yq J (Zt (i:=95) K6 Ys K2 ⟨Zc J,Zj (i:=91) J Zg,trivial⟩ J hw ho) fun _ _=>Qs J (Zt (i:=96) K6 Ys K2 ⟨Zc J,Zc J,trivial⟩ J hw trivial) fun _ _=>Yi<|Yh<|Za<|Iy [(0,_),(1,_),(5,_),(6,_),(7,_)] [(0,_),(80,_),(1,_),(2,_),(85,_),(91,_)] (fun(q:Value×Value)=>[]) (fun(q:Value×Value)=>[(95,box b_2 48 #[.bool (decide ((Ea (Zk ys))<0)),q.1]),(96,box b_3 48 #[.bool (decide ((rb (Zk ws) (Zk ys))<0)),q.2]),(93,Me q.1 (Ea (Zk ys)).natAbs),(94,Me q.2 (rb (Zk ws) (Zk ys)).natAbs)]) (fun(q:Value×Value)=>True) K5 K6 ?_ ?_
   ·refine Zb<|Yl (Zhq 80 92 (ws.getD (ws.length-1) I0) J J (Xc) J)<|Zf<|dt (Qm (i:=95) K3 Ou Ys K2)<|tt (Zy (n:=2) (Cc _ _ (by rw [hcy];have:=On (Zk ys) (ys.length-1);omega)) K4 call72 (Zi 91 K3 Ze) J hw) fun _ _=>dt (Pa K3)<|Zd<|Za<|Zr J (fun h47=>?_) (fun h47=>?_)
    ·refine Ni [96] [5]<|Zw (n:=0) [(2,0),(0,1),(1,1),(3,1),(4,1),(5,3)]<|Zh K2 (Yy (Qm (i:=96) K3 Ou Ys K2) K1)<|Yq J (Pu (Qm (i:=95) K3 Ou Ys K2) J) fun _ _=>Yq J (Zy (n:=3) (Zq3 _ _ (by rw [hcy];have:=On (Zk ys) (ys.length-1);omega)) K4 call73 (Zi 91 K3 Ze) J hw) fun v _=>Yq J (Zy (n:=4) (Zq3 _ _ (by rw [hcw];have:=On (Zk ws) (ws.length-1);omega)) K4 call73 (Zi 92 K3 Ze) J hw) fun v_2 _=>Yq J (Zcz 95 J J K1 (fun ob=>Zt (i:=95) K6 Ys K2 ⟨Zc J,Zj (i:=3) J Zg,trivial⟩ J hw ob)) fun _ _=>Qs J (Zt (i:=96) K6 Ys K2 ⟨Zc J,Zj (i:=4) J Zg,trivial⟩ J hw trivial) fun _ _=>Yi<|Yh ?_
     have hra:=Yan hli2 hcy ‹_›
     have hrb:=rb_n (x:=Zk ws) (y:=Zk ys) hli2 hlw hcy hcw ‹_›
     exact Qn (Np 3 93 K3)<|Qn (Np 4 94 K3)<|Xd (_,_) trivial K5 ⟨by rw [hra];rfl,by rw [hrb];rfl,by rw [hra];rfl,by rw [hrb];rfl,rfl,rfl,rfl,rfl,rfl,rfl,trivial⟩
    ·refine Zl ?_
     have hra:=Yam hli2 hcy ‹_›
     have hrb:=rb_p (x:=Zk ws) (y:=Zk ys) hli2 hlw hcy hcw ‹_›
     exact Qn (Np 91 93 K3)<|Qn (Np 92 94 K3)<|Xd (_,_) trivial K5 ⟨by rw [hra];rfl,by rw [hrb];rfl,by rw [hra];rfl,by rw [hrb];rfl,rfl,rfl,rfl,rfl,rfl,rfl,trivial⟩
   ·rintro⟨va,vb⟩ -
    simp only [CA,NA]
    refine Zb<|Zf<|mv J<|dt (Yc J J (i:=80) J Ye Pm)<|mv J<|dt (Yc J J (i:=2) J Ye Pm)<|dt (Pq K3)<|tt (Gh (i:=70) (n:=(ws.length-ys.length)) (by_:=32) (enc:=Hi) I0 J J J J Pm ti48 J pI.cells pI.pos J J J hw) fun v_3 _=>Zo J<|Zd<|Za<|Zb<|Zb<|Zf<|Zo J<|Zd<|Za<|Zn<|Yl (Ag 71 (ws.length-ys.length))<|Px [(0,_),(1,_),(5,_),(6,_),(7,_)] [(0,_),(95,_),(96,_),(93,_),(94,_),(80,_),(1,_),(2,_),(85,_),(91,_)] (fun(q:Nat×Value×List (Int×SL))=>[(9,.int .i64 (q.1:Int)),(8,q.2.1)]) (fun(q:Nat×Value×List (Int×SL))=>[(70,Lf 2 48 Hi q.2.1 q.2.2),(71,Cd qI q.2.2)]) (fun(q:Nat×Value×List (Int×SL))=>(q.1≤ys.length)∧(Zk q.2.2=shm (Zk ys) (rb (Zk ws) (Zk ys)) ((Zk ws).length-(Zk ys).length) q.1)∧(q.2.2.length=((Zk ws).length-(Zk ys).length)+q.1)) (fun(q:Nat×Value×List (Int×SL))=>ys.length-q.1) (0,_,List.replicate (ws.length-ys.length) I0) ⟨by first | omega | (dsimp only<;>omega),by rw [←Zf4,hlw,hli2];simp [Zk],by simp<;>omega⟩ K7 K12 ?_
    rintro⟨i,vo,ms⟩ ⟨hi,hms,hml⟩
    dsimp only at hi hms hml
    simp only [CA,NA]
    have hci:=Nt ys i
    refine Zb<|Zb<|Zf<|mv J<|mv J<|dt (Yc J J (i:=2) J Ye Pm)<|dt (Pa K3)<|Zd<|Za<|Zr J (fun h51=>?_) (fun h51=>?_)
    ·refine Zl<|Za<|Zb<|Zn<|Ni [2,96] [9]<|Zw (n:=3) [(0,0),(1,0),(2,0),(3,0),(4,0),(5,0),(6,1)]<|Zh K2 (Yy (Ya K2) K2)<|Zh K2 (Yy (Ya K2) K2)<|Zh K2 (Yy (Ya K2) K2)<|Zh K2 (Yy (Nj (ii:=2) K4 Ye Pm Ys J (by first | omega | (simp only [List.length_set];omega))) K2)<|Zh K2 (Yy (Ms (ii:=2) I0 K3 Ye pI (by first | omega | (simp only [List.length_set];omega))) K2)<|Zh K2 (Yy (Qm (i:=96) K3 Ou Ys K2) K2)<|Yq J (Yf (n:=86) (Ly _ _ _ _ (by rw [hci];have:=On (Zk ys) i;omega)) K5 Gt (Nd 2 J J (Xc (i:=i)) (Zi 94 K3 Ze)) J hw) fun v_4 _=>Yi<|Zdq (Na 86 J Zg) (fun sl hsl=>?_)
     subst hsl
     exact Zw (n:=0) [(7,1),(8,1),(9,3)]<|Yq J (Kp (i:=87) (ivs:=[(0,_)]) (enc:=Hi) [((ys.getD i I0).1*(rb (Zk ws) (Zk ys)),sl)] K4 Pm ti48 K5 pI.cells K2 hw) fun v_5 _=>Yq J (Ze5 70 J J J K2 (fun hoffr=>(Zby (xs:=ms) (ys:=[_]) (i:=70) (j:=87) (by_:=32) J J J J J J (by decide) J (Yu pI) Pm ti48 J pI J J J (by simp;omega) (by decide) J hw hoffr))) fun v_6 _=>Qs J (Pu (Ok J J) J) fun _ _=>Yi<|Yh<|Qh<|Za<|Zf<|mv J<|dt (Ov K3)<|Zo J<|Zd<|Qn (Ot (q:=qI) (z:=((ys.getD i I0).1*(rb (Zk ws) (Zk ys)),sl)) 71 86 71 J J J J J)<|Xg (i+1,_,ms ++ [((ys.getD i I0).1*(rb (Zk ws) (Zk ys)),sl)]) ⟨by first | omega | (dsimp only<;>omega),by rw [Gd,hms,←Zf5];dsimp only;rw [hci,Int.mul_comm],by simp;omega⟩ (by first | omega | (dsimp only<;>omega)) K7 K12
    ·refine Yt<|Zv<|Zv<|Pd<|Za<|Yl (Qw 70 J J pI)<|Yl (Lx 70 71 72 J J J J)<|Zf<|mv J<|dt (Qm (i:=95) K3 Ou Ys K2)<|tt (Yf (n:=5) (Za7 _ _ _ _ ((On _).mono (by omega)) (by omega)) K5 call56 (Zi 80 K3 (Zi 93 K3 Ze)) J hw) (fun g hg=>?_)
     have hlsc:=congrArg List.length hg
     rw [Zz]at hlsc
     have hlsd:=Ht (Zk ws) (Ea (Zk ys))
     refine mv J<|tt (Yf (n:=6) (Zob _ _ _ _ (by rw [hg];exact(Zbz (On _) hra).mono (by omega)) (by rw [hms];exact sz_shm'.mono (by omega))) K5 call88 (Zi 5 K3 (Zi 72 K3 Ze)) J hw) fun g_2 hg_2=>Zo J<|Zd<|Qh<|Qn (Np 6 80 K3) ?_
     have hR:Zk g_2.2=Fm (Zk ws) (Zk ys):=by rw [hg_2,hg,hms,show i=(Zk ys).length by omega];rfl
     exact Xg (_,g_2.2,f1) ⟨by dsimp only;rw [hR,←hE1];exact hE,by dsimp only;rw [hR];exact hL1,by dsimp only;rw [hR];exact hT1,by dsimp only;rw [hR];exact hS1,by dsimp only;rw [←Zz,hR];omega⟩ (Nat.lt_succ_self f1) K3 K6
  ·refine Yd J (Xj (i:=96) K2 zeroValue48 K2 hw K2) fun b_4 ho3=>Zw (n:=0) [(7,1),(9,1),(10,3)]<|Yq J (Xj (i:=95) K2 zeroValue48 K2 hw K2) fun b_5 ho4=>Yq J (Zt (i:=95) K6 Ys K2 ⟨Zc J,Zj (i:=91) J Zg,trivial⟩ J hw ho4) fun _ _=>Qs J (Zt (i:=96) K6 Ys K2 ⟨Zc J,Zc J,trivial⟩ J hw trivial) fun _ _=>Yi<|Yh<|Za<|Iy [(0,_),(1,_),(5,_),(6,_),(7,_)] [(0,_),(80,_),(1,_),(2,_),(85,_),(91,_)] (fun(q:Value×Value)=>[]) (fun(q:Value×Value)=>[(95,box b_5 48 #[.bool (decide ((Ea (Zk ys))<0)),q.1]),(96,box b_4 48 #[.bool (decide ((rb (Zk ws) (Zk ys))<0)),q.2]),(93,Me q.1 (Ea (Zk ys)).natAbs),(94,Me q.2 (rb (Zk ws) (Zk ys)).natAbs)]) (fun(q:Value×Value)=>True) K5 K6 ?_ ?_
   ·refine Zb<|Yl (Zhq 80 92 (ws.getD (ws.length-1) I0) J J (Xc) J)<|Zf<|dt (Qm (i:=95) K3 Ou Ys K2)<|tt (Zy (n:=6) (Cc _ _ (by rw [hcy];have:=On (Zk ys) (ys.length-1);omega)) K4 call72 (Zi 91 K3 Ze) J hw) fun _ _=>dt (Pa K3)<|Zd<|Za<|Zr J (fun h47_2=>?_) (fun h47_2=>?_)
    ·refine Ni [96] [5]<|Zw (n:=0) [(2,0),(0,1),(1,1),(3,1),(4,1),(5,3)]<|Zh K2 (Yy (Qm (i:=96) K3 Ou Ys K2) K1)<|Yq J (Pu (Qm (i:=95) K3 Ou Ys K2) J) fun _ _=>Yq J (Zy (n:=7) (Zq3 _ _ (by rw [hcy];have:=On (Zk ys) (ys.length-1);omega)) K4 call73 (Zi 91 K3 Ze) J hw) fun v_7 _=>Yq J (Zy (n:=8) (Zq3 _ _ (by rw [hcw];have:=On (Zk ws) (ws.length-1);omega)) K4 call73 (Zi 92 K3 Ze) J hw) fun v_8 _=>Yq J (Zcz 95 J J K1 (fun ob=>Zt (i:=95) K6 Ys K2 ⟨Zc J,Zj (i:=7) J Zg,trivial⟩ J hw ob)) fun _ _=>Qs J (Zt (i:=96) K6 Ys K2 ⟨Zc J,Zj (i:=8) J Zg,trivial⟩ J hw trivial) fun _ _=>Yi<|Yh ?_
     have hra:=Yan hli2 hcy ‹_›
     have hrb:=rb_n (x:=Zk ws) (y:=Zk ys) hli2 hlw hcy hcw ‹_›
     exact Qn (Np 7 93 K3)<|Qn (Np 8 94 K3)<|Xd (_,_) trivial K5 ⟨by rw [hra];rfl,by rw [hrb];rfl,by rw [hra];rfl,by rw [hrb];rfl,rfl,rfl,rfl,rfl,rfl,rfl,trivial⟩
    ·refine Zl ?_
     have hra:=Yam hli2 hcy ‹_›
     have hrb:=rb_p (x:=Zk ws) (y:=Zk ys) hli2 hlw hcy hcw ‹_›
     exact Qn (Np 91 93 K3)<|Qn (Np 92 94 K3)<|Xd (_,_) trivial K5 ⟨by rw [hra];rfl,by rw [hrb];rfl,by rw [hra];rfl,by rw [hrb];rfl,rfl,rfl,rfl,rfl,rfl,rfl,trivial⟩
   ·rintro⟨va,vb⟩ -
    simp only [CA,NA]
    refine Zb<|Zf<|mv J<|dt (Yc J J (i:=80) J Ye Pm)<|mv J<|dt (Yc J J (i:=2) J Ye Pm)<|dt (Pq K3)<|tt (Gh (i:=70) (n:=(ws.length-ys.length)) (by_:=32) (enc:=Hi) I0 J J J J Pm ti48 J pI.cells pI.pos J J J hw) fun v_9 _=>Zo J<|Zd<|Za<|Zb<|Zb<|Zf<|Zo J<|Zd<|Za<|Zn<|Yl (Ag 71 (ws.length-ys.length))<|Px [(0,_),(1,_),(5,_),(6,_),(7,_)] [(0,_),(95,_),(96,_),(93,_),(94,_),(80,_),(1,_),(2,_),(85,_),(91,_)] (fun(q:Nat×Value×List (Int×SL))=>[(9,.int .i64 (q.1:Int)),(8,q.2.1)]) (fun(q:Nat×Value×List (Int×SL))=>[(70,Lf 2 48 Hi q.2.1 q.2.2),(71,Cd qI q.2.2)]) (fun(q:Nat×Value×List (Int×SL))=>(q.1≤ys.length)∧(Zk q.2.2=shm (Zk ys) (rb (Zk ws) (Zk ys)) ((Zk ws).length-(Zk ys).length) q.1)∧(q.2.2.length=((Zk ws).length-(Zk ys).length)+q.1)) (fun(q:Nat×Value×List (Int×SL))=>ys.length-q.1) (0,_,List.replicate (ws.length-ys.length) I0) ⟨by first | omega | (dsimp only<;>omega),by rw [←Zf4,hlw,hli2];simp [Zk],by simp<;>omega⟩ K7 K12 ?_
    rintro⟨i,vo,ms⟩ ⟨hi,hms,hml⟩
    dsimp only at hi hms hml
    simp only [CA,NA]
    have hci:=Nt ys i
    refine Zb<|Zb<|Zf<|mv J<|mv J<|dt (Yc J J (i:=2) J Ye Pm)<|dt (Pa K3)<|Zd<|Za<|Zr J (fun h51_2=>?_) (fun h51_2=>?_)
    ·refine Zl<|Za<|Zb<|Zn<|Ni [2,96] [9]<|Zw (n:=3) [(0,0),(1,0),(2,0),(3,0),(4,0),(5,0),(6,1)]<|Zh K2 (Yy (Ya K2) K2)<|Zh K2 (Yy (Ya K2) K2)<|Zh K2 (Yy (Ya K2) K2)<|Zh K2 (Yy (Nj (ii:=2) K4 Ye Pm Ys J (by first | omega | (simp only [List.length_set];omega))) K2)<|Zh K2 (Yy (Ms (ii:=2) I0 K3 Ye pI (by first | omega | (simp only [List.length_set];omega))) K2)<|Zh K2 (Yy (Qm (i:=96) K3 Ou Ys K2) K2)<|Yq J (Yf (n:=86) (Ly _ _ _ _ (by rw [hci];have:=On (Zk ys) i;omega)) K5 Gt (Nd 2 J J (Xc (i:=i)) (Zi 94 K3 Ze)) J hw) fun v_10 _=>Yi<|Zdq (Na 86 J Zg) (fun sl_2 hsl_2=>?_)
     subst hsl_2
     exact Zw (n:=0) [(7,1),(8,1),(9,3)]<|Yq J (Kp (i:=87) (ivs:=[(0,_)]) (enc:=Hi) [((ys.getD i I0).1*(rb (Zk ws) (Zk ys)),sl_2)] K4 Pm ti48 K5 pI.cells K2 hw) fun v_11 _=>Yq J (Ze5 70 J J J K2 (fun hoffr=>(Zby (xs:=ms) (ys:=[_]) (i:=70) (j:=87) (by_:=32) J J J J J J (by decide) J (Yu pI) Pm ti48 J pI J J J (by simp;omega) (by decide) J hw hoffr))) fun v_12 _=>Qs J (Pu (Ok J J) J) fun _ _=>Yi<|Yh<|Qh<|Za<|Zf<|mv J<|dt (Ov K3)<|Zo J<|Zd<|Qn (Ot (q:=qI) (z:=((ys.getD i I0).1*(rb (Zk ws) (Zk ys)),sl_2)) 71 86 71 J J J J J)<|Xg (i+1,_,ms ++ [((ys.getD i I0).1*(rb (Zk ws) (Zk ys)),sl_2)]) ⟨by first | omega | (dsimp only<;>omega),by rw [Gd,hms,←Zf5];dsimp only;rw [hci,Int.mul_comm],by simp;omega⟩ (by first | omega | (dsimp only<;>omega)) K7 K12
    ·refine Yt<|Zv<|Zv<|Pd<|Za<|Yl (Qw 70 J J pI)<|Yl (Lx 70 71 72 J J J J)<|Zf<|mv J<|dt (Qm (i:=95) K3 Ou Ys K2)<|tt (Yf (n:=9) (Za7 _ _ _ _ ((On _).mono (by omega)) (by omega)) K5 call56 (Zi 80 K3 (Zi 93 K3 Ze)) J hw) (fun g_3 hg_3=>?_)
     have hlsc:=congrArg List.length hg_3
     rw [Zz]at hlsc
     have hlsd:=Ht (Zk ws) (Ea (Zk ys))
     refine mv J<|tt (Yf (n:=10) (Zob _ _ _ _ (by rw [hg_3];exact(Zbz (On _) hra).mono (by omega)) (by rw [hms];exact sz_shm'.mono (by omega))) K5 call88 (Zi 9 K3 (Zi 72 K3 Ze)) J hw) fun g_4 hg_4=>Zo J<|Zd<|Qh<|Qn (Np 10 80 K3) ?_
     have hR:Zk g_4.2=Fm (Zk ws) (Zk ys):=by rw [hg_4,hg_3,hms,show i=(Zk ys).length by omega];rfl
     exact Xg (_,g_4.2,f1) ⟨by dsimp only;rw [hR,←hE1];exact hE,by dsimp only;rw [hR];exact hL1,by dsimp only;rw [hR];exact hT1,by dsimp only;rw [hR];exact hS1,by dsimp only;rw [←Zz,hR];omega⟩ (Nat.lt_succ_self f1) K3 K6
 ·have hE2:=Yae (f:=f) (x:=Zk ws) (y:=Zk ys) (by omega)
  exact Yt<|Zv<|Zv<|Pd<|Za<|Zb<|Zf<|mv J<|Zo J<|Zd<|Za<|Zp<|Yr (.inl J) hsc (_,ws) _ (fun a w hs=>Nr hs results187 J) J (by rw [←hE,hE2]) J (Kg 80 K3 Zm)
theorem Zvl(v:Value)(zs:List (Int×SL))(hv:Vp (Zk zs))(h0:zs.length≠0):Cal prog 113 #[v] [pp v zs] true (G:=Value×List (Int×SL)) (fun r=>Zk r.2=Qa (Zk zs)) (fun r=>r.1) (fun r=>[pp r.1 r.2]):=by
 refine Yg func113 J ntmps113 J K1 fun w0 sc hw hsc=>?_
 simp only [Zs,Zq]
 have hli:=Zz zs
 have hlen:=hv.len
 refine Zb<|Zf<|Zo J<|Zd<|Za<|Zb<|Zf<|mv J<|tt (Zy (n:=2) (Gv _ _ (hv.sz.mono (by omega)) (fun h=>hv.ne (fun e=>by have h7:=congrArg List.length e;simp only [List.length_nil]at h7;omega))) K4 call57 (Zi 1 K3 Ze) J hw) fun g hg=>Zo J<|Zd<|Za<|Zb<|Zb ?_
 have hpl:=congrArg List.length hg
 rw [Zz,Yv,hli]at hpl
 have hlc:=Nt g.2 (g.2.length-1)
 have hlc2:(g.2.getD (g.2.length-1) I0).1=cf (Yx (Zk zs)) ((Yx (Zk zs)).length-1):=by rw [hlc,hg,Yv,hli,hpl]
 have hpb:=(Ij hv).sz
 refine Zf<|mv J<|mv J<|dt (Yc J J (i:=2) J Ye Pm)<|dt (Pq K3)<|dt (Nj (ii:=2) (i:=(g.2.length-1)) K4 Ye Pm Ys)<|dt (Ms (ii:=2) I0 K3 Ye pI)<|tt (Zy (n:=2) (Cc _ _ (by rw [hlc2];have:=hpb ((Yx (Zk zs)).length-1);omega)) K4 call72 (Nd 2 J J (Xc (zs:=g.2) (i:=g.2.length-1) (d:=I0)) Ze) J hw) fun _ _=>dt (Pa K3)<|Zd<|Za<|Zr J (fun h29=>?_) (fun h29=>?_)
 ·have hnn:=Zje (xs:=Zk zs) (by rw [Yv];omega) (by rw [←hlc2];exact Zdz.1 h29)
  exact Zb<|Zf<|mv J<|tt (Zy (n:=3) (Zoc _ _ (by rw [hg];exact hpb.mono (by omega))) K4 call138 (Zi 2 K3 Ze) J hw) fun g_2 hg_2=>Zo J<|Zd<|Za<|Zp<|Yp<|xG hsc _ results113 J J (by rw [hg_2,hg,hnn]) J (Kg 3 K3 Zm)
 ·have hnn:=Zjd (xs:=Zk zs) (fun h=>h29 (Zdz.2 (by rw [hlc2];exact h)))
  exact Zl<|Za<|Zb<|Zf<|mv J<|Zo J<|Zd<|Za<|Zp<|Yr (.inl J) hsc (_,g.2) _ (fun a w hs=>Nr hs results113 J) J (by rw [hg,hnn]) J (Kg 2 K3 Zm)
theorem Zti(v:Value)(zs:List (Int×SL))(hv:Vp (Zk zs))(h0:zs.length≠0)(hs:Sz 260 (Zk zs))(hl:zs.length≤8:=by omega):Cal prog 54 #[v] [pp v zs] true (G:=Value×List (Int×SL)) (fun r=>Zk r.2=sqf 13 (Zk zs)) (fun r=>r.1) (fun r=>[pp r.1 r.2]):=by
 refine Yg func54 J ntmps54 J K1 fun w0 sc hw hsc=>?_
 simp only [Zs,Zq]
 have hli:=Zz zs
 have hne:Zk zs≠[]:=fun e=>h0 (by rw [←hli,e];rfl)
 obtain⟨k1,k2,k3,k4,k5,k6,k7,k8,k9,k10,k11,k12,k13,k14⟩:=Zmq hv hne hs (by omega)
 have k6l:=List.length_pos_iff.2 k6
 have k12l:=List.length_pos_iff.2 k12
 have k2l:=k2.len
 have k11l:=k11.len
 refine Zb<|Zf<|Zo J<|Zd<|Za<|Zb<|Zf<|mv J<|tt (Zy (n:=2) (Zvl _ _ hv h0) K4 call113 (Zi 1 K3 Ze) J hw) fun g hg=>Zo J<|Zd<|Za<|Zb ?_
 have hl_qs:=congrArg List.length hg
 rw [Zz]at hl_qs
 refine Zf<|mv J<|mv J<|mv J<|tt (Zy (n:=3) (Zht _ _ (by rw [hg];exact k1.sz.mono (by omega))) K4 call115 (Zi 2 K3 Ze) J hw) (fun g_2 hg_2=>?_)
 have hl_qd:=congrArg List.length hg_2
 rw [Zz]at hl_qd
 refine tt (Yf (n:=4) (rp_gcd _ _ _ _ 13 (by rw [hg];exact k1) (by rw [hg_2,hg];exact k2) (by rw [hg_2,hg];exact k3)) K5 call114 (Zi 2 K3 (Zi 3 K3 Ze)) J hw) (fun g_3 hg_3=>?_)
 have hgg:Zk g_3.2=Mp 13 (Qa (Zk zs)) (Xy (Qa (Zk zs))):=by rw [hg_3,hg_2,hg,k4]
 have hl_g:=congrArg List.length hgg
 rw [Zz]at hl_g
 refine tt (Yf (n:=5) (Zd1 _ _ _ _ (by rw [hg];exact k1.tr) (by rw [hgg];exact k5.tr) (fun _=>by rw [hg,hgg];have:=Nat.mul_le_mul (show g.2.length-g_3.2.length+1≤9 by omega) (show Pf (Mp 13 (Qa (Zk zs)) (Xy (Qa (Zk zs))))+1≤391 by omega);omega)) K5 call55 (Zi 2 K3 (Zi 4 K3 Ze)) J hw) fun g_4 hg_4=>mv J<|dt (Xa K3)<|dt (Xa K3)<|Zo J<|Zo J<|Zd<|Za<|Zb ?_
 have hqe:=hg_4 (by rw [hg,hgg];exact k7)
 rw [hg,hgg]at hqe
 have hl_q:=congrArg List.length hqe
 rw [Zz]at hl_q
 exact Zf<|mv J<|tt (Zy (n:=6) (Zvl _ _ (by rw [hqe];exact k11) (by rw [hl_q];exact Nat.ne_of_gt k12l)) K4 call113 (Zi 5 K3 Ze) J hw) fun g_5 hg_5=>Zo J<|Zd<|Za<|Zp<|xG hsc _ results54 J J (by rw [hg_5,hqe];exact k13) J (Kg 6 K3 Zm)
theorem pT{α:Type} : Enc Tryz.prog 34 1 (Gx (α:=α)):=Enc.flat Tryz.sizeOf34 Tryz.isAgg34 (fun _=>rfl)
theorem Zc5(v:Value)(zs:List (Int×SL))(hs:Sz 1000000 (Zk zs))(hc:zs.length≠0→Qc (Zk zs)≠0)(hl:zs.length≤1000:=by omega):Cal Tryz.prog 57 #[v] [pp v zs] true (G:=SL×List (Int×SL)) (fun r=>Zk r.2=Yx (Zk zs)) (fun r=>svv r.1) (fun r=>[pp (svv r.1) r.2]):=
  (Gv v zs hs hc hl).toS
theorem Yas(v:Value)(zs:List (Int×SL))(hv:Vp (Zk zs))(h0:zs.length≠0)(hs:Sz 260 (Zk zs))(hl:zs.length≤8):Cal Tryz.prog 54 #[v] [pp v zs] true (G:=SL×List (Int×SL)) (fun r=>Zk r.2=sqf 13 (Zk zs)) (fun r=>svv r.1) (fun r=>[pp (svv r.1) r.2]):=
  (Zti v zs hv h0 hs hl).toS
theorem Yav(v:Value)(zs:List (Int×SL))(hv:Vp (Zk zs))(h0:zs.length≠0)(hs:Sz 260 (Zk zs))(hl:zs.length≤8):Cal prog 166 #[v] [pp v zs] true (G:=Value×List (SL×List (Int×SL))) (fun r=>Bk r.2=chn 13 (Zk zs)) (fun r=>r.1) (fun r=>[Ek 1 Gx qT r.1 r.2]):=by
 refine Yg func166 J ntmps166 J K1 fun w0 sc hw hsc=>?_
 simp only [Zs,Zq]
 have hli:=Zz zs
 have hne:Zk zs≠[]:=fun e=>h0 (by rw [←hli,e];rfl)
 obtain⟨hC,hq,hql⟩:=Ydb hv.tr hne hs (by omega)
 obtain⟨hC1,hC2,hC3⟩:=hC
 have hvq:=Zjt hv hne hC1
 have hq0:sqf 13 (Zk zs)≠[]:=(Zmq hv hne hs (by omega)).2.2.2.2.2.2.2.2.2.2.2.1
 have hqd:=Fl hq (by omega)
 have hqdl:=Nq (sqf 13 (Zk zs))
 have hqdt:=Mv hvq.tr
 have hvqd:Vp (Xy (sqf 13 (Zk zs))):=⟨hqd.mono (by omega),hqdt,by omega⟩
 refine Zb<|Zf<|Zo J<|Zd<|Za<|Zb<|Zf<|mv J<|tt (Zy (n:=2) (Yas _ _ hv h0 hs hl) K4 call54 (Zi 1 K3 Ze) J hw) fun g hg=>Zo J<|Zd<|Za<|Zb<|Zf<|mv J<|tt (Kp (i:=70) (ivs:=[(0,_)]) (enc:=Gx) [g] K4 underlying186 ti34 K5 pT.cells K2 hw) fun v _=>Zo J<|Zd<|Za<|Zb ?_
 have hxe:Zk g.2=sqf 13 (Zk zs):=hg
 have hxl:=congrArg List.length hxe
 rw [Zz]at hxl
 refine Yl (Ke qT 71)<|Yl (Ot (q:=qT) (z:=g) 71 2 71 J J J J J)<|Yl (Np 2 92 K3)<|Zf<|mv J<|tt (Zy (n:=3) (Zht _ _ (by rw [hxe];exact hvq.sz.mono (by omega))) K4 call115 (Zi 2 K3 Ze) J hw) (fun g_2 hg_2=>?_)
 have hdl:=congrArg List.length hg_2
 rw [Zz,hxe,Nq]at hdl
 refine tt (Zy (n:=4) (Zc5 _ _ (by rw [hg_2,hxe];exact hqd.mono (by omega)) (fun h=>by rw [hg_2,hxe];exact hvqd.ne (fun e=>h (by have h7:=congrArg List.length hg_2;rw [Zz,hxe,e]at h7;exact h7)))) K4 call57 (Zi 3 K3 Ze) J hw) (fun g_3 hg_3=>?_)
 have hye:Zk g_3.2=Yx (Xy (sqf 13 (Zk zs))):=by rw [show Zk g_3.2=Yx _ from hg_3,hg_2,hxe]
 refine Zo J<|Zd<|Za<|Zb<|Zn<|Yl (Np 4 80 K3) ?_
 refine Px [] [(0,_),(1,_),(2,_),(3,_),(4,_)] (fun(q:List (SL×List (Int×SL))×(SL×List (Int×SL))×(SL×List (Int×SL))×Nat×Value)=>[(4,q.2.2.2.2),(3,svv q.2.1.1),(5,svv q.2.2.1.1)]) (fun(q:List (SL×List (Int×SL))×(SL×List (Int×SL))×(SL×List (Int×SL))×Nat×Value)=>[(70,Lf 1 34 Gx q.2.2.2.2 (q.1 ++ [q.2.1])),(71,Cd qT (q.1 ++ [q.2.1])),(92,pp (svv q.2.1.1) q.2.1.2),(80,pp (svv q.2.2.1.1) q.2.2.1.2)]) (fun(q:List (SL×List (Int×SL))×(SL×List (Int×SL))×(SL×List (Int×SL))×Nat×Value)=>(Vp (Zk q.2.1.2))∧(Vp (Zk q.2.2.1.2))∧(cok q.2.2.2.1 (Zk q.2.1.2) (Zk q.2.2.1.2))∧(Bk q.1 ++ Le q.2.2.2.1 (Zk q.2.1.2) (Zk q.2.2.1.2)=chn 13 (Zk zs))∧(q.2.1.2.length≤8)∧(q.2.2.1.2.length≤8)∧(q.1.length+q.2.2.1.2.length≤25)) (fun(q:List (SL×List (Int×SL))×(SL×List (Int×SL))×(SL×List (Int×SL))×Nat×Value)=>q.2.2.1.2.length) ([],g,g_3,13,_) ⟨by dsimp only;rw [hxe];exact hvq,by dsimp only;rw [hye];exact Ij hvqd,by dsimp only;rw [hxe,hye];exact hC3,by dsimp only;rw [hxe,hye];rfl,by dsimp only;omega,by dsimp only;rw [←Zz,hye,Yv];omega,by dsimp only;rw [←Zz,hye,Yv];simp;omega⟩ K3 K9 ?_
 rintro⟨ws,ex,ey,f,vo⟩ ⟨hvx,hvy,hck,hch,hx8,hy8,hwl⟩
 dsimp only at hvx hvy hck hch hx8 hy8 hwl
 simp only [CA,NA]
 have hlx:=Zz ex.2
 have hly:=Zz ey.2
 refine Zb<|Zb<|Zf<|mv J<|dt (Yc J J (i:=80) J Ye Pm)<|dt (Fd K3)<|Zd<|Za<|Zr J (fun h64=>?_) (fun h64=>?_)
 ·have hy0:Zk ey.2≠[]:=fun e=>by have h7:=congrArg List.length e;rw [hly]at h7;simp only [List.length_nil]at h7;omega
  obtain⟨f0,rfl,hd,hle,hck2,hsc2⟩:=Zg6 hck hy0
  refine Zl<|Za<|Zn<|Zb<|Zf<|mv J<|mv J<|tt (Kp (i:=5) (ivs:=[(0,_)]) (enc:=Gx) [ey] K4 underlying186 ti34 K5 pT.cells K2 hw) fun v_2 _=>tt (Ho (i:=70) (j:=5) (by_:=24) J J J J J J (by decide) J (Yu pT) underlying186 ti34 J pT J J J (by simp;omega) (by decide) J hw) fun v_3 _=>Zo J<|Zd<|Za<|Zf<|mv J<|mv J<|mv J<|tt (Yf (n:=6) (r3_rem _ _ _ _ 8 (by omega) (by omega) (by omega) hvx.tr hvy.tr (by omega) (by have:=Oc hvx.sz;have:=Oc hvy.sz;omega)) K5 call187 (Zi 92 K3 (Zi 80 K3 Ze)) J hw) (fun g_4 hg_4=>?_)
  have hrl:(Ff 8 (Zk ex.2) (Zk ey.2)).length<(Zk ey.2).length:=(Zb3 hvy.tr hy0 8 (Zk ex.2) hvx.tr (by omega)).2.1
  have hrm:=Zrm (Zk ey.2) 8 (Zk ex.2)
  have hrt:=(Zb3 hvy.tr hy0 8 (Zk ex.2) hvx.tr (by omega)).1
  have hrl2:=congrArg List.length hg_4
  rw [Zz]at hrl2
  refine tt (Zy (n:=7) (Zoc _ _ (by rw [hg_4];exact(On _).mono (by have:=Oc hvx.sz;have:=Oc hvy.sz;omega))) K4 call138 (Zi 6 K3 Ze) J hw) (fun g_5 hg_5=>?_)
  have hnl:=congrArg List.length hg_5
  rw [Zz,hg_4]at hnl
  have hnl2:=Ht (Ff 8 (Zk ex.2) (Zk ey.2)) (-1)
  refine tt (Zy (n:=8) (Zc5 _ _ (by rw [hg_5,hg_4];exact(Zbz (On _) (m:=1) (by decide)).mono (by have:=Oc hvx.sz;have:=Oc hvy.sz;omega)) (fun h=>Al (by rw [hg_5];exact Ob _ _) (fun e=>h (by rw [←Zz,e];rfl)))) K4 call57 (Zi 7 K3 Ze) J hw) fun g_6 hg_6=>Zo J<|Zo J<|Zd<|Qh ?_
  have hsn:=Zdy (f:=8) hvx.tr hvy.tr hy0 (by omega) (by omega)
  have hnx:Zk g_6.2=Lb (Zk ex.2) (Zk ey.2):=by rw [show Zk g_6.2=Yx _ from hg_6,hg_5,hg_4];exact hsn
  have hsl:=Bs (y:=Zk ey.2) hvx.tr
  have hpl:=Oq (Zk ex.2) hy0
  have hnxl:=congrArg List.length hnx
  rw [Zz]at hnxl
  exact Qn (Ot (q:=qT) (z:=ey) 71 80 71 J J J J J)<|Qn (Np 80 92 K3)<|Qn (Np 8 80 K3)<|Xg (ws ++ [ex],ey,g_6,f0,_) ⟨hvy,by dsimp only;rw [hnx];exact Zju hvx hd,by dsimp only;rw [hnx];exact hck2,by dsimp only;rw [hnx,←hch,hsc2];simp [Bk],hy8,by dsimp only;omega,by dsimp only;simp;omega⟩ (by dsimp only;omega) K3 K9
 ·refine Yt<|Zv<|Zv<|Pd<|Za<|Zb ?_
  have hy0:Zk ey.2=[]:=List.eq_nil_of_length_eq_zero (by omega)
  exact Yl (Qw 70 J J pT)<|Yl (Lx 70 71 72 J J J J)<|Zf<|mv J<|Zo J<|Zd<|Za<|Zp<|Yr (.inl J) hsc (_,ws ++ [ex]) _ (fun a w hs=>Nr hs results166 J) J (by rw [←hch,hy0,Ca];simp [Bk]) J (Kg 72 K3 Zm)
theorem Yat(v:Value)(l:List Int)(hl:∀i,-1≤l.getD i 0∧l.getD i 0≤1)(hlen:l.length≤1000):Od prog 188 #[v] [Pw 1 Eh v l] (.int .i64 (chg l)):=by
 refine Yg func188 J ntmps188 J K1 fun w0 sc hw hsc=>?_
 simp only [Zs,Zq]
 refine Zb<|Zf<|Zo J<|Zd<|Za<|Zb<|Zf<|Zo J<|Zo J<|Zd<|Za<|Zb<|Zb<|Zf<|Zo J<|Zd<|Za<|Zn<|Px [(0,_)] [(0,_),(1,_)] (fun(q:Nat×Int×Int)=>[(5,.int .i64 (q.1:Int)),(3,.int .i64 q.2.1),(4,.int .i64 q.2.2)]) (fun(q:Nat×Int×Int)=>[]) (fun(q:Nat×Int×Int)=>(q.1≤l.length)∧((q.2.1,q.2.2)=(l.take q.1).foldl Mr (0,0))∧(0≤q.2.1)∧(q.2.1≤(q.1:Int))∧(-1≤q.2.2)∧(q.2.2≤1)) (fun(q:Nat×Int×Int)=>l.length-q.1) (0,0,0) ⟨by first | omega | (dsimp only<;>omega),by simp,Int.le_refl _,Int.le_refl _,by decide,by decide⟩ K4 K2 ?_
 rintro⟨i,n,m⟩ ⟨hi,hc,hn0,hn1,hm0,hm1⟩
 dsimp only at hi hc hn0 hn1 hm0 hm1
 simp only [CA,NA]
 have hx:=hl i
 refine Zb<|Zb<|Zf<|mv J<|mv J<|dt (Yc J J (i:=1) J Zg Ol)<|dt (Pa K3)<|Zd<|Za<|Zr J (fun h74=>?_) (fun h74=>?_)
 ·refine Zl<|Za<|Zb<|Zn<|Zb<|Zb<|Zf<|mv J<|mv J<|dt (Nj (ii:=1) K4 Zg Ol zT3 J (by first | omega | (simp only [List.length_set];omega)))<|dt (Ms (ii:=1) 0 K3 Zg pZ (by first | omega | (simp only [List.length_set];omega)))<|mv J<|dt (Eu J J J (mul_r hx.1 hx.2 hm0 hm1))<|dt (Pa K3)<|Zd<|Za<|Zr J (fun h75=>?_) (fun h75=>?_)
  ·refine Zf<|mv J<|dt (Ov K3)<|Zo J<|Zd<|Za<|Zb<|Zf<|mv J<|mv J<|dt (Nj (ii:=1) K4 Zg Ol zT3 J (by first | omega | (simp only [List.length_set];omega)))<|dt (Ms (ii:=1) 0 K3 Zg pZ (by first | omega | (simp only [List.length_set];omega)))<|dt (Pk K3)<|Zd<|Za<|Zr J (fun h78=>?_) (fun h78=>?_)
   ·refine Zf<|mv J<|mv J<|dt (Nj (ii:=1) K4 Zg Ol zT3 J (by first | omega | (simp only [List.length_set];omega)))<|dt (Ms (ii:=1) 0 K3 Zg pZ (by first | omega | (simp only [List.length_set];omega)))<|Zo J<|Zd<|Qh<|Za<|Zf<|mv J<|dt (Ov K3)<|Zo J<|Zd ?_
    have hst:=Zdw (l:=l) (i:=i) (by omega) hc
    exact Xg (i+1,_,_) ⟨by first | omega | (dsimp only<;>omega),by dsimp only;rw [hst];first | exact(Zvk hm0 hm1 hx.1 hx.2 ‹_› ‹_›).symm | exact(Zvj hm0 hm1 hx.1 hx.2 ‹_› ‹_›).symm | exact(Zvi hm0 hm1 hx.1 hx.2 ‹_› ‹_›).symm | exact(Zvh hm0 hm1 hx.1 hx.2 ‹_› ‹_›).symm,by dsimp only;omega,by dsimp only;omega,by first | exact hx.1 | exact hm0,by first | exact hx.2 | exact hm1⟩ (by first | omega | (dsimp only<;>omega)) K4 K2
   ·refine Zl<|Qh<|Za<|Zf<|mv J<|dt (Ov K3)<|Zo J<|Zd ?_
    have hst:=Zdw (l:=l) (i:=i) (by omega) hc
    exact Xg (i+1,_,_) ⟨by first | omega | (dsimp only<;>omega),by dsimp only;rw [hst];first | exact(Zvk hm0 hm1 hx.1 hx.2 ‹_› ‹_›).symm | exact(Zvj hm0 hm1 hx.1 hx.2 ‹_› ‹_›).symm | exact(Zvi hm0 hm1 hx.1 hx.2 ‹_› ‹_›).symm | exact(Zvh hm0 hm1 hx.1 hx.2 ‹_› ‹_›).symm,by dsimp only;omega,by dsimp only;omega,by first | exact hx.1 | exact hm0,by first | exact hx.2 | exact hm1⟩ (by first | omega | (dsimp only<;>omega)) K4 K2
  ·refine Zl<|Za<|Zb<|Zf<|mv J<|mv J<|dt (Nj (ii:=1) K4 Zg Ol zT3 J (by first | omega | (simp only [List.length_set];omega)))<|dt (Ms (ii:=1) 0 K3 Zg pZ (by first | omega | (simp only [List.length_set];omega)))<|dt (Pk K3)<|Zd<|Za<|Zr J (fun h78_2=>?_) (fun h78_2=>?_)
   ·refine Zf<|mv J<|mv J<|dt (Nj (ii:=1) K4 Zg Ol zT3 J (by first | omega | (simp only [List.length_set];omega)))<|dt (Ms (ii:=1) 0 K3 Zg pZ (by first | omega | (simp only [List.length_set];omega)))<|Zo J<|Zd<|Qh<|Za<|Zf<|mv J<|dt (Ov K3)<|Zo J<|Zd ?_
    have hst:=Zdw (l:=l) (i:=i) (by omega) hc
    exact Xg (i+1,_,_) ⟨by first | omega | (dsimp only<;>omega),by dsimp only;rw [hst];first | exact(Zvk hm0 hm1 hx.1 hx.2 ‹_› ‹_›).symm | exact(Zvj hm0 hm1 hx.1 hx.2 ‹_› ‹_›).symm | exact(Zvi hm0 hm1 hx.1 hx.2 ‹_› ‹_›).symm | exact(Zvh hm0 hm1 hx.1 hx.2 ‹_› ‹_›).symm,by dsimp only;omega,by dsimp only;omega,by first | exact hx.1 | exact hm0,by first | exact hx.2 | exact hm1⟩ (by first | omega | (dsimp only<;>omega)) K4 K2
   ·refine Zl<|Qh<|Za<|Zf<|mv J<|dt (Ov K3)<|Zo J<|Zd ?_
    have hst:=Zdw (l:=l) (i:=i) (by omega) hc
    exact Xg (i+1,_,_) ⟨by first | omega | (dsimp only<;>omega),by dsimp only;rw [hst];first | exact(Zvk hm0 hm1 hx.1 hx.2 ‹_› ‹_›).symm | exact(Zvj hm0 hm1 hx.1 hx.2 ‹_› ‹_›).symm | exact(Zvi hm0 hm1 hx.1 hx.2 ‹_› ‹_›).symm | exact(Zvh hm0 hm1 hx.1 hx.2 ‹_› ‹_›).symm,by dsimp only;omega,by dsimp only;omega,by first | exact hx.1 | exact hm0,by first | exact hx.2 | exact hm1⟩ (by first | omega | (dsimp only<;>omega)) K4 K2
 ·exact Yt<|Zv<|Zv<|Pd<|Za<|Zb<|Zf<|mv J<|Zo J<|Zd<|Za<|Zp<|xU hsc results188 J J (by unfold chg;rw [show l=l.take i by rw [List.take_of_length_le (by omega)],←hc]<;>rfl)
theorem r3_at(v w u:Value)(ls:List (SL×List (Int×SL)))(x y:Int)(hz:∀z∈ls,Vp (Zk z.2))(hx:bl x.natAbs≤1000000)(hy:bl y.natAbs≤1000000)(hlen:ls.length≤30:=by omega):Od prog 167 #[v,.agg #[.bool (decide (x<0)),w,.bool (decide (y<0)),u]] [Ek 1 Gx qT v ls,Me w x.natAbs,Me u y.natAbs] (.int .i64 (chg ((Bk ls).map (fat x y)))):=by
 refine Yg func167 J ntmps167 J K3 fun w0 sc hw hsc=>?_
 simp only [Zs,Zq]
 have hLl:((Bk ls).map (fat x y)).length=ls.length:=by simp
 have hLg:=fun i (h:i<ls.length)=>Zyt (z:=ls) rfl (fat x y) h
 refine Zb<|Zf<|tt (Xp (i:=4) K5 hw) fun b _=>Zo J<|Zd<|Za<|Zb<|Zf<|Zo J<|Zd<|Za<|Zb<|Zb<|Zf<|Zo J<|Zd<|Za<|Zn<|Yl (Nc 70 1 3 Eh)<|Px [(0,_),(3,_)] [(0,_),(1,_),(2,_),(3,_),(4,_)] (fun(q:Nat×Value)=>[(6,.int .i64 (q.1:Int)),(5,q.2)]) (fun(q:Nat×Value)=>[(70,Lf 1 3 Eh q.2 (((Bk ls).map (fat x y)).take q.1))]) (fun(q:Nat×Value)=>q.1≤ls.length) (fun(q:Nat×Value)=>ls.length-q.1) (0,.slice none 0 0) (by first | omega | (dsimp only<;>omega)) K4 K6 ?_
 rintro⟨i,vo⟩ hi
 dsimp only at hi
 simp only [CA,NA]
 have htl:(((Bk ls).map (fat x y)).take i).length=i:=by rw [List.length_take];omega
 refine Zb<|Zb<|Zf<|mv J<|mv J<|dt (Yc J J (i:=1) J Ye underlying186)<|dt (Pa K3)<|Zd<|Za<|Zr J (fun h88=>?_) (fun h88=>?_)
 ·refine Zl<|Za<|Zb<|Zn ?_
  have hvi:=hz (ls.getD i T0) (Xc)
  have hvl:=hvi.len
  rw [Zz]at hvl
  refine Yl (Zhq 1 91 (ls.getD i T0) J J (Xc) J)<|Ni [1,4] [10]<|Zw (n:=0) [(0,0),(1,0),(2,0),(3,0),(4,0),(5,0),(6,1),(7,1),(8,1),(9,1),(10,3)]<|Zh K2 (Yy (Ya K2) K2)<|Zh K2 (Yy (Ya K2) K2)<|Zh K2 (Yy (Ya K2) K2)<|Zh K2 (Yy (Nj (ii:=1) K4 Ye underlying186 sizeOf34 J (by first | omega | (simp only [List.length_set];omega))) K2)<|Zh K2 (Yy (Ms (ii:=1) T0 K3 Ye pT (by first | omega | (simp only [List.length_set];omega))) K2)<|Zh K2 (Yy (Pj (i:=4) K3 Kh Ph K4) K2)<|Yq J (Yf (n:=5) (Zvd _ _ _ _ x y (hvi.sz.mono (by omega)) hx hy) K5 call121 (Zi 91 K3 (Zi 2 K3 (Zi 3 K3 Ze))) J hw) fun v _=>Yq J (Zy (n:=5) (Cc _ _ (by have:=ev_b (hvi.sz.mono (by omega):Sz 1000000 _) (by have:=hvi.len;omega) hx hy;omega)) K4 call72 (Zi 5 K3 Ze) J hw) fun _ _=>Yq J (Kp (i:=6) (ivs:=[(0,_)]) (enc:=Eh) [(fat x y (Zk (ls.getD i T0).2))] K4 Ol ti3 K5 pZ.cells K2 hw) (fun v_2 _=>?_)
  exact Yq J (Ze5 70 J J J K2 (fun hoffr=>(Zby (i:=70) (j:=6) (by_:=8) J J J J J J (by decide) J (Yu pZ) Ol ti3 J pZ J J J (by rw [htl];simp;omega) (by decide) J hw hoffr))) fun v_3 _=>Qs J (Pu (Ok J J) J) fun _ _=>Yi<|Yh<|Qh<|Za<|Zf<|mv J<|dt (Ov K3)<|Zo J<|Zd<|Xg (i+1,_) (by first | omega | (dsimp only<;>omega)) (by first | omega | (dsimp only<;>omega)) K4 ⟨by rw [Nw 0 _ _ (by omega),hLg i (by omega)];rfl,rfl,rfl,rfl,rfl,rfl,trivial⟩
 ·refine Yt<|Zv<|Zv<|Pd<|Za<|Zb<|Yl (Qw 70 J J pZ) ?_
  have htk:((Bk ls).map (fat x y)).take i=((Bk ls).map (fat x y)):=List.take_of_length_le (by omega)
  exact Zf<|mv J<|tt (Zy (n:=6) (Yat _ _ (fun i=>by rw [htk];by_cases hi9:i<ls.length;(rw [hLg i hi9];exact fat_r _ _ _);(rw [show((Bk ls).map (fat x y)).getD i 0=0 from Xt (by omega)];decide)) (by omega)) K4 call188 (Zi 70 K3 Ze) J hw) fun _ _=>Zo J<|Zd<|Za<|Zp<|xU hsc results167 J J (by rw [htk])
theorem Yau(v w u w2 u2:Value)(zs:List (Int×SL))(x y x2 y2:Int)(hv:Vp (Zk zs))(h0:zs.length≠0)(hs:Sz 260 (Zk zs))(hl:zs.length≤8)(hx:bl x.natAbs≤1000000)(hy:bl y.natAbs≤1000000)(hx2:bl x2.natAbs≤1000000)(hy2:bl y2.natAbs≤1000000):Od prog 122 #[v,.agg #[.bool (decide (x<0)),w,.bool (decide (y<0)),u],.agg #[.bool (decide (x2<0)),w2,.bool (decide (y2<0)),u2]] [pp v zs,Me w x.natAbs,Me u y.natAbs,Me w2 x2.natAbs,Me u2 y2.natAbs] (.int .i64 (cnt 13 (Zk zs) x y-cnt 13 (Zk zs) x2 y2)):=by
 refine Yg func122 J ntmps122 J K5 fun w0 sc hw hsc=>?_
 simp only [Zs,Zq]
 have hli:=Zz zs
 have hne:Zk zs≠[]:=fun e=>h0 (by rw [←hli,e];rfl)
 obtain⟨hC,hq,hql⟩:=Ydb hv.tr hne hs (by omega)
 refine Zb<|Zf<|tt (Xp (i:=6) K5 hw) fun b _=>tt (Xp (i:=7) K5 hw) fun b_2 _=>Zo J<|Zd<|Za<|Zb<|Zf<|mv J<|tt (Zy (n:=8) (Yav _ _ hv h0 hs hl) K4 call166 (Zi 1 K3 Ze) J hw) fun g hg=>Zo J<|Zd<|Za<|Zb ?_
 have hT:Bk g.2=chn 13 (Zk zs):=hg
 have hTl:=Zyu hT
 have hll:(chn 13 (Zk zs)).length≤_:=Zav 13 _ _
 have hr1:=Zbn ((Bk g.2).map (fat x y))
 have hr2:=Zbn ((Bk g.2).map (fat x2 y2))
 simp only [List.length_map]at hr1 hr2
 have hVz:∀z∈g.2,Vp (Zk z.2):=fun z hz=>Zze hv hne hC _ (by rw [←hT];exact List.mem_map_of_mem (f:=fun z=>Zk z.2) hz)
 refine Qj (fun _=>False) [(0,0),(1,0),(3,0),(4,0),(2,1),(5,1),(6,0),(7,3)] ?_ ?_
 ·kernel_rfl
 exact Zh K2 (Yo (Ya K2))<|Zh K2 (Yo (Pj (i:=6) K3 Kh Ph K4))<|Zh K2 (Yo (Ya K2))<|Zh K2 (Yo (Pj (i:=7) K3 Kh Ph K4))<|Yq J (Yf (n:=8) (r3_at _ _ _ _ x y hVz hx hy) K5 call167 (Zi 8 K3 (Zi 2 K3 (Zi 3 K3 Ze))) J hw) fun _ _=>Yq J (Yf (n:=8) (r3_at _ _ _ _ x2 y2 hVz hx2 hy2) K5 call167 (Zi 8 K3 (Zi 4 K3 (Zi 5 K3 Ze))) J hw) fun _ _=>Zh K2 (Yo (Pq K3))<|Qs J (Pu (Ok J J) J) fun _ _=>Pv<|Za<|Zp<|xU hsc results122 J J (by rw [hT]<;>rfl)
theorem Zq4(xs:List Int)(hd:Cvd xs)(hx0:xs≠[])(f:Nat)(ih:∀(v:Value) (zs:List (Int×SL)) (hI:RI xs (Zk zs)) (hf:zs.length≤f),Cal prog 19 #[v] [pp v zs] true (G:=Value×List (Int×SL)) (fun r=>Zk r.2=Zc6 13 f (Zk zs)) (fun r=>r.1) (fun r=>[pp r.1 r.2]))(v:Value)(zs:List (Int×SL))(hI:RI xs (Zk zs))(hf:zs.length≤f+1):Cal prog 19 #[v] [pp v zs] true (G:=Value×List (Int×SL)) (fun r=>Zk r.2=Zc6 13 (f+1) (Zk zs)) (fun r=>r.1) (fun r=>[pp r.1 r.2]):=by
 refine Yg func19 J ntmps19 J K1 fun w0 sc hw hsc=>?_
 simp only [Zs,Zq]
 have hli:=Zz zs
 have hIl:=hI.l
 have hz0:zs.length≠0:=fun e=>hI.ne (List.eq_nil_of_length_eq_zero (by omega))
 refine Zb<|Zf<|Zo J<|Zd<|Za<|Zb<|Zf<|mv J<|tt (Zy (n:=2) (Zti _ _ hI.v hz0 (hI.s.mono (by omega))) K4 call54 (Zi 1 K3 Ze) J hw) (fun g hg=>?_)
 have H_on:Zk g.2=(sqf 13 (Zk zs)):=hg
 have hl_on:=congrArg List.length H_on
 rw [Zz]at hl_on
 refine Zo J<|Zd<|Za<|Zb<|Zb<|Zf<|mv J<|dt (Yc J J (i:=2) J Ye Pm)<|dt (Hf K3)<|Zd<|Za<|Zr J (fun h29=>?_) (fun h29=>?_)
 ·have h1:(sqf 13 (Zk zs)).length=1:=by omega
  exact Zb<|Zf<|mv J<|Zo J<|Zd<|Za<|Zp<|Yp<|Yr (.inl J) hsc (_,g.2) _ (fun a w hs=>Nr hs results19 J) J (by rw [H_on,rodd_1 h1]) J (Kg 2 K3 Zm)
 ·have h1:(sqf 13 (Zk zs)).length≠1:=by omega
  obtain⟨c1,c2,c3,c4,c5,c6,c7,c8,c9,c10,c11,c12,c13,c14,c15,c16,c17,c18,c19,c20,c21,c22,c23,c24,c25⟩:=RI.step hd hx0 hI
  have m6:=Oc c6
  have m12:=Oc c12
  have hl_lfp:=Yv (Zk zs)
  refine Zl<|Za<|Zb<|Zf<|mv J<|tt (Zy (n:=3) (Gv _ _ (hI.s.mono (by omega)) (fun _=>c5)) K4 call57 (Zi 1 K3 Ze) J hw) (fun g_2 hg_2=>?_)
  have H_pp:Zk g_2.2=Yx (Zk zs):=hg_2
  have hl_pp:=congrArg List.length H_pp
  rw [Zz]at hl_pp
  refine tt (Zy (n:=4) (Zgh 1 ⟨by decide,by decide⟩) K4 call34 Ze J hw) fun v _=>tt (Yf (n:=5) (Za7 _ _ _ _ (by rw [H_pp];exact(Fj hI.s).mono (by omega)) (by decide +kernel)) K5 call56 (Zi 3 K3 (Zi 4 K3 Ze)) J hw) (fun g_3 hg_3=>?_)
  have H_sc:Zk g_3.2=Xm (Yx (Zk zs)) 1:=by rw [hg_3,H_pp]
  have hl_sc:=congrArg List.length H_sc
  rw [Zz]at hl_sc
  refine mv J<|tt (Yf (n:=6) (Zd1 _ _ _ _ (by rw [H_sc];exact c7) (by rw [H_on];exact c1) (fun _=>by rw [H_sc,H_on];have h7:=Nat.mul_le_mul (show g_3.2.length-g.2.length+1≤8 by omega) (show Pf (sqf 13 (Zk zs))+1≤331 by omega);omega)) K5 call55 (Zi 5 K3 (Zi 2 K3 Ze)) J hw) (fun g_4 hg_4=>?_)
  have H_lf:Zk g_4.2=Mo 13 (Zk zs):=by have h9:=hg_4 (by rw [H_sc,H_on];exact c9);rw [H_sc,H_on]at h9;exact h9
  have hl_lf:=congrArg List.length H_lf
  rw [Zz]at hl_lf
  refine mv J<|dt (Xa K3)<|dt (Xa K3)<|Zo J<|Zo J<|Zd<|Za<|Zb<|Zf<|mv J<|tt (Zy (n:=7) (Zti _ _ (by rw [H_lf];exact c10) (fun e=>c11 (List.eq_nil_of_length_eq_zero (by rw [←H_lf,Zz];exact e))) (by rw [H_lf];exact c12.mono (by omega))) K4 call54 (Zi 6 K3 Ze) J hw) (fun g_5 hg_5=>?_)
  have H_tw:Zk g_5.2=(sqf 13 (Mo 13 (Zk zs))):=by rw [hg_5,H_lf]
  have hl_tw:=congrArg List.length H_tw
  rw [Zz]at hl_tw
  refine Zo J<|Zd<|Za<|Zb<|Zf<|mv J<|mv J<|tt (Yf (n:=8) (Zd1 _ _ _ _ (by rw [H_on];exact c1) (by rw [H_tw];exact c16) (fun _=>by rw [H_on,H_tw];have h7:=Nat.mul_le_mul (show g.2.length-g_5.2.length+1≤8 by omega) (show Pf (sqf 13 (Mo 13 (Zk zs)))+1≤331 by omega);omega)) K5 call55 (Zi 2 K3 (Zi 7 K3 Ze)) J hw) (fun g_6 hg_6=>?_)
  have H_ol:Zk g_6.2=Kt (sqf 13 (Zk zs)) (sqf 13 (Mo 13 (Zk zs))):=by have h9:=hg_6 (by rw [H_on,H_tw];exact c20);rw [H_on,H_tw]at h9;exact h9
  have hl_ol:=congrArg List.length H_ol
  rw [Zz]at hl_ol
  refine mv J<|dt (Xa K3)<|dt (Xa K3)<|Zo J<|Zo J<|Zd<|Za<|Zb<|Zf<|mv J<|tt (Zy (n:=9) (Gv _ _ (by rw [H_lf];exact c12.mono (by omega)) (fun _=>by rw [H_lf];exact c14)) K4 call57 (Zi 6 K3 Ze) J hw) (fun g_7 hg_7=>?_)
  have H_p2:Zk g_7.2=(Mo 13 (Zk zs)):=by rw [hg_7,H_lf,c15]
  have hl_p2:=congrArg List.length H_p2
  rw [Zz]at hl_p2
  refine mv J<|tt (Yf (n:=10) (Zd1 _ _ _ _ (by rw [H_p2];exact c10.tr) (by rw [H_tw];exact c16) (fun _=>by rw [H_p2,H_tw];have h7:=Nat.mul_le_mul (show g_7.2.length-g_5.2.length+1≤8 by omega) (show Pf (sqf 13 (Mo 13 (Zk zs)))+1≤331 by omega);omega)) K5 call55 (Zi 9 K3 (Zi 7 K3 Ze)) J hw) (fun g_8 hg_8=>?_)
  have H_rs:Zk g_8.2=Ah 13 (Zk zs):=by have h9:=hg_8 (by rw [H_p2,H_tw];exact c23);rw [H_p2,H_tw]at h9;exact h9.trans (by unfold Ah;rw [c15])
  have hl_rs:=congrArg List.length H_rs
  rw [Zz]at hl_rs
  refine mv J<|dt (Xa K3)<|dt (Xa K3)<|Zo J<|Zo J<|Zd<|Za<|Zb<|Zf<|mv J<|mv J<|tt (Zy (n:=11) (ih _ _ (by rw [H_rs];exact c24) (by have:=c25 h1;omega)) K4 call19 (Zi 10 K3 Ze) J hw) (fun g_9 hg_9=>?_)
  have hl_od:=congrArg List.length hg_9
  rw [Zz,H_rs]at hl_od
  obtain⟨q1,q2,q3⟩:=RI.size hd hx0 c24 (f:=f) (by have:=c25 h1;omega)
  exact tt (Yf (n:=12) (Yag _ _ _ _ (by rw [H_ol];exact c21.mono (by omega)) (by rw [hg_9,H_rs];exact q2.mono (by omega)) (by omega)) K5 call42 (Zi 8 K3 (Zi 11 K3 Ze)) J hw) fun g_10 hg_10=>Zo J<|Zd<|Za<|Zp<|xG hsc _ results19 J J (by rw [hg_10,H_ol,hg_9,H_rs];exact(rodd_s h1).symm) J (Kg 12 K3 Zm)
theorem Zkh(xs:List Int)(hd:Cvd xs)(hx0:xs≠[]):∀(f:Nat) (v:Value) (zs:List (Int×SL)) (hI:RI xs (Zk zs)) (hf:zs.length≤f),Cal prog 19 #[v] [pp v zs] true (G:=Value×List (Int×SL)) (fun r=>Zk r.2=Zc6 13 f (Zk zs)) (fun r=>r.1) (fun r=>[pp r.1 r.2])
 | 0,v,zs,hI,hf=>absurd (List.eq_nil_of_length_eq_zero (by rw [Zz];omega)) hI.ne
 | f+1,v,zs,hI,hf=>Zq4 xs hd hx0 f (Zkh xs hd hx0 f) v zs hI hf
theorem r4_odd(v:Value)(zs:List (Int×SL))(hd:Cvd (Zk zs))(h0:zs.length≠0):Cal prog 19 #[v] [pp v zs] true (G:=Value×List (Int×SL)) (fun r=>Zk r.2=Kb (Zk zs)) (fun r=>r.1) (fun r=>[pp r.1 r.2]):=by
 have hne:Zk zs≠[]:=fun e=>h0 (by rw [←Zz,e];rfl)
 have h:=Zkh (Zk zs) hd hne zs.length v zs (RI.start hd hne) (Nat.le_refl _)
 rw [←Zz zs,Zx0 hd hne]at h
 exact h
theorem sm_dec{r:RWL}(h:smR r=true)(hok:okP r=true):Cvd (Bg r)∧Sz 32 (Bg r)∧(Bg r).length=r.length:=by
 obtain⟨h1,h2⟩:=smR_le h
 obtain⟨h3,h4⟩:=Zpm hok
 have h5:=congrArg List.length h4
 rw [List.length_map]at h5
 have hs:Sz 32 (Bg r):=Sz.of_mem fun c hc=>by
  have h6:=h2 (wr c) (by rw [h4];exact List.mem_map_of_mem hc)
  exact Znp 4 h6
 exact⟨⟨h3,hs.mono (by omega),by omega⟩,hs,h5.symm⟩
noncomputable def odR (r:RWL):List Int×Int:=if okP r=true then(if(Bg r).length=0 then([],3)else(Kb (Bg r),0))else([],2)
theorem Ct(v:Value)(r:List (Bool×ByteArray))(hok:okP r=true):Cal prog 16 #[v] [Pw 2 Zax v r] true (G:=Value×List (Int×SL)) (fun q=>Zk q.2=Bg r) (fun q=>q.1) (fun q=>[pp q.1 q.2]):=
 Cal.imp (Yej v (Bg r) ((Zpm hok).1.sz.mono (by omega)) (by have:=(Zpm hok).1.len;omega)) (Zux hok v) (fun _ h=>h)
theorem Zwf(x y:Int):fat x y []=0:=by unfold fat;rw [show pev [] x y=0 from rfl];rfl
theorem Zlg{p:List Int}(h:p.length=0):Qq p=[]:=by unfold Qq;rw [h];rfl
theorem Zmh(p:List Int)(x y:Int):vlu (Qq p) (x,y)=fat x y p:=by
  by_cases h:p.length=0
  · obtain rfl:=List.eq_nil_of_length_eq_zero h
    rw [Zlg h,Zwf];rfl
  · rw [Zei h];rfl
theorem Znd(a:Int)(l:List Int):Ziv (a :: l)=if a≠0 then a else Ziv l:=by
  by_cases h:a=0
  · rw [if_neg (fun e=>e h)]
    subst h
    rfl
  · rw [if_pos h]
    unfold Ziv
    simp [h]
theorem Zsu{p:List Int}{x y:Int}(h:p.length=0∨fat x y p≠0):aft (Qq p) (x,y)=fat x y p:=by
  by_cases h0:p.length=0
  · obtain rfl:=List.eq_nil_of_length_eq_zero h0
    rw [Zlg h0,Zwf];rfl
  · have h1:=h.resolve_left h0
    rw [Zei h0]
    unfold aft
    rw [List.map_cons,Znd,if_pos h1]
theorem aft_go{p:List Int}{x y:Int}(h0:p.length≠0)(h1:fat x y p=0):aft (Qq p) (x,y)=aft (Qq (Xy p)) (x,y):=by
  rw [Zei h0]
  unfold aft
  rw [List.map_cons,Znd,if_neg (fun e=>e h1)]
theorem Zxn{p:List Int}{k:Nat}(hv:Vp p)(hs:Sz k p)(hk:k≤60000):Vp (Xy p):=by
  have hl:=hv.len
  have h:=Fl hs (by omega)
  exact⟨h.mono (by omega),Mv hv.tr,by have:=Nq p;omega⟩
theorem Zw0{p:List Int}(h:p.length≠0)(x y:Int):cnt 13 (Kb p) x y=chv (Gz p) (x,y):=by rw [Zpt h];rfl
theorem Yc9{p:List Int}(hd:Cvd p)(h:p.length≠0){x y:Int}(hy:0<y):fat x y ((Gz p).getD 0 [])=0↔fat x y (Kb p)=0:=by
  have hne:p≠[]:=fun e=>h (by rw [e];rfl)
  obtain⟨o1,-⟩:=Zb9 hd hne
  rw [Zpt h]
  have e:(chn 13 (Kb p)).getD 0 []=sqf 13 (Kb p):=by
    unfold chn Le
    split<;>rfl
  rw [e]
  have z:=o1.zero ((x:Rat)/(y:Rat))
  rw [Zeg hy _,Zeg hy _]
  constructor
  · intro h1
    have := z.1 (by rcases Oy (Zu (sqf 13 (Kb p)) ((x : Rat) / (y : Rat))) with ⟨h5, h6⟩ | ⟨h5, h6⟩ | ⟨h5, h6⟩
                    · rw [h6]at h1;exact absurd h1 (by decide)
                    · rw [h6]at h1;exact absurd h1 (by decide)
                    · exact h5)
    rw [this];decide
  · intro h1
    have := z.2 (by rcases Oy (Zu (Kb p) ((x : Rat) / (y : Rat))) with ⟨h5, h6⟩ | ⟨h5, h6⟩ | ⟨h5, h6⟩
                    · rw [h6]at h1;exact absurd h1 (by decide)
                    · rw [h6]at h1;exact absurd h1 (by decide)
                    · exact h5)
    rw [this];decide
theorem Zw6{p:List Int}(h:p.length≠0):(Gz p).length≠0:=by
  rw [Zpt h]
  unfold chn Le
  split<;>simp
theorem Yf4{p:List Int}(h:p.length=0)(a b:R2):crb (Gz p) a b=false:=by
  unfold Gz;rw [if_pos h];rfl
theorem crx_t{p:List Int}(hd:Cvd p)(h:p.length≠0){x y x2 y2:Int}(hy:0<y2)(hz:fat x2 y2 (Kb p)=0):crb (Gz p) (x,y) (x2,y2)=decide (0<chv (Gz p) (x,y)-chv (Gz p) (x2,y2)-1):=by
  unfold crb;rw [if_neg (Zw6 h),if_pos ((Yc9 hd h hy).2 hz)]
theorem crx_f{p:List Int}(hd:Cvd p)(h:p.length≠0){x y x2 y2:Int}(hy:0<y2)(hz:¬fat x2 y2 (Kb p)=0):crb (Gz p) (x,y) (x2,y2)=decide (0<chv (Gz p) (x,y)-chv (Gz p) (x2,y2)):=by
  unfold crb;rw [if_neg (Zw6 h),if_neg (fun e=>hz ((Yc9 hd h hy).1 e)),Int.sub_zero]
theorem Zpb{p:List Int}{a:R2}(ha:0<a.2):fat a.1 a.2 p<0↔Zu p (qv a)<0:=by
  rw [show fat a.1 a.2 p=Dd (Zu p (qv a))from Zeg ha p]
  rcases Oy (Zu p (qv a))with⟨h5,h6⟩ | ⟨h5,h6⟩ | ⟨h5,h6⟩
  · rw [h6];constructor
    · intro h;exact absurd h (by decide)
    · intro h;grind
  · rw [h6];exact⟨fun _=>h5,fun _=>by decide⟩
  · rw [h6,h5];constructor
    · intro h;exact absurd h (by decide)
    · intro h;exact absurd h (by decide)
theorem Zv0{p:List Int}(hd:Cvd p){a b:R2}(ha:0<a.2)(hb:0<b.2)(hc:¬0<Iz a b)(h:fat a.1 a.2 p<0):Bj (Qq p) (Gz p) a b=true:=by
  have hle:=(Zch ha hb).1 (by omega)
  exact(Zca hd ha hb hle).2 ⟨qv a,Rat.le_refl,hle,(Zpb ha).1 h⟩
theorem Zvz{p:List Int}(hd:Cvd p){a b:R2}(ha:0<a.2)(hb:0<b.2)(hc:¬0<Iz a b)(h:fat b.1 b.2 p<0):Bj (Qq p) (Gz p) a b=true:=by
  have hle:=(Zch ha hb).1 (by omega)
  exact(Zca hd ha hb hle).2 ⟨qv b,hle,Rat.le_refl,(Zpb hb).1 h⟩
theorem Zvy{p:List Int}{a b:R2}(hc:¬Iz a b=0)(h:aft (Qq p) a<0):Bj (Qq p) (Gz p) a b=true:=by
  unfold Bj;rw [if_neg hc,decide_eq_true h];rfl
theorem Zvx{p:List Int}{a b:R2}(hc:¬Iz a b=0)(h:¬aft (Qq p) a<0):Bj (Qq p) (Gz p) a b=crb (Gz p) a b:=by
  unfold Bj;rw [if_neg hc,decide_eq_false h];rfl
theorem ngb_e{p:List Int}{a b:R2}(hc:Iz a b=0):Bj (Qq p) (Gz p) a b=decide (fat a.1 a.2 p<0):=by
  unfold Bj;rw [if_pos hc,show vlu (Qq p) a=fat a.1 a.2 p from Zmh p a.1 a.2]
theorem Dg(v w u:Value)(zs:List (Int×SL))(x y:Int)(hx:bl x.natAbs≤1000000)(hy:bl y.natAbs≤1000000)(hs:Sz 1000000 (Zk zs))(hl:zs.length≤30:=by omega):Od prog 65 #[v,.agg #[.bool (decide (x<0)),w,.bool (decide (y<0)),u]] [pp v zs,Me w x.natAbs,Me u y.natAbs] (.int .i64 (fat x y (Zk zs))):=by
 refine Yg func65 J ntmps65 J K3 fun w0 sc hw hsc=>?_
 simp only [Zs,Zq]
 have hli:=Zz zs
 exact Zb<|Zf<|tt (Xp (i:=4) K5 hw) fun bx _=>Zo J<|Zd<|Za<|Zb<|Zf<|mv J<|dt (Pj (i:=4) K3 Kh Ph K4)<|tt (Yf (n:=5) (Zvd _ _ _ _ x y hs hx hy) K5 call121 (Zi 1 K3 (Zi 2 K3 (Zi 3 K3 Ze))) J hw) fun v _=>tt (Zy (n:=5) (Cc _ _ (by have:=ev_b hs (by omega) hx hy;omega)) K4 call72 (Zi 5 K3 Ze) J hw) fun _ _=>Zo J<|Zd<|Za<|Zp<|xU hsc results65 J J J
theorem Zl9(x y:Int)(hx:bl x.natAbs≤1000000)(hy:bl y.natAbs≤1000000)(n:Nat)(ih:∀(v w u:Value) (zs:List (Int×SL)) (k:Nat) (hv:Vp (Zk zs)) (hk:Sz k (Zk zs)) (hkk:k+5*zs.length≤110) (hf:zs.length<n),Cal prog 66 #[v,.agg #[.bool (decide (x<0)),w,.bool (decide (y<0)),u]] [pp v zs,Me w x.natAbs,Me u y.natAbs] false (G:=Unit) (fun _=>True) (fun _=> .int .i64 (aft (Qq (Zk zs)) (x,y))) (fun _=>[]))(v w u:Value)(zs:List (Int×SL))(k:Nat)(hv:Vp (Zk zs))(hk:Sz k (Zk zs))(hkk:k+5*zs.length≤110)(hf:zs.length<n+1):Cal prog 66 #[v,.agg #[.bool (decide (x<0)),w,.bool (decide (y<0)),u]] [pp v zs,Me w x.natAbs,Me u y.natAbs] false (G:=Unit) (fun _=>True) (fun _=> .int .i64 (aft (Qq (Zk zs)) (x,y))) (fun _=>[]):=by
 refine Yg func66 J ntmps66 J K3 fun w0 sc hw hsc=>?_
 simp only [Zs,Zq]
 have hli:=Zz zs
 have hlen:=hv.len
 have hld:=Nq (Zk zs)
 have hvd:=Zxn hv hk (by omega)
 have hkd:=Fl hk (by omega)
 refine Zb<|Zf<|tt (Xp (i:=4) K5 hw) fun bx _=>Zo J<|Zd<|Za<|Zb<|Zb<|Zf<|mv J<|dt (Yc J J (i:=1) J Ye Pm)<|dt (Hf K3)<|mv J<|Pb (d:=8) J (fun s44=>?_) (fun s44=>?_)
 ·exact Yj K3<|Yj K3<|Yj K3<|Yj K3<|dt (Om K3)<|Zd<|Za<|Of J<|Zb<|Zf<|mv J<|dt (Pj (i:=4) K3 Kh Ph K4)<|tt (Yf (n:=4) (Dg _ _ _ _ x y hx hy (hv.sz.mono (by omega))) K5 call65 (Zi 1 K3 (Zi 2 K3 (Zi 3 K3 Ze))) J hw) fun _ _=>Zo J<|Zd<|Za<|Zp<|Yp<|xU hsc results66 J J (by rw [Zsu (by first | (left;omega) | (right;assumption))])
 ·refine Zx (Ya K2) K2<|Zx (Pj (i:=4) K3 Kh Ph K4) K2<|Pp (Yf (n:=4) (Dg _ _ _ _ x y hx hy (hv.sz.mono (by omega))) K5 call65 (Zi 1 K3 (Zi 2 K3 (Zi 3 K3 Ze))) J hw) K3 fun _ _=>Zx (Pk K3) K2<|dt (Ql K3)<|Zd<|Za<|Zr J (fun h44=>?_) (fun h44=>?_)
  ·exact Zb<|Zf<|mv J<|dt (Pj (i:=4) K3 Kh Ph K4)<|tt (Yf (n:=4) (Dg _ _ _ _ x y hx hy (hv.sz.mono (by omega))) K5 call65 (Zi 1 K3 (Zi 2 K3 (Zi 3 K3 Ze))) J hw) fun _ _=>Zo J<|Zd<|Za<|Zp<|Yp<|xU hsc results66 J J (by rw [Zsu (by first | (left;omega) | (right;assumption))])
  ·refine Zl<|Za<|Zb<|Fy (fun _=>False) [4]<|Zw (n:=2) [(0,0),(2,0),(1,1)]<|Zh K2 (Yo (Ya K2))<|Zh K2 (Yo (Pj (i:=4) K3 Kh Ph K4))<|Yq J (Zy (n:=5) (Zht _ _ (hv.sz.mono (by omega))) K4 call115 (Zi 1 K3 Ze) J hw) fun g hg=>Yi ?_
   have hD:Zk g.2=Xy (Zk zs):=hg
   have hl7:=congrArg List.length hD
   rw [Zz]at hl7
   exact Zw (n:=0) [(3,1),(4,3)]<|Yq J (Yf (n:=5) (ih _ _ _ _ (k+5) (by rw [hD];exact hvd) (by rw [hD];exact hkd) (by omega) (by omega)) K5 call66 (Zi 5 K3 (Zi 2 K3 (Zi 3 K3 Ze))) J hw) fun _ _=>Qs J (Pu (Ok J J) J) fun _ _=>Yi<|Yh<|Za<|Zp<|xU hsc results66 J J (by rw [aft_go (p:=Zk zs) (by omega) (Decidable.byContradiction ‹_›),←hD])
theorem Zkj(x y:Int)(hx:bl x.natAbs≤1000000)(hy:bl y.natAbs≤1000000):∀(n:Nat) (v w u:Value) (zs:List (Int×SL)) (k:Nat) (hv:Vp (Zk zs)) (hk:Sz k (Zk zs)) (hkk:k+5*zs.length≤110) (hf:zs.length<n),Cal prog 66 #[v,.agg #[.bool (decide (x<0)),w,.bool (decide (y<0)),u]] [pp v zs,Me w x.natAbs,Me u y.natAbs] false (G:=Unit) (fun _=>True) (fun _=> .int .i64 (aft (Qq (Zk zs)) (x,y))) (fun _=>[])
 | 0,v,w,u,zs,k,hv,hk,hkk,hf=>absurd hf (Nat.not_lt_zero _)
 | n+1,v,w,u,zs,k,hv,hk,hkk,hf=>Zl9 x y hx hy n (Zkj x y hx hy n) v w u zs k hv hk hkk hf
theorem Zki(v w u w2 u2:Value)(zs:List (Int×SL))(x y x2 y2:Int)(hx:bl x.natAbs≤1000000)(hy:bl y.natAbs≤1000000)(hx2:bl x2.natAbs≤1000000)(hy2:bl y2.natAbs≤1000000)(hp2:0<y2)(hd:Cvd (Zk zs)):Od prog 67 #[v,.agg #[.bool (decide (x<0)),w,.bool (decide (y<0)),u],.agg #[.bool (decide (x2<0)),w2,.bool (decide (y2<0)),u2]] [pp v zs,Me w x.natAbs,Me u y.natAbs,Me w2 x2.natAbs,Me u2 y2.natAbs] (.bool (crb (Gz (Zk zs)) (x,y) (x2,y2))):=by
 refine Yg func67 J ntmps67 J K5 fun w0 sc hw hsc=>?_
 simp only [Zs,Zq]
 have hli:=Zz zs
 have hd7:=hd.l
 have hr1:=Zw7 (Gz (Zk zs)) (x,y)
 have hr2:=Zw7 (Gz (Zk zs)) (x2,y2)
 have hr3:=Cm (Zk zs)
 refine Zb<|Zf<|tt (Xp (i:=6) K5 hw) fun bx _=>tt (Xp (i:=7) K5 hw) fun bx_2 _=>Zo J<|Zd<|Za<|Zb<|Zb<|Zf<|mv J<|dt (Yc J J (i:=1) J Ye Pm)<|dt (Hf K3)<|Zd<|Za<|Zr J (fun h52=>?_) (fun h52=>?_)
 ·exact Zb<|Zf<|Zo J<|Zd<|Za<|Zp<|Yp<|xU hsc results67 J J (by rw [Yf4 (by omega)])
 ·have hz0:(Zk zs).length≠0:=by omega
  obtain⟨o1,o2,o3,o4,-⟩:=Zb9 hd (fun e=>hz0 (by rw [e];rfl))
  refine Zl<|Za<|Zb<|Zf<|mv J<|tt (Zy (n:=8) (r4_odd _ _ hd (by omega)) K4 call19 (Zi 1 K3 Ze) J hw) (fun g hg=>?_)
  have hO:Zk g.2=Kb (Zk zs):=hg
  have hl7:=congrArg List.length hO
  rw [Zz]at hl7
  refine Zo J<|Zd<|Za<|Zb<|Zf<|mv J<|dt (Pj (i:=6) K3 Kh Ph K4)<|dt (Pj (i:=7) K3 Kh Ph K4)<|tt (Xv (n:=8) (Yau _ _ _ _ _ _ x y x2 y2 (by rw [hO];exact o2) (fun e=>o1.one (List.eq_nil_of_length_eq_zero (by rw [←hO,Zz];exact e))) (by rw [hO];exact o3.mono (by omega)) (by omega) hx hy hx2 hy2) J J J K3 call122 (Zi 8 K3 (Zi 2 K3 (Zi 3 K3 (Zi 4 K3 (Zi 5 K3 Ze))))) J hw) fun _ _=>Zo J<|Zd<|Za<|Zb<|Zb<|Yl (Iq 8 (v':= .int .i64 ((chv (Gz (Zk zs)) (x,y))-(chv (Gz (Zk zs)) (x2,y2)))) J (by rw [hO,Zw0 hz0,Zw0 hz0]))<|Zf<|mv J<|dt (Pj (i:=7) K3 Kh Ph K4)<|tt (Yf (n:=8) (Dg _ _ _ _ x2 y2 hx2 hy2 (by rw [hO];exact o2.sz.mono (by omega))) K5 call65 (Zi 8 K3 (Zi 4 K3 (Zi 5 K3 Ze))) J hw) fun _ _=>dt (Hf K3)<|Zd<|Za<|Zr J (fun h57=>?_) (fun h57=>?_)
  ·have hfz:fat x2 y2 (Kb (Zk zs))=0:=by rw [←hO];exact h57
   exact Zf<|mv J<|dt (Pq K3)<|Zo J<|Zd<|Za<|Zb<|Zf<|mv J<|dt (Fd K3)<|Zo J<|Zd<|Za<|Zp<|xU hsc results67 J J (by first | rw [crx_t hd hz0 hp2 hfz] | rw [crx_f hd hz0 hp2 hfz])
  ·have hfz:¬fat x2 y2 (Kb (Zk zs))=0:=by rw [←hO];exact h57
   exact Zl<|Za<|Zb<|Zf<|mv J<|dt (Fd K3)<|Zo J<|Zd<|Za<|Zp<|xU hsc results67 J J (by first | rw [crx_t hd hz0 hp2 hfz] | rw [crx_f hd hz0 hp2 hfz])
theorem Zq5(v w u w2 u2:Value)(zs:List (Int×SL))(x y x2 y2:Int)(hx:bl x.natAbs≤1000000)(hy:bl y.natAbs≤1000000)(hx2:bl x2.natAbs≤1000000)(hy2:bl y2.natAbs≤1000000)(hp:0<y)(hp2:0<y2)(hd:Cvd (Zk zs))(hc:¬0<Iz (x,y) (x2,y2)):Od prog 24 #[v,.agg #[.bool (decide (x<0)),w,.bool (decide (y<0)),u],.agg #[.bool (decide (x2<0)),w2,.bool (decide (y2<0)),u2]] [pp v zs,Me w x.natAbs,Me u y.natAbs,Me w2 x2.natAbs,Me u2 y2.natAbs] (.bool (Bj (Qq (Zk zs)) (Gz (Zk zs)) (x,y) (x2,y2))):=by
 refine Yg func24 J ntmps24 J K5 fun w0 sc hw hsc=>?_
 simp only [Zs,Zq]
 have hli:=Zz zs
 have hd7:=hd.l
 have hdz:Sz 1000000 (Zk zs):=hd.v.sz.mono (by omega)
 refine Zb<|Zf<|tt (Xp (i:=6) K5 hw) fun bx _=>tt (Xp (i:=7) K5 hw) fun bx_2 _=>Zo J<|Zd<|Za<|Zb<|Zb<|Zf<|dt (Pj (i:=6) K3 Kh Ph K4)<|dt (Pj (i:=7) K3 Kh Ph K4)<|tt (Yf (n:=7) (Hs _ _ _ _ x y x2 y2) K5 call27 (Zi 2 K3 (Zi 3 K3 (Zi 4 K3 (Zi 5 K3 Ze)))) J hw) fun _ _=>dt (Hf K3)<|Zd<|Za<|Zr J (fun h65=>?_) (fun h65=>?_)
 ·exact Zb<|Zf<|mv J<|dt (Pj (i:=6) K3 Kh Ph K4)<|tt (Yf (n:=7) (Dg _ _ _ _ x y hx hy hdz) K5 call65 (Zi 1 K3 (Zi 2 K3 (Zi 3 K3 Ze))) J hw) fun _ _=>dt (Pa K3)<|Zo J<|Zd<|Za<|Zp<|Yp<|xU hsc results24 J J (by rw [ngb_e (show Iz (x,y) (x2,y2)=0 by assumption)])
 ·refine Zl<|Za<|Zb<|Zf<|mv J<|dt (Pj (i:=6) K3 Kh Ph K4)<|tt (Yf (n:=7) (Dg _ _ _ _ x y hx hy hdz) K5 call65 (Zi 1 K3 (Zi 2 K3 (Zi 3 K3 Ze))) J hw) fun _ _=>dt (Pa K3)<|mv J<|Pb (d:=19) J (fun s68=>?_) (fun s68=>?_)
  ·exact Yj K3<|Yj K3<|Yj K3<|Yj K3<|dt (Om K3)<|mv J<|Yj K3<|Yj K3<|Yj K3<|Yj K3<|dt (Om K3)<|mv J<|Yj K3<|Yj K3<|Yj K3<|Yj K3<|dt (Om K3)<|Zo J<|Zd<|Za<|Zp<|xU hsc results24 J J (by first | rw [Zv0 hd hp hp2 hc ‹_›] | rw [Zvz hd hp hp2 hc ‹_›] | rw [Zvy (show ¬Iz (x,y) (x2,y2)=0 by assumption) ‹_›] | rw [Zvx (show ¬Iz (x,y) (x2,y2)=0 by assumption) ‹_›])
  ·refine Zx (Ya K2) K2<|Zx (Pj (i:=7) K3 Kh Ph K4) K2<|Pp (Yf (n:=7) (Dg _ _ _ _ x2 y2 hx2 hy2 hdz) K5 call65 (Zi 1 K3 (Zi 4 K3 (Zi 5 K3 Ze))) J hw) K3 fun _ _=>Zx (Pa K3) K2<|dt (Ql K3)<|mv J<|Pb (d:=25) J (fun s68_2=>?_) (fun s68_2=>?_)
   ·exact Yj K3<|Yj K3<|Yj K3<|Yj K3<|dt (Om K3)<|mv J<|Yj K3<|Yj K3<|Yj K3<|Yj K3<|dt (Om K3)<|Zo J<|Zd<|Za<|Zp<|xU hsc results24 J J (by first | rw [Zv0 hd hp hp2 hc ‹_›] | rw [Zvz hd hp hp2 hc ‹_›] | rw [Zvy (show ¬Iz (x,y) (x2,y2)=0 by assumption) ‹_›] | rw [Zvx (show ¬Iz (x,y) (x2,y2)=0 by assumption) ‹_›])
   ·refine Zx (Ya K2) K2<|Zx (Pj (i:=6) K3 Kh Ph K4) K2<|Pp (Yf (n:=7) (Zkj x y hx hy _ _ _ _ _ 70 hd.v hd.s (by omega) (Nat.lt_succ_self _)) K5 call66 (Zi 1 K3 (Zi 2 K3 (Zi 3 K3 Ze))) J hw) K3 fun _ _=>Zx (Pa K3) K2<|dt (Ql K3)<|mv J<|Pb (d:=31) J (fun s68_3=>?_) (fun s68_3=>?_)
    ·exact Yj K3<|Yj K3<|Yj K3<|Yj K3<|dt (Om K3)<|Zo J<|Zd<|Za<|Zp<|xU hsc results24 J J (by first | rw [Zv0 hd hp hp2 hc ‹_›] | rw [Zvz hd hp hp2 hc ‹_›] | rw [Zvy (show ¬Iz (x,y) (x2,y2)=0 by assumption) ‹_›] | rw [Zvx (show ¬Iz (x,y) (x2,y2)=0 by assumption) ‹_›])
    ·exact Zx (Ya K2) K2<|Zx (Pj (i:=6) K3 Kh Ph K4) K2<|Zx (Pj (i:=7) K3 Kh Ph K4) K2<|Pp (Xv (n:=7) (Zki _ _ _ _ _ _ x y x2 y2 hx hy hx2 hy2 hp2 hd) J J J K3 call67 (Zi 1 K3 (Zi 2 K3 (Zi 3 K3 (Zi 4 K3 (Zi 5 K3 Ze))))) J hw) K3 fun _ _=>dt (Ql K3)<|Zo J<|Zd<|Za<|Zp<|xU hsc results24 J J (by first | rw [Zv0 hd hp hp2 hc ‹_›] | rw [Zvz hd hp hp2 hc ‹_›] | rw [Zvy (show ¬Iz (x,y) (x2,y2)=0 by assumption) ‹_›] | rw [Zvx (show ¬Iz (x,y) (x2,y2)=0 by assumption) ‹_›])
theorem Zps(n:Nat):Fs n 0=1:=by cases n<;>rfl
theorem Zjj:∀(n i:Nat),i≤n→Fs n (i+1)*(i+1)=Fs n i*(n-i)
 | 0,i,h=>by
   obtain rfl:i=0:=by omega
   rfl
 | n+1,0,_=>by
  have ih:=Zjj n 0 (Nat.zero_le _)
  rw [Zps]at ih
  show(Fs n 0+Fs n (0+1))*(0+1)=Fs (n+1) 0*(n+1-0)
  rw [Zps,Zps];omega
 | n+1,i+1,h=>by
  have i1:=Zjj n i (by omega)
  rcases Nat.lt_or_ge i n with q | q
  ·have i2:=Zjj n (i+1) (by omega)
   show(Fs n (i+1)+Fs n (i+1+1))*(i+1+1)=(Fs n i+Fs n (i+1))*(n+1-(i+1))
   rw [show n+1-(i+1)=n-i by omega,Nat.add_mul,i2,Nat.add_mul,←i1,←Nat.mul_add,←Nat.mul_add]
   congr 1;omega
  ·obtain rfl:i=n:=by omega
   show(Fs i (i+1)+Fs i (i+1+1))*(i+1+1)=(Fs i i+Fs i (i+1))*(i+1-(i+1))
   rw [Zll i (i+1) (by omega),Zll i (i+1+1) (by omega),Nat.sub_self,Nat.mul_zero];simp
theorem chz_q{n i:Nat}(h:i<n):((Fs n i:Nat):Int)*((n:Int)-(i:Int))/((i:Int)+1)=((Fs n (i+1):Nat):Int):=by
 have h1:=Zjj n i (by omega)
 have h2:((Fs n i:Nat):Int)*((n:Int)-(i:Int))=((Fs n (i+1):Nat):Int)*((i:Int)+1):=by
  have:=congrArg (fun k:Nat=>(k:Int)) h1
  push_cast at this
  rw [Int.natCast_sub (by omega)]at this
  exact this.symm
 rw [h2];exact Int.mul_ediv_cancel _ (by omega)
theorem chz_mb{n i:Nat}(hn:n≤24)(h:i<n):0≤((Fs n i:Nat):Int)*((n:Int)-(i:Int))∧((Fs n i:Nat):Int)*((n:Int)-(i:Int))≤9223372036854775807:=by
 have h1:=Znn (n:=n) (k:=i) hn
 have h2:((Fs n i:Nat):Int)*((n:Int)-(i:Int))=((Fs n i*(n-i):Nat):Int):=by
  push_cast;rw [Int.natCast_sub (by omega)]
 have h3:Fs n i*(n-i)≤16777216*24:=Nat.mul_le_mul h1 (by omega)
 rw [h2];omega
theorem vlu_x(xs:List Int)(a:R2):vlu (Qq xs) a=fat a.1 a.2 xs:=Zmh xs a.1 a.2
end Go.Sky

