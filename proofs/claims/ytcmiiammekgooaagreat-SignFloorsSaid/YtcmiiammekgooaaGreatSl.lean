/- the law: part 20
   Proved without conditions of its own: each theorem bears its own. -/
import Derived.Test.YtcmiiammekgooaaGreatSl03
import Derived.Test.YtcmiiammekgooaaGreatSl02
import Derived.Test.YtcmiiammekgooaaGreatSl01
import Derived.Test.YtcmiiammekgooaaGreatSl10
import Derived.Test.YtcmiiammekgooaaGreatSl12
import Derived.Test.YtcmiiammekgooaaGreatSl18
import Derived.Test.YtcmiiammekgooaaGreatSl14
import Derived.Test.YtcmiiammekgooaaGreatSl16
set_option linter.all false
namespace Go.Sky
open Go.Proofs.Tryz
open Go.Proofs
set_option maxRecDepth 20000
set_option maxHeartbeats 4000000
set_option linter.unusedSimpArgs false
set_option maxHeartbeats 4000000 in
theorem r3_rem(v u:Value)(zs ys:List (Int×SL))(F:Nat)(hl:zs.length≤30)(hk:ys.length≤30)(hy0:0<ys.length)(htz:Tr (Zs zs))(ht:Tr (Zs ys))(hF0:zs.length<ys.length+F)(hS0:msz (Zs zs)+F*(msz (Zs ys)+1)≤900000):Cal prog 187 #[v,u] [pp v zs,pp u ys] true (G:=Value×List (Int×SL)) (fun r=>Zs r.2=Bn F (Zs zs) (Zs ys)) (fun r=>r.1) (fun r=>[pp r.1 r.2]):=by
 refine Ya func187 J ntmps187 J K2 ?_
 intro w0 sc hw hsc
 simp only [Zp,Zn]
 have hli:=Zr zs
 have hli2:=Zr ys
 have hcy:=Na ys (ys.length-1)
 have hra:=Zux (Zs ys)
 refine Zc<|Zg<|as_ J<|Zf<|Za<|Zc<|Zg<|mv J<|mv J<|dt (Yb J J (i:=2) J Zx Nc)<|dt (Qa J J J ⟨by omega,by omega⟩)<|dt (Yw (ii:=2) (i:=(ys.length-1)) J J J J Zx Nc Qe)<|dt (Xm (ii:=2) I0 J J J Zx pI)<|tt (Zo (i:=85) J J zeroValue48 J J hw) fun b _=>tt (Zm (i:=85) J J J J J (by decide) J Qe J J ⟨Zd J,Zd J,trivial⟩ J hw trivial) fun _ _=>Pr (Zf2 2 91 (ys.getD (ys.length-1) I0) J J (Yv) J)<|Zf<|Za<|Zc<|Zl<|Yl (Oc 1 80 J J J)<|Nt [(1,_),(5,_)] [(0,_),(1,_),(2,_),(85,_),(91,_)] (fun(q:Value×List (Int×SL)×Nat)=>[(0,q.1)]) (fun(q:Value×List (Int×SL)×Nat)=>[(80,pp q.1 q.2.1)]) (fun(q:Value×List (Int×SL)×Nat)=>(Bn q.2.2 (Zs q.2.1) (Zs ys)=Bn F (Zs zs) (Zs ys))∧((Zs q.2.1).length<(Zs ys).length+q.2.2)∧(Tr (Zs q.2.1))∧(msz (Zs q.2.1)+q.2.2*(msz (Zs ys)+1)≤900000)∧(q.2.1.length≤30)) (fun(q:Value×List (Int×SL)×Nat)=>q.2.2) (_,zs,F) ⟨J,by dsimp only;omega,htz,hS0,hl⟩ K3 K6 ?_
 rintro⟨vr,ws,f⟩ ⟨hE,hL,hT,hS,hW⟩
 dsimp only at hE hL hT hS hW
 simp only [CA,NA]
 have hlw:=Zr ws
 have hcw:=Na ws (ws.length-1)
 refine Zc<|Zc<|Zg<|mv J<|dt (Yb J J (i:=80) J Zx Nc)<|mv J<|dt (Yb J J (i:=2) J Zx Nc)<|dt (Lx J J J)<|Zf<|Za<|Zq J (fun h45=>?_) (fun h45=>?_)
 ·obtain⟨f1,rfl,hE1,hL1,hT1,hS1,hLl⟩:=Zrh (by omega) (by omega) hL hT hS
  have hB:msz (Zs ws)+(msz (Zs ys)+1)≤900000:=by rw [Nat.succ_mul]at hS;omega
  have hrb:=bl_rb (Zs ws) (Zs ys)
  refine Zj<|Za<|Zl<|Zc<|Oo [80,85] [10]<|Zy (n:=4) [(0,0),(1,0),(2,0),(3,0),(4,0),(5,0),(6,0)]<|r0' J J (stf (Zz (i:=85) J J J Lg Qe J J) K2)<|r0' J J (stf (Ym J J) K2)<|r0' J J (stf (Ym J J) K2)<|r0' J J (stf (Yb J J (i:=80) J Zx Nc) K2)<|r0' J J (stf (Qa J J J ⟨by omega,by omega⟩) K2)<|r0' J J (stf (Yw (ii:=80) (i:=(ws.length-1)) J J J J Zx Nc Qe) K2)<|r0' J J (stf (Xm (ii:=80) I0 J J J Zx pI) K2)<|Yo<|Pu (n:=3) 7 8 ?_ ?_
  ·refine Yp J (Zw (i:=95) J J zeroValue48 J J hw K2) fun b_2 ho=>Zy (n:=0) [(8,1),(9,1),(10,3)]<|r1' J (Zw (i:=96) J J zeroValue48 J J hw K2) fun b_3 ho2=>r1' J (Zm (i:=95) J J J J J (by decide) J Qe J J ⟨Zd J,Zt (i:=91) J Zi,trivial⟩ J hw ho) fun _ _=>r3' J (Zm (i:=96) J J J J J (by decide) J Qe J J ⟨Zd J,Zd J,trivial⟩ J hw trivial) fun _ _=>Yo<|Yg<|Za<|Dj [(0,_),(1,_),(5,_),(6,_),(7,_)] [(0,_),(80,_),(1,_),(2,_),(85,_),(91,_)] (fun(q:Value×Value)=>[]) (fun(q:Value×Value)=>[(95,box b_2 48 #[.bool (decide ((Ai (Zs ys))<0)),q.1]),(96,box b_3 48 #[.bool (decide ((rb (Zs ws) (Zs ys))<0)),q.2]),(93,d9p q.1 (Ai (Zs ys)).natAbs),(94,d9p q.2 (rb (Zs ws) (Zs ys)).natAbs)]) (fun(q:Value×Value)=>True) K5 K6 ?_ ?_
   ·refine Zc<|Yl (Zf2 80 92 (ws.getD (ws.length-1) I0) J J (Yv) J)<|Zg<|dt (Zz (i:=95) J J J Lg Qe J J)<|tt (Zh (n:=2) (Cc _ _ (by rw [hcy];have:=Od (Zs ys) (ys.length-1);omega)) J J J K1 call72 (Zb 91 J J J Ze) J hw) fun _ _=>dt (Xu J J J)<|Zf<|Za<|Zq J (fun h47=>?_) (fun h47=>?_)
    ·refine Oo [96] [5]<|Zy (n:=0) [(2,0),(0,1),(1,1),(3,1),(4,1),(5,3)]<|r0' J J (stf (Zz (i:=96) J J J Lg Qe J J) K1)<|r1' J (Px (Zz (i:=95) J J J Lg Qe J J) J) fun _ _=>r1' J (Zh (n:=3) (Zrr _ _ (by rw [hcy];have:=Od (Zs ys) (ys.length-1);omega)) J J J K1 call73 (Zb 91 J J J Ze) J hw) fun v _=>r1' J (Zh (n:=4) (Zrr _ _ (by rw [hcw];have:=Od (Zs ws) (ws.length-1);omega)) J J J K1 call73 (Zb 92 J J J Ze) J hw) fun v_2 _=>r1' J (Zd4 95 J J K1 (fun ob=>(Zm (i:=95) J J J J J (by decide) J Qe J J ⟨Zd J,Zt (i:=3) J Zi,trivial⟩ J hw ob))) fun _ _=>r3' J (Zm (i:=96) J J J J J (by decide) J Qe J J ⟨Zd J,Zt (i:=4) J Zi,trivial⟩ J hw trivial) fun _ _=>Yo<|Yg ?_
     have hra:=rabs_n hli2 hcy ‹_›
     have hrb:=rb_n (x:=Zs ws) (y:=Zs ys) hli2 hlw hcy hcw ‹_›
     exact Qv (Oc 3 93 J J J)<|Qv (Oc 4 94 J J J)<|Qy (_,_) trivial K5 ⟨by rw [hra];rfl,by rw [hrb];rfl,by rw [hra];rfl,by rw [hrb];rfl,rfl,rfl,rfl,rfl,rfl,rfl,trivial⟩
    ·refine Zj ?_
     have hra:=rabs_p hli2 hcy ‹_›
     have hrb:=rb_p (x:=Zs ws) (y:=Zs ys) hli2 hlw hcy hcw ‹_›
     exact Qv (Oc 91 93 J J J)<|Qv (Oc 92 94 J J J)<|Qy (_,_) trivial K5 ⟨by rw [hra];rfl,by rw [hrb];rfl,by rw [hra];rfl,by rw [hrb];rfl,rfl,rfl,rfl,rfl,rfl,rfl,trivial⟩
   ·rintro⟨va,vb⟩ -
    simp only [CA,NA]
    refine Zc<|Zg<|mv J<|dt (Yb J J (i:=80) J Zx Nc)<|mv J<|dt (Yb J J (i:=2) J Zx Nc)<|dt (Qa J J J ⟨by omega,by omega⟩)<|tt (Hr (i:=70) (n:=(ws.length-ys.length)) (by_:=32) (enc:=Es) I0 J J J J Nc ti48 J pI.cells pI.pos J J J hw) fun v_3 _=>as_ J<|Zf<|Za<|Zc<|Zc<|Zg<|as_ J<|Zf<|Za<|Zl<|Yl (Fy 71 (ws.length-ys.length))<|Nt [(0,_),(1,_),(5,_),(6,_),(7,_)] [(0,_),(95,_),(96,_),(93,_),(94,_),(80,_),(1,_),(2,_),(85,_),(91,_)] (fun(q:Nat×Value×List (Int×SL))=>[(9,.int .i64 (q.1:Int)),(8,q.2.1)]) (fun(q:Nat×Value×List (Int×SL))=>[(70,osl 2 48 Es q.2.1 q.2.2),(71,Zb7 qI q.2.2)]) (fun(q:Nat×Value×List (Int×SL))=>(q.1≤ys.length)∧(Zs q.2.2=shm (Zs ys) (rb (Zs ws) (Zs ys)) ((Zs ws).length-(Zs ys).length) q.1)∧(q.2.2.length=((Zs ws).length-(Zs ys).length)+q.1)) (fun(q:Nat×Value×List (Int×SL))=>ys.length-q.1) (0,_,List.replicate (ws.length-ys.length) I0) ⟨by first | omega | (dsimp only<;>omega),by rw [←Zc6,hlw,hli2];simp [Zs],by simp<;>omega⟩ K7 K12 ?_
    rintro⟨i,vo,ms⟩ ⟨hi,hms,hml⟩
    dsimp only at hi hms hml
    simp only [CA,NA]
    have hci:=Na ys i
    refine Zc<|Zc<|Zg<|mv J<|mv J<|dt (Yb J J (i:=2) J Zx Nc)<|dt (Xu J J J)<|Zf<|Za<|Zq J (fun h51=>?_) (fun h51=>?_)
    ·refine Zj<|Za<|Zc<|Zl<|Oo [2,96] [9]<|Zy (n:=3) [(0,0),(1,0),(2,0),(3,0),(4,0),(5,0),(6,1)]<|r0' J J (stf (Ym J J) K2)<|r0' J J (stf (Ym J J) K2)<|r0' J J (stf (Ym J J) K2)<|r0' J J (stf (Yw (ii:=2) J J J J Zx Nc Qe J (by first | omega | (simp only [List.length_set];omega))) K2)<|r0' J J (stf (Xm (ii:=2) I0 J J J Zx pI (by first | omega | (simp only [List.length_set];omega))) K2)<|r0' J J (stf (Zz (i:=96) J J J Lg Qe J J) K2)<|r1' J (Zh (n:=86) (Bo _ _ _ _ (by rw [hci];have:=Od (Zs ys) i;omega)) J J J K2 Zkt (Oh 2 J J (Yv (i:=i)) (Zb 94 J J J Ze)) J hw) fun v_4 _=>Yo<|Zks (On 86 J Zi) (fun sl hsl=>?_)
     subst hsl
     exact Zy (n:=0) [(7,1),(8,1),(9,3)]<|r1' J (Pn (i:=87) (ivs:=[(0,_)]) (enc:=Es) [((ys.getD i I0).1*(rb (Zs ws) (Zs ys)),sl)] J J K2 Nc ti48 J J J J J pI.cells J J hw) fun v_5 _=>r1' J (Du 70 J J J K2 (fun hoffr=>(Gg (xs:=ms) (ys:=[_]) (i:=70) (j:=87) (by_:=32) J J J J J J (by decide) J (Yq pI) Nc ti48 J pI J J J (by simp;omega) (by decide) J hw hoffr))) fun v_6 _=>r3' J (Px (Lq J J) J) fun _ _=>Yo<|Yg<|Oa<|Za<|Zg<|mv J<|dt (Ys J J J ⟨by omega,by omega⟩)<|as_ J<|Zf<|Qv (Pj (q:=qI) (z:=((ys.getD i I0).1*(rb (Zs ws) (Zs ys)),sl)) 71 86 71 J J J J J)<|Xk (i+1,_,ms ++ [((ys.getD i I0).1*(rb (Zs ws) (Zs ys)),sl)]) ⟨by first | omega | (dsimp only<;>omega),by rw [Kh,hms,←Zc7];dsimp only;rw [hci,Int.mul_comm],by simp;omega⟩ (by first | omega | (dsimp only<;>omega)) K7 K12
    ·refine Yu<|Zu<|Zu<|Ox<|Za<|Yl (Qz 70 J J pI)<|Yl (Ma 70 71 72 J J J J)<|Zg<|mv J<|dt (Zz (i:=95) J J J Lg Qe J J)<|tt (Zh (n:=5) (Zao _ _ _ _ ((Od _).mono (by omega)) (by omega)) J J J K2 call56 (Zb 80 J J J (Zb 93 J J J Ze)) J hw) (fun g hg=>?_)
     have hlsc:=congrArg List.length hg
     rw [Zr]at hlsc
     have hlsd:=Kt (Zs ws) (Ai (Zs ys))
     refine mv J<|tt (Zh (n:=6) (Zje _ _ _ _ (by rw [hg];exact(Cx (Od _) hra).mono (by omega)) (by rw [hms];exact sz_shm'.mono (by omega))) J J J K2 call88 (Zb 5 J J J (Zb 72 J J J Ze)) J hw) fun g_2 hg_2=>as_ J<|Zf<|Oa<|Qv (Oc 6 80 J J J) ?_
     have hR:Zs g_2.2=Fh (Zs ws) (Zs ys):=by rw [hg_2,hg,hms,show i=(Zs ys).length by omega];rfl
     exact Xk (_,g_2.2,f1) ⟨by dsimp only;rw [hR,←hE1];exact hE,by dsimp only;rw [hR];exact hL1,by dsimp only;rw [hR];exact hT1,by dsimp only;rw [hR];exact hS1,by dsimp only;rw [←Zr,hR];omega⟩ (Nat.lt_succ_self f1) K3 K6
  ·refine Yp J (Zw (i:=96) J J zeroValue48 J J hw K2) fun b_4 ho3=>Zy (n:=0) [(7,1),(9,1),(10,3)]<|r1' J (Zw (i:=95) J J zeroValue48 J J hw K2) fun b_5 ho4=>r1' J (Zm (i:=95) J J J J J (by decide) J Qe J J ⟨Zd J,Zt (i:=91) J Zi,trivial⟩ J hw ho4) fun _ _=>r3' J (Zm (i:=96) J J J J J (by decide) J Qe J J ⟨Zd J,Zd J,trivial⟩ J hw trivial) fun _ _=>Yo<|Yg<|Za<|Dj [(0,_),(1,_),(5,_),(6,_),(7,_)] [(0,_),(80,_),(1,_),(2,_),(85,_),(91,_)] (fun(q:Value×Value)=>[]) (fun(q:Value×Value)=>[(95,box b_5 48 #[.bool (decide ((Ai (Zs ys))<0)),q.1]),(96,box b_4 48 #[.bool (decide ((rb (Zs ws) (Zs ys))<0)),q.2]),(93,d9p q.1 (Ai (Zs ys)).natAbs),(94,d9p q.2 (rb (Zs ws) (Zs ys)).natAbs)]) (fun(q:Value×Value)=>True) K5 K6 ?_ ?_
   ·refine Zc<|Yl (Zf2 80 92 (ws.getD (ws.length-1) I0) J J (Yv) J)<|Zg<|dt (Zz (i:=95) J J J Lg Qe J J)<|tt (Zh (n:=6) (Cc _ _ (by rw [hcy];have:=Od (Zs ys) (ys.length-1);omega)) J J J K1 call72 (Zb 91 J J J Ze) J hw) fun _ _=>dt (Xu J J J)<|Zf<|Za<|Zq J (fun h47_2=>?_) (fun h47_2=>?_)
    ·refine Oo [96] [5]<|Zy (n:=0) [(2,0),(0,1),(1,1),(3,1),(4,1),(5,3)]<|r0' J J (stf (Zz (i:=96) J J J Lg Qe J J) K1)<|r1' J (Px (Zz (i:=95) J J J Lg Qe J J) J) fun _ _=>r1' J (Zh (n:=7) (Zrr _ _ (by rw [hcy];have:=Od (Zs ys) (ys.length-1);omega)) J J J K1 call73 (Zb 91 J J J Ze) J hw) fun v_7 _=>r1' J (Zh (n:=8) (Zrr _ _ (by rw [hcw];have:=Od (Zs ws) (ws.length-1);omega)) J J J K1 call73 (Zb 92 J J J Ze) J hw) fun v_8 _=>r1' J (Zd4 95 J J K1 (fun ob=>(Zm (i:=95) J J J J J (by decide) J Qe J J ⟨Zd J,Zt (i:=7) J Zi,trivial⟩ J hw ob))) fun _ _=>r3' J (Zm (i:=96) J J J J J (by decide) J Qe J J ⟨Zd J,Zt (i:=8) J Zi,trivial⟩ J hw trivial) fun _ _=>Yo<|Yg ?_
     have hra:=rabs_n hli2 hcy ‹_›
     have hrb:=rb_n (x:=Zs ws) (y:=Zs ys) hli2 hlw hcy hcw ‹_›
     exact Qv (Oc 7 93 J J J)<|Qv (Oc 8 94 J J J)<|Qy (_,_) trivial K5 ⟨by rw [hra];rfl,by rw [hrb];rfl,by rw [hra];rfl,by rw [hrb];rfl,rfl,rfl,rfl,rfl,rfl,rfl,trivial⟩
    ·refine Zj ?_
     have hra:=rabs_p hli2 hcy ‹_›
     have hrb:=rb_p (x:=Zs ws) (y:=Zs ys) hli2 hlw hcy hcw ‹_›
     exact Qv (Oc 91 93 J J J)<|Qv (Oc 92 94 J J J)<|Qy (_,_) trivial K5 ⟨by rw [hra];rfl,by rw [hrb];rfl,by rw [hra];rfl,by rw [hrb];rfl,rfl,rfl,rfl,rfl,rfl,rfl,trivial⟩
   ·rintro⟨va,vb⟩ -
    simp only [CA,NA]
    refine Zc<|Zg<|mv J<|dt (Yb J J (i:=80) J Zx Nc)<|mv J<|dt (Yb J J (i:=2) J Zx Nc)<|dt (Qa J J J ⟨by omega,by omega⟩)<|tt (Hr (i:=70) (n:=(ws.length-ys.length)) (by_:=32) (enc:=Es) I0 J J J J Nc ti48 J pI.cells pI.pos J J J hw) fun v_9 _=>as_ J<|Zf<|Za<|Zc<|Zc<|Zg<|as_ J<|Zf<|Za<|Zl<|Yl (Fy 71 (ws.length-ys.length))<|Nt [(0,_),(1,_),(5,_),(6,_),(7,_)] [(0,_),(95,_),(96,_),(93,_),(94,_),(80,_),(1,_),(2,_),(85,_),(91,_)] (fun(q:Nat×Value×List (Int×SL))=>[(9,.int .i64 (q.1:Int)),(8,q.2.1)]) (fun(q:Nat×Value×List (Int×SL))=>[(70,osl 2 48 Es q.2.1 q.2.2),(71,Zb7 qI q.2.2)]) (fun(q:Nat×Value×List (Int×SL))=>(q.1≤ys.length)∧(Zs q.2.2=shm (Zs ys) (rb (Zs ws) (Zs ys)) ((Zs ws).length-(Zs ys).length) q.1)∧(q.2.2.length=((Zs ws).length-(Zs ys).length)+q.1)) (fun(q:Nat×Value×List (Int×SL))=>ys.length-q.1) (0,_,List.replicate (ws.length-ys.length) I0) ⟨by first | omega | (dsimp only<;>omega),by rw [←Zc6,hlw,hli2];simp [Zs],by simp<;>omega⟩ K7 K12 ?_
    rintro⟨i,vo,ms⟩ ⟨hi,hms,hml⟩
    dsimp only at hi hms hml
    simp only [CA,NA]
    have hci:=Na ys i
    refine Zc<|Zc<|Zg<|mv J<|mv J<|dt (Yb J J (i:=2) J Zx Nc)<|dt (Xu J J J)<|Zf<|Za<|Zq J (fun h51_2=>?_) (fun h51_2=>?_)
    ·refine Zj<|Za<|Zc<|Zl<|Oo [2,96] [9]<|Zy (n:=3) [(0,0),(1,0),(2,0),(3,0),(4,0),(5,0),(6,1)]<|r0' J J (stf (Ym J J) K2)<|r0' J J (stf (Ym J J) K2)<|r0' J J (stf (Ym J J) K2)<|r0' J J (stf (Yw (ii:=2) J J J J Zx Nc Qe J (by first | omega | (simp only [List.length_set];omega))) K2)<|r0' J J (stf (Xm (ii:=2) I0 J J J Zx pI (by first | omega | (simp only [List.length_set];omega))) K2)<|r0' J J (stf (Zz (i:=96) J J J Lg Qe J J) K2)<|r1' J (Zh (n:=86) (Bo _ _ _ _ (by rw [hci];have:=Od (Zs ys) i;omega)) J J J K2 Zkt (Oh 2 J J (Yv (i:=i)) (Zb 94 J J J Ze)) J hw) fun v_10 _=>Yo<|Zks (On 86 J Zi) (fun sl_2 hsl_2=>?_)
     subst hsl_2
     exact Zy (n:=0) [(7,1),(8,1),(9,3)]<|r1' J (Pn (i:=87) (ivs:=[(0,_)]) (enc:=Es) [((ys.getD i I0).1*(rb (Zs ws) (Zs ys)),sl_2)] J J K2 Nc ti48 J J J J J pI.cells J J hw) fun v_11 _=>r1' J (Du 70 J J J K2 (fun hoffr=>(Gg (xs:=ms) (ys:=[_]) (i:=70) (j:=87) (by_:=32) J J J J J J (by decide) J (Yq pI) Nc ti48 J pI J J J (by simp;omega) (by decide) J hw hoffr))) fun v_12 _=>r3' J (Px (Lq J J) J) fun _ _=>Yo<|Yg<|Oa<|Za<|Zg<|mv J<|dt (Ys J J J ⟨by omega,by omega⟩)<|as_ J<|Zf<|Qv (Pj (q:=qI) (z:=((ys.getD i I0).1*(rb (Zs ws) (Zs ys)),sl_2)) 71 86 71 J J J J J)<|Xk (i+1,_,ms ++ [((ys.getD i I0).1*(rb (Zs ws) (Zs ys)),sl_2)]) ⟨by first | omega | (dsimp only<;>omega),by rw [Kh,hms,←Zc7];dsimp only;rw [hci,Int.mul_comm],by simp;omega⟩ (by first | omega | (dsimp only<;>omega)) K7 K12
    ·refine Yu<|Zu<|Zu<|Ox<|Za<|Yl (Qz 70 J J pI)<|Yl (Ma 70 71 72 J J J J)<|Zg<|mv J<|dt (Zz (i:=95) J J J Lg Qe J J)<|tt (Zh (n:=9) (Zao _ _ _ _ ((Od _).mono (by omega)) (by omega)) J J J K2 call56 (Zb 80 J J J (Zb 93 J J J Ze)) J hw) (fun g_3 hg_3=>?_)
     have hlsc:=congrArg List.length hg_3
     rw [Zr]at hlsc
     have hlsd:=Kt (Zs ws) (Ai (Zs ys))
     refine mv J<|tt (Zh (n:=10) (Zje _ _ _ _ (by rw [hg_3];exact(Cx (Od _) hra).mono (by omega)) (by rw [hms];exact sz_shm'.mono (by omega))) J J J K2 call88 (Zb 9 J J J (Zb 72 J J J Ze)) J hw) fun g_4 hg_4=>as_ J<|Zf<|Oa<|Qv (Oc 10 80 J J J) ?_
     have hR:Zs g_4.2=Fh (Zs ws) (Zs ys):=by rw [hg_4,hg_3,hms,show i=(Zs ys).length by omega];rfl
     exact Xk (_,g_4.2,f1) ⟨by dsimp only;rw [hR,←hE1];exact hE,by dsimp only;rw [hR];exact hL1,by dsimp only;rw [hR];exact hT1,by dsimp only;rw [hR];exact hS1,by dsimp only;rw [←Zr,hR];omega⟩ (Nat.lt_succ_self f1) K3 K6
 ·have hE2:=Zwc (f:=f) (x:=Zs ws) (y:=Zs ys) (by omega)
  exact Yu<|Zu<|Zu<|Ox<|Za<|Zc<|Zg<|mv J<|as_ J<|Zf<|Za<|Zv<|Yn (.inl J) hsc (_,ws) _ (fun a w hs=>Nn hs results187 J) J (by rw [←hE,hE2]) J (Xa 80 J J J Zk)
theorem Zrv(v:Value)(zs:List (Int×SL))(hv:Vp (Zs zs))(h0:zs.length≠0):Cal prog 113 #[v] [pp v zs] true (G:=Value×List (Int×SL)) (fun r=>Zs r.2=nrm (Zs zs)) (fun r=>r.1) (fun r=>[pp r.1 r.2]):=by
 refine Ya func113 J ntmps113 J K1 ?_
 intro w0 sc hw hsc
 simp only [Zp,Zn]
 have hli:=Zr zs
 have hlen:=hv.len
 refine Zc<|Zg<|as_ J<|Zf<|Za<|Zc<|Zg<|mv J<|tt (Zh (n:=2) (Ks _ _ (hv.sz.mono (by omega)) (fun h=>hv.ne (fun e=>by have h7:=congrArg List.length e;simp only [List.length_nil]at h7;omega))) J J J K1 call57 (Zb 1 J J J Ze) J hw) fun g hg=>as_ J<|Zf<|Za<|Zc<|Zc ?_
 have hpl:=congrArg List.length hg
 rw [Zr,Yi,hli]at hpl
 have hlc:=Na g.2 (g.2.length-1)
 have hlc2:(g.2.getD (g.2.length-1) I0).1=cf (Yx (Zs zs)) ((Yx (Zs zs)).length-1):=by rw [hlc,hg,Yi,hli,hpl]
 have hpb:=(Lo hv).sz
 refine Zg<|mv J<|mv J<|dt (Yb J J (i:=2) J Zx Nc)<|dt (Qa J J J ⟨by omega,by omega⟩)<|dt (Yw (ii:=2) (i:=(g.2.length-1)) J J J J Zx Nc Qe)<|dt (Xm (ii:=2) I0 J J J Zx pI)<|tt (Zh (n:=2) (Cc _ _ (by rw [hlc2];have:=hpb ((Yx (Zs zs)).length-1);omega)) J J J K1 call72 (Oh 2 J J (Yv (zs:=g.2) (i:=g.2.length-1) (d:=I0)) Ze) J hw) fun _ _=>dt (Xu J J J)<|Zf<|Za<|Zq J (fun h29=>?_) (fun h29=>?_)
 ·have hnn:=Zh3 (xs:=Zs zs) (by rw [Yi];omega) (by rw [←hlc2];exact Zby.1 h29)
  exact Zc<|Zg<|mv J<|tt (Zh (n:=3) (Zne _ _ (by rw [hg];exact hpb.mono (by omega))) J J J K1 call138 (Zb 2 J J J Ze) J hw) fun g_2 hg_2=>as_ J<|Zf<|Za<|Zv<|Xc<|Yn (.inl J) hsc _ _ (fun a w hs=>Nn hs results113 J) J (by rw [hg_2,hg,hnn]) J (Xa 3 J J J Zk)
 ·have hnn:=Zh2 (xs:=Zs zs) (fun h=>h29 (Zby.2 (by rw [hlc2];exact h)))
  exact Zj<|Za<|Zc<|Zg<|mv J<|as_ J<|Zf<|Za<|Zv<|Yn (.inl J) hsc (_,g.2) _ (fun a w hs=>Nn hs results113 J) J (by rw [hg,hnn]) J (Xa 2 J J J Zk)
theorem Zru(v:Value)(zs:List (Int×SL))(hv:Vp (Zs zs))(h0:zs.length≠0)(hs:Sz 260 (Zs zs))(hl:zs.length≤8:=by omega):Cal prog 54 #[v] [pp v zs] true (G:=Value×List (Int×SL)) (fun r=>Zs r.2=sqf 13 (Zs zs)) (fun r=>r.1) (fun r=>[pp r.1 r.2]):=by
 refine Ya func54 J ntmps54 J K1 ?_
 intro w0 sc hw hsc
 simp only [Zp,Zn]
 have hli:=Zr zs
 have hne:Zs zs≠[]:=fun e=>h0 (by rw [←hli,e];rfl)
 obtain⟨k1,k2,k3,k4,k5,k6,k7,k8,k9,k10,k11,k12,k13,k14⟩:=Zi9 hv hne hs (by omega)
 have k6l:=List.length_pos_iff.2 k6
 have k12l:=List.length_pos_iff.2 k12
 have k2l:=k2.len
 have k11l:=k11.len
 refine Zc<|Zg<|as_ J<|Zf<|Za<|Zc<|Zg<|mv J<|tt (Zh (n:=2) (Zrv _ _ hv h0) J J J K1 call113 (Zb 1 J J J Ze) J hw) fun g hg=>as_ J<|Zf<|Za<|Zc ?_
 have hl_qs:=congrArg List.length hg
 rw [Zr]at hl_qs
 refine Zg<|mv J<|mv J<|mv J<|tt (Zh (n:=3) (Zek _ _ (by rw [hg];exact k1.sz.mono (by omega))) J J J K1 call115 (Zb 2 J J J Ze) J hw) (fun g_2 hg_2=>?_)
 have hl_qd:=congrArg List.length hg_2
 rw [Zr]at hl_qd
 refine tt (Zh (n:=4) (rp_gcd _ _ _ _ 13 (by rw [hg];exact k1) (by rw [hg_2,hg];exact k2) (by rw [hg_2,hg];exact k3)) J J J K2 call114 (Zb 2 J J J (Zb 3 J J J Ze)) J hw) (fun g_3 hg_3=>?_)
 have hgg:Zs g_3.2=Ku 13 (nrm (Zs zs)) (Pf (nrm (Zs zs))):=by rw [hg_3,hg_2,hg,k4]
 have hl_g:=congrArg List.length hgg
 rw [Zr]at hl_g
 refine tt (Zh (n:=5) (Zap _ _ _ _ (by rw [hg];exact k1.tr) (by rw [hgg];exact k5.tr) (fun _=>by rw [hg,hgg];have:=Nat.mul_le_mul (show g.2.length-g_3.2.length+1≤9 by omega) (show msz (Ku 13 (nrm (Zs zs)) (Pf (nrm (Zs zs))))+1≤391 by omega);omega)) J J J K2 call55 (Zb 2 J J J (Zb 4 J J J Ze)) J hw) fun g_4 hg_4=>mv J<|dt (Yf J J J)<|dt (Yf J J J)<|as_ J<|as_ J<|Zf<|Za<|Zc ?_
 have hqe:=hg_4 (by rw [hg,hgg];exact k7)
 rw [hg,hgg]at hqe
 have hl_q:=congrArg List.length hqe
 rw [Zr]at hl_q
 exact Zg<|mv J<|tt (Zh (n:=6) (Zrv _ _ (by rw [hqe];exact k11) (by rw [hl_q];exact Nat.ne_of_gt k12l)) J J J K1 call113 (Zb 5 J J J Ze) J hw) fun g_5 hg_5=>as_ J<|Zf<|Za<|Zv<|Yn (.inl J) hsc _ _ (fun a w hs=>Nn hs results54 J) J (by rw [hg_5,hqe];exact k13) J (Xa 6 J J J Zk)
theorem pT{α:Type} : Enc Tryz.prog 34 1 (Bh (α:=α)):=Enc.flat Tryz.sizeOf34 Tryz.isAgg34 (fun _=>rfl)
theorem Bv(v:Value)(zs:List (Int×SL))(hs:Sz 1000000 (Zs zs))(hc:zs.length≠0→Qc (Zs zs)≠0)(hl:zs.length≤1000:=by omega):Cal Tryz.prog 57 #[v] [pp v zs] true (G:=SL×List (Int×SL)) (fun r=>Zs r.2=Yx (Zs zs)) (fun r=>svv r.1) (fun r=>[pp (svv r.1) r.2]):=
  (Ks v zs hs hc hl).toS
theorem Zwj(v:Value)(zs:List (Int×SL))(hv:Vp (Zs zs))(h0:zs.length≠0)(hs:Sz 260 (Zs zs))(hl:zs.length≤8):Cal Tryz.prog 54 #[v] [pp v zs] true (G:=SL×List (Int×SL)) (fun r=>Zs r.2=sqf 13 (Zs zs)) (fun r=>svv r.1) (fun r=>[pp (svv r.1) r.2]):=
  (Zru v zs hv h0 hs hl).toS
set_option maxHeartbeats 4000000 in
theorem Zwm(v:Value)(zs:List (Int×SL))(hv:Vp (Zs zs))(h0:zs.length≠0)(hs:Sz 260 (Zs zs))(hl:zs.length≤8):Cal prog 166 #[v] [pp v zs] true (G:=Value×List (SL×List (Int×SL))) (fun r=>Bq r.2=chn 13 (Zs zs)) (fun r=>r.1) (fun r=>[Au 1 Bh qT r.1 r.2]):=by
 refine Ya func166 J ntmps166 J K1 ?_
 intro w0 sc hw hsc
 simp only [Zp,Zn]
 have hli:=Zr zs
 have hne:Zs zs≠[]:=fun e=>h0 (by rw [←hli,e];rfl)
 obtain⟨hC,hq,hql⟩:=ch13r hv.tr hne hs (by omega)
 obtain⟨hC1,hC2,hC3⟩:=hC
 have hvq:=Zi0 hv hne hC1
 have hq0:sqf 13 (Zs zs)≠[]:=(Zi9 hv hne hs (by omega)).2.2.2.2.2.2.2.2.2.2.2.1
 have hqd:=He hq (by omega)
 have hqdl:=Oj (sqf 13 (Zs zs))
 have hqdt:=Nv hvq.tr
 have hvqd:Vp (Pf (sqf 13 (Zs zs))):=⟨hqd.mono (by omega),hqdt,by omega⟩
 refine Zc<|Zg<|as_ J<|Zf<|Za<|Zc<|Zg<|mv J<|tt (Zh (n:=2) (Zwj _ _ hv h0 hs hl) J J J K1 call54 (Zb 1 J J J Ze) J hw) fun g hg=>as_ J<|Zf<|Za<|Zc<|Zg<|mv J<|tt (Pn (i:=70) (ivs:=[(0,_)]) (enc:=Bh) [g] J J K2 underlying186 ti34 J J J J J pT.cells J J hw) fun v _=>as_ J<|Zf<|Za<|Zc ?_
 have hxe:Zs g.2=sqf 13 (Zs zs):=hg
 have hxl:=congrArg List.length hxe
 rw [Zr]at hxl
 refine Yl (Nz qT 71)<|Yl (Pj (q:=qT) (z:=g) 71 2 71 J J J J J)<|Yl (Oc 2 92 J J J)<|Zg<|mv J<|tt (Zh (n:=3) (Zek _ _ (by rw [hxe];exact hvq.sz.mono (by omega))) J J J K1 call115 (Zb 2 J J J Ze) J hw) (fun g_2 hg_2=>?_)
 have hdl:=congrArg List.length hg_2
 rw [Zr,hxe,Oj]at hdl
 refine tt (Zh (n:=4) (Bv _ _ (by rw [hg_2,hxe];exact hqd.mono (by omega)) (fun h=>by rw [hg_2,hxe];exact hvqd.ne (fun e=>h (by have h7:=congrArg List.length hg_2;rw [Zr,hxe,e]at h7;exact h7)))) J J J K1 call57 (Zb 3 J J J Ze) J hw) (fun g_3 hg_3=>?_)
 have hye:Zs g_3.2=Yx (Pf (sqf 13 (Zs zs))):=by rw [show Zs g_3.2=Yx _ from hg_3,hg_2,hxe]
 refine as_ J<|Zf<|Za<|Zc<|Zl<|Yl (Oc 4 80 J J J) ?_
 refine Nt [] [(0,_),(1,_),(2,_),(3,_),(4,_)] (fun(q:List (SL×List (Int×SL))×(SL×List (Int×SL))×(SL×List (Int×SL))×Nat×Value)=>[(4,q.2.2.2.2),(3,svv q.2.1.1),(5,svv q.2.2.1.1)]) (fun(q:List (SL×List (Int×SL))×(SL×List (Int×SL))×(SL×List (Int×SL))×Nat×Value)=>[(70,osl 1 34 Bh q.2.2.2.2 (q.1 ++ [q.2.1])),(71,Zb7 qT (q.1 ++ [q.2.1])),(92,pp (svv q.2.1.1) q.2.1.2),(80,pp (svv q.2.2.1.1) q.2.2.1.2)]) (fun(q:List (SL×List (Int×SL))×(SL×List (Int×SL))×(SL×List (Int×SL))×Nat×Value)=>(Vp (Zs q.2.1.2))∧(Vp (Zs q.2.2.1.2))∧(cok q.2.2.2.1 (Zs q.2.1.2) (Zs q.2.2.1.2))∧(Bq q.1 ++ Mk q.2.2.2.1 (Zs q.2.1.2) (Zs q.2.2.1.2)=chn 13 (Zs zs))∧(q.2.1.2.length≤8)∧(q.2.2.1.2.length≤8)∧(q.1.length+q.2.2.1.2.length≤25)) (fun(q:List (SL×List (Int×SL))×(SL×List (Int×SL))×(SL×List (Int×SL))×Nat×Value)=>q.2.2.1.2.length) ([],g,g_3,13,_) ⟨by dsimp only;rw [hxe];exact hvq,by dsimp only;rw [hye];exact Lo hvqd,by dsimp only;rw [hxe,hye];exact hC3,by dsimp only;rw [hxe,hye];rfl,by dsimp only;omega,by dsimp only;rw [←Zr,hye,Yi];omega,by dsimp only;rw [←Zr,hye,Yi];simp;omega⟩ K3 K9 ?_
 rintro⟨ws,ex,ey,f,vo⟩ ⟨hvx,hvy,hck,hch,hx8,hy8,hwl⟩
 dsimp only at hvx hvy hck hch hx8 hy8 hwl
 simp only [CA,NA]
 have hlx:=Zr ex.2
 have hly:=Zr ey.2
 refine Zc<|Zc<|Zg<|mv J<|dt (Yb J J (i:=80) J Zx Nc)<|dt (Oq J J J)<|Zf<|Za<|Zq J (fun h64=>?_) (fun h64=>?_)
 ·have hy0:Zs ey.2≠[]:=fun e=>by have h7:=congrArg List.length e;rw [hly]at h7;simp only [List.length_nil]at h7;omega
  obtain⟨f0,rfl,hd,hle,hck2,hsc2⟩:=Zdo hck hy0
  refine Zj<|Za<|Zl<|Zc<|Zg<|mv J<|mv J<|tt (Pn (i:=5) (ivs:=[(0,_)]) (enc:=Bh) [ey] J J K2 underlying186 ti34 J J J J J pT.cells J J hw) fun v_2 _=>tt (Im (i:=70) (j:=5) (by_:=24) J J J J J J (by decide) J (Yq pT) underlying186 ti34 J pT J J J (by simp;omega) (by decide) J hw) fun v_3 _=>as_ J<|Zf<|Za<|Zg<|mv J<|mv J<|mv J<|tt (Zh (n:=6) (r3_rem _ _ _ _ 8 (by omega) (by omega) (by omega) hvx.tr hvy.tr (by omega) (by have:=Ps hvx.sz;have:=Ps hvy.sz;omega)) J J J K2 call187 (Zb 92 J J J (Zb 80 J J J Ze)) J hw) (fun g_4 hg_4=>?_)
  have hrl:(Bn 8 (Zs ex.2) (Zs ey.2)).length<(Zs ey.2).length:=(Ag hvy.tr hy0 8 (Zs ex.2) hvx.tr (by omega)).2.1
  have hrm:=Zn0 (Zs ey.2) 8 (Zs ex.2)
  have hrt:=(Ag hvy.tr hy0 8 (Zs ex.2) hvx.tr (by omega)).1
  have hrl2:=congrArg List.length hg_4
  rw [Zr]at hrl2
  refine tt (Zh (n:=7) (Zne _ _ (by rw [hg_4];exact(Od _).mono (by have:=Ps hvx.sz;have:=Ps hvy.sz;omega))) J J J K1 call138 (Zb 6 J J J Ze) J hw) (fun g_5 hg_5=>?_)
  have hnl:=congrArg List.length hg_5
  rw [Zr,hg_4]at hnl
  have hnl2:=Kt (Bn 8 (Zs ex.2) (Zs ey.2)) (-1)
  refine tt (Zh (n:=8) (Bv _ _ (by rw [hg_5,hg_4];exact(Cx (Od _) (m:=1) (by decide)).mono (by have:=Ps hvx.sz;have:=Ps hvy.sz;omega)) (fun h=>Dd (by rw [hg_5];exact Qw _ _) (fun e=>h (by rw [←Zr,e];rfl)))) J J J K1 call57 (Zb 7 J J J Ze) J hw) fun g_6 hg_6=>as_ J<|as_ J<|Zf<|Oa ?_
  have hsn:=Zai (f:=8) hvx.tr hvy.tr hy0 (by omega) (by omega)
  have hnx:Zs g_6.2=Lf (Zs ex.2) (Zs ey.2):=by rw [show Zs g_6.2=Yx _ from hg_6,hg_5,hg_4];exact hsn
  have hsl:=Fa (y:=Zs ey.2) hvx.tr
  have hpl:=Qx (Zs ex.2) hy0
  have hnxl:=congrArg List.length hnx
  rw [Zr]at hnxl
  exact Qv (Pj (q:=qT) (z:=ey) 71 80 71 J J J J J)<|Qv (Oc 80 92 J J J)<|Qv (Oc 8 80 J J J)<|Xk (ws ++ [ex],ey,g_6,f0,_) ⟨hvy,by dsimp only;rw [hnx];exact Zgv hvx hd,by dsimp only;rw [hnx];exact hck2,by dsimp only;rw [hnx,←hch,hsc2];simp [Bq],hy8,by dsimp only;omega,by dsimp only;simp;omega⟩ (by dsimp only;omega) K3 K9
 ·refine Yu<|Zu<|Zu<|Ox<|Za<|Zc ?_
  have hy0:Zs ey.2=[]:=List.eq_nil_of_length_eq_zero (by omega)
  exact Yl (Qz 70 J J pT)<|Yl (Ma 70 71 72 J J J J)<|Zg<|mv J<|as_ J<|Zf<|Za<|Zv<|Yn (.inl J) hsc (_,ws ++ [ex]) _ (fun a w hs=>Nn hs results166 J) J (by rw [←hch,hy0,Ge];simp [Bq]) J (Xa 72 J J J Zk)
theorem Zwk(v:Value)(l:List Int)(hl:∀i,-1≤l.getD i 0∧l.getD i 0≤1)(hlen:l.length≤1000):Ml prog 188 #[v] [slp 1 Ay v l] (.int .i64 (chg l)):=by
 refine Ya func188 J ntmps188 J K1 ?_
 intro w0 sc hw hsc
 simp only [Zp,Zn]
 refine Zc<|Zg<|as_ J<|Zf<|Za<|Zc<|Zg<|as_ J<|as_ J<|Zf<|Za<|Zc<|Zc<|Zg<|as_ J<|Zf<|Za<|Zl<|Nt [(0,_)] [(0,_),(1,_)] (fun(q:Nat×Int×Int)=>[(5,.int .i64 (q.1:Int)),(3,.int .i64 q.2.1),(4,.int .i64 q.2.2)]) (fun(q:Nat×Int×Int)=>[]) (fun(q:Nat×Int×Int)=>(q.1≤l.length)∧((q.2.1,q.2.2)=(l.take q.1).foldl Kx (0,0))∧(0≤q.2.1)∧(q.2.1≤(q.1:Int))∧(-1≤q.2.2)∧(q.2.2≤1)) (fun(q:Nat×Int×Int)=>l.length-q.1) (0,0,0) ⟨by first | omega | (dsimp only<;>omega),by simp,Int.le_refl _,Int.le_refl _,by decide,by decide⟩ K4 K2 ?_
 rintro⟨i,n,m⟩ ⟨hi,hc,hn0,hn1,hm0,hm1⟩
 dsimp only at hi hc hn0 hn1 hm0 hm1
 simp only [CA,NA]
 have hx:=hl i
 refine Zc<|Zc<|Zg<|mv J<|mv J<|dt (Yb J J (i:=1) J Zi Ny)<|dt (Xu J J J)<|Zf<|Za<|Zq J (fun h74=>?_) (fun h74=>?_)
 ·refine Zj<|Za<|Zc<|Zl<|Zc<|Zc<|Zg<|mv J<|mv J<|dt (Yw (ii:=1) J J J J Zi Ny zT3 J (by first | omega | (simp only [List.length_set];omega)))<|dt (Xm (ii:=1) 0 J J J Zi pZ (by first | omega | (simp only [List.length_set];omega)))<|mv J<|dt (Gq J J J (mul_r hx.1 hx.2 hm0 hm1))<|dt (Xu J J J)<|Zf<|Za<|Zq J (fun h75=>?_) (fun h75=>?_)
  ·refine Zg<|mv J<|dt (Ys J J J ⟨by omega,by omega⟩)<|as_ J<|Zf<|Za<|Zc<|Zg<|mv J<|mv J<|dt (Yw (ii:=1) J J J J Zi Ny zT3 J (by first | omega | (simp only [List.length_set];omega)))<|dt (Xm (ii:=1) 0 J J J Zi pZ (by first | omega | (simp only [List.length_set];omega)))<|dt (Qb J J J)<|Zf<|Za<|Zq J (fun h78=>?_) (fun h78=>?_)
   ·refine Zg<|mv J<|mv J<|dt (Yw (ii:=1) J J J J Zi Ny zT3 J (by first | omega | (simp only [List.length_set];omega)))<|dt (Xm (ii:=1) 0 J J J Zi pZ (by first | omega | (simp only [List.length_set];omega)))<|as_ J<|Zf<|Oa<|Za<|Zg<|mv J<|dt (Ys J J J ⟨by omega,by omega⟩)<|as_ J<|Zf ?_
    have hst:=Zag (l:=l) (i:=i) (by omega) hc
    exact Xk (i+1,_,_) ⟨by first | omega | (dsimp only<;>omega),by dsimp only;rw [hst];first | exact(Zwi hm0 hm1 hx.1 hx.2 ‹_› ‹_›).symm | exact(Zwh hm0 hm1 hx.1 hx.2 ‹_› ‹_›).symm | exact(Zwg hm0 hm1 hx.1 hx.2 ‹_› ‹_›).symm | exact(Zwf hm0 hm1 hx.1 hx.2 ‹_› ‹_›).symm,by dsimp only;omega,by dsimp only;omega,by first | exact hx.1 | exact hm0,by first | exact hx.2 | exact hm1⟩ (by first | omega | (dsimp only<;>omega)) K4 K2
   ·refine Zj<|Oa<|Za<|Zg<|mv J<|dt (Ys J J J ⟨by omega,by omega⟩)<|as_ J<|Zf ?_
    have hst:=Zag (l:=l) (i:=i) (by omega) hc
    exact Xk (i+1,_,_) ⟨by first | omega | (dsimp only<;>omega),by dsimp only;rw [hst];first | exact(Zwi hm0 hm1 hx.1 hx.2 ‹_› ‹_›).symm | exact(Zwh hm0 hm1 hx.1 hx.2 ‹_› ‹_›).symm | exact(Zwg hm0 hm1 hx.1 hx.2 ‹_› ‹_›).symm | exact(Zwf hm0 hm1 hx.1 hx.2 ‹_› ‹_›).symm,by dsimp only;omega,by dsimp only;omega,by first | exact hx.1 | exact hm0,by first | exact hx.2 | exact hm1⟩ (by first | omega | (dsimp only<;>omega)) K4 K2
  ·refine Zj<|Za<|Zc<|Zg<|mv J<|mv J<|dt (Yw (ii:=1) J J J J Zi Ny zT3 J (by first | omega | (simp only [List.length_set];omega)))<|dt (Xm (ii:=1) 0 J J J Zi pZ (by first | omega | (simp only [List.length_set];omega)))<|dt (Qb J J J)<|Zf<|Za<|Zq J (fun h78_2=>?_) (fun h78_2=>?_)
   ·refine Zg<|mv J<|mv J<|dt (Yw (ii:=1) J J J J Zi Ny zT3 J (by first | omega | (simp only [List.length_set];omega)))<|dt (Xm (ii:=1) 0 J J J Zi pZ (by first | omega | (simp only [List.length_set];omega)))<|as_ J<|Zf<|Oa<|Za<|Zg<|mv J<|dt (Ys J J J ⟨by omega,by omega⟩)<|as_ J<|Zf ?_
    have hst:=Zag (l:=l) (i:=i) (by omega) hc
    exact Xk (i+1,_,_) ⟨by first | omega | (dsimp only<;>omega),by dsimp only;rw [hst];first | exact(Zwi hm0 hm1 hx.1 hx.2 ‹_› ‹_›).symm | exact(Zwh hm0 hm1 hx.1 hx.2 ‹_› ‹_›).symm | exact(Zwg hm0 hm1 hx.1 hx.2 ‹_› ‹_›).symm | exact(Zwf hm0 hm1 hx.1 hx.2 ‹_› ‹_›).symm,by dsimp only;omega,by dsimp only;omega,by first | exact hx.1 | exact hm0,by first | exact hx.2 | exact hm1⟩ (by first | omega | (dsimp only<;>omega)) K4 K2
   ·refine Zj<|Oa<|Za<|Zg<|mv J<|dt (Ys J J J ⟨by omega,by omega⟩)<|as_ J<|Zf ?_
    have hst:=Zag (l:=l) (i:=i) (by omega) hc
    exact Xk (i+1,_,_) ⟨by first | omega | (dsimp only<;>omega),by dsimp only;rw [hst];first | exact(Zwi hm0 hm1 hx.1 hx.2 ‹_› ‹_›).symm | exact(Zwh hm0 hm1 hx.1 hx.2 ‹_› ‹_›).symm | exact(Zwg hm0 hm1 hx.1 hx.2 ‹_› ‹_›).symm | exact(Zwf hm0 hm1 hx.1 hx.2 ‹_› ‹_›).symm,by dsimp only;omega,by dsimp only;omega,by first | exact hx.1 | exact hm0,by first | exact hx.2 | exact hm1⟩ (by first | omega | (dsimp only<;>omega)) K4 K2
 ·exact Yu<|Zu<|Zu<|Ox<|Za<|Zc<|Zg<|mv J<|as_ J<|Zf<|Za<|Zv<|xU hsc results188 J J (by unfold chg;rw [show l=l.take i by rw [List.take_of_length_le (by omega)],←hc]<;>rfl)
theorem r3_at(v w u:Value)(ls:List (SL×List (Int×SL)))(x y:Int)(hz:∀z∈ls,Vp (Zs z.2))(hx:bl x.natAbs≤1000000)(hy:bl y.natAbs≤1000000)(hlen:ls.length≤30:=by omega):Ml prog 167 #[v,.agg #[.bool (decide (x<0)),w,.bool (decide (y<0)),u]] [Au 1 Bh qT v ls,d9p w x.natAbs,d9p u y.natAbs] (.int .i64 (chg ((Bq ls).map (fat x y)))):=by
 refine Ya func167 J ntmps167 J K3 ?_
 intro w0 sc hw hsc
 simp only [Zp,Zn]
 have hLl:((Bq ls).map (fat x y)).length=ls.length:=by simp
 have hLg:=fun i (h:i<ls.length)=>Zs7 (z:=ls) rfl (fat x y) h
 refine Zc<|Zg<|tt (Xe (i:=4) J J J J J hw) fun b _=>as_ J<|Zf<|Za<|Zc<|Zg<|as_ J<|Zf<|Za<|Zc<|Zc<|Zg<|as_ J<|Zf<|Za<|Zl<|Yl (Nj 70 1 3 Ay)<|Nt [(0,_),(3,_)] [(0,_),(1,_),(2,_),(3,_),(4,_)] (fun(q:Nat×Value)=>[(6,.int .i64 (q.1:Int)),(5,q.2)]) (fun(q:Nat×Value)=>[(70,osl 1 3 Ay q.2 (((Bq ls).map (fat x y)).take q.1))]) (fun(q:Nat×Value)=>q.1≤ls.length) (fun(q:Nat×Value)=>ls.length-q.1) (0,.slice none 0 0) (by first | omega | (dsimp only<;>omega)) K4 K6 ?_
 rintro⟨i,vo⟩ hi
 dsimp only at hi
 simp only [CA,NA]
 have htl:(((Bq ls).map (fat x y)).take i).length=i:=by rw [List.length_take];omega
 refine Zc<|Zc<|Zg<|mv J<|mv J<|dt (Yb J J (i:=1) J Zx underlying186)<|dt (Xu J J J)<|Zf<|Za<|Zq J (fun h88=>?_) (fun h88=>?_)
 ·refine Zj<|Za<|Zc<|Zl ?_
  have hvi:=hz (ls.getD i T0) (Yv)
  have hvl:=hvi.len
  rw [Zr]at hvl
  refine Yl (Zf2 1 91 (ls.getD i T0) J J (Yv) J)<|Oo [1,4] [10]<|Zy (n:=0) [(0,0),(1,0),(2,0),(3,0),(4,0),(5,0),(6,1),(7,1),(8,1),(9,1),(10,3)]<|r0' J J (stf (Ym J J) K2)<|r0' J J (stf (Ym J J) K2)<|r0' J J (stf (Ym J J) K2)<|r0' J J (stf (Yw (ii:=1) J J J J Zx underlying186 sizeOf34 J (by first | omega | (simp only [List.length_set];omega))) K2)<|r0' J J (stf (Xm (ii:=1) T0 J J J Zx pT (by first | omega | (simp only [List.length_set];omega))) K2)<|r0' J J (stf (Yy (i:=4) J J J Ze1 Zbp J J J J) K2)<|r1' J (Zh (n:=5) (Zri _ _ _ _ x y (hvi.sz.mono (by omega)) hx hy) J J J K2 call121 (Zb 91 J J J (Zb 2 J J J (Zb 3 J J J Ze))) J hw) fun v _=>r1' J (Zh (n:=5) (Cc _ _ (by have:=ev_b (hvi.sz.mono (by omega):Sz 1000000 _) (by have:=hvi.len;omega) hx hy;omega)) J J J K1 call72 (Zb 5 J J J Ze) J hw) fun _ _=>r1' J (Pn (i:=6) (ivs:=[(0,_)]) (enc:=Ay) [(fat x y (Zs (ls.getD i T0).2))] J J K2 Ny ti3 J J J J J pZ.cells J J hw) (fun v_2 _=>?_)
  exact r1' J (Du 70 J J J K2 (fun hoffr=>(Gg (i:=70) (j:=6) (by_:=8) J J J J J J (by decide) J (Yq pZ) Ny ti3 J pZ J J J (by rw [htl];simp;omega) (by decide) J hw hoffr))) fun v_3 _=>r3' J (Px (Lq J J) J) fun _ _=>Yo<|Yg<|Oa<|Za<|Zg<|mv J<|dt (Ys J J J ⟨by omega,by omega⟩)<|as_ J<|Zf<|Xk (i+1,_) (by first | omega | (dsimp only<;>omega)) (by first | omega | (dsimp only<;>omega)) K4 ⟨by rw [Of 0 _ _ (by omega),hLg i (by omega)];rfl,rfl,rfl,rfl,rfl,rfl,trivial⟩
 ·refine Yu<|Zu<|Zu<|Ox<|Za<|Zc<|Yl (Qz 70 J J pZ) ?_
  have htk:((Bq ls).map (fat x y)).take i=((Bq ls).map (fat x y)):=List.take_of_length_le (by omega)
  exact Zg<|mv J<|tt (Zh (n:=6) (Zwk _ _ (fun i=>by rw [htk];by_cases hi9:i<ls.length;(rw [hLg i hi9];exact fat_r _ _ _);(rw [show((Bq ls).map (fat x y)).getD i 0=0 from Qf (by omega)];decide)) (by omega)) J J J K1 call188 (Zb 70 J J J Ze) J hw) fun _ _=>as_ J<|Zf<|Za<|Zv<|xU hsc results167 J J (by rw [htk])
theorem Zwl(v w u w2 u2:Value)(zs:List (Int×SL))(x y x2 y2:Int)(hv:Vp (Zs zs))(h0:zs.length≠0)(hs:Sz 260 (Zs zs))(hl:zs.length≤8)(hx:bl x.natAbs≤1000000)(hy:bl y.natAbs≤1000000)(hx2:bl x2.natAbs≤1000000)(hy2:bl y2.natAbs≤1000000):Ml prog 122 #[v,.agg #[.bool (decide (x<0)),w,.bool (decide (y<0)),u],.agg #[.bool (decide (x2<0)),w2,.bool (decide (y2<0)),u2]] [pp v zs,d9p w x.natAbs,d9p u y.natAbs,d9p w2 x2.natAbs,d9p u2 y2.natAbs] (.int .i64 (cnt 13 (Zs zs) x y-cnt 13 (Zs zs) x2 y2)):=by
 refine Ya func122 J ntmps122 J K5 ?_
 intro w0 sc hw hsc
 simp only [Zp,Zn]
 have hli:=Zr zs
 have hne:Zs zs≠[]:=fun e=>h0 (by rw [←hli,e];rfl)
 obtain⟨hC,hq,hql⟩:=ch13r hv.tr hne hs (by omega)
 refine Zc<|Zg<|tt (Xe (i:=6) J J J J J hw) fun b _=>tt (Xe (i:=7) J J J J J hw) fun b_2 _=>as_ J<|Zf<|Za<|Zc<|Zg<|mv J<|tt (Zh (n:=8) (Zwm _ _ hv h0 hs hl) J J J K1 call166 (Zb 1 J J J Ze) J hw) fun g hg=>as_ J<|Zf<|Za<|Zc ?_
 have hT:Bq g.2=chn 13 (Zs zs):=hg
 have hTl:=Zs8 hT
 have hll:(chn 13 (Zs zs)).length≤_:=De 13 _ _
 have hr1:=Cs ((Bq g.2).map (fat x y))
 have hr2:=Cs ((Bq g.2).map (fat x2 y2))
 simp only [List.length_map]at hr1 hr2
 have hVz:∀z∈g.2,Vp (Zs z.2):=fun z hz=>vp_chn hv hne hC _ (by rw [←hT];exact List.mem_map_of_mem (f:=fun z=>Zs z.2) hz)
 refine Ql (fun _=>False) [(0,0),(1,0),(3,0),(4,0),(2,1),(5,1),(6,0),(7,3)] ?_ ?_
 ·kernel_rfl
 exact r0' J J (st0 (Ym J J))<|r0' J J (st0 (Yy (i:=6) J J J Ze1 Zbp J J J J))<|r0' J J (st0 (Ym J J))<|r0' J J (st0 (Yy (i:=7) J J J Ze1 Zbp J J J J))<|r1' J (Zh (n:=8) (r3_at _ _ _ _ x y hVz hx hy) J J J K2 call167 (Zb 8 J J J (Zb 2 J J J (Zb 3 J J J Ze))) J hw) fun _ _=>r1' J (Zh (n:=8) (r3_at _ _ _ _ x2 y2 hVz hx2 hy2) J J J K2 call167 (Zb 8 J J J (Zb 4 J J J (Zb 5 J J J Ze))) J hw) fun _ _=>r0' J J (st0 (Qa J J J ⟨by omega,by omega⟩))<|r3' J (Px (Lq J J) J) fun _ _=>Og<|Za<|Zv<|xU hsc results122 J J (by rw [hT]<;>rfl)
theorem Zrt(v:Value)(m:Nat)(zs:List (Int×SL))(hs:Sz 1000000 (Zs zs))(hl:zs.length≤30)(hm:m≤1000:=by decide):Ml prog 15 #[v,.int .i64 (m:Int)] [pp v zs] (.bool (decide (Dn (Zs zs) m))):=by
 refine Ya func15 J ntmps15 J K1 ?_
 intro w0 sc hw hsc
 simp only [Zp,Zn]
 have hli:=Zr zs
 have hmz:=Ps hs
 have q1:(zs.length+2)*(zs.length+2)≤32*32:=Nat.mul_le_mul (by omega) (by omega)
 have q2:(zs.length+2)*(zs.length+2)*(msz (Zs zs)+m+2*(zs.length-1)+32)≤32*32*1002100:=Nat.mul_le_mul q1 (by omega)
 have q3:((zs.length:Int)-1+3)*((zs.length:Int)-1+3)=(((zs.length+2)*(zs.length+2):Nat):Int):=by rw [show(zs.length:Int)-1+3=((zs.length+2:Nat):Int) by omega];push_cast;rfl
 have q4:zs.length≠0→((zs.length:Int)-1+3)*((zs.length:Int)-1+3)*((msz (Zs zs):Int)+(m:Int)+2*((zs.length:Int)-1)+32)=(((zs.length+2)*(zs.length+2)*(msz (Zs zs)+m+2*(zs.length-1)+32):Nat):Int):=fun h=>by rw [q3,show(msz (Zs zs):Int)+(m:Int)+2*((zs.length:Int)-1)+32=((msz (Zs zs)+m+2*(zs.length-1)+32:Nat):Int) by omega];push_cast;rfl
 refine Zc<|Zg<|as_ J<|Zf<|Za<|Zc<|Zg<|mv J<|dt (Yb J J (i:=1) J Zx Nc)<|dt (Qa J J J ⟨by omega,by omega⟩)<|as_ J<|Zf<|Za<|Zc<|Zg<|mv J<|dt (Yb J J (i:=1) J Zx Nc)<|dt (Pm J J J)<|mv J<|Qu (d:=12) J (fun s23=>?_) (fun s23=>?_)
 ·exact gsk J J J<|gsk J J J<|gsk J J J<|gsk J J J<|gsk J J J<|gsk J J J<|gsk J J J<|gsk J J J<|gsk J J J<|gsk J J J<|gsk J J J<|gsk J J J<|gsk J J J<|gsk J J J<|gsk J J J<|dt (Xh J J J)<|as_ J<|Zf<|Za<|Zv<|xU hsc results15 J J (by first | exact Zv4 (xs:=Zs zs) (by omega) | (rw [q4 (by omega),←hli];exact Zv5 (xs:=Zs zs) (by omega) rfl))
 ·exact gdt (Ym J J) J J<|gdt (Ys J J J ⟨by omega,by omega⟩) J J<|gdt (Ym J J) J J<|gdt (Ys J J J ⟨by omega,by omega⟩) J J<|gdt (Gq J J J (by rw [q3];exact⟨by omega,by omega⟩)) J J<|gdt (Ym J J) J J<|gtt (Zh (n:=1) (rp_bits _ _ (hs.mono (by omega)) (by omega)) J J J K1 call52 (Zb 1 J J J Ze) J hw) J J J fun _ _=>gdt (Ym J J) J J<|gdt (Ys J J J ⟨by omega,by omega⟩) J J<|gdt (Ym J J) J J<|gdt (Gq J J J ⟨by omega,by omega⟩) J J<|gdt (Ys J J J ⟨by omega,by omega⟩) J J<|gdt (Ys J J J ⟨by omega,by omega⟩) J J<|gdt (Gq J J J (by rw [q4 (by omega)];exact⟨by omega,by omega⟩)) J J<|gdt (Co J J J) J J<|dt (Yh J J J)<|as_ J<|Zf<|Za<|Zv<|xU hsc results15 J J (by first | exact Zv4 (xs:=Zs zs) (by omega) | (rw [q4 (by omega),←hli];exact Zv5 (xs:=Zs zs) (by omega) rfl))
set_option maxHeartbeats 4000000 in
theorem Zlf(xs:List Int)(hd:Cvd xs)(hx0:xs≠[])(f:Nat)(ih:∀(v:Value) (zs:List (Int×SL)) (hI:RI xs (Zs zs)) (hf:zs.length≤f),Cal prog 19 #[v] [pp v zs] true (G:=Value×List (Int×SL)) (fun r=>Zs r.2=Zjh 13 f (Zs zs)) (fun r=>r.1) (fun r=>[pp r.1 r.2]))(v:Value)(zs:List (Int×SL))(hI:RI xs (Zs zs))(hf:zs.length≤f+1):Cal prog 19 #[v] [pp v zs] true (G:=Value×List (Int×SL)) (fun r=>Zs r.2=Zjh 13 (f+1) (Zs zs)) (fun r=>r.1) (fun r=>[pp r.1 r.2]):=by
 refine Ya func19 J ntmps19 J K1 ?_
 intro w0 sc hw hsc
 simp only [Zp,Zn]
 have hli:=Zr zs
 have hIl:=hI.l
 have hz0:zs.length≠0:=fun e=>hI.ne (List.eq_nil_of_length_eq_zero (by omega))
 refine Zc<|Zg<|as_ J<|Zf<|Za<|Zc<|Zg<|mv J<|tt (Zh (n:=2) (Zru _ _ hI.v hz0 (hI.s.mono (by omega))) J J J K1 call54 (Zb 1 J J J Ze) J hw) (fun g hg=>?_)
 have H_on:Zs g.2=(sqf 13 (Zs zs)):=hg
 have hl_on:=congrArg List.length H_on
 rw [Zr]at hl_on
 refine as_ J<|Zf<|Za<|Zc<|Zc<|Zg<|mv J<|dt (Yb J J (i:=2) J Zx Nc)<|dt (Pm J J J)<|Zf<|Za<|Zq J (fun h29=>?_) (fun h29=>?_)
 ·have h1:(sqf 13 (Zs zs)).length=1:=by omega
  exact Zc<|Zg<|mv J<|as_ J<|Zf<|Za<|Zv<|Xc<|Yn (.inl J) hsc (_,g.2) _ (fun a w hs=>Nn hs results19 J) J (by rw [H_on,rodd_1 h1]) J (Xa 2 J J J Zk)
 ·have h1:(sqf 13 (Zs zs)).length≠1:=by omega
  obtain⟨c1,c2,c3,c4,c5,c6,c7,c8,c9,c10,c11,c12,c13,c14,c15,c16,c17,c18,c19,c20,c21,c22,c23,c24,c25⟩:=RI.step hd hx0 hI
  have m6:=Ps c6
  have m12:=Ps c12
  have hl_lfp:=Yi (Zs zs)
  refine Zj<|Za<|Zc<|Zg<|mv J<|tt (Zh (n:=3) (Ks _ _ (hI.s.mono (by omega)) (fun _=>c5)) J J J K1 call57 (Zb 1 J J J Ze) J hw) (fun g_2 hg_2=>?_)
  have H_pp:Zs g_2.2=Yx (Zs zs):=hg_2
  have hl_pp:=congrArg List.length H_pp
  rw [Zr]at hl_pp
  refine tt (Zh (n:=4) (Cd 1 ⟨by decide,by decide⟩) J J J K1 call34 Ze J hw) fun v _=>tt (Zh (n:=5) (Zao _ _ _ _ (by rw [H_pp];exact(Hd hI.s).mono (by omega)) (by decide +kernel)) J J J K2 call56 (Zb 3 J J J (Zb 4 J J J Ze)) J hw) (fun g_3 hg_3=>?_)
  have H_sc:Zs g_3.2=Xj (Yx (Zs zs)) 1:=by rw [hg_3,H_pp]
  have hl_sc:=congrArg List.length H_sc
  rw [Zr]at hl_sc
  refine mv J<|tt (Zh (n:=6) (Zap _ _ _ _ (by rw [H_sc];exact c7) (by rw [H_on];exact c1) (fun _=>by rw [H_sc,H_on];have h7:=Nat.mul_le_mul (show g_3.2.length-g.2.length+1≤8 by omega) (show msz (sqf 13 (Zs zs))+1≤331 by omega);omega)) J J J K2 call55 (Zb 5 J J J (Zb 2 J J J Ze)) J hw) (fun g_4 hg_4=>?_)
  have H_lf:Zs g_4.2=Mq 13 (Zs zs):=by have h9:=hg_4 (by rw [H_sc,H_on];exact c9);rw [H_sc,H_on]at h9;exact h9
  have hl_lf:=congrArg List.length H_lf
  rw [Zr]at hl_lf
  refine mv J<|dt (Yf J J J)<|dt (Yf J J J)<|as_ J<|as_ J<|Zf<|Za<|Zc<|Zg<|mv J<|tt (Zh (n:=7) (Zru _ _ (by rw [H_lf];exact c10) (fun e=>c11 (List.eq_nil_of_length_eq_zero (by rw [←H_lf,Zr];exact e))) (by rw [H_lf];exact c12.mono (by omega))) J J J K1 call54 (Zb 6 J J J Ze) J hw) (fun g_5 hg_5=>?_)
  have H_tw:Zs g_5.2=(sqf 13 (Mq 13 (Zs zs))):=by rw [hg_5,H_lf]
  have hl_tw:=congrArg List.length H_tw
  rw [Zr]at hl_tw
  refine as_ J<|Zf<|Za<|Zc<|Zg<|mv J<|mv J<|tt (Zh (n:=8) (Zap _ _ _ _ (by rw [H_on];exact c1) (by rw [H_tw];exact c16) (fun _=>by rw [H_on,H_tw];have h7:=Nat.mul_le_mul (show g.2.length-g_5.2.length+1≤8 by omega) (show msz (sqf 13 (Mq 13 (Zs zs)))+1≤331 by omega);omega)) J J J K2 call55 (Zb 2 J J J (Zb 7 J J J Ze)) J hw) (fun g_6 hg_6=>?_)
  have H_ol:Zs g_6.2=Kn (sqf 13 (Zs zs)) (sqf 13 (Mq 13 (Zs zs))):=by have h9:=hg_6 (by rw [H_on,H_tw];exact c20);rw [H_on,H_tw]at h9;exact h9
  have hl_ol:=congrArg List.length H_ol
  rw [Zr]at hl_ol
  refine mv J<|dt (Yf J J J)<|dt (Yf J J J)<|as_ J<|as_ J<|Zf<|Za<|Zc<|Zg<|mv J<|tt (Zh (n:=9) (Ks _ _ (by rw [H_lf];exact c12.mono (by omega)) (fun _=>by rw [H_lf];exact c14)) J J J K1 call57 (Zb 6 J J J Ze) J hw) (fun g_7 hg_7=>?_)
  have H_p2:Zs g_7.2=(Mq 13 (Zs zs)):=by rw [hg_7,H_lf,c15]
  have hl_p2:=congrArg List.length H_p2
  rw [Zr]at hl_p2
  refine mv J<|tt (Zh (n:=10) (Zap _ _ _ _ (by rw [H_p2];exact c10.tr) (by rw [H_tw];exact c16) (fun _=>by rw [H_p2,H_tw];have h7:=Nat.mul_le_mul (show g_7.2.length-g_5.2.length+1≤8 by omega) (show msz (sqf 13 (Mq 13 (Zs zs)))+1≤331 by omega);omega)) J J J K2 call55 (Zb 9 J J J (Zb 7 J J J Ze)) J hw) (fun g_8 hg_8=>?_)
  have H_rs:Zs g_8.2=Af 13 (Zs zs):=by have h9:=hg_8 (by rw [H_p2,H_tw];exact c23);rw [H_p2,H_tw]at h9;exact h9.trans (by unfold Af;rw [c15])
  have hl_rs:=congrArg List.length H_rs
  rw [Zr]at hl_rs
  refine mv J<|dt (Yf J J J)<|dt (Yf J J J)<|as_ J<|as_ J<|Zf<|Za<|Zc<|Zg<|mv J<|mv J<|tt (Zh (n:=11) (ih _ _ (by rw [H_rs];exact c24) (by have:=c25 h1;omega)) J J J K1 call19 (Zb 10 J J J Ze) J hw) (fun g_9 hg_9=>?_)
  have hl_od:=congrArg List.length hg_9
  rw [Zr,H_rs]at hl_od
  obtain⟨q1,q2,q3⟩:=RI.size hd hx0 c24 (f:=f) (by have:=c25 h1;omega)
  exact tt (Zh (n:=12) (rp_mul _ _ _ _ (by rw [H_ol];exact c21.mono (by omega)) (by rw [hg_9,H_rs];exact q2.mono (by omega)) (by omega)) J J J K2 call42 (Zb 8 J J J (Zb 11 J J J Ze)) J hw) fun g_10 hg_10=>as_ J<|Zf<|Za<|Zv<|Yn (.inl J) hsc _ _ (fun a w hs=>Nn hs results19 J) J (by rw [hg_10,H_ol,hg_9,H_rs];exact(rodd_s h1).symm) J (Xa 12 J J J Zk)
theorem Zf6(xs:List Int)(hd:Cvd xs)(hx0:xs≠[]):∀(f:Nat) (v:Value) (zs:List (Int×SL)) (hI:RI xs (Zs zs)) (hf:zs.length≤f),Cal prog 19 #[v] [pp v zs] true (G:=Value×List (Int×SL)) (fun r=>Zs r.2=Zjh 13 f (Zs zs)) (fun r=>r.1) (fun r=>[pp r.1 r.2])
 | 0,v,zs,hI,hf=>absurd (List.eq_nil_of_length_eq_zero (by rw [Zr];omega)) hI.ne
 | f+1,v,zs,hI,hf=>Zlf xs hd hx0 f (Zf6 xs hd hx0 f) v zs hI hf
theorem r4_odd(v:Value)(zs:List (Int×SL))(hd:Cvd (Zs zs))(h0:zs.length≠0):Cal prog 19 #[v] [pp v zs] true (G:=Value×List (Int×SL)) (fun r=>Zs r.2=Hq (Zs zs)) (fun r=>r.1) (fun r=>[pp r.1 r.2]):=by
 have hne:Zs zs≠[]:=fun e=>h0 (by rw [←Zr,e];rfl)
 have h:=Zf6 (Zs zs) hd hne zs.length v zs (RI.start hd hne) (Nat.le_refl _)
 rw [←Zr zs,Zrj hd hne]at h
 exact h
theorem sm_dec{r:RWL}(h:smR r=true)(hok:okP r=true):Cvd (dec r)∧Sz 32 (dec r)∧(dec r).length=r.length:=by
 obtain⟨h1,h2⟩:=smR_le h
 obtain⟨h3,h4⟩:=Zke hok
 have h5:=congrArg List.length h4
 rw [List.length_map]at h5
 have hs:Sz 32 (dec r):=Sz.of_mem fun c hc=>by
  have h6:=h2 (wr c) (by rw [h4];exact List.mem_map_of_mem hc)
  exact Zuz 4 h6
 exact⟨⟨h3,hs.mono (by omega),by omega⟩,hs,h5.symm⟩
noncomputable def odR (r:RWL):List Int×Int:=if okP r=true then(if(dec r).length=0 then([],3)else(Hq (dec r),0))else([],2)
theorem Zej(v:Value)(r:List (Bool×ByteArray))(hok:okP r=true):Cal Tryz.prog 16 #[v] [slp 2 Zie v r] true (G:=Value×List (Int×SL)) (fun q=>Zs q.2=dec r) (fun q=>q.1) (fun q=>[pp q.1 q.2]):=
 Cal.imp (Zk9 v (dec r) ((Zke hok).1.sz.mono (by omega)) (by have:=(Zke hok).1.len;omega)) (Zq2 hok v) (fun _ h=>h)
theorem Ztg(x y:Int):fat x y []=0:=by unfold fat;rw [show pev [] x y=0 from rfl];rfl
theorem Zgl{p:List Int}(h:p.length=0):Pw p=[]:=by unfold Pw;rw [h];rfl
theorem Zqm(p:List Int)(x y:Int):vlu (Pw p) (x,y)=fat x y p:=by
  by_cases h:p.length=0
  · obtain rfl:=List.eq_nil_of_length_eq_zero h
    rw [Zgl h,Ztg];rfl
  · rw [Zbe h];rfl
theorem Zj6(a:Int)(l:List Int):Zp9 (a :: l)=if a≠0 then a else Zp9 l:=by
  by_cases h:a=0
  · rw [if_neg (fun e=>e h)]
    subst h
    rfl
  · rw [if_pos h]
    unfold Zp9
    simp [h]
theorem Zo5{p:List Int}{x y:Int}(h:p.length=0∨fat x y p≠0):aft (Pw p) (x,y)=fat x y p:=by
  by_cases h0:p.length=0
  · obtain rfl:=List.eq_nil_of_length_eq_zero h0
    rw [Zgl h0,Ztg];rfl
  · have h1:=h.resolve_left h0
    rw [Zbe h0]
    unfold aft
    rw [List.map_cons,Zj6,if_pos h1]
theorem aft_go{p:List Int}{x y:Int}(h0:p.length≠0)(h1:fat x y p=0):aft (Pw p) (x,y)=aft (Pw (Pf p)) (x,y):=by
  rw [Zbe h0]
  unfold aft
  rw [List.map_cons,Zj6,if_neg (fun e=>e h1)]
theorem Zqk{p:List Int}{k:Nat}(hv:Vp p)(hs:Sz k p)(hk:k≤60000):Vp (Pf p):=by
  have hl:=hv.len
  have h:=He hs (by omega)
  exact⟨h.mono (by omega),Nv hv.tr,by have:=Oj p;omega⟩
theorem Zud{p:List Int}(h:p.length≠0)(x y:Int):cnt 13 (Hq p) x y=chv (chx p) (x,y):=by rw [Zow h];rfl
theorem chx_hd{p:List Int}(hd:Cvd p)(h:p.length≠0){x y:Int}(hy:0<y):fat x y ((chx p).getD 0 [])=0↔fat x y (Hq p)=0:=by
  have hne:p≠[]:=fun e=>h (by rw [e];rfl)
  obtain⟨o1,-⟩:=Al hd hne
  rw [Zow h]
  have e:(chn 13 (Hq p)).getD 0 []=sqf 13 (Hq p):=by
    unfold chn Mk
    split<;>rfl
  rw [e]
  have z:=o1.zero ((x:Rat)/(y:Rat))
  rw [Zcb hy _,Zcb hy _]
  constructor
  · intro h1
    have := z.1 (by rcases Po (rev (sqf 13 (Hq p)) ((x : Rat) / (y : Rat))) with ⟨h5, h6⟩ | ⟨h5, h6⟩ | ⟨h5, h6⟩
                    · rw [h6]at h1;exact absurd h1 (by decide)
                    · rw [h6]at h1;exact absurd h1 (by decide)
                    · exact h5)
    rw [this];decide
  · intro h1
    have := z.2 (by rcases Po (rev (Hq p) ((x : Rat) / (y : Rat))) with ⟨h5, h6⟩ | ⟨h5, h6⟩ | ⟨h5, h6⟩
                    · rw [h6]at h1;exact absurd h1 (by decide)
                    · rw [h6]at h1;exact absurd h1 (by decide)
                    · exact h5)
    rw [this];decide
theorem Zum{p:List Int}(h:p.length≠0):(chx p).length≠0:=by
  rw [Zow h]
  unfold chn Mk
  split<;>simp
theorem crb_nil{p:List Int}(h:p.length=0)(a b:R2):crb (chx p) a b=false:=by
  unfold chx;rw [if_pos h];rfl
theorem crx_t{p:List Int}(hd:Cvd p)(h:p.length≠0){x y x2 y2:Int}(hy:0<y2)(hz:fat x2 y2 (Hq p)=0):crb (chx p) (x,y) (x2,y2)=decide (0<chv (chx p) (x,y)-chv (chx p) (x2,y2)-1):=by
  unfold crb;rw [if_neg (Zum h),if_pos ((chx_hd hd h hy).2 hz)]
theorem crx_f{p:List Int}(hd:Cvd p)(h:p.length≠0){x y x2 y2:Int}(hy:0<y2)(hz:¬fat x2 y2 (Hq p)=0):crb (chx p) (x,y) (x2,y2)=decide (0<chv (chx p) (x,y)-chv (chx p) (x2,y2)):=by
  unfold crb;rw [if_neg (Zum h),if_neg (fun e=>hz ((chx_hd hd h hy).1 e)),Int.sub_zero]
theorem Zl3{p:List Int}{a:R2}(ha:0<a.2):fat a.1 a.2 p<0↔rev p (qv a)<0:=by
  rw [show fat a.1 a.2 p=rsg (rev p (qv a))from Zcb ha p]
  rcases Po (rev p (qv a))with⟨h5,h6⟩ | ⟨h5,h6⟩ | ⟨h5,h6⟩
  · rw [h6];constructor
    · intro h;exact absurd h (by decide)
    · intro h;grind
  · rw [h6];exact⟨fun _=>h5,fun _=>by decide⟩
  · rw [h6,h5];constructor
    · intro h;exact absurd h (by decide)
    · intro h;exact absurd h (by decide)
theorem Zw9{p:List Int}(hd:Cvd p){a b:R2}(ha:0<a.2)(hb:0<b.2)(hc:¬0<cmp a b)(h:fat a.1 a.2 p<0):ngb (Pw p) (chx p) a b=true:=by
  have hle:=(Zmh ha hb).1 (by omega)
  exact(Zev hd ha hb hle).2 ⟨qv a,Rat.le_refl,hle,(Zl3 ha).1 h⟩
theorem Zw8{p:List Int}(hd:Cvd p){a b:R2}(ha:0<a.2)(hb:0<b.2)(hc:¬0<cmp a b)(h:fat b.1 b.2 p<0):ngb (Pw p) (chx p) a b=true:=by
  have hle:=(Zmh ha hb).1 (by omega)
  exact(Zev hd ha hb hle).2 ⟨qv b,hle,Rat.le_refl,(Zl3 hb).1 h⟩
theorem Zw7{p:List Int}{a b:R2}(hc:¬cmp a b=0)(h:aft (Pw p) a<0):ngb (Pw p) (chx p) a b=true:=by
  unfold ngb;rw [if_neg hc,decide_eq_true h];rfl
theorem Zw6{p:List Int}{a b:R2}(hc:¬cmp a b=0)(h:¬aft (Pw p) a<0):ngb (Pw p) (chx p) a b=crb (chx p) a b:=by
  unfold ngb;rw [if_neg hc,decide_eq_false h];rfl
theorem ngb_e{p:List Int}{a b:R2}(hc:cmp a b=0):ngb (Pw p) (chx p) a b=decide (fat a.1 a.2 p<0):=by
  unfold ngb;rw [if_pos hc,show vlu (Pw p) a=fat a.1 a.2 p from Zqm p a.1 a.2]
theorem Db(v w u:Value)(zs:List (Int×SL))(x y:Int)(hx:bl x.natAbs≤1000000)(hy:bl y.natAbs≤1000000)(hs:Sz 1000000 (Zs zs))(hl:zs.length≤30:=by omega):Ml prog 65 #[v,.agg #[.bool (decide (x<0)),w,.bool (decide (y<0)),u]] [pp v zs,d9p w x.natAbs,d9p u y.natAbs] (.int .i64 (fat x y (Zs zs))):=by
 refine Ya func65 J ntmps65 J K3 ?_
 intro w0 sc hw hsc
 simp only [Zp,Zn]
 have hli:=Zr zs
 exact Zc<|Zg<|tt (Xe (i:=4) J J J J J hw) fun bx _=>as_ J<|Zf<|Za<|Zc<|Zg<|mv J<|dt (Yy (i:=4) J J J Ze1 Zbp J J J J)<|tt (Zh (n:=5) (Zri _ _ _ _ x y hs hx hy) J J J K2 call121 (Zb 1 J J J (Zb 2 J J J (Zb 3 J J J Ze))) J hw) fun v _=>tt (Zh (n:=5) (Cc _ _ (by have:=ev_b hs (by omega) hx hy;omega)) J J J K1 call72 (Zb 5 J J J Ze) J hw) fun _ _=>as_ J<|Zf<|Za<|Zv<|xU hsc results65 J J J
theorem Zht(x y:Int)(hx:bl x.natAbs≤1000000)(hy:bl y.natAbs≤1000000)(n:Nat)(ih:∀(v w u:Value) (zs:List (Int×SL)) (k:Nat) (hv:Vp (Zs zs)) (hk:Sz k (Zs zs)) (hkk:k+5*zs.length≤110) (hf:zs.length<n),Cal prog 66 #[v,.agg #[.bool (decide (x<0)),w,.bool (decide (y<0)),u]] [pp v zs,d9p w x.natAbs,d9p u y.natAbs] false (G:=Unit) (fun _=>True) (fun _=> .int .i64 (aft (Pw (Zs zs)) (x,y))) (fun _=>[]))(v w u:Value)(zs:List (Int×SL))(k:Nat)(hv:Vp (Zs zs))(hk:Sz k (Zs zs))(hkk:k+5*zs.length≤110)(hf:zs.length<n+1):Cal prog 66 #[v,.agg #[.bool (decide (x<0)),w,.bool (decide (y<0)),u]] [pp v zs,d9p w x.natAbs,d9p u y.natAbs] false (G:=Unit) (fun _=>True) (fun _=> .int .i64 (aft (Pw (Zs zs)) (x,y))) (fun _=>[]):=by
 refine Ya func66 J ntmps66 J K3 ?_
 intro w0 sc hw hsc
 simp only [Zp,Zn]
 have hli:=Zr zs
 have hlen:=hv.len
 have hld:=Oj (Zs zs)
 have hvd:=Zqk hv hk (by omega)
 have hkd:=He hk (by omega)
 refine Zc<|Zg<|tt (Xe (i:=4) J J J J J hw) fun bx _=>as_ J<|Zf<|Za<|Zc<|Zc<|Zg<|mv J<|dt (Yb J J (i:=1) J Zx Nc)<|dt (Pm J J J)<|mv J<|Qu (d:=8) J (fun s44=>?_) (fun s44=>?_)
 ·exact gsk J J J<|gsk J J J<|gsk J J J<|gsk J J J<|dt (Xh J J J)<|Zf<|Za<|Ov J<|Zc<|Zg<|mv J<|dt (Yy (i:=4) J J J Ze1 Zbp J J J J)<|tt (Zh (n:=4) (Db _ _ _ _ x y hx hy (hv.sz.mono (by omega))) J J J K2 call65 (Zb 1 J J J (Zb 2 J J J (Zb 3 J J J Ze))) J hw) fun _ _=>as_ J<|Zf<|Za<|Zv<|Xc<|xU hsc results66 J J (by rw [Zo5 (by first | (left;omega) | (right;assumption))])
 ·refine gdt (Ym J J) J J<|gdt (Yy (i:=4) J J J Ze1 Zbp J J J J) J J<|gtt (Zh (n:=4) (Db _ _ _ _ x y hx hy (hv.sz.mono (by omega))) J J J K2 call65 (Zb 1 J J J (Zb 2 J J J (Zb 3 J J J Ze))) J hw) J J J fun _ _=>gdt (Qb J J J) J J<|dt (Yh J J J)<|Zf<|Za<|Zq J (fun h44=>?_) (fun h44=>?_)
  ·exact Zc<|Zg<|mv J<|dt (Yy (i:=4) J J J Ze1 Zbp J J J J)<|tt (Zh (n:=4) (Db _ _ _ _ x y hx hy (hv.sz.mono (by omega))) J J J K2 call65 (Zb 1 J J J (Zb 2 J J J (Zb 3 J J J Ze))) J hw) fun _ _=>as_ J<|Zf<|Za<|Zv<|Xc<|xU hsc results66 J J (by rw [Zo5 (by first | (left;omega) | (right;assumption))])
  ·refine Zj<|Za<|Zc<|Hb (fun _=>False) [4]<|Zy (n:=2) [(0,0),(2,0),(1,1)]<|r0' J J (st0 (Ym J J))<|r0' J J (st0 (Yy (i:=4) J J J Ze1 Zbp J J J J))<|r1' J (Zh (n:=5) (Zek _ _ (hv.sz.mono (by omega))) J J J K1 call115 (Zb 1 J J J Ze) J hw) fun g hg=>Yo ?_
   have hD:Zs g.2=Pf (Zs zs):=hg
   have hl7:=congrArg List.length hD
   rw [Zr]at hl7
   exact Zy (n:=0) [(3,1),(4,3)]<|r1' J (Zh (n:=5) (ih _ _ _ _ (k+5) (by rw [hD];exact hvd) (by rw [hD];exact hkd) (by omega) (by omega)) J J J K2 call66 (Zb 5 J J J (Zb 2 J J J (Zb 3 J J J Ze))) J hw) fun _ _=>r3' J (Px (Lq J J) J) fun _ _=>Yo<|Yg<|Za<|Zv<|xU hsc results66 J J (by rw [aft_go (p:=Zs zs) (by omega) (Decidable.byContradiction ‹_›),←hD])
theorem Znm(x y:Int)(hx:bl x.natAbs≤1000000)(hy:bl y.natAbs≤1000000):∀(n:Nat) (v w u:Value) (zs:List (Int×SL)) (k:Nat) (hv:Vp (Zs zs)) (hk:Sz k (Zs zs)) (hkk:k+5*zs.length≤110) (hf:zs.length<n),Cal prog 66 #[v,.agg #[.bool (decide (x<0)),w,.bool (decide (y<0)),u]] [pp v zs,d9p w x.natAbs,d9p u y.natAbs] false (G:=Unit) (fun _=>True) (fun _=> .int .i64 (aft (Pw (Zs zs)) (x,y))) (fun _=>[])
 | 0,v,w,u,zs,k,hv,hk,hkk,hf=>absurd hf (Nat.not_lt_zero _)
 | n+1,v,w,u,zs,k,hv,hk,hkk,hf=>Zht x y hx hy n (Znm x y hx hy n) v w u zs k hv hk hkk hf
theorem Zpq(v w u w2 u2:Value)(zs:List (Int×SL))(x y x2 y2:Int)(hx:bl x.natAbs≤1000000)(hy:bl y.natAbs≤1000000)(hx2:bl x2.natAbs≤1000000)(hy2:bl y2.natAbs≤1000000)(hp2:0<y2)(hd:Cvd (Zs zs)):Ml prog 67 #[v,.agg #[.bool (decide (x<0)),w,.bool (decide (y<0)),u],.agg #[.bool (decide (x2<0)),w2,.bool (decide (y2<0)),u2]] [pp v zs,d9p w x.natAbs,d9p u y.natAbs,d9p w2 x2.natAbs,d9p u2 y2.natAbs] (.bool (crb (chx (Zs zs)) (x,y) (x2,y2))):=by
 refine Ya func67 J ntmps67 J K5 ?_
 intro w0 sc hw hsc
 simp only [Zp,Zn]
 have hli:=Zr zs
 have hd7:=hd.l
 have hr1:=Zx8 (chx (Zs zs)) (x,y)
 have hr2:=Zx8 (chx (Zs zs)) (x2,y2)
 have hr3:=Fm (Zs zs)
 refine Zc<|Zg<|tt (Xe (i:=6) J J J J J hw) fun bx _=>tt (Xe (i:=7) J J J J J hw) fun bx_2 _=>as_ J<|Zf<|Za<|Zc<|Zc<|Zg<|mv J<|dt (Yb J J (i:=1) J Zx Nc)<|dt (Pm J J J)<|Zf<|Za<|Zq J (fun h52=>?_) (fun h52=>?_)
 ·exact Zc<|Zg<|as_ J<|Zf<|Za<|Zv<|Xc<|xU hsc results67 J J (by rw [crb_nil (by omega)])
 ·have hz0:(Zs zs).length≠0:=by omega
  obtain⟨o1,o2,o3,o4,-⟩:=Al hd (fun e=>hz0 (by rw [e];rfl))
  refine Zj<|Za<|Zc<|Zg<|mv J<|tt (Zh (n:=8) (r4_odd _ _ hd (by omega)) J J J K1 call19 (Zb 1 J J J Ze) J hw) (fun g hg=>?_)
  have hO:Zs g.2=Hq (Zs zs):=hg
  have hl7:=congrArg List.length hO
  rw [Zr]at hl7
  refine as_ J<|Zf<|Za<|Zc<|Zg<|mv J<|dt (Yy (i:=6) J J J Ze1 Zbp J J J J)<|dt (Yy (i:=7) J J J Ze1 Zbp J J J J)<|tt (Zh (n:=8) (Zwl _ _ _ _ _ _ x y x2 y2 (by rw [hO];exact o2) (fun e=>o1.one (List.eq_nil_of_length_eq_zero (by rw [←hO,Zr];exact e))) (by rw [hO];exact o3.mono (by omega)) (by omega) hx hy hx2 hy2) J J J K3 call122 (Zb 8 J J J (Zb 2 J J J (Zb 3 J J J (Zb 4 J J J (Zb 5 J J J Ze))))) J hw) fun _ _=>as_ J<|Zf<|Za<|Zc<|Zc<|Yl (Ib 8 (v':= .int .i64 ((chv (chx (Zs zs)) (x,y))-(chv (chx (Zs zs)) (x2,y2)))) J (by rw [hO,Zud hz0,Zud hz0]))<|Zg<|mv J<|dt (Yy (i:=7) J J J Ze1 Zbp J J J J)<|tt (Zh (n:=8) (Db _ _ _ _ x2 y2 hx2 hy2 (by rw [hO];exact o2.sz.mono (by omega))) J J J K2 call65 (Zb 8 J J J (Zb 4 J J J (Zb 5 J J J Ze))) J hw) fun _ _=>dt (Pm J J J)<|Zf<|Za<|Zq J (fun h57=>?_) (fun h57=>?_)
  ·have hfz:fat x2 y2 (Hq (Zs zs))=0:=by rw [←hO];exact h57
   exact Zg<|mv J<|dt (Qa J J J ⟨by omega,by omega⟩)<|as_ J<|Zf<|Za<|Zc<|Zg<|mv J<|dt (Oq J J J)<|as_ J<|Zf<|Za<|Zv<|xU hsc results67 J J (by first | rw [crx_t hd hz0 hp2 hfz] | rw [crx_f hd hz0 hp2 hfz])
  ·have hfz:¬fat x2 y2 (Hq (Zs zs))=0:=by rw [←hO];exact h57
   exact Zj<|Za<|Zc<|Zg<|mv J<|dt (Oq J J J)<|as_ J<|Zf<|Za<|Zv<|xU hsc results67 J J (by first | rw [crx_t hd hz0 hp2 hfz] | rw [crx_f hd hz0 hp2 hfz])
theorem Zlg(v w u w2 u2:Value)(zs:List (Int×SL))(x y x2 y2:Int)(hx:bl x.natAbs≤1000000)(hy:bl y.natAbs≤1000000)(hx2:bl x2.natAbs≤1000000)(hy2:bl y2.natAbs≤1000000)(hp:0<y)(hp2:0<y2)(hd:Cvd (Zs zs))(hc:¬0<cmp (x,y) (x2,y2)):Ml prog 24 #[v,.agg #[.bool (decide (x<0)),w,.bool (decide (y<0)),u],.agg #[.bool (decide (x2<0)),w2,.bool (decide (y2<0)),u2]] [pp v zs,d9p w x.natAbs,d9p u y.natAbs,d9p w2 x2.natAbs,d9p u2 y2.natAbs] (.bool (ngb (Pw (Zs zs)) (chx (Zs zs)) (x,y) (x2,y2))):=by
 refine Ya func24 J ntmps24 J K5 ?_
 intro w0 sc hw hsc
 simp only [Zp,Zn]
 have hli:=Zr zs
 have hd7:=hd.l
 have hdz:Sz 1000000 (Zs zs):=hd.v.sz.mono (by omega)
 refine Zc<|Zg<|tt (Xe (i:=6) J J J J J hw) fun bx _=>tt (Xe (i:=7) J J J J J hw) fun bx_2 _=>as_ J<|Zf<|Za<|Zc<|Zc<|Zg<|dt (Yy (i:=6) J J J Ze1 Zbp J J J J)<|dt (Yy (i:=7) J J J Ze1 Zbp J J J J)<|tt (Zh (n:=7) (Zpo _ _ _ _ x y x2 y2) J J J K2 call27 (Zb 2 J J J (Zb 3 J J J (Zb 4 J J J (Zb 5 J J J Ze)))) J hw) fun _ _=>dt (Pm J J J)<|Zf<|Za<|Zq J (fun h65=>?_) (fun h65=>?_)
 ·exact Zc<|Zg<|mv J<|dt (Yy (i:=6) J J J Ze1 Zbp J J J J)<|tt (Zh (n:=7) (Db _ _ _ _ x y hx hy hdz) J J J K2 call65 (Zb 1 J J J (Zb 2 J J J (Zb 3 J J J Ze))) J hw) fun _ _=>dt (Xu J J J)<|as_ J<|Zf<|Za<|Zv<|Xc<|xU hsc results24 J J (by rw [ngb_e (show cmp (x,y) (x2,y2)=0 by assumption)])
 ·refine Zj<|Za<|Zc<|Zg<|mv J<|dt (Yy (i:=6) J J J Ze1 Zbp J J J J)<|tt (Zh (n:=7) (Db _ _ _ _ x y hx hy hdz) J J J K2 call65 (Zb 1 J J J (Zb 2 J J J (Zb 3 J J J Ze))) J hw) fun _ _=>dt (Xu J J J)<|mv J<|Qu (d:=19) J (fun s68=>?_) (fun s68=>?_)
  ·exact gsk J J J<|gsk J J J<|gsk J J J<|gsk J J J<|dt (Xh J J J)<|mv J<|gsk J J J<|gsk J J J<|gsk J J J<|gsk J J J<|dt (Xh J J J)<|mv J<|gsk J J J<|gsk J J J<|gsk J J J<|gsk J J J<|dt (Xh J J J)<|as_ J<|Zf<|Za<|Zv<|xU hsc results24 J J (by first | rw [Zw9 hd hp hp2 hc ‹_›] | rw [Zw8 hd hp hp2 hc ‹_›] | rw [Zw7 (show ¬cmp (x,y) (x2,y2)=0 by assumption) ‹_›] | rw [Zw6 (show ¬cmp (x,y) (x2,y2)=0 by assumption) ‹_›])
  ·refine gdt (Ym J J) J J<|gdt (Yy (i:=7) J J J Ze1 Zbp J J J J) J J<|gtt (Zh (n:=7) (Db _ _ _ _ x2 y2 hx2 hy2 hdz) J J J K2 call65 (Zb 1 J J J (Zb 4 J J J (Zb 5 J J J Ze))) J hw) J J J fun _ _=>gdt (Xu J J J) J J<|dt (Yh J J J)<|mv J<|Qu (d:=25) J (fun s68_2=>?_) (fun s68_2=>?_)
   ·exact gsk J J J<|gsk J J J<|gsk J J J<|gsk J J J<|dt (Xh J J J)<|mv J<|gsk J J J<|gsk J J J<|gsk J J J<|gsk J J J<|dt (Xh J J J)<|as_ J<|Zf<|Za<|Zv<|xU hsc results24 J J (by first | rw [Zw9 hd hp hp2 hc ‹_›] | rw [Zw8 hd hp hp2 hc ‹_›] | rw [Zw7 (show ¬cmp (x,y) (x2,y2)=0 by assumption) ‹_›] | rw [Zw6 (show ¬cmp (x,y) (x2,y2)=0 by assumption) ‹_›])
   ·refine gdt (Ym J J) J J<|gdt (Yy (i:=6) J J J Ze1 Zbp J J J J) J J<|gtt (Zh (n:=7) (Znm x y hx hy _ _ _ _ _ 70 hd.v hd.s (by omega) (Nat.lt_succ_self _)) J J J K2 call66 (Zb 1 J J J (Zb 2 J J J (Zb 3 J J J Ze))) J hw) J J J fun _ _=>gdt (Xu J J J) J J<|dt (Yh J J J)<|mv J<|Qu (d:=31) J (fun s68_3=>?_) (fun s68_3=>?_)
    ·exact gsk J J J<|gsk J J J<|gsk J J J<|gsk J J J<|dt (Xh J J J)<|as_ J<|Zf<|Za<|Zv<|xU hsc results24 J J (by first | rw [Zw9 hd hp hp2 hc ‹_›] | rw [Zw8 hd hp hp2 hc ‹_›] | rw [Zw7 (show ¬cmp (x,y) (x2,y2)=0 by assumption) ‹_›] | rw [Zw6 (show ¬cmp (x,y) (x2,y2)=0 by assumption) ‹_›])
    ·exact gdt (Ym J J) J J<|gdt (Yy (i:=6) J J J Ze1 Zbp J J J J) J J<|gdt (Yy (i:=7) J J J Ze1 Zbp J J J J) J J<|gtt (Zh (n:=7) (Zpq _ _ _ _ _ _ x y x2 y2 hx hy hx2 hy2 hp2 hd) J J J K3 call67 (Zb 1 J J J (Zb 2 J J J (Zb 3 J J J (Zb 4 J J J (Zb 5 J J J Ze))))) J hw) J J J fun _ _=>dt (Yh J J J)<|as_ J<|Zf<|Za<|Zv<|xU hsc results24 J J (by first | rw [Zw9 hd hp hp2 hc ‹_›] | rw [Zw8 hd hp hp2 hc ‹_›] | rw [Zw7 (show ¬cmp (x,y) (x2,y2)=0 by assumption) ‹_›] | rw [Zw6 (show ¬cmp (x,y) (x2,y2)=0 by assumption) ‹_›])
abbrev rqz (a:R2):RZ:=((decide (a.1<0),Qq a.1.natAbs),(decide (a.2<0),Qq a.2.natAbs))
theorem Fnd.fat{xs:List Int}{s t:Rat}{m:R2}(h:Fnd xs s t m):Go.Sky.fat m.1 m.2 xs<0:=(Zl3 h.lw.1).2 h.ng
theorem Zr3{r:RWL}(hok:okP r=true)(hl:r.length≤7){n:Nat}(hn:n<5000) :
  [] ++ r ++ [((false,⟨(((List.replicate (n/8+1) 0).set 0 (1*2^(n%8))).map (fun x:Nat=>UInt8.ofNat x)).toArray⟩):Bool×ByteArray)]=(dec r ++ [(2:Int)^n]).map wr∧Vp (dec r ++ [(2:Int)^n])∧(dec r ++ [(2:Int)^n]).length≤8:=by
 obtain⟨h3,h4⟩:=Zke hok
 have h5:=congrArg List.length h4
 rw [List.length_map]at h5
 have hp:=Zws n
 refine⟨?_,⟨Sz.of_mem fun c hc=>?_,.inr ?_,?_⟩,?_⟩
 ·rw [List.nil_append,List.map_append,←h4,List.map_singleton]
  congr 1
  rw [Nat.one_mul]
  show [_]=[(decide ((2:Int)^n<0),Qq ((2:Int)^n).natAbs)]
  rw [Zut,decide_eq_false (by omega)]
 ·rcases List.mem_append.1 hc with h | h
  ·exact h3.sz.mem h
  ·rw [List.mem_singleton.1 h,bl_pow2];omega
 ·rw [show(dec r ++ [(2:Int)^n]).length-1=(dec r).length by simp]
  unfold cf
  simp [List.getD_eq_getElem?_getD]
  omega
 ·simp;omega
 ·simp;omega
theorem flo_b{xs:List Int}{m:Int}(hd:Cvd xs)(hs:Sz 40 xs)(h1:¬Bs xs m)(h2:Bs xs (m+1)):bl m.natAbs≤50∧bl (m+1).natAbs≤50:=by
 have hF:=FlI.start hs hd.l (Nat.le_refl xs.length)
 have a1:=Zez hF.l h2
 have a2:=Zez h1 hF.h
 have b1:=hF.b1
 have b2:=hF.b2
 have c1:=Br (z:=m) (by omega)
 have c2:=Br (z:=m+1) (by omega)
 omega
theorem Zw4{xs:List Int}{m:Int}(h:Cvd (Hl xs m))(hl:¬Bs xs m):ngb (Pw (Hl xs m)) (chx (Hl xs m)) (0,1) (1,1)=false:=by
 cases e:ngb (Pw (Hl xs m)) (chx (Hl xs m)) (0,1) (1,1)with
 | false=>rfl
 | true=>exact absurd ((Gz h).1 e) hl
theorem Znl(v w:Value)(zs:List (Int×SL))(m:Int)(hs:Sz 1000000 (Zs zs))(hl:zs.length≤1000:=by omega)(hm:bl m.natAbs≤1000000:=by omega):Cal prog 36 #[v,.agg #[.bool (decide (m<0)),w]] [pp v zs,d9p w m.natAbs] true (G:=Value×List (Int×SL)) (fun r=>Zs r.2=Hl (Zs zs) m) (fun r=>r.1) (fun r=>[pp r.1 r.2]):=by
 refine Ya func36 J ntmps36 J K2 ?_
 intro w0 sc hw hsc
 simp only [Zp,Zn]
 have hli:=Zr zs
 refine e_ex (On 2 J Zi) (fun s2 hs2=>?_)
 subst hs2
 have hsm:∀k,k≥1000000→Sz k (Zs [(m,s2)]):=fun k hk=>Sz.of_mem fun x hx=>by rw [List.mem_singleton.1 hx];dsimp only;omega
 exact Zc<|Zg<|tt (Xe (i:=3) J J J J J hw) fun bx _=>as_ J<|Zf<|Za<|Zc<|Zg<|mv J<|dt (Zz (i:=3) J J J Lg Qe J J)<|tt (Pn (i:=70) (ivs:=[(0,_)]) (enc:=Es) [(m,s2)] J J K2 Nc ti48 J J J J J pI.cells J J hw) fun v _=>Pr (Nz qI 71)<|Pr (Pj (q:=qI) (z:=(m,s2)) 71 2 71 J J J J J)<|Pr (Qz 70 J J pI)<|Pr (Ma 70 71 72 J J J J)<|tt (Zh (n:=4) (Ah _ _ (hsm _ (by omega))) J J J K1 call89 (Zb 72 J J J Ze) J hw) fun g hg=>tt (Zh (n:=5) (Zje _ _ _ _ hs (by rw [hg];exact(Sz.tzl (hsm _ (by omega)))) hl (by have h7:=congrArg List.length hg;have h8:=Hu (Zs [(m,s2)]);rw [Zr]at h7;rw [Zr]at h8;simp only [List.length_cons,List.length_nil]at h8;omega)) J J J K2 call88 (Zb 1 J J J (Zb 4 J J J Ze)) J hw) fun g_2 hg_2=>as_ J<|Zf<|Za<|Zv<|Yn (.inl J) hsc _ _ (fun a w hs=>Nn hs results36 J) J (by rw [hg_2,hg]<;>rfl) J (Xa 5 J J J Zk)
theorem Znk(c:Bool)(v w u w2 u2:Value)(zs:List (Int×SL))(x y x2 y2:Int)(hx:bl x.natAbs≤1000000)(hy:bl y.natAbs≤1000000)(hx2:bl x2.natAbs≤1000000)(hy2:bl y2.natAbs≤1000000)(hd:Cvd (Zs zs))(hn:ngb (Pw (Zs zs)) (chx (Zs zs)) (x,y) (x2,y2)=c)(hp:0<y:=by decide)(hp2:0<y2:=by decide)(hc:¬0<cmp (x,y) (x2,y2):=by decide):Cal Tryz.prog 24 #[v,.agg #[.bool (decide (x<0)),w,.bool (decide (y<0)),u],.agg #[.bool (decide (x2<0)),w2,.bool (decide (y2<0)),u2]] [pp v zs,d9p w x.natAbs,d9p u y.natAbs,d9p w2 x2.natAbs,d9p u2 y2.natAbs] false (G:=Unit) (fun _=>True) (fun _=> .bool c) (fun _=>[]):=by
 rw [←hn];exact Zlg v w u w2 u2 zs x y x2 y2 hx hy hx2 hy2 hp hp2 hd hc
set_option maxHeartbeats 4000000 in
theorem Zl2(v:Value)(r:List (Bool×ByteArray))(b:Int)(hs:smR r=false):Ml prog 6 #[v,.int .i64 b] [slp 2 Zie v r] (.bool true):=by
 refine Ya func6 J ntmps6 J K1 ?_
 intro w0 sc hw hsc
 simp only [Zp,Zn]
 exact Yl (Nj 999 2 31 wv)<|Yl (Qz 999 J J pV)<|Zc<|Zg<|as_ J<|Zf<|Za<|Zc<|Zc<|Zg<|mv J<|tt (Zh (n:=1) (Zb9 _ _) J J J K1 call10 (Zb 1 J J J Ze) J hw) fun _ _=>dt (Yc (r':= .bool true) (Xp J J) (congrArg Value.bool (by rw [hs];rfl)))<|Zf<|Za<|Ov J<|Zc<|Zg<|tt (Zh (n:=1) (Kw) J J J trivial call11 Ze J hw) fun _ _=>as_ J<|Zf<|Za<|Zv<|Xc<|xU hsc results6 J J J
set_option maxHeartbeats 4000000 in
theorem Zj0(v:Value)(r:List (Bool×ByteArray))(b:Int)(hs:smR r=true)(hno:okP r=false):Ml prog 6 #[v,.int .i64 b] [slp 2 Zie v r] (.bool true):=by
 refine Ya func6 J ntmps6 J K1 ?_
 intro w0 sc hw hsc
 simp only [Zp,Zn]
 refine Yl (Nj 999 2 31 wv)<|Yl (Qz 999 J J pV)<|Zc<|Zg<|as_ J<|Zf<|Za<|Zc<|Zc<|Zg<|mv J<|tt (Zh (n:=1) (Zb9 _ _) J J J K1 call10 (Zb 1 J J J Ze) J hw) fun _ _=>dt (Yc (r':= .bool false) (Xp J J) (congrArg Value.bool (by rw [hs];rfl)))<|Zf<|Za<|Ye J<|Zj<|Za<|Zc<|Zg<|mv J<|tt (Zh (n:=1) (Zjd _ _ hno) J J J K1 call33 (Zb 1 J J J Ze) J hw) fun _ _=>mv J<|dt (Yf J J J)<|dt (Yf J J J)<|tt (Zo (i:=2) J J zeroValue31 J J hw) fun bx _=>tt (Zm (i:=2) J J J J J (by decide) J Yj J J ⟨Zd J,Zd J,trivial⟩ J hw trivial) fun _ _=>as_ J<|Zf<|Za<|Zc<|Zg<|tt (Zh (n:=3) (Cd _ ⟨by decide,by decide⟩) J J J K1 call34 Ze J hw) fun v _=>tt (Zh (n:=4) (Cd _ ⟨by decide,by decide⟩) J J J K1 call34 Ze J hw) fun v_2 _=>dt (Pz (ivs:=[(0,_),(1,_)]) J K4 (fun a w hs=>Zo2))<|tt (Zh (n:=5) (Cd _ ⟨by decide,by decide⟩) J J J K1 call34 Ze J hw) fun v_3 _=>tt (Zh (n:=6) (Cd _ ⟨by decide,by decide⟩) J J J K1 call34 Ze J hw) fun v_4 _=>dt (Pz (ivs:=[(0,_),(1,_)]) J K4 (fun a w hs=>Zo2)) ?_
 exact tt (Zo (i:=7) J J zeroValue50 J J hw) fun bx_2 _=>tt (Zo (i:=8) J J zeroValue50 J J hw) fun bx_3 _=>tt (Zm (i:=7) J J J J J (by decide) J Zbp J J ⟨Zd J,Zt (i:=3) J Zi,Zd J,Zt (i:=4) J Zi,trivial⟩ J hw trivial) fun _ _=>tt (Zm (i:=8) J J J J J (by decide) J Zbp J J ⟨Zd J,Zt (i:=5) J Zi,Zd J,Zt (i:=6) J Zi,trivial⟩ J hw trivial) fun _ _=>Zf<|Za<|Zc<|Zc<|Zg<|mv J<|tt (Zh (n:=8) (Znd _ _) J J J K1 call13 (Zb 1 J J J Ze) J hw) fun _ _=>dt (Yc (r':= .bool true) (Xp J J) (congrArg Value.bool (by rw [hno];rfl)))<|Zf<|Za<|Ov J<|Zc<|Zg<|dt (Zz (i:=2) J J J Qj Yj J J)<|dt (Pz (ivs:=[]) J trivial (fun a w hs=>Zye))<|dt (Yc (r':= .bool true) (Zii J J J eg31 (fun w=>eql31 w _ _ _ _)) (congrArg Value.bool (by simp [Hz])))<|mv J<|gdt (Ym J J) J J<|gdt (Yc (r':= .bool true) (Pm J J J) (congrArg Value.bool (by decide))) J J<|dt (Xh J J J)<|mv J<|gtt (Zh (n:=8) (Kw) J J J trivial call11 Ze J hw) J J J fun _ _=>dt (Xh J J J)<|as_ J<|Zf<|Za<|Zv<|Xc<|xU hsc results6 J J J
set_option maxHeartbeats 4000000 in
theorem Zl1(v:Value)(r:List (Bool×ByteArray))(b:Int)(hs:smR r=true)(hok:okP r=true):Ml prog 6 #[v,.int .i64 b] [slp 2 Zie v r] (.bool true):=by
 refine Ya func6 J ntmps6 J K1 ?_
 intro w0 sc hw hsc
 simp only [Zp,Zn]
 obtain⟨hd,hs32,hlr⟩:=sm_dec hs hok
 obtain⟨hr7,-⟩:=smR_le hs
 have hs40:Sz 40 (dec r):=hs32.mono (by omega)
 have hd7:=hd.l
 refine Yl (Nj 999 2 31 wv)<|Yl (Qz 999 J J pV)<|Zc<|Zg<|as_ J<|Zf<|Za<|Zc<|Zc<|Zg<|mv J<|tt (Zh (n:=1) (Zb9 _ _) J J J K1 call10 (Zb 1 J J J Ze) J hw) fun _ _=>dt (Yc (r':= .bool false) (Xp J J) (congrArg Value.bool (by rw [hs];rfl)))<|Zf<|Za<|Ye J<|Zj<|Za<|Zc<|Yl (Zk8 (q:=slp 2 wv _ (dec r)) 1 88 J J J (Zq2 hok _) (fun _ h=>h) J)<|Zg<|mv J<|tt (Zh (n:=1) (Zc8 _ (dec r) hd hs40) J J J K1 call33 (Zb 88 J J J Ze) J hw) (fun g hg=>?_)
 have hgb:=hg.2.2
 obtain⟨hb1,hb2⟩:=flo_b hd hs40 hg.1 hg.2.1
 have hc1:=(Za1 hd hs40 hb1).1
 have hc2:=(Za1 hd hs40 hb2).1
 refine mv J<|dt (Yf J J J)<|dt (Yf J J J)<|tt (Zo (i:=2) J J zeroValue31 J J hw) fun bx _=>tt (Zm (i:=2) J J J J J (by decide) J Yj J J ⟨Zd J,Zd J,trivial⟩ J hw trivial) fun _ _=>as_ J<|Zf<|Za<|Zc<|Zg<|tt (Zh (n:=3) (Cd 0 ⟨by decide,by decide⟩) J J J K1 call34 Ze J hw) fun v _=>tt (Zh (n:=4) (Cd 1 ⟨by decide,by decide⟩) J J J K1 call34 Ze J hw) fun v_2 _=>dt (Pz (ivs:=[(0,_),(1,_)]) J K4 (fun a w hs=>Zo2))<|tt (Zh (n:=5) (Cd 1 ⟨by decide,by decide⟩) J J J K1 call34 Ze J hw) fun v_3 _=>tt (Zh (n:=6) (Cd 1 ⟨by decide,by decide⟩) J J J K1 call34 Ze J hw) fun v_4 _=>dt (Pz (ivs:=[(0,_),(1,_)]) J K4 (fun a w hs=>Zo2))<|tt (Zo (i:=7) J J zeroValue50 J J hw) fun bx_2 _=>tt (Zo (i:=8) J J zeroValue50 J J hw) fun bx_3 _=>tt (Zm (i:=7) J J J J J (by decide) J Zbp J J ⟨Zd J,Zt (i:=3) J Zi,Zd J,Zt (i:=4) J Zi,trivial⟩ J hw trivial) fun _ _=>tt (Zm (i:=8) J J J J J (by decide) J Zbp J J ⟨Zd J,Zt (i:=5) J Zi,Zd J,Zt (i:=6) J Zi,trivial⟩ J hw trivial) fun _ _=>Zf<|Za<|Zc<|Zc<|Zg<|mv J ?_
 refine tt (Zh (n:=8) (Znd _ _) J J J K1 call13 (Zb 1 J J J Ze) J hw) fun _ _=>dt (Yc (r':= .bool false) (Xp J J) (congrArg Value.bool (by rw [hok];rfl)))<|Zf<|Za<|Ye J<|Zj<|Za<|Zc<|Zc<|Zg<|mv J<|dt (Yc (r':= .bool false) (Qb J J J) (congrArg Value.bool (by decide)))<|mv J<|gdt (Zz (i:=2) J J J Qj Yj J J) J J<|gtt (Zh (n:=8) (Zro _ _) J J J K1 call35 Ze J hw) J J J fun _ _=>gdt (Yc (r':= .bool false) (Xp J J) (congrArg Value.bool (by rw [Bz (show bl g.natAbs≤65536 by omega)];rfl))) J J<|dt (Yh J J J)<|Zf<|Za<|Ye J<|Zj<|Za<|Dj [(0,_),(1,_),(5,_),(7,_),(8,_)] [(0,_),(1,_),(999,_),(88,_),(2,_),(3,_),(4,_),(5,_),(6,_),(7,_),(8,_)] (fun(q:Value×List (Int×SL)×Value×Nat)=>[(9,q.1),(10,.pointer (some ⟨q.2.2.2,0,none⟩))]) (fun(q:Value×List (Int×SL)×Value×Nat)=>[(60,pp q.1 q.2.1),(61,d9p q.2.2.1 g.natAbs),(97,box q.2.2.2 48 #[.bool (decide (g<0)),q.2.2.1])]) (fun(q:Value×List (Int×SL)×Value×Nat)=>Zs q.2.1=dec r) K5 K11 ?_ ?_
 ·refine Hb (fun _=>False) [6]<|Zy (n:=5) [(0,0),(2,0)]<|r0' J J (st0 (Ym J J))<|r0' J J (st0 (Zz (i:=2) J J J Qj Yj J J))<|Yo<|Pu (n:=4) 1 4 ?_ ?_
  ·refine Yp J (Zh (n:=60) (Zej _ _ hok) J J J K1 call16 (Zb 1 J J J Ze) J hw) fun g_2 hg_2=>Pu (n:=3) 3 4 ?_ ?_
   ·exact Yp J (Zh (n:=61) (Znj _) J J J K1 call30 Ze J hw) fun v_5 _=>Zy (n:=0) [(4,1),(5,0),(6,3)]<|r1' J (Zo (i:=97) J J zeroValue48 J J hw) fun bx_4 _=>r0' J J (st0 (Lq J J))<|r3' J (Zm (i:=97) J J J J J (by decide) J Qe J J ⟨Zd J,Zt (i:=61) J Zi,trivial⟩ J hw trivial) fun _ _=>Yo<|Yg<|Qy (g_2.1,g_2.2,v_5,_) (hg_2) K7 K14
   ·exact Yp J (Zo (i:=97) J J zeroValue48 J J hw) fun bx_5 _=>Zy (n:=0) [(3,1),(5,0),(6,3)]<|r1' J (Zh (n:=61) (Znj _) J J J K1 call30 Ze J hw) fun v_6 _=>r0' J J (st0 (Lq J J))<|r3' J (Zm (i:=97) J J J J J (by decide) J Qe J J ⟨Zd J,Zt (i:=61) J Zi,trivial⟩ J hw trivial) fun _ _=>Yo<|Yg<|Qy (g_2.1,g_2.2,v_6,_) (hg_2) K7 K14
  ·exact Yp J (Zo (i:=97) J J zeroValue48 J J hw) fun bx_6 _=>Zy (n:=0) [(1,1),(3,1),(5,0),(6,3)]<|r1' J (Zh (n:=60) (Zej _ _ hok) J J J K1 call16 (Zb 1 J J J Ze) J hw) fun g_3 hg_3=>r1' J (Zh (n:=61) (Znj _) J J J K1 call30 Ze J hw) fun v_7 _=>r0' J J (st0 (Lq J J))<|r3' J (Zm (i:=97) J J J J J (by decide) J Qe J J ⟨Zd J,Zt (i:=61) J Zi,trivial⟩ J hw trivial) fun _ _=>Yo<|Yg<|Qy (g_3.1,g_3.2,v_7,_) (hg_3) K7 K14
 ·rintro⟨vx,zz,w1,b7⟩ hG
  dsimp only at hG
  simp only [CA,NA]
  have hgl9:=congrArg List.length hG
  rw [Zr]at hgl9
  refine Zc<|Zc<|Ql (fun _=>False) [(0,0),(1,0),(3,0),(4,0),(2,1),(5,1),(6,0),(7,0),(8,0),(12,0),(13,0),(9,1),(10,1),(11,1),(14,1),(15,0),(16,0)] ?_ ?_
  ·kernel_rfl
  refine r0' J J (st0 (Ym J J))<|r0' J J (st0 (Zz (i:=97) J J J Lg Qe J J))<|r0' J J (st0 (Yy (i:=7) J J J Ze1 Zbp J J J J))<|r0' J J (st0 (Yy (i:=8) J J J Ze1 Zbp J J J J))<|r1' J (Zh (n:=9) (Znl _ _ _ g (by rw [hG];exact hd.v.sz.mono (by omega))) J J J K2 call36 (Zb 60 J J J (Zb 61 J J J Ze)) J hw) fun g_4 hg_4=>r1' J (Zh (n:=9) (Znk false _ _ _ _ _ _ 0 1 1 1 (by decide +kernel) (by decide +kernel) (by decide +kernel) (by decide +kernel) (by rw [hg_4,hG];exact hc1) (by rw [hg_4,hG];exact Zw4 hc1 hg.1)) J J J K3 call24 (Zb 9 J J J (Zb 3 J J J (Zb 4 J J J (Zb 5 J J J (Zb 6 J J J Ze))))) J hw) fun _ _=>r0' J J (st0 (Ym J J))<|r0g (st0 (Ym J J)) J J J J J<|r0g (st0 (Zz (i:=97) J J J Lg Qe J J)) J J J J J<|r0g (st0 (Yy (i:=7) J J J Ze1 Zbp J J J J)) J J J J J<|r0g (st0 (Yy (i:=8) J J J Ze1 Zbp J J J J)) J J J J J<|r1g' J J J J J (Zh (n:=10) (Cd 1 ⟨by decide,by decide⟩) J J J K1 call34 Ze J hw) fun v_8 _=>r1g' J J J J J (Zh (n:=11) (Zpp _ _ g 1 (by omega) (by decide +kernel)) J J J K2 call37 (Zb 61 J J J (Zb 10 J J J Ze)) J hw) (fun v_9 _=>?_)
  refine r1g' J J J J J (Zh (n:=12) (Znl _ _ _ (g+1) (by rw [hG];exact hd.v.sz.mono (by omega))) J J J K2 call36 (Zb 60 J J J (Zb 11 J J J Ze)) J hw) fun g_5 hg_5=>r1g' J J J J J (Zh (n:=12) (Znk true _ _ _ _ _ _ 0 1 1 1 (by decide +kernel) (by decide +kernel) (by decide +kernel) (by decide +kernel) (by rw [hg_5,hG];exact hc2) (by rw [hg_5,hG];exact(Gz hc2).2 hg.2.1)) J J J K3 call24 (Zb 12 J J J (Zb 3 J J J (Zb 4 J J J (Zb 5 J J J (Zb 6 J J J Ze))))) J hw) fun _ _=>r0g (st0 (Xp J J)) J J J J J<|r0' J J (st0 (Yh J J J))<|Og<|Za<|Ye J<|Zj<|Za<|Zc<|Zc<|Zg<|mv J<|dt (Xu J J J)<|mv J<|Qu (d:=71) J (fun s223=>?_) (fun s223=>?_)
  ·exact gsk J J J<|gsk J J J<|dt (Xh J J J)<|Zf<|Za<|Ov J<|Zc<|Zg<|tt (Zh (n:=12) (Kw) J J J trivial call11 Ze J hw) fun _ _=>as_ J<|Zf<|Za<|Zv<|Xc<|xU hsc results6 J J J
  ·refine gdt (Ym J J) J J<|gdt (Oq J J J) J J<|dt (Yh J J J)<|Zf<|Za<|Zq J (fun h223=>?_) (fun h223=>?_)
   ·exact Zc<|Zg<|tt (Zh (n:=12) (Kw) J J J trivial call11 Ze J hw) fun _ _=>as_ J<|Zf<|Za<|Zv<|Xc<|xU hsc results6 J J J
   ·obtain⟨n,rfl⟩:∃n:Nat,b=(n:Int)+1:=⟨(b-1).toNat,by omega⟩
    have h8:1*2^(n%8)<256:=by rw [Nat.one_mul];exact Nat.lt_of_lt_of_le (Nat.pow_lt_pow_right (by decide) (Nat.mod_lt n (by decide))) (by decide)
    refine Zj<|Za<|Zc<|Zg<|mv J<|dt (Ys J J J ⟨by omega,by omega⟩)<|dt (Zih J J J)<|tt (Hr (i:=13) (n:=(n/8+1)) (by_:=1) (enc:=Zqa) 0 J J J J Zkv ti5 J pB.cells pB.pos J J J hw) fun v_10 _=>as_ J<|Zf<|Za<|Zc<|Zg<|mv J<|mv J<|dt (Qa J J J ⟨by omega,by omega⟩)<|dt (Zkf J J J)<|dt (d_shl8 (m:=1) (n:=n%8) J J J (by omega) (by omega) h8)<|dt (Yw (ii:=13) (i:=0) J J J J (Yq pB) Zkv sizeOf5 J (by simp))<|tt (Kz (i:=13) (enc:=Zqa) (1*2^(n%8)) J J J J J J pB J hw (by decide) (by simp)) fun _ _=>Zf<|Za<|Zc<|Yl (Nj 75 2 31 Zie)<|Oo [13] [7]<|Zy (n:=4) [(0,0),(2,0),(3,0),(4,0)]<|r0' J J (stf (Ym J J) K1)<|r0' J J (stf (Ym J J) K1)<|r0' J J (stf (d_b2s J J (i:=13) J (Yq pB) Zkv uT9 uT5) K1)<|r0' J J (stf (Pz (ivs:=[(1,_)]) J K2 (fun a w hs=>b31_1 ((Zd J) a w hs))) K1)<|Yo<|Pu (n:=3) 1 5 ?_ ?_
    ·refine Yp J (Du 75 J J J K1 (fun hoffr=>(Gg (i:=75) (j:=1) (by_:=24) J J J J J J (by decide) J Zi Qp ti31 J pW J J J (by simp;omega) (by decide) J hw hoffr))) fun v_11 _=>Zy (n:=0) [(5,1),(6,1),(7,3)]<|r1' J (Pn (i:=14) (ivs:=[(0,_)]) (enc:=Zie) [(false,⟨(((List.replicate (n/8+1) 0).set 0 (1*2^(n%8))).map (fun x:Nat=>UInt8.ofNat x)).toArray⟩)] J J K2 Qp ti31 J J J J J pW.cells J J hw) fun v_12 _=>r1' J (Du 75 J J J K1 (fun hoffr=>(Gg (i:=75) (j:=14) (by_:=24) J J J J J J (by decide) J (Yq pW) Qp ti31 J pW J J J (by simp;omega) (by decide) J hw hoffr))) fun v_13 _=>r3' J (Px (Lq J J) J) fun _ _=>Yo<|Yg<|Za<|Zc<|Zc ?_
     obtain⟨hpe,hpv,hpl⟩:=Zr3 hok hr7 (n:=n) (by omega)
     refine Yl (Zcx 75 hpe J J)<|Yl (Qz 75 J J pW)<|Yl (Zk8 (q:=slp 2 wv _ (dec r ++ [(2:Int)^n])) 75 89 J J J (Zg9 _ (dec r ++ [(2:Int)^n])) (fun _ h=>h) J)<|Zg<|mv J<|tt (Zh (n:=15) (Zk9 _ (dec r ++ [(2:Int)^n]) (hpv.sz.mono (by omega))) J J J K1 call16 (Zb 89 J J J Ze) J hw) (fun g_6 hg_6=>?_)
     have hY:Zs g_6.2=(dec r ++ [(2:Int)^n]):=hg_6
     refine tt (Zh (n:=15) (Zrt _ 8 _ (by rw [hg_6];exact hpv.sz.mono (by omega)) (by have h7:=congrArg List.length hg_6;rw [Zr]at h7;omega)) J J J K2 call15 (Zb 15 J J J Ze) J hw) fun _ _=>Zf<|Za<|Zq J (fun h229=>?_) (fun h229=>?_)
     ·exact Zc<|Zg<|tt (Zh (n:=15) (Kw) J J J trivial call11 Ze J hw) fun _ _=>as_ J<|Zf<|Za<|Zv<|Xc<|xU hsc results6 J J J
     ·have hnf:¬Dn (dec r ++ [(2:Int)^n]) 8:=by rw [←hY];exact h229
      exact Zj<|Za<|Zc<|Zg<|mv J<|tt (Zh (n:=15) (Zam _ (dec r ++ [(2:Int)^n]) hpv hnf) J J J K1 call33 (Zb 89 J J J Ze) J hw) fun _ _=>mv J<|dt (Yf J J J)<|dt (Yf J J J)<|tt (Zm (i:=2) J J J J J (by decide) J Yj J J ⟨Zd J,Zd J,trivial⟩ J hw trivial) fun _ _=>as_ J<|Zf<|Za<|Zc<|Zg<|dt (Zz (i:=2) J J J Qj Yj J J)<|dt (Pz (ivs:=[]) J trivial (fun a w hs=>Zye))<|dt (Yc (r':= .bool true) (Zii J J J eg31 (fun w=>eql31 w _ _ _ _)) (congrArg Value.bool (by simp [Hz])))<|mv J<|gdt (Ym J J) J J<|gdt (Yc (r':= .bool true) (Pm J J J) (congrArg Value.bool (by decide))) J J<|dt (Xh J J J)<|mv J<|gtt (Zh (n:=15) (Kw) J J J trivial call11 Ze J hw) J J J fun _ _=>dt (Xh J J J)<|as_ J<|Zf<|Za<|Zv<|xU hsc results6 J J J
    ·refine Yp J (Pn (i:=16) (ivs:=[(0,_)]) (enc:=Zie) [(false,⟨(((List.replicate (n/8+1) 0).set 0 (1*2^(n%8))).map (fun x:Nat=>UInt8.ofNat x)).toArray⟩)] J J K2 Qp ti31 J J J J J pW.cells J J hw) fun v_14 _=>Zy (n:=0) [(1,1),(6,1),(7,3)]<|r1' J (Du 75 J J J K1 (fun hoffr=>(Gg (i:=75) (j:=1) (by_:=24) J J J J J J (by decide) J Zi Qp ti31 J pW J J J (by simp;omega) (by decide) J hw hoffr))) fun v_15 _=>r1' J (Du 75 J J J K1 (fun hoffr=>(Gg (i:=75) (j:=16) (by_:=24) J J J J J J (by decide) J (Yq pW) Qp ti31 J pW J J J (by simp;omega) (by decide) J hw hoffr))) fun v_16 _=>r3' J (Px (Lq J J) J) fun _ _=>Yo<|Yg<|Za<|Zc<|Zc ?_
     obtain⟨hpe,hpv,hpl⟩:=Zr3 hok hr7 (n:=n) (by omega)
     refine Yl (Zcx 75 hpe J J)<|Yl (Qz 75 J J pW)<|Yl (Zk8 (q:=slp 2 wv _ (dec r ++ [(2:Int)^n])) 75 89 J J J (Zg9 _ (dec r ++ [(2:Int)^n])) (fun _ h=>h) J)<|Zg<|mv J<|tt (Zh (n:=17) (Zk9 _ (dec r ++ [(2:Int)^n]) (hpv.sz.mono (by omega))) J J J K1 call16 (Zb 89 J J J Ze) J hw) (fun g_7 hg_7=>?_)
     have hY:Zs g_7.2=(dec r ++ [(2:Int)^n]):=hg_7
     refine tt (Zh (n:=17) (Zrt _ 8 _ (by rw [hg_7];exact hpv.sz.mono (by omega)) (by have h7:=congrArg List.length hg_7;rw [Zr]at h7;omega)) J J J K2 call15 (Zb 17 J J J Ze) J hw) fun _ _=>Zf<|Za<|Zq J (fun h229_2=>?_) (fun h229_2=>?_)
     ·exact Zc<|Zg<|tt (Zh (n:=17) (Kw) J J J trivial call11 Ze J hw) fun _ _=>as_ J<|Zf<|Za<|Zv<|Xc<|xU hsc results6 J J J
     ·have hnf:¬Dn (dec r ++ [(2:Int)^n]) 8:=by rw [←hY];exact h229_2
      exact Zj<|Za<|Zc<|Zg<|mv J<|tt (Zh (n:=17) (Zam _ (dec r ++ [(2:Int)^n]) hpv hnf) J J J K1 call33 (Zb 89 J J J Ze) J hw) fun _ _=>mv J<|dt (Yf J J J)<|dt (Yf J J J)<|tt (Zm (i:=2) J J J J J (by decide) J Yj J J ⟨Zd J,Zd J,trivial⟩ J hw trivial) fun _ _=>as_ J<|Zf<|Za<|Zc<|Zg<|dt (Zz (i:=2) J J J Qj Yj J J)<|dt (Pz (ivs:=[]) J trivial (fun a w hs=>Zye))<|dt (Yc (r':= .bool true) (Zii J J J eg31 (fun w=>eql31 w _ _ _ _)) (congrArg Value.bool (by simp [Hz])))<|mv J<|gdt (Ym J J) J J<|gdt (Yc (r':= .bool true) (Pm J J J) (congrArg Value.bool (by decide))) J J<|dt (Xh J J J)<|mv J<|gtt (Zh (n:=17) (Kw) J J J trivial call11 Ze J hw) J J J fun _ _=>dt (Xh J J J)<|as_ J<|Zf<|Za<|Zv<|xU hsc results6 J J J
theorem Zxm(v:Value)(r:List (Bool×ByteArray))(b:Int):Cal Tryz.prog 6 #[v,.int .i64 b] [slp 2 Zie v r] false (G:=Unit) (fun _=>True) (fun _=> .bool true) (fun _=>[]):=by
 cases h:smR r with
 | false=>exact Zl2 v r b h
 | true=>
  cases h2:okP r with
  | false=>exact Zj0 v r b h h2
  | true=>exact Zl1 v r b h h2
end Go.Sky
namespace Go.Proofs.YtcmiiammekgooaaGreat
open Go.ChangeShapes Go.WideShapes Go.ChangeAt Go.RowKit Go.Joins Go.Deep Go.Sky
theorem own:ownKnob Tryz.prog.godebug=none:=by kernel_rfl
theorem Zs4:laidOutB Tryz.prog=true:=by kernel_rfl
set_option maxRecDepth 100000 in
theorem lifted(os:Os)(started:os.Started)(H:Type)(enc:TypeId×Value→H) :
  ReturnsInHanded {} Tryz.checked os 6 .any (Rows.signFloorsSpec.pre6 enc Tryz.prog Tryz.f6 Rows.signFloorsRow.domain false) (Rows.signFloorsSpec.post enc Tryz.prog Tryz.f6 false true false false):=by
 refine returnsInHanded_of_change (C:=Tryz.checked) own started (by kernel_rfl) Tryz.func6
  (ChangeSpec.witness6 (enc:=enc) (C:=Tryz.checked) false ⟨#[],#[.slice none 0 0,.int .i64 0],[]⟩ 8 (by kernel_rfl) (by kernel_rfl) (by kernel_rfl) (by kernel_rfl)) ?_
 intro W base args ds gs before hval0 hW hcnd _
 have hval:∀(j:Nat) t v,Tryz.f6.params[j]? = some t→args[j]? = some v→Value.okWide Tryz.prog W .any base t v:=hval0
 have hW':=hW
 obtain⟨p,q,hA0,hV,rfl,hfz,hnd⟩:=hW
 have hA:DataW.TrodAll enc Tryz.prog W 0 (fun _=>true) true Tryz.f6.params.toList args.toList ds p:=hA0
 rw [Tryz.params6]at hA hval
 obtain⟨v0,vs0,d0,ds0,p0,q0,hargs,rfl,rfl,h0,r0⟩:=trodAll_cons hA
 obtain⟨v1,vs1,d1,ds1,p1,q1,rfl,rfl,rfl,h1,r1⟩:=trodAll_cons r0
 obtain⟨rfl,rfl,rfl⟩:=trodAll_nil r1
 obtain rfl:args=#[v0,v1]:=by cases args;simp_all
 obtain⟨rfl,rfl⟩:=trodVars_none hV
 have lt0:∀x∈p0,x.block<W.heap.size:=by obtain⟨m,hm⟩:=h0;exact DataW.trod_lt m _ _ _ hm
 obtain⟨l0,hl0⟩:=Zpv Tryz.underlying23 Tryz.underlying31 (by kernel_rfl) rfl rfl (by kernel_rfl) (by kernel_rfl) (by kernel_rfl) (by kernel_rfl) (hval 0 23 v0 rfl rfl) h0 lt0
 have lt1:∀x∈p1,x.block<W.heap.size:=by obtain⟨m,hm⟩:=h1;exact DataW.trod_lt m _ _ _ hm
 obtain⟨n1,rfl⟩:=okWide_int Tryz.underlying3 (hval 1 3 v1 rfl rfl)
 clear hA0 hval0
 refine(Zxm v0 l0 n1 W (fun p hp=>by cases hp with | head=>exact hl0 | tail _ hp=>cases hp)).mono fun e W' ⟨_,he,_,bel,_⟩=>?_
 subst he
 exact⟨_,rfl,_,_,_,[],_,[],hW',trodAll_mk1 (shut_bool Tryz.underlying4 _),(trodAll_cons_mk (Below.trod Zs4 (by kernel_rfl) (of_decide_eq_true (by kernel_rfl)) h0 bel lt0) (trodAll_cons_mk (Below.trod Zs4 (by kernel_rfl) (of_decide_eq_true (by kernel_rfl)) h1 bel lt1) trodAll_mk0)),rfl,bel.frame _,fun h=>by cases h⟩
theorem x_holds : Rows.SignFloorsSaid :=
 OpenClaim.holds_of_wide 6 Tryz.f6 rfl rfl rfl rfl rfl rfl rfl ⟨rfl,rfl,rfl,rfl,rfl⟩ rfl rfl rfl rfl rfl (by kernel_rfl) Tryz.func6 (by kernel_rfl)
  (of_decide_eq_true (by kernel_rfl)) (by unfold Func.isWrapper;first | (rw [if_pos (by decide +kernel)];kernel_rfl) | (rw [if_neg (by decide +kernel)];exact⟨rfl,rfl⟩))
  (fun os started H enc _=>lifted os started H enc)
#print axioms x_holds
end Go.Proofs.YtcmiiammekgooaaGreat

