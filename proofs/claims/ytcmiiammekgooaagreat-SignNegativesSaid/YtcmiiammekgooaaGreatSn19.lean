/- rules, arithmetic and contracts: part 20
   Proved without conditions of its own: each theorem bears its own. -/
import Derived.Test.YtcmiiammekgooaaGreatSn03
import Derived.Test.YtcmiiammekgooaaGreatSn02
import Derived.Test.YtcmiiammekgooaaGreatSn01
import Derived.Test.YtcmiiammekgooaaGreatSn10
import Derived.Test.YtcmiiammekgooaaGreatSn12
import Derived.Test.YtcmiiammekgooaaGreatSn18
import Derived.Test.YtcmiiammekgooaaGreatSn14
import Derived.Test.YtcmiiammekgooaaGreatSn16
set_option linter.all false
namespace Go.Sky
open Go.Proofs.Tryz
open Go.Proofs
set_option maxRecDepth 20000
set_option maxHeartbeats 4000000
set_option linter.unusedSimpArgs false
set_option maxHeartbeats 4000000 in
theorem r3_rem(v u:Value)(zs ys:List (Int×SL))(F:Nat)(hl:zs.length≤30)(hk:ys.length≤30)(hy0:0<ys.length)(htz:Tr (Zt zs))(ht:Tr (Zt ys))(hF0:zs.length<ys.length+F)(hS0:msz (Zt zs)+F*(msz (Zt ys)+1)≤900000):Cal prog 187 #[v,u] [pp v zs,pp u ys] true (G:=Value×List (Int×SL)) (fun r=>Zt r.2=Bw F (Zt zs) (Zt ys)) (fun r=>r.1) (fun r=>[pp r.1 r.2]):=by
 refine Yd func187 J ntmps187 J K2 ?_
 intro w0 sc hw hsc
 simp only [Zq,Zp]
 have hli:=Zv zs
 have hli2:=Zv ys
 have hcy:=Nm ys (ys.length-1)
 have hra:=Zvc (Zt ys)
 refine Ze<|Zg<|as_ J<|Zf<|Za<|Ze<|Zg<|mv J<|mv J<|dt (Yh J J (i:=2) J Zz Nn)<|dt (Qf J J J ⟨by omega,by omega⟩)<|dt (Xc (ii:=2) (i:=(ys.length-1)) J J J J Zz Nn Qd)<|dt (Xs (ii:=2) I0 J J J Zz pI)<|tt (Zr (i:=85) J J zeroValue48 J J hw) fun b _=>tt (Zm (i:=85) J J J J J (by decide) J Qd J J ⟨Zb J,Zb J,trivial⟩ J hw trivial) fun _ _=>Oa (Zgg 2 91 (ys.getD (ys.length-1) I0) J J (Yx) J)<|Zf<|Za<|Ze<|Zo<|Yq (Od 1 80 J J J)<|Nw [(1,_),(5,_)] [(0,_),(1,_),(2,_),(85,_),(91,_)] (fun(q:Value×List (Int×SL)×Nat)=>[(0,q.1)]) (fun(q:Value×List (Int×SL)×Nat)=>[(80,pp q.1 q.2.1)]) (fun(q:Value×List (Int×SL)×Nat)=>(Bw q.2.2 (Zt q.2.1) (Zt ys)=Bw F (Zt zs) (Zt ys))∧((Zt q.2.1).length<(Zt ys).length+q.2.2)∧(Tr (Zt q.2.1))∧(msz (Zt q.2.1)+q.2.2*(msz (Zt ys)+1)≤900000)∧(q.2.1.length≤30)) (fun(q:Value×List (Int×SL)×Nat)=>q.2.2) (_,zs,F) ⟨J,by dsimp only;omega,htz,hS0,hl⟩ K3 K6 ?_
 rintro⟨vr,ws,f⟩ ⟨hE,hL,hT,hS,hW⟩
 dsimp only at hE hL hT hS hW
 simp only [CA,NA]
 have hlw:=Zv ws
 have hcw:=Nm ws (ws.length-1)
 refine Ze<|Ze<|Zg<|mv J<|dt (Yh J J (i:=80) J Zz Nn)<|mv J<|dt (Yh J J (i:=2) J Zz Nn)<|dt (Ke J J J)<|Zf<|Za<|Zs J (fun h45=>?_) (fun h45=>?_)
 ·obtain⟨f1,rfl,hE1,hL1,hT1,hS1,hLl⟩:=Zrz (by omega) (by omega) hL hT hS
  have hB:msz (Zt ws)+(msz (Zt ys)+1)≤900000:=by rw [Nat.succ_mul]at hS;omega
  have hrb:=bl_rb (Zt ws) (Zt ys)
  refine Zl<|Za<|Zo<|Ze<|Oj [80,85] [10]<|Zu (n:=4) [(0,0),(1,0),(2,0),(3,0),(4,0),(5,0),(6,0)]<|r0' J J (stf (Ya (i:=85) J J J Mg Qd J J) K2)<|r0' J J (stf (Yr J J) K2)<|r0' J J (stf (Yr J J) K2)<|r0' J J (stf (Yh J J (i:=80) J Zz Nn) K2)<|r0' J J (stf (Qf J J J ⟨by omega,by omega⟩) K2)<|r0' J J (stf (Xc (ii:=80) (i:=(ws.length-1)) J J J J Zz Nn Qd) K2)<|r0' J J (stf (Xs (ii:=80) I0 J J J Zz pI) K2)<|Yk<|Qp (n:=3) 7 8 ?_ ?_
  ·refine Yf J (Zn (i:=95) J J zeroValue48 J J hw K2) fun b_2 ho=>Zu (n:=0) [(8,1),(9,1),(10,3)]<|r1' J (Zn (i:=96) J J zeroValue48 J J hw K2) fun b_3 ho2=>r1' J (Zm (i:=95) J J J J J (by decide) J Qd J J ⟨Zb J,Zk (i:=91) J Zi,trivial⟩ J hw ho) fun _ _=>r3' J (Zm (i:=96) J J J J J (by decide) J Qd J J ⟨Zb J,Zb J,trivial⟩ J hw trivial) fun _ _=>Yk<|Yb<|Za<|Da [(0,_),(1,_),(5,_),(6,_),(7,_)] [(0,_),(80,_),(1,_),(2,_),(85,_),(91,_)] (fun(q:Value×Value)=>[]) (fun(q:Value×Value)=>[(95,box b_2 48 #[.bool (decide ((Ap (Zt ys))<0)),q.1]),(96,box b_3 48 #[.bool (decide ((rb (Zt ws) (Zt ys))<0)),q.2]),(93,d9p q.1 (Ap (Zt ys)).natAbs),(94,d9p q.2 (rb (Zt ws) (Zt ys)).natAbs)]) (fun(q:Value×Value)=>True) K5 K6 ?_ ?_
   ·refine Ze<|Yq (Zgg 80 92 (ws.getD (ws.length-1) I0) J J (Yx) J)<|Zg<|dt (Ya (i:=95) J J J Mg Qd J J)<|tt (Zh (n:=2) (Ce _ _ (by rw [hcy];have:=Oi (Zt ys) (ys.length-1);omega)) J J J K1 call72 (Zc 91 J J J Zd) J hw) fun _ _=>dt (Xv J J J)<|Zf<|Za<|Zs J (fun h47=>?_) (fun h47=>?_)
    ·refine Oj [96] [5]<|Zu (n:=0) [(2,0),(0,1),(1,1),(3,1),(4,1),(5,3)]<|r0' J J (stf (Ya (i:=96) J J J Mg Qd J J) K1)<|r1' J (Pt (Ya (i:=95) J J J Mg Qd J J) J) fun _ _=>r1' J (Zh (n:=3) (Zp5 _ _ (by rw [hcy];have:=Oi (Zt ys) (ys.length-1);omega)) J J J K1 call73 (Zc 91 J J J Zd) J hw) fun v _=>r1' J (Zh (n:=4) (Zp5 _ _ (by rw [hcw];have:=Oi (Zt ws) (ws.length-1);omega)) J J J K1 call73 (Zc 92 J J J Zd) J hw) fun v_2 _=>r1' J (Zee 95 J J K1 (fun ob=>(Zm (i:=95) J J J J J (by decide) J Qd J J ⟨Zb J,Zk (i:=3) J Zi,trivial⟩ J hw ob))) fun _ _=>r3' J (Zm (i:=96) J J J J J (by decide) J Qd J J ⟨Zb J,Zk (i:=4) J Zi,trivial⟩ J hw trivial) fun _ _=>Yk<|Yb ?_
     have hra:=rabs_n hli2 hcy ‹_›
     have hrb:=rb_n (x:=Zt ws) (y:=Zt ys) hli2 hlw hcy hcw ‹_›
     exact Qy (Od 3 93 J J J)<|Qy (Od 4 94 J J J)<|Ql (_,_) trivial K5 ⟨by rw [hra];rfl,by rw [hrb];rfl,by rw [hra];rfl,by rw [hrb];rfl,rfl,rfl,rfl,rfl,rfl,rfl,trivial⟩
    ·refine Zl ?_
     have hra:=rabs_p hli2 hcy ‹_›
     have hrb:=rb_p (x:=Zt ws) (y:=Zt ys) hli2 hlw hcy hcw ‹_›
     exact Qy (Od 91 93 J J J)<|Qy (Od 92 94 J J J)<|Ql (_,_) trivial K5 ⟨by rw [hra];rfl,by rw [hrb];rfl,by rw [hra];rfl,by rw [hrb];rfl,rfl,rfl,rfl,rfl,rfl,rfl,trivial⟩
   ·rintro⟨va,vb⟩ -
    simp only [CA,NA]
    refine Ze<|Zg<|mv J<|dt (Yh J J (i:=80) J Zz Nn)<|mv J<|dt (Yh J J (i:=2) J Zz Nn)<|dt (Qf J J J ⟨by omega,by omega⟩)<|tt (Gd (i:=70) (n:=(ws.length-ys.length)) (by_:=32) (enc:=Ca) I0 J J J J Nn ti48 J pI.cells pI.pos J J J hw) fun v_3 _=>as_ J<|Zf<|Za<|Ze<|Ze<|Zg<|as_ J<|Zf<|Za<|Zo<|Yq (Ej 71 (ws.length-ys.length))<|Nw [(0,_),(1,_),(5,_),(6,_),(7,_)] [(0,_),(95,_),(96,_),(93,_),(94,_),(80,_),(1,_),(2,_),(85,_),(91,_)] (fun(q:Nat×Value×List (Int×SL))=>[(9,.int .i64 (q.1:Int)),(8,q.2.1)]) (fun(q:Nat×Value×List (Int×SL))=>[(70,osl 2 48 Ca q.2.1 q.2.2),(71,Zci qI q.2.2)]) (fun(q:Nat×Value×List (Int×SL))=>(q.1≤ys.length)∧(Zt q.2.2=shm (Zt ys) (rb (Zt ws) (Zt ys)) ((Zt ws).length-(Zt ys).length) q.1)∧(q.2.2.length=((Zt ws).length-(Zt ys).length)+q.1)) (fun(q:Nat×Value×List (Int×SL))=>ys.length-q.1) (0,_,List.replicate (ws.length-ys.length) I0) ⟨by first | omega | (dsimp only<;>omega),by rw [←Zdi,hlw,hli2];simp [Zt],by simp<;>omega⟩ K7 K12 ?_
    rintro⟨i,vo,ms⟩ ⟨hi,hms,hml⟩
    dsimp only at hi hms hml
    simp only [CA,NA]
    have hci:=Nm ys i
    refine Ze<|Ze<|Zg<|mv J<|mv J<|dt (Yh J J (i:=2) J Zz Nn)<|dt (Xv J J J)<|Zf<|Za<|Zs J (fun h51=>?_) (fun h51=>?_)
    ·refine Zl<|Za<|Ze<|Zo<|Oj [2,96] [9]<|Zu (n:=3) [(0,0),(1,0),(2,0),(3,0),(4,0),(5,0),(6,1)]<|r0' J J (stf (Yr J J) K2)<|r0' J J (stf (Yr J J) K2)<|r0' J J (stf (Yr J J) K2)<|r0' J J (stf (Xc (ii:=2) J J J J Zz Nn Qd J (by first | omega | (simp only [List.length_set];omega))) K2)<|r0' J J (stf (Xs (ii:=2) I0 J J J Zz pI (by first | omega | (simp only [List.length_set];omega))) K2)<|r0' J J (stf (Ya (i:=96) J J J Mg Qd J J) K2)<|r1' J (Zh (n:=86) (Bx _ _ _ _ (by rw [hci];have:=Oi (Zt ys) i;omega)) J J J K2 Zld (Ou 2 J J (Yx (i:=i)) (Zc 94 J J J Zd)) J hw) fun v_4 _=>Yk<|Zlc (Ow 86 J Zi) (fun sl hsl=>?_)
     subst hsl
     exact Zu (n:=0) [(7,1),(8,1),(9,3)]<|r1' J (Pm (i:=87) (ivs:=[(0,_)]) (enc:=Ca) [((ys.getD i I0).1*(rb (Zt ws) (Zt ys)),sl)] J J K2 Nn ti48 J J J J J pI.cells J J hw) fun v_5 _=>r1' J (Zed 70 J J J K2 (fun hoffr=>(Ak (xs:=ms) (ys:=[_]) (i:=70) (j:=87) (by_:=32) J J J J J J (by decide) J (Yt pI) Nn ti48 J pI J J J (by simp;omega) (by decide) J hw hoffr))) fun v_6 _=>r3' J (Pt (Oy J J) J) fun _ _=>Yk<|Yb<|Oe<|Za<|Zg<|mv J<|dt (Yy J J J ⟨by omega,by omega⟩)<|as_ J<|Zf<|Qy (Py (q:=qI) (z:=((ys.getD i I0).1*(rb (Zt ws) (Zt ys)),sl)) 71 86 71 J J J J J)<|Xp (i+1,_,ms ++ [((ys.getD i I0).1*(rb (Zt ws) (Zt ys)),sl)]) ⟨by first | omega | (dsimp only<;>omega),by rw [Ko,hms,←Zdj];dsimp only;rw [hci,Int.mul_comm],by simp;omega⟩ (by first | omega | (dsimp only<;>omega)) K7 K12
    ·refine Yw<|Zx<|Zx<|Na<|Za<|Yq (Pe 70 J J pI)<|Yq (Mq 70 71 72 J J J J)<|Zg<|mv J<|dt (Ya (i:=95) J J J Mg Qd J J)<|tt (Zh (n:=5) (Zaw _ _ _ _ ((Oi _).mono (by omega)) (by omega)) J J J K2 call56 (Zc 80 J J J (Zc 93 J J J Zd)) J hw) (fun g hg=>?_)
     have hlsc:=congrArg List.length hg
     rw [Zv]at hlsc
     have hlsd:=Ib (Zt ws) (Ap (Zt ys))
     refine mv J<|tt (Zh (n:=6) (Zny _ _ _ _ (by rw [hg];exact(Be (Oi _) hra).mono (by omega)) (by rw [hms];exact sz_shm'.mono (by omega))) J J J K2 call88 (Zc 5 J J J (Zc 72 J J J Zd)) J hw) fun g_2 hg_2=>as_ J<|Zf<|Oe<|Qy (Od 6 80 J J J) ?_
     have hR:Zt g_2.2=Fs (Zt ws) (Zt ys):=by rw [hg_2,hg,hms,show i=(Zt ys).length by omega];rfl
     exact Xp (_,g_2.2,f1) ⟨by dsimp only;rw [hR,←hE1];exact hE,by dsimp only;rw [hR];exact hL1,by dsimp only;rw [hR];exact hT1,by dsimp only;rw [hR];exact hS1,by dsimp only;rw [←Zv,hR];omega⟩ (Nat.lt_succ_self f1) K3 K6
  ·refine Yf J (Zn (i:=96) J J zeroValue48 J J hw K2) fun b_4 ho3=>Zu (n:=0) [(7,1),(9,1),(10,3)]<|r1' J (Zn (i:=95) J J zeroValue48 J J hw K2) fun b_5 ho4=>r1' J (Zm (i:=95) J J J J J (by decide) J Qd J J ⟨Zb J,Zk (i:=91) J Zi,trivial⟩ J hw ho4) fun _ _=>r3' J (Zm (i:=96) J J J J J (by decide) J Qd J J ⟨Zb J,Zb J,trivial⟩ J hw trivial) fun _ _=>Yk<|Yb<|Za<|Da [(0,_),(1,_),(5,_),(6,_),(7,_)] [(0,_),(80,_),(1,_),(2,_),(85,_),(91,_)] (fun(q:Value×Value)=>[]) (fun(q:Value×Value)=>[(95,box b_5 48 #[.bool (decide ((Ap (Zt ys))<0)),q.1]),(96,box b_4 48 #[.bool (decide ((rb (Zt ws) (Zt ys))<0)),q.2]),(93,d9p q.1 (Ap (Zt ys)).natAbs),(94,d9p q.2 (rb (Zt ws) (Zt ys)).natAbs)]) (fun(q:Value×Value)=>True) K5 K6 ?_ ?_
   ·refine Ze<|Yq (Zgg 80 92 (ws.getD (ws.length-1) I0) J J (Yx) J)<|Zg<|dt (Ya (i:=95) J J J Mg Qd J J)<|tt (Zh (n:=6) (Ce _ _ (by rw [hcy];have:=Oi (Zt ys) (ys.length-1);omega)) J J J K1 call72 (Zc 91 J J J Zd) J hw) fun _ _=>dt (Xv J J J)<|Zf<|Za<|Zs J (fun h47_2=>?_) (fun h47_2=>?_)
    ·refine Oj [96] [5]<|Zu (n:=0) [(2,0),(0,1),(1,1),(3,1),(4,1),(5,3)]<|r0' J J (stf (Ya (i:=96) J J J Mg Qd J J) K1)<|r1' J (Pt (Ya (i:=95) J J J Mg Qd J J) J) fun _ _=>r1' J (Zh (n:=7) (Zp5 _ _ (by rw [hcy];have:=Oi (Zt ys) (ys.length-1);omega)) J J J K1 call73 (Zc 91 J J J Zd) J hw) fun v_7 _=>r1' J (Zh (n:=8) (Zp5 _ _ (by rw [hcw];have:=Oi (Zt ws) (ws.length-1);omega)) J J J K1 call73 (Zc 92 J J J Zd) J hw) fun v_8 _=>r1' J (Zee 95 J J K1 (fun ob=>(Zm (i:=95) J J J J J (by decide) J Qd J J ⟨Zb J,Zk (i:=7) J Zi,trivial⟩ J hw ob))) fun _ _=>r3' J (Zm (i:=96) J J J J J (by decide) J Qd J J ⟨Zb J,Zk (i:=8) J Zi,trivial⟩ J hw trivial) fun _ _=>Yk<|Yb ?_
     have hra:=rabs_n hli2 hcy ‹_›
     have hrb:=rb_n (x:=Zt ws) (y:=Zt ys) hli2 hlw hcy hcw ‹_›
     exact Qy (Od 7 93 J J J)<|Qy (Od 8 94 J J J)<|Ql (_,_) trivial K5 ⟨by rw [hra];rfl,by rw [hrb];rfl,by rw [hra];rfl,by rw [hrb];rfl,rfl,rfl,rfl,rfl,rfl,rfl,trivial⟩
    ·refine Zl ?_
     have hra:=rabs_p hli2 hcy ‹_›
     have hrb:=rb_p (x:=Zt ws) (y:=Zt ys) hli2 hlw hcy hcw ‹_›
     exact Qy (Od 91 93 J J J)<|Qy (Od 92 94 J J J)<|Ql (_,_) trivial K5 ⟨by rw [hra];rfl,by rw [hrb];rfl,by rw [hra];rfl,by rw [hrb];rfl,rfl,rfl,rfl,rfl,rfl,rfl,trivial⟩
   ·rintro⟨va,vb⟩ -
    simp only [CA,NA]
    refine Ze<|Zg<|mv J<|dt (Yh J J (i:=80) J Zz Nn)<|mv J<|dt (Yh J J (i:=2) J Zz Nn)<|dt (Qf J J J ⟨by omega,by omega⟩)<|tt (Gd (i:=70) (n:=(ws.length-ys.length)) (by_:=32) (enc:=Ca) I0 J J J J Nn ti48 J pI.cells pI.pos J J J hw) fun v_9 _=>as_ J<|Zf<|Za<|Ze<|Ze<|Zg<|as_ J<|Zf<|Za<|Zo<|Yq (Ej 71 (ws.length-ys.length))<|Nw [(0,_),(1,_),(5,_),(6,_),(7,_)] [(0,_),(95,_),(96,_),(93,_),(94,_),(80,_),(1,_),(2,_),(85,_),(91,_)] (fun(q:Nat×Value×List (Int×SL))=>[(9,.int .i64 (q.1:Int)),(8,q.2.1)]) (fun(q:Nat×Value×List (Int×SL))=>[(70,osl 2 48 Ca q.2.1 q.2.2),(71,Zci qI q.2.2)]) (fun(q:Nat×Value×List (Int×SL))=>(q.1≤ys.length)∧(Zt q.2.2=shm (Zt ys) (rb (Zt ws) (Zt ys)) ((Zt ws).length-(Zt ys).length) q.1)∧(q.2.2.length=((Zt ws).length-(Zt ys).length)+q.1)) (fun(q:Nat×Value×List (Int×SL))=>ys.length-q.1) (0,_,List.replicate (ws.length-ys.length) I0) ⟨by first | omega | (dsimp only<;>omega),by rw [←Zdi,hlw,hli2];simp [Zt],by simp<;>omega⟩ K7 K12 ?_
    rintro⟨i,vo,ms⟩ ⟨hi,hms,hml⟩
    dsimp only at hi hms hml
    simp only [CA,NA]
    have hci:=Nm ys i
    refine Ze<|Ze<|Zg<|mv J<|mv J<|dt (Yh J J (i:=2) J Zz Nn)<|dt (Xv J J J)<|Zf<|Za<|Zs J (fun h51_2=>?_) (fun h51_2=>?_)
    ·refine Zl<|Za<|Ze<|Zo<|Oj [2,96] [9]<|Zu (n:=3) [(0,0),(1,0),(2,0),(3,0),(4,0),(5,0),(6,1)]<|r0' J J (stf (Yr J J) K2)<|r0' J J (stf (Yr J J) K2)<|r0' J J (stf (Yr J J) K2)<|r0' J J (stf (Xc (ii:=2) J J J J Zz Nn Qd J (by first | omega | (simp only [List.length_set];omega))) K2)<|r0' J J (stf (Xs (ii:=2) I0 J J J Zz pI (by first | omega | (simp only [List.length_set];omega))) K2)<|r0' J J (stf (Ya (i:=96) J J J Mg Qd J J) K2)<|r1' J (Zh (n:=86) (Bx _ _ _ _ (by rw [hci];have:=Oi (Zt ys) i;omega)) J J J K2 Zld (Ou 2 J J (Yx (i:=i)) (Zc 94 J J J Zd)) J hw) fun v_10 _=>Yk<|Zlc (Ow 86 J Zi) (fun sl_2 hsl_2=>?_)
     subst hsl_2
     exact Zu (n:=0) [(7,1),(8,1),(9,3)]<|r1' J (Pm (i:=87) (ivs:=[(0,_)]) (enc:=Ca) [((ys.getD i I0).1*(rb (Zt ws) (Zt ys)),sl_2)] J J K2 Nn ti48 J J J J J pI.cells J J hw) fun v_11 _=>r1' J (Zed 70 J J J K2 (fun hoffr=>(Ak (xs:=ms) (ys:=[_]) (i:=70) (j:=87) (by_:=32) J J J J J J (by decide) J (Yt pI) Nn ti48 J pI J J J (by simp;omega) (by decide) J hw hoffr))) fun v_12 _=>r3' J (Pt (Oy J J) J) fun _ _=>Yk<|Yb<|Oe<|Za<|Zg<|mv J<|dt (Yy J J J ⟨by omega,by omega⟩)<|as_ J<|Zf<|Qy (Py (q:=qI) (z:=((ys.getD i I0).1*(rb (Zt ws) (Zt ys)),sl_2)) 71 86 71 J J J J J)<|Xp (i+1,_,ms ++ [((ys.getD i I0).1*(rb (Zt ws) (Zt ys)),sl_2)]) ⟨by first | omega | (dsimp only<;>omega),by rw [Ko,hms,←Zdj];dsimp only;rw [hci,Int.mul_comm],by simp;omega⟩ (by first | omega | (dsimp only<;>omega)) K7 K12
    ·refine Yw<|Zx<|Zx<|Na<|Za<|Yq (Pe 70 J J pI)<|Yq (Mq 70 71 72 J J J J)<|Zg<|mv J<|dt (Ya (i:=95) J J J Mg Qd J J)<|tt (Zh (n:=9) (Zaw _ _ _ _ ((Oi _).mono (by omega)) (by omega)) J J J K2 call56 (Zc 80 J J J (Zc 93 J J J Zd)) J hw) (fun g_3 hg_3=>?_)
     have hlsc:=congrArg List.length hg_3
     rw [Zv]at hlsc
     have hlsd:=Ib (Zt ws) (Ap (Zt ys))
     refine mv J<|tt (Zh (n:=10) (Zny _ _ _ _ (by rw [hg_3];exact(Be (Oi _) hra).mono (by omega)) (by rw [hms];exact sz_shm'.mono (by omega))) J J J K2 call88 (Zc 9 J J J (Zc 72 J J J Zd)) J hw) fun g_4 hg_4=>as_ J<|Zf<|Oe<|Qy (Od 10 80 J J J) ?_
     have hR:Zt g_4.2=Fs (Zt ws) (Zt ys):=by rw [hg_4,hg_3,hms,show i=(Zt ys).length by omega];rfl
     exact Xp (_,g_4.2,f1) ⟨by dsimp only;rw [hR,←hE1];exact hE,by dsimp only;rw [hR];exact hL1,by dsimp only;rw [hR];exact hT1,by dsimp only;rw [hR];exact hS1,by dsimp only;rw [←Zv,hR];omega⟩ (Nat.lt_succ_self f1) K3 K6
 ·have hE2:=Zwp (f:=f) (x:=Zt ws) (y:=Zt ys) (by omega)
  exact Yw<|Zx<|Zx<|Na<|Za<|Ze<|Zg<|mv J<|as_ J<|Zf<|Za<|Zw<|Zy (.inl J) hsc (_,ws) _ (fun a w hs=>Xy hs results187 J) J (by rw [←hE,hE2]) J (Xb 80 J J J Zj)
theorem Zsb(v:Value)(zs:List (Int×SL))(hv:Vp (Zt zs))(h0:zs.length≠0):Cal prog 113 #[v] [pp v zs] true (G:=Value×List (Int×SL)) (fun r=>Zt r.2=nrm (Zt zs)) (fun r=>r.1) (fun r=>[pp r.1 r.2]):=by
 refine Yd func113 J ntmps113 J K1 ?_
 intro w0 sc hw hsc
 simp only [Zq,Zp]
 have hli:=Zv zs
 have hlen:=hv.len
 refine Ze<|Zg<|as_ J<|Zf<|Za<|Ze<|Zg<|mv J<|tt (Zh (n:=2) (Ia _ _ (hv.sz.mono (by omega)) (fun h=>hv.ne (fun e=>by have h7:=congrArg List.length e;simp only [List.length_nil]at h7;omega))) J J J K1 call57 (Zc 1 J J J Zd) J hw) fun g hg=>as_ J<|Zf<|Za<|Ze<|Ze ?_
 have hpl:=congrArg List.length hg
 rw [Zv,Yn,hli]at hpl
 have hlc:=Nm g.2 (g.2.length-1)
 have hlc2:(g.2.getD (g.2.length-1) I0).1=cf (Xe (Zt zs)) ((Xe (Zt zs)).length-1):=by rw [hlc,hg,Yn,hli,hpl]
 have hpb:=(Lv hv).sz
 refine Zg<|mv J<|mv J<|dt (Yh J J (i:=2) J Zz Nn)<|dt (Qf J J J ⟨by omega,by omega⟩)<|dt (Xc (ii:=2) (i:=(g.2.length-1)) J J J J Zz Nn Qd)<|dt (Xs (ii:=2) I0 J J J Zz pI)<|tt (Zh (n:=2) (Ce _ _ (by rw [hlc2];have:=hpb ((Xe (Zt zs)).length-1);omega)) J J J K1 call72 (Ou 2 J J (Yx (zs:=g.2) (i:=g.2.length-1) (d:=I0)) Zd) J hw) fun _ _=>dt (Xv J J J)<|Zf<|Za<|Zs J (fun h29=>?_) (fun h29=>?_)
 ·have hnn:=Zij (xs:=Zt zs) (by rw [Yn];omega) (by rw [←hlc2];exact Zb7.1 h29)
  exact Ze<|Zg<|mv J<|tt (Zh (n:=3) (Znz _ _ (by rw [hg];exact hpb.mono (by omega))) J J J K1 call138 (Zc 2 J J J Zd) J hw) fun g_2 hg_2=>as_ J<|Zf<|Za<|Zw<|Xa<|Zy (.inl J) hsc _ _ (fun a w hs=>Xy hs results113 J) J (by rw [hg_2,hg,hnn]) J (Xb 3 J J J Zj)
 ·have hnn:=Zii (xs:=Zt zs) (fun h=>h29 (Zb7.2 (by rw [hlc2];exact h)))
  exact Zl<|Za<|Ze<|Zg<|mv J<|as_ J<|Zf<|Za<|Zw<|Zy (.inl J) hsc (_,g.2) _ (fun a w hs=>Xy hs results113 J) J (by rw [hg,hnn]) J (Xb 2 J J J Zj)
theorem Zsa(v:Value)(zs:List (Int×SL))(hv:Vp (Zt zs))(h0:zs.length≠0)(hs:Sz 260 (Zt zs))(hl:zs.length≤8:=by omega):Cal prog 54 #[v] [pp v zs] true (G:=Value×List (Int×SL)) (fun r=>Zt r.2=sqf 13 (Zt zs)) (fun r=>r.1) (fun r=>[pp r.1 r.2]):=by
 refine Yd func54 J ntmps54 J K1 ?_
 intro w0 sc hw hsc
 simp only [Zq,Zp]
 have hli:=Zv zs
 have hne:Zt zs≠[]:=fun e=>h0 (by rw [←hli,e];rfl)
 obtain⟨k1,k2,k3,k4,k5,k6,k7,k8,k9,k10,k11,k12,k13,k14⟩:=Zjm hv hne hs (by omega)
 have k6l:=List.length_pos_iff.2 k6
 have k12l:=List.length_pos_iff.2 k12
 have k2l:=k2.len
 have k11l:=k11.len
 refine Ze<|Zg<|as_ J<|Zf<|Za<|Ze<|Zg<|mv J<|tt (Zh (n:=2) (Zsb _ _ hv h0) J J J K1 call113 (Zc 1 J J J Zd) J hw) fun g hg=>as_ J<|Zf<|Za<|Ze ?_
 have hl_qs:=congrArg List.length hg
 rw [Zv]at hl_qs
 refine Zg<|mv J<|mv J<|mv J<|tt (Zh (n:=3) (Zev _ _ (by rw [hg];exact k1.sz.mono (by omega))) J J J K1 call115 (Zc 2 J J J Zd) J hw) (fun g_2 hg_2=>?_)
 have hl_qd:=congrArg List.length hg_2
 rw [Zv]at hl_qd
 refine tt (Zh (n:=4) (rp_gcd _ _ _ _ 13 (by rw [hg];exact k1) (by rw [hg_2,hg];exact k2) (by rw [hg_2,hg];exact k3)) J J J K2 call114 (Zc 2 J J J (Zc 3 J J J Zd)) J hw) (fun g_3 hg_3=>?_)
 have hgg:Zt g_3.2=Ic 13 (nrm (Zt zs)) (Pj (nrm (Zt zs))):=by rw [hg_3,hg_2,hg,k4]
 have hl_g:=congrArg List.length hgg
 rw [Zv]at hl_g
 refine tt (Zh (n:=5) (Zax _ _ _ _ (by rw [hg];exact k1.tr) (by rw [hgg];exact k5.tr) (fun _=>by rw [hg,hgg];have:=Nat.mul_le_mul (show g.2.length-g_3.2.length+1≤9 by omega) (show msz (Ic 13 (nrm (Zt zs)) (Pj (nrm (Zt zs))))+1≤391 by omega);omega)) J J J K2 call55 (Zc 2 J J J (Zc 4 J J J Zd)) J hw) fun g_4 hg_4=>mv J<|dt (Yl J J J)<|dt (Yl J J J)<|as_ J<|as_ J<|Zf<|Za<|Ze ?_
 have hqe:=hg_4 (by rw [hg,hgg];exact k7)
 rw [hg,hgg]at hqe
 have hl_q:=congrArg List.length hqe
 rw [Zv]at hl_q
 exact Zg<|mv J<|tt (Zh (n:=6) (Zsb _ _ (by rw [hqe];exact k11) (by rw [hl_q];exact Nat.ne_of_gt k12l)) J J J K1 call113 (Zc 5 J J J Zd) J hw) fun g_5 hg_5=>as_ J<|Zf<|Za<|Zw<|Zy (.inl J) hsc _ _ (fun a w hs=>Xy hs results54 J) J (by rw [hg_5,hqe];exact k13) J (Xb 6 J J J Zj)
theorem pT{α:Type} : Enc Tryz.prog 34 1 (Bq (α:=α)):=Enc.flat Tryz.sizeOf34 Tryz.isAgg34 (fun _=>rfl)
theorem Ad(v:Value)(zs:List (Int×SL))(hs:Sz 1000000 (Zt zs))(hc:zs.length≠0→Qh (Zt zs)≠0)(hl:zs.length≤1000:=by omega):Cal Tryz.prog 57 #[v] [pp v zs] true (G:=SL×List (Int×SL)) (fun r=>Zt r.2=Xe (Zt zs)) (fun r=>svv r.1) (fun r=>[pp (svv r.1) r.2]):=
  (Ia v zs hs hc hl).toS
theorem Zwx(v:Value)(zs:List (Int×SL))(hv:Vp (Zt zs))(h0:zs.length≠0)(hs:Sz 260 (Zt zs))(hl:zs.length≤8):Cal Tryz.prog 54 #[v] [pp v zs] true (G:=SL×List (Int×SL)) (fun r=>Zt r.2=sqf 13 (Zt zs)) (fun r=>svv r.1) (fun r=>[pp (svv r.1) r.2]):=
  (Zsa v zs hv h0 hs hl).toS
set_option maxHeartbeats 4000000 in
theorem Zw0(v:Value)(zs:List (Int×SL))(hv:Vp (Zt zs))(h0:zs.length≠0)(hs:Sz 260 (Zt zs))(hl:zs.length≤8):Cal prog 166 #[v] [pp v zs] true (G:=Value×List (SL×List (Int×SL))) (fun r=>Aa r.2=chn 13 (Zt zs)) (fun r=>r.1) (fun r=>[Zab 1 Bq qT r.1 r.2]):=by
 refine Yd func166 J ntmps166 J K1 ?_
 intro w0 sc hw hsc
 simp only [Zq,Zp]
 have hli:=Zv zs
 have hne:Zt zs≠[]:=fun e=>h0 (by rw [←hli,e];rfl)
 obtain⟨hC,hq,hql⟩:=ch13r hv.tr hne hs (by omega)
 obtain⟨hC1,hC2,hC3⟩:=hC
 have hvq:=Zjd hv hne hC1
 have hq0:sqf 13 (Zt zs)≠[]:=(Zjm hv hne hs (by omega)).2.2.2.2.2.2.2.2.2.2.2.1
 have hqd:=Hl hq (by omega)
 have hqdl:=On (sqf 13 (Zt zs))
 have hqdt:=Ny hvq.tr
 have hvqd:Vp (Pj (sqf 13 (Zt zs))):=⟨hqd.mono (by omega),hqdt,by omega⟩
 refine Ze<|Zg<|as_ J<|Zf<|Za<|Ze<|Zg<|mv J<|tt (Zh (n:=2) (Zwx _ _ hv h0 hs hl) J J J K1 call54 (Zc 1 J J J Zd) J hw) fun g hg=>as_ J<|Zf<|Za<|Ze<|Zg<|mv J<|tt (Pm (i:=70) (ivs:=[(0,_)]) (enc:=Bq) [g] J J K2 underlying186 ti34 J J J J J pT.cells J J hw) fun v _=>as_ J<|Zf<|Za<|Ze ?_
 have hxe:Zt g.2=sqf 13 (Zt zs):=hg
 have hxl:=congrArg List.length hxe
 rw [Zv]at hxl
 refine Yq (Mu qT 71)<|Yq (Py (q:=qT) (z:=g) 71 2 71 J J J J J)<|Yq (Od 2 92 J J J)<|Zg<|mv J<|tt (Zh (n:=3) (Zev _ _ (by rw [hxe];exact hvq.sz.mono (by omega))) J J J K1 call115 (Zc 2 J J J Zd) J hw) (fun g_2 hg_2=>?_)
 have hdl:=congrArg List.length hg_2
 rw [Zv,hxe,On]at hdl
 refine tt (Zh (n:=4) (Ad _ _ (by rw [hg_2,hxe];exact hqd.mono (by omega)) (fun h=>by rw [hg_2,hxe];exact hvqd.ne (fun e=>h (by have h7:=congrArg List.length hg_2;rw [Zv,hxe,e]at h7;exact h7)))) J J J K1 call57 (Zc 3 J J J Zd) J hw) (fun g_3 hg_3=>?_)
 have hye:Zt g_3.2=Xe (Pj (sqf 13 (Zt zs))):=by rw [show Zt g_3.2=Xe _ from hg_3,hg_2,hxe]
 refine as_ J<|Zf<|Za<|Ze<|Zo<|Yq (Od 4 80 J J J) ?_
 refine Nw [] [(0,_),(1,_),(2,_),(3,_),(4,_)] (fun(q:List (SL×List (Int×SL))×(SL×List (Int×SL))×(SL×List (Int×SL))×Nat×Value)=>[(4,q.2.2.2.2),(3,svv q.2.1.1),(5,svv q.2.2.1.1)]) (fun(q:List (SL×List (Int×SL))×(SL×List (Int×SL))×(SL×List (Int×SL))×Nat×Value)=>[(70,osl 1 34 Bq q.2.2.2.2 (q.1 ++ [q.2.1])),(71,Zci qT (q.1 ++ [q.2.1])),(92,pp (svv q.2.1.1) q.2.1.2),(80,pp (svv q.2.2.1.1) q.2.2.1.2)]) (fun(q:List (SL×List (Int×SL))×(SL×List (Int×SL))×(SL×List (Int×SL))×Nat×Value)=>(Vp (Zt q.2.1.2))∧(Vp (Zt q.2.2.1.2))∧(cok q.2.2.2.1 (Zt q.2.1.2) (Zt q.2.2.1.2))∧(Aa q.1 ++ Mn q.2.2.2.1 (Zt q.2.1.2) (Zt q.2.2.1.2)=chn 13 (Zt zs))∧(q.2.1.2.length≤8)∧(q.2.2.1.2.length≤8)∧(q.1.length+q.2.2.1.2.length≤25)) (fun(q:List (SL×List (Int×SL))×(SL×List (Int×SL))×(SL×List (Int×SL))×Nat×Value)=>q.2.2.1.2.length) ([],g,g_3,13,_) ⟨by dsimp only;rw [hxe];exact hvq,by dsimp only;rw [hye];exact Lv hvqd,by dsimp only;rw [hxe,hye];exact hC3,by dsimp only;rw [hxe,hye];rfl,by dsimp only;omega,by dsimp only;rw [←Zv,hye,Yn];omega,by dsimp only;rw [←Zv,hye,Yn];simp;omega⟩ K3 K9 ?_
 rintro⟨ws,ex,ey,f,vo⟩ ⟨hvx,hvy,hck,hch,hx8,hy8,hwl⟩
 dsimp only at hvx hvy hck hch hx8 hy8 hwl
 simp only [CA,NA]
 have hlx:=Zv ex.2
 have hly:=Zv ey.2
 refine Ze<|Ze<|Zg<|mv J<|dt (Yh J J (i:=80) J Zz Nn)<|dt (Of J J J)<|Zf<|Za<|Zs J (fun h64=>?_) (fun h64=>?_)
 ·have hy0:Zt ey.2≠[]:=fun e=>by have h7:=congrArg List.length e;rw [hly]at h7;simp only [List.length_nil]at h7;omega
  obtain⟨f0,rfl,hd,hle,hck2,hsc2⟩:=Zdz hck hy0
  refine Zl<|Za<|Zo<|Ze<|Zg<|mv J<|mv J<|tt (Pm (i:=5) (ivs:=[(0,_)]) (enc:=Bq) [ey] J J K2 underlying186 ti34 J J J J J pT.cells J J hw) fun v_2 _=>tt (Iv (i:=70) (j:=5) (by_:=24) J J J J J J (by decide) J (Yt pT) underlying186 ti34 J pT J J J (by simp;omega) (by decide) J hw) fun v_3 _=>as_ J<|Zf<|Za<|Zg<|mv J<|mv J<|mv J<|tt (Zh (n:=6) (r3_rem _ _ _ _ 8 (by omega) (by omega) (by omega) hvx.tr hvy.tr (by omega) (by have:=Pz hvx.sz;have:=Pz hvy.sz;omega)) J J J K2 call187 (Zc 92 J J J (Zc 80 J J J Zd)) J hw) (fun g_4 hg_4=>?_)
  have hrl:(Bw 8 (Zt ex.2) (Zt ey.2)).length<(Zt ey.2).length:=(Ao hvy.tr hy0 8 (Zt ex.2) hvx.tr (by omega)).2.1
  have hrm:=Zoi (Zt ey.2) 8 (Zt ex.2)
  have hrt:=(Ao hvy.tr hy0 8 (Zt ex.2) hvx.tr (by omega)).1
  have hrl2:=congrArg List.length hg_4
  rw [Zv]at hrl2
  refine tt (Zh (n:=7) (Znz _ _ (by rw [hg_4];exact(Oi _).mono (by have:=Pz hvx.sz;have:=Pz hvy.sz;omega))) J J J K1 call138 (Zc 6 J J J Zd) J hw) (fun g_5 hg_5=>?_)
  have hnl:=congrArg List.length hg_5
  rw [Zv,hg_4]at hnl
  have hnl2:=Ib (Bw 8 (Zt ex.2) (Zt ey.2)) (-1)
  refine tt (Zh (n:=8) (Ad _ _ (by rw [hg_5,hg_4];exact(Be (Oi _) (m:=1) (by decide)).mono (by have:=Pz hvx.sz;have:=Pz hvy.sz;omega)) (fun h=>Ds (by rw [hg_5];exact Pb _ _) (fun e=>h (by rw [←Zv,e];rfl)))) J J J K1 call57 (Zc 7 J J J Zd) J hw) fun g_6 hg_6=>as_ J<|as_ J<|Zf<|Oe ?_
  have hsn:=Zaq (f:=8) hvx.tr hvy.tr hy0 (by omega) (by omega)
  have hnx:Zt g_6.2=Lm (Zt ex.2) (Zt ey.2):=by rw [show Zt g_6.2=Xe _ from hg_6,hg_5,hg_4];exact hsn
  have hsl:=Fh (y:=Zt ey.2) hvx.tr
  have hpl:=Pd (Zt ex.2) hy0
  have hnxl:=congrArg List.length hnx
  rw [Zv]at hnxl
  exact Qy (Py (q:=qT) (z:=ey) 71 80 71 J J J J J)<|Qy (Od 80 92 J J J)<|Qy (Od 8 80 J J J)<|Xp (ws ++ [ex],ey,g_6,f0,_) ⟨hvy,by dsimp only;rw [hnx];exact Zhb hvx hd,by dsimp only;rw [hnx];exact hck2,by dsimp only;rw [hnx,←hch,hsc2];simp [Aa],hy8,by dsimp only;omega,by dsimp only;simp;omega⟩ (by dsimp only;omega) K3 K9
 ·refine Yw<|Zx<|Zx<|Na<|Za<|Ze ?_
  have hy0:Zt ey.2=[]:=List.eq_nil_of_length_eq_zero (by omega)
  exact Yq (Pe 70 J J pT)<|Yq (Mq 70 71 72 J J J J)<|Zg<|mv J<|as_ J<|Zf<|Za<|Zw<|Zy (.inl J) hsc (_,ws ++ [ex]) _ (fun a w hs=>Xy hs results166 J) J (by rw [←hch,hy0,Gl];simp [Aa]) J (Xb 72 J J J Zj)
theorem Zwy(v:Value)(l:List Int)(hl:∀i,-1≤l.getD i 0∧l.getD i 0≤1)(hlen:l.length≤1000):Mb prog 188 #[v] [slp 1 Zaf v l] (.int .i64 (chg l)):=by
 refine Yd func188 J ntmps188 J K1 ?_
 intro w0 sc hw hsc
 simp only [Zq,Zp]
 refine Ze<|Zg<|as_ J<|Zf<|Za<|Ze<|Zg<|as_ J<|as_ J<|Zf<|Za<|Ze<|Ze<|Zg<|as_ J<|Zf<|Za<|Zo<|Nw [(0,_)] [(0,_),(1,_)] (fun(q:Nat×Int×Int)=>[(5,.int .i64 (q.1:Int)),(3,.int .i64 q.2.1),(4,.int .i64 q.2.2)]) (fun(q:Nat×Int×Int)=>[]) (fun(q:Nat×Int×Int)=>(q.1≤l.length)∧((q.2.1,q.2.2)=(l.take q.1).foldl Ig (0,0))∧(0≤q.2.1)∧(q.2.1≤(q.1:Int))∧(-1≤q.2.2)∧(q.2.2≤1)) (fun(q:Nat×Int×Int)=>l.length-q.1) (0,0,0) ⟨by first | omega | (dsimp only<;>omega),by simp,Int.le_refl _,Int.le_refl _,by decide,by decide⟩ K4 K2 ?_
 rintro⟨i,n,m⟩ ⟨hi,hc,hn0,hn1,hm0,hm1⟩
 dsimp only at hi hc hn0 hn1 hm0 hm1
 simp only [CA,NA]
 have hx:=hl i
 refine Ze<|Ze<|Zg<|mv J<|mv J<|dt (Yh J J (i:=1) J Zi Me)<|dt (Xv J J J)<|Zf<|Za<|Zs J (fun h74=>?_) (fun h74=>?_)
 ·refine Zl<|Za<|Ze<|Zo<|Ze<|Ze<|Zg<|mv J<|mv J<|dt (Xc (ii:=1) J J J J Zi Me zT3 J (by first | omega | (simp only [List.length_set];omega)))<|dt (Xs (ii:=1) 0 J J J Zi pZ (by first | omega | (simp only [List.length_set];omega)))<|mv J<|dt (Cb J J J (mul_r hx.1 hx.2 hm0 hm1))<|dt (Xv J J J)<|Zf<|Za<|Zs J (fun h75=>?_) (fun h75=>?_)
  ·refine Zg<|mv J<|dt (Yy J J J ⟨by omega,by omega⟩)<|as_ J<|Zf<|Za<|Ze<|Zg<|mv J<|mv J<|dt (Xc (ii:=1) J J J J Zi Me zT3 J (by first | omega | (simp only [List.length_set];omega)))<|dt (Xs (ii:=1) 0 J J J Zi pZ (by first | omega | (simp only [List.length_set];omega)))<|dt (Qc J J J)<|Zf<|Za<|Zs J (fun h78=>?_) (fun h78=>?_)
   ·refine Zg<|mv J<|mv J<|dt (Xc (ii:=1) J J J J Zi Me zT3 J (by first | omega | (simp only [List.length_set];omega)))<|dt (Xs (ii:=1) 0 J J J Zi pZ (by first | omega | (simp only [List.length_set];omega)))<|as_ J<|Zf<|Oe<|Za<|Zg<|mv J<|dt (Yy J J J ⟨by omega,by omega⟩)<|as_ J<|Zf ?_
    have hst:=Zao (l:=l) (i:=i) (by omega) hc
    exact Xp (i+1,_,_) ⟨by first | omega | (dsimp only<;>omega),by dsimp only;rw [hst];first | exact(Zww hm0 hm1 hx.1 hx.2 ‹_› ‹_›).symm | exact(Zwv hm0 hm1 hx.1 hx.2 ‹_› ‹_›).symm | exact(Zwu hm0 hm1 hx.1 hx.2 ‹_› ‹_›).symm | exact(Zwt hm0 hm1 hx.1 hx.2 ‹_› ‹_›).symm,by dsimp only;omega,by dsimp only;omega,by first | exact hx.1 | exact hm0,by first | exact hx.2 | exact hm1⟩ (by first | omega | (dsimp only<;>omega)) K4 K2
   ·refine Zl<|Oe<|Za<|Zg<|mv J<|dt (Yy J J J ⟨by omega,by omega⟩)<|as_ J<|Zf ?_
    have hst:=Zao (l:=l) (i:=i) (by omega) hc
    exact Xp (i+1,_,_) ⟨by first | omega | (dsimp only<;>omega),by dsimp only;rw [hst];first | exact(Zww hm0 hm1 hx.1 hx.2 ‹_› ‹_›).symm | exact(Zwv hm0 hm1 hx.1 hx.2 ‹_› ‹_›).symm | exact(Zwu hm0 hm1 hx.1 hx.2 ‹_› ‹_›).symm | exact(Zwt hm0 hm1 hx.1 hx.2 ‹_› ‹_›).symm,by dsimp only;omega,by dsimp only;omega,by first | exact hx.1 | exact hm0,by first | exact hx.2 | exact hm1⟩ (by first | omega | (dsimp only<;>omega)) K4 K2
  ·refine Zl<|Za<|Ze<|Zg<|mv J<|mv J<|dt (Xc (ii:=1) J J J J Zi Me zT3 J (by first | omega | (simp only [List.length_set];omega)))<|dt (Xs (ii:=1) 0 J J J Zi pZ (by first | omega | (simp only [List.length_set];omega)))<|dt (Qc J J J)<|Zf<|Za<|Zs J (fun h78_2=>?_) (fun h78_2=>?_)
   ·refine Zg<|mv J<|mv J<|dt (Xc (ii:=1) J J J J Zi Me zT3 J (by first | omega | (simp only [List.length_set];omega)))<|dt (Xs (ii:=1) 0 J J J Zi pZ (by first | omega | (simp only [List.length_set];omega)))<|as_ J<|Zf<|Oe<|Za<|Zg<|mv J<|dt (Yy J J J ⟨by omega,by omega⟩)<|as_ J<|Zf ?_
    have hst:=Zao (l:=l) (i:=i) (by omega) hc
    exact Xp (i+1,_,_) ⟨by first | omega | (dsimp only<;>omega),by dsimp only;rw [hst];first | exact(Zww hm0 hm1 hx.1 hx.2 ‹_› ‹_›).symm | exact(Zwv hm0 hm1 hx.1 hx.2 ‹_› ‹_›).symm | exact(Zwu hm0 hm1 hx.1 hx.2 ‹_› ‹_›).symm | exact(Zwt hm0 hm1 hx.1 hx.2 ‹_› ‹_›).symm,by dsimp only;omega,by dsimp only;omega,by first | exact hx.1 | exact hm0,by first | exact hx.2 | exact hm1⟩ (by first | omega | (dsimp only<;>omega)) K4 K2
   ·refine Zl<|Oe<|Za<|Zg<|mv J<|dt (Yy J J J ⟨by omega,by omega⟩)<|as_ J<|Zf ?_
    have hst:=Zao (l:=l) (i:=i) (by omega) hc
    exact Xp (i+1,_,_) ⟨by first | omega | (dsimp only<;>omega),by dsimp only;rw [hst];first | exact(Zww hm0 hm1 hx.1 hx.2 ‹_› ‹_›).symm | exact(Zwv hm0 hm1 hx.1 hx.2 ‹_› ‹_›).symm | exact(Zwu hm0 hm1 hx.1 hx.2 ‹_› ‹_›).symm | exact(Zwt hm0 hm1 hx.1 hx.2 ‹_› ‹_›).symm,by dsimp only;omega,by dsimp only;omega,by first | exact hx.1 | exact hm0,by first | exact hx.2 | exact hm1⟩ (by first | omega | (dsimp only<;>omega)) K4 K2
 ·exact Yw<|Zx<|Zx<|Na<|Za<|Ze<|Zg<|mv J<|as_ J<|Zf<|Za<|Zw<|Zy (.inl J) hsc () _ (fun a w hs=>Xy hs results188 J) (by unfold chg;rw [show l=l.take i by rw [List.take_of_length_le (by omega)],←hc]<;>rfl) trivial J Zj
theorem r3_at(v w u:Value)(ls:List (SL×List (Int×SL)))(x y:Int)(hz:∀z∈ls,Vp (Zt z.2))(hx:bl x.natAbs≤1000000)(hy:bl y.natAbs≤1000000)(hlen:ls.length≤30:=by omega):Mb prog 167 #[v,.agg #[.bool (decide (x<0)),w,.bool (decide (y<0)),u]] [Zab 1 Bq qT v ls,d9p w x.natAbs,d9p u y.natAbs] (.int .i64 (chg ((Aa ls).map (fat x y)))):=by
 refine Yd func167 J ntmps167 J K3 ?_
 intro w0 sc hw hsc
 simp only [Zq,Zp]
 have hLl:((Aa ls).map (fat x y)).length=ls.length:=by simp
 have hLg:=fun i (h:i<ls.length)=>Ztn (z:=ls) rfl (fat x y) h
 refine Ze<|Zg<|tt (Yz (i:=4) J J J J J hw) fun b _=>as_ J<|Zf<|Za<|Ze<|Zg<|as_ J<|Zf<|Za<|Ze<|Ze<|Zg<|as_ J<|Zf<|Za<|Zo<|Yq (Nh 70 1 3 Zaf)<|Nw [(0,_),(3,_)] [(0,_),(1,_),(2,_),(3,_),(4,_)] (fun(q:Nat×Value)=>[(6,.int .i64 (q.1:Int)),(5,q.2)]) (fun(q:Nat×Value)=>[(70,osl 1 3 Zaf q.2 (((Aa ls).map (fat x y)).take q.1))]) (fun(q:Nat×Value)=>q.1≤ls.length) (fun(q:Nat×Value)=>ls.length-q.1) (0,.slice none 0 0) (by first | omega | (dsimp only<;>omega)) K4 K6 ?_
 rintro⟨i,vo⟩ hi
 dsimp only at hi
 simp only [CA,NA]
 have htl:(((Aa ls).map (fat x y)).take i).length=i:=by rw [List.length_take];omega
 refine Ze<|Ze<|Zg<|mv J<|mv J<|dt (Yh J J (i:=1) J Zz underlying186)<|dt (Xv J J J)<|Zf<|Za<|Zs J (fun h88=>?_) (fun h88=>?_)
 ·refine Zl<|Za<|Ze<|Zo ?_
  have hvi:=hz (ls.getD i T0) (Yx)
  have hvl:=hvi.len
  rw [Zv]at hvl
  refine Yq (Zgg 1 91 (ls.getD i T0) J J (Yx) J)<|Oj [1,4] [10]<|Zu (n:=0) [(0,0),(1,0),(2,0),(3,0),(4,0),(5,0),(6,1),(7,1),(8,1),(9,1),(10,3)]<|r0' J J (stf (Yr J J) K2)<|r0' J J (stf (Yr J J) K2)<|r0' J J (stf (Yr J J) K2)<|r0' J J (stf (Xc (ii:=1) J J J J Zz underlying186 sizeOf34 J (by first | omega | (simp only [List.length_set];omega))) K2)<|r0' J J (stf (Xs (ii:=1) T0 J J J Zz pT (by first | omega | (simp only [List.length_set];omega))) K2)<|r0' J J (stf (Ym (i:=4) J J J Zbx Nf J J J J) K2)<|r1' J (Zh (n:=5) (Zr0 _ _ _ _ x y (hvi.sz.mono (by omega)) hx hy) J J J K2 call121 (Zc 91 J J J (Zc 2 J J J (Zc 3 J J J Zd))) J hw) fun v _=>r1' J (Zh (n:=5) (Ce _ _ (by have:=ev_b (hvi.sz.mono (by omega):Sz 1000000 _) (by have:=hvi.len;omega) hx hy;omega)) J J J K1 call72 (Zc 5 J J J Zd) J hw) fun _ _=>r1' J (Pm (i:=6) (ivs:=[(0,_)]) (enc:=Zaf) [(fat x y (Zt (ls.getD i T0).2))] J J K2 Me ti3 J J J J J pZ.cells J J hw) (fun v_2 _=>?_)
  exact r1' J (Zed 70 J J J K2 (fun hoffr=>(Ak (i:=70) (j:=6) (by_:=8) J J J J J J (by decide) J (Yt pZ) Me ti3 J pZ J J J (by rw [htl];simp;omega) (by decide) J hw hoffr))) fun v_3 _=>r3' J (Pt (Oy J J) J) fun _ _=>Yk<|Yb<|Oe<|Za<|Zg<|mv J<|dt (Yy J J J ⟨by omega,by omega⟩)<|as_ J<|Zf<|Xp (i+1,_) (by first | omega | (dsimp only<;>omega)) (by first | omega | (dsimp only<;>omega)) K4 ⟨by rw [Oq 0 _ _ (by omega),hLg i (by omega)];rfl,rfl,rfl,rfl,rfl,rfl,trivial⟩
 ·refine Yw<|Zx<|Zx<|Na<|Za<|Ze<|Yq (Pe 70 J J pZ) ?_
  have htk:((Aa ls).map (fat x y)).take i=((Aa ls).map (fat x y)):=List.take_of_length_le (by omega)
  exact Zg<|mv J<|tt (Zh (n:=6) (Zwy _ _ (fun i=>by rw [htk];by_cases hi9:i<ls.length;(rw [hLg i hi9];exact fat_r _ _ _);(rw [show((Aa ls).map (fat x y)).getD i 0=0 from Qk (by omega)];decide)) (by omega)) J J J K1 call188 (Zc 70 J J J Zd) J hw) fun _ _=>as_ J<|Zf<|Za<|Zw<|Zy (.inl J) hsc () _ (fun a w hs=>Xy hs results167 J) (by rw [htk]) trivial J Zj
theorem Zwz(v w u w2 u2:Value)(zs:List (Int×SL))(x y x2 y2:Int)(hv:Vp (Zt zs))(h0:zs.length≠0)(hs:Sz 260 (Zt zs))(hl:zs.length≤8)(hx:bl x.natAbs≤1000000)(hy:bl y.natAbs≤1000000)(hx2:bl x2.natAbs≤1000000)(hy2:bl y2.natAbs≤1000000):Mb prog 122 #[v,.agg #[.bool (decide (x<0)),w,.bool (decide (y<0)),u],.agg #[.bool (decide (x2<0)),w2,.bool (decide (y2<0)),u2]] [pp v zs,d9p w x.natAbs,d9p u y.natAbs,d9p w2 x2.natAbs,d9p u2 y2.natAbs] (.int .i64 (cnt 13 (Zt zs) x y-cnt 13 (Zt zs) x2 y2)):=by
 refine Yd func122 J ntmps122 J K5 ?_
 intro w0 sc hw hsc
 simp only [Zq,Zp]
 have hli:=Zv zs
 have hne:Zt zs≠[]:=fun e=>h0 (by rw [←hli,e];rfl)
 obtain⟨hC,hq,hql⟩:=ch13r hv.tr hne hs (by omega)
 refine Ze<|Zg<|tt (Yz (i:=6) J J J J J hw) fun b _=>tt (Yz (i:=7) J J J J J hw) fun b_2 _=>as_ J<|Zf<|Za<|Ze<|Zg<|mv J<|tt (Zh (n:=8) (Zw0 _ _ hv h0 hs hl) J J J K1 call166 (Zc 1 J J J Zd) J hw) fun g hg=>as_ J<|Zf<|Za<|Ze ?_
 have hT:Aa g.2=chn 13 (Zt zs):=hg
 have hTl:=Zto hT
 have hll:(chn 13 (Zt zs)).length≤_:=Dt 13 _ _
 have hr1:=Cz ((Aa g.2).map (fat x y))
 have hr2:=Cz ((Aa g.2).map (fat x2 y2))
 simp only [List.length_map]at hr1 hr2
 have hVz:∀z∈g.2,Vp (Zt z.2):=fun z hz=>vp_chn hv hne hC _ (by rw [←hT];exact List.mem_map_of_mem (f:=fun z=>Zt z.2) hz)
 refine Qo (fun _=>False) [(0,0),(1,0),(3,0),(4,0),(2,1),(5,1),(6,0),(7,3)] ?_ ?_
 ·kernel_rfl
 exact r0' J J (st0 (Yr J J))<|r0' J J (st0 (Ym (i:=6) J J J Zbx Nf J J J J))<|r0' J J (st0 (Yr J J))<|r0' J J (st0 (Ym (i:=7) J J J Zbx Nf J J J J))<|r1' J (Zh (n:=8) (r3_at _ _ _ _ x y hVz hx hy) J J J K2 call167 (Zc 8 J J J (Zc 2 J J J (Zc 3 J J J Zd))) J hw) fun _ _=>r1' J (Zh (n:=8) (r3_at _ _ _ _ x2 y2 hVz hx2 hy2) J J J K2 call167 (Zc 8 J J J (Zc 4 J J J (Zc 5 J J J Zd))) J hw) fun _ _=>r0' J J (st0 (Qf J J J ⟨by omega,by omega⟩))<|r3' J (Pt (Oy J J) J) fun _ _=>Oh<|Za<|Zw<|Zy (.inl J) hsc () _ (fun a w hs=>Xy hs results122 J) (by rw [hT]<;>rfl) trivial J Zj
set_option maxHeartbeats 4000000 in
theorem Zlz(xs:List Int)(hd:Cvd xs)(hx0:xs≠[])(f:Nat)(ih:∀(v:Value) (zs:List (Int×SL)) (hI:RI xs (Zt zs)) (hf:zs.length≤f),Cal prog 19 #[v] [pp v zs] true (G:=Value×List (Int×SL)) (fun r=>Zt r.2=Zjt 13 f (Zt zs)) (fun r=>r.1) (fun r=>[pp r.1 r.2]))(v:Value)(zs:List (Int×SL))(hI:RI xs (Zt zs))(hf:zs.length≤f+1):Cal prog 19 #[v] [pp v zs] true (G:=Value×List (Int×SL)) (fun r=>Zt r.2=Zjt 13 (f+1) (Zt zs)) (fun r=>r.1) (fun r=>[pp r.1 r.2]):=by
 refine Yd func19 J ntmps19 J K1 ?_
 intro w0 sc hw hsc
 simp only [Zq,Zp]
 have hli:=Zv zs
 have hIl:=hI.l
 have hz0:zs.length≠0:=fun e=>hI.ne (List.eq_nil_of_length_eq_zero (by omega))
 refine Ze<|Zg<|as_ J<|Zf<|Za<|Ze<|Zg<|mv J<|tt (Zh (n:=2) (Zsa _ _ hI.v hz0 (hI.s.mono (by omega))) J J J K1 call54 (Zc 1 J J J Zd) J hw) (fun g hg=>?_)
 have H_on:Zt g.2=(sqf 13 (Zt zs)):=hg
 have hl_on:=congrArg List.length H_on
 rw [Zv]at hl_on
 refine as_ J<|Zf<|Za<|Ze<|Ze<|Zg<|mv J<|dt (Yh J J (i:=2) J Zz Nn)<|dt (Pv J J J)<|Zf<|Za<|Zs J (fun h29=>?_) (fun h29=>?_)
 ·have h1:(sqf 13 (Zt zs)).length=1:=by omega
  exact Ze<|Zg<|mv J<|as_ J<|Zf<|Za<|Zw<|Xa<|Zy (.inl J) hsc (_,g.2) _ (fun a w hs=>Xy hs results19 J) J (by rw [H_on,rodd_1 h1]) J (Xb 2 J J J Zj)
 ·have h1:(sqf 13 (Zt zs)).length≠1:=by omega
  obtain⟨c1,c2,c3,c4,c5,c6,c7,c8,c9,c10,c11,c12,c13,c14,c15,c16,c17,c18,c19,c20,c21,c22,c23,c24,c25⟩:=RI.step hd hx0 hI
  have m6:=Pz c6
  have m12:=Pz c12
  have hl_lfp:=Yn (Zt zs)
  refine Zl<|Za<|Ze<|Zg<|mv J<|tt (Zh (n:=3) (Ia _ _ (hI.s.mono (by omega)) (fun _=>c5)) J J J K1 call57 (Zc 1 J J J Zd) J hw) (fun g_2 hg_2=>?_)
  have H_pp:Zt g_2.2=Xe (Zt zs):=hg_2
  have hl_pp:=congrArg List.length H_pp
  rw [Zv]at hl_pp
  refine tt (Zh (n:=4) (Zjz 1 ⟨by decide,by decide⟩) J J J K1 call34 Zd J hw) fun v _=>tt (Zh (n:=5) (Zaw _ _ _ _ (by rw [H_pp];exact(Hk hI.s).mono (by omega)) (by decide +kernel)) J J J K2 call56 (Zc 3 J J J (Zc 4 J J J Zd)) J hw) (fun g_3 hg_3=>?_)
  have H_sc:Zt g_3.2=Xn (Xe (Zt zs)) 1:=by rw [hg_3,H_pp]
  have hl_sc:=congrArg List.length H_sc
  rw [Zv]at hl_sc
  refine mv J<|tt (Zh (n:=6) (Zax _ _ _ _ (by rw [H_sc];exact c7) (by rw [H_on];exact c1) (fun _=>by rw [H_sc,H_on];have h7:=Nat.mul_le_mul (show g_3.2.length-g.2.length+1≤8 by omega) (show msz (sqf 13 (Zt zs))+1≤331 by omega);omega)) J J J K2 call55 (Zc 5 J J J (Zc 2 J J J Zd)) J hw) (fun g_4 hg_4=>?_)
  have H_lf:Zt g_4.2=Mv 13 (Zt zs):=by have h9:=hg_4 (by rw [H_sc,H_on];exact c9);rw [H_sc,H_on]at h9;exact h9
  have hl_lf:=congrArg List.length H_lf
  rw [Zv]at hl_lf
  refine mv J<|dt (Yl J J J)<|dt (Yl J J J)<|as_ J<|as_ J<|Zf<|Za<|Ze<|Zg<|mv J<|tt (Zh (n:=7) (Zsa _ _ (by rw [H_lf];exact c10) (fun e=>c11 (List.eq_nil_of_length_eq_zero (by rw [←H_lf,Zv];exact e))) (by rw [H_lf];exact c12.mono (by omega))) J J J K1 call54 (Zc 6 J J J Zd) J hw) (fun g_5 hg_5=>?_)
  have H_tw:Zt g_5.2=(sqf 13 (Mv 13 (Zt zs))):=by rw [hg_5,H_lf]
  have hl_tw:=congrArg List.length H_tw
  rw [Zv]at hl_tw
  refine as_ J<|Zf<|Za<|Ze<|Zg<|mv J<|mv J<|tt (Zh (n:=8) (Zax _ _ _ _ (by rw [H_on];exact c1) (by rw [H_tw];exact c16) (fun _=>by rw [H_on,H_tw];have h7:=Nat.mul_le_mul (show g.2.length-g_5.2.length+1≤8 by omega) (show msz (sqf 13 (Mv 13 (Zt zs)))+1≤331 by omega);omega)) J J J K2 call55 (Zc 2 J J J (Zc 7 J J J Zd)) J hw) (fun g_6 hg_6=>?_)
  have H_ol:Zt g_6.2=Kv (sqf 13 (Zt zs)) (sqf 13 (Mv 13 (Zt zs))):=by have h9:=hg_6 (by rw [H_on,H_tw];exact c20);rw [H_on,H_tw]at h9;exact h9
  have hl_ol:=congrArg List.length H_ol
  rw [Zv]at hl_ol
  refine mv J<|dt (Yl J J J)<|dt (Yl J J J)<|as_ J<|as_ J<|Zf<|Za<|Ze<|Zg<|mv J<|tt (Zh (n:=9) (Ia _ _ (by rw [H_lf];exact c12.mono (by omega)) (fun _=>by rw [H_lf];exact c14)) J J J K1 call57 (Zc 6 J J J Zd) J hw) (fun g_7 hg_7=>?_)
  have H_p2:Zt g_7.2=(Mv 13 (Zt zs)):=by rw [hg_7,H_lf,c15]
  have hl_p2:=congrArg List.length H_p2
  rw [Zv]at hl_p2
  refine mv J<|tt (Zh (n:=10) (Zax _ _ _ _ (by rw [H_p2];exact c10.tr) (by rw [H_tw];exact c16) (fun _=>by rw [H_p2,H_tw];have h7:=Nat.mul_le_mul (show g_7.2.length-g_5.2.length+1≤8 by omega) (show msz (sqf 13 (Mv 13 (Zt zs)))+1≤331 by omega);omega)) J J J K2 call55 (Zc 9 J J J (Zc 7 J J J Zd)) J hw) (fun g_8 hg_8=>?_)
  have H_rs:Zt g_8.2=An 13 (Zt zs):=by have h9:=hg_8 (by rw [H_p2,H_tw];exact c23);rw [H_p2,H_tw]at h9;exact h9.trans (by unfold An;rw [c15])
  have hl_rs:=congrArg List.length H_rs
  rw [Zv]at hl_rs
  refine mv J<|dt (Yl J J J)<|dt (Yl J J J)<|as_ J<|as_ J<|Zf<|Za<|Ze<|Zg<|mv J<|mv J<|tt (Zh (n:=11) (ih _ _ (by rw [H_rs];exact c24) (by have:=c25 h1;omega)) J J J K1 call19 (Zc 10 J J J Zd) J hw) (fun g_9 hg_9=>?_)
  have hl_od:=congrArg List.length hg_9
  rw [Zv,H_rs]at hl_od
  obtain⟨q1,q2,q3⟩:=RI.size hd hx0 c24 (f:=f) (by have:=c25 h1;omega)
  exact tt (Zh (n:=12) (rp_mul _ _ _ _ (by rw [H_ol];exact c21.mono (by omega)) (by rw [hg_9,H_rs];exact q2.mono (by omega)) (by omega)) J J J K2 call42 (Zc 8 J J J (Zc 11 J J J Zd)) J hw) fun g_10 hg_10=>as_ J<|Zf<|Za<|Zw<|Zy (.inl J) hsc _ _ (fun a w hs=>Xy hs results19 J) J (by rw [hg_10,H_ol,hg_9,H_rs];exact(rodd_s h1).symm) J (Xb 12 J J J Zj)
theorem Zgk(xs:List Int)(hd:Cvd xs)(hx0:xs≠[]):∀(f:Nat) (v:Value) (zs:List (Int×SL)) (hI:RI xs (Zt zs)) (hf:zs.length≤f),Cal prog 19 #[v] [pp v zs] true (G:=Value×List (Int×SL)) (fun r=>Zt r.2=Zjt 13 f (Zt zs)) (fun r=>r.1) (fun r=>[pp r.1 r.2])
 | 0,v,zs,hI,hf=>absurd (List.eq_nil_of_length_eq_zero (by rw [Zv];omega)) hI.ne
 | f+1,v,zs,hI,hf=>Zlz xs hd hx0 f (Zgk xs hd hx0 f) v zs hI hf
theorem r4_odd(v:Value)(zs:List (Int×SL))(hd:Cvd (Zt zs))(h0:zs.length≠0):Cal prog 19 #[v] [pp v zs] true (G:=Value×List (Int×SL)) (fun r=>Zt r.2=Hy (Zt zs)) (fun r=>r.1) (fun r=>[pp r.1 r.2]):=by
 have hne:Zt zs≠[]:=fun e=>h0 (by rw [←Zv,e];rfl)
 have h:=Zgk (Zt zs) hd hne zs.length v zs (RI.start hd hne) (Nat.le_refl _)
 rw [←Zv zs,Zr1 hd hne]at h
 exact h
theorem Zri{r:RWL}(h:smR r=true)(hok:okP r=true):Cvd (dec r)∧Sz 32 (dec r)∧(dec r).length=r.length:=by
 obtain⟨h1,h2⟩:=smR_le h
 obtain⟨h3,h4⟩:=Zpa hok
 have h5:=congrArg List.length h4
 rw [List.length_map]at h5
 have hs:Sz 32 (dec r):=Sz.of_mem fun c hc=>by
  have h6:=h2 (wr c) (by rw [h4];exact List.mem_map_of_mem hc)
  exact Zk4 4 h6
 exact⟨⟨h3,hs.mono (by omega),by omega⟩,hs,h5.symm⟩
noncomputable def odR (r:RWL):List Int×Int:=if okP r=true then(if(dec r).length=0 then([],3)else(Hy (dec r),0))else([],2)
theorem Mj(v:Value)(r:List (Bool×ByteArray))(hok:okP r=true):Cal Tryz.prog 16 #[v] [slp 2 Zft v r] true (G:=Value×List (Int×SL)) (fun q=>Zt q.2=dec r) (fun q=>q.1) (fun q=>[pp q.1 q.2]):=
 Cal.imp (rp_from v (dec r) ((Zpa hok).1.sz.mono (by omega)) (by have:=(Zpa hok).1.len;omega)) (Zhp hok v) (fun _ h=>h)
theorem Ztw(x y:Int):fat x y []=0:=by unfold fat;rw [show pev [] x y=0 from rfl];rfl
theorem Zg1{p:List Int}(h:p.length=0):Px p=[]:=by unfold Px;rw [h];rfl
theorem Zq3(p:List Int)(x y:Int):vlu (Px p) (x,y)=fat x y p:=by
  by_cases h:p.length=0
  · obtain rfl:=List.eq_nil_of_length_eq_zero h
    rw [Zg1 h,Ztw];rfl
  · rw [Zbl h];rfl
theorem Zkn(a:Int)(l:List Int):Zqq (a :: l)=if a≠0 then a else Zqq l:=by
  by_cases h:a=0
  · rw [if_neg (fun e=>e h)]
    subst h
    rfl
  · rw [if_pos h]
    unfold Zqq
    simp [h]
theorem Zpo{p:List Int}{x y:Int}(h:p.length=0∨fat x y p≠0):aft (Px p) (x,y)=fat x y p:=by
  by_cases h0:p.length=0
  · obtain rfl:=List.eq_nil_of_length_eq_zero h0
    rw [Zg1 h0,Ztw];rfl
  · have h1:=h.resolve_left h0
    rw [Zbl h0]
    unfold aft
    rw [List.map_cons,Zkn,if_pos h1]
theorem aft_go{p:List Int}{x y:Int}(h0:p.length≠0)(h1:fat x y p=0):aft (Px p) (x,y)=aft (Px (Pj p)) (x,y):=by
  rw [Zbl h0]
  unfold aft
  rw [List.map_cons,Zkn,if_neg (fun e=>e h1)]
theorem Zq1{p:List Int}{k:Nat}(hv:Vp p)(hs:Sz k p)(hk:k≤60000):Vp (Pj p):=by
  have hl:=hv.len
  have h:=Hl hs (by omega)
  exact⟨h.mono (by omega),Ny hv.tr,by have:=On p;omega⟩
theorem Zut{p:List Int}(h:p.length≠0)(x y:Int):cnt 13 (Hy p) x y=chv (chx p) (x,y):=by rw [Zpg h];rfl
theorem chx_hd{p:List Int}(hd:Cvd p)(h:p.length≠0){x y:Int}(hy:0<y):fat x y ((chx p).getD 0 [])=0↔fat x y (Hy p)=0:=by
  have hne:p≠[]:=fun e=>h (by rw [e];rfl)
  obtain⟨o1,-⟩:=Au hd hne
  rw [Zpg h]
  have e:(chn 13 (Hy p)).getD 0 []=sqf 13 (Hy p):=by
    unfold chn Mn
    split<;>rfl
  rw [e]
  have z:=o1.zero ((x:Rat)/(y:Rat))
  rw [Zcl hy _,Zcl hy _]
  constructor
  · intro h1
    have := z.1 (by rcases Pq (rev (sqf 13 (Hy p)) ((x : Rat) / (y : Rat))) with ⟨h5, h6⟩ | ⟨h5, h6⟩ | ⟨h5, h6⟩
                    · rw [h6]at h1;exact absurd h1 (by decide)
                    · rw [h6]at h1;exact absurd h1 (by decide)
                    · exact h5)
    rw [this];decide
  · intro h1
    have := z.2 (by rcases Pq (rev (Hy p) ((x : Rat) / (y : Rat))) with ⟨h5, h6⟩ | ⟨h5, h6⟩ | ⟨h5, h6⟩
                    · rw [h6]at h1;exact absurd h1 (by decide)
                    · rw [h6]at h1;exact absurd h1 (by decide)
                    · exact h5)
    rw [this];decide
theorem Zu2{p:List Int}(h:p.length≠0):(chx p).length≠0:=by
  rw [Zpg h]
  unfold chn Mn
  split<;>simp
theorem crb_nil{p:List Int}(h:p.length=0)(a b:R2):crb (chx p) a b=false:=by
  unfold chx;rw [if_pos h];rfl
theorem crx_t{p:List Int}(hd:Cvd p)(h:p.length≠0){x y x2 y2:Int}(hy:0<y2)(hz:fat x2 y2 (Hy p)=0):crb (chx p) (x,y) (x2,y2)=decide (0<chv (chx p) (x,y)-chv (chx p) (x2,y2)-1):=by
  unfold crb;rw [if_neg (Zu2 h),if_pos ((chx_hd hd h hy).2 hz)]
theorem crx_f{p:List Int}(hd:Cvd p)(h:p.length≠0){x y x2 y2:Int}(hy:0<y2)(hz:¬fat x2 y2 (Hy p)=0):crb (chx p) (x,y) (x2,y2)=decide (0<chv (chx p) (x,y)-chv (chx p) (x2,y2)):=by
  unfold crb;rw [if_neg (Zu2 h),if_neg (fun e=>hz ((chx_hd hd h hy).1 e)),Int.sub_zero]
theorem Zmn{p:List Int}{a:R2}(ha:0<a.2):fat a.1 a.2 p<0↔rev p (qv a)<0:=by
  rw [show fat a.1 a.2 p=rsg (rev p (qv a))from Zcl ha p]
  rcases Pq (rev p (qv a))with⟨h5,h6⟩ | ⟨h5,h6⟩ | ⟨h5,h6⟩
  · rw [h6];constructor
    · intro h;exact absurd h (by decide)
    · intro h;grind
  · rw [h6];exact⟨fun _=>h5,fun _=>by decide⟩
  · rw [h6,h5];constructor
    · intro h;exact absurd h (by decide)
    · intro h;exact absurd h (by decide)
theorem Zxm{p:List Int}(hd:Cvd p){a b:R2}(ha:0<a.2)(hb:0<b.2)(hc:¬0<cmp a b)(h:fat a.1 a.2 p<0):ngb (Px p) (chx p) a b=true:=by
  have hle:=(Zfj ha hb).1 (by omega)
  exact(Ze7 hd ha hb hle).2 ⟨qv a,Rat.le_refl,hle,(Zmn ha).1 h⟩
theorem Zxl{p:List Int}(hd:Cvd p){a b:R2}(ha:0<a.2)(hb:0<b.2)(hc:¬0<cmp a b)(h:fat b.1 b.2 p<0):ngb (Px p) (chx p) a b=true:=by
  have hle:=(Zfj ha hb).1 (by omega)
  exact(Ze7 hd ha hb hle).2 ⟨qv b,hle,Rat.le_refl,(Zmn hb).1 h⟩
theorem Zxk{p:List Int}{a b:R2}(hc:¬cmp a b=0)(h:aft (Px p) a<0):ngb (Px p) (chx p) a b=true:=by
  unfold ngb;rw [if_neg hc,decide_eq_true h];rfl
theorem Zxj{p:List Int}{a b:R2}(hc:¬cmp a b=0)(h:¬aft (Px p) a<0):ngb (Px p) (chx p) a b=crb (chx p) a b:=by
  unfold ngb;rw [if_neg hc,decide_eq_false h];rfl
theorem ngb_e{p:List Int}{a b:R2}(hc:cmp a b=0):ngb (Px p) (chx p) a b=decide (fat a.1 a.2 p<0):=by
  unfold ngb;rw [if_pos hc,show vlu (Px p) a=fat a.1 a.2 p from Zq3 p a.1 a.2]
theorem Ff(v w u:Value)(zs:List (Int×SL))(x y:Int)(hx:bl x.natAbs≤1000000)(hy:bl y.natAbs≤1000000)(hs:Sz 1000000 (Zt zs))(hl:zs.length≤30:=by omega):Mb prog 65 #[v,.agg #[.bool (decide (x<0)),w,.bool (decide (y<0)),u]] [pp v zs,d9p w x.natAbs,d9p u y.natAbs] (.int .i64 (fat x y (Zt zs))):=by
 refine Yd func65 J ntmps65 J K3 ?_
 intro w0 sc hw hsc
 simp only [Zq,Zp]
 have hli:=Zv zs
 exact Ze<|Zg<|tt (Yz (i:=4) J J J J J hw) fun bx _=>as_ J<|Zf<|Za<|Ze<|Zg<|mv J<|dt (Ym (i:=4) J J J Zbx Nf J J J J)<|tt (Zh (n:=5) (Zr0 _ _ _ _ x y hs hx hy) J J J K2 call121 (Zc 1 J J J (Zc 2 J J J (Zc 3 J J J Zd))) J hw) fun v _=>tt (Zh (n:=5) (Ce _ _ (by have:=ev_b hs (by omega) hx hy;omega)) J J J K1 call72 (Zc 5 J J J Zd) J hw) fun _ _=>as_ J<|Zf<|Za<|Zw<|Zy (.inl J) hsc () _ (fun a w hs=>Xy hs results65 J) J trivial J Zj
theorem Zws(v w u:Value)(zs:List (Int×SL))(x y:Int)(hx:bl x.natAbs≤1000000)(hy:bl y.natAbs≤1000000)(hs:Sz 1000000 (Zt zs))(hl:zs.length≤30):Mb prog 26 #[v,.agg #[.bool (decide (x<0)),w,.bool (decide (y<0)),u]] [pp v zs,d9p w x.natAbs,d9p u y.natAbs] (.bool (decide (fat x y (Zt zs)<0))):=by
 refine Yd func26 J ntmps26 J K3 ?_
 intro w0 sc hw hsc
 simp only [Zq,Zp]
 have hli:=Zv zs
 exact Ze<|Zg<|tt (Yz (i:=4) J J J J J hw) fun bx _=>as_ J<|Zf<|Za<|Ze<|Zg<|mv J<|dt (Ym (i:=4) J J J Zbx Nf J J J J)<|tt (Zh (n:=4) (Ff _ _ _ _ x y hx hy hs hl) J J J K2 call65 (Zc 1 J J J (Zc 2 J J J (Zc 3 J J J Zd))) J hw) fun _ _=>dt (Xv J J J)<|as_ J<|Zf<|Za<|Zw<|Zy (.inl J) hsc () _ (fun a w hs=>Xy hs results26 J) J trivial J Zj
theorem Zh9(x y:Int)(hx:bl x.natAbs≤1000000)(hy:bl y.natAbs≤1000000)(n:Nat)(ih:∀(v w u:Value) (zs:List (Int×SL)) (k:Nat) (hv:Vp (Zt zs)) (hk:Sz k (Zt zs)) (hkk:k+5*zs.length≤110) (hf:zs.length<n),Cal prog 66 #[v,.agg #[.bool (decide (x<0)),w,.bool (decide (y<0)),u]] [pp v zs,d9p w x.natAbs,d9p u y.natAbs] false (G:=Unit) (fun _=>True) (fun _=> .int .i64 (aft (Px (Zt zs)) (x,y))) (fun _=>[]))(v w u:Value)(zs:List (Int×SL))(k:Nat)(hv:Vp (Zt zs))(hk:Sz k (Zt zs))(hkk:k+5*zs.length≤110)(hf:zs.length<n+1):Cal prog 66 #[v,.agg #[.bool (decide (x<0)),w,.bool (decide (y<0)),u]] [pp v zs,d9p w x.natAbs,d9p u y.natAbs] false (G:=Unit) (fun _=>True) (fun _=> .int .i64 (aft (Px (Zt zs)) (x,y))) (fun _=>[]):=by
 refine Yd func66 J ntmps66 J K3 ?_
 intro w0 sc hw hsc
 simp only [Zq,Zp]
 have hli:=Zv zs
 have hlen:=hv.len
 have hld:=On (Zt zs)
 have hvd:=Zq1 hv hk (by omega)
 have hkd:=Hl hk (by omega)
 refine Ze<|Zg<|tt (Yz (i:=4) J J J J J hw) fun bx _=>as_ J<|Zf<|Za<|Ze<|Ze<|Zg<|mv J<|dt (Yh J J (i:=1) J Zz Nn)<|dt (Pv J J J)<|mv J<|Pa (d:=8) J (fun s44=>?_) (fun s44=>?_)
 ·exact gsk J J J<|gsk J J J<|gsk J J J<|gsk J J J<|dt (Yu J J J)<|Zf<|Za<|Pu J<|Ze<|Zg<|mv J<|dt (Ym (i:=4) J J J Zbx Nf J J J J)<|tt (Zh (n:=4) (Ff _ _ _ _ x y hx hy (hv.sz.mono (by omega))) J J J K2 call65 (Zc 1 J J J (Zc 2 J J J (Zc 3 J J J Zd))) J hw) fun _ _=>as_ J<|Zf<|Za<|Zw<|Xa<|Zy (.inl J) hsc () _ (fun a w hs=>Xy hs results66 J) (by rw [Zpo (by first | (left;omega) | (right;assumption))]) trivial J Zj
 ·refine gdt (Yr J J) J J<|gdt (Ym (i:=4) J J J Zbx Nf J J J J) J J<|gtt (Zh (n:=4) (Ff _ _ _ _ x y hx hy (hv.sz.mono (by omega))) J J J K2 call65 (Zc 1 J J J (Zc 2 J J J (Zc 3 J J J Zd))) J hw) J J J fun _ _=>gdt (Qc J J J) J J<|dt (Yg J J J)<|Zf<|Za<|Zs J (fun h44=>?_) (fun h44=>?_)
  ·exact Ze<|Zg<|mv J<|dt (Ym (i:=4) J J J Zbx Nf J J J J)<|tt (Zh (n:=4) (Ff _ _ _ _ x y hx hy (hv.sz.mono (by omega))) J J J K2 call65 (Zc 1 J J J (Zc 2 J J J (Zc 3 J J J Zd))) J hw) fun _ _=>as_ J<|Zf<|Za<|Zw<|Xa<|Zy (.inl J) hsc () _ (fun a w hs=>Xy hs results66 J) (by rw [Zpo (by first | (left;omega) | (right;assumption))]) trivial J Zj
  ·refine Zl<|Za<|Ze<|Gb (fun _=>False) [4]<|Zu (n:=2) [(0,0),(2,0),(1,1)]<|r0' J J (st0 (Yr J J))<|r0' J J (st0 (Ym (i:=4) J J J Zbx Nf J J J J))<|r1' J (Zh (n:=5) (Zev _ _ (hv.sz.mono (by omega))) J J J K1 call115 (Zc 1 J J J Zd) J hw) fun g hg=>Yk ?_
   have hD:Zt g.2=Pj (Zt zs):=hg
   have hl7:=congrArg List.length hD
   rw [Zv]at hl7
   exact Zu (n:=0) [(3,1),(4,3)]<|r1' J (Zh (n:=5) (ih _ _ _ _ (k+5) (by rw [hD];exact hvd) (by rw [hD];exact hkd) (by omega) (by omega)) J J J K2 call66 (Zc 5 J J J (Zc 2 J J J (Zc 3 J J J Zd))) J hw) fun _ _=>r3' J (Pt (Oy J J) J) fun _ _=>Yk<|Yb<|Za<|Zw<|Zy (.inl J) hsc () _ (fun a w hs=>Xy hs results66 J) (by rw [aft_go (p:=Zt zs) (by omega) (Decidable.byContradiction ‹_›),←hD]) trivial J Zj
theorem Zn4(x y:Int)(hx:bl x.natAbs≤1000000)(hy:bl y.natAbs≤1000000):∀(n:Nat) (v w u:Value) (zs:List (Int×SL)) (k:Nat) (hv:Vp (Zt zs)) (hk:Sz k (Zt zs)) (hkk:k+5*zs.length≤110) (hf:zs.length<n),Cal prog 66 #[v,.agg #[.bool (decide (x<0)),w,.bool (decide (y<0)),u]] [pp v zs,d9p w x.natAbs,d9p u y.natAbs] false (G:=Unit) (fun _=>True) (fun _=> .int .i64 (aft (Px (Zt zs)) (x,y))) (fun _=>[])
 | 0,v,w,u,zs,k,hv,hk,hkk,hf=>absurd hf (Nat.not_lt_zero _)
 | n+1,v,w,u,zs,k,hv,hk,hkk,hf=>Zh9 x y hx hy n (Zn4 x y hx hy n) v w u zs k hv hk hkk hf
theorem Zp6(v w u w2 u2:Value)(zs:List (Int×SL))(x y x2 y2:Int)(hx:bl x.natAbs≤1000000)(hy:bl y.natAbs≤1000000)(hx2:bl x2.natAbs≤1000000)(hy2:bl y2.natAbs≤1000000)(hp2:0<y2)(hd:Cvd (Zt zs)):Mb prog 67 #[v,.agg #[.bool (decide (x<0)),w,.bool (decide (y<0)),u],.agg #[.bool (decide (x2<0)),w2,.bool (decide (y2<0)),u2]] [pp v zs,d9p w x.natAbs,d9p u y.natAbs,d9p w2 x2.natAbs,d9p u2 y2.natAbs] (.bool (crb (chx (Zt zs)) (x,y) (x2,y2))):=by
 refine Yd func67 J ntmps67 J K5 ?_
 intro w0 sc hw hsc
 simp only [Zq,Zp]
 have hli:=Zv zs
 have hd7:=hd.l
 have hr1:=Zyl (chx (Zt zs)) (x,y)
 have hr2:=Zyl (chx (Zt zs)) (x2,y2)
 have hr3:=Fv (Zt zs)
 refine Ze<|Zg<|tt (Yz (i:=6) J J J J J hw) fun bx _=>tt (Yz (i:=7) J J J J J hw) fun bx_2 _=>as_ J<|Zf<|Za<|Ze<|Ze<|Zg<|mv J<|dt (Yh J J (i:=1) J Zz Nn)<|dt (Pv J J J)<|Zf<|Za<|Zs J (fun h52=>?_) (fun h52=>?_)
 ·exact Ze<|Zg<|as_ J<|Zf<|Za<|Zw<|Xa<|Zy (.inl J) hsc () _ (fun a w hs=>Xy hs results67 J) (by rw [crb_nil (by omega)]) trivial J Zj
 ·have hz0:(Zt zs).length≠0:=by omega
  obtain⟨o1,o2,o3,o4,-⟩:=Au hd (fun e=>hz0 (by rw [e];rfl))
  refine Zl<|Za<|Ze<|Zg<|mv J<|tt (Zh (n:=8) (r4_odd _ _ hd (by omega)) J J J K1 call19 (Zc 1 J J J Zd) J hw) (fun g hg=>?_)
  have hO:Zt g.2=Hy (Zt zs):=hg
  have hl7:=congrArg List.length hO
  rw [Zv]at hl7
  refine as_ J<|Zf<|Za<|Ze<|Zg<|mv J<|dt (Ym (i:=6) J J J Zbx Nf J J J J)<|dt (Ym (i:=7) J J J Zbx Nf J J J J)<|tt (Zh (n:=8) (Zwz _ _ _ _ _ _ x y x2 y2 (by rw [hO];exact o2) (fun e=>o1.one (List.eq_nil_of_length_eq_zero (by rw [←hO,Zv];exact e))) (by rw [hO];exact o3.mono (by omega)) (by omega) hx hy hx2 hy2) J J J K3 call122 (Zc 8 J J J (Zc 2 J J J (Zc 3 J J J (Zc 4 J J J (Zc 5 J J J Zd))))) J hw) fun _ _=>as_ J<|Zf<|Za<|Ze<|Ze<|Yq (Ik 8 (v':= .int .i64 ((chv (chx (Zt zs)) (x,y))-(chv (chx (Zt zs)) (x2,y2)))) J (by rw [hO,Zut hz0,Zut hz0]))<|Zg<|mv J<|dt (Ym (i:=7) J J J Zbx Nf J J J J)<|tt (Zh (n:=8) (Ff _ _ _ _ x2 y2 hx2 hy2 (by rw [hO];exact o2.sz.mono (by omega))) J J J K2 call65 (Zc 8 J J J (Zc 4 J J J (Zc 5 J J J Zd))) J hw) fun _ _=>dt (Pv J J J)<|Zf<|Za<|Zs J (fun h57=>?_) (fun h57=>?_)
  ·have hfz:fat x2 y2 (Hy (Zt zs))=0:=by rw [←hO];exact h57
   exact Zg<|mv J<|dt (Qf J J J ⟨by omega,by omega⟩)<|as_ J<|Zf<|Za<|Ze<|Zg<|mv J<|dt (Of J J J)<|as_ J<|Zf<|Za<|Zw<|Zy (.inl J) hsc () _ (fun a w hs=>Xy hs results67 J) (by first | rw [crx_t hd hz0 hp2 hfz] | rw [crx_f hd hz0 hp2 hfz]) trivial J Zj
  ·have hfz:¬fat x2 y2 (Hy (Zt zs))=0:=by rw [←hO];exact h57
   exact Zl<|Za<|Ze<|Zg<|mv J<|dt (Of J J J)<|as_ J<|Zf<|Za<|Zw<|Zy (.inl J) hsc () _ (fun a w hs=>Xy hs results67 J) (by first | rw [crx_t hd hz0 hp2 hfz] | rw [crx_f hd hz0 hp2 hfz]) trivial J Zj
theorem Zez(v w u w2 u2:Value)(zs:List (Int×SL))(x y x2 y2:Int)(hp:0<y)(hp2:0<y2)(hd:Cvd (Zt zs))(hc:¬0<cmp (x,y) (x2,y2))(hx:bl x.natAbs≤1000000:=by omega)(hy:bl y.natAbs≤1000000:=by omega)(hx2:bl x2.natAbs≤1000000:=by omega)(hy2:bl y2.natAbs≤1000000:=by omega):Mb prog 24 #[v,.agg #[.bool (decide (x<0)),w,.bool (decide (y<0)),u],.agg #[.bool (decide (x2<0)),w2,.bool (decide (y2<0)),u2]] [pp v zs,d9p w x.natAbs,d9p u y.natAbs,d9p w2 x2.natAbs,d9p u2 y2.natAbs] (.bool (ngb (Px (Zt zs)) (chx (Zt zs)) (x,y) (x2,y2))):=by
 refine Yd func24 J ntmps24 J K5 ?_
 intro w0 sc hw hsc
 simp only [Zq,Zp]
 have hli:=Zv zs
 have hd7:=hd.l
 have hdz:Sz 1000000 (Zt zs):=hd.v.sz.mono (by omega)
 refine Ze<|Zg<|tt (Yz (i:=6) J J J J J hw) fun bx _=>tt (Yz (i:=7) J J J J J hw) fun bx_2 _=>as_ J<|Zf<|Za<|Ze<|Ze<|Zg<|dt (Ym (i:=6) J J J Zbx Nf J J J J)<|dt (Ym (i:=7) J J J Zbx Nf J J J J)<|tt (Zh (n:=7) (Bi _ _ _ _ x y x2 y2) J J J K2 call27 (Zc 2 J J J (Zc 3 J J J (Zc 4 J J J (Zc 5 J J J Zd)))) J hw) fun _ _=>dt (Pv J J J)<|Zf<|Za<|Zs J (fun h65=>?_) (fun h65=>?_)
 ·exact Ze<|Zg<|mv J<|dt (Ym (i:=6) J J J Zbx Nf J J J J)<|tt (Zh (n:=7) (Ff _ _ _ _ x y hx hy hdz) J J J K2 call65 (Zc 1 J J J (Zc 2 J J J (Zc 3 J J J Zd))) J hw) fun _ _=>dt (Xv J J J)<|as_ J<|Zf<|Za<|Zw<|Xa<|Zy (.inl J) hsc () _ (fun a w hs=>Xy hs results24 J) (by rw [ngb_e (show cmp (x,y) (x2,y2)=0 by assumption)]) trivial J Zj
 ·refine Zl<|Za<|Ze<|Zg<|mv J<|dt (Ym (i:=6) J J J Zbx Nf J J J J)<|tt (Zh (n:=7) (Ff _ _ _ _ x y hx hy hdz) J J J K2 call65 (Zc 1 J J J (Zc 2 J J J (Zc 3 J J J Zd))) J hw) fun _ _=>dt (Xv J J J)<|mv J<|Pa (d:=19) J (fun s68=>?_) (fun s68=>?_)
  ·exact gsk J J J<|gsk J J J<|gsk J J J<|gsk J J J<|dt (Yu J J J)<|mv J<|gsk J J J<|gsk J J J<|gsk J J J<|gsk J J J<|dt (Yu J J J)<|mv J<|gsk J J J<|gsk J J J<|gsk J J J<|gsk J J J<|dt (Yu J J J)<|as_ J<|Zf<|Za<|Zw<|Zy (.inl J) hsc () _ (fun a w hs=>Xy hs results24 J) (by first | rw [Zxm hd hp hp2 hc ‹_›] | rw [Zxl hd hp hp2 hc ‹_›] | rw [Zxk (show ¬cmp (x,y) (x2,y2)=0 by assumption) ‹_›] | rw [Zxj (show ¬cmp (x,y) (x2,y2)=0 by assumption) ‹_›]) trivial J Zj
  ·refine gdt (Yr J J) J J<|gdt (Ym (i:=7) J J J Zbx Nf J J J J) J J<|gtt (Zh (n:=7) (Ff _ _ _ _ x2 y2 hx2 hy2 hdz) J J J K2 call65 (Zc 1 J J J (Zc 4 J J J (Zc 5 J J J Zd))) J hw) J J J fun _ _=>gdt (Xv J J J) J J<|dt (Yg J J J)<|mv J<|Pa (d:=25) J (fun s68_2=>?_) (fun s68_2=>?_)
   ·exact gsk J J J<|gsk J J J<|gsk J J J<|gsk J J J<|dt (Yu J J J)<|mv J<|gsk J J J<|gsk J J J<|gsk J J J<|gsk J J J<|dt (Yu J J J)<|as_ J<|Zf<|Za<|Zw<|Zy (.inl J) hsc () _ (fun a w hs=>Xy hs results24 J) (by first | rw [Zxm hd hp hp2 hc ‹_›] | rw [Zxl hd hp hp2 hc ‹_›] | rw [Zxk (show ¬cmp (x,y) (x2,y2)=0 by assumption) ‹_›] | rw [Zxj (show ¬cmp (x,y) (x2,y2)=0 by assumption) ‹_›]) trivial J Zj
   ·refine gdt (Yr J J) J J<|gdt (Ym (i:=6) J J J Zbx Nf J J J J) J J<|gtt (Zh (n:=7) (Zn4 x y hx hy _ _ _ _ _ 70 hd.v hd.s (by omega) (Nat.lt_succ_self _)) J J J K2 call66 (Zc 1 J J J (Zc 2 J J J (Zc 3 J J J Zd))) J hw) J J J fun _ _=>gdt (Xv J J J) J J<|dt (Yg J J J)<|mv J<|Pa (d:=31) J (fun s68_3=>?_) (fun s68_3=>?_)
    ·exact gsk J J J<|gsk J J J<|gsk J J J<|gsk J J J<|dt (Yu J J J)<|as_ J<|Zf<|Za<|Zw<|Zy (.inl J) hsc () _ (fun a w hs=>Xy hs results24 J) (by first | rw [Zxm hd hp hp2 hc ‹_›] | rw [Zxl hd hp hp2 hc ‹_›] | rw [Zxk (show ¬cmp (x,y) (x2,y2)=0 by assumption) ‹_›] | rw [Zxj (show ¬cmp (x,y) (x2,y2)=0 by assumption) ‹_›]) trivial J Zj
    ·exact gdt (Yr J J) J J<|gdt (Ym (i:=6) J J J Zbx Nf J J J J) J J<|gdt (Ym (i:=7) J J J Zbx Nf J J J J) J J<|gtt (Zh (n:=7) (Zp6 _ _ _ _ _ _ x y x2 y2 hx hy hx2 hy2 hp2 hd) J J J K3 call67 (Zc 1 J J J (Zc 2 J J J (Zc 3 J J J (Zc 4 J J J (Zc 5 J J J Zd))))) J hw) J J J fun _ _=>dt (Yg J J J)<|as_ J<|Zf<|Za<|Zw<|Zy (.inl J) hsc () _ (fun a w hs=>Xy hs results24 J) (by first | rw [Zxm hd hp hp2 hc ‹_›] | rw [Zxl hd hp hp2 hc ‹_›] | rw [Zxk (show ¬cmp (x,y) (x2,y2)=0 by assumption) ‹_›] | rw [Zxj (show ¬cmp (x,y) (x2,y2)=0 by assumption) ‹_›]) trivial J Zj
abbrev rqz (a:R2):RZ:=((decide (a.1<0),Xd a.1.natAbs),(decide (a.2<0),Xd a.2.natAbs))
theorem bl_b4{n:Nat}(h:(Xd n).size≤4):bl n≤32:=Zk4 4 h
theorem e32_q{z:RZ}(hq:qOK z=true)(he:enR z=true):∃a:R2,E32 a∧z=rqz a:=by
 obtain⟨h1,h2,h3,h4⟩:=q_ok hq
 refine⟨(qx z,qy z),?_,h4⟩
 rw [h4]at he
 unfold enR at he
 rw [Bool.and_eq_true]at he
 exact⟨h3,bl_b4 (of_decide_eq_true he.1),bl_b4 (of_decide_eq_true he.2)⟩
theorem Hm{x y:Int}(hx:bl x.natAbs≤65536)(hy:bl y.natAbs≤65536):qn x y=x∧qd x y=y:=by
 have hf:¬Zcc x y:=by unfold Zcc;omega
 unfold qn qd;rw [if_neg hf,if_neg hf];exact⟨rfl,rfl⟩
theorem all2{z1 z2:RZ}(h:[z1,z2].all enR=true):enR z1=true∧enR z2=true:=by
 simpa using h
theorem Fnd.lec{xs:List Int}{a b m:R2}(ha:0<a.2)(hb:0<b.2)(h:Fnd xs (qv a) (qv b) m):¬0<cmp a m∧¬0<cmp m b:=by
 have h1:=(Zfj ha h.lw.1).2 h.lo
 have h2:=(Zfj h.lw.1 hb).2 h.hi
 omega
theorem Fnd.fat{xs:List Int}{s t:Rat}{m:R2}(h:Fnd xs s t m):Go.Sky.fat m.1 m.2 xs<0:=(Zmn h.lw.1).2 h.ng
end Go.Sky

