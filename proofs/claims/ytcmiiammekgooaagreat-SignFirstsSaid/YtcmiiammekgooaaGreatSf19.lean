/- rules, arithmetic and contracts: part 20
   Proved without conditions of its own: each theorem bears its own. -/
import Derived.Test.YtcmiiammekgooaaGreatSf03
import Derived.Test.YtcmiiammekgooaaGreatSf02
import Derived.Test.YtcmiiammekgooaaGreatSf01
import Derived.Test.YtcmiiammekgooaaGreatSf10
import Derived.Test.YtcmiiammekgooaaGreatSf12
import Derived.Test.YtcmiiammekgooaaGreatSf18
import Derived.Test.YtcmiiammekgooaaGreatSf14
import Derived.Test.YtcmiiammekgooaaGreatSf16
set_option linter.all false
namespace Go.Sky
open Go.Proofs.Tryz
open Go.Proofs
set_option maxRecDepth 20000
set_option maxHeartbeats 4000000
set_option linter.unusedSimpArgs false
set_option maxHeartbeats 4000000 in
theorem r3_rem(v u:Value)(zs ys:List (Int×SL))(F:Nat)(hl:zs.length≤30)(hk:ys.length≤30)(hy0:0<ys.length)(htz:Tr (Zt zs))(ht:Tr (Zt ys))(hF0:zs.length<ys.length+F)(hS0:msz (Zt zs)+F*(msz (Zt ys)+1)≤900000):Cal prog 187 #[v,u] [pp v zs,pp u ys] true (G:=Value×List (Int×SL)) (fun r=>Zt r.2=Bw F (Zt zs) (Zt ys)) (fun r=>r.1) (fun r=>[pp r.1 r.2]):=by
 refine Yc func187 J ntmps187 J K2 ?_
 intro w0 sc hw hsc
 simp only [Zq,Zp]
 have hli:=Zw zs
 have hli2:=Zw ys
 have hcy:=Nk ys (ys.length-1)
 have hra:=Zvg (Zt ys)
 refine Zd<|Zg<|as_ J<|Zf<|Za<|Zd<|Zg<|mv J<|mv J<|dt (Yd J J (i:=2) J Yb Nn)<|dt (Qd J J J ⟨by omega,by omega⟩)<|dt (Xb (ii:=2) (i:=(ys.length-1)) J J J J Yb Nn Xp)<|dt (Xv (ii:=2) I0 J J J Yb pI)<|tt (Zn (i:=85) J J zeroValue48 J J hw) fun b _=>tt (Zm (i:=85) J J J J J (by decide) J Xp J J ⟨Zb J,Zb J,trivial⟩ J hw trivial) fun _ _=>Oc (Zgj 2 91 (ys.getD (ys.length-1) I0) J J (Yz) J)<|Zf<|Za<|Zd<|Zo<|Yr (Oa 1 80 J J J)<|Nt [(1,_),(5,_)] [(0,_),(1,_),(2,_),(85,_),(91,_)] (fun(q:Value×List (Int×SL)×Nat)=>[(0,q.1)]) (fun(q:Value×List (Int×SL)×Nat)=>[(80,pp q.1 q.2.1)]) (fun(q:Value×List (Int×SL)×Nat)=>(Bw q.2.2 (Zt q.2.1) (Zt ys)=Bw F (Zt zs) (Zt ys))∧((Zt q.2.1).length<(Zt ys).length+q.2.2)∧(Tr (Zt q.2.1))∧(msz (Zt q.2.1)+q.2.2*(msz (Zt ys)+1)≤900000)∧(q.2.1.length≤30)) (fun(q:Value×List (Int×SL)×Nat)=>q.2.2) (_,zs,F) ⟨J,by dsimp only;omega,htz,hS0,hl⟩ K3 K6 ?_
 rintro⟨vr,ws,f⟩ ⟨hE,hL,hT,hS,hW⟩
 dsimp only at hE hL hT hS hW
 simp only [CA,NA]
 have hlw:=Zw ws
 have hcw:=Nk ws (ws.length-1)
 refine Zd<|Zd<|Zg<|mv J<|dt (Yd J J (i:=80) J Yb Nn)<|mv J<|dt (Yd J J (i:=2) J Yb Nn)<|dt (Ke J J J)<|Zf<|Za<|Zs J (fun h45=>?_) (fun h45=>?_)
 ·obtain⟨f1,rfl,hE1,hL1,hT1,hS1,hLl⟩:=Zr2 (by omega) (by omega) hL hT hS
  have hB:msz (Zt ws)+(msz (Zt ys)+1)≤900000:=by rw [Nat.succ_mul]at hS;omega
  have hrb:=bl_rb (Zt ws) (Zt ys)
  refine Zj<|Za<|Zo<|Zd<|Oi [80,85] [10]<|Zx (n:=4) [(0,0),(1,0),(2,0),(3,0),(4,0),(5,0),(6,0)]<|r0' J J (stf (Zy (i:=85) J J J Nm Xp J J) K2)<|r0' J J (stf (Yo J J) K2)<|r0' J J (stf (Yo J J) K2)<|r0' J J (stf (Yd J J (i:=80) J Yb Nn) K2)<|r0' J J (stf (Qd J J J ⟨by omega,by omega⟩) K2)<|r0' J J (stf (Xb (ii:=80) (i:=(ws.length-1)) J J J J Yb Nn Xp) K2)<|r0' J J (stf (Xv (ii:=80) I0 J J J Yb pI) K2)<|Yk<|Pb (n:=3) 7 8 ?_ ?_
  ·refine Yj J (Zr (i:=95) J J zeroValue48 J J hw K2) fun b_2 ho=>Zx (n:=0) [(8,1),(9,1),(10,3)]<|r1' J (Zr (i:=96) J J zeroValue48 J J hw K2) fun b_3 ho2=>r1' J (Zm (i:=95) J J J J J (by decide) J Xp J J ⟨Zb J,Zl (i:=91) J Zi,trivial⟩ J hw ho) fun _ _=>r3' J (Zm (i:=96) J J J J J (by decide) J Xp J J ⟨Zb J,Zb J,trivial⟩ J hw trivial) fun _ _=>Yk<|Yf<|Za<|Ez [(0,_),(1,_),(5,_),(6,_),(7,_)] [(0,_),(80,_),(1,_),(2,_),(85,_),(91,_)] (fun(q:Value×Value)=>[]) (fun(q:Value×Value)=>[(95,box b_2 48 #[.bool (decide ((Ar (Zt ys))<0)),q.1]),(96,box b_3 48 #[.bool (decide ((rb (Zt ws) (Zt ys))<0)),q.2]),(93,d9p q.1 (Ar (Zt ys)).natAbs),(94,d9p q.2 (rb (Zt ws) (Zt ys)).natAbs)]) (fun(q:Value×Value)=>True) K5 K6 ?_ ?_
   ·refine Zd<|Yr (Zgj 80 92 (ws.getD (ws.length-1) I0) J J (Yz) J)<|Zg<|dt (Zy (i:=95) J J J Nm Xp J J)<|tt (Zh (n:=2) (Ca _ _ (by rw [hcy];have:=Oh (Zt ys) (ys.length-1);omega)) J J J K1 call72 (Zc 91 J J J Ze) J hw) fun _ _=>dt (Xr J J J)<|Zf<|Za<|Zs J (fun h47=>?_) (fun h47=>?_)
    ·refine Oi [96] [5]<|Zx (n:=0) [(2,0),(0,1),(1,1),(3,1),(4,1),(5,3)]<|r0' J J (stf (Zy (i:=96) J J J Nm Xp J J) K1)<|r1' J (Py (Zy (i:=95) J J J Nm Xp J J) J) fun _ _=>r1' J (Zh (n:=3) (Zp8 _ _ (by rw [hcy];have:=Oh (Zt ys) (ys.length-1);omega)) J J J K1 call73 (Zc 91 J J J Ze) J hw) fun v _=>r1' J (Zh (n:=4) (Zp8 _ _ (by rw [hcw];have:=Oh (Zt ws) (ws.length-1);omega)) J J J K1 call73 (Zc 92 J J J Ze) J hw) fun v_2 _=>r1' J (Zar 95 J J K1 (fun ob=>(Zm (i:=95) J J J J J (by decide) J Xp J J ⟨Zb J,Zl (i:=3) J Zi,trivial⟩ J hw ob))) fun _ _=>r3' J (Zm (i:=96) J J J J J (by decide) J Xp J J ⟨Zb J,Zl (i:=4) J Zi,trivial⟩ J hw trivial) fun _ _=>Yk<|Yf ?_
     have hra:=rabs_n hli2 hcy ‹_›
     have hrb:=rb_n (x:=Zt ws) (y:=Zt ys) hli2 hlw hcy hcw ‹_›
     exact Qu (Oa 3 93 J J J)<|Qu (Oa 4 94 J J J)<|Qt (_,_) trivial K5 ⟨by rw [hra];rfl,by rw [hrb];rfl,by rw [hra];rfl,by rw [hrb];rfl,rfl,rfl,rfl,rfl,rfl,rfl,trivial⟩
    ·refine Zj ?_
     have hra:=rabs_p hli2 hcy ‹_›
     have hrb:=rb_p (x:=Zt ws) (y:=Zt ys) hli2 hlw hcy hcw ‹_›
     exact Qu (Oa 91 93 J J J)<|Qu (Oa 92 94 J J J)<|Qt (_,_) trivial K5 ⟨by rw [hra];rfl,by rw [hrb];rfl,by rw [hra];rfl,by rw [hrb];rfl,rfl,rfl,rfl,rfl,rfl,rfl,trivial⟩
   ·rintro⟨va,vb⟩ -
    simp only [CA,NA]
    refine Zd<|Zg<|mv J<|dt (Yd J J (i:=80) J Yb Nn)<|mv J<|dt (Yd J J (i:=2) J Yb Nn)<|dt (Qd J J J ⟨by omega,by omega⟩)<|tt (Gb (i:=70) (n:=(ws.length-ys.length)) (by_:=32) (enc:=Dw) I0 J J J J Nn ti48 J pI.cells pI.pos J J J hw) fun v_3 _=>as_ J<|Zf<|Za<|Zd<|Zd<|Zg<|as_ J<|Zf<|Za<|Zo<|Yr (Ej 71 (ws.length-ys.length))<|Nt [(0,_),(1,_),(5,_),(6,_),(7,_)] [(0,_),(95,_),(96,_),(93,_),(94,_),(80,_),(1,_),(2,_),(85,_),(91,_)] (fun(q:Nat×Value×List (Int×SL))=>[(9,.int .i64 (q.1:Int)),(8,q.2.1)]) (fun(q:Nat×Value×List (Int×SL))=>[(70,osl 2 48 Dw q.2.1 q.2.2),(71,Zcn qI q.2.2)]) (fun(q:Nat×Value×List (Int×SL))=>(q.1≤ys.length)∧(Zt q.2.2=shm (Zt ys) (rb (Zt ws) (Zt ys)) ((Zt ws).length-(Zt ys).length) q.1)∧(q.2.2.length=((Zt ws).length-(Zt ys).length)+q.1)) (fun(q:Nat×Value×List (Int×SL))=>ys.length-q.1) (0,_,List.replicate (ws.length-ys.length) I0) ⟨by first | omega | (dsimp only<;>omega),by rw [←Zdq,hlw,hli2];simp [Zt],by simp<;>omega⟩ K7 K12 ?_
    rintro⟨i,vo,ms⟩ ⟨hi,hms,hml⟩
    dsimp only at hi hms hml
    simp only [CA,NA]
    have hci:=Nk ys i
    refine Zd<|Zd<|Zg<|mv J<|mv J<|dt (Yd J J (i:=2) J Yb Nn)<|dt (Xr J J J)<|Zf<|Za<|Zs J (fun h51=>?_) (fun h51=>?_)
    ·refine Zj<|Za<|Zd<|Zo<|Oi [2,96] [9]<|Zx (n:=3) [(0,0),(1,0),(2,0),(3,0),(4,0),(5,0),(6,1)]<|r0' J J (stf (Yo J J) K2)<|r0' J J (stf (Yo J J) K2)<|r0' J J (stf (Yo J J) K2)<|r0' J J (stf (Xb (ii:=2) J J J J Yb Nn Xp J (by first | omega | (simp only [List.length_set];omega))) K2)<|r0' J J (stf (Xv (ii:=2) I0 J J J Yb pI (by first | omega | (simp only [List.length_set];omega))) K2)<|r0' J J (stf (Zy (i:=96) J J J Nm Xp J J) K2)<|r1' J (Zh (n:=86) (Fs _ _ _ _ (by rw [hci];have:=Oh (Zt ys) i;omega)) J J J K2 Zf9 (Ot 2 J J (Yz (i:=i)) (Zc 94 J J J Ze)) J hw) fun v_4 _=>Yk<|Zle (Ov 86 J Zi) (fun sl hsl=>?_)
     subst hsl
     exact Zx (n:=0) [(7,1),(8,1),(9,3)]<|r1' J (Po (i:=87) (ivs:=[(0,_)]) (enc:=Dw) [((ys.getD i I0).1*(rb (Zt ws) (Zt ys)),sl)] J J K2 Nn ti48 J J J J J pI.cells J J hw) fun v_5 _=>r1' J (Zek 70 J J J K2 (fun hoffr=>(Al (xs:=ms) (ys:=[_]) (i:=70) (j:=87) (by_:=32) J J J J J J (by decide) J (Yt pI) Nn ti48 J pI J J J (by simp;omega) (by decide) J hw hoffr))) fun v_6 _=>r3' J (Py (Mf J J) J) fun _ _=>Yk<|Yf<|Oe<|Za<|Zg<|mv J<|dt (Yx J J J ⟨by omega,by omega⟩)<|as_ J<|Zf<|Qu (Pz (q:=qI) (z:=((ys.getD i I0).1*(rb (Zt ws) (Zt ys)),sl)) 71 86 71 J J J J J)<|Xn (i+1,_,ms ++ [((ys.getD i I0).1*(rb (Zt ws) (Zt ys)),sl)]) ⟨by first | omega | (dsimp only<;>omega),by rw [Ko,hms,←Zdr];dsimp only;rw [hci,Int.mul_comm],by simp;omega⟩ (by first | omega | (dsimp only<;>omega)) K7 K12
    ·refine Yv<|Zv<|Zv<|Ox<|Za<|Yr (Pd 70 J J pI)<|Yr (Mq 70 71 72 J J J J)<|Zg<|mv J<|dt (Zy (i:=95) J J J Nm Xp J J)<|tt (Zh (n:=5) (Za0 _ _ _ _ ((Oh _).mono (by omega)) (by omega)) J J J K2 call56 (Zc 80 J J J (Zc 93 J J J Ze)) J hw) (fun g hg=>?_)
     have hlsc:=congrArg List.length hg
     rw [Zw]at hlsc
     have hlsd:=Ia (Zt ws) (Ar (Zt ys))
     refine mv J<|tt (Zh (n:=6) (Zn0 _ _ _ _ (by rw [hg];exact(Bf (Oh _) hra).mono (by omega)) (by rw [hms];exact sz_shm'.mono (by omega))) J J J K2 call88 (Zc 5 J J J (Zc 72 J J J Ze)) J hw) fun g_2 hg_2=>as_ J<|Zf<|Oe<|Qu (Oa 6 80 J J J) ?_
     have hR:Zt g_2.2=Fq (Zt ws) (Zt ys):=by rw [hg_2,hg,hms,show i=(Zt ys).length by omega];rfl
     exact Xn (_,g_2.2,f1) ⟨by dsimp only;rw [hR,←hE1];exact hE,by dsimp only;rw [hR];exact hL1,by dsimp only;rw [hR];exact hT1,by dsimp only;rw [hR];exact hS1,by dsimp only;rw [←Zw,hR];omega⟩ (Nat.lt_succ_self f1) K3 K6
  ·refine Yj J (Zr (i:=96) J J zeroValue48 J J hw K2) fun b_4 ho3=>Zx (n:=0) [(7,1),(9,1),(10,3)]<|r1' J (Zr (i:=95) J J zeroValue48 J J hw K2) fun b_5 ho4=>r1' J (Zm (i:=95) J J J J J (by decide) J Xp J J ⟨Zb J,Zl (i:=91) J Zi,trivial⟩ J hw ho4) fun _ _=>r3' J (Zm (i:=96) J J J J J (by decide) J Xp J J ⟨Zb J,Zb J,trivial⟩ J hw trivial) fun _ _=>Yk<|Yf<|Za<|Ez [(0,_),(1,_),(5,_),(6,_),(7,_)] [(0,_),(80,_),(1,_),(2,_),(85,_),(91,_)] (fun(q:Value×Value)=>[]) (fun(q:Value×Value)=>[(95,box b_5 48 #[.bool (decide ((Ar (Zt ys))<0)),q.1]),(96,box b_4 48 #[.bool (decide ((rb (Zt ws) (Zt ys))<0)),q.2]),(93,d9p q.1 (Ar (Zt ys)).natAbs),(94,d9p q.2 (rb (Zt ws) (Zt ys)).natAbs)]) (fun(q:Value×Value)=>True) K5 K6 ?_ ?_
   ·refine Zd<|Yr (Zgj 80 92 (ws.getD (ws.length-1) I0) J J (Yz) J)<|Zg<|dt (Zy (i:=95) J J J Nm Xp J J)<|tt (Zh (n:=6) (Ca _ _ (by rw [hcy];have:=Oh (Zt ys) (ys.length-1);omega)) J J J K1 call72 (Zc 91 J J J Ze) J hw) fun _ _=>dt (Xr J J J)<|Zf<|Za<|Zs J (fun h47_2=>?_) (fun h47_2=>?_)
    ·refine Oi [96] [5]<|Zx (n:=0) [(2,0),(0,1),(1,1),(3,1),(4,1),(5,3)]<|r0' J J (stf (Zy (i:=96) J J J Nm Xp J J) K1)<|r1' J (Py (Zy (i:=95) J J J Nm Xp J J) J) fun _ _=>r1' J (Zh (n:=7) (Zp8 _ _ (by rw [hcy];have:=Oh (Zt ys) (ys.length-1);omega)) J J J K1 call73 (Zc 91 J J J Ze) J hw) fun v_7 _=>r1' J (Zh (n:=8) (Zp8 _ _ (by rw [hcw];have:=Oh (Zt ws) (ws.length-1);omega)) J J J K1 call73 (Zc 92 J J J Ze) J hw) fun v_8 _=>r1' J (Zar 95 J J K1 (fun ob=>(Zm (i:=95) J J J J J (by decide) J Xp J J ⟨Zb J,Zl (i:=7) J Zi,trivial⟩ J hw ob))) fun _ _=>r3' J (Zm (i:=96) J J J J J (by decide) J Xp J J ⟨Zb J,Zl (i:=8) J Zi,trivial⟩ J hw trivial) fun _ _=>Yk<|Yf ?_
     have hra:=rabs_n hli2 hcy ‹_›
     have hrb:=rb_n (x:=Zt ws) (y:=Zt ys) hli2 hlw hcy hcw ‹_›
     exact Qu (Oa 7 93 J J J)<|Qu (Oa 8 94 J J J)<|Qt (_,_) trivial K5 ⟨by rw [hra];rfl,by rw [hrb];rfl,by rw [hra];rfl,by rw [hrb];rfl,rfl,rfl,rfl,rfl,rfl,rfl,trivial⟩
    ·refine Zj ?_
     have hra:=rabs_p hli2 hcy ‹_›
     have hrb:=rb_p (x:=Zt ws) (y:=Zt ys) hli2 hlw hcy hcw ‹_›
     exact Qu (Oa 91 93 J J J)<|Qu (Oa 92 94 J J J)<|Qt (_,_) trivial K5 ⟨by rw [hra];rfl,by rw [hrb];rfl,by rw [hra];rfl,by rw [hrb];rfl,rfl,rfl,rfl,rfl,rfl,rfl,trivial⟩
   ·rintro⟨va,vb⟩ -
    simp only [CA,NA]
    refine Zd<|Zg<|mv J<|dt (Yd J J (i:=80) J Yb Nn)<|mv J<|dt (Yd J J (i:=2) J Yb Nn)<|dt (Qd J J J ⟨by omega,by omega⟩)<|tt (Gb (i:=70) (n:=(ws.length-ys.length)) (by_:=32) (enc:=Dw) I0 J J J J Nn ti48 J pI.cells pI.pos J J J hw) fun v_9 _=>as_ J<|Zf<|Za<|Zd<|Zd<|Zg<|as_ J<|Zf<|Za<|Zo<|Yr (Ej 71 (ws.length-ys.length))<|Nt [(0,_),(1,_),(5,_),(6,_),(7,_)] [(0,_),(95,_),(96,_),(93,_),(94,_),(80,_),(1,_),(2,_),(85,_),(91,_)] (fun(q:Nat×Value×List (Int×SL))=>[(9,.int .i64 (q.1:Int)),(8,q.2.1)]) (fun(q:Nat×Value×List (Int×SL))=>[(70,osl 2 48 Dw q.2.1 q.2.2),(71,Zcn qI q.2.2)]) (fun(q:Nat×Value×List (Int×SL))=>(q.1≤ys.length)∧(Zt q.2.2=shm (Zt ys) (rb (Zt ws) (Zt ys)) ((Zt ws).length-(Zt ys).length) q.1)∧(q.2.2.length=((Zt ws).length-(Zt ys).length)+q.1)) (fun(q:Nat×Value×List (Int×SL))=>ys.length-q.1) (0,_,List.replicate (ws.length-ys.length) I0) ⟨by first | omega | (dsimp only<;>omega),by rw [←Zdq,hlw,hli2];simp [Zt],by simp<;>omega⟩ K7 K12 ?_
    rintro⟨i,vo,ms⟩ ⟨hi,hms,hml⟩
    dsimp only at hi hms hml
    simp only [CA,NA]
    have hci:=Nk ys i
    refine Zd<|Zd<|Zg<|mv J<|mv J<|dt (Yd J J (i:=2) J Yb Nn)<|dt (Xr J J J)<|Zf<|Za<|Zs J (fun h51_2=>?_) (fun h51_2=>?_)
    ·refine Zj<|Za<|Zd<|Zo<|Oi [2,96] [9]<|Zx (n:=3) [(0,0),(1,0),(2,0),(3,0),(4,0),(5,0),(6,1)]<|r0' J J (stf (Yo J J) K2)<|r0' J J (stf (Yo J J) K2)<|r0' J J (stf (Yo J J) K2)<|r0' J J (stf (Xb (ii:=2) J J J J Yb Nn Xp J (by first | omega | (simp only [List.length_set];omega))) K2)<|r0' J J (stf (Xv (ii:=2) I0 J J J Yb pI (by first | omega | (simp only [List.length_set];omega))) K2)<|r0' J J (stf (Zy (i:=96) J J J Nm Xp J J) K2)<|r1' J (Zh (n:=86) (Fs _ _ _ _ (by rw [hci];have:=Oh (Zt ys) i;omega)) J J J K2 Zf9 (Ot 2 J J (Yz (i:=i)) (Zc 94 J J J Ze)) J hw) fun v_10 _=>Yk<|Zle (Ov 86 J Zi) (fun sl_2 hsl_2=>?_)
     subst hsl_2
     exact Zx (n:=0) [(7,1),(8,1),(9,3)]<|r1' J (Po (i:=87) (ivs:=[(0,_)]) (enc:=Dw) [((ys.getD i I0).1*(rb (Zt ws) (Zt ys)),sl_2)] J J K2 Nn ti48 J J J J J pI.cells J J hw) fun v_11 _=>r1' J (Zek 70 J J J K2 (fun hoffr=>(Al (xs:=ms) (ys:=[_]) (i:=70) (j:=87) (by_:=32) J J J J J J (by decide) J (Yt pI) Nn ti48 J pI J J J (by simp;omega) (by decide) J hw hoffr))) fun v_12 _=>r3' J (Py (Mf J J) J) fun _ _=>Yk<|Yf<|Oe<|Za<|Zg<|mv J<|dt (Yx J J J ⟨by omega,by omega⟩)<|as_ J<|Zf<|Qu (Pz (q:=qI) (z:=((ys.getD i I0).1*(rb (Zt ws) (Zt ys)),sl_2)) 71 86 71 J J J J J)<|Xn (i+1,_,ms ++ [((ys.getD i I0).1*(rb (Zt ws) (Zt ys)),sl_2)]) ⟨by first | omega | (dsimp only<;>omega),by rw [Ko,hms,←Zdr];dsimp only;rw [hci,Int.mul_comm],by simp;omega⟩ (by first | omega | (dsimp only<;>omega)) K7 K12
    ·refine Yv<|Zv<|Zv<|Ox<|Za<|Yr (Pd 70 J J pI)<|Yr (Mq 70 71 72 J J J J)<|Zg<|mv J<|dt (Zy (i:=95) J J J Nm Xp J J)<|tt (Zh (n:=9) (Za0 _ _ _ _ ((Oh _).mono (by omega)) (by omega)) J J J K2 call56 (Zc 80 J J J (Zc 93 J J J Ze)) J hw) (fun g_3 hg_3=>?_)
     have hlsc:=congrArg List.length hg_3
     rw [Zw]at hlsc
     have hlsd:=Ia (Zt ws) (Ar (Zt ys))
     refine mv J<|tt (Zh (n:=10) (Zn0 _ _ _ _ (by rw [hg_3];exact(Bf (Oh _) hra).mono (by omega)) (by rw [hms];exact sz_shm'.mono (by omega))) J J J K2 call88 (Zc 9 J J J (Zc 72 J J J Ze)) J hw) fun g_4 hg_4=>as_ J<|Zf<|Oe<|Qu (Oa 10 80 J J J) ?_
     have hR:Zt g_4.2=Fq (Zt ws) (Zt ys):=by rw [hg_4,hg_3,hms,show i=(Zt ys).length by omega];rfl
     exact Xn (_,g_4.2,f1) ⟨by dsimp only;rw [hR,←hE1];exact hE,by dsimp only;rw [hR];exact hL1,by dsimp only;rw [hR];exact hT1,by dsimp only;rw [hR];exact hS1,by dsimp only;rw [←Zw,hR];omega⟩ (Nat.lt_succ_self f1) K3 K6
 ·have hE2:=Zww (f:=f) (x:=Zt ws) (y:=Zt ys) (by omega)
  exact Yv<|Zv<|Zv<|Ox<|Za<|Zd<|Zg<|mv J<|as_ J<|Zf<|Za<|Zu<|Ym (.inl J) hsc (_,ws) _ (fun a w hs=>Ni hs results187 J) J (by rw [←hE,hE2]) J (Yy 80 J J J Zk)
theorem Zsf(v:Value)(zs:List (Int×SL))(hv:Vp (Zt zs))(h0:zs.length≠0):Cal prog 113 #[v] [pp v zs] true (G:=Value×List (Int×SL)) (fun r=>Zt r.2=nrm (Zt zs)) (fun r=>r.1) (fun r=>[pp r.1 r.2]):=by
 refine Yc func113 J ntmps113 J K1 ?_
 intro w0 sc hw hsc
 simp only [Zq,Zp]
 have hli:=Zw zs
 have hlen:=hv.len
 refine Zd<|Zg<|as_ J<|Zf<|Za<|Zd<|Zg<|mv J<|tt (Zh (n:=2) (Kz _ _ (hv.sz.mono (by omega)) (fun h=>hv.ne (fun e=>by have h7:=congrArg List.length e;simp only [List.length_nil]at h7;omega))) J J J K1 call57 (Zc 1 J J J Ze) J hw) fun g hg=>as_ J<|Zf<|Za<|Zd<|Zd ?_
 have hpl:=congrArg List.length hg
 rw [Zw,Yl,hli]at hpl
 have hlc:=Nk g.2 (g.2.length-1)
 have hlc2:(g.2.getD (g.2.length-1) I0).1=cf (Xc (Zt zs)) ((Xc (Zt zs)).length-1):=by rw [hlc,hg,Yl,hli,hpl]
 have hpb:=(Lx hv).sz
 refine Zg<|mv J<|mv J<|dt (Yd J J (i:=2) J Yb Nn)<|dt (Qd J J J ⟨by omega,by omega⟩)<|dt (Xb (ii:=2) (i:=(g.2.length-1)) J J J J Yb Nn Xp)<|dt (Xv (ii:=2) I0 J J J Yb pI)<|tt (Zh (n:=2) (Ca _ _ (by rw [hlc2];have:=hpb ((Xc (Zt zs)).length-1);omega)) J J J K1 call72 (Ot 2 J J (Yz (zs:=g.2) (i:=g.2.length-1) (d:=I0)) Ze) J hw) fun _ _=>dt (Xr J J J)<|Zf<|Za<|Zs J (fun h29=>?_) (fun h29=>?_)
 ·have hnn:=Zim (xs:=Zt zs) (by rw [Yl];omega) (by rw [←hlc2];exact Zcc.1 h29)
  exact Zd<|Zg<|mv J<|tt (Zh (n:=3) (Zn1 _ _ (by rw [hg];exact hpb.mono (by omega))) J J J K1 call138 (Zc 2 J J J Ze) J hw) fun g_2 hg_2=>as_ J<|Zf<|Za<|Zu<|Xa<|Ym (.inl J) hsc _ _ (fun a w hs=>Ni hs results113 J) J (by rw [hg_2,hg,hnn]) J (Yy 3 J J J Zk)
 ·have hnn:=Zil (xs:=Zt zs) (fun h=>h29 (Zcc.2 (by rw [hlc2];exact h)))
  exact Zj<|Za<|Zd<|Zg<|mv J<|as_ J<|Zf<|Za<|Zu<|Ym (.inl J) hsc (_,g.2) _ (fun a w hs=>Ni hs results113 J) J (by rw [hg,hnn]) J (Yy 2 J J J Zk)
theorem Zsd(v:Value)(zs:List (Int×SL))(hv:Vp (Zt zs))(h0:zs.length≠0)(hs:Sz 260 (Zt zs))(hl:zs.length≤8:=by omega):Cal prog 54 #[v] [pp v zs] true (G:=Value×List (Int×SL)) (fun r=>Zt r.2=sqf 13 (Zt zs)) (fun r=>r.1) (fun r=>[pp r.1 r.2]):=by
 refine Yc func54 J ntmps54 J K1 ?_
 intro w0 sc hw hsc
 simp only [Zq,Zp]
 have hli:=Zw zs
 have hne:Zt zs≠[]:=fun e=>h0 (by rw [←hli,e];rfl)
 obtain⟨k1,k2,k3,k4,k5,k6,k7,k8,k9,k10,k11,k12,k13,k14⟩:=Zjp hv hne hs (by omega)
 have k6l:=List.length_pos_iff.2 k6
 have k12l:=List.length_pos_iff.2 k12
 have k2l:=k2.len
 have k11l:=k11.len
 refine Zd<|Zg<|as_ J<|Zf<|Za<|Zd<|Zg<|mv J<|tt (Zh (n:=2) (Zsf _ _ hv h0) J J J K1 call113 (Zc 1 J J J Ze) J hw) fun g hg=>as_ J<|Zf<|Za<|Zd ?_
 have hl_qs:=congrArg List.length hg
 rw [Zw]at hl_qs
 refine Zg<|mv J<|mv J<|mv J<|tt (Zh (n:=3) (Zey _ _ (by rw [hg];exact k1.sz.mono (by omega))) J J J K1 call115 (Zc 2 J J J Ze) J hw) (fun g_2 hg_2=>?_)
 have hl_qd:=congrArg List.length hg_2
 rw [Zw]at hl_qd
 refine tt (Zh (n:=4) (rp_gcd _ _ _ _ 13 (by rw [hg];exact k1) (by rw [hg_2,hg];exact k2) (by rw [hg_2,hg];exact k3)) J J J K2 call114 (Zc 2 J J J (Zc 3 J J J Ze)) J hw) (fun g_3 hg_3=>?_)
 have hgg:Zt g_3.2=Ib 13 (nrm (Zt zs)) (Pk (nrm (Zt zs))):=by rw [hg_3,hg_2,hg,k4]
 have hl_g:=congrArg List.length hgg
 rw [Zw]at hl_g
 refine tt (Zh (n:=5) (Za1 _ _ _ _ (by rw [hg];exact k1.tr) (by rw [hgg];exact k5.tr) (fun _=>by rw [hg,hgg];have:=Nat.mul_le_mul (show g.2.length-g_3.2.length+1≤9 by omega) (show msz (Ib 13 (nrm (Zt zs)) (Pk (nrm (Zt zs))))+1≤391 by omega);omega)) J J J K2 call55 (Zc 2 J J J (Zc 4 J J J Ze)) J hw) fun g_4 hg_4=>mv J<|dt (Yh J J J)<|dt (Yh J J J)<|as_ J<|as_ J<|Zf<|Za<|Zd ?_
 have hqe:=hg_4 (by rw [hg,hgg];exact k7)
 rw [hg,hgg]at hqe
 have hl_q:=congrArg List.length hqe
 rw [Zw]at hl_q
 exact Zg<|mv J<|tt (Zh (n:=6) (Zsf _ _ (by rw [hqe];exact k11) (by rw [hl_q];exact Nat.ne_of_gt k12l)) J J J K1 call113 (Zc 5 J J J Ze) J hw) fun g_5 hg_5=>as_ J<|Zf<|Za<|Zu<|Ym (.inl J) hsc _ _ (fun a w hs=>Ni hs results54 J) J (by rw [hg_5,hqe];exact k13) J (Yy 6 J J J Zk)
theorem pT{α:Type} : Enc Tryz.prog 34 1 (Br (α:=α)):=Enc.flat Tryz.sizeOf34 Tryz.isAgg34 (fun _=>rfl)
theorem Ac(v:Value)(zs:List (Int×SL))(hs:Sz 1000000 (Zt zs))(hc:zs.length≠0→Qf (Zt zs)≠0)(hl:zs.length≤1000:=by omega):Cal Tryz.prog 57 #[v] [pp v zs] true (G:=SL×List (Int×SL)) (fun r=>Zt r.2=Xc (Zt zs)) (fun r=>svv r.1) (fun r=>[pp (svv r.1) r.2]):=
  (Kz v zs hs hc hl).toS
theorem Zw4(v:Value)(zs:List (Int×SL))(hv:Vp (Zt zs))(h0:zs.length≠0)(hs:Sz 260 (Zt zs))(hl:zs.length≤8):Cal Tryz.prog 54 #[v] [pp v zs] true (G:=SL×List (Int×SL)) (fun r=>Zt r.2=sqf 13 (Zt zs)) (fun r=>svv r.1) (fun r=>[pp (svv r.1) r.2]):=
  (Zsd v zs hv h0 hs hl).toS
set_option maxHeartbeats 4000000 in
theorem Zw7(v:Value)(zs:List (Int×SL))(hv:Vp (Zt zs))(h0:zs.length≠0)(hs:Sz 260 (Zt zs))(hl:zs.length≤8):Cal prog 166 #[v] [pp v zs] true (G:=Value×List (SL×List (Int×SL))) (fun r=>Bz r.2=chn 13 (Zt zs)) (fun r=>r.1) (fun r=>[Zad 1 Br qT r.1 r.2]):=by
 refine Yc func166 J ntmps166 J K1 ?_
 intro w0 sc hw hsc
 simp only [Zq,Zp]
 have hli:=Zw zs
 have hne:Zt zs≠[]:=fun e=>h0 (by rw [←hli,e];rfl)
 obtain⟨hC,hq,hql⟩:=ch13r hv.tr hne hs (by omega)
 obtain⟨hC1,hC2,hC3⟩:=hC
 have hvq:=Zjg hv hne hC1
 have hq0:sqf 13 (Zt zs)≠[]:=(Zjp hv hne hs (by omega)).2.2.2.2.2.2.2.2.2.2.2.1
 have hqd:=Hl hq (by omega)
 have hqdl:=Om (sqf 13 (Zt zs))
 have hqdt:=Nz hvq.tr
 have hvqd:Vp (Pk (sqf 13 (Zt zs))):=⟨hqd.mono (by omega),hqdt,by omega⟩
 refine Zd<|Zg<|as_ J<|Zf<|Za<|Zd<|Zg<|mv J<|tt (Zh (n:=2) (Zw4 _ _ hv h0 hs hl) J J J K1 call54 (Zc 1 J J J Ze) J hw) fun g hg=>as_ J<|Zf<|Za<|Zd<|Zg<|mv J<|tt (Po (i:=70) (ivs:=[(0,_)]) (enc:=Br) [g] J J K2 underlying186 ti34 J J J J J pT.cells J J hw) fun v _=>as_ J<|Zf<|Za<|Zd ?_
 have hxe:Zt g.2=sqf 13 (Zt zs):=hg
 have hxl:=congrArg List.length hxe
 rw [Zw]at hxl
 refine Yr (Mt qT 71)<|Yr (Pz (q:=qT) (z:=g) 71 2 71 J J J J J)<|Yr (Oa 2 92 J J J)<|Zg<|mv J<|tt (Zh (n:=3) (Zey _ _ (by rw [hxe];exact hvq.sz.mono (by omega))) J J J K1 call115 (Zc 2 J J J Ze) J hw) (fun g_2 hg_2=>?_)
 have hdl:=congrArg List.length hg_2
 rw [Zw,hxe,Om]at hdl
 refine tt (Zh (n:=4) (Ac _ _ (by rw [hg_2,hxe];exact hqd.mono (by omega)) (fun h=>by rw [hg_2,hxe];exact hvqd.ne (fun e=>h (by have h7:=congrArg List.length hg_2;rw [Zw,hxe,e]at h7;exact h7)))) J J J K1 call57 (Zc 3 J J J Ze) J hw) (fun g_3 hg_3=>?_)
 have hye:Zt g_3.2=Xc (Pk (sqf 13 (Zt zs))):=by rw [show Zt g_3.2=Xc _ from hg_3,hg_2,hxe]
 refine as_ J<|Zf<|Za<|Zd<|Zo<|Yr (Oa 4 80 J J J) ?_
 refine Nt [] [(0,_),(1,_),(2,_),(3,_),(4,_)] (fun(q:List (SL×List (Int×SL))×(SL×List (Int×SL))×(SL×List (Int×SL))×Nat×Value)=>[(4,q.2.2.2.2),(3,svv q.2.1.1),(5,svv q.2.2.1.1)]) (fun(q:List (SL×List (Int×SL))×(SL×List (Int×SL))×(SL×List (Int×SL))×Nat×Value)=>[(70,osl 1 34 Br q.2.2.2.2 (q.1 ++ [q.2.1])),(71,Zcn qT (q.1 ++ [q.2.1])),(92,pp (svv q.2.1.1) q.2.1.2),(80,pp (svv q.2.2.1.1) q.2.2.1.2)]) (fun(q:List (SL×List (Int×SL))×(SL×List (Int×SL))×(SL×List (Int×SL))×Nat×Value)=>(Vp (Zt q.2.1.2))∧(Vp (Zt q.2.2.1.2))∧(cok q.2.2.2.1 (Zt q.2.1.2) (Zt q.2.2.1.2))∧(Bz q.1 ++ Mn q.2.2.2.1 (Zt q.2.1.2) (Zt q.2.2.1.2)=chn 13 (Zt zs))∧(q.2.1.2.length≤8)∧(q.2.2.1.2.length≤8)∧(q.1.length+q.2.2.1.2.length≤25)) (fun(q:List (SL×List (Int×SL))×(SL×List (Int×SL))×(SL×List (Int×SL))×Nat×Value)=>q.2.2.1.2.length) ([],g,g_3,13,_) ⟨by dsimp only;rw [hxe];exact hvq,by dsimp only;rw [hye];exact Lx hvqd,by dsimp only;rw [hxe,hye];exact hC3,by dsimp only;rw [hxe,hye];rfl,by dsimp only;omega,by dsimp only;rw [←Zw,hye,Yl];omega,by dsimp only;rw [←Zw,hye,Yl];simp;omega⟩ K3 K9 ?_
 rintro⟨ws,ex,ey,f,vo⟩ ⟨hvx,hvy,hck,hch,hx8,hy8,hwl⟩
 dsimp only at hvx hvy hck hch hx8 hy8 hwl
 simp only [CA,NA]
 have hlx:=Zw ex.2
 have hly:=Zw ey.2
 refine Zd<|Zd<|Zg<|mv J<|dt (Yd J J (i:=80) J Yb Nn)<|dt (Pm J J J)<|Zf<|Za<|Zs J (fun h64=>?_) (fun h64=>?_)
 ·have hy0:Zt ey.2≠[]:=fun e=>by have h7:=congrArg List.length e;rw [hly]at h7;simp only [List.length_nil]at h7;omega
  obtain⟨f0,rfl,hd,hle,hck2,hsc2⟩:=Zd6 hck hy0
  refine Zj<|Za<|Zo<|Zd<|Zg<|mv J<|mv J<|tt (Po (i:=5) (ivs:=[(0,_)]) (enc:=Br) [ey] J J K2 underlying186 ti34 J J J J J pT.cells J J hw) fun v_2 _=>tt (Iu (i:=70) (j:=5) (by_:=24) J J J J J J (by decide) J (Yt pT) underlying186 ti34 J pT J J J (by simp;omega) (by decide) J hw) fun v_3 _=>as_ J<|Zf<|Za<|Zg<|mv J<|mv J<|mv J<|tt (Zh (n:=6) (r3_rem _ _ _ _ 8 (by omega) (by omega) (by omega) hvx.tr hvy.tr (by omega) (by have:=Ob hvx.sz;have:=Ob hvy.sz;omega)) J J J K2 call187 (Zc 92 J J J (Zc 80 J J J Ze)) J hw) (fun g_4 hg_4=>?_)
  have hrl:(Bw 8 (Zt ex.2) (Zt ey.2)).length<(Zt ey.2).length:=(Aq hvy.tr hy0 8 (Zt ex.2) hvx.tr (by omega)).2.1
  have hrm:=Zol (Zt ey.2) 8 (Zt ex.2)
  have hrt:=(Aq hvy.tr hy0 8 (Zt ex.2) hvx.tr (by omega)).1
  have hrl2:=congrArg List.length hg_4
  rw [Zw]at hrl2
  refine tt (Zh (n:=7) (Zn1 _ _ (by rw [hg_4];exact(Oh _).mono (by have:=Ob hvx.sz;have:=Ob hvy.sz;omega))) J J J K1 call138 (Zc 6 J J J Ze) J hw) (fun g_5 hg_5=>?_)
  have hnl:=congrArg List.length hg_5
  rw [Zw,hg_4]at hnl
  have hnl2:=Ia (Bw 8 (Zt ex.2) (Zt ey.2)) (-1)
  refine tt (Zh (n:=8) (Ac _ _ (by rw [hg_5,hg_4];exact(Bf (Oh _) (m:=1) (by decide)).mono (by have:=Ob hvx.sz;have:=Ob hvy.sz;omega)) (fun h=>Dn (by rw [hg_5];exact Qz _ _) (fun e=>h (by rw [←Zw,e];rfl)))) J J J K1 call57 (Zc 7 J J J Ze) J hw) fun g_6 hg_6=>as_ J<|as_ J<|Zf<|Oe ?_
  have hsn:=Zat (f:=8) hvx.tr hvy.tr hy0 (by omega) (by omega)
  have hnx:Zt g_6.2=Ln (Zt ex.2) (Zt ey.2):=by rw [show Zt g_6.2=Xc _ from hg_6,hg_5,hg_4];exact hsn
  have hsl:=Ff (y:=Zt ey.2) hvx.tr
  have hpl:=Pa (Zt ex.2) hy0
  have hnxl:=congrArg List.length hnx
  rw [Zw]at hnxl
  exact Qu (Pz (q:=qT) (z:=ey) 71 80 71 J J J J J)<|Qu (Oa 80 92 J J J)<|Qu (Oa 8 80 J J J)<|Xn (ws ++ [ex],ey,g_6,f0,_) ⟨hvy,by dsimp only;rw [hnx];exact Zhg hvx hd,by dsimp only;rw [hnx];exact hck2,by dsimp only;rw [hnx,←hch,hsc2];simp [Bz],hy8,by dsimp only;omega,by dsimp only;simp;omega⟩ (by dsimp only;omega) K3 K9
 ·refine Yv<|Zv<|Zv<|Ox<|Za<|Zd ?_
  have hy0:Zt ey.2=[]:=List.eq_nil_of_length_eq_zero (by omega)
  exact Yr (Pd 70 J J pT)<|Yr (Mq 70 71 72 J J J J)<|Zg<|mv J<|as_ J<|Zf<|Za<|Zu<|Ym (.inl J) hsc (_,ws ++ [ex]) _ (fun a w hs=>Ni hs results166 J) J (by rw [←hch,hy0,Gj];simp [Bz]) J (Yy 72 J J J Zk)
theorem Zw5(v:Value)(l:List Int)(hl:∀i,-1≤l.getD i 0∧l.getD i 0≤1)(hlen:l.length≤1000):Mc prog 188 #[v] [slp 1 Zah v l] (.int .i64 (chg l)):=by
 refine Yc func188 J ntmps188 J K1 ?_
 intro w0 sc hw hsc
 simp only [Zq,Zp]
 refine Zd<|Zg<|as_ J<|Zf<|Za<|Zd<|Zg<|as_ J<|as_ J<|Zf<|Za<|Zd<|Zd<|Zg<|as_ J<|Zf<|Za<|Zo<|Nt [(0,_)] [(0,_),(1,_)] (fun(q:Nat×Int×Int)=>[(5,.int .i64 (q.1:Int)),(3,.int .i64 q.2.1),(4,.int .i64 q.2.2)]) (fun(q:Nat×Int×Int)=>[]) (fun(q:Nat×Int×Int)=>(q.1≤l.length)∧((q.2.1,q.2.2)=(l.take q.1).foldl Ie (0,0))∧(0≤q.2.1)∧(q.2.1≤(q.1:Int))∧(-1≤q.2.2)∧(q.2.2≤1)) (fun(q:Nat×Int×Int)=>l.length-q.1) (0,0,0) ⟨by first | omega | (dsimp only<;>omega),by simp,Int.le_refl _,Int.le_refl _,by decide,by decide⟩ K4 K2 ?_
 rintro⟨i,n,m⟩ ⟨hi,hc,hn0,hn1,hm0,hm1⟩
 dsimp only at hi hc hn0 hn1 hm0 hm1
 simp only [CA,NA]
 have hx:=hl i
 refine Zd<|Zd<|Zg<|mv J<|mv J<|dt (Yd J J (i:=1) J Zi Me)<|dt (Xr J J J)<|Zf<|Za<|Zs J (fun h74=>?_) (fun h74=>?_)
 ·refine Zj<|Za<|Zd<|Zo<|Zd<|Zd<|Zg<|mv J<|mv J<|dt (Xb (ii:=1) J J J J Zi Me zT3 J (by first | omega | (simp only [List.length_set];omega)))<|dt (Xv (ii:=1) 0 J J J Zi pZ (by first | omega | (simp only [List.length_set];omega)))<|mv J<|dt (Dx J J J (mul_r hx.1 hx.2 hm0 hm1))<|dt (Xr J J J)<|Zf<|Za<|Zs J (fun h75=>?_) (fun h75=>?_)
  ·refine Zg<|mv J<|dt (Yx J J J ⟨by omega,by omega⟩)<|as_ J<|Zf<|Za<|Zd<|Zg<|mv J<|mv J<|dt (Xb (ii:=1) J J J J Zi Me zT3 J (by first | omega | (simp only [List.length_set];omega)))<|dt (Xv (ii:=1) 0 J J J Zi pZ (by first | omega | (simp only [List.length_set];omega)))<|dt (Qc J J J)<|Zf<|Za<|Zs J (fun h78=>?_) (fun h78=>?_)
   ·refine Zg<|mv J<|mv J<|dt (Xb (ii:=1) J J J J Zi Me zT3 J (by first | omega | (simp only [List.length_set];omega)))<|dt (Xv (ii:=1) 0 J J J Zi pZ (by first | omega | (simp only [List.length_set];omega)))<|as_ J<|Zf<|Oe<|Za<|Zg<|mv J<|dt (Yx J J J ⟨by omega,by omega⟩)<|as_ J<|Zf ?_
    have hst:=Zaq (l:=l) (i:=i) (by omega) hc
    exact Xn (i+1,_,_) ⟨by first | omega | (dsimp only<;>omega),by dsimp only;rw [hst];first | exact(Zw3 hm0 hm1 hx.1 hx.2 ‹_› ‹_›).symm | exact(Zw2 hm0 hm1 hx.1 hx.2 ‹_› ‹_›).symm | exact(Zw1 hm0 hm1 hx.1 hx.2 ‹_› ‹_›).symm | exact(Zw0 hm0 hm1 hx.1 hx.2 ‹_› ‹_›).symm,by dsimp only;omega,by dsimp only;omega,by first | exact hx.1 | exact hm0,by first | exact hx.2 | exact hm1⟩ (by first | omega | (dsimp only<;>omega)) K4 K2
   ·refine Zj<|Oe<|Za<|Zg<|mv J<|dt (Yx J J J ⟨by omega,by omega⟩)<|as_ J<|Zf ?_
    have hst:=Zaq (l:=l) (i:=i) (by omega) hc
    exact Xn (i+1,_,_) ⟨by first | omega | (dsimp only<;>omega),by dsimp only;rw [hst];first | exact(Zw3 hm0 hm1 hx.1 hx.2 ‹_› ‹_›).symm | exact(Zw2 hm0 hm1 hx.1 hx.2 ‹_› ‹_›).symm | exact(Zw1 hm0 hm1 hx.1 hx.2 ‹_› ‹_›).symm | exact(Zw0 hm0 hm1 hx.1 hx.2 ‹_› ‹_›).symm,by dsimp only;omega,by dsimp only;omega,by first | exact hx.1 | exact hm0,by first | exact hx.2 | exact hm1⟩ (by first | omega | (dsimp only<;>omega)) K4 K2
  ·refine Zj<|Za<|Zd<|Zg<|mv J<|mv J<|dt (Xb (ii:=1) J J J J Zi Me zT3 J (by first | omega | (simp only [List.length_set];omega)))<|dt (Xv (ii:=1) 0 J J J Zi pZ (by first | omega | (simp only [List.length_set];omega)))<|dt (Qc J J J)<|Zf<|Za<|Zs J (fun h78_2=>?_) (fun h78_2=>?_)
   ·refine Zg<|mv J<|mv J<|dt (Xb (ii:=1) J J J J Zi Me zT3 J (by first | omega | (simp only [List.length_set];omega)))<|dt (Xv (ii:=1) 0 J J J Zi pZ (by first | omega | (simp only [List.length_set];omega)))<|as_ J<|Zf<|Oe<|Za<|Zg<|mv J<|dt (Yx J J J ⟨by omega,by omega⟩)<|as_ J<|Zf ?_
    have hst:=Zaq (l:=l) (i:=i) (by omega) hc
    exact Xn (i+1,_,_) ⟨by first | omega | (dsimp only<;>omega),by dsimp only;rw [hst];first | exact(Zw3 hm0 hm1 hx.1 hx.2 ‹_› ‹_›).symm | exact(Zw2 hm0 hm1 hx.1 hx.2 ‹_› ‹_›).symm | exact(Zw1 hm0 hm1 hx.1 hx.2 ‹_› ‹_›).symm | exact(Zw0 hm0 hm1 hx.1 hx.2 ‹_› ‹_›).symm,by dsimp only;omega,by dsimp only;omega,by first | exact hx.1 | exact hm0,by first | exact hx.2 | exact hm1⟩ (by first | omega | (dsimp only<;>omega)) K4 K2
   ·refine Zj<|Oe<|Za<|Zg<|mv J<|dt (Yx J J J ⟨by omega,by omega⟩)<|as_ J<|Zf ?_
    have hst:=Zaq (l:=l) (i:=i) (by omega) hc
    exact Xn (i+1,_,_) ⟨by first | omega | (dsimp only<;>omega),by dsimp only;rw [hst];first | exact(Zw3 hm0 hm1 hx.1 hx.2 ‹_› ‹_›).symm | exact(Zw2 hm0 hm1 hx.1 hx.2 ‹_› ‹_›).symm | exact(Zw1 hm0 hm1 hx.1 hx.2 ‹_› ‹_›).symm | exact(Zw0 hm0 hm1 hx.1 hx.2 ‹_› ‹_›).symm,by dsimp only;omega,by dsimp only;omega,by first | exact hx.1 | exact hm0,by first | exact hx.2 | exact hm1⟩ (by first | omega | (dsimp only<;>omega)) K4 K2
 ·exact Yv<|Zv<|Zv<|Ox<|Za<|Zd<|Zg<|mv J<|as_ J<|Zf<|Za<|Zu<|xU hsc results188 J J (by unfold chg;rw [show l=l.take i by rw [List.take_of_length_le (by omega)],←hc]<;>rfl)
theorem r3_at(v w u:Value)(ls:List (SL×List (Int×SL)))(x y:Int)(hz:∀z∈ls,Vp (Zt z.2))(hx:bl x.natAbs≤1000000)(hy:bl y.natAbs≤1000000)(hlen:ls.length≤30:=by omega):Mc prog 167 #[v,.agg #[.bool (decide (x<0)),w,.bool (decide (y<0)),u]] [Zad 1 Br qT v ls,d9p w x.natAbs,d9p u y.natAbs] (.int .i64 (chg ((Bz ls).map (fat x y)))):=by
 refine Yc func167 J ntmps167 J K3 ?_
 intro w0 sc hw hsc
 simp only [Zq,Zp]
 have hLl:((Bz ls).map (fat x y)).length=ls.length:=by simp
 have hLg:=fun i (h:i<ls.length)=>Ztr (z:=ls) rfl (fat x y) h
 refine Zd<|Zg<|tt (Yu (i:=4) J J J J J hw) fun b _=>as_ J<|Zf<|Za<|Zd<|Zg<|as_ J<|Zf<|Za<|Zd<|Zd<|Zg<|as_ J<|Zf<|Za<|Zo<|Yr (Na 70 1 3 Zah)<|Nt [(0,_),(3,_)] [(0,_),(1,_),(2,_),(3,_),(4,_)] (fun(q:Nat×Value)=>[(6,.int .i64 (q.1:Int)),(5,q.2)]) (fun(q:Nat×Value)=>[(70,osl 1 3 Zah q.2 (((Bz ls).map (fat x y)).take q.1))]) (fun(q:Nat×Value)=>q.1≤ls.length) (fun(q:Nat×Value)=>ls.length-q.1) (0,.slice none 0 0) (by first | omega | (dsimp only<;>omega)) K4 K6 ?_
 rintro⟨i,vo⟩ hi
 dsimp only at hi
 simp only [CA,NA]
 have htl:(((Bz ls).map (fat x y)).take i).length=i:=by rw [List.length_take];omega
 refine Zd<|Zd<|Zg<|mv J<|mv J<|dt (Yd J J (i:=1) J Yb underlying186)<|dt (Xr J J J)<|Zf<|Za<|Zs J (fun h88=>?_) (fun h88=>?_)
 ·refine Zj<|Za<|Zd<|Zo ?_
  have hvi:=hz (ls.getD i T0) (Yz)
  have hvl:=hvi.len
  rw [Zw]at hvl
  refine Yr (Zgj 1 91 (ls.getD i T0) J J (Yz) J)<|Oi [1,4] [10]<|Zx (n:=0) [(0,0),(1,0),(2,0),(3,0),(4,0),(5,0),(6,1),(7,1),(8,1),(9,1),(10,3)]<|r0' J J (stf (Yo J J) K2)<|r0' J J (stf (Yo J J) K2)<|r0' J J (stf (Yo J J) K2)<|r0' J J (stf (Xb (ii:=1) J J J J Yb underlying186 sizeOf34 J (by first | omega | (simp only [List.length_set];omega))) K2)<|r0' J J (stf (Xv (ii:=1) T0 J J J Yb pT (by first | omega | (simp only [List.length_set];omega))) K2)<|r0' J J (stf (Yp (i:=4) J J J Eb Nu J J J J) K2)<|r1' J (Zh (n:=5) (Zr3 _ _ _ _ x y (hvi.sz.mono (by omega)) hx hy) J J J K2 call121 (Zc 91 J J J (Zc 2 J J J (Zc 3 J J J Ze))) J hw) fun v _=>r1' J (Zh (n:=5) (Ca _ _ (by have:=ev_b (hvi.sz.mono (by omega):Sz 1000000 _) (by have:=hvi.len;omega) hx hy;omega)) J J J K1 call72 (Zc 5 J J J Ze) J hw) fun _ _=>r1' J (Po (i:=6) (ivs:=[(0,_)]) (enc:=Zah) [(fat x y (Zt (ls.getD i T0).2))] J J K2 Me ti3 J J J J J pZ.cells J J hw) (fun v_2 _=>?_)
  exact r1' J (Zek 70 J J J K2 (fun hoffr=>(Al (i:=70) (j:=6) (by_:=8) J J J J J J (by decide) J (Yt pZ) Me ti3 J pZ J J J (by rw [htl];simp;omega) (by decide) J hw hoffr))) fun v_3 _=>r3' J (Py (Mf J J) J) fun _ _=>Yk<|Yf<|Oe<|Za<|Zg<|mv J<|dt (Yx J J J ⟨by omega,by omega⟩)<|as_ J<|Zf<|Xn (i+1,_) (by first | omega | (dsimp only<;>omega)) (by first | omega | (dsimp only<;>omega)) K4 ⟨by rw [Oo 0 _ _ (by omega),hLg i (by omega)];rfl,rfl,rfl,rfl,rfl,rfl,trivial⟩
 ·refine Yv<|Zv<|Zv<|Ox<|Za<|Zd<|Yr (Pd 70 J J pZ) ?_
  have htk:((Bz ls).map (fat x y)).take i=((Bz ls).map (fat x y)):=List.take_of_length_le (by omega)
  exact Zg<|mv J<|tt (Zh (n:=6) (Zw5 _ _ (fun i=>by rw [htk];by_cases hi9:i<ls.length;(rw [hLg i hi9];exact fat_r _ _ _);(rw [show((Bz ls).map (fat x y)).getD i 0=0 from Qh (by omega)];decide)) (by omega)) J J J K1 call188 (Zc 70 J J J Ze) J hw) fun _ _=>as_ J<|Zf<|Za<|Zu<|xU hsc results167 J J (by rw [htk])
theorem Zw6(v w u w2 u2:Value)(zs:List (Int×SL))(x y x2 y2:Int)(hv:Vp (Zt zs))(h0:zs.length≠0)(hs:Sz 260 (Zt zs))(hl:zs.length≤8)(hx:bl x.natAbs≤1000000)(hy:bl y.natAbs≤1000000)(hx2:bl x2.natAbs≤1000000)(hy2:bl y2.natAbs≤1000000):Mc prog 122 #[v,.agg #[.bool (decide (x<0)),w,.bool (decide (y<0)),u],.agg #[.bool (decide (x2<0)),w2,.bool (decide (y2<0)),u2]] [pp v zs,d9p w x.natAbs,d9p u y.natAbs,d9p w2 x2.natAbs,d9p u2 y2.natAbs] (.int .i64 (cnt 13 (Zt zs) x y-cnt 13 (Zt zs) x2 y2)):=by
 refine Yc func122 J ntmps122 J K5 ?_
 intro w0 sc hw hsc
 simp only [Zq,Zp]
 have hli:=Zw zs
 have hne:Zt zs≠[]:=fun e=>h0 (by rw [←hli,e];rfl)
 obtain⟨hC,hq,hql⟩:=ch13r hv.tr hne hs (by omega)
 refine Zd<|Zg<|tt (Yu (i:=6) J J J J J hw) fun b _=>tt (Yu (i:=7) J J J J J hw) fun b_2 _=>as_ J<|Zf<|Za<|Zd<|Zg<|mv J<|tt (Zh (n:=8) (Zw7 _ _ hv h0 hs hl) J J J K1 call166 (Zc 1 J J J Ze) J hw) fun g hg=>as_ J<|Zf<|Za<|Zd ?_
 have hT:Bz g.2=chn 13 (Zt zs):=hg
 have hTl:=Zts hT
 have hll:(chn 13 (Zt zs)).length≤_:=Dq 13 _ _
 have hr1:=Cz ((Bz g.2).map (fat x y))
 have hr2:=Cz ((Bz g.2).map (fat x2 y2))
 simp only [List.length_map]at hr1 hr2
 have hVz:∀z∈g.2,Vp (Zt z.2):=fun z hz=>vp_chn hv hne hC _ (by rw [←hT];exact List.mem_map_of_mem (f:=fun z=>Zt z.2) hz)
 refine Qi (fun _=>False) [(0,0),(1,0),(3,0),(4,0),(2,1),(5,1),(6,0),(7,3)] ?_ ?_
 ·kernel_rfl
 exact r0' J J (st0 (Yo J J))<|r0' J J (st0 (Yp (i:=6) J J J Eb Nu J J J J))<|r0' J J (st0 (Yo J J))<|r0' J J (st0 (Yp (i:=7) J J J Eb Nu J J J J))<|r1' J (Zh (n:=8) (r3_at _ _ _ _ x y hVz hx hy) J J J K2 call167 (Zc 8 J J J (Zc 2 J J J (Zc 3 J J J Ze))) J hw) fun _ _=>r1' J (Zh (n:=8) (r3_at _ _ _ _ x2 y2 hVz hx2 hy2) J J J K2 call167 (Zc 8 J J J (Zc 4 J J J (Zc 5 J J J Ze))) J hw) fun _ _=>r0' J J (st0 (Qd J J J ⟨by omega,by omega⟩))<|r3' J (Py (Mf J J) J) fun _ _=>Of<|Za<|Zu<|xU hsc results122 J J (by rw [hT]<;>rfl)
set_option maxHeartbeats 4000000 in
theorem Zl0(xs:List Int)(hd:Cvd xs)(hx0:xs≠[])(f:Nat)(ih:∀(v:Value) (zs:List (Int×SL)) (hI:RI xs (Zt zs)) (hf:zs.length≤f),Cal prog 19 #[v] [pp v zs] true (G:=Value×List (Int×SL)) (fun r=>Zt r.2=Zjz 13 f (Zt zs)) (fun r=>r.1) (fun r=>[pp r.1 r.2]))(v:Value)(zs:List (Int×SL))(hI:RI xs (Zt zs))(hf:zs.length≤f+1):Cal prog 19 #[v] [pp v zs] true (G:=Value×List (Int×SL)) (fun r=>Zt r.2=Zjz 13 (f+1) (Zt zs)) (fun r=>r.1) (fun r=>[pp r.1 r.2]):=by
 refine Yc func19 J ntmps19 J K1 ?_
 intro w0 sc hw hsc
 simp only [Zq,Zp]
 have hli:=Zw zs
 have hIl:=hI.l
 have hz0:zs.length≠0:=fun e=>hI.ne (List.eq_nil_of_length_eq_zero (by omega))
 refine Zd<|Zg<|as_ J<|Zf<|Za<|Zd<|Zg<|mv J<|tt (Zh (n:=2) (Zsd _ _ hI.v hz0 (hI.s.mono (by omega))) J J J K1 call54 (Zc 1 J J J Ze) J hw) (fun g hg=>?_)
 have H_on:Zt g.2=(sqf 13 (Zt zs)):=hg
 have hl_on:=congrArg List.length H_on
 rw [Zw]at hl_on
 refine as_ J<|Zf<|Za<|Zd<|Zd<|Zg<|mv J<|dt (Yd J J (i:=2) J Yb Nn)<|dt (Pg J J J)<|Zf<|Za<|Zs J (fun h29=>?_) (fun h29=>?_)
 ·have h1:(sqf 13 (Zt zs)).length=1:=by omega
  exact Zd<|Zg<|mv J<|as_ J<|Zf<|Za<|Zu<|Xa<|Ym (.inl J) hsc (_,g.2) _ (fun a w hs=>Ni hs results19 J) J (by rw [H_on,rodd_1 h1]) J (Yy 2 J J J Zk)
 ·have h1:(sqf 13 (Zt zs)).length≠1:=by omega
  obtain⟨c1,c2,c3,c4,c5,c6,c7,c8,c9,c10,c11,c12,c13,c14,c15,c16,c17,c18,c19,c20,c21,c22,c23,c24,c25⟩:=RI.step hd hx0 hI
  have m6:=Ob c6
  have m12:=Ob c12
  have hl_lfp:=Yl (Zt zs)
  refine Zj<|Za<|Zd<|Zg<|mv J<|tt (Zh (n:=3) (Kz _ _ (hI.s.mono (by omega)) (fun _=>c5)) J J J K1 call57 (Zc 1 J J J Ze) J hw) (fun g_2 hg_2=>?_)
  have H_pp:Zt g_2.2=Xc (Zt zs):=hg_2
  have hl_pp:=congrArg List.length H_pp
  rw [Zw]at hl_pp
  refine tt (Zh (n:=4) (Zf1 1 ⟨by decide,by decide⟩) J J J K1 call34 Ze J hw) fun v _=>tt (Zh (n:=5) (Za0 _ _ _ _ (by rw [H_pp];exact(Hk hI.s).mono (by omega)) (by decide +kernel)) J J J K2 call56 (Zc 3 J J J (Zc 4 J J J Ze)) J hw) (fun g_3 hg_3=>?_)
  have H_sc:Zt g_3.2=Xo (Xc (Zt zs)) 1:=by rw [hg_3,H_pp]
  have hl_sc:=congrArg List.length H_sc
  rw [Zw]at hl_sc
  refine mv J<|tt (Zh (n:=6) (Za1 _ _ _ _ (by rw [H_sc];exact c7) (by rw [H_on];exact c1) (fun _=>by rw [H_sc,H_on];have h7:=Nat.mul_le_mul (show g_3.2.length-g.2.length+1≤8 by omega) (show msz (sqf 13 (Zt zs))+1≤331 by omega);omega)) J J J K2 call55 (Zc 5 J J J (Zc 2 J J J Ze)) J hw) (fun g_4 hg_4=>?_)
  have H_lf:Zt g_4.2=Mu 13 (Zt zs):=by have h9:=hg_4 (by rw [H_sc,H_on];exact c9);rw [H_sc,H_on]at h9;exact h9
  have hl_lf:=congrArg List.length H_lf
  rw [Zw]at hl_lf
  refine mv J<|dt (Yh J J J)<|dt (Yh J J J)<|as_ J<|as_ J<|Zf<|Za<|Zd<|Zg<|mv J<|tt (Zh (n:=7) (Zsd _ _ (by rw [H_lf];exact c10) (fun e=>c11 (List.eq_nil_of_length_eq_zero (by rw [←H_lf,Zw];exact e))) (by rw [H_lf];exact c12.mono (by omega))) J J J K1 call54 (Zc 6 J J J Ze) J hw) (fun g_5 hg_5=>?_)
  have H_tw:Zt g_5.2=(sqf 13 (Mu 13 (Zt zs))):=by rw [hg_5,H_lf]
  have hl_tw:=congrArg List.length H_tw
  rw [Zw]at hl_tw
  refine as_ J<|Zf<|Za<|Zd<|Zg<|mv J<|mv J<|tt (Zh (n:=8) (Za1 _ _ _ _ (by rw [H_on];exact c1) (by rw [H_tw];exact c16) (fun _=>by rw [H_on,H_tw];have h7:=Nat.mul_le_mul (show g.2.length-g_5.2.length+1≤8 by omega) (show msz (sqf 13 (Mu 13 (Zt zs)))+1≤331 by omega);omega)) J J J K2 call55 (Zc 2 J J J (Zc 7 J J J Ze)) J hw) (fun g_6 hg_6=>?_)
  have H_ol:Zt g_6.2=Ku (sqf 13 (Zt zs)) (sqf 13 (Mu 13 (Zt zs))):=by have h9:=hg_6 (by rw [H_on,H_tw];exact c20);rw [H_on,H_tw]at h9;exact h9
  have hl_ol:=congrArg List.length H_ol
  rw [Zw]at hl_ol
  refine mv J<|dt (Yh J J J)<|dt (Yh J J J)<|as_ J<|as_ J<|Zf<|Za<|Zd<|Zg<|mv J<|tt (Zh (n:=9) (Kz _ _ (by rw [H_lf];exact c12.mono (by omega)) (fun _=>by rw [H_lf];exact c14)) J J J K1 call57 (Zc 6 J J J Ze) J hw) (fun g_7 hg_7=>?_)
  have H_p2:Zt g_7.2=(Mu 13 (Zt zs)):=by rw [hg_7,H_lf,c15]
  have hl_p2:=congrArg List.length H_p2
  rw [Zw]at hl_p2
  refine mv J<|tt (Zh (n:=10) (Za1 _ _ _ _ (by rw [H_p2];exact c10.tr) (by rw [H_tw];exact c16) (fun _=>by rw [H_p2,H_tw];have h7:=Nat.mul_le_mul (show g_7.2.length-g_5.2.length+1≤8 by omega) (show msz (sqf 13 (Mu 13 (Zt zs)))+1≤331 by omega);omega)) J J J K2 call55 (Zc 9 J J J (Zc 7 J J J Ze)) J hw) (fun g_8 hg_8=>?_)
  have H_rs:Zt g_8.2=Ap 13 (Zt zs):=by have h9:=hg_8 (by rw [H_p2,H_tw];exact c23);rw [H_p2,H_tw]at h9;exact h9.trans (by unfold Ap;rw [c15])
  have hl_rs:=congrArg List.length H_rs
  rw [Zw]at hl_rs
  refine mv J<|dt (Yh J J J)<|dt (Yh J J J)<|as_ J<|as_ J<|Zf<|Za<|Zd<|Zg<|mv J<|mv J<|tt (Zh (n:=11) (ih _ _ (by rw [H_rs];exact c24) (by have:=c25 h1;omega)) J J J K1 call19 (Zc 10 J J J Ze) J hw) (fun g_9 hg_9=>?_)
  have hl_od:=congrArg List.length hg_9
  rw [Zw,H_rs]at hl_od
  obtain⟨q1,q2,q3⟩:=RI.size hd hx0 c24 (f:=f) (by have:=c25 h1;omega)
  exact tt (Zh (n:=12) (rp_mul _ _ _ _ (by rw [H_ol];exact c21.mono (by omega)) (by rw [hg_9,H_rs];exact q2.mono (by omega)) (by omega)) J J J K2 call42 (Zc 8 J J J (Zc 11 J J J Ze)) J hw) fun g_10 hg_10=>as_ J<|Zf<|Za<|Zu<|Ym (.inl J) hsc _ _ (fun a w hs=>Ni hs results19 J) J (by rw [hg_10,H_ol,hg_9,H_rs];exact(rodd_s h1).symm) J (Yy 12 J J J Zk)
theorem Zgp(xs:List Int)(hd:Cvd xs)(hx0:xs≠[]):∀(f:Nat) (v:Value) (zs:List (Int×SL)) (hI:RI xs (Zt zs)) (hf:zs.length≤f),Cal prog 19 #[v] [pp v zs] true (G:=Value×List (Int×SL)) (fun r=>Zt r.2=Zjz 13 f (Zt zs)) (fun r=>r.1) (fun r=>[pp r.1 r.2])
 | 0,v,zs,hI,hf=>absurd (List.eq_nil_of_length_eq_zero (by rw [Zw];omega)) hI.ne
 | f+1,v,zs,hI,hf=>Zl0 xs hd hx0 f (Zgp xs hd hx0 f) v zs hI hf
theorem r4_odd(v:Value)(zs:List (Int×SL))(hd:Cvd (Zt zs))(h0:zs.length≠0):Cal prog 19 #[v] [pp v zs] true (G:=Value×List (Int×SL)) (fun r=>Zt r.2=Hu (Zt zs)) (fun r=>r.1) (fun r=>[pp r.1 r.2]):=by
 have hne:Zt zs≠[]:=fun e=>h0 (by rw [←Zw,e];rfl)
 have h:=Zgp (Zt zs) hd hne zs.length v zs (RI.start hd hne) (Nat.le_refl _)
 rw [←Zw zs,Zr4 hd hne]at h
 exact h
theorem sm_dec{r:RWL}(h:smR r=true)(hok:okP r=true):Cvd (dec r)∧Sz 32 (dec r)∧(dec r).length=r.length:=by
 obtain⟨h1,h2⟩:=smR_le h
 obtain⟨h3,h4⟩:=Zpc hok
 have h5:=congrArg List.length h4
 rw [List.length_map]at h5
 have hs:Sz 32 (dec r):=Sz.of_mem fun c hc=>by
  have h6:=h2 (wr c) (by rw [h4];exact List.mem_map_of_mem hc)
  exact Zk6 4 h6
 exact⟨⟨h3,hs.mono (by omega),by omega⟩,hs,h5.symm⟩
noncomputable def odR (r:RWL):List Int×Int:=if okP r=true then(if(dec r).length=0 then([],3)else(Hu (dec r),0))else([],2)
theorem Gn(v:Value)(r:List (Bool×ByteArray))(hok:okP r=true):Cal Tryz.prog 16 #[v] [slp 2 Zfg v r] true (G:=Value×List (Int×SL)) (fun q=>Zt q.2=dec r) (fun q=>q.1) (fun q=>[pp q.1 q.2]):=
 Cal.imp (rp_from v (dec r) ((Zpc hok).1.sz.mono (by omega)) (by have:=(Zpc hok).1.len;omega)) (Zln hok v) (fun _ h=>h)
theorem Zt0(x y:Int):fat x y []=0:=by unfold fat;rw [show pev [] x y=0 from rfl];rfl
theorem Zg6{p:List Int}(h:p.length=0):Pq p=[]:=by unfold Pq;rw [h];rfl
theorem Zq7(p:List Int)(x y:Int):vlu (Pq p) (x,y)=fat x y p:=by
  by_cases h:p.length=0
  · obtain rfl:=List.eq_nil_of_length_eq_zero h
    rw [Zg6 h,Zt0];rfl
  · rw [Zbr h];rfl
theorem Zkq(a:Int)(l:List Int):Zqv (a :: l)=if a≠0 then a else Zqv l:=by
  by_cases h:a=0
  · rw [if_neg (fun e=>e h)]
    subst h
    rfl
  · rw [if_pos h]
    unfold Zqv
    simp [h]
theorem Zpq{p:List Int}{x y:Int}(h:p.length=0∨fat x y p≠0):aft (Pq p) (x,y)=fat x y p:=by
  by_cases h0:p.length=0
  · obtain rfl:=List.eq_nil_of_length_eq_zero h0
    rw [Zg6 h0,Zt0];rfl
  · have h1:=h.resolve_left h0
    rw [Zbr h0]
    unfold aft
    rw [List.map_cons,Zkq,if_pos h1]
theorem aft_go{p:List Int}{x y:Int}(h0:p.length≠0)(h1:fat x y p=0):aft (Pq p) (x,y)=aft (Pq (Pk p)) (x,y):=by
  rw [Zbr h0]
  unfold aft
  rw [List.map_cons,Zkq,if_neg (fun e=>e h1)]
theorem Zq5{p:List Int}{k:Nat}(hv:Vp p)(hs:Sz k p)(hk:k≤60000):Vp (Pk p):=by
  have hl:=hv.len
  have h:=Hl hs (by omega)
  exact⟨h.mono (by omega),Nz hv.tr,by have:=Om p;omega⟩
theorem Zuy{p:List Int}(h:p.length≠0)(x y:Int):cnt 13 (Hu p) x y=chv (chx p) (x,y):=by rw [Zpi h];rfl
theorem chx_hd{p:List Int}(hd:Cvd p)(h:p.length≠0){x y:Int}(hy:0<y):fat x y ((chx p).getD 0 [])=0↔fat x y (Hu p)=0:=by
  have hne:p≠[]:=fun e=>h (by rw [e];rfl)
  obtain⟨o1,-⟩:=Aw hd hne
  rw [Zpi h]
  have e:(chn 13 (Hu p)).getD 0 []=sqf 13 (Hu p):=by
    unfold chn Mn
    split<;>rfl
  rw [e]
  have z:=o1.zero ((x:Rat)/(y:Rat))
  rw [Zcq hy _,Zcq hy _]
  constructor
  · intro h1
    have := z.1 (by rcases Pt (rev (sqf 13 (Hu p)) ((x : Rat) / (y : Rat))) with ⟨h5, h6⟩ | ⟨h5, h6⟩ | ⟨h5, h6⟩
                    · rw [h6]at h1;exact absurd h1 (by decide)
                    · rw [h6]at h1;exact absurd h1 (by decide)
                    · exact h5)
    rw [this];decide
  · intro h1
    have := z.2 (by rcases Pt (rev (Hu p) ((x : Rat) / (y : Rat))) with ⟨h5, h6⟩ | ⟨h5, h6⟩ | ⟨h5, h6⟩
                    · rw [h6]at h1;exact absurd h1 (by decide)
                    · rw [h6]at h1;exact absurd h1 (by decide)
                    · exact h5)
    rw [this];decide
theorem Zu6{p:List Int}(h:p.length≠0):(chx p).length≠0:=by
  rw [Zpi h]
  unfold chn Mn
  split<;>simp
theorem crb_nil{p:List Int}(h:p.length=0)(a b:R2):crb (chx p) a b=false:=by
  unfold chx;rw [if_pos h];rfl
theorem crx_t{p:List Int}(hd:Cvd p)(h:p.length≠0){x y x2 y2:Int}(hy:0<y2)(hz:fat x2 y2 (Hu p)=0):crb (chx p) (x,y) (x2,y2)=decide (0<chv (chx p) (x,y)-chv (chx p) (x2,y2)-1):=by
  unfold crb;rw [if_neg (Zu6 h),if_pos ((chx_hd hd h hy).2 hz)]
theorem crx_f{p:List Int}(hd:Cvd p)(h:p.length≠0){x y x2 y2:Int}(hy:0<y2)(hz:¬fat x2 y2 (Hu p)=0):crb (chx p) (x,y) (x2,y2)=decide (0<chv (chx p) (x,y)-chv (chx p) (x2,y2)):=by
  unfold crb;rw [if_neg (Zu6 h),if_neg (fun e=>hz ((chx_hd hd h hy).1 e)),Int.sub_zero]
theorem Zmo{p:List Int}{a:R2}(ha:0<a.2):fat a.1 a.2 p<0↔rev p (qv a)<0:=by
  rw [show fat a.1 a.2 p=rsg (rev p (qv a))from Zcq ha p]
  rcases Pt (rev p (qv a))with⟨h5,h6⟩ | ⟨h5,h6⟩ | ⟨h5,h6⟩
  · rw [h6];constructor
    · intro h;exact absurd h (by decide)
    · intro h;grind
  · rw [h6];exact⟨fun _=>h5,fun _=>by decide⟩
  · rw [h6,h5];constructor
    · intro h;exact absurd h (by decide)
    · intro h;exact absurd h (by decide)
theorem Zxs{p:List Int}(hd:Cvd p){a b:R2}(ha:0<a.2)(hb:0<b.2)(hc:¬0<cmp a b)(h:fat a.1 a.2 p<0):ngb (Pq p) (chx p) a b=true:=by
  have hle:=(Zcv ha hb).1 (by omega)
  exact(Ze9 hd ha hb hle).2 ⟨qv a,Rat.le_refl,hle,(Zmo ha).1 h⟩
theorem Zxr{p:List Int}(hd:Cvd p){a b:R2}(ha:0<a.2)(hb:0<b.2)(hc:¬0<cmp a b)(h:fat b.1 b.2 p<0):ngb (Pq p) (chx p) a b=true:=by
  have hle:=(Zcv ha hb).1 (by omega)
  exact(Ze9 hd ha hb hle).2 ⟨qv b,hle,Rat.le_refl,(Zmo hb).1 h⟩
theorem Zxq{p:List Int}{a b:R2}(hc:¬cmp a b=0)(h:aft (Pq p) a<0):ngb (Pq p) (chx p) a b=true:=by
  unfold ngb;rw [if_neg hc,decide_eq_true h];rfl
theorem Zxp{p:List Int}{a b:R2}(hc:¬cmp a b=0)(h:¬aft (Pq p) a<0):ngb (Pq p) (chx p) a b=crb (chx p) a b:=by
  unfold ngb;rw [if_neg hc,decide_eq_false h];rfl
theorem ngb_e{p:List Int}{a b:R2}(hc:cmp a b=0):ngb (Pq p) (chx p) a b=decide (fat a.1 a.2 p<0):=by
  unfold ngb;rw [if_pos hc,show vlu (Pq p) a=fat a.1 a.2 p from Zq7 p a.1 a.2]
abbrev rqz (a:R2):RZ:=((decide (a.1<0),Qo a.1.natAbs),(decide (a.2<0),Qo a.2.natAbs))
theorem bl_b4{n:Nat}(h:(Qo n).size≤4):bl n≤32:=Zk6 4 h
theorem e32_q{z:RZ}(hq:qOK z=true)(he:enR z=true):∃a:R2,E32 a∧z=rqz a:=by
 obtain⟨h1,h2,h3,h4⟩:=q_ok hq
 refine⟨(qx z,qy z),?_,h4⟩
 rw [h4]at he
 unfold enR at he
 rw [Bool.and_eq_true]at he
 exact⟨h3,bl_b4 (of_decide_eq_true he.1),bl_b4 (of_decide_eq_true he.2)⟩
theorem Zn8{x y:Int}(hx:bl x.natAbs≤65536)(hy:bl y.natAbs≤65536):qn x y=x∧qd x y=y:=by
 have hf:¬Zch x y:=by unfold Zch;omega
 unfold qn qd;rw [if_neg hf,if_neg hf];exact⟨rfl,rfl⟩
theorem all2{z1 z2:RZ}(h:[z1,z2].all enR=true):enR z1=true∧enR z2=true:=by
 simpa using h
theorem Fnd.lec{xs:List Int}{a b m:R2}(ha:0<a.2)(hb:0<b.2)(h:Fnd xs (qv a) (qv b) m):¬0<cmp a m∧¬0<cmp m b:=by
 have h1:=(Zcv ha h.lw.1).2 h.lo
 have h2:=(Zcv h.lw.1 hb).2 h.hi
 omega
theorem Fnd.fat{xs:List Int}{s t:Rat}{m:R2}(h:Fnd xs s t m):Go.Sky.fat m.1 m.2 xs<0:=(Zmo h.lw.1).2 h.ng
theorem Zue{a:R2}(ha:E32 a):a.1/Mz a.1 a.2=(slow a).1∧a.2/Mz a.1 a.2=(slow a).2:=by
 obtain⟨-,-,-,h⟩:=ha.slow
 obtain⟨hn1,hn2,-⟩:=Af h
 unfold slow;exact⟨hn1.symm,hn2.symm⟩
theorem FIn.lec{xs:List Int}{j:Nat}{a b:R2}(h:FIn xs j a b):¬0<cmp a b:=by
 obtain⟨-,-,r3,r4,-⟩:=h.round
 obtain⟨Q,W,h1⟩:=h.ex
 have:=(Zcv r3.2.2 r4.2.2).2 h1.le
 omega
theorem Zmn{xs:List Int} : ∀(n j:Nat) (a b:R2),FIn xs j a b→n+j≤199→∃k,FIn xs k (frs xs n a b).1 (frs xs n a b).2
 | 0,j,a,b,h,_=>⟨j,h⟩
 | n+1,j,a,b,h,hj=>by
  obtain⟨-,-,-,-,r5⟩:=h.round
  obtain⟨h1,h2⟩:=r5 (by omega)
  rw [Zbk]
  split
  ·exact Zmn n (j+1) _ _ h1 (by omega)
  ·exact Zmn n (j+1) _ _ h2 (by omega)
def fz(xs:List Int)(hq:Nat)(a b:R2):RZ×RZ:=if ngb (Pq xs) (chx xs) a b=true then(rqz (frs xs hq (slow a) (slow b)).1,rqz (frs xs hq (slow a) (slow b)).2)else(Q0,Q0)
def fe(xs:List Int)(a b:R2):Int:=if ngb (Pq xs) (chx xs) a b=true then 0 else 9
theorem fz_t{xs:List Int}{hq:Nat}{a b:R2}(h:ngb (Pq xs) (chx xs) a b=true):fz xs hq a b=(rqz (frs xs hq (slow a) (slow b)).1,rqz (frs xs hq (slow a) (slow b)).2)∧fe xs a b=0:=by
 unfold fz fe;rw [if_pos h,if_pos h];exact⟨rfl,rfl⟩
theorem fz_f{xs:List Int}{hq:Nat}{a b:R2}(h:ngb (Pq xs) (chx xs) a b=false):fz xs hq a b=(Q0,Q0)∧fe xs a b=9:=by
 unfold fz fe;rw [if_neg (by rw [h];decide),if_neg (by rw [h];decide)];exact⟨rfl,rfl⟩
theorem Zjv(v:Value)(xs:List Int)(a b:R2)(hd:Cvd xs)(ha:E32 a)(hb:E32 b)(hq:Nat)(hh:hq≤100)(hc:¬0<cmp a b):Cal Tryz.prog 31 #[v,.agg #[.bool (decide (a.1<0)),.string (Qo a.1.natAbs),.bool (decide (a.2<0)),.string (Qo a.2.natAbs)],.agg #[.bool (decide (b.1<0)),.string (Qo b.1.natAbs),.bool (decide (b.2<0)),.string (Qo b.2.natAbs)],.int .i64 (hq:Int)] [slp 2 wv v xs] false (G:=Unit) (fun _=>True) (fun _=> .tuple #[.agg #[.bool (fz xs hq a b).1.1.1,.string (fz xs hq a b).1.1.2,.bool (fz xs hq a b).1.2.1,.string (fz xs hq a b).1.2.2,.bool (fz xs hq a b).2.1.1,.string (fz xs hq a b).2.1.2,.bool (fz xs hq a b).2.2.1,.string (fz xs hq a b).2.2.2],.int .i64 (fe xs a b)]) (fun _=>[]):=by
 cases hn:ngb (Pq xs) (chx xs) a b with
 | false=>rw [(fz_f (hq:=hq) hn).1,(fz_f (hq:=hq) hn).2];exact Zax v xs a b hd ha hb hq hh hc hn
 | true=>rw [(fz_t (hq:=hq) hn).1,(fz_t (hq:=hq) hn).2];exact An v xs a b hd ha hb hq hc hn hh
theorem Dl(v w u:Value)(zs:List (Int×SL))(x y:Int)(hx:bl x.natAbs≤1000000)(hy:bl y.natAbs≤1000000)(hs:Sz 1000000 (Zt zs))(hl:zs.length≤30:=by omega):Mc prog 65 #[v,.agg #[.bool (decide (x<0)),w,.bool (decide (y<0)),u]] [pp v zs,d9p w x.natAbs,d9p u y.natAbs] (.int .i64 (fat x y (Zt zs))):=by
 refine Yc func65 J ntmps65 J K3 ?_
 intro w0 sc hw hsc
 simp only [Zq,Zp]
 have hli:=Zw zs
 exact Zd<|Zg<|tt (Yu (i:=4) J J J J J hw) fun bx _=>as_ J<|Zf<|Za<|Zd<|Zg<|mv J<|dt (Yp (i:=4) J J J Eb Nu J J J J)<|tt (Zh (n:=5) (Zr3 _ _ _ _ x y hs hx hy) J J J K2 call121 (Zc 1 J J J (Zc 2 J J J (Zc 3 J J J Ze))) J hw) fun v _=>tt (Zh (n:=5) (Ca _ _ (by have:=ev_b hs (by omega) hx hy;omega)) J J J K1 call72 (Zc 5 J J J Ze) J hw) fun _ _=>as_ J<|Zf<|Za<|Zu<|xU hsc results65 J J J
theorem Zic(x y:Int)(hx:bl x.natAbs≤1000000)(hy:bl y.natAbs≤1000000)(n:Nat)(ih:∀(v w u:Value) (zs:List (Int×SL)) (k:Nat) (hv:Vp (Zt zs)) (hk:Sz k (Zt zs)) (hkk:k+5*zs.length≤110) (hf:zs.length<n),Cal prog 66 #[v,.agg #[.bool (decide (x<0)),w,.bool (decide (y<0)),u]] [pp v zs,d9p w x.natAbs,d9p u y.natAbs] false (G:=Unit) (fun _=>True) (fun _=> .int .i64 (aft (Pq (Zt zs)) (x,y))) (fun _=>[]))(v w u:Value)(zs:List (Int×SL))(k:Nat)(hv:Vp (Zt zs))(hk:Sz k (Zt zs))(hkk:k+5*zs.length≤110)(hf:zs.length<n+1):Cal prog 66 #[v,.agg #[.bool (decide (x<0)),w,.bool (decide (y<0)),u]] [pp v zs,d9p w x.natAbs,d9p u y.natAbs] false (G:=Unit) (fun _=>True) (fun _=> .int .i64 (aft (Pq (Zt zs)) (x,y))) (fun _=>[]):=by
 refine Yc func66 J ntmps66 J K3 ?_
 intro w0 sc hw hsc
 simp only [Zq,Zp]
 have hli:=Zw zs
 have hlen:=hv.len
 have hld:=Om (Zt zs)
 have hvd:=Zq5 hv hk (by omega)
 have hkd:=Hl hk (by omega)
 refine Zd<|Zg<|tt (Yu (i:=4) J J J J J hw) fun bx _=>as_ J<|Zf<|Za<|Zd<|Zd<|Zg<|mv J<|dt (Yd J J (i:=1) J Yb Nn)<|dt (Pg J J J)<|mv J<|Qm (d:=8) J (fun s44=>?_) (fun s44=>?_)
 ·exact gsk J J J<|gsk J J J<|gsk J J J<|gsk J J J<|dt (Ys J J J)<|Zf<|Za<|Pf J<|Zd<|Zg<|mv J<|dt (Yp (i:=4) J J J Eb Nu J J J J)<|tt (Zh (n:=4) (Dl _ _ _ _ x y hx hy (hv.sz.mono (by omega))) J J J K2 call65 (Zc 1 J J J (Zc 2 J J J (Zc 3 J J J Ze))) J hw) fun _ _=>as_ J<|Zf<|Za<|Zu<|Xa<|xU hsc results66 J J (by rw [Zpq (by first | (left;omega) | (right;assumption))])
 ·refine gdt (Yo J J) J J<|gdt (Yp (i:=4) J J J Eb Nu J J J J) J J<|gtt (Zh (n:=4) (Dl _ _ _ _ x y hx hy (hv.sz.mono (by omega))) J J J K2 call65 (Zc 1 J J J (Zc 2 J J J (Zc 3 J J J Ze))) J hw) J J J fun _ _=>gdt (Qc J J J) J J<|dt (Zz J J J)<|Zf<|Za<|Zs J (fun h44=>?_) (fun h44=>?_)
  ·exact Zd<|Zg<|mv J<|dt (Yp (i:=4) J J J Eb Nu J J J J)<|tt (Zh (n:=4) (Dl _ _ _ _ x y hx hy (hv.sz.mono (by omega))) J J J K2 call65 (Zc 1 J J J (Zc 2 J J J (Zc 3 J J J Ze))) J hw) fun _ _=>as_ J<|Zf<|Za<|Zu<|Xa<|xU hsc results66 J J (by rw [Zpq (by first | (left;omega) | (right;assumption))])
  ·refine Zj<|Za<|Zd<|Hy (fun _=>False) [4]<|Zx (n:=2) [(0,0),(2,0),(1,1)]<|r0' J J (st0 (Yo J J))<|r0' J J (st0 (Yp (i:=4) J J J Eb Nu J J J J))<|r1' J (Zh (n:=5) (Zey _ _ (hv.sz.mono (by omega))) J J J K1 call115 (Zc 1 J J J Ze) J hw) fun g hg=>Yk ?_
   have hD:Zt g.2=Pk (Zt zs):=hg
   have hl7:=congrArg List.length hD
   rw [Zw]at hl7
   exact Zx (n:=0) [(3,1),(4,3)]<|r1' J (Zh (n:=5) (ih _ _ _ _ (k+5) (by rw [hD];exact hvd) (by rw [hD];exact hkd) (by omega) (by omega)) J J J K2 call66 (Zc 5 J J J (Zc 2 J J J (Zc 3 J J J Ze))) J hw) fun _ _=>r3' J (Py (Mf J J) J) fun _ _=>Yk<|Yf<|Za<|Zu<|xU hsc results66 J J (by rw [aft_go (p:=Zt zs) (by omega) (Decidable.byContradiction ‹_›),←hD])
theorem Zn6(x y:Int)(hx:bl x.natAbs≤1000000)(hy:bl y.natAbs≤1000000):∀(n:Nat) (v w u:Value) (zs:List (Int×SL)) (k:Nat) (hv:Vp (Zt zs)) (hk:Sz k (Zt zs)) (hkk:k+5*zs.length≤110) (hf:zs.length<n),Cal prog 66 #[v,.agg #[.bool (decide (x<0)),w,.bool (decide (y<0)),u]] [pp v zs,d9p w x.natAbs,d9p u y.natAbs] false (G:=Unit) (fun _=>True) (fun _=> .int .i64 (aft (Pq (Zt zs)) (x,y))) (fun _=>[])
 | 0,v,w,u,zs,k,hv,hk,hkk,hf=>absurd hf (Nat.not_lt_zero _)
 | n+1,v,w,u,zs,k,hv,hk,hkk,hf=>Zic x y hx hy n (Zn6 x y hx hy n) v w u zs k hv hk hkk hf
theorem Zqa(v w u w2 u2:Value)(zs:List (Int×SL))(x y x2 y2:Int)(hx:bl x.natAbs≤1000000)(hy:bl y.natAbs≤1000000)(hx2:bl x2.natAbs≤1000000)(hy2:bl y2.natAbs≤1000000)(hp2:0<y2)(hd:Cvd (Zt zs)):Mc prog 67 #[v,.agg #[.bool (decide (x<0)),w,.bool (decide (y<0)),u],.agg #[.bool (decide (x2<0)),w2,.bool (decide (y2<0)),u2]] [pp v zs,d9p w x.natAbs,d9p u y.natAbs,d9p w2 x2.natAbs,d9p u2 y2.natAbs] (.bool (crb (chx (Zt zs)) (x,y) (x2,y2))):=by
 refine Yc func67 J ntmps67 J K5 ?_
 intro w0 sc hw hsc
 simp only [Zq,Zp]
 have hli:=Zw zs
 have hd7:=hd.l
 have hr1:=Zyr (chx (Zt zs)) (x,y)
 have hr2:=Zyr (chx (Zt zs)) (x2,y2)
 have hr3:=Fu (Zt zs)
 refine Zd<|Zg<|tt (Yu (i:=6) J J J J J hw) fun bx _=>tt (Yu (i:=7) J J J J J hw) fun bx_2 _=>as_ J<|Zf<|Za<|Zd<|Zd<|Zg<|mv J<|dt (Yd J J (i:=1) J Yb Nn)<|dt (Pg J J J)<|Zf<|Za<|Zs J (fun h52=>?_) (fun h52=>?_)
 ·exact Zd<|Zg<|as_ J<|Zf<|Za<|Zu<|Xa<|xU hsc results67 J J (by rw [crb_nil (by omega)])
 ·have hz0:(Zt zs).length≠0:=by omega
  obtain⟨o1,o2,o3,o4,-⟩:=Aw hd (fun e=>hz0 (by rw [e];rfl))
  refine Zj<|Za<|Zd<|Zg<|mv J<|tt (Zh (n:=8) (r4_odd _ _ hd (by omega)) J J J K1 call19 (Zc 1 J J J Ze) J hw) (fun g hg=>?_)
  have hO:Zt g.2=Hu (Zt zs):=hg
  have hl7:=congrArg List.length hO
  rw [Zw]at hl7
  refine as_ J<|Zf<|Za<|Zd<|Zg<|mv J<|dt (Yp (i:=6) J J J Eb Nu J J J J)<|dt (Yp (i:=7) J J J Eb Nu J J J J)<|tt (Zh (n:=8) (Zw6 _ _ _ _ _ _ x y x2 y2 (by rw [hO];exact o2) (fun e=>o1.one (List.eq_nil_of_length_eq_zero (by rw [←hO,Zw];exact e))) (by rw [hO];exact o3.mono (by omega)) (by omega) hx hy hx2 hy2) J J J K3 call122 (Zc 8 J J J (Zc 2 J J J (Zc 3 J J J (Zc 4 J J J (Zc 5 J J J Ze))))) J hw) fun _ _=>as_ J<|Zf<|Za<|Zd<|Zd<|Yr (Ij 8 (v':= .int .i64 ((chv (chx (Zt zs)) (x,y))-(chv (chx (Zt zs)) (x2,y2)))) J (by rw [hO,Zuy hz0,Zuy hz0]))<|Zg<|mv J<|dt (Yp (i:=7) J J J Eb Nu J J J J)<|tt (Zh (n:=8) (Dl _ _ _ _ x2 y2 hx2 hy2 (by rw [hO];exact o2.sz.mono (by omega))) J J J K2 call65 (Zc 8 J J J (Zc 4 J J J (Zc 5 J J J Ze))) J hw) fun _ _=>dt (Pg J J J)<|Zf<|Za<|Zs J (fun h57=>?_) (fun h57=>?_)
  ·have hfz:fat x2 y2 (Hu (Zt zs))=0:=by rw [←hO];exact h57
   exact Zg<|mv J<|dt (Qd J J J ⟨by omega,by omega⟩)<|as_ J<|Zf<|Za<|Zd<|Zg<|mv J<|dt (Pm J J J)<|as_ J<|Zf<|Za<|Zu<|xU hsc results67 J J (by first | rw [crx_t hd hz0 hp2 hfz] | rw [crx_f hd hz0 hp2 hfz])
  ·have hfz:¬fat x2 y2 (Hu (Zt zs))=0:=by rw [←hO];exact h57
   exact Zj<|Za<|Zd<|Zg<|mv J<|dt (Pm J J J)<|as_ J<|Zf<|Za<|Zu<|xU hsc results67 J J (by first | rw [crx_t hd hz0 hp2 hfz] | rw [crx_f hd hz0 hp2 hfz])
theorem Ze2(v w u w2 u2:Value)(zs:List (Int×SL))(x y x2 y2:Int)(hp:0<y)(hp2:0<y2)(hd:Cvd (Zt zs))(hc:¬0<cmp (x,y) (x2,y2))(hx:bl x.natAbs≤1000000:=by omega)(hy:bl y.natAbs≤1000000:=by omega)(hx2:bl x2.natAbs≤1000000:=by omega)(hy2:bl y2.natAbs≤1000000:=by omega):Mc prog 24 #[v,.agg #[.bool (decide (x<0)),w,.bool (decide (y<0)),u],.agg #[.bool (decide (x2<0)),w2,.bool (decide (y2<0)),u2]] [pp v zs,d9p w x.natAbs,d9p u y.natAbs,d9p w2 x2.natAbs,d9p u2 y2.natAbs] (.bool (ngb (Pq (Zt zs)) (chx (Zt zs)) (x,y) (x2,y2))):=by
 refine Yc func24 J ntmps24 J K5 ?_
 intro w0 sc hw hsc
 simp only [Zq,Zp]
 have hli:=Zw zs
 have hd7:=hd.l
 have hdz:Sz 1000000 (Zt zs):=hd.v.sz.mono (by omega)
 refine Zd<|Zg<|tt (Yu (i:=6) J J J J J hw) fun bx _=>tt (Yu (i:=7) J J J J J hw) fun bx_2 _=>as_ J<|Zf<|Za<|Zd<|Zd<|Zg<|dt (Yp (i:=6) J J J Eb Nu J J J J)<|dt (Yp (i:=7) J J J Eb Nu J J J J)<|tt (Zh (n:=7) (Zgo _ _ _ _ x y x2 y2) J J J K2 call27 (Zc 2 J J J (Zc 3 J J J (Zc 4 J J J (Zc 5 J J J Ze)))) J hw) fun _ _=>dt (Pg J J J)<|Zf<|Za<|Zs J (fun h65=>?_) (fun h65=>?_)
 ·exact Zd<|Zg<|mv J<|dt (Yp (i:=6) J J J Eb Nu J J J J)<|tt (Zh (n:=7) (Dl _ _ _ _ x y hx hy hdz) J J J K2 call65 (Zc 1 J J J (Zc 2 J J J (Zc 3 J J J Ze))) J hw) fun _ _=>dt (Xr J J J)<|as_ J<|Zf<|Za<|Zu<|Xa<|xU hsc results24 J J (by rw [ngb_e (show cmp (x,y) (x2,y2)=0 by assumption)])
 ·refine Zj<|Za<|Zd<|Zg<|mv J<|dt (Yp (i:=6) J J J Eb Nu J J J J)<|tt (Zh (n:=7) (Dl _ _ _ _ x y hx hy hdz) J J J K2 call65 (Zc 1 J J J (Zc 2 J J J (Zc 3 J J J Ze))) J hw) fun _ _=>dt (Xr J J J)<|mv J<|Qm (d:=19) J (fun s68=>?_) (fun s68=>?_)
  ·exact gsk J J J<|gsk J J J<|gsk J J J<|gsk J J J<|dt (Ys J J J)<|mv J<|gsk J J J<|gsk J J J<|gsk J J J<|gsk J J J<|dt (Ys J J J)<|mv J<|gsk J J J<|gsk J J J<|gsk J J J<|gsk J J J<|dt (Ys J J J)<|as_ J<|Zf<|Za<|Zu<|xU hsc results24 J J (by first | rw [Zxs hd hp hp2 hc ‹_›] | rw [Zxr hd hp hp2 hc ‹_›] | rw [Zxq (show ¬cmp (x,y) (x2,y2)=0 by assumption) ‹_›] | rw [Zxp (show ¬cmp (x,y) (x2,y2)=0 by assumption) ‹_›])
  ·refine gdt (Yo J J) J J<|gdt (Yp (i:=7) J J J Eb Nu J J J J) J J<|gtt (Zh (n:=7) (Dl _ _ _ _ x2 y2 hx2 hy2 hdz) J J J K2 call65 (Zc 1 J J J (Zc 4 J J J (Zc 5 J J J Ze))) J hw) J J J fun _ _=>gdt (Xr J J J) J J<|dt (Zz J J J)<|mv J<|Qm (d:=25) J (fun s68_2=>?_) (fun s68_2=>?_)
   ·exact gsk J J J<|gsk J J J<|gsk J J J<|gsk J J J<|dt (Ys J J J)<|mv J<|gsk J J J<|gsk J J J<|gsk J J J<|gsk J J J<|dt (Ys J J J)<|as_ J<|Zf<|Za<|Zu<|xU hsc results24 J J (by first | rw [Zxs hd hp hp2 hc ‹_›] | rw [Zxr hd hp hp2 hc ‹_›] | rw [Zxq (show ¬cmp (x,y) (x2,y2)=0 by assumption) ‹_›] | rw [Zxp (show ¬cmp (x,y) (x2,y2)=0 by assumption) ‹_›])
   ·refine gdt (Yo J J) J J<|gdt (Yp (i:=6) J J J Eb Nu J J J J) J J<|gtt (Zh (n:=7) (Zn6 x y hx hy _ _ _ _ _ 70 hd.v hd.s (by omega) (Nat.lt_succ_self _)) J J J K2 call66 (Zc 1 J J J (Zc 2 J J J (Zc 3 J J J Ze))) J hw) J J J fun _ _=>gdt (Xr J J J) J J<|dt (Zz J J J)<|mv J<|Qm (d:=31) J (fun s68_3=>?_) (fun s68_3=>?_)
    ·exact gsk J J J<|gsk J J J<|gsk J J J<|gsk J J J<|dt (Ys J J J)<|as_ J<|Zf<|Za<|Zu<|xU hsc results24 J J (by first | rw [Zxs hd hp hp2 hc ‹_›] | rw [Zxr hd hp hp2 hc ‹_›] | rw [Zxq (show ¬cmp (x,y) (x2,y2)=0 by assumption) ‹_›] | rw [Zxp (show ¬cmp (x,y) (x2,y2)=0 by assumption) ‹_›])
    ·exact gdt (Yo J J) J J<|gdt (Yp (i:=6) J J J Eb Nu J J J J) J J<|gdt (Yp (i:=7) J J J Eb Nu J J J J) J J<|gtt (Zh (n:=7) (Zqa _ _ _ _ _ _ x y x2 y2 hx hy hx2 hy2 hp2 hd) J J J K3 call67 (Zc 1 J J J (Zc 2 J J J (Zc 3 J J J (Zc 4 J J J (Zc 5 J J J Ze))))) J hw) J J J fun _ _=>dt (Zz J J J)<|as_ J<|Zf<|Za<|Zu<|xU hsc results24 J J (by first | rw [Zxs hd hp hp2 hc ‹_›] | rw [Zxr hd hp hp2 hc ‹_›] | rw [Zxq (show ¬cmp (x,y) (x2,y2)=0 by assumption) ‹_›] | rw [Zxp (show ¬cmp (x,y) (x2,y2)=0 by assumption) ‹_›])
theorem Zse(v w v2 w2:Value)(x y x2 y2:Int)(hm:Zdi (x,y) (x2,y2))(h0:bl x.natAbs≤70000)(h1:bl y.natAbs≤70000)(h2:bl x2.natAbs≤70000)(h3:bl y2.natAbs≤70000)(hy0:0<y)(hy2:0<y2):Cal prog 80 #[.agg #[.bool (decide (x<0)),v,.bool (decide (y<0)),w],.agg #[.bool (decide (x2<0)),v2,.bool (decide (y2<0)),w2]] [d9p v x.natAbs,d9p w y.natAbs,d9p v2 x2.natAbs,d9p w2 y2.natAbs] true (G:=Value×Value) (fun r=>True) (fun r=> .agg #[.bool (decide ((Ny (x,y) (x2,y2)).1<0)),r.1,.bool (decide ((Ny (x,y) (x2,y2)).2<0)),r.2]) (fun r=>[d9p r.1 (Ny (x,y) (x2,y2)).1.natAbs,d9p r.2 (Ny (x,y) (x2,y2)).2.natAbs]):=by
 refine Yc func80 J ntmps80 J K4 ?_
 intro w0 sc hw hsc
 simp only [Zq,Zp]
 obtain⟨hM1,hM2,c1,c2,hdp⟩:=smid_eq hm hy0 hy2
 have hyn:y≠0:=by omega
 have hyn2:y2≠0:=by omega
 refine Zd<|Zg<|tt (Yu (i:=5) J J J J J hw) fun bx _=>tt (Yu (i:=6) J J J J J hw) fun bx_2 _=>tt (Zn (i:=7) J J zeroValue50 J J hw) fun bx_3 _=>Zf<|Za<|Zd<|Zg<|dt (Yp (i:=5) J J J Eb Nu J J J J)<|dt (Yp (i:=6) J J J Eb Nu J J J J)<|tt (Zh (n:=8) (r_addq _ _ _ _ x y x2 y2 (by omega) (by omega) (by omega) (by omega) hyn hyn2) J J J K2 call126 (Zc 1 J J J (Zc 2 J J J (Zc 3 J J J (Zc 4 J J J Ze)))) J hw) fun g _=>tt (Zh (n:=10) (Zf1 1 ⟨by decide,by decide⟩) J J J K1 call34 Ze J hw) fun v _=>tt (Zh (n:=11) (Zf1 2 ⟨by decide,by decide⟩) J J J K1 call34 Ze J hw) fun v_2 _=>dt (Pv (ivs:=[(0,_),(1,_)]) J K4 (fun a w hs=>Zvk))<|tt (Zh (n:=12) (r_mulq _ _ _ _ ((x*y2+x2*y)/Mz (x*y2+x2*y) (y*y2)) ((y*y2)/Mz (x*y2+x2*y) (y*y2)) 1 2 (by omega) (by omega) (by decide +kernel) (by decide +kernel) (by omega) (by decide)) J J J K2 call125 (Zc 8 J J J (Zc 9 J J J (Zc 10 J J J (Zc 11 J J J Ze)))) J hw) fun g_2 _=>tt (Zm (i:=7) J J J J J (by decide) J Nu J J ⟨Zb J,Zl (i:=12) J Zi,Zb J,Zl (i:=13) J Zi,trivial⟩ J hw trivial) fun _ _=>Zf<|Za<|Zu ?_
 exact Ym (.inl J) hsc (_,_) _ (fun a w hs=>Ni hs results80 (Yn (i:=7) J J Eb Nu J)) (by rw [hM1,hM2]<;>rfl) trivial J (Yi 12 J J J (by rw [hM1]<;>rfl) (Yi 13 J J J (by rw [hM2]<;>rfl) Zk))
set_option maxHeartbeats 4000000 in
theorem Zwz(v w u w2 u2:Value)(zs:List (Int×SL))(a b:R2)(hq:Nat)(hh:hq≤100)(ha:E32 a)(hb:E32 b)(hle:qv a≤qv b)(hd:Cvd (Zt zs)):Cal prog 32 #[v,.agg #[.bool (decide (a.1<0)),w,.bool (decide (a.2<0)),u],.agg #[.bool (decide (b.1<0)),w2,.bool (decide (b.2<0)),u2],.int .i64 (hq:Int)] [pp v zs,d9p w a.1.natAbs,d9p u a.2.natAbs,d9p w2 b.1.natAbs,d9p u2 b.2.natAbs] true (G:=Value×Value×Value×Value) (fun r=>True) (fun r=> .tuple #[.agg #[.bool (decide ((frs (Zt zs) hq (slow a) (slow b)).1.1<0)),r.1,.bool (decide ((frs (Zt zs) hq (slow a) (slow b)).1.2<0)),r.2.1],.agg #[.bool (decide ((frs (Zt zs) hq (slow a) (slow b)).2.1<0)),r.2.2.1,.bool (decide ((frs (Zt zs) hq (slow a) (slow b)).2.2<0)),r.2.2.2]]) (fun r=>[d9p r.1 (frs (Zt zs) hq (slow a) (slow b)).1.1.natAbs,d9p r.2.1 (frs (Zt zs) hq (slow a) (slow b)).1.2.natAbs,d9p r.2.2.1 (frs (Zt zs) hq (slow a) (slow b)).2.1.natAbs,d9p r.2.2.2 (frs (Zt zs) hq (slow a) (slow b)).2.2.natAbs]):=by
 refine Yc func32 J ntmps32 J K5 ?_
 intro w0 sc hw hsc
 simp only [Zq,Zp]
 have hla:=Zue ha
 have hlb:=Zue hb
 have ha1:=ha.b1
 have ha2:=ha.b2
 have hap:=ha.p
 have hb1:=hb.b1
 have hb2:=hb.b2
 have hbp:=hb.p
 refine Zd<|Zg<|tt (Yu (i:=6) J J J J J hw) fun bx _=>tt (Yu (i:=7) J J J J J hw) fun bx_2 _=>tt (Zn (i:=8) J J zeroValue50 J J hw) fun bx_3 _=>tt (Zn (i:=9) J J zeroValue50 J J hw) fun bx_4 _=>Zf<|Za<|Ez [(0,_),(3,_),(5,_),(6,_),(8,_),(9,_)] [(0,_),(1,_),(2,_),(3,_),(4,_),(5,_),(8,_),(9,_)] (fun(q:Value×Value×Value×Value)=>[]) (fun(q:Value×Value×Value×Value)=>[(61,d9p q.1 (slow a).1.natAbs),(62,d9p q.2.1 (slow a).2.natAbs),(63,d9p q.2.2.1 (slow b).1.natAbs),(64,d9p q.2.2.2 (slow b).2.natAbs),(6,box bx 50 #[.bool (decide ((slow a).1<0)),q.1,.bool (decide ((slow a).2<0)),q.2.1]),(7,box bx_2 50 #[.bool (decide ((slow b).1<0)),q.2.2.1,.bool (decide ((slow b).2<0)),q.2.2.2])]) (fun(q:Value×Value×Value×Value)=>True) K6 K8 ?_ ?_
 ·refine Oi [7] [11]<|Zx (n:=6) [(0,0),(2,0),(5,0),(6,0),(7,0),(8,0)]<|r0' J J (stf (Xs J J Zdm J Xp J J) K1)<|r0' J J (stf (Xs J J Zdm J Xp J J) K1)<|r0' J J (stf (Xs J J Zdm J Xp J J) K1)<|r0' J J (stf (Zy (i:=7) J J J Nm Xp J J) K1)<|r0' J J (stf (Xs J J Zdm J Xp J J) K1)<|r0' J J (stf (Zy (i:=7) J J J Nm Xp J J) K1)<|Yk<|Pb (n:=5) 1 3 ?_ ?_
  ·exact Yj J (Py (Zy (i:=6) J J J Nm Xp J J) J) fun _ _=>Zx (n:=0) [(3,1),(4,1),(9,1),(10,1),(11,3)]<|r1' J (Py (Zy (i:=6) J J J Nm Xp J J) J) fun _ _=>r1' J (Zh (n:=61) (Bj _ _ a.1 a.2) J J J K2 call29 (Zc 2 J J J (Zc 3 J J J Ze)) J hw) fun g _=>r1' J (Zh (n:=63) (Bj _ _ b.1 b.2) J J J K2 call29 (Zc 4 J J J (Zc 5 J J J Ze)) J hw) fun g_2 _=>r1' J (Zar 6 J J K1 (fun ob=>(Zm (i:=6) J J J J J (by decide) J Nu J J ⟨Zb J,Zl (i:=61) J Zi,Zb J,Zl (i:=62) J Zi,trivial⟩ J hw ob))) fun _ _=>r3' J (Zm (i:=7) J J J J J (by decide) J Nu J J ⟨Zb J,Zl (i:=63) J Zi,Zb J,Zl (i:=64) J Zi,trivial⟩ J hw trivial) fun _ _=>Yk<|Yf<|Qt (g.1,g.2,g_2.1,g_2.2) trivial K6 ⟨(by rw [←hla.1]<;>rfl),(by rw [←hla.2]<;>rfl),(by rw [←hlb.1]<;>rfl),(by rw [←hlb.2]<;>rfl),(by rw [←hla.1,←hla.2]<;>rfl),(by rw [←hlb.1,←hlb.2]<;>rfl),J,J,J,J,J,J,J,J,trivial⟩
  ·exact Yj J (Py (Zy (i:=6) J J J Nm Xp J J) J) fun _ _=>Zx (n:=0) [(1,1),(4,1),(9,1),(10,1),(11,3)]<|r1' J (Py (Zy (i:=6) J J J Nm Xp J J) J) fun _ _=>r1' J (Zh (n:=61) (Bj _ _ a.1 a.2) J J J K2 call29 (Zc 2 J J J (Zc 3 J J J Ze)) J hw) fun g_3 _=>r1' J (Zh (n:=63) (Bj _ _ b.1 b.2) J J J K2 call29 (Zc 4 J J J (Zc 5 J J J Ze)) J hw) fun g_4 _=>r1' J (Zar 6 J J K1 (fun ob=>(Zm (i:=6) J J J J J (by decide) J Nu J J ⟨Zb J,Zl (i:=61) J Zi,Zb J,Zl (i:=62) J Zi,trivial⟩ J hw ob))) fun _ _=>r3' J (Zm (i:=7) J J J J J (by decide) J Nu J J ⟨Zb J,Zl (i:=63) J Zi,Zb J,Zl (i:=64) J Zi,trivial⟩ J hw trivial) fun _ _=>Yk<|Yf<|Qt (g_3.1,g_3.2,g_4.1,g_4.2) trivial K6 ⟨(by rw [←hla.1]<;>rfl),(by rw [←hla.2]<;>rfl),(by rw [←hlb.1]<;>rfl),(by rw [←hlb.2]<;>rfl),(by rw [←hla.1,←hla.2]<;>rfl),(by rw [←hlb.1,←hlb.2]<;>rfl),J,J,J,J,J,J,J,J,trivial⟩
 ·rintro⟨w1,w2,w3,w4⟩ -
  simp only [CA,NA]
  refine Zd<|Zd<|Zg<|as_ J<|Zf<|Za<|Zo<|Nt [(0,_),(3,_),(5,_),(6,_),(8,_),(9,_)] [(0,_),(1,_),(2,_),(3,_),(4,_),(5,_),(8,_),(9,_)] (fun(q:Nat×R2×R2×Value×Value×Value×Value)=>[(10,.int .i64 (q.1:Int))]) (fun(q:Nat×R2×R2×Value×Value×Value×Value)=>[(61,d9p q.2.2.2.1 q.2.1.1.natAbs),(62,d9p q.2.2.2.2.1 q.2.1.2.natAbs),(63,d9p q.2.2.2.2.2.1 q.2.2.1.1.natAbs),(64,d9p q.2.2.2.2.2.2 q.2.2.1.2.natAbs),(6,box bx 50 #[.bool (decide (q.2.1.1<0)),q.2.2.2.1,.bool (decide (q.2.1.2<0)),q.2.2.2.2.1]),(7,box bx_2 50 #[.bool (decide (q.2.2.1.1<0)),q.2.2.2.2.2.1,.bool (decide (q.2.2.1.2<0)),q.2.2.2.2.2.2])]) (fun(q:Nat×R2×R2×Value×Value×Value×Value)=>(FIn (Zt zs) q.1 q.2.1 q.2.2.1)∧(q.1≤hq)∧(frs (Zt zs) (hq-q.1) q.2.1 q.2.2.1=(frs (Zt zs) hq (slow a) (slow b)))) (fun(q:Nat×R2×R2×Value×Value×Value×Value)=>hq-q.1) (0,slow a,slow b,_,_,_,_) ⟨FIn.start ha hb hle,by first | omega | (dsimp only<;>omega),rfl⟩ K7 K14 ?_
  rintro⟨j,c,e,w1,w2,w3,w4⟩ ⟨hI,hj,hF⟩
  dsimp only at hI hj hF
  simp only [CA,NA]
  obtain⟨r1,r2,r3,r4,r5⟩:=hI.round
  refine Zd<|Zd<|Zg<|mv J<|mv J<|dt (Xr J J J)<|Zf<|Za<|Zs J (fun h77=>?_) (fun h77=>?_)
  ·refine Zj<|Za<|Zd<|Zo<|Zd<|Zg<|dt (Yp (i:=6) J J J Eb Nu J J J J)<|dt (Yp (i:=7) J J J Eb Nu J J J J)<|tt (Zh (n:=71) (Zse _ _ _ _ c.1 c.2 e.1 e.2 r1 (by omega) (by omega) (by omega) (by omega) r3.2.2 r4.2.2) J J J K2 call80 (Zc 61 J J J (Zc 62 J J J (Zc 63 J J J (Zc 64 J J J Ze)))) J hw) fun g_5 _=>tt (Zn (i:=10) J J zeroValue50 J J hw) fun bx_5 _=>tt (Zm (i:=10) J J J J J (by decide) J Nu J J ⟨Zb J,Zl (i:=71) J Zi,Zb J,Zl (i:=72) J Zi,trivial⟩ J hw trivial) fun _ _=>Zf<|Za<|Zd<|Zg<|mv J<|dt (Yp (i:=6) J J J Eb Nu J J J J)<|dt (Yp (i:=10) J J J Eb Nu J J J J)<|tt (Zh (n:=10) (Ze2 _ _ _ _ _ _ c.1 c.2 (Ny c e).1 (Ny c e).2 r3.2.2 r2.2.2 hd (r5 (by omega)).1.lec) J J J K3 call24 (Zc 1 J J J (Zc 61 J J J (Zc 62 J J J (Zc 71 J J J (Zc 72 J J J Ze))))) J hw) fun _ _=>Zf<|Za<|Mm J (fun h79=>?_) (fun h79=>?_)
   ·exact Zg<|dt (Yp (i:=10) J J J Eb Nu J J J J)<|tt (Zm (i:=7) J J J J J (by decide) J Nu J J ⟨Zb J,Zl (i:=71) J Zi,Zb J,Zl (i:=72) J Zi,trivial⟩ J hw trivial) fun _ _=>Zf<|Oe<|Za<|Zg<|mv J<|dt (Yx J J J ⟨by omega,by omega⟩)<|as_ J<|Zf<|Qu (Oa 71 63 J J J)<|Qu (Oa 72 64 J J J)<|Xn (j+1,c,Ny c e,w1,w2,g_5.1,g_5.2) ⟨(r5 (by omega)).1,by first | omega | (dsimp only<;>omega),by dsimp only;rw [←hF,show hq-j=(hq-(j+1))+1 by omega,Zbk,if_pos (show ngb (Pq (Zt zs)) (chx (Zt zs)) c (Ny c e)=true by assumption)]⟩ (by dsimp only;omega) K7 K14
   ·exact Zg<|dt (Yp (i:=10) J J J Eb Nu J J J J)<|tt (Zm (i:=6) J J J J J (by decide) J Nu J J ⟨Zb J,Zl (i:=71) J Zi,Zb J,Zl (i:=72) J Zi,trivial⟩ J hw trivial) fun _ _=>Zf<|Oe<|Za<|Zg<|mv J<|dt (Yx J J J ⟨by omega,by omega⟩)<|as_ J<|Zf<|Qu (Oa 71 61 J J J)<|Qu (Oa 72 62 J J J)<|Xn (j+1,Ny c e,e,g_5.1,g_5.2,w3,w4) ⟨(r5 (by omega)).2,by first | omega | (dsimp only<;>omega),by dsimp only;rw [←hF,show hq-j=(hq-(j+1))+1 by omega,Zbk,if_neg (by rw [show ngb (Pq (Zt zs)) (chx (Zt zs)) c (Ny c e)=false by assumption];decide)]⟩ (by dsimp only;omega) K7 K14
  ·refine Yv<|Zv<|Zv<|Ox<|Za<|Zd ?_
   obtain rfl:j=hq:=by omega
   rw [Nat.sub_self]at hF
   have hF2:(c,e)=frs (Zt zs) j (slow a) (slow b):=hF
   clear hF
   exact Oi [6,7] [3]<|Zx (n:=0) [(0,0),(1,0),(2,1),(3,3)]<|r0' J J (stf (Yp (i:=6) J J J Eb Nu J J J J) K2)<|r0' J J (stf (Yp (i:=7) J J J Eb Nu J J J J) K2)<|r1' J (Zar 8 J J K2 (fun ob=>(Zm (i:=8) J J J J J (by decide) J Nu J J ⟨Zb J,Zl (i:=61) J Zi,Zb J,Zl (i:=62) J Zi,trivial⟩ J hw ob))) fun _ _=>r3' J (Zm (i:=9) J J J J J (by decide) J Nu J J ⟨Zb J,Zl (i:=63) J Zi,Zb J,Zl (i:=64) J Zi,trivial⟩ J hw trivial) fun _ _=>Yk<|Yf<|Za<|Zu<|Ym (.inl J) hsc (_,_,_,_) _ (fun a w hs=>Nl hs results32 (Yn (i:=8) J J Eb Nu J) (Yn (i:=9) J J Eb Nu J)) (by rw [←hF2]<;>rfl) trivial J (Yi 61 J J J (by rw [←hF2]<;>rfl) (Yi 62 J J J (by rw [←hF2]<;>rfl) (Yi 63 J J J (by rw [←hF2]<;>rfl) (Yi 64 J J J (by rw [←hF2]<;>rfl) Zk))))
end Go.Sky

