/- rules, arithmetic and contracts: part 11
   Proved without conditions of its own: each theorem bears its own. -/
import Derived.Test.YtcmiiammekgooaaGreatSd03
import Derived.Test.YtcmiiammekgooaaGreatSd02
import Derived.Test.YtcmiiammekgooaaGreatSd01
import Derived.Test.YtcmiiammekgooaaGreatSd09
set_option linter.all false
namespace Go.Sky
open Go.Proofs.Tryz
open Go.Proofs
set_option maxRecDepth 20000
set_option maxHeartbeats 4000000
set_option linter.unusedSimpArgs false
theorem Fy(v:Value)(xs:List Int)(c:Int)(hv:Vp xs)(hc:bl c.natAbs≤65536)(hz:∀i,bl (cf xs i*c).natAbs≤65536):Cal prog 151 #[v,wv c] [slp 2 wv v xs] true (G:=Value) (fun r=>True) (fun r=> .tuple #[r,.int .i64 0]) (fun r=>[slp 2 wv r (Xr xs c)]):=by
 refine Yd func151 J ntmps151 J K1 ?_
 intro w0 sc hw hsc
 simp only [Zq,Zp]
 have hlen:=hv.len
 refine Zc<|Zg<|tt (Xa (i:=2) J J J J J hw) J fun b _=>as_ J<|as_ J<|Zf<|Za<|Zc<|Zc<|Zg<|mv J<|tt (Zh (n:=2) (Xm _ _ ‹_›) J J J K1 Zes (Zd 1 J J J Ze) J hw) J fun _ _=>dt (Yr J J)<|mv J<|gdt (Yb (i:=2) J J J Qg Ye J J) J J<|gtt (Zh (n:=2) (Lo _ ‹_›) J J J K1 Ze9 Ze J hw) J J J fun _ _=>gdt (Yr J J) J J<|dt (Zo J J J)<|Zf<|Za<|Zw J<|Zj<|Za<|Zc<|Zg<|tt (Zl (i:=3) J J zeroValue167 J J hw) J fun b_2 _=>Zf<|Za<|Zc<|Zg<|mv J<|dt (Yc J J (i:=1) J Zi Qi)<|tt (Di (i:=4) (n:=_) (by_:=24) (enc:=wv) 0 J J J J Qi ti31 J pV.cells pV.pos J J J hw J J) J fun v _=>as_ J<|Zf<|Za<|Zc<|Zc<|Zg<|mv J<|dt (Yc J J (i:=1) J Zi Qi)<|mv J<|Zf<|Za<|Zm<|Mm [(3,_),(6,_),(7,_),(21,_),(22,_)] [(0,_),(1,_),(2,_),(3,_)] (fun(k:Nat)=>[(23,.int .i64 (k:Int))]) (fun(k:Nat)=>[(4,osl 2 31 wv v (fill xs.length k (fun i=>cf xs i*c)))]) (fun(k:Nat)=>k≤xs.length) (fun(k:Nat)=>xs.length-k) 0 (by first | omega | (dsimp only<;>omega)) K6 ⟨by rw [Cd xs.length (fun i=>cf xs i*c)];rfl,rfl,rfl,rfl,rfl,trivial⟩ ?_
 rintro k hk
 simp only [CA,NA]
 refine Zc<|Zg<|dt (Qd J J J)<|Zf<|Za<|Zc<|Zr J (fun h159=>?_) (fun h159=>?_)
 ·exact Zj<|Za<|Zc<|Zm<|Zc<|Zg<|mv J<|dt (Xf (ii:=1) J J J J Zi Qi Ye J (by first | omega | (simp only [List.length_set];omega)))<|dt (Xx (ii:=1) 0 J J J Zi pV (by first | omega | (simp only [List.length_set];omega)))<|tt (Zl (i:=5) J J zeroValue31 J J hw) J fun b_3 _=>as_ J<|tt (Zn (i:=5) J J J J J (by decide) J Ye J J ⟨Zb J,Zb J,trivial⟩ J hw trivial) J fun _ _=>Zf<|Za<|Zg<|mv J<|mv J<|dt (Yb (i:=5) J J J Qg Ye J J)<|dt (Yb (i:=2) J J J Qg Ye J J)<|tt (Ob (n:=5) (i:=3) (Eg _ _ _ (hv.sz.getD _) hc (hz _)) J J J K3 call153 J (by decide) Ze J hw trivial) J fun _ _=>dt (Xf (ii:=4) (i:=k) J J J J (Yk pV) Qi Ye J (by rw [Od];omega))<|tt (Ih (i:=4) (enc:=wv) _ J J J J J J pV J hw (by decide) (by rw [Od];omega)) J fun _ _=>Zf<|Og<|Za<|Zg<|dt (Yu J J J ⟨by omega,by omega⟩)<|mv J<|Zf<|Xq (k+1) (by first | omega | (dsimp only<;>omega)) (by first | omega | (dsimp only<;>omega)) K6 ⟨by rw [←Zcu (by omega)];rfl,rfl,rfl,rfl,rfl,trivial⟩
 ·refine Yx<|Zu<|Zu<|Nc<|Za<|Zc ?_
  obtain rfl:k=xs.length:=by omega
  exact Xc (Pt 4 J J pV)<|Xc (s_rbox 3 J J)<|Zg<|mv J<|tt (Zh (n:=6) (d_done _ _ _ (by rw [Db];exact Zeb fun i _=>hz i)) J J J K2 call154 (Zd 3 J J J (Zd 4 J J J Ze)) J hw) J fun _ _=>dt (Ya J J J)<|dt (Ya J J J)<|as_ J<|as_ J<|Zf<|Za<|Zt<|Yl (.inl J) hsc _ _ (fun a w hs=>Ns hs results151 J J) J trivial J (Yh 6 J J J (by rw [Zqr]<;>rfl) Zk)
theorem Eu(v:Value)(xs:List Int)(hv:Vp xs)(hz:∀i,bl (cf xs (i+1)*((i:Int)+1)).natAbs≤65536):Cal prog 109 #[v] [slp 2 wv v xs] true (G:=Value) (fun r=>True) (fun r=> .tuple #[r,.int .i64 0]) (fun r=>[slp 2 wv r (Pi xs)]):=by
 refine Yd func109 J ntmps109 J K1 ?_
 intro w0 sc hw hsc
 simp only [Zq,Zp]
 have hlen:=hv.len
 refine Zc<|Zg<|as_ J<|as_ J<|Zf<|Za<|Zc<|Zc<|Zg<|mv J<|tt (Zh (n:=1) (Xm _ _ ‹_›) J J J K1 Zes (Zd 1 J J J Ze) J hw) J fun _ _=>dt (Yr J J)<|Zf<|Za<|Zw J<|Zj<|Za<|Zc<|Zc<|Zg<|mv J<|dt (Yc J J (i:=1) J Zi Qi)<|dt (Pg J J J)<|Zf<|Za<|Zr J (fun h170=>?_) (fun h170=>?_)
 ·exact Zc<|Zg<|as_ J<|as_ J<|Zf<|Za<|Zt<|Ys<|Yl (.inl J) hsc _ _ (fun a w hs=>Ns hs results109 J J) J trivial J (My (Zvg (by omega)) Zk)
 ·refine Zj<|Za<|Zc<|Zg<|tt (Zl (i:=2) J J zeroValue167 J J hw) J fun b _=>Zf<|Za<|Zc<|Zg<|mv J<|dt (Yc J J (i:=1) J Zi Qi)<|dt (Qo J J J ⟨by omega,by omega⟩)<|tt (Di (i:=3) (n:=(xs.length-1)) (by_:=24) (enc:=wv) 0 J J J J Qi ti31 J pV.cells pV.pos J J J hw) J fun v _=>as_ J<|Zf<|Za<|Zc<|Zc<|Zg<|mv J<|dt (Yc J J (i:=3) J (Yk pV) Qi)<|mv J<|Zf<|Za<|Zm<|Mm [(0,_),(4,_),(5,_),(18,_)] [(0,_),(1,_),(2,_)] (fun(k:Nat)=>[(19,.int .i64 (k:Int))]) (fun(k:Nat)=>[(3,osl 2 31 wv v (fill (xs.length-1) k (fun i=>cf xs (i+1)*((i:Int)+1))))]) (fun(k:Nat)=>k≤xs.length-1) (fun(k:Nat)=>xs.length-1-k) 0 (by first | omega | (dsimp only<;>omega)) K5 ⟨by rw [Cd (xs.length-1) (fun i=>cf xs (i+1)*((i:Int)+1))];rfl,rfl,rfl,rfl,trivial⟩ ?_
  rintro k hk
  simp only [CA,NA]
  have hlf:(fill (xs.length-1) k (fun i=>cf xs (i+1)*((i:Int)+1))).length=xs.length-1:=Od _ _ _
  refine Zc<|Zg<|dt (Qd J J J)<|Zf<|Za<|Zc<|Zr J (fun h175=>?_) (fun h175=>?_)
  ·try rw [List.length_replicate]at *
   refine Zj<|Za<|Zc<|Zm<|Zc<|Zg<|mv J<|as_ J<|Zf<|Za<|Qf (fun x=>x=b) [(0,0),(1,0),(2,0),(3,0),(4,0),(5,0),(6,0),(7,0),(8,0),(9,1),(10,1),(11,0),(12,3)] ?_ ?_
   ·kernel_rfl
   exact r0' J J (st1 2 J (Yf J J))<|r0' J J (st1 2 J (Yf J J))<|r0' J J (st1 2 J (Yf J J))<|r0' J J (st1 2 J (Yf J J))<|r0' J J (st1 2 J (Yu J J J ⟨by omega,by omega⟩))<|r0' J J (st1 2 J (Xf (ii:=1) (i:=k+1) J J J J Zi Qi Ye))<|r0' J J (st1 2 J (Xx (ii:=1) 0 J J J Zi pV))<|r0' J J (st1 2 J (Yf J J))<|r0' J J (st1 2 J (Yu J J J ⟨by omega,by omega⟩))<|r1' J (Zh (n:=3) (Xb _ (by first | assumption | exact⟨by omega,by omega⟩)) J J J K1 Bg Ze J hw) fun _ _=>r1' J (Ob (n:=3) (i:=2) (Eg _ (cf xs (k+1)) ((k:Int)+1) (hv.sz _) (Nat.le_trans (Nu (n:=32) (by omega)) (by decide)) (hz k)) J J J K3 call153 J (by decide) Ze J hw J) fun _ _=>r0' J J (st1 2 J (Xf (ii:=3) (i:=k) J J J J (Yk pV) Qi Ye J (by rw [Od];omega)))<|r3' J (Ih (i:=3) (enc:=wv) _ J J J J J J pV J hw (by decide) (by rw [Od];omega)) fun _ _=>Py<|Og<|Za<|Zg<|dt (Yu J J J ⟨by omega,by omega⟩)<|mv J<|Zf<|Xq (k+1) (by first | omega | (dsimp only<;>omega)) (by first | omega | (dsimp only<;>omega)) K5 ⟨by rw [←Zcu (by omega)];rfl,rfl,rfl,rfl,trivial⟩
  ·try rw [List.length_replicate]at *
   refine Yx<|Zu<|Zu<|Nc<|Za<|Zc ?_
   obtain rfl:k=xs.length-1:=by omega
   exact Xc (Pt 3 J J pV)<|Xc (s_rbox 2 J J)<|Zg<|mv J<|tt (Zh (n:=4) (d_done _ _ _ (by rw [Db];exact Zeb fun i _=>hz i)) J J J K2 call154 (Zd 2 J J J (Zd 3 J J J Ze)) J hw) J fun _ _=>dt (Ya J J J)<|dt (Ya J J J)<|as_ J<|as_ J<|Zf<|Za<|Zt<|Yl (.inl J) hsc _ _ (fun a w hs=>Ns hs results109 J J) J trivial J (Yh 4 J J J (by rw [pder_mk hv.tr]<;>rfl) Zk)
theorem Zim(v:Value)(xs:List Int)(hv:Vp xs):Mv prog 181 #[v] [slp 2 wv v xs] (.tuple #[wv (Ql xs),.int .i64 0]):=by
 refine Yd func181 J ntmps181 J K1 ?_
 intro w0 sc hw hsc
 simp only [Zq,Zp]
 have hlen:=hv.len
 have hcb:∀k,bl (Ql (xs.take k)).natAbs≤65536:=fun k=>Zmo _ (hv.sz.take k)
 refine Zc<|Zg<|tt (Zl (i:=2) J J zeroValue31 J J hw) J fun b _=>as_ J<|Zf<|Za<|Zc<|Zc<|Zg<|mv J<|tt (Zh (n:=2) (Xm _ _ ‹_›) J J J K1 Zes (Zd 1 J J J Ze) J hw) J fun _ _=>dt (Yr J J)<|Zf<|Za<|Zw J<|Zj<|Za<|Zc<|Zg<|tt (Zl (i:=3) J J zeroValue167 J J hw) J fun b_2 _=>Zf<|Za<|Zc<|Zg<|tt (Zl (i:=4) J J zeroValue31 J J hw) J fun b_3 _=>Zf<|Za<|Zc<|Zc<|Zg<|mv J<|dt (Yc J J (i:=1) J Zi Qi)<|mv J<|Zf<|Za<|Zm<|Mm [(2,_),(4,_),(5,_),(12,_),(13,_)] [(0,_),(1,_),(2,_)] (fun(k:Nat)=>[(14,.int .i64 (k:Int))]) (fun(k:Nat)=>[(4,box b_3 31 #[.bool (decide (Ql (xs.take k)<0)),.string (Qc (Ql (xs.take k)).natAbs)]),(3,box b_2 167 #[.int .i64 0])]) (fun(k:Nat)=>k≤xs.length) (fun(k:Nat)=>xs.length-k) 0 (by first | omega | (dsimp only<;>omega)) K6 K5 ?_
 rintro k hk
 simp only [CA,NA]
 have hgc:=fun h=>Ll (p:=xs) (k:=k) h
 refine Zc<|Zg<|dt (Qd J J J)<|Zf<|Za<|Zc<|Zr J (fun h264=>?_) (fun h264=>?_)
 ·refine Zj<|Za<|Zc<|Zm<|Zc<|Zg<|dt (Xf (ii:=1) J J J J Zi Qi Ye J (by first | omega | (simp only [List.length_set];omega)))<|dt (Xx (ii:=1) 0 J J J Zi pV (by first | omega | (simp only [List.length_set];omega)))<|tt (Zl (i:=5) J J zeroValue31 J J hw) J fun b_4 _=>tt (Zn (i:=5) J J J J J (by decide) J Ye J J ⟨Zb J,Zb J,trivial⟩ J hw trivial) J fun _ _=>Zf<|Za<|Zg<|dt (Xk J J Zgf J Zf7 J J)<|dt (Yb (i:=4) J J J Qg Ye J J)<|dt (Yb (i:=5) J J J Qg Ye J J)<|tt (Zh (n:=5) (Zt1 (Ql (xs.take k)) (xs.getD k 0) (hcb _) (hv.sz.getD _)) J J J K2 call196 Ze J hw) J fun _ _=>dt (Ya J J J)<|dt (Ya J J J)<|tt (Ob (n:=5) (i:=3) (Zm9 _ _ _ _ _ _) J J J K3 call175 J (by decide) Ze J hw trivial) J fun _ _=>tt (Zn (i:=4) J J J J J (by decide) J Ye J J ⟨Zb J,Zb J,trivial⟩ J hw trivial) J fun _ _=>Zf<|Og<|Za<|Zg<|dt (Yu J J J ⟨by omega,by omega⟩)<|mv J<|Zf ?_
  have hc1:=hcb (k+1)
  rw [hgc (by omega)]at hc1
  exact Xq (k+1) (by first | omega | (dsimp only<;>omega)) (by first | omega | (dsimp only<;>omega)) K6 ⟨by rw [hgc (by omega)];simp only [Ok hc1];rfl,by simp only [Da hc1];rfl,rfl,rfl,rfl,trivial⟩
 ·exact Yx<|Zu<|Zu<|Nc<|Za<|Zc<|Mc [3,4] [5]<|Zz (n:=0) [(0,0),(1,0),(2,0),(3,0),(4,1),(5,3)]<|r0' J J (stf (Yb (i:=4) J J J Qg Ye J J) K2)<|r0' J J (stf (Xk J J Zgf J Zf7 J J) K2)<|r0' J J (stf (Xk J J Zjl J Gj J J) K2)<|r0' J J (stf (Pr (i:=3) J J J Ai J) K2)<|r1' J (Zh6 2 J J K2 (fun ob=>(Zn (i:=2) J J J J J (by decide) J Ye J J ⟨Zb J,Zb J,trivial⟩ J hw ob))) fun _ _=>r3' J (Qq (Ot J J) J) fun _ _=>Yt<|Yj<|Za<|Zt<|Yl (.inl J) hsc () _ (fun a w hs=>Ns hs results181 (Yp (i:=2) J J Qg Ye J) J) (by rw [show k=xs.length by omega,List.take_length]<;>rfl) trivial J Zk
theorem Zg4(v:Value)(xs:List Int)(c:Int)(hv:Sz 65536 xs)(hlen:xs.length≤1000)(hc:bl c.natAbs≤65536)(hd:∀i,c∣cf xs i)(hc0:xs≠[]→c≠0):Cal prog 182 #[v,wv c] [slp 2 wv v xs] true (G:=Value) (fun r=>True) (fun r=> .tuple #[r,.int .i64 0]) (fun r=>[slp 2 wv r (xs.map (· / c))]):=by
 refine Yd func182 J ntmps182 J K1 ?_
 intro w0 sc hw hsc
 simp only [Zq,Zp]
 refine Zc<|Zg<|tt (Xa (i:=2) J J J J J hw) J fun b _=>as_ J<|as_ J<|Zf<|Za<|Zc<|Zg<|mv J<|dt (Yc J J (i:=1) J Zi Qi)<|tt (Di (i:=3) (n:=_) (by_:=24) (enc:=wv) 0 J J J J Qi ti31 J pV.cells pV.pos J J J hw J J) J fun v _=>as_ J<|Zf<|Za<|Zc<|Zc<|Zg<|mv J<|dt (Yc J J (i:=1) J Zi Qi)<|mv J<|Zf<|Za<|Zm<|Mm [(3,_),(6,_),(15,_),(16,_)] [(0,_),(1,_),(2,_)] (fun(k:Nat)=>[(17,.int .i64 (k:Int))]) (fun(k:Nat)=>[(3,osl 2 31 wv v (fill xs.length k (fun i=>cf xs i/c)))]) (fun(k:Nat)=>k≤xs.length) (fun(k:Nat)=>xs.length-k) 0 (by first | omega | (dsimp only<;>omega)) K5 ⟨by rw [Cd xs.length (fun i=>cf xs i/c)];rfl,rfl,rfl,rfl,trivial⟩ ?_
 rintro k hk
 simp only [CA,NA]
 have hcl:Zf2 (xs.getD k 0/c)=cf xs k/c:=Ok (Be (hd k) (hv k))
 refine Zc<|Zg<|dt (Qd J J J)<|Zf<|Za<|Zc<|Zr J (fun h273=>?_) (fun h273=>?_)
 ·refine Zj<|Za<|Zc<|Zm<|Zc<|Zg<|mv J<|dt (Xf (ii:=1) J J J J Zi Qi Ye J (by first | omega | (simp only [List.length_set];omega)))<|dt (Xx (ii:=1) 0 J J J Zi pV (by first | omega | (simp only [List.length_set];omega)))<|tt (Zl (i:=4) J J zeroValue31 J J hw) J fun b_2 _=>as_ J<|tt (Zn (i:=4) J J J J J (by decide) J Ye J J ⟨Zb J,Zb J,trivial⟩ J hw trivial) J fun _ _=>Zf<|Za<|Zc<|Zg<|dt (Yb (i:=4) J J J Qg Ye J J)<|dt (Yb (i:=2) J J J Qg Ye J J)<|tt (Zh (n:=4) (Cl _ _ (hv.getD _) hc (hc0 (by intro e;rw [e]at h273;simp at h273;omega))) J J J K2 call158 Ze J hw) J fun _ _=>mv J<|dt (Ya J J J)<|dt (Ya J J J)<|dt (Ya J J J)<|tt (Zl (i:=5) J J zeroValue31 J J hw) J fun b_3 _=>tt (Zl (i:=6) J J zeroValue31 J J hw) J fun b_4 _=>tt (Zn (i:=5) J J J J J (by decide) J Ye J J ⟨Zb J,Zb J,trivial⟩ J hw trivial) J fun _ _=>tt (Zn (i:=6) J J J J J (by decide) J Ye J J ⟨Zb J,Zb J,trivial⟩ J hw trivial) J fun _ _=>as_ J<|Zf<|Za<|Zc<|Zc<|Zg<|mv J<|dt (Xo J J J)<|Zf<|Za<|Zr J (fun h275=>?_) (fun h275=>?_)
  ·exfalso;simp_all
  ·exact Zj<|Za<|Zg<|mv J<|mv J<|dt (Yb (i:=5) J J J Qg Ye J J)<|dt (Xf (ii:=3) (i:=k) J J J J (Yk pV) Qi Ye J (by rw [Od];omega))<|tt (Ih (i:=3) (enc:=wv) _ J J J J J J pV J hw (by decide) (by rw [Od];omega)) J fun _ _=>Zf<|Og<|Za<|Zg<|dt (Yu J J J ⟨by omega,by omega⟩)<|mv J<|Zf<|Xq (k+1) (by first | omega | (dsimp only<;>omega)) (by first | omega | (dsimp only<;>omega)) K5 ⟨by rw [←Zcu (by omega)];simp only [hcl];rfl,rfl,rfl,rfl,trivial⟩
 ·refine Yx<|Zu<|Zu<|Nc<|Za<|Zc<|Zg<|mv J<|as_ J<|as_ J<|Zf<|Za<|Zt ?_
  obtain rfl:k=xs.length:=by omega
  exact Yl (.inl J) hsc _ _ (fun a w hs=>Ns hs results182 J J) J trivial J (Pq 3 J J pV (by rw [Db,mk_map xs (· / c)]<;>rfl) Zk)
theorem Nz(v:Value)(xs:List Int)(hv:Vp xs):Cal prog 150 #[v] [slp 2 wv v xs] true (G:=Value) (fun r=>True) (fun r=> .tuple #[r,.int .i64 0]) (fun r=>[slp 2 wv r (Xg xs)]):=by
 refine Yd func150 J ntmps150 J K1 ?_
 intro w0 sc hw hsc
 simp only [Zq,Zp]
 have hlen:=hv.len
 refine Zc<|Zg<|as_ J<|as_ J<|Zf<|Za<|Zc<|Zg<|mv J<|tt (Zh (n:=1) (Zim _ _ ‹_›) J J J K1 call181 (Zd 1 J J J Ze) J hw) J fun _ _=>mv J<|dt (Ya J J J)<|dt (Ya J J J)<|tt (Zl (i:=2) J J zeroValue31 J J hw) J fun b _=>tt (Zn (i:=2) J J J J J (by decide) J Ye J J ⟨Zb J,Zb J,trivial⟩ J hw trivial) J fun _ _=>as_ J<|Zf<|Za<|Zc<|Zc<|Zg<|mv J<|dt (Xo J J J)<|Zf<|Za<|Zr J (fun h286=>?_) (fun h286=>?_)
 ·exfalso;simp_all
 ·exact Zj<|Za<|Zc<|Zg<|mv J<|dt (Yb (i:=2) J J J Qg Ye J J)<|tt (Zh (n:=3) (Zg4 _ _ _ hv.sz (by omega) (Zmo _ hv.sz) (Ml _) hv.ne) J J J K2 call182 (Zd 1 J J J Ze) J hw) J fun _ _=>dt (Ya J J J)<|dt (Ya J J J)<|as_ J<|as_ J<|Zf<|Za<|Zt<|Yl (.inl J) hsc _ _ (fun a w hs=>Ns hs results150 J J) J trivial J (Yh 3 J J J J Zk)
theorem Zqv(v:Value)(xs:List Int)(x y:Int)(hv:Vp xs)(hx:bl x.natAbs≤65536)(hy:bl y.natAbs≤65536)(hy0:0<y):Mv prog 186 #[v,rX x y] [slp 2 wv v xs] (.tuple #[wv (evv xs x y),.int .i64 (eve xs x y)]):=by
 refine Yd func186 J ntmps186 J K1 ?_
 intro w0 sc hw hsc
 simp only [Zq,Zp]
 have hlen:=hv.len
 refine Zc<|Zg<|tt (Xa (i:=2) J J J J J hw) J fun b _=>tt (Zl (i:=3) J J zeroValue31 J J hw) J fun b_2 _=>as_ J<|Zf<|Za<|Zc<|Zc<|Zg<|mv J<|tt (Zh (n:=3) (Xm _ _ ‹_›) J J J K1 Zes (Zd 1 J J J Ze) J hw) J fun _ _=>dt (Yr J J)<|mv J<|gdt (Yg (i:=2) J J J Xt Yq J J J J) J J<|gtt (Zh (n:=3) (Xv _ _ ‹_› ‹_› ‹_›) J J J K1 Cj Ze J hw) J J J fun _ _=>gdt (Yr J J) J J<|dt (Zo J J J)<|Zf<|Za<|Zw J<|Zj<|Za<|Zc<|Zc<|Zg<|mv J<|dt (Yc J J (i:=1) J Zi Qi)<|dt (Pg J J J)<|Zf<|Za<|Zr J (fun h186=>?_) (fun h186=>?_)
 ·exact Zc<|Zg<|dt (Oh (ivs:=[]) J trivial (fun a w hs=>b31_))<|tt (Zn (i:=3) J J J J J (by decide) J Ye J J ⟨Zb J,Zb J,trivial⟩ J hw trivial) J fun _ _=>as_ J<|Zf<|Za<|Zt<|Ys<|Yl (.inl J) hsc () _ (fun a w hs=>Ns hs results186 (Yp (i:=3) J J Qg Ye J) J) (by rw [List.eq_nil_of_length_eq_zero (l:=xs) (by omega)];rfl) trivial J Zk
 ·have hne:xs≠[]:=fun e=>by rw [e]at h186;simp at h186
  have hm1:=Oo hv.sz
  have hsxy:Sz 65536 [x,y]:=Sz.of_mem (by intro z hz;simp at hz;rcases hz with rfl | rfl<;>assumption)
  have hm2:=Oo hsxy
  have hm3:(xs.length-1)*msz [x,y]≤24*65536:=Nat.mul_le_mul (by omega) hm2
  have hm4:((xs.length:Int)-1)*(msz [x,y]:Int)=(((xs.length-1)*msz [x,y]:Nat):Int):=by rw [Int.natCast_mul];congr 1;omega
  refine Zj<|Za<|Zc<|Dc [(0,_),(3,_),(4,_)] [(0,_),(1,_),(2,_),(3,_)] (fun(_:Unit)=>[(37,.bool (decide ((65536:Int)<(msz xs:Int)+((xs.length:Int)-1)*(msz [x,y]:Int)+8)))]) (fun(_:Unit)=>[]) (fun(_:Unit)=>True) K3 K4 ?_ ?_
  ·refine Fh (fun _=>False) []<|Zz (n:=7) [(0,0),(2,0),(3,0),(4,0),(5,0),(6,0),(7,0),(8,0)]<|r0' J J (st0 (Yf J J))<|r0' J J (st0 (Yf J J))<|r0' J J (st0 (Yc J J (i:=1) J Zi Qi))<|r0' J J (st0 (Qo J J J ⟨by omega,by omega⟩))<|r0' J J (st0 (Xk J J Fb J Ye J J))<|r0' J J (st0 (Yb (i:=2) J J J Qg Ye J J))<|r0' J J (st0 (Xk J J Fb J Ye J J))<|r0' J J (st0 (Yb (i:=2) J J J Qg Ye J J))<|Yt<|Pf (n:=6) 1 9 ?_ ?_
   ·exact Yo J (Zh (n:=3) (Nl _ _ (by first | exact hv.sz | exact hsxy)) J J J K1 Af (Zd 1 J J J Ze) J hw) fun _ _=>Zz (n:=0) [(9,1),(10,1),(11,0),(12,0),(13,0),(14,0)]<|r1' J (Ps (i:=90) (ivs:=[(0,_),(1,_)]) (enc:=wv) [x,y] J J K4 uT22 ti31 J J J J J pV.cells J J hw) fun v _=>r1' J (Zh (n:=3) (Nl _ _ (by first | exact hv.sz | exact hsxy)) J J J K1 Af (Xw 90 J J pV Ze) J hw) fun _ _=>r0' J J (st0 (Cf J J J (by rw [hm4];exact⟨by omega,by omega⟩)))<|r0' J J (st0 (Yu J J J (by rw [hm4];exact⟨by omega,by omega⟩)))<|r0' J J (st0 (Yu J J J (by rw [hm4];exact⟨by omega,by omega⟩)))<|r0' J J (st0 (Qr J J J))<|Yt<|Yj<|Qz () trivial K4 K4
   ·exact Yo J (Ps (i:=90) (ivs:=[(0,_),(1,_)]) (enc:=wv) [x,y] J J K4 uT22 ti31 J J J J J pV.cells J J hw) fun v_2 _=>Zz (n:=0) [(1,1),(10,1),(11,0),(12,0),(13,0),(14,0)]<|r1' J (Zh (n:=3) (Nl _ _ (by first | exact hv.sz | exact hsxy)) J J J K1 Af (Zd 1 J J J Ze) J hw) fun _ _=>r1' J (Zh (n:=3) (Nl _ _ (by first | exact hv.sz | exact hsxy)) J J J K1 Af (Xw 90 J J pV Ze) J hw) fun _ _=>r0' J J (st0 (Cf J J J (by rw [hm4];exact⟨by omega,by omega⟩)))<|r0' J J (st0 (Yu J J J (by rw [hm4];exact⟨by omega,by omega⟩)))<|r0' J J (st0 (Yu J J J (by rw [hm4];exact⟨by omega,by omega⟩)))<|r0' J J (st0 (Qr J J J))<|Yt<|Yj<|Qz () trivial K4 K4
  ·rintro _ -
   simp only [CA,NA]
   refine Zr J (fun h189=>?_) (fun h189=>?_)
   ·have hE:Ka xs x y:=⟨hne,by rw [hm4]at h189;omega⟩
    exact Zc<|Zg<|dt (Oh (ivs:=[]) J trivial (fun a w hs=>b31_))<|tt (Zn (i:=3) J J J J J (by decide) J Ye J J ⟨Zb J,Zb J,trivial⟩ J hw trivial) J fun _ _=>as_ J<|Zf<|Za<|Zt<|Ys<|Yl (.inl J) hsc () _ (fun a w hs=>Ns hs results186 (Yp (i:=3) J J Qg Ye J) J) (by unfold evv eve;rw [if_pos hE,if_pos hE]<;>rfl) trivial J Zk
   ·have hF:msz xs+(xs.length-1)*msz [x,y]+8≤65536:=by rw [hm4]at h189;omega
    refine Zj<|Za<|Zc<|Zg<|tt (Zl (i:=4) J J zeroValue167 J J hw) J fun b_3 _=>Zf<|Za<|Dc [(0,_),(3,_),(4,_),(6,_)] [(0,_),(1,_),(2,_),(3,_),(4,_)] (fun(q:Nat×Nat)=>[(7,.pointer (some ⟨q.1,0,none⟩)),(8,.pointer (some ⟨q.2,0,none⟩))]) (fun(q:Nat×Nat)=>[(97,box q.1 31 (wc (xs.getD (xs.length-1) 0))),(98,box q.2 31 (wc 1))]) (fun(q:Nat×Nat)=>True) K4 K5 ?_ ?_
    ·refine Fh (fun _=>False) [9,10]<|Zz (n:=5) [(0,0),(1,0),(2,0),(3,0),(4,0),(5,0)]<|r0' J J (st0 (Yf J J))<|r0' J J (st0 (Yf J J))<|r0' J J (st0 (Yc J J (i:=1) J Zi Qi))<|r0' J J (st0 (Qo J J J ⟨by omega,by omega⟩))<|r0' J J (st0 (Xf (ii:=1) (i:=(xs.length-1)) J J J J Zi Qi Ye))<|r0' J J (st0 (Xx (ii:=1) 0 J J J Zi pV))<|Yt<|Zfa (n:=4) 6 7 8 ?_ ?_ ?_
     ·refine Yo J (Zh (n:=4) (Xb _ (by first | assumption | exact⟨by omega,by omega⟩)) J J J K1 Bg Ze J hw) fun _ _=>Pf (n:=3) 7 8 ?_ ?_
      ·exact Yo J (Zl (i:=97) J J zeroValue31 J J hw) fun b_4 _=>Zz (n:=0) [(8,1),(9,3),(10,3)]<|r1' J (Zl (i:=98) J J zeroValue31 J J hw) fun b_5 _=>r3' J (Zn (i:=97) J J J J J (by decide) J Ye J J ⟨Zb J,Zb J,trivial⟩ J hw trivial) fun _ _=>r3' J (Zn (i:=98) J J J J J (by decide) J Ye J J ⟨Zb J,Zb J,trivial⟩ J hw trivial) fun _ _=>Yt<|Yj<|Qz (_,_) trivial K6 K7
      ·exact Yo J (Zl (i:=98) J J zeroValue31 J J hw) fun b_6 _=>Zz (n:=0) [(7,1),(9,3),(10,3)]<|r1' J (Zl (i:=97) J J zeroValue31 J J hw) fun b_7 _=>r3' J (Zn (i:=97) J J J J J (by decide) J Ye J J ⟨Zb J,Zb J,trivial⟩ J hw trivial) fun _ _=>r3' J (Zn (i:=98) J J J J J (by decide) J Ye J J ⟨Zb J,Zb J,trivial⟩ J hw trivial) fun _ _=>Yt<|Yj<|Qz (_,_) trivial K6 K7
     ·refine Yo J (Zl (i:=97) J J zeroValue31 J J hw) fun b_8 _=>Pf (n:=3) 6 8 ?_ ?_
      ·exact Yo J (Zh (n:=4) (Xb _ (by first | assumption | exact⟨by omega,by omega⟩)) J J J K1 Bg Ze J hw) fun _ _=>Zz (n:=0) [(8,1),(9,3),(10,3)]<|r1' J (Zl (i:=98) J J zeroValue31 J J hw) fun b_9 _=>r3' J (Zn (i:=97) J J J J J (by decide) J Ye J J ⟨Zb J,Zb J,trivial⟩ J hw trivial) fun _ _=>r3' J (Zn (i:=98) J J J J J (by decide) J Ye J J ⟨Zb J,Zb J,trivial⟩ J hw trivial) fun _ _=>Yt<|Yj<|Qz (_,_) trivial K6 K7
      ·exact Yo J (Zl (i:=98) J J zeroValue31 J J hw) fun b_10 _=>Zz (n:=0) [(6,1),(9,3),(10,3)]<|r1' J (Zh (n:=4) (Xb _ (by first | assumption | exact⟨by omega,by omega⟩)) J J J K1 Bg Ze J hw) fun _ _=>r3' J (Zn (i:=97) J J J J J (by decide) J Ye J J ⟨Zb J,Zb J,trivial⟩ J hw trivial) fun _ _=>r3' J (Zn (i:=98) J J J J J (by decide) J Ye J J ⟨Zb J,Zb J,trivial⟩ J hw trivial) fun _ _=>Yt<|Yj<|Qz (_,_) trivial K6 K7
     ·refine Yo J (Zl (i:=98) J J zeroValue31 J J hw) fun b_11 _=>Pf (n:=3) 6 7 ?_ ?_
      ·exact Yo J (Zh (n:=4) (Xb _ (by first | assumption | exact⟨by omega,by omega⟩)) J J J K1 Bg Ze J hw) fun _ _=>Zz (n:=0) [(7,1),(9,3),(10,3)]<|r1' J (Zl (i:=97) J J zeroValue31 J J hw) fun b_12 _=>r3' J (Zn (i:=97) J J J J J (by decide) J Ye J J ⟨Zb J,Zb J,trivial⟩ J hw trivial) fun _ _=>r3' J (Zn (i:=98) J J J J J (by decide) J Ye J J ⟨Zb J,Zb J,trivial⟩ J hw trivial) fun _ _=>Yt<|Yj<|Qz (_,_) trivial K6 K7
      ·exact Yo J (Zl (i:=97) J J zeroValue31 J J hw) fun b_13 _=>Zz (n:=0) [(6,1),(9,3),(10,3)]<|r1' J (Zh (n:=4) (Xb _ (by first | assumption | exact⟨by omega,by omega⟩)) J J J K1 Bg Ze J hw) fun _ _=>r3' J (Zn (i:=97) J J J J J (by decide) J Ye J J ⟨Zb J,Zb J,trivial⟩ J hw trivial) fun _ _=>r3' J (Zn (i:=98) J J J J J (by decide) J Ye J J ⟨Zb J,Zb J,trivial⟩ J hw trivial) fun _ _=>Yt<|Yj<|Qz (_,_) trivial K6 K7
    ·rintro⟨b7,b8⟩ -
     simp only [CA,NA]
     refine Zc<|Zc<|Zg<|mv J<|dt (Yc J J (i:=1) J Zi Qi)<|dt (Qo J J J ⟨by omega,by omega⟩)<|as_ J<|Zf<|Za<|Zm<|Mm [(0,_),(3,_),(4,_),(6,_),(7,_),(8,_)] [(0,_),(1,_),(2,_),(3,_),(4,_)] (fun(k:Nat)=>[(9,.int .i64 ((k:Int)-1))]) (fun(k:Nat)=>[(97,box b7 31 (wc (hor xs x y k))),(98,box b8 31 (wc (y^(xs.length-1-k))))]) (fun(k:Nat)=>k≤xs.length-1) (fun(k:Nat)=>k) (xs.length-1) (by first | omega | (dsimp only<;>omega)) ⟨by rw [show((xs.length-1:Nat):Int)-1=(xs.length:Int)-2 by omega];rfl,rfl,rfl,rfl,rfl,rfl,rfl,trivial⟩ ⟨by rw [hor_top x y (by omega)];rfl,by rw [Nat.sub_self,Int.pow_zero];rfl,rfl,rfl,rfl,rfl,rfl,trivial⟩ ?_
     rintro k hk
     simp only [CA,NA]
     refine Zc<|Zc<|Zg<|mv J<|dt (Kj J J J)<|Zf<|Za<|Zr J (fun h194=>?_) (fun h194=>?_)
     ·have hpw:y^(xs.length-1-k)*y=y^(xs.length-1-(k-1)):=Zu8 y (by omega) hk
      have hst:hor xs x y k*x+xs.getD (k-1) 0*y^(xs.length-1-(k-1))=hor xs x y (k-1):=Zry x y (by omega) hk
      refine Zj<|Za<|Zc<|Zm<|Zc<|Zg<|dt (Yb (i:=98) J J J Qg Ye J J)<|dt (Xk J J Fb J Ye J J)<|dt (Yb (i:=2) J J J Qg Ye J J)<|tt (Ob (n:=4) (i:=4) (Eg _ _ _ (Zna hF) hy (by rw [hpw];exact Zna hF)) J J J K3 call153 J (by decide) Ze J hw trivial) J fun _ _=>tt (Zn (i:=98) J J J J J (by decide) J Ye J J ⟨Zb J,Zb J,trivial⟩ J hw trivial) J fun _ _=>Zf<|Za<|Qf (fun x=>x=b_3) [(0,0),(1,0),(2,0),(4,0),(5,0),(6,0),(7,0),(8,0),(3,1),(9,1),(10,1),(11,3)] ?_ ?_
      ·kernel_rfl
      refine r0' J J (st1 4 J (Yb (i:=97) J J J Qg Ye J J))<|r0' J J (st1 4 J (Xk J J Fb J Ye J J))<|r0' J J (st1 4 J (Yb (i:=2) J J J Qg Ye J J))<|r0' J J (st1 4 J (Yf J J))<|r0' J J (st1 4 J (Yf J J))<|r0' J J (st1 4 J (Xf (ii:=1) (i:=(k-1)) J J J J Zi Qi Ye))<|r0' J J (st1 4 J (Xx (ii:=1) 0 J J J Zi pV))<|r0' J J (st1 4 J (Yb (i:=98) J J J Qg Ye J J))<|r1' J (Ob (n:=4) (i:=4) (Eg _ _ _ (by first | exact Znb hF hlen _ | exact hv.sz.getD _) (by first | exact hx | (rw [hpw];exact Zna hF)) (by first | exact Zr8 hF hlen (by omega) hk | (rw [hpw];exact Zk0 hF))) J J J K3 call153 J (by decide) Ze J hw J) fun _ _=>r1' J (Ob (n:=4) (i:=4) (Eg _ _ _ (by first | exact Znb hF hlen _ | exact hv.sz.getD _) (by first | exact hx | (rw [hpw];exact Zna hF)) (by first | exact Zr8 hF hlen (by omega) hk | (rw [hpw];exact Zk0 hF))) J J J K3 call153 J (by decide) Ze J hw J) fun _ _=>r1' J (Ob (n:=4) (i:=4) (Znf _ _ _ (Zr8 hF hlen (by omega) hk) (by rw [hpw];exact Zk0 hF) (by rw [hpw,hst];exact Znb hF hlen _)) J J J K3 call159 J (by decide) Ze J hw J) fun _ _=>r3' J (Zn (i:=97) J J J J J (by decide) J Ye J J ⟨Zb J,Zb J,trivial⟩ J hw trivial) fun _ _=>Py ?_
      exact Og<|Za<|Zg<|mv J<|dt (Qo J J J ⟨by omega,by omega⟩)<|as_ J<|Zf<|Xq (k-1) (by first | omega | (dsimp only<;>omega)) (by first | omega | (dsimp only<;>omega)) ⟨by rw [show((k-1:Nat):Int)-1=(k:Int)-1-1 by omega];rfl,rfl,rfl,rfl,rfl,rfl,rfl,trivial⟩ ⟨by rw [hpw,hst];rfl,by rw [hpw];rfl,rfl,rfl,rfl,rfl,rfl,trivial⟩
     ·refine Yx<|Zu<|Zu<|Nc<|Za<|Zc<|Zc<|Zg<|dt (Xk J J Zgf J Zf7 J J)<|dt (Xk J J Zjl J Gj J J)<|dt (Pr (i:=4) J J J Ai J)<|dt (Xo J J J)<|Zf<|Za<|Zr J (fun h198=>?_) (fun h198=>?_)
      ·exfalso;simp_all
      ·refine Zj<|Za<|Zc<|Zg<|dt (Yb (i:=97) J J J Qg Ye J J)<|tt (Zn (i:=3) J J J J J (by decide) J Ye J J ⟨Zb J,Zb J,trivial⟩ J hw trivial) J fun _ _=>as_ J<|Zf<|Za<|Zt ?_
       obtain rfl:k=0:=by omega
       have hE:¬Ka xs x y:=fun h=>by have:=h.2;omega
       exact Yl (.inl J) hsc () _ (fun a w hs=>Ns hs results186 (Yp (i:=3) J J Qg Ye J) J) (by unfold evv eve;rw [if_neg hE,if_neg hE,←Zm3]<;>rfl) trivial J Zk
theorem Zj8(v:Value)(xs:List Int)(x y:Int)(hv:Vp xs)(hx:bl x.natAbs≤65536)(hy:bl y.natAbs≤65536)(hy0:0<y):Mv prog 164 #[v,rX x y] [slp 2 wv v xs] (.tuple #[.int .i64 (evv xs x y).sign,.int .i64 (eve xs x y)]):=by
 refine Yd func164 J ntmps164 J K1 ?_
 intro w0 sc hw hsc
 simp only [Zq,Zp]
 have hlen:=hv.len
 exact Zc<|Zg<|tt (Xa (i:=2) J J J J J hw) J fun b _=>as_ J<|as_ J<|Zf<|Za<|Zc<|Zg<|mv J<|dt (Yg (i:=2) J J J Xt Yq J J J J)<|tt (Zh (n:=2) (Zqv _ _ _ _ hv hx hy hy0) J J J K2 call186 (Zd 1 J J J Ze) J hw) J fun _ _=>mv J<|dt (Ya J J J)<|dt (Ya J J J)<|tt (Zl (i:=3) J J zeroValue31 J J hw) J fun b_2 _=>tt (Zn (i:=3) J J J J J (by decide) J Ye J J ⟨Zb J,Zb J,trivial⟩ J hw trivial) J fun _ _=>as_ J<|Zf<|Za<|Zc<|Zg<|dt (Yb (i:=3) J J J Qg Ye J J)<|tt (Zh (n:=3) (Mg _ (evv_bl hlen)) J J J K1 call104 Ze J hw) J fun _ _=>mv J<|as_ J<|as_ J<|Zf<|Za<|Zt<|Yl (.inl J) hsc () _ (fun a w hs=>Ns hs results164 J J) J trivial J Zk
theorem Zao(bd:Nat)(v:Value)(xs:List Int)(hs:Sz 65536 xs):Zo5 prog 154 #[.pointer (some ⟨bd,0,none⟩),v] [slp 2 wv v xs] true bd 167 #[.int .i64 0] (G:=Unit) (fun _=>True) (fun _=> .tuple #[Fl v (tzl xs).length,.int .i64 0]) (fun _=>#[.int .i64 0]) (fun _=>[slp 2 wv (Fl v (tzl xs).length) (tzl xs)]):=by
 refine Zbo func154 J ntmps154 J K1 ?_
 intro w0 sc hw hsc
 simp only [Zq,Zp]
 refine Zc<|Zg<|as_ J<|as_ J<|Zf<|Za<|Zc<|Zc<|Zg<|mv J<|dt (Ze5 J J)<|dt (Xk J J Zgf J Zf7 J J)<|dt (Xk J J Zjl J Gj J J)<|dt (Pr (i:=1) J J J Ai J)<|dt (Xo J J J)<|Zf<|Za<|Zr J (fun h43=>?_) (fun h43=>?_)
 ·exfalso;simp_all
 ·exact Zj<|Za<|Zc<|Zg<|mv J<|tt (Zh (n:=3) (Ax _ _ ‹_›) J J J K1 call152 (Zd 2 J J J Ze) J hw) J fun _ _=>as_ J<|as_ J<|Zf<|Za<|Zt<|Zc3 (.inl J) hsc () _ (fun a w hs=>Ns hs results154 J J) J trivial 1 J J J J (Qx 3 J J J Zk)
theorem Zs6(v:Value)(xs:List Int)(hx:xs.length*24≤140737488355328:=by omega):CalO prog 157 #[v] [slp 2 wv v xs] (G:=Value) (fun r=>True) (fun r=>r) (fun r=>osl 2 31 wv r xs):=by
 refine Ztf func157 J ntmps157 J K1 ?_
 intro w0 sc hw hsc
 simp only [Zq,Zp]
 refine Oe (f_nil (i:=1) J Zi) fun hnil=>Zc<|Zg<|as_ J<|Zf<|Za<|Zc<|Zc<|Zg<|mv J<|dt (Zsy J J J (i:=1) J Zi Qi)<|Zf<|Za<|Nn J (fun h357=>?_) (fun h357=>?_)
 ·refine Zc<|Zg<|as_ J<|Zf<|Za<|Zt<|Ys ?_
  obtain rfl:xs=[]:=hnil (by simpa using h357)
  exact Nq (Nt 9 2 31 wv)<|Zlo (.inl J) (.slice none 0 0) _ (fun a w hs=>Np hs results157 J) J trivial J 9 J J J
 ·exact Zj<|Za<|Zc<|Zg<|tt (t_bs0 (i:=2) (enc:=wv) J J J Qi pV J hw) J fun v _=>mv J<|tt (Hw (i:=2) (j:=1) (by_:=24) J J J J J J (by decide) J Zi Qi ti31 J pV J J J (by simp;omega) (by decide) J hw) J fun v_2 _=>as_ J<|Zf<|Za<|Zt<|Zlo (.inl J) _ _ (fun a w hs=>Np hs results157 J) J trivial J 2 J (by rfl) J
theorem Zd1(v:Value)(xs:List Int)(hv:Vp xs):Mv prog 105 #[v] [slp 2 wv v xs] (.tuple #[.int .i64 ((xs.length:Int)-1),.int .i64 0]):=by
 refine Yd func105 J ntmps105 J K1 ?_
 intro w0 sc hw hsc
 simp only [Zq,Zp]
 have hlen:=hv.len
 exact Zc<|Zg<|as_ J<|as_ J<|Zf<|Za<|Zc<|Zc<|Zg<|mv J<|tt (Zh (n:=1) (Xm _ _ ‹_›) J J J K1 Zes (Zd 1 J J J Ze) J hw) J fun _ _=>dt (Yr J J)<|Zf<|Za<|Zw J<|Zj<|Za<|Zc<|Zg<|mv J<|dt (Yc J J (i:=1) J Zi Qi)<|dt (Qo J J J ⟨by omega,by omega⟩)<|as_ J<|as_ J<|Zf<|Za<|Zt<|Yl (.inl J) hsc () _ (fun a w hs=>Ns hs results105 J J) J trivial J Zk
theorem Zio(v:Value)(xs:List Int)(hv:Vp xs):Mv prog 106 #[v] [slp 2 wv v xs] (.tuple #[.int .i64 (msz xs:Int),.int .i64 0]):=by
 refine Yd func106 J ntmps106 J K1 ?_
 intro w0 sc hw hsc
 simp only [Zq,Zp]
 exact Zc<|Zg<|as_ J<|as_ J<|Zf<|Za<|Zc<|Zc<|Zg<|mv J<|tt (Zh (n:=1) (Xm _ _ ‹_›) J J J K1 Zes (Zd 1 J J J Ze) J hw) J fun _ _=>dt (Yr J J)<|Zf<|Za<|Zw J<|Zj<|Za<|Zc<|Zg<|mv J<|tt (Zh (n:=1) (Nl _ _ hv.sz) J J J K1 Af (Zd 1 J J J Ze) J hw) J fun _ _=>as_ J<|as_ J<|Zf<|Za<|Zt<|Yl (.inl J) hsc () _ (fun a w hs=>Ns hs results106 J J) J trivial J Zk
theorem Zle(bd:Nat)(v u:Value)(xs ys:List Int)(hv:Vp xs)(hu:Vp ys)(hz:∀i,bl (cf xs i-cf ys i).natAbs≤65536):Zo5 prog 136 #[v,u,.pointer (some ⟨bd,0,none⟩),.func (.func 137) #[.pointer (some ⟨bd,0,none⟩)] #[]] [slp 2 wv v xs,slp 2 wv u ys] true bd 167 #[.int .i64 0] (G:=Value) (fun r=>True) (fun r=> .tuple #[r,.int .i64 0]) (fun r=>#[.int .i64 0]) (fun r=>[slp 2 wv r (Zoi xs ys)]):=by
 refine Zbo func136 J ntmps136 J K2 ?_
 intro w0 sc hw hsc
 simp only [Zq,Zp]
 have hlen:=hv.len
 have hlen2:=hu.len
 refine Zc<|Zg<|as_ J<|as_ J<|Zf<|Za<|Zc<|Zc<|Zg<|mv J<|tt (Zh (n:=3) (Xm _ _ ‹_›) J J J K1 Zes (Zd 2 J J J Ze) J hw) J fun _ _=>dt (Yr J J)<|mv J<|gdt (Yf J J) J J<|gtt (Zh (n:=3) (Xm _ _ ‹_›) J J J K1 Zes (Zd 3 J J J Ze) J hw) J J J fun _ _=>gdt (Yr J J) J J<|dt (Zo J J J)<|Zf<|Za<|Zw J<|Zj<|Za<|Zc<|Zg<|mv J<|dt (Yc J J (i:=2) J Zi Qi)<|mv J<|dt (Yc J J (i:=3) J Zi Qi)<|dt (Zsw J J J)<|tt (Di (i:=4) (n:=(max xs.length ys.length)) (by_:=24) (enc:=wv) 0 J J J J Qi ti31 J pV.cells pV.pos J J J hw) J fun v _=>as_ J<|Zf<|Za<|Zc<|Zc<|Zg<|mv J<|dt (Yc J J (i:=4) J (Yk pV) Qi)<|mv J<|Zf<|Za<|Zm ?_
 refine Mm [(0,_),(1,_),(2,_),(3,_),(10,_),(29,_)] [(0,_),(1,_),(2,_),(3,_)] (fun(k:Nat)=>[(30,.int .i64 (k:Int))]) (fun(k:Nat)=>[(4,osl 2 31 wv v (fill (max xs.length ys.length) k (fun i=>cf xs i-cf ys i)))]) (fun(k:Nat)=>k≤max xs.length ys.length) (fun(k:Nat)=>max xs.length ys.length-k) 0 (by first | omega | (dsimp only<;>omega)) K7 ⟨by rw [Cd (max xs.length ys.length) (fun i=>cf xs i-cf ys i)];rfl,rfl,rfl,rfl,rfl,trivial⟩ ?_
 rintro k hk
 simp only [CA,NA]
 have hlf:(fill (max xs.length ys.length) k (fun i=>cf xs i-cf ys i)).length=max xs.length ys.length:=Od _ _ _
 refine Zc<|Zg<|dt (Qd J J J)<|Zf<|Za<|Zc<|Zr J (fun h106=>?_) (fun h106=>?_)
 ·try rw [List.length_replicate]at *
  refine Zj<|Za<|Zc<|Zm<|Zc<|Zg<|mv J<|as_ J<|Zf<|Za<|Zc<|Zg<|tt (Zl (i:=5) J J zeroValue31 J J hw) J fun b _=>tt (Zl (i:=6) J J zeroValue31 J J hw) J fun b_2 _=>Zf<|Za<|Dc [(0,_),(1,_),(2,_),(3,_),(10,_),(11,_),(12,_),(13,_),(29,_),(30,_)] [(0,_),(4,_),(1,_),(2,_),(3,_),(6,_)] (fun(_:Unit)=>[]) (fun(_:Unit)=>[(5,box b 31 (wc (cf xs k)))]) (fun(_:Unit)=>True) K10 K6 ?_ ?_
  ·refine Zc<|Zg<|mv J<|mv J<|dt (Yc J J (i:=2) J Zi Qi)<|dt (Qd J J J)<|Zf<|Za<|Zr J (fun h108=>?_) (fun h108=>?_)
   ·exact Zg<|mv J<|mv J<|dt (Xf (ii:=2) J J J J Zi Qi Ye J (by first | omega | (simp only [List.length_set];omega)))<|dt (Xx (ii:=2) 0 J J J Zi pV (by first | omega | (simp only [List.length_set];omega)))<|tt (Zn (i:=5) J J J J J (by decide) J Ye J J ⟨Zb J,Zb J,trivial⟩ J hw trivial) J fun _ _=>Zf<|Qz () trivial K10 ⟨by first | rfl | (rw [Qe (p:=xs) (by omega)];rfl),rfl,rfl,rfl,rfl,rfl,rfl,trivial⟩
   ·exact Zj<|Qz () trivial K10 ⟨by first | rfl | (rw [Qe (p:=xs) (by omega)];rfl),rfl,rfl,rfl,rfl,rfl,rfl,trivial⟩
  ·rintro _ -
   simp only [CA,NA]
   refine Dc [(0,_),(1,_),(2,_),(3,_),(10,_),(11,_),(12,_),(13,_),(29,_),(30,_)] [(0,_),(5,_),(4,_),(1,_),(2,_),(3,_)] (fun(_:Unit)=>[]) (fun(_:Unit)=>[(6,box b_2 31 (wc (cf ys k)))]) (fun(_:Unit)=>True) K10 K6 ?_ ?_
   ·refine Zc<|Zg<|mv J<|mv J<|dt (Yc J J (i:=3) J Zi Qi)<|dt (Qd J J J)<|Zf<|Za<|Zr J (fun h111=>?_) (fun h111=>?_)
    ·exact Zg<|mv J<|mv J<|dt (Xf (ii:=3) J J J J Zi Qi Ye J (by first | omega | (simp only [List.length_set];omega)))<|dt (Xx (ii:=3) 0 J J J Zi pV (by first | omega | (simp only [List.length_set];omega)))<|tt (Zn (i:=6) J J J J J (by decide) J Ye J J ⟨Zb J,Zb J,trivial⟩ J hw trivial) J fun _ _=>Zf<|Qz () trivial K10 ⟨by first | rfl | (rw [Qe (p:=ys) (by omega)];rfl),rfl,rfl,rfl,rfl,rfl,rfl,trivial⟩
    ·exact Zj<|Qz () trivial K10 ⟨by first | rfl | (rw [Qe (p:=ys) (by omega)];rfl),rfl,rfl,rfl,rfl,rfl,rfl,trivial⟩
   ·rintro _ -
    simp only [CA,NA]
    exact Zg<|mv J<|mv J<|mv J<|dt (Yb (i:=5) J J J Qg Ye J J)<|dt (Yb (i:=6) J J J Qg Ye J J)<|tt (Zt9 (n:=6) (i:=1) (fs:=[_]) (vs:=[_,_]) (Zsr _ _ _ (hv.sz _) (hu.sz _) (hz _)) J J J J K2 call137 J (by decide) Ze J hw trivial) J fun _ _=>dt (Xf (ii:=4) (i:=k) J J J J (Yk pV) Qi Ye J (by rw [Od];omega))<|tt (Ih (i:=4) (enc:=wv) _ J J J J J J pV J hw (by decide) (by rw [Od];omega)) J fun _ _=>Zf<|Og<|Za<|Zg<|dt (Yu J J J ⟨by omega,by omega⟩)<|mv J<|Zf<|Xq (k+1) (by first | omega | (dsimp only<;>omega)) (by first | omega | (dsimp only<;>omega)) K7 ⟨by rw [←Zcu (by omega)];rfl,rfl,rfl,rfl,rfl,trivial⟩
 ·try rw [List.length_replicate]at *
  refine Yx<|Zu<|Zu<|Nc<|Za<|Zc ?_
  obtain rfl:k=max xs.length ys.length:=by omega
  exact Xc (Pt 4 J J pV)<|Zg<|mv J<|mv J<|tt (Ob (n:=7) (i:=1) (Zao _ _ _ (by rw [Db];exact Zeb fun i _=>hz i)) J J J K2 call154 J (by decide) (Zd 4 J J J Ze) J hw trivial) J fun _ _=>dt (Ya J J J)<|dt (Ya J J J)<|as_ J<|as_ J<|Zf<|Za<|Zt<|Zc3 (.inl J) hsc _ _ (fun a w hs=>Ns hs results136 J J) J trivial 1 J J J J (Yh 7 J J J (by rw [Db]<;>rfl) Zk)
theorem Zmk(v u:Value)(xs ys:List Int)(hv:Vp xs)(hu:Vp ys)(hz:∀i,bl (cf xs i-cf ys i).natAbs≤65536):Cal prog 85 #[v,u] [slp 2 wv v xs,slp 2 wv u ys] true (G:=Value) (fun r=>True) (fun r=> .tuple #[r,.int .i64 0]) (fun r=>[slp 2 wv r (Zoi xs ys)]):=by
 refine Yd func85 J ntmps85 J K2 ?_
 intro w0 sc hw hsc
 simp only [Zq,Zp]
 exact Zc<|Zg<|as_ J<|as_ J<|Zf<|Za<|Zc<|Zg<|tt (Zl (i:=3) J J zeroValue167 J J hw) J fun b _=>Zf<|Za<|Zc<|Zg<|mv J<|mv J<|dt (d_mkf (vs:=[_]) J K1)<|tt (Ob (n:=4) (i:=3) (Zle _ _ _ _ _ ‹_› ‹_› ‹_›) J J J K4 call136 J (by decide) (Zd 1 J J J (Zd 2 J J J Ze)) J hw trivial) J fun _ _=>dt (Ya J J J)<|dt (Ya J J J)<|as_ J<|as_ J<|Zf<|Za<|Zt<|Yl (.inl J) hsc _ _ (fun a w hs=>Ns hs results85 J J) J trivial J (Qx 4 J J J Zk)
theorem Zu9(v u:Value)(xs ys:List Int)(hv:Vp xs)(hu:Vp ys)(hF:¬Zd9 xs ys):Cal prog 112 #[v,u] [slp 2 wv v xs,slp 2 wv u ys] true (G:=Value) (fun r=>True) (fun r=> .tuple #[r,.int .i64 0]) (fun r=>[slp 2 wv r (Nr xs ys)]):=by
 refine Yd func112 J ntmps112 J K2 ?_
 intro w0 sc hw hsc
 simp only [Zq,Zp]
 have hlen:=hv.len
 have hlen2:=hu.len
 have hm1:=Oo hv.sz
 have hm2:=Oo hu.sz
 refine Zc<|Zg<|as_ J<|as_ J<|Zf<|Za<|Zc<|Zc<|Zg<|mv J<|tt (Zh (n:=2) (Xm _ _ ‹_›) J J J K1 Zes (Zd 1 J J J Ze) J hw) J fun _ _=>dt (Yr J J)<|mv J<|gdt (Yf J J) J J<|gtt (Zh (n:=2) (Xm _ _ ‹_›) J J J K1 Zes (Zd 2 J J J Ze) J hw) J J J fun _ _=>gdt (Yr J J) J J<|dt (Zo J J J)<|Zf<|Za<|Zw J<|Zj<|Za<|Zc<|Zc<|Zg<|mv J<|dt (Yc J J (i:=1) J Zi Qi)<|dt (Pg J J J)<|mv J<|Qp (d:=23) J (fun s136=>?_) (fun s136=>?_)
 ·exact gsk J J J<|gsk J J J<|gsk J J J<|dt (Yi J J J)<|Zf<|Za<|Pd J<|Zc<|Zg<|as_ J<|as_ J<|Zf<|Za<|Zt<|Ys<|Yl (.inl J) hsc _ _ (fun a w hs=>Ns hs results112 J J) J trivial J (My (Cx (p:=xs) (q:=ys) (by first | (left;omega) | (right;omega))) Zk)
 ·refine gdt (Yf J J) J J<|gdt (Yc J J (i:=2) J Zi Qi) J J<|gdt (Pg J J J) J J<|dt (Zo J J J)<|Zf<|Za<|Zr J (fun h136=>?_) (fun h136=>?_)
  ·exact Zc<|Zg<|as_ J<|as_ J<|Zf<|Za<|Zt<|Ys<|Yl (.inl J) hsc _ _ (fun a w hs=>Ns hs results112 J J) J trivial J (My (Cx (p:=xs) (q:=ys) (by first | (left;omega) | (right;omega))) Zk)
  ·have hnx:xs≠[]:=by intro e;subst e;simp_all
   have hny:ys≠[]:=by intro e;subst e;simp_all
   have hlx:0<xs.length:=List.length_pos_iff.2 hnx
   have hly:0<ys.length:=List.length_pos_iff.2 hny
   refine Zj<|Za<|Zc<|Zc<|Zg<|mv J<|dt (Yc J J (i:=1) J Zi Qi)<|mv J<|dt (Yc J J (i:=2) J Zi Qi)<|dt (Yu J J J ⟨by omega,by omega⟩)<|dt (Qo J J J ⟨by omega,by omega⟩)<|dt (Qr J J J)<|mv J<|Qp (d:=35) J (fun s139=>?_) (fun s139=>?_)
   ·exfalso;exact hF ⟨hnx,hny,.inl (by omega)⟩
   ·refine gdt (Yf J J) J J<|gtt (Zh (n:=2) (Nl _ _ (by first | exact hv.sz | exact hu.sz)) J J J K1 Af (Zd 1 J J J Ze) J hw) J J J fun _ _=>gdt (Yf J J) J J<|gtt (Zh (n:=2) (Nl _ _ (by first | exact hv.sz | exact hu.sz)) J J J K1 Af (Zd 2 J J J Ze) J hw) J J J fun _ _=>gdt (Yu J J J ⟨by omega,by omega⟩) J J<|gdt (Yu J J J ⟨by omega,by omega⟩) J J<|gdt (Qr J J J) J J<|dt (Zo J J J)<|Zf<|Za<|Zr J (fun h139=>?_) (fun h139=>?_)
    ·exfalso;exact hF ⟨hnx,hny,by first | (left;omega) | (right;omega)⟩
    ·have hsz:msz xs+msz ys+5≤65536:=by omega
     have hpq:∀i j,bl (cf xs i*cf ys j).natAbs≤65536:=fun i j=>by have:=Qb (cf xs i) (cf ys j);have:=Kn xs i;have:=Kn ys j;omega
     have hac:∀i j t,i<25→bl (Zf6 xs ys i j t).natAbs≤65536:=fun i j t hi=>by have:=bl_acc2 (i:=i) (j:=j) (t:=t) (Kn xs) (Kn ys) (by omega);omega
     have hacc:∀t,bl (acc xs ys xs.length t).natAbs≤65536:=fun t=>by have:=bl_acc (i:=xs.length) (t:=t) (Kn xs) (Kn ys) (by omega);omega
     have hsum:∀i j,i<25→bl (Zf6 xs ys i j (i+j)+cf xs i*cf ys j).natAbs≤65536:=fun i j hi=>by rw [←Ztt];exact hac i (j+1) _ hi
     refine Zj<|Za<|Zc<|Zg<|tt (Zl (i:=3) J J zeroValue167 J J hw) J fun b _=>Zf<|Za<|Zc<|Zg<|mv J<|dt (Yc J J (i:=1) J Zi Qi)<|mv J<|dt (Yc J J (i:=2) J Zi Qi)<|dt (Yu J J J ⟨by omega,by omega⟩)<|dt (Qo J J J ⟨by omega,by omega⟩)<|tt (Di (i:=4) (n:=(xs.length+ys.length-1)) (by_:=24) (enc:=wv) 0 J J J J Qi ti31 J pV.cells pV.pos J J J hw) J fun v _=>as_ J<|Zf<|Za<|Zc<|Zc<|Zg<|mv J<|dt (Yc J J (i:=1) J Zi Qi)<|mv J<|Zf<|Za<|Zm<|Mm [(1,_),(6,_),(7,_),(51,_),(52,_)] [(0,_),(1,_),(2,_),(3,_)] (fun(i:Nat)=>[(53,.int .i64 (i:Int))]) (fun(i:Nat)=>[(4,osl 2 31 wv v (mk (xs.length+ys.length-1) (acc xs ys i)))]) (fun(i:Nat)=>i≤xs.length) (fun(i:Nat)=>xs.length-i) 0 (by first | omega | (dsimp only<;>omega)) K6 ⟨by rw [Zqf];rfl,rfl,rfl,rfl,rfl,trivial⟩ ?_
     rintro i hi
     simp only [CA,NA]
     refine Zc<|Zg<|dt (Qd J J J)<|Zf<|Za<|Zc<|Zr J (fun h144=>?_) (fun h144=>?_)
     ·refine Zj<|Za<|Zc<|Zm<|Zc<|Zg<|mv J<|dt (Xf (ii:=1) J J J J Zi Qi Ye J (by first | omega | (simp only [List.length_set];omega)))<|dt (Xx (ii:=1) 0 J J J Zi pV (by first | omega | (simp only [List.length_set];omega)))<|tt (Zl (i:=5) J J zeroValue31 J J hw) J fun b_2 _=>as_ J<|tt (Zn (i:=5) J J J J J (by decide) J Ye J J ⟨Zb J,Zb J,trivial⟩ J hw trivial) J fun _ _=>Zf<|Za<|Zc<|Zg<|mv J<|dt (Yc J J (i:=2) J Zi Qi)<|mv J<|Zf<|Za<|Zm<|Mm [(1,_),(6,_),(7,_),(8,_),(9,_),(51,_),(52,_),(53,_),(58,_),(59,_)] [(0,_),(1,_),(2,_),(3,_),(5,_)] (fun(j:Nat)=>[(60,.int .i64 (j:Int))]) (fun(j:Nat)=>[(4,osl 2 31 wv v (mk (xs.length+ys.length-1) (Zf6 xs ys i j)))]) (fun(j:Nat)=>j≤ys.length) (fun(j:Nat)=>ys.length-j) 0 (by first | omega | (dsimp only<;>omega)) K11 ⟨by rw [Zts];rfl,rfl,rfl,rfl,rfl,rfl,trivial⟩ ?_
      rintro j hj
      simp only [CA,NA]
      have hgd:i+j<xs.length+ys.length-1→(mk (xs.length+ys.length-1) (Zf6 xs ys i j)).getD (i+j) 0=Zf6 xs ys i j (i+j):=fun h=>Zbg h
      refine Zc<|Zg<|dt (Qd J J J)<|Zf<|Za<|Zc<|Zr J (fun h145=>?_) (fun h145=>?_)
      ·refine Zj<|Za<|Zc<|Zm<|Zc<|Zg<|mv J<|dt (Xf (ii:=2) J J J J Zi Qi Ye J (by first | omega | (simp only [List.length_set];omega)))<|dt (Xx (ii:=2) 0 J J J Zi pV (by first | omega | (simp only [List.length_set];omega)))<|tt (Zl (i:=6) J J zeroValue31 J J hw) J fun b_3 _=>as_ J<|tt (Zn (i:=6) J J J J J (by decide) J Ye J J ⟨Zb J,Zb J,trivial⟩ J hw trivial) J fun _ _=>Zf<|Za<|Qf (fun x=>x=b) [(0,0),(1,0),(2,0),(3,0),(4,0),(5,0),(6,0),(7,0),(8,0),(9,0),(10,0),(11,0),(12,1),(13,1),(14,0),(15,3)] ?_ ?_
       ·kernel_rfl
       refine r0' J J (st1 3 J (Yf J J))<|r0' J J (st1 3 J (Yf J J))<|r0' J J (st1 3 J (Yf J J))<|r0' J J (st1 3 J (Yu J J J ⟨by omega,by omega⟩))<|r0' J J (st1 3 J (Yf J J))<|r0' J J (st1 3 J (Yf J J))<|r0' J J (st1 3 J (Yf J J))<|r0' J J (st1 3 J (Yu J J J ⟨by omega,by omega⟩))<|r0' J J (st1 3 J (Xf (ii:=4) (i:=(i+j)) J J J J (Yk pV) Qi Ye (by omega) (by rw [Xi];omega)))<|r0' J J (st1 3 J (Xx (ii:=4) 0 J J J (Yk pV) pV (by rw [Xi];omega)))<|r0' J J (st1 3 J (Yb (i:=5) J J J Qg Ye J J))<|r0' J J (st1 3 J (Yb (i:=6) J J J Qg Ye J J))<|r1' J (Ob (n:=6) (i:=3) (Eg _ _ _ (hv.sz _) (hu.sz _) (hpq i j)) J J J K3 call153 J (by decide) Ze J hw J) fun _ _=>r1' J (Ob (n:=6) (i:=3) (Znf _ _ _ (by rw [hgd (by omega)];exact hac i j _ (by omega)) (hpq i j) (by rw [hgd (by omega)];exact hsum i j (by omega))) J J J K3 call159 J (by decide) Ze J hw J) fun _ _=>r0' J J (st1 3 J (Xf (ii:=4) (i:=(i+j)) J J J J (Yk pV) Qi Ye (by omega) (by rw [Xi];omega)))<|r3' J (Ih (i:=4) (enc:=wv) _ J J J J J J pV J hw (by decide) (by rw [Xi];omega)) fun _ _=>Py<|Og<|Za<|Zg<|dt (Yu J J J ⟨by omega,by omega⟩)<|mv J<|Zf ?_
       exact Xq (j+1) (by first | omega | (dsimp only<;>omega)) (by first | omega | (dsimp only<;>omega)) K11 ⟨by rw [←Zwr (by omega),←hgd (by omega)];rfl,rfl,rfl,rfl,rfl,rfl,trivial⟩
      ·refine Yx<|Zu<|Zu<|Nc<|Og<|Za<|Zg<|dt (Yu J J J ⟨by omega,by omega⟩)<|mv J<|Zf ?_
       obtain rfl:j=ys.length:=by omega
       exact Xq (i+1) (by first | omega | (dsimp only<;>omega)) (by first | omega | (dsimp only<;>omega)) K6 ⟨by rw [←Zws];rfl,rfl,rfl,rfl,rfl,trivial⟩
     ·refine Yx<|Zu<|Zu<|Nc<|Za<|Zc ?_
      obtain rfl:i=xs.length:=by omega
      exact Xc (Pt 4 J J pV)<|Zg<|mv J<|tt (Ob (n:=7) (i:=3) (Zao _ _ _ (Zeb fun t _=>hacc t)) J J J K2 call154 J (by decide) (Zd 4 J J J Ze) J hw trivial) J fun _ _=>dt (Ya J J J)<|dt (Ya J J J)<|as_ J<|as_ J<|Zf<|Za<|Zt<|Yl (.inl J) hsc _ _ (fun a w hs=>Ns hs results112 J J) J trivial J (Yh 7 J J J (by rw [Zvc]<;>rfl) Zk)
end Go.Sky

