/- rules, arithmetic and contracts: part 14
   Proved without conditions of its own: each theorem bears its own. -/
import Derived.Test.YtcmiiammekgooaaGreatSd03
import Derived.Test.YtcmiiammekgooaaGreatSd02
import Derived.Test.YtcmiiammekgooaaGreatSd01
import Derived.Test.YtcmiiammekgooaaGreatSd12
set_option linter.all false
namespace Go.Sky
open Go.Proofs.Tryz
open Go.Proofs
set_option maxRecDepth 20000
set_option maxHeartbeats 4000000
set_option linter.unusedSimpArgs false
theorem Zj3(v:Value)(xs:List Int)(hs:Sz 1000000 xs)(hl:xs.length≤1000):Cal prog 16 #[v] [slp 2 wv v xs] true (G:=Value×List (Int×SL)) (fun r=>Oz r.2=xs) (fun r=>r.1) (fun r=>[pp r.1 r.2]):=by
 refine Yd func16 J ntmps16 J K1 ?_
 intro w0 sc hw hsc
 simp only [Zq,Zp]
 refine Zc<|Zg<|as_ J<|Zf<|Za<|Zc<|Zg<|as_ J<|Zf<|Za<|Zc<|Zc<|Zg<|as_ J<|Zf<|Za<|Zm<|Xc (Nt 70 2 48 Zk3)<|Xc (Ij qI 71)<|Mm [(0,_)] [(0,_),(1,_)] (fun(q:Nat×Value×List (Int×SL))=>[(4,.int .i64 (q.1:Int)),(3,q.2.1)]) (fun(q:Nat×Value×List (Int×SL))=>[(70,osl 2 48 Zk3 q.2.1 q.2.2),(71,Zkn qI q.2.2)]) (fun(q:Nat×Value×List (Int×SL))=>(q.1≤xs.length)∧(Oz q.2.2=xs.take q.1)∧(q.2.2.length=q.1)) (fun(q:Nat×Value×List (Int×SL))=>xs.length-q.1) (0,.slice none 0 0,[]) ⟨by first | omega | (dsimp only<;>omega),rfl,rfl⟩ K3 K4 ?_
 rintro⟨i,vo,zs⟩ ⟨hi,hz,hzl⟩
 dsimp only at hi hz hzl
 simp only [CA,NA]
 refine Zc<|Zc<|Zg<|mv J<|mv J<|dt (Yc J J (i:=1) J Zi Qi)<|dt (Qd J J J)<|Zf<|Za<|Zr J (fun h41=>?_) (fun h41=>?_)
 ·refine Zj<|Za<|Zc<|Zm<|Zg<|mv J<|mv J<|mv J<|dt (Xf (ii:=1) J J J J Zi Qi Ye J (by first | omega | (simp only [List.length_set];omega)))<|dt (Xx (ii:=1) 0 J J J Zi pV (by first | omega | (simp only [List.length_set];omega)))<|tt (Zh (n:=2) (Zql _ (by have:=hs.getD i;omega)) J J J K1 call30 Ze J hw) J fun v _=>l_ex (Mb 2 J Zi) (fun sl hsl=>?_)
  subst hsl
  exact tt (Ps (i:=3) (ivs:=[(0,_)]) (enc:=Zk3) [(xs.getD i 0,sl)] J J K2 Zbu ti48 J J J J J pI.cells J J hw) J fun v_2 _=>tt (Hw (i:=70) (j:=3) (by_:=32) J J J J J J (by decide) J (Yk pI) Zbu ti48 J pI J J J (by simp;omega) (by decide) J hw) J fun v_3 _=>as_ J<|Zf<|Og<|Za<|Zg<|mv J<|dt (Yu J J J ⟨by omega,by omega⟩)<|as_ J<|Zf<|Nq (Ki (q:=qI) (z:=(xs.getD i 0,sl)) 71 2 71 J J J J J)<|Xq (i+1,_,zs ++ [(xs.getD i 0,sl)]) ⟨by first | omega | (dsimp only<;>omega),by rw [On 0 _ _ (by omega),←hz];simp [Oz],by simp [hzl]⟩ (by first | omega | (dsimp only<;>omega)) K3 K4
 ·exact Yx<|Zu<|Zu<|Nc<|Za<|Zc<|Xc (Pt 70 J J pI)<|Xc (Em 70 71 72 J J J J)<|Zg<|mv J<|as_ J<|Zf<|Za<|Zt<|Yl (.inl J) hsc (_,zs) _ (fun a w hs=>Np hs results16 J) J (by rw [hz,List.take_of_length_le (by omega)]) J (Qx 72 J J J Zk)
theorem Eo(v:Value)(zs:List (Int×SL))(hs:Sz 1000000 (Oz zs))(hl:zs.length≤1000):Cal prog 18 #[v] [pp v zs] false (G:=Value) (fun r=>True) (fun r=>r) (fun r=>[slp 2 wv r (Oz zs)]):=by
 refine Yd func18 J ntmps18 J K1 ?_
 intro w0 sc hw hsc
 simp only [Zq,Zp]
 have hli:=Yz zs
 refine Zc<|Zg<|as_ J<|Zf<|Za<|Zc<|Zg<|as_ J<|Zf<|Za<|Zc<|Zc<|Zg<|as_ J<|Zf<|Za<|Zm<|Xc (Nt 70 2 31 wv)<|Mm [(0,_)] [(0,_),(1,_)] (fun(q:Nat×Value)=>[(4,.int .i64 (q.1:Int)),(3,q.2)]) (fun(q:Nat×Value)=>[(70,osl 2 31 wv q.2 ((Oz zs).take q.1))]) (fun(q:Nat×Value)=>q.1≤zs.length) (fun(q:Nat×Value)=>zs.length-q.1) (0,.slice none 0 0) (by first | omega | (dsimp only<;>omega)) K3 K3 ?_
 rintro⟨i,vo⟩ hi
 dsimp only at hi
 simp only [CA,NA]
 have htl:((Oz zs).take i).length=i:=by rw [List.length_take];omega
 have hci:=Zeq zs i
 refine Zc<|Zc<|Zg<|mv J<|mv J<|dt (Yc J J (i:=1) J Xl Zbu)<|dt (Qd J J J)<|Zf<|Za<|Zr J (fun h50=>?_) (fun h50=>?_)
 ·exact Zj<|Za<|Zc<|Zm<|Zg<|mv J<|mv J<|mv J<|dt (Xf (ii:=1) J J J J Xl Zbu Kd J (by first | omega | (simp only [List.length_set];omega)))<|dt (Xx (ii:=1) I0 J J J Xl pI (by first | omega | (simp only [List.length_set];omega)))<|tt (Zh (n:=1) (r_to _ _ (by rw [hci];have:=hs i;omega)) J J J K1 call53 (Zqs 1 J J (Pu) Ze) J hw) J fun _ _=>tt (Ps (i:=2) (ivs:=[(0,_)]) (enc:=wv) [(zs.getD i I0).1] J J K2 Qi ti31 J J J J J pV.cells J J hw) J fun v _=>tt (Hw (i:=70) (j:=2) (by_:=24) J J J J J J (by decide) J (Yk pV) Qi ti31 J pV J J J (by simp;omega) (by decide) J hw) J fun v_2 _=>as_ J<|Zf<|Og<|Za<|Zg<|mv J<|dt (Yu J J J ⟨by omega,by omega⟩)<|as_ J<|Zf<|Xq (i+1,_) (by first | omega | (dsimp only<;>omega)) (by first | omega | (dsimp only<;>omega)) K3 ⟨by rw [On 0 _ _ (by omega),show(Oz zs).getD i 0=(zs.getD i I0).1 from hci.symm];rfl,rfl,rfl,trivial⟩
 ·exact Yx<|Zu<|Zu<|Nc<|Za<|Zc<|Zg<|mv J<|as_ J<|Zf<|Za<|Zt<|Yl (.inl J) hsc _ _ (fun a w hs=>Np hs results18 J) J trivial J (Pq 70 J J pV (List.take_of_length_le (by omega)) Zk)
theorem Zj2(v:Value)(zs:List (Int×SL))(hs:Sz 3000000000 (Oz zs)):Cal prog 89 #[v] [pp v zs] true (G:=Value×List (Int×SL)) (fun r=>Oz r.2=tzl (Oz zs)) (fun r=>r.1) (fun r=>[pp r.1 r.2]):=by
 refine Yd func89 J ntmps89 J K1 ?_
 intro w0 sc hw hsc
 simp only [Zq,Zp]
 refine Oe (Zkz (i:=1) J) fun hself=>Oe (Lu (i:=1) J Xl) (fun hlen=>?_)
 have hli:=Yz zs
 refine Zc<|Zg<|as_ J<|Zf<|Za<|Zc<|Zm<|Mm [] [(0,_)] (fun(k:Nat)=>[(0,Fl v k)]) (fun(k:Nat)=>[(1,pp (Fl v k) (zs.take k))]) (fun(k:Nat)=>(k≤zs.length)∧(tzl ((Oz zs).take k)=tzl (Oz zs))) (fun(k:Nat)=>k) zs.length ⟨Nat.le_refl _,by rw [List.take_of_length_le (by omega)]⟩ ⟨by rw [hself];rfl,trivial⟩ ⟨by rw [hself,List.take_length];rfl,rfl,trivial⟩ ?_
 rintro k ⟨hk,ht⟩
 simp only [CA,NA]
 have hl:(zs.take k).length=k:=by rw [List.length_take];omega
 have hce:((zs.take k).getD (k-1) I0).1=((Oz zs).take k).getD (k-1) 0:=by rw [Zeq,Zdc];rfl
 refine Zc<|Zc<|Zg<|mv J<|dt (Yc J J (i:=1) J Xl Zbu)<|dt (Qr J J J)<|mv J<|Qp (d:=6) J (fun s22=>?_) (fun s22=>?_)
 ·refine gdt (Yf J J) J J<|gdt (Yf J J) J J<|gdt (Yc J J (i:=1) J Xl Zbu) J J<|gdt (Qo J J J ⟨by omega,by omega⟩) J J<|gdt (Xf (ii:=1) (i:=k-1) J J J J Xl Zbu Kd) J J<|gdt (Xx (ii:=1) I0 J J J Xl pI) J J<|gtt (Zh (n:=1) (Zqi _ _ (by rw [hce];exact(hs.take _).getD _)) J J J K1 call72 (Zqs 1 J J (Pu) Ze) J hw) J J J fun _ _=>gdt (Pg J J J) J J<|dt (Yi J J J)<|Zf<|Za<|Zr J (fun h22=>?_) (fun h22=>?_)
  ·rw [hce]at h22
   have hstep:=Zlw (xs:=Oz zs) (k:=k) (by omega) (by omega) (Zfe (k:=k) (by omega) (Int.sign_eq_zero_iff_zero.1 h22))
   exact Zj<|Za<|Zm<|Zg<|mv J<|mv J<|dt (Yc J J (i:=1) J Xl Zbu)<|dt (Qo J J J ⟨by omega,by omega⟩)<|dt (Zwf (ii:=1) (i:=k-1) J J J J Xl Zbu Kd)<|as_ J<|Zf<|Og<|Nq (Zp7 1 1 (k-1) J J (by omega))<|Xq (k-1) ⟨by first | omega | (dsimp only<;>omega),by rw [←ht,←hstep]⟩ (by first | omega | (dsimp only<;>omega)) ⟨by rw [←Ha v k (k-1)];rfl,trivial⟩ ⟨by rw [Ha,List.take_take,Nat.min_eq_left (by omega)];rfl,rfl,trivial⟩
  ·try rw [hce]at h22
   exact Yx<|Zu<|Zu<|Nc<|Za<|Zc<|Zg<|mv J<|as_ J<|Zf<|Za<|Zt<|Yl (.inl J) hsc (_,zs.take k) _ (fun a w hs=>Np hs results89 J) J (by rw [Zdc,←ht];exact(Zcj (by omega) (by first | (left;omega) | (right;exact Zck (k:=k) (by omega) ‹_›))).symm) J (Qx 1 J J J Zk)
 ·exact gsk J J J<|gsk J J J<|gsk J J J<|gsk J J J<|gsk J J J<|gsk J J J<|gsk J J J<|gsk J J J<|dt (Zo J J J)<|Zf<|Za<|Zw J<|Yx<|Zu<|Zu<|Nc<|Za<|Zc<|Zg<|mv J<|as_ J<|Zf<|Za<|Zt<|Yl (.inl J) hsc (_,zs.take k) _ (fun a w hs=>Np hs results89 J) J (by rw [Zdc,←ht];exact(Zcj (by omega) (by first | (left;omega) | (right;exact Zck (k:=k) (by omega) ‹_›))).symm) J (Qx 1 J J J Zk)
theorem rp_nums(v:Value)(l:List Int)(hl:∀x∈l,inI x)(hlen:l.length≤1000):Cal prog 102 #[v] [slp 1 Zb6 v l] true (G:=Value×List (Int×SL)) (fun r=>Oz r.2=tzl l) (fun r=>r.1) (fun r=>[pp r.1 r.2]):=by
 refine Yd func102 J ntmps102 J K1 ?_
 intro w0 sc hw hsc
 simp only [Zq,Zp]
 have hsz:=Zdf hl
 refine Zc<|Zg<|as_ J<|Zf<|Za<|Zc<|Zg<|as_ J<|Zf<|Za<|Zc<|Zc<|Zg<|as_ J<|Zf<|Za<|Zm<|Xc (Nt 70 2 48 Zk3)<|Xc (Ij qI 71)<|Mm [(0,_)] [(0,_),(1,_)] (fun(q:Nat×Value×List (Int×SL))=>[(4,.int .i64 (q.1:Int)),(3,q.2.1)]) (fun(q:Nat×Value×List (Int×SL))=>[(70,osl 2 48 Zk3 q.2.1 q.2.2),(71,Zkn qI q.2.2)]) (fun(q:Nat×Value×List (Int×SL))=>(q.1≤l.length)∧(Oz q.2.2=mk q.1 (cf l))∧(q.2.2.length=q.1)) (fun(q:Nat×Value×List (Int×SL))=>l.length-q.1) (0,.slice none 0 0,[]) ⟨by first | omega | (dsimp only<;>omega),rfl,rfl⟩ K3 K4 ?_
 rintro⟨i,vo,ws⟩ ⟨hi,hz,hzl⟩
 dsimp only at hi hz hzl
 simp only [CA,NA]
 refine Zc<|Zc<|Zg<|mv J<|mv J<|dt (Yc J J (i:=1) J Zi Lc)<|dt (Qd J J J)<|Zf<|Za<|Zr J (fun h59=>?_) (fun h59=>?_)
 ·refine Zj<|Za<|Zc<|Zm<|Zg<|mv J<|mv J<|mv J<|dt (Xf (ii:=1) J J J J Zi Lc zT3 J (by first | omega | (simp only [List.length_set];omega)))<|dt (Xx (ii:=1) 0 J J J Zi pZ (by first | omega | (simp only [List.length_set];omega)))<|tt (Zh (n:=2) (r_num _ (hl _ (Pu))) J J J K1 call34 Ze J hw) J fun v _=>l_ex (Mb 2 J Zi) (fun sl hsl=>?_)
  subst hsl
  exact tt (Ps (i:=3) (ivs:=[(0,_)]) (enc:=Zk3) [(l.getD i 0,sl)] J J K2 Zbu ti48 J J J J J pI.cells J J hw) J fun v_2 _=>tt (Hw (i:=70) (j:=3) (by_:=32) J J J J J J (by decide) J (Yk pI) Zbu ti48 J pI J J J (by simp;omega) (by decide) J hw) J fun v_3 _=>as_ J<|Zf<|Og<|Za<|Zg<|mv J<|dt (Yu J J J ⟨by omega,by omega⟩)<|as_ J<|Zf<|Nq (Ki (q:=qI) (z:=(l.getD i 0,sl)) 71 2 71 J J J J J)<|Xq (i+1,_,ws ++ [(l.getD i 0,sl)]) ⟨by first | omega | (dsimp only<;>omega),by rw [Zef,Zkm,hz];dsimp only;rfl,by simp [hzl]⟩ (by first | omega | (dsimp only<;>omega)) K3 K4
 ·exact Yx<|Zu<|Zu<|Nc<|Za<|Zc<|Xc (Pt 70 J J pI)<|Xc (Em 70 71 72 J J J J)<|Zg<|mv J<|tt (Zh (n:=4) (Zj2 _ _ (by rw [hz];exact Zeb fun t ht=>by have:=hsz t;omega)) J J J K1 call89 (Zd 72 J J J Ze) J hw) J fun g hg=>as_ J<|Zf<|Za<|Zt<|Yl (.inl J) hsc _ _ (fun a w hs=>Np hs results102 J) J (by rw [hg,hz,show i=l.length by omega,Zhb]) J (Qx 4 J J J Zk)
theorem Zuz(v:Value)(zs:List (Int×SL))(j:Int)(i:Nat)(hj:j=(i:Int):=by omega)(hi:i≤1000000:=by omega):Cal prog 101 #[v,.int .i64 j] [pp v zs] true (G:=Value) (fun r=>True) (fun r=> .agg #[.bool (decide (cf (Oz zs) i<0)),r]) (fun r=>[d9p r (cf (Oz zs) i).natAbs]):=by
 refine Yd func101 J ntmps101 J K1 ?_
 intro w0 sc hw hsc
 simp only [Zq,Zp]
 have hli:=Yz zs
 refine Oe (Lu (i:=1) J Xl) fun hlen=>Xc (Nt 60 1 3 Ab)<|Xc (Pt 60 J J pN)<|Zc<|Zg<|tt (Zl (i:=2) J J zeroValue48 J J hw) J fun b _=>Zf<|Za<|Zc<|Zc<|Zg<|mv J<|dt (Qd J J J)<|mv J<|Qp (d:=7) J (fun s91=>?_) (fun s91=>?_)
 ·exfalso;omega
 ·refine gdt (Yf J J) J J<|gdt (Yf J J) J J<|gdt (Yc J J (i:=1) J Xl Zbu) J J<|gdt (Kj J J J) J J<|dt (Zo J J J)<|Zf<|Za<|Zr J (fun h91=>?_) (fun h91=>?_)
  ·refine Zc<|Zg<|dt (Oh (ivs:=[]) J trivial (fun a w hs=>b48_))<|tt (Zn (i:=2) J J J J J (by decide) J Kd J J ⟨Zb J,Zb J,trivial⟩ J hw trivial) J fun _ _=>Zf<|Za<|Zt<|Ys ?_
   have hz0:cf (Oz zs) i=0:=Qe (by omega)
   exact Yl (.inl J) hsc (.slice none 0 0) _ (fun a w hs=>Np hs results101 (Yp (i:=2) J J Bp Kd J)) (by rw [hz0]<;>rfl) trivial J (My (by rw [hz0];rfl) Zk)
  ·exact Zj<|Za<|Zc<|Zg<|mv J<|mv J<|dt (Xf (ii:=1) (i:=i) J J J J Xl Zbu Kd hj)<|dt (Xx (ii:=1) I0 J J J Xl pI)<|tt (Zn (i:=2) J J J J J (by decide) J Kd J J ⟨Zb J,Zb J,trivial⟩ J hw trivial) J fun _ _=>Zf<|Za<|Zt<|Yl (.inl J) hsc _ _ (fun a w hs=>Np hs results101 (Yp (i:=2) J J Bp Kd J)) (by rw [←Zeq]<;>rfl) trivial J (give_dI 1 J J (Pu (i:=i)) (by rw [←Zeq]<;>rfl) Zk)
theorem Zma(v u:Value)(zs ys:List (Int×SL))(hs:Sz 1000000 (Oz zs))(ht:Sz 1000000 (Oz ys))(hl:zs.length≤1000:=by omega)(hk:ys.length≤1000:=by omega):Cal prog 43 #[v,u] [pp v zs,pp u ys] true (G:=Value×List (Int×SL)) (fun r=>Oz r.2=Zon (Oz zs) (Oz ys)) (fun r=>r.1) (fun r=>[pp r.1 r.2]):=by
 refine Yd func43 J ntmps43 J K2 ?_
 intro w0 sc hw hsc
 simp only [Zq,Zp]
 have hli:=Yz zs
 have hli2:=Yz ys
 refine Oe (Lu (i:=1) J Xl) fun hlen=>Oe (Lu (i:=2) J Xl) fun hlen2=>Zc<|Zg<|as_ J<|Zf<|Za<|Zc<|Zg<|as_ J<|Zf<|Za<|Zc<|Zc<|Zg<|as_ J<|Zf<|Za<|Zm<|Xc (Nt 70 2 48 Zk3)<|Xc (Ij qI 71)<|Mm [(0,_),(1,_)] [(0,_),(1,_),(2,_)] (fun(q:Nat×Value×List (Int×SL))=>[(6,.int .i64 (q.1:Int)),(5,q.2.1)]) (fun(q:Nat×Value×List (Int×SL))=>[(70,osl 2 48 Zk3 q.2.1 q.2.2),(71,Zkn qI q.2.2)]) (fun(q:Nat×Value×List (Int×SL))=>(q.1≤(max zs.length ys.length))∧(Oz q.2.2=mk q.1 (fun t=>cf (Oz zs) t+cf (Oz ys) t))∧(q.2.2.length=q.1)) (fun(q:Nat×Value×List (Int×SL))=>(max zs.length ys.length)-q.1) (0,.slice none 0 0,[]) ⟨by first | omega | (dsimp only<;>omega),rfl,rfl⟩ K4 K5 ?_
 rintro⟨i,vo,ws⟩ ⟨hi,hz,hzl⟩
 dsimp only at hi hz hzl
 simp only [CA,NA]
 refine Zc<|Dc [(0,_),(1,_),(5,_),(6,_)] [(0,_),(70,_),(71,_),(1,_),(2,_)] (fun(_:Unit)=>[(16,.bool (decide (i<max zs.length ys.length)))]) (fun(_:Unit)=>[]) (fun(_:Unit)=>True) K4 K5 ?_ ?_
 ·refine Zg<|mv J<|mv J<|dt (Yc J J (i:=1) J Xl Zbu)<|dt (Qd J J J)<|mv J<|Qp (d:=11) J (fun s100=>?_) (fun s100=>?_)
  ·exact gsk J J J<|gsk J J J<|gsk J J J<|gsk J J J<|dt (Yi J J J)<|Zf<|Qz () trivial ⟨by first | exact congrArg some (congrArg Value.bool (decide_eq_decide.2 (by omega))) | exact congrArg some (congrArg Value.bool (decide_eq_true (by omega)).symm),rfl,rfl,rfl,rfl,trivial⟩ K5
  ·exact gdt (Yf J J) J J<|gdt (Yf J J) J J<|gdt (Yc J J (i:=2) J Xl Zbu) J J<|gdt (Qd J J J) J J<|dt (Zo J J J)<|Zf<|Qz () trivial ⟨by first | exact congrArg some (congrArg Value.bool (decide_eq_decide.2 (by omega))) | exact congrArg some (congrArg Value.bool (decide_eq_true (by omega)).symm),rfl,rfl,rfl,rfl,trivial⟩ K5
 ·rintro _ -
  simp only [CA,NA]
  refine Zr J (fun h100=>?_) (fun h100=>?_)
  ·refine Zj<|Za<|Zc<|Zm<|Zg<|mv J<|mv J<|mv J<|tt (Zh (n:=3) (Zuz _ _ _ i J) J J J K2 call101 (Zd 1 J J J Ze) J hw) J fun v _=>mv J<|mv J<|tt (Zh (n:=4) (Zuz _ _ _ i J) J J J K2 call101 (Zd 2 J J J Ze) J hw) J fun v_2 _=>tt (Zh (n:=5) (Zu3 _ _ _ _ (by have:=hs i;omega) (by have:=ht i;omega)) J J J K2 call37 (Zd 3 J J J (Zd 4 J J J Ze)) J hw) J fun v_3 _=>l_ex (Mb 5 J Zi) (fun sl hsl=>?_)
   subst hsl
   exact tt (Ps (i:=6) (ivs:=[(0,_)]) (enc:=Zk3) [(cf (Oz zs) i+cf (Oz ys) i,sl)] J J K2 Zbu ti48 J J J J J pI.cells J J hw) J fun v_4 _=>tt (Hw (i:=70) (j:=6) (by_:=32) J J J J J J (by decide) J (Yk pI) Zbu ti48 J pI J J J (by simp;omega) (by decide) J hw) J fun v_5 _=>as_ J<|Zf<|Og<|Za<|Zg<|mv J<|dt (Yu J J J ⟨by omega,by omega⟩)<|as_ J<|Zf<|Nq (Ki (q:=qI) (z:=(cf (Oz zs) i+cf (Oz ys) i,sl)) 71 5 71 J J J J J)<|Xq (i+1,_,ws ++ [(cf (Oz zs) i+cf (Oz ys) i,sl)]) ⟨by first | omega | (dsimp only<;>omega),by rw [Zef,Zkm,hz],by simp [hzl]⟩ (by first | omega | (dsimp only<;>omega)) K4 K5
  ·exact Yx<|Zu<|Zu<|Nc<|Za<|Zc<|Xc (Pt 70 J J pI)<|Xc (Em 70 71 72 J J J J)<|Zg<|mv J<|tt (Zh (n:=7) (Zj2 _ _ (by rw [hz];exact Zeb fun t h=>by have:=Lv (cf (Oz zs) t) (cf (Oz ys) t);have:=hs t;have:=ht t;omega)) J J J K1 call89 (Zd 72 J J J Ze) J hw) J fun g hg=>as_ J<|Zf<|Za<|Zt<|Yl (.inl J) hsc _ _ (fun a w hs=>Np hs results43 J) J (by rw [hg,hz,show i=max (Oz zs).length (Oz ys).length by omega,padd_mk]) J (Qx 7 J J J Zk)
theorem Zl9(v:Value)(x:Int)(j:Int)(n:Nat)(hx:bl x.natAbs≤1000000)(hj:j=(n:Int):=by omega)(hn:n≤100:=by omega):Cal prog 165 #[.agg #[.bool (decide (x<0)),v],.int .i64 j] [d9p v x.natAbs] true (G:=Value) (fun r=>True) (fun r=> .agg #[.bool (decide (x^n<0)),r]) (fun r=>[d9p r (x^n).natAbs]):=by
 refine Yd func165 J ntmps165 J K1 ?_
 intro w0 sc hw hsc
 simp only [Zq,Zp]
 have hpb:=fun k=>Zde hx k
 refine Zc<|Zg<|tt (Xa (i:=2) J J J J J hw) J fun b _=>tt (Zl (i:=3) J J zeroValue48 J J hw) J fun b_2 _=>Zf<|Za<|Zc<|Zg<|tt (Zh (n:=98) (r_num 1 ⟨by omega,by omega⟩) J J J K1 call34 Ze J hw) J fun v _=>tt (Zl (i:=97) J J zeroValue48 J J hw) J fun b_3 _=>tt (Zn (i:=97) J J J J J (by decide) J Kd J J ⟨Zb J,Zx (i:=98) J Zi,trivial⟩ J hw trivial) J fun _ _=>Zf<|Za<|Zc<|Zc<|Zg<|as_ J<|Zf<|Za<|Zm<|Mm [(1,_),(2,_),(4,_),(5,_)] [(0,_),(1,_),(2,_),(3,_)] (fun(q:Nat×Value)=>[(6,.int .i64 (q.1:Int))]) (fun(q:Nat×Value)=>[(97,box b_3 48 #[.bool (decide (x^q.1<0)),q.2]),(98,d9p q.2 (x^q.1).natAbs)]) (fun(q:Nat×Value)=>q.1≤n) (fun(q:Nat×Value)=>n-q.1) (0,_) (by first | omega | (dsimp only<;>omega)) K5 ⟨by rw [Int.pow_zero];rfl,by rw [Int.pow_zero];rfl,rfl,rfl,rfl,rfl,trivial⟩ ?_
 rintro⟨i,vs⟩ hi
 dsimp only at hi
 simp only [CA,NA]
 have hp1:=hpb i
 have hp2:i*1000000≤100*1000000:=Nat.mul_le_mul_right _ (by omega)
 refine Zc<|Zc<|Zg<|mv J<|mv J<|dt (Qd J J J)<|Zf<|Za<|Zr J (fun h149=>?_) (fun h149=>?_)
 ·exact Zj<|Za<|Zc<|Zm<|Zg<|dt (Yb (i:=97) J J J Bp Kd J J)<|dt (Yb (i:=2) J J J Bp Kd J J)<|tt (Zh (n:=4) (Zoh _ _ _ _) J J J K2 cF69 (Zd 98 J J J (Zd 1 J J J Ze)) J hw) J fun v_2 _=>tt (Zn (i:=97) J J J J J (by decide) J Kd J J ⟨Zb J,Zx (i:=4) J Zi,trivial⟩ J hw trivial) J fun _ _=>Zf<|Og<|Za<|Zg<|mv J<|dt (Yu J J J ⟨by omega,by omega⟩)<|as_ J<|Zf<|Nq (Kt 4 98 J J J)<|Xq (i+1,v_2) (by first | omega | (dsimp only<;>omega)) (by first | omega | (dsimp only<;>omega)) K5 ⟨by rw [Int.pow_succ];rfl,by rw [Int.pow_succ];rfl,rfl,rfl,rfl,rfl,trivial⟩
 ·refine Yx<|Zu<|Zu<|Nc<|Za<|Zc ?_
  obtain rfl:i=n:=by omega
  exact Zg<|dt (Yb (i:=97) J J J Bp Kd J J)<|tt (Zn (i:=3) J J J J J (by decide) J Kd J J ⟨Zb J,Zx (i:=98) J Zi,trivial⟩ J hw trivial) J fun _ _=>Zf<|Za<|Zt<|Yl (.inl J) hsc _ _ (fun a w hs=>Np hs results165 (Yp (i:=3) J J Bp Kd J)) J trivial J (Qx 98 J J J Zk)
theorem rp_eval(v w u:Value)(zs:List (Int×SL))(x y:Int)(hs:Sz 1000000 (Oz zs))(hx:bl x.natAbs≤1000000)(hy:bl y.natAbs≤1000000)(hl:zs.length≤30:=by omega):Cal prog 121 #[v,.agg #[.bool (decide (x<0)),w,.bool (decide (y<0)),u]] [pp v zs,d9p w x.natAbs,d9p u y.natAbs] true (G:=Value) (fun r=>True) (fun r=> .agg #[.bool (decide (pev (Oz zs) x y<0)),r]) (fun r=>[d9p r (pev (Oz zs) x y).natAbs]):=by
 refine Yd func121 J ntmps121 J K3 ?_
 intro w0 sc hw hsc
 simp only [Zq,Zp]
 have hli:=Yz zs
 have hpx:=fun k=>Zde hx k
 have hpy:=fun k=>Zde hy k
 have htb:=ev_tb hs hpx hpy (by omega:(Oz zs).length≤30)
 have hsb:=fun i (h:i≤30)=>Zlj (n:=i) (fun t _=>htb t) (by omega)
 refine Zc<|Zg<|tt (Xa (i:=4) J J J J J hw) J fun b _=>tt (Zl (i:=5) J J zeroValue48 J J hw) J fun b_2 _=>Zf<|Za<|Zc<|Zg<|dt (Oh (ivs:=[]) J trivial (fun a w hs=>b48_))<|tt (Zl (i:=97) J J zeroValue48 J J hw) J fun b_3 _=>tt (Zn (i:=97) J J J J J (by decide) J Kd J J ⟨Zb J,Zb J,trivial⟩ J hw trivial) J fun _ _=>Zf<|Za<|Zc<|Zc<|Zg<|as_ J<|Zf<|Za<|Zm<|Xc (Nt 98 1 3 Ab)<|Xc (Pt 98 J J pN)<|Mm [(0,_),(3,_),(4,_),(5,_)] [(0,_),(1,_),(2,_),(3,_),(4,_),(5,_)] (fun(q:Nat×Value)=>[(6,.int .i64 (q.1:Int))]) (fun(q:Nat×Value)=>[(97,box b_3 48 #[.bool (decide (Qa (fun t=>cf (Oz zs) t*(x^t*y^((Oz zs).length-1-t))) q.1<0)),q.2]),(98,d9p q.2 (Qa (fun t=>cf (Oz zs) t*(x^t*y^((Oz zs).length-1-t))) q.1).natAbs)]) (fun(q:Nat×Value)=>q.1≤zs.length) (fun(q:Nat×Value)=>zs.length-q.1) (0,.slice none 0 0) (by first | omega | (dsimp only<;>omega)) K5 K8 ?_
 rintro⟨i,vs⟩ hi
 dsimp only at hi
 simp only [CA,NA]
 have hci:=Zeq zs i
 have h1:=hpx i
 have h2:=hpy ((Oz zs).length-1-i)
 have h3:i*1000000≤30*1000000:=Nat.mul_le_mul_right _ (by omega)
 have h4:((Oz zs).length-1-i)*1000000≤30*1000000:=Nat.mul_le_mul_right _ (by omega)
 have h5:=Qb (x^i) (y^((Oz zs).length-1-i))
 have h6:=hs i
 have h7:=hsb i (by omega)
 refine Zc<|Zc<|Zg<|mv J<|mv J<|dt (Yc J J (i:=1) J Xl Zbu)<|dt (Qd J J J)<|Zf<|Za<|Zr J (fun h158=>?_) (fun h158=>?_)
 ·refine Zj<|Za<|Zc<|Zm<|Qf (fun _=>False) [(0,0),(1,0),(2,0),(3,0),(4,0),(5,0),(6,0),(7,0),(9,0),(10,0),(11,0),(12,0),(13,0),(14,0),(15,0),(8,1),(16,1),(17,1),(18,1),(19,1),(20,3)] ?_ ?_
  ·kernel_rfl
  refine r0' J J (st0 (Yb (i:=97) J J J Bp Kd J J))<|r0' J J (st0 (Yf J J))<|r0' J J (st0 (Yf J J))<|r0' J J (st0 (Xf (ii:=1) J J J J Xl Zbu Kd J (by first | omega | (simp only [List.length_set];omega))))<|r0' J J (st0 (Xx (ii:=1) I0 J J J Xl pI (by first | omega | (simp only [List.length_set];omega))))<|r0' J J (st0 (Xk J J uT50 J Kd J J))<|r0' J J (st0 (Yb (i:=4) J J J Bp Kd J J))<|r0' J J (st0 (Yf J J))<|r0' J J (st0 (Xk J J uT50 J Kd J J))<|r0' J J (st0 (Yb (i:=4) J J J Bp Kd J J))<|r0' J J (st0 (Yf J J))<|r0' J J (st0 (Yc J J (i:=1) J Xl Zbu))<|r0' J J (st0 (Qo J J J ⟨by omega,by omega⟩))<|r0' J J (st0 (Yf J J))<|r0' J J (st0 (Qo J J J ⟨by omega,by omega⟩))<|r1' J (Zh (n:=6) (Zl9 _ _ _ i hx J) J J J K2 call165 (Zd 2 J J J Ze) J hw) fun v _=>r1' J (Zh (n:=7) (Zl9 _ _ _ ((Oz zs).length-1-i) hy) J J J K2 call165 (Zd 3 J J J Ze) J hw) fun v_2 _=>r1' J (Zh (n:=8) (Zoh _ _ _ _ (by first | omega | (rw [hci];omega))) J J J K2 cF69 (Zd 6 J J J (Zd 7 J J J Ze)) J hw) fun v_3 _=>r1' J (Zh (n:=9) (Zoh _ _ _ _ (by first | omega | (rw [hci];omega))) J J J K2 cF69 (Zqs 1 J J (Pu) (Zd 8 J J J Ze)) J hw) (fun v_4 _=>?_)
  exact r1' J (Zh (n:=10) (Zu3 _ _ _ _ (by omega) (by rw [hci];have:=htb i;omega)) J J J K2 call37 (Zd 98 J J J (Zd 9 J J J Ze)) J hw) fun v_5 _=>r3' J (Zn (i:=97) J J J J J (by decide) J Kd J J ⟨Zb J,Zx (i:=10) J Zi,trivial⟩ J hw trivial) fun _ _=>Py<|Og<|Za<|Zg<|mv J<|dt (Yu J J J ⟨by omega,by omega⟩)<|as_ J<|Zf<|Nq (Kt 10 98 J J J)<|Xq (i+1,v_5) (by first | omega | (dsimp only<;>omega)) (by first | omega | (dsimp only<;>omega)) K5 ⟨by rw [hci,Xj];rfl,by rw [hci,Xj];rfl,rfl,rfl,rfl,rfl,rfl,rfl,trivial⟩
 ·refine Yx<|Zu<|Zu<|Nc<|Za<|Zc ?_
  obtain rfl:i=zs.length:=by omega
  exact Zg<|dt (Yb (i:=97) J J J Bp Kd J J)<|tt (Zn (i:=5) J J J J J (by decide) J Kd J J ⟨Zb J,Zx (i:=98) J Zi,trivial⟩ J hw trivial) J fun _ _=>Zf<|Za<|Zt<|Yl (.inl J) hsc _ _ (fun a w hs=>Np hs results121 (Yp (i:=5) J J Bp Kd J)) (by unfold pev;rw [hli]<;>rfl) trivial J (Yh 98 J J J (by unfold pev;rw [hli]<;>rfl) Zk)
theorem Zbz(v u:Value)(zs ys:List (Int×SL))(hs:Sz 1000000 (Oz zs))(ht:Sz 1000000 (Oz ys))(hl:zs.length≤60:=by omega)(hk:ys.length≤60:=by omega):Cal prog 42 #[v,u] [pp v zs,pp u ys] true (G:=Value×List (Int×SL)) (fun r=>Oz r.2=Nr (Oz zs) (Oz ys)) (fun r=>r.1) (fun r=>[pp r.1 r.2]):=by
 refine Yd func42 J ntmps42 J K2 ?_
 intro w0 sc hw hsc
 simp only [Zq,Zp]
 have hli:=Yz zs
 have hli2:=Yz ys
 have htb:∀i k,bl (cf (Oz zs) k*cf (Oz ys) (i-k)).natAbs≤2000000:=fun i k=>by have:=Qb (cf (Oz zs) k) (cf (Oz ys) (i-k));have:=hs k;have:=ht (i-k);omega
 have hsb:∀i n,n≤1000→bl (Qa (fun k=>cf (Oz zs) k*cf (Oz ys) (i-k)) n).natAbs≤2000010:=fun i n hn=>Zlj (fun t _=>htb i t) (by omega)
 refine Zc<|Zg<|as_ J<|Zf<|Za<|Zc<|Zg<|as_ J<|Zf<|Za<|Zc<|Zc<|Zg<|as_ J<|Zf<|Za<|Zm<|Xc (Nt 70 2 48 Zk3)<|Xc (Ij qI 71)<|Mm [(0,_),(1,_)] [(0,_),(1,_),(2,_)] (fun(q:Nat×Value×List (Int×SL))=>[(6,.int .i64 (q.1:Int)),(5,q.2.1)]) (fun(q:Nat×Value×List (Int×SL))=>[(70,osl 2 48 Zk3 q.2.1 q.2.2),(71,Zkn qI q.2.2)]) (fun(q:Nat×Value×List (Int×SL))=>(q.1≤(zs.length+ys.length-1))∧(Oz q.2.2=mk q.1 (fun t=>Qa (fun a9=>cf (Oz zs) a9*cf (Oz ys) (t-a9)) (t+1)))∧(q.2.2.length=q.1)) (fun(q:Nat×Value×List (Int×SL))=>(zs.length+ys.length-1)-q.1) (0,.slice none 0 0,[]) ⟨by first | omega | (dsimp only<;>omega),rfl,rfl⟩ K4 K5 ?_
 rintro⟨i,vo,ws⟩ ⟨hi,hz,hzl⟩
 dsimp only at hi hz hzl
 simp only [CA,NA]
 refine Zc<|Zc<|Zg<|mv J<|mv J<|dt (Yc J J (i:=1) J Xl Zbu)<|mv J<|dt (Yc J J (i:=2) J Xl Zbu)<|dt (Yu J J J ⟨by omega,by omega⟩)<|dt (Qo J J J ⟨by omega,by omega⟩)<|dt (Qd J J J)<|Zf<|Za<|Zr J (fun h124=>?_) (fun h124=>?_)
 ·refine Zj<|Za<|Zc<|Zm<|Zc<|Zg<|dt (Oh (ivs:=[]) J trivial (fun a w hs=>b48_))<|tt (Zl (i:=97) J J zeroValue48 J J hw) J fun b _=>tt (Zn (i:=97) J J J J J (by decide) J Kd J J ⟨Zb J,Zb J,trivial⟩ J hw trivial) J fun _ _=>Zf<|Za<|Zc<|Zc<|Zg<|as_ J<|Zf<|Za<|Zm<|Xc (Nt 98 1 3 Ab)<|Xc (Pt 98 J J pN)<|Mm [(0,_),(1,_),(5,_),(6,_),(7,_)] [(0,_),(70,_),(71,_),(1,_),(2,_)] (fun(q:Nat×Value)=>[(8,.int .i64 (q.1:Int))]) (fun(q:Nat×Value)=>[(97,box b 48 #[.bool (decide (Qa (fun a9=>cf (Oz zs) a9*cf (Oz ys) (i-a9)) q.1<0)),q.2]),(98,d9p q.2 (Qa (fun a9=>cf (Oz zs) a9*cf (Oz ys) (i-a9)) q.1).natAbs)]) (fun(q:Nat×Value)=>q.1≤i+1) (fun(q:Nat×Value)=>i+1-q.1) (0,.slice none 0 0) (by first | omega | (dsimp only<;>omega)) K6 K7 ?_
  rintro⟨k,vs⟩ hk1
  dsimp only at hk1
  simp only [CA,NA]
  have h1:=hsb i k
  have h2:=htb i k
  have h3:=hs k
  have h4:=ht (i-k)
  refine Zc<|Zc<|Zg<|mv J<|mv J<|dt (Ac J J J)<|Zf<|Za<|Zr J (fun h126=>?_) (fun h126=>?_)
  ·refine Zj<|Za<|Zc<|Zm<|Qf (fun _=>False) [(0,0),(1,0),(2,0),(4,0),(5,0),(6,0),(7,0),(3,1),(8,1),(9,1),(10,1),(11,3)] ?_ ?_
   ·kernel_rfl
   exact r0' J J (st0 (Yb (i:=97) J J J Bp Kd J J))<|r0' J J (st0 (Yf J J))<|r0' J J (st0 (Yf J J))<|r0' J J (st0 (Yf J J))<|r0' J J (st0 (Yf J J))<|r0' J J (st0 (Yf J J))<|r0' J J (st0 (Qo J J J ⟨by omega,by omega⟩))<|r1' J (Zh (n:=3) (Zuz _ _ _ k J) J J J K2 call101 (Zd 1 J J J Ze) J hw) fun v _=>r1' J (Zh (n:=4) (Zuz _ _ _ (i-k)) J J J K2 call101 (Zd 2 J J J Ze) J hw) fun v_2 _=>r1' J (Zh (n:=5) (Zoh _ _ _ _) J J J K2 cF69 (Zd 3 J J J (Zd 4 J J J Ze)) J hw) fun v_3 _=>r1' J (Zh (n:=6) (Zu3 _ _ _ _) J J J K2 call37 (Zd 98 J J J (Zd 5 J J J Ze)) J hw) fun v_4 _=>r3' J (Zn (i:=97) J J J J J (by decide) J Kd J J ⟨Zb J,Zx (i:=6) J Zi,trivial⟩ J hw trivial) fun _ _=>Py<|Og<|Za<|Zg<|mv J<|dt (Yu J J J ⟨by omega,by omega⟩)<|as_ J<|Zf<|Nq (Kt 6 98 J J J)<|Xq (k+1,v_4) (by first | omega | (dsimp only<;>omega)) (by first | omega | (dsimp only<;>omega)) K6 ⟨by rw [Xj];rfl,by rw [Xj];rfl,rfl,rfl,rfl,rfl,rfl,trivial⟩
  ·refine Yx<|Zu<|Zu<|Nc<|Za ?_
   obtain rfl:k=i+1:=by omega
   refine e_ex (Mb 98 J Zi) (fun sl hsl=>?_)
   subst hsl
   exact Zg<|mv J<|dt (Yb (i:=97) J J J Bp Kd J J)<|tt (Ps (i:=7) (ivs:=[(0,_)]) (enc:=Zk3) [(Qa (fun a9=>cf (Oz zs) a9*cf (Oz ys) (i-a9)) (i+1),sl)] J J K2 Zbu ti48 J J J J J pI.cells J J hw) J fun v_5 _=>tt (Hw (i:=70) (j:=7) (by_:=32) J J J J J J (by decide) J (Yk pI) Zbu ti48 J pI J J J (by simp;omega) (by decide) J hw) J fun v_6 _=>as_ J<|Zf<|Og<|Za<|Zg<|mv J<|dt (Yu J J J ⟨by omega,by omega⟩)<|as_ J<|Zf<|Nq (Ki (q:=qI) (z:=(Qa (fun a9=>cf (Oz zs) a9*cf (Oz ys) (i-a9)) (i+1),sl)) 71 98 71 J J J J J)<|Xq (i+1,_,ws ++ [(Qa (fun a9=>cf (Oz zs) a9*cf (Oz ys) (i-a9)) (i+1),sl)]) ⟨by first | omega | (dsimp only<;>omega),by rw [Zef,Zkm,hz],by simp [hzl]⟩ (by first | omega | (dsimp only<;>omega)) K4 K5
 ·refine Yx<|Zu<|Zu<|Nc<|Za<|Zc<|Zc<|Zg<|mv J<|dt (Yc J J (i:=1) J Xl Zbu)<|dt (Pg J J J)<|mv J<|Qp (d:=43) J (fun s131=>?_) (fun s131=>?_)
  ·refine gsk J J J<|gsk J J J<|gsk J J J<|dt (Yi J J J)<|Zf<|Za<|Pd J<|Zc<|Zg<|as_ J<|Zf<|Za<|Zt<|Ys<|Nq (Zfj 62) ?_
   have hp0:Nr (Oz zs) (Oz ys)=[]:=Cx (by first | (left;omega) | (right;omega))
   exact Yl (.inl J) hsc (.slice none 0 0,[]) _ (fun a w hs=>Np hs results42 J) J (by rw [hp0]<;>rfl) J (Qx 62 J J J Zk)
  ·refine gdt (Yf J J) J J<|gdt (Yc J J (i:=2) J Xl Zbu) J J<|gdt (Pg J J J) J J<|dt (Zo J J J)<|Zf<|Za<|Zr J (fun h131=>?_) (fun h131=>?_)
   ·refine Zc<|Zg<|as_ J<|Zf<|Za<|Zt<|Ys<|Nq (Zfj 62) ?_
    have hp0:Nr (Oz zs) (Oz ys)=[]:=Cx (by first | (left;omega) | (right;omega))
    exact Yl (.inl J) hsc (.slice none 0 0,[]) _ (fun a w hs=>Np hs results42 J) J (by rw [hp0]<;>rfl) J (Qx 62 J J J Zk)
   ·exact Zj<|Za<|Zc<|Xc (Pt 70 J J pI)<|Xc (Em 70 71 72 J J J J)<|Zg<|mv J<|tt (Zh (n:=8) (Zj2 _ _ (by rw [hz];exact Zeb fun t h=>by have:=hsb t (t+1) (by omega);omega)) J J J K1 call89 (Zd 72 J J J Ze) J hw) J fun g hg=>as_ J<|Zf<|Za<|Zt<|Yl (.inl J) hsc _ _ (fun a w hs=>Np hs results42 J) J (by rw [hg,hz,show i=(Oz zs).length+(Oz ys).length-1 by omega,pmul_mk]) J (Qx 8 J J J Zk)
theorem r_same(v u:Value)(r t:List (Bool×ByteArray)):Mv prog 17 #[v,u] [slp 2 Zeg v r,slp 2 Zeg u t] (.bool (decide (r=t))):=by
 refine Yd func17 J ntmps17 J K2 ?_
 intro w0 sc hw hsc
 simp only [Zq,Zp]
 refine Oe (Lu (i:=1) J Zi) fun hlr=>Oe (Lu (i:=2) J Zi) fun hlt=>Zc<|Zg<|as_ J<|Zf<|Za<|Zc<|Zc<|Zg<|mv J<|dt (Yc J J (i:=1) J Zi Qi)<|mv J<|dt (Yc J J (i:=2) J Zi Qi)<|dt (Xo J J J)<|Zf<|Za<|Zr J (fun h78=>?_) (fun h78=>?_)
 ·exact Zc<|Zg<|as_ J<|Zf<|Za<|Zt<|Ys<|xU hsc results17 J J (by rw [decide_eq_false (fun e=>by subst e;exact h78 rfl)])
 ·have hle:r.length=t.length:=by omega
  refine Zj<|Za<|Zc<|Zc<|Zg<|as_ J<|Zf<|Za<|Zm<|Mm [(0,_),(1,_)] [(0,_),(1,_),(2,_)] (fun(k:Nat)=>[(5,.int .i64 (k:Int))]) (fun(k:Nat)=>[]) (fun(k:Nat)=>(k≤r.length)∧(r.take k=t.take k)) (fun(k:Nat)=>r.length-k) 0 ⟨by first | omega | (dsimp only<;>omega),by simp⟩ K3 K3 ?_
  rintro k ⟨hk,ht⟩
  simp only [CA,NA]
  refine Zc<|Zc<|Zg<|mv J<|mv J<|dt (Yc J J (i:=1) J Zi Qi)<|dt (Qd J J J)<|Zf<|Za<|Zr J (fun h81=>?_) (fun h81=>?_)
  ·refine Zj<|Za<|Zc<|Zm<|Zc<|Qf (fun _=>False) [(0,0),(1,0),(2,0),(3,0),(4,0),(5,0),(6,0),(7,0),(8,0)] ?_ ?_
   ·kernel_rfl
   refine r0' J J (st0 (Yf J J))<|r0' J J (st0 (Yf J J))<|r0' J J (st0 (Xf (ii:=1) J J J J Zi Qi Ye J (by first | omega | (simp only [List.length_set];omega))))<|r0' J J (st0 (Xx (ii:=1) (false,⟨#[]⟩) J J J Zi pW (by first | omega | (simp only [List.length_set];omega))))<|r0' J J (st0 (Yf J J))<|r0' J J (st0 (Yf J J))<|r0' J J (st0 (Xf (ii:=2) J J J J Zi Qi Ye J (by first | omega | (simp only [List.length_set];omega))))<|r0' J J (st0 (Xx (ii:=2) (false,⟨#[]⟩) J J J Zi pW (by first | omega | (simp only [List.length_set];omega))))<|r0' J J (st0 (Zoy J J J eg31 (fun w=>Zvk w _ _ _ _)))<|Py<|Za<|Nn J (fun h82=>?_) (fun h82=>?_)
   ·exact Zc<|Zg<|as_ J<|Zf<|Za<|Zt<|Lx<|Ys<|Ys<|Lx<|Ys<|xU hsc results17 J J (by rw [decide_eq_false (fun e=>by rw [e]at h82;simp [Bd]at h82)])
   ·exact Zj<|Og<|Za<|Zg<|mv J<|dt (Yu J J J ⟨by omega,by omega⟩)<|as_ J<|Zf<|Xq (k+1) ⟨by first | omega | (dsimp only<;>omega),by rw [On (false,⟨#[]⟩) _ _ (by omega),On (false,⟨#[]⟩) _ _ (by omega),ht,Zv4 (x:=r.getD k (false,⟨#[]⟩)) (y:=t.getD k (false,⟨#[]⟩)) (by simpa using h82)]⟩ (by first | omega | (dsimp only<;>omega)) K3 K3
  ·exact Yx<|Zu<|Zu<|Nc<|Za<|Zc<|Zg<|as_ J<|Zf<|Za<|Zt<|xU hsc results17 J J (by rw [decide_eq_true (by rw [show k=r.length by omega,List.take_length,hle,List.take_length]at ht;exact ht)])
theorem Zdz(v u:Value)(xs ys:List Int):Mv prog 17 #[v,u] [slp 2 wv v xs,slp 2 wv u ys] (.bool (decide (xs=ys))):=by
 have h:=((r_same v u (xs.map wr) (ys.map wr)).imp (Zpw v xs) (fun _ h=>h)).imp2 (Zpw u ys) (fun _ h=>h)
 rw [decide_eq_decide.2 (Zos xs ys)]at h;exact h
theorem Gr(v:Value)(r:List (Bool×ByteArray)):Mv prog 13 #[v] [slp 2 Zeg v r] (.bool (okP r)):=by
 refine Yd func13 J ntmps13 J K1 ?_
 intro w0 sc hw hsc
 simp only [Zq,Zp]
 refine Oe (Lu (i:=1) J Zi) fun hlen=>Zc<|Zg<|as_ J<|Zf<|Za<|Zc<|Zc<|Zg<|as_ J<|Zf<|Za<|Zm<|Mm [(0,_)] [(0,_),(1,_)] (fun(k:Nat)=>[(3,.int .i64 (k:Int))]) (fun(k:Nat)=>[]) (fun(k:Nat)=>(k≤r.length)∧((r.take k).all (fun w=>okW w.1 w.2)=true)) (fun(k:Nat)=>r.length-k) 0 ⟨by first | omega | (dsimp only<;>omega),by simp⟩ K2 K2 ?_
 rintro k ⟨hk,ha⟩
 simp only [CA,NA]
 refine Zc<|Zc<|Zg<|mv J<|mv J<|dt (Yc J J (i:=1) J Zi Qi)<|dt (Qd J J J)<|Zf<|Za<|Zr J (fun h30=>?_) (fun h30=>?_)
 ·refine Zj<|Za<|Zc<|Zm<|Zc<|Zg<|mv J<|mv J<|dt (Xf (ii:=1) J J J J Zi Qi Ye J (by first | omega | (simp only [List.length_set];omega)))<|dt (Xx (ii:=1) (false,⟨#[]⟩) J J J Zi pW (by first | omega | (simp only [List.length_set];omega)))<|tt (Zh (n:=1) (Zj5 _ _) J J J K1 call35 Ze J hw) J fun _ _=>dt (Yr J J)<|Zf<|Za<|Nn J (fun h31=>?_) (fun h31=>?_)
  ·exact Zc<|Zg<|as_ J<|Zf<|Za<|Zt<|Lx<|Ys<|Ys<|Lx<|Ys<|xU hsc results13 J J (by rw [Zq3 (Pu (i:=k) (d:=(false,⟨#[]⟩))) (by simpa using h31)])
  ·exact Zj<|Og<|Za<|Zg<|mv J<|dt (Yu J J J ⟨by omega,by omega⟩)<|as_ J<|Zf<|Xq (k+1) ⟨by first | omega | (dsimp only<;>omega),by rw [On (false,⟨#[]⟩) _ _ (by omega),List.all_append,ha];simpa using h31⟩ (by first | omega | (dsimp only<;>omega)) K2 K2
 ·refine Yx<|Zu<|Zu<|Nc<|Za<|Zc ?_
  obtain rfl:k=r.length:=by omega
  rw [List.take_length]at ha
  refine Zg<|mv J<|dt (Yc J J (i:=1) J Zi Qi)<|dt (Ac J J J)<|mv J<|Qp (d:=19) J (fun s35=>?_) (fun s35=>?_)
  ·refine gdt (Yf J J) J J<|gdt (Yc J J (i:=1) J Zi Qi) J J<|gdt (Pg J J J) J J<|gdt (Yf J J) J J<|Qp (d:=23) J (fun s35_2=>?_) (fun s35_2=>?_)
   ·exact gsk J J J<|gsk J J J<|gsk J J J<|gsk J J J<|gsk J J J<|gsk J J J<|gsk J J J<|gsk J J J<|gsk J J J<|gdt (Yi J J J) J J<|dt (Yi J J J)<|as_ J<|Zf<|Za<|Zt<|xU hsc results13 J J (by rw [Zg6 ha];first | (rw [decide_eq_false (show ¬r.length≤25 by omega)];rfl) | (rw [decide_eq_true (show r.length≤25 by omega),decide_eq_true (show r.length=0 by omega)];rfl) | (rw [decide_eq_true (show r.length≤25 by omega),decide_eq_false (show ¬r.length=0 by omega)];rfl))
   ·exact gdt (Yf J J) J J<|gdt (Yf J J) J J<|gdt (Yc J J (i:=1) J Zi Qi) J J<|gdt (Qo J J J ⟨by omega,by omega⟩) J J<|gdt (Xf (ii:=1) (i:=(r.length-1)) J J J J Zi Qi Ye) J J<|gdt (d_fae (ii:=1) J J J Zi (by omega) Cm J zT9 J) J J<|gdt (d_ldf (ii:=1) (false,⟨#[]⟩) J J J Zi (by omega) iA9 J) J J<|gdt (Ie J J uT9) J J<|gdt (Qr J J J) J J<|gdt (Zo J J J) J J<|dt (Yi J J J)<|as_ J<|Zf<|Za<|Zt<|xU hsc results13 J J (by rw [Zg6 ha];first | (rw [decide_eq_false (show ¬r.length≤25 by omega)];rfl) | (rw [decide_eq_true (show r.length≤25 by omega),decide_eq_true (show r.length=0 by omega)];rfl) | (rw [decide_eq_true (show r.length≤25 by omega),decide_eq_false (show ¬r.length=0 by omega)];rfl))
  ·exact gsk J J J<|gsk J J J<|gsk J J J<|gsk J J J<|Ziy J J<|Ziy J J<|Ziy J J<|Ziy J J<|Ziy J J<|Ziy J J<|Ziy J J<|Ziy J J<|Ziy J J<|gsk J J J<|dt (Zo J J J)<|as_ J<|Zf<|Za<|Zt<|xU hsc results13 J J (by rw [Zg6 ha];first | (rw [decide_eq_false (show ¬r.length≤25 by omega)];rfl) | (rw [decide_eq_true (show r.length≤25 by omega),decide_eq_true (show r.length=0 by omega)];rfl) | (rw [decide_eq_true (show r.length≤25 by omega),decide_eq_false (show ¬r.length=0 by omega)];rfl))
end Go.Sky

