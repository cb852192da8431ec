/- the law: part 21
   Proved without conditions of its own: each theorem bears its own. -/
import Derived.Test.YtcmiiammekgooaaGreatSf03
import Derived.Test.YtcmiiammekgooaaGreatSf02
import Derived.Test.YtcmiiammekgooaaGreatSf01
import Derived.Test.YtcmiiammekgooaaGreatSf18
import Derived.Test.YtcmiiammekgooaaGreatSf19
set_option linter.all false
namespace Go.Sky
open Go.Proofs.Tryz
open Go.Proofs
set_option maxRecDepth 20000
set_option maxHeartbeats 4000000
set_option linter.unusedSimpArgs false
set_option maxHeartbeats 4000000 in
theorem Zfe(v:Value)(r:List (Bool×ByteArray))(z1 z2:RZ)(hq:Int)(hn:(smR r && [z1,z2].all enR)=false∨12<hq∧hq≤100):Mc prog 5 #[v,.agg #[.bool z1.1.1,.string z1.1.2,.bool z1.2.1,.string z1.2.2],.agg #[.bool z2.1.1,.string z2.1.2,.bool z2.2.1,.string z2.2.2],.int .i64 hq] [slp 2 Zfg v r] (.bool true):=by
 refine Yc func5 J ntmps5 J K1 ?_
 intro w0 sc hw hsc
 simp only [Zq,Zp]
 refine Yr (Na 999 2 31 wv)<|Yr (Pd 999 J J pV)<|Zd<|Zg<|tt (Yu (i:=2) J J J J J hw) fun bx _=>tt (Yu (i:=3) J J J J J hw) fun bx_2 _=>as_ J<|Zf<|Za<|Zd<|Zd<|Zg<|mv J<|tt (Zh (n:=3) (Ew _ _) J J J K1 call10 (Zc 1 J J J Ze) J hw) fun _ _=>dt (Xg J J)<|mv J<|Ll (d:=25) J (fun s185=>?_) (fun s185=>?_)
 ·exact gsk J J J<|gsk J J J<|gsk J J J<|gsk J J J<|gsk J J J<|dt (Ys J J J)<|mv J<|gsk J J J<|gsk J J J<|gsk J J J<|Zf4 J J<|Zf4 J J<|gsk J J J<|dt (Ys J J J)<|Zf<|Za<|Pf J<|Zd<|Zg<|tt (Zh (n:=3) (La) J J J trivial call11 Ze J hw) fun _ _=>as_ J<|Zf<|Za<|Zu<|Xa<|xU hsc results5 J J J
 ·refine gdt (Yp (i:=2) J J J Qp Xk J J J J) J J<|gdt (Yp (i:=3) J J J Qp Xk J J J J) J J<|gtt (Po (i:=4) (ivs:=[(0,_),(1,_)]) (enc:=encQ) [z1,z2] J J K4 Zqr ti41 J J (Zg4 _ _ _ _ _ _ _ _ _ _ _ _) J J pR.cells J J hw) J J J fun v _=>gtt (Zh (n:=4) (Zbh _ _) J J J K1 call20 (Xu 4 J J pR Ze) J hw) J J J fun _ _=>gdt (Xg J J) J J<|dt (Zz J J J)<|mv J<|Ll (d:=32) J (fun s185_2=>?_) (fun s185_2=>?_)
  ·exact gsk J J J<|gsk J J J<|gsk J J J<|Zf4 J J<|Zf4 J J<|gsk J J J<|dt (Ys J J J)<|Zf<|Za<|Pf J<|Zd<|Zg<|tt (Zh (n:=4) (La) J J J trivial call11 Ze J hw) fun _ _=>as_ J<|Zf<|Za<|Zu<|Xa<|xU hsc results5 J J J
  ·refine gdt (Yo J J) J J<|gdt (Pm J J J) J J<|gdt (Yo J J) J J<|Qm (d:=35) J (fun s185_3=>?_) (fun s185_3=>?_)
   ·refine gdt (Yo J J) J J<|gdt (Cf J J J) J J<|gdt (Ys J J J) J J<|dt (Zz J J J)<|Zf<|Za<|Zs J (fun h185=>?_) (fun h185=>?_)
    ·exact Zd<|Zg<|tt (Zh (n:=4) (La) J J J trivial call11 Ze J hw) fun _ _=>as_ J<|Zf<|Za<|Zu<|Xa<|xU hsc results5 J J J
    ·exfalso;rcases hn with hn | hn<;>first | omega | simp_all
   ·refine gsk J J J<|gsk J J J<|gdt (Zz J J J) J J<|dt (Zz J J J)<|Zf<|Za<|Ye J<|Zj<|Za<|Zd ?_
    exfalso;rcases hn with hn | hn<;>first | omega | simp_all
set_option maxHeartbeats 4000000 in
theorem Zkl(v:Value)(r:List (Bool×ByteArray))(z1 z2:RZ)(hq:Int)(hs:smR r=true)(he:[z1,z2].all enR=true)(hh:hq<0∨100<hq):Mc prog 5 #[v,.agg #[.bool z1.1.1,.string z1.1.2,.bool z1.2.1,.string z1.2.2],.agg #[.bool z2.1.1,.string z2.1.2,.bool z2.2.1,.string z2.2.2],.int .i64 hq] [slp 2 Zfg v r] (.bool true):=by
 refine Yc func5 J ntmps5 J K1 ?_
 intro w0 sc hw hsc
 simp only [Zq,Zp]
 refine Yr (Na 999 2 31 wv)<|Yr (Pd 999 J J pV)<|Zd<|Zg<|tt (Yu (i:=2) J J J J J hw) fun bx _=>tt (Yu (i:=3) J J J J J hw) fun bx_2 _=>as_ J<|Zf<|Za<|Zd<|Zd<|Zg<|mv J<|tt (Zh (n:=3) (Ew _ _) J J J K1 call10 (Zc 1 J J J Ze) J hw) fun _ _=>dt (Ya (r':= .bool false) (Xg J J) (congrArg Value.bool (by rw [hs];rfl)))<|mv J<|gdt (Yp (i:=2) J J J Qp Xk J J J J) J J<|gdt (Yp (i:=3) J J J Qp Xk J J J J) J J<|gtt (Po (i:=4) (ivs:=[(0,_),(1,_)]) (enc:=encQ) [z1,z2] J J K4 Zqr ti41 J J (Zg4 _ _ _ _ _ _ _ _ _ _ _ _) J J pR.cells J J hw) J J J fun v _=>gtt (Zh (n:=4) (Zbh _ _) J J J K1 call20 (Xu 4 J J pR Ze) J hw) J J J fun _ _=>gdt (Ya (r':= .bool false) (Xg J J) (congrArg Value.bool (by rw [show [z1,z2].all enR=true from he];rfl))) J J<|dt (Zz J J J)<|mv J<|gdt (Yo J J) J J<|gdt (Pm J J J) J J<|gdt (Yo J J) J J<|Qm (d:=35) J (fun s185=>?_) (fun s185=>?_)
 ·refine gdt (Yo J J) J J<|gdt (Cf J J J) J J<|gdt (Ys J J J) J J<|dt (Zz J J J)<|Zf<|Za<|Zs J (fun h185=>?_) (fun h185=>?_)
  ·exfalso;omega
  ·refine Zj<|Za<|Zd<|Zg<|mv J<|dt (Yp (i:=2) J J J Qp Xk J J J J)<|dt (Yp (i:=3) J J J Qp Xk J J J J)<|mv J<|tt (Zh (n:=4) (Zc3 _ _ z1 z2 hq hh) J J J K4 call31 (Zc 1 J J J Ze) J hw) fun _ _=>mv J<|dt (Yh J J J)<|dt (Yh J J J)<|tt (Zn (i:=5) J J zeroValue62 J J hw) fun bx_3 _=>tt (Zm (i:=5) J J J J J (by decide) J Km J J ⟨Zb J,Zb J,Zb J,Zb J,Zb J,Zb J,Zb J,Zb J,trivial⟩ J hw trivial) fun _ _=>as_ J<|Zf<|Za<|Zd<|Zg<|dt (Pv (ivs:=[]) J trivial (fun a w hs=>Zvy))<|tt (Zn (i:=6) J J zeroValue62 J J hw) fun bx_4 _=>tt (Zm (i:=6) J J J J J (by decide) J Km J J ⟨Zb J,Zb J,Zb J,Zb J,Zb J,Zb J,Zb J,Zb J,trivial⟩ J hw trivial) fun _ _=>Zf<|Za<|Zd<|Zd<|Zg<|mv J<|dt (Xr J J J)<|mv J<|Qm (d:=52) J (fun s190=>?_) (fun s190=>?_)
   ·exact gsk J J J<|gsk J J J<|dt (Ys J J J)<|Zf<|Za<|Pf J<|Zd<|Zg<|dt (Hz (i:=5) J J J Ce Km J J J J J J J J)<|dt (Hz (i:=6) J J J Ce Km J J J J J J J J)<|dt (Ya (r':= .bool true) (Zbs J J J Zvv (fun w=>Zku w _ _ _ _ _ _ _ _ _ _ _ _ _ _ _ _)) (congrArg Value.bool (by simp [Lz])))<|mv J<|gdt (Yo J J) J J<|gdt (Ya (r':= .bool true) (Pg J J J) (congrArg Value.bool (by decide))) J J<|dt (Ys J J J)<|mv J<|gtt (Zh (n:=6) (La) J J J trivial call11 Ze J hw) J J J fun _ _=>dt (Ys J J J)<|as_ J<|Zf<|Za<|Zu<|Xa<|xU hsc results5 J J J
   ·refine gdt (Yo J J) J J<|gdt (Pm J J J) J J<|dt (Zz J J J)<|Zf<|Za<|Zs J (fun h190=>?_) (fun h190=>?_)
    ·exact Zd<|Zg<|dt (Hz (i:=5) J J J Ce Km J J J J J J J J)<|dt (Hz (i:=6) J J J Ce Km J J J J J J J J)<|dt (Ya (r':= .bool true) (Zbs J J J Zvv (fun w=>Zku w _ _ _ _ _ _ _ _ _ _ _ _ _ _ _ _)) (congrArg Value.bool (by simp [Lz])))<|mv J<|gdt (Yo J J) J J<|gdt (Ya (r':= .bool true) (Pg J J J) (congrArg Value.bool (by decide))) J J<|dt (Ys J J J)<|mv J<|gtt (Zh (n:=6) (La) J J J trivial call11 Ze J hw) J J J fun _ _=>dt (Ys J J J)<|as_ J<|Zf<|Za<|Zu<|Xa<|xU hsc results5 J J J
    ·exfalso;omega
 ·refine gsk J J J<|gsk J J J<|gdt (Zz J J J) J J<|dt (Zz J J J)<|Zf<|Za<|Ye J<|Zj<|Za<|Zd<|Zg<|mv J<|dt (Yp (i:=2) J J J Qp Xk J J J J)<|dt (Yp (i:=3) J J J Qp Xk J J J J)<|mv J<|tt (Zh (n:=6) (Zc3 _ _ z1 z2 hq hh) J J J K4 call31 (Zc 1 J J J Ze) J hw) fun _ _=>mv J<|dt (Yh J J J)<|dt (Yh J J J)<|tt (Zn (i:=7) J J zeroValue62 J J hw) fun bx_5 _=>tt (Zm (i:=7) J J J J J (by decide) J Km J J ⟨Zb J,Zb J,Zb J,Zb J,Zb J,Zb J,Zb J,Zb J,trivial⟩ J hw trivial) fun _ _=>as_ J<|Zf<|Za<|Zd<|Zg<|dt (Pv (ivs:=[]) J trivial (fun a w hs=>Zvy))<|tt (Zn (i:=8) J J zeroValue62 J J hw) fun bx_6 _=>tt (Zm (i:=8) J J J J J (by decide) J Km J J ⟨Zb J,Zb J,Zb J,Zb J,Zb J,Zb J,Zb J,Zb J,trivial⟩ J hw trivial) fun _ _=>Zf<|Za<|Zd<|Zd<|Zg<|mv J<|dt (Xr J J J)<|mv J<|Qm (d:=52) J (fun s190_2=>?_) (fun s190_2=>?_)
  ·exact gsk J J J<|gsk J J J<|dt (Ys J J J)<|Zf<|Za<|Pf J<|Zd<|Zg<|dt (Hz (i:=7) J J J Ce Km J J J J J J J J)<|dt (Hz (i:=8) J J J Ce Km J J J J J J J J)<|dt (Ya (r':= .bool true) (Zbs J J J Zvv (fun w=>Zku w _ _ _ _ _ _ _ _ _ _ _ _ _ _ _ _)) (congrArg Value.bool (by simp [Lz])))<|mv J<|gdt (Yo J J) J J<|gdt (Ya (r':= .bool true) (Pg J J J) (congrArg Value.bool (by decide))) J J<|dt (Ys J J J)<|mv J<|gtt (Zh (n:=8) (La) J J J trivial call11 Ze J hw) J J J fun _ _=>dt (Ys J J J)<|as_ J<|Zf<|Za<|Zu<|Xa<|xU hsc results5 J J J
  ·refine gdt (Yo J J) J J<|gdt (Pm J J J) J J<|dt (Zz J J J)<|Zf<|Za<|Zs J (fun h190_2=>?_) (fun h190_2=>?_)
   ·exact Zd<|Zg<|dt (Hz (i:=7) J J J Ce Km J J J J J J J J)<|dt (Hz (i:=8) J J J Ce Km J J J J J J J J)<|dt (Ya (r':= .bool true) (Zbs J J J Zvv (fun w=>Zku w _ _ _ _ _ _ _ _ _ _ _ _ _ _ _ _)) (congrArg Value.bool (by simp [Lz])))<|mv J<|gdt (Yo J J) J J<|gdt (Ya (r':= .bool true) (Pg J J J) (congrArg Value.bool (by decide))) J J<|dt (Ys J J J)<|mv J<|gtt (Zh (n:=8) (La) J J J trivial call11 Ze J hw) J J J fun _ _=>dt (Ys J J J)<|as_ J<|Zf<|Za<|Zu<|Xa<|xU hsc results5 J J J
   ·exfalso;omega
set_option maxHeartbeats 4000000 in
theorem Zkk(v:Value)(r:List (Bool×ByteArray))(z1 z2:RZ)(hs:smR r=true)(he:[z1,z2].all enR=true)(hq:Nat)(hh:hq≤12)(hbad:(okP r && qOK z1 && qOK z2)=false):Mc prog 5 #[v,.agg #[.bool z1.1.1,.string z1.1.2,.bool z1.2.1,.string z1.2.2],.agg #[.bool z2.1.1,.string z2.1.2,.bool z2.2.1,.string z2.2.2],.int .i64 (hq:Int)] [slp 2 Zfg v r] (.bool true):=by
 refine Yc func5 J ntmps5 J K1 ?_
 intro w0 sc hw hsc
 simp only [Zq,Zp]
 refine Yr (Na 999 2 31 wv)<|Yr (Pd 999 J J pV)<|Zd<|Zg<|tt (Yu (i:=2) J J J J J hw) fun bx _=>tt (Yu (i:=3) J J J J J hw) fun bx_2 _=>as_ J<|Zf<|Za<|Zd<|Zd<|Zg<|mv J<|tt (Zh (n:=3) (Ew _ _) J J J K1 call10 (Zc 1 J J J Ze) J hw) fun _ _=>dt (Ya (r':= .bool false) (Xg J J) (congrArg Value.bool (by rw [hs];rfl)))<|mv J<|gdt (Yp (i:=2) J J J Qp Xk J J J J) J J<|gdt (Yp (i:=3) J J J Qp Xk J J J J) J J<|gtt (Po (i:=4) (ivs:=[(0,_),(1,_)]) (enc:=encQ) [z1,z2] J J K4 Zqr ti41 J J (Zg4 _ _ _ _ _ _ _ _ _ _ _ _) J J pR.cells J J hw) J J J fun v _=>gtt (Zh (n:=4) (Zbh _ _) J J J K1 call20 (Xu 4 J J pR Ze) J hw) J J J fun _ _=>gdt (Ya (r':= .bool false) (Xg J J) (congrArg Value.bool (by rw [show [z1,z2].all enR=true from he];rfl))) J J<|dt (Zz J J J)<|mv J<|gdt (Yo J J) J J<|gdt (Ya (r':= .bool false) (Pm J J J) (congrArg Value.bool (decide_eq_false (by omega)))) J J<|gdt (Yo J J) J J<|gsk J J J<|gsk J J J<|gdt (Zz J J J) J J<|dt (Zz J J J)<|Zf<|Za<|Ye J<|Zj<|Za<|Zd<|Zg<|mv J<|dt (Yp (i:=2) J J J Qp Xk J J J J)<|dt (Yp (i:=3) J J J Qp Xk J J J J)<|mv J ?_
 refine tt (Zh (n:=4) (Zju _ _ z1 z2 hq (by omega) hbad) J J J K4 call31 (Zc 1 J J J Ze) J hw) fun _ _=>mv J<|dt (Yh J J J)<|dt (Yh J J J)<|tt (Zn (i:=5) J J zeroValue62 J J hw) fun bx_3 _=>tt (Zm (i:=5) J J J J J (by decide) J Km J J ⟨Zb J,Zb J,Zb J,Zb J,Zb J,Zb J,Zb J,Zb J,trivial⟩ J hw trivial) fun _ _=>as_ J<|Zf<|Za<|Zd<|Zg<|dt (Pv (ivs:=[]) J trivial (fun a w hs=>Zvy))<|tt (Zn (i:=6) J J zeroValue62 J J hw) fun bx_4 _=>tt (Zm (i:=6) J J J J J (by decide) J Km J J ⟨Zb J,Zb J,Zb J,Zb J,Zb J,Zb J,Zb J,Zb J,trivial⟩ J hw trivial) fun _ _=>Zf<|Za<|Zd<|Zd<|Zg<|mv J<|dt (Ya (r':= .bool false) (Xr J J J) (congrArg Value.bool (decide_eq_false (by omega))))<|mv J<|gdt (Yo J J) J J<|gdt (Ya (r':= .bool false) (Pm J J J) (congrArg Value.bool (decide_eq_false (by omega)))) J J<|dt (Zz J J J)<|Zf<|Za<|Ye J<|Zj<|Za<|Zd<|Zd<|Zg<|mv J<|dt (Yp (i:=2) J J J Qp Xk J J J J)<|dt (Yp (i:=3) J J J Qp Xk J J J J)<|tt (Zh (n:=6) (Zf3 _ _ z1 z2 hbad) J J J K3 call22 (Zc 1 J J J Ze) J hw) fun _ _=>as_ J ?_
 exact Zf<|Za<|Zd<|Zg<|mv J<|dt (Ya (r':= .bool true) (Qc J J J) (congrArg Value.bool (by decide)))<|Zf<|Za<|Pf J<|Zd<|Zg<|dt (Hz (i:=5) J J J Ce Km J J J J J J J J)<|dt (Hz (i:=6) J J J Ce Km J J J J J J J J)<|dt (Ya (r':= .bool true) (Zbs J J J Zvv (fun w=>Zku w _ _ _ _ _ _ _ _ _ _ _ _ _ _ _ _)) (congrArg Value.bool (by simp [Lz])))<|mv J<|gdt (Yo J J) J J<|gdt (Yo J J) J J<|gdt (Ya (r':= .bool true) (Pg J J J) (congrArg Value.bool (by decide))) J J<|dt (Ys J J J)<|mv J<|gtt (Zh (n:=6) (La) J J J trivial call11 Ze J hw) J J J fun _ _=>dt (Ys J J J)<|as_ J<|Zf<|Za<|Zu<|Xa<|xU hsc results5 J J J
set_option maxHeartbeats 4000000 in
theorem Zkj(v:Value)(r:List (Bool×ByteArray))(a b:R2)(ha:E32 a)(hb:E32 b)(hs:smR r=true)(he:[rqz a,rqz b].all enR=true)(hok:okP r=true)(hq:Nat)(hh:hq≤12)(hc:0<cmp a b):Mc prog 5 #[v,rX a.1 a.2,rX b.1 b.2,.int .i64 (hq:Int)] [slp 2 Zfg v r] (.bool true):=by
 refine Yc func5 J ntmps5 J K1 ?_
 intro w0 sc hw hsc
 simp only [Zq,Zp]
 have ha1:=ha.b1
 have ha2:=ha.b2
 have hap:=ha.p
 have hb1:=hb.b1
 have hb2:=hb.b2
 have hbp:=hb.p
 obtain⟨hd,hs32,hlr⟩:=sm_dec hs hok
 have hd7:=hd.l
 refine Yr (Na 999 2 31 wv)<|Yr (Pd 999 J J pV)<|Zd<|Zg<|tt (Yu (i:=2) J J J J J hw) fun bx _=>tt (Yu (i:=3) J J J J J hw) fun bx_2 _=>as_ J<|Zf<|Za<|Zd<|Zd<|Zg<|mv J<|tt (Zh (n:=3) (Ew _ _) J J J K1 call10 (Zc 1 J J J Ze) J hw) fun _ _=>dt (Ya (r':= .bool false) (Xg J J) (congrArg Value.bool (by rw [hs];rfl)))<|mv J<|gdt (Yp (i:=2) J J J Qp Xk J J J J) J J<|gdt (Yp (i:=3) J J J Qp Xk J J J J) J J<|gtt (Po (i:=4) (ivs:=[(0,_),(1,_)]) (enc:=encQ) [rqz a,rqz b] J J K4 Zqr ti41 J J (Zg4 _ _ _ _ _ _ _ _ _ _ _ _) J J pR.cells J J hw) J J J fun v _=>gtt (Zh (n:=4) (Zbh _ _) J J J K1 call20 (Xu 4 J J pR Ze) J hw) J J J fun _ _=>gdt (Ya (r':= .bool false) (Xg J J) (congrArg Value.bool (by rw [he];rfl))) J J<|dt (Zz J J J)<|mv J<|gdt (Yo J J) J J<|gdt (Ya (r':= .bool false) (Pm J J J) (congrArg Value.bool (decide_eq_false (by omega)))) J J<|gdt (Yo J J) J J<|gsk J J J<|gsk J J J<|gdt (Zz J J J) J J<|dt (Zz J J J)<|Zf<|Za<|Ye J<|Zj<|Za<|Zd<|Yr (Zp1 (q:=slp 2 wv _ (dec r)) 1 88 J J J (Zln hok _) (fun _ h=>h) J)<|Zg<|mv J<|dt (Yp (i:=2) J J J Qp Xk J J J J) ?_
 refine dt (Yp (i:=3) J J J Qp Xk J J J J)<|mv J<|tt (Zh (n:=4) (Zjt _ (dec r) a b hd ha hb hq (by omega) hc) J J J K4 call31 (Zc 88 J J J Ze) J hw) fun _ _=>mv J<|dt (Yh J J J)<|dt (Yh J J J)<|tt (Zn (i:=5) J J zeroValue62 J J hw) fun bx_3 _=>tt (Zm (i:=5) J J J J J (by decide) J Km J J ⟨Zb J,Zb J,Zb J,Zb J,Zb J,Zb J,Zb J,Zb J,trivial⟩ J hw trivial) fun _ _=>as_ J<|Zf<|Za<|Zd<|Zg<|dt (Pv (ivs:=[]) J trivial (fun a w hs=>Zvy))<|tt (Zn (i:=6) J J zeroValue62 J J hw) fun bx_4 _=>tt (Zm (i:=6) J J J J J (by decide) J Km J J ⟨Zb J,Zb J,Zb J,Zb J,Zb J,Zb J,Zb J,Zb J,trivial⟩ J hw trivial) fun _ _=>Zf<|Za<|Zd<|Zd<|Zg<|mv J<|dt (Ya (r':= .bool false) (Xr J J J) (congrArg Value.bool (decide_eq_false (by omega))))<|mv J<|gdt (Yo J J) J J<|gdt (Ya (r':= .bool false) (Pm J J J) (congrArg Value.bool (decide_eq_false (by omega)))) J J<|dt (Zz J J J)<|Zf<|Za<|Ye J<|Zj<|Za<|Zd<|Zd<|Zg<|mv J<|dt (Yp (i:=2) J J J Qp Xk J J J J)<|dt (Yp (i:=3) J J J Qp Xk J J J J) ?_
 exact tt (Zh (n:=6) (Zbg _ _ a b hok ha hb) J J J K3 call22 (Zc 1 J J J Ze) J hw) fun _ _=>as_ J<|Zf<|Za<|Zd<|Zg<|mv J<|dt (Ya (r':= .bool true) (Qc J J J) (congrArg Value.bool (decide_eq_true (by rw [if_pos hc];decide))))<|Zf<|Za<|Pf J<|Zd<|Zg<|dt (Hz (i:=5) J J J Ce Km J J J J J J J J)<|dt (Hz (i:=6) J J J Ce Km J J J J J J J J)<|dt (Ya (r':= .bool true) (Zbs J J J Zvv (fun w=>Zku w _ _ _ _ _ _ _ _ _ _ _ _ _ _ _ _)) (congrArg Value.bool (by simp [Lz])))<|mv J<|gdt (Yo J J) J J<|gdt (Yo J J) J J<|gdt (Ya (r':= .bool true) (Pg J J J) (congrArg Value.bool (by rw [if_pos hc];decide))) J J<|dt (Ys J J J)<|mv J<|gtt (Zh (n:=6) (La) J J J trivial call11 Ze J hw) J J J fun _ _=>dt (Ys J J J)<|as_ J<|Zf<|Za<|Zu<|Xa<|xU hsc results5 J J J
set_option maxHeartbeats 4000000 in
theorem Zmm(v:Value)(r:List (Bool×ByteArray))(a b:R2)(ha:E32 a)(hb:E32 b)(hs:smR r=true)(he:[rqz a,rqz b].all enR=true)(hok:okP r=true)(hq:Nat)(hh:hq≤12)(hc:¬0<cmp a b):Mc prog 5 #[v,rX a.1 a.2,rX b.1 b.2,.int .i64 (hq:Int)] [slp 2 Zfg v r] (.bool true):=by
 refine Yc func5 J ntmps5 J K1 ?_
 intro w0 sc hw hsc
 simp only [Zq,Zp]
 have ha1:=ha.b1
 have ha2:=ha.b2
 have hap:=ha.p
 have hb1:=hb.b1
 have hb2:=hb.b2
 have hbp:=hb.p
 obtain⟨hd,hs32,hlr⟩:=sm_dec hs hok
 have hd7:=hd.l
 have hle:=Zm4 ha hb hc
 obtain⟨k9,hk9⟩:=Zmn hq 0 _ _ (FIn.start (xs:=dec r) ha hb hle) (by omega)
 obtain⟨-,-,t3,t4,-⟩:=hk9.round
 have q1:=Zn8 (x:=(frs (dec r) hq (slow a) (slow b)).1.1) (y:=(frs (dec r) hq (slow a) (slow b)).1.2) (by omega) (by omega)
 have q2:=Zn8 (x:=(frs (dec r) hq (slow a) (slow b)).2.1) (y:=(frs (dec r) hq (slow a) (slow b)).2.2) (by omega) (by omega)
 refine Yr (Na 999 2 31 wv)<|Yr (Pd 999 J J pV)<|Zd<|Zg<|tt (Yu (i:=2) J J J J J hw) fun bx _=>tt (Yu (i:=3) J J J J J hw) fun bx_2 _=>as_ J<|Zf<|Za<|Zd<|Zd<|Zg<|mv J<|tt (Zh (n:=3) (Ew _ _) J J J K1 call10 (Zc 1 J J J Ze) J hw) fun _ _=>dt (Ya (r':= .bool false) (Xg J J) (congrArg Value.bool (by rw [hs];rfl)))<|mv J<|gdt (Yp (i:=2) J J J Qp Xk J J J J) J J<|gdt (Yp (i:=3) J J J Qp Xk J J J J) J J<|gtt (Po (i:=4) (ivs:=[(0,_),(1,_)]) (enc:=encQ) [rqz a,rqz b] J J K4 Zqr ti41 J J (Zg4 _ _ _ _ _ _ _ _ _ _ _ _) J J pR.cells J J hw) J J J fun v _=>gtt (Zh (n:=4) (Zbh _ _) J J J K1 call20 (Xu 4 J J pR Ze) J hw) J J J fun _ _=>gdt (Ya (r':= .bool false) (Xg J J) (congrArg Value.bool (by rw [he];rfl))) J J<|dt (Zz J J J)<|mv J<|gdt (Yo J J) J J<|gdt (Ya (r':= .bool false) (Pm J J J) (congrArg Value.bool (decide_eq_false (by omega)))) J J<|gdt (Yo J J) J J<|gsk J J J<|gsk J J J<|gdt (Zz J J J) J J<|dt (Zz J J J)<|Zf<|Za<|Ye J<|Zj<|Za<|Zd<|Yr (Zp1 (q:=slp 2 wv _ (dec r)) 1 88 J J J (Zln hok _) (fun _ h=>h) J)<|Zg<|mv J<|dt (Yp (i:=2) J J J Qp Xk J J J J) ?_
 refine dt (Yp (i:=3) J J J Qp Xk J J J J)<|mv J<|tt (Zh (n:=4) (Zjv _ (dec r) a b hd ha hb hq (by omega) hc) J J J K4 call31 (Zc 88 J J J Ze) J hw) fun _ _=>mv J<|dt (Yh J J J)<|dt (Yh J J J)<|tt (Zn (i:=5) J J zeroValue62 J J hw) fun bx_3 _=>tt (Zm (i:=5) J J J J J (by decide) J Km J J ⟨Zb J,Zb J,Zb J,Zb J,Zb J,Zb J,Zb J,Zb J,trivial⟩ J hw trivial) fun _ _=>as_ J<|Zf<|Za<|Zd<|Zg<|dt (Pv (ivs:=[]) J trivial (fun a w hs=>Zvy))<|tt (Zn (i:=6) J J zeroValue62 J J hw) fun bx_4 _=>tt (Zm (i:=6) J J J J J (by decide) J Km J J ⟨Zb J,Zb J,Zb J,Zb J,Zb J,Zb J,Zb J,Zb J,trivial⟩ J hw trivial) fun _ _=>Zf<|Za<|Zd<|Zd<|Zg<|mv J<|dt (Ya (r':= .bool false) (Xr J J J) (congrArg Value.bool (decide_eq_false (by omega))))<|mv J<|gdt (Yo J J) J J<|gdt (Ya (r':= .bool false) (Pm J J J) (congrArg Value.bool (decide_eq_false (by omega)))) J J<|dt (Zz J J J)<|Zf<|Za<|Ye J<|Zj<|Za<|Zd<|Zd<|Zg<|mv J<|dt (Yp (i:=2) J J J Qp Xk J J J J)<|dt (Yp (i:=3) J J J Qp Xk J J J J) ?_
 refine tt (Zh (n:=6) (Zbg _ _ a b hok ha hb) J J J K3 call22 (Zc 1 J J J Ze) J hw) fun _ _=>as_ J<|Zf<|Za<|Zd<|Zg<|mv J<|dt (Ya (r':= .bool false) (Qc J J J) (congrArg Value.bool (decide_eq_false (fun h=>h (if_neg hc)))))<|Zf<|Za<|Ye J<|Zj<|Za<|Ez [(3,_),(9,_),(10,_),(11,_)] [(0,_),(1,_),(999,_),(2,_),(3,_),(4,_),(88,_),(5,_),(6,_)] (fun(q:Value×List (Int×SL)×Value×Value×Value×Value×Nat×Nat)=>[(13,q.1),(14,.pointer (some ⟨q.2.2.2.2.2.2.1,0,none⟩)),(15,.pointer (some ⟨q.2.2.2.2.2.2.2,0,none⟩))]) (fun(q:Value×List (Int×SL)×Value×Value×Value×Value×Nat×Nat)=>[(60,pp q.1 q.2.1),(61,d9p q.2.2.1 a.1.natAbs),(62,d9p q.2.2.2.1 a.2.natAbs),(63,d9p q.2.2.2.2.1 b.1.natAbs),(64,d9p q.2.2.2.2.2.1 b.2.natAbs),(97,box q.2.2.2.2.2.2.1 50 #[.bool (decide (a.1<0)),q.2.2.1,.bool (decide (a.2<0)),q.2.2.2.1]),(98,box q.2.2.2.2.2.2.2 50 #[.bool (decide (b.1<0)),q.2.2.2.2.1,.bool (decide (b.2<0)),q.2.2.2.2.2.1])]) (fun(q:Value×List (Int×SL)×Value×Value×Value×Value×Nat×Nat)=>Zt q.2.1=dec r) K4 K9 ?_ ?_
 ·refine Oi [2,3] [10]<|Zx (n:=8) [(0,0),(2,0),(4,0)]<|r0' J J (stf (Yo J J) K2)<|r0' J J (stf (Yp (i:=2) J J J Qp Xk J J J J) K2)<|r0' J J (stf (Yp (i:=3) J J J Qp Xk J J J J) K2)<|Yk<|Ba (n:=7) 1 6 7 ?_ ?_ ?_
  ·refine Yj J (Zh (n:=60) (Gn _ _ hok) J J J K1 call16 (Zc 1 J J J Ze) J hw) fun g hg=>Ba (n:=6) 3 6 7 ?_ ?_ ?_
   ·refine Yj J (Zh (n:=61) (Xl a.1 a.2) J J J K1 Ai Ze J hw) fun g_2 _=>Ba (n:=5) 5 6 7 ?_ ?_ ?_
    ·refine Yj J (Zh (n:=63) (Xl b.1 b.2) J J J K1 Ai Ze J hw) fun g_3 _=>Pb (n:=4) 6 7 ?_ ?_
     ·exact Yj J (Zr (i:=97) J J zeroValue50 J J hw K2) fun bx_5 ho=>Zx (n:=0) [(7,1),(8,0),(9,1),(10,3)]<|r1' J (Zr (i:=98) J J zeroValue50 J J hw K2) fun bx_6 ho2=>r0' J J (stf (Mf J J) K2)<|r1' J (Zm (i:=97) J J J J J (by decide) J Nu J J ⟨Zb J,Zl (i:=61) J Zi,Zb J,Zl (i:=62) J Zi,trivial⟩ J hw ho) fun _ _=>r3' J (Zm (i:=98) J J J J J (by decide) J Nu J J ⟨Zb J,Zl (i:=63) J Zi,Zb J,Zl (i:=64) J Zi,trivial⟩ J hw trivial) fun _ _=>Yk<|Yf<|Qt (g.1,g.2,g_2.1,g_2.2,g_3.1,g_3.2,_,_) (hg) K7 K16
     ·exact Yj J (Zr (i:=98) J J zeroValue50 J J hw K2) fun bx_7 ho3=>Zx (n:=0) [(6,1),(8,0),(9,1),(10,3)]<|r1' J (Zr (i:=97) J J zeroValue50 J J hw K2) fun bx_8 ho4=>r0' J J (stf (Mf J J) K2)<|r1' J (Zm (i:=97) J J J J J (by decide) J Nu J J ⟨Zb J,Zl (i:=61) J Zi,Zb J,Zl (i:=62) J Zi,trivial⟩ J hw ho4) fun _ _=>r3' J (Zm (i:=98) J J J J J (by decide) J Nu J J ⟨Zb J,Zl (i:=63) J Zi,Zb J,Zl (i:=64) J Zi,trivial⟩ J hw trivial) fun _ _=>Yk<|Yf<|Qt (g.1,g.2,g_2.1,g_2.2,g_3.1,g_3.2,_,_) (hg) K7 K16
    ·refine Yj J (Zr (i:=97) J J zeroValue50 J J hw K2) fun bx_9 ho5=>Pb (n:=4) 5 7 ?_ ?_
     ·exact Yj J (Zh (n:=63) (Xl b.1 b.2) J J J K1 Ai Ze J hw) fun g_4 _=>Zx (n:=0) [(7,1),(8,0),(9,1),(10,3)]<|r1' J (Zr (i:=98) J J zeroValue50 J J hw K2) fun bx_10 ho6=>r0' J J (stf (Mf J J) K2)<|r1' J (Zm (i:=97) J J J J J (by decide) J Nu J J ⟨Zb J,Zl (i:=61) J Zi,Zb J,Zl (i:=62) J Zi,trivial⟩ J hw ho5) fun _ _=>r3' J (Zm (i:=98) J J J J J (by decide) J Nu J J ⟨Zb J,Zl (i:=63) J Zi,Zb J,Zl (i:=64) J Zi,trivial⟩ J hw trivial) fun _ _=>Yk<|Yf<|Qt (g.1,g.2,g_2.1,g_2.2,g_4.1,g_4.2,_,_) (hg) K7 K16
     ·exact Yj J (Zr (i:=98) J J zeroValue50 J J hw K2) fun bx_11 ho7=>Zx (n:=0) [(5,1),(8,0),(9,1),(10,3)]<|r1' J (Zh (n:=63) (Xl b.1 b.2) J J J K1 Ai Ze J hw) fun g_5 _=>r0' J J (stf (Mf J J) K2)<|r1' J (Zm (i:=97) J J J J J (by decide) J Nu J J ⟨Zb J,Zl (i:=61) J Zi,Zb J,Zl (i:=62) J Zi,trivial⟩ J hw ho5) fun _ _=>r3' J (Zm (i:=98) J J J J J (by decide) J Nu J J ⟨Zb J,Zl (i:=63) J Zi,Zb J,Zl (i:=64) J Zi,trivial⟩ J hw trivial) fun _ _=>Yk<|Yf<|Qt (g.1,g.2,g_2.1,g_2.2,g_5.1,g_5.2,_,_) (hg) K7 K16
    ·refine Yj J (Zr (i:=98) J J zeroValue50 J J hw K2) fun bx_12 ho8=>Pb (n:=4) 5 6 ?_ ?_
     ·exact Yj J (Zh (n:=63) (Xl b.1 b.2) J J J K1 Ai Ze J hw) fun g_6 _=>Zx (n:=0) [(6,1),(8,0),(9,1),(10,3)]<|r1' J (Zr (i:=97) J J zeroValue50 J J hw K2) fun bx_13 ho9=>r0' J J (stf (Mf J J) K2)<|r1' J (Zm (i:=97) J J J J J (by decide) J Nu J J ⟨Zb J,Zl (i:=61) J Zi,Zb J,Zl (i:=62) J Zi,trivial⟩ J hw ho9) fun _ _=>r3' J (Zm (i:=98) J J J J J (by decide) J Nu J J ⟨Zb J,Zl (i:=63) J Zi,Zb J,Zl (i:=64) J Zi,trivial⟩ J hw trivial) fun _ _=>Yk<|Yf<|Qt (g.1,g.2,g_2.1,g_2.2,g_6.1,g_6.2,_,_) (hg) K7 K16
     ·exact Yj J (Zr (i:=97) J J zeroValue50 J J hw K2) fun bx_14 ho10=>Zx (n:=0) [(5,1),(8,0),(9,1),(10,3)]<|r1' J (Zh (n:=63) (Xl b.1 b.2) J J J K1 Ai Ze J hw) fun g_7 _=>r0' J J (stf (Mf J J) K2)<|r1' J (Zm (i:=97) J J J J J (by decide) J Nu J J ⟨Zb J,Zl (i:=61) J Zi,Zb J,Zl (i:=62) J Zi,trivial⟩ J hw ho10) fun _ _=>r3' J (Zm (i:=98) J J J J J (by decide) J Nu J J ⟨Zb J,Zl (i:=63) J Zi,Zb J,Zl (i:=64) J Zi,trivial⟩ J hw trivial) fun _ _=>Yk<|Yf<|Qt (g.1,g.2,g_2.1,g_2.2,g_7.1,g_7.2,_,_) (hg) K7 K16
   ·refine Yj J (Zr (i:=97) J J zeroValue50 J J hw K2) fun bx_15 ho11=>Pb (n:=5) 3 7 ?_ ?_
    ·refine Yj J (Zh (n:=61) (Xl a.1 a.2) J J J K1 Ai Ze J hw) fun g_8 _=>Pb (n:=4) 5 7 ?_ ?_
     ·exact Yj J (Zh (n:=63) (Xl b.1 b.2) J J J K1 Ai Ze J hw) fun g_9 _=>Zx (n:=0) [(7,1),(8,0),(9,1),(10,3)]<|r1' J (Zr (i:=98) J J zeroValue50 J J hw K2) fun bx_16 ho12=>r0' J J (stf (Mf J J) K2)<|r1' J (Zm (i:=97) J J J J J (by decide) J Nu J J ⟨Zb J,Zl (i:=61) J Zi,Zb J,Zl (i:=62) J Zi,trivial⟩ J hw ho11) fun _ _=>r3' J (Zm (i:=98) J J J J J (by decide) J Nu J J ⟨Zb J,Zl (i:=63) J Zi,Zb J,Zl (i:=64) J Zi,trivial⟩ J hw trivial) fun _ _=>Yk<|Yf<|Qt (g.1,g.2,g_8.1,g_8.2,g_9.1,g_9.2,_,_) (hg) K7 K16
     ·exact Yj J (Zr (i:=98) J J zeroValue50 J J hw K2) fun bx_17 ho13=>Zx (n:=0) [(5,1),(8,0),(9,1),(10,3)]<|r1' J (Zh (n:=63) (Xl b.1 b.2) J J J K1 Ai Ze J hw) fun g_10 _=>r0' J J (stf (Mf J J) K2)<|r1' J (Zm (i:=97) J J J J J (by decide) J Nu J J ⟨Zb J,Zl (i:=61) J Zi,Zb J,Zl (i:=62) J Zi,trivial⟩ J hw ho11) fun _ _=>r3' J (Zm (i:=98) J J J J J (by decide) J Nu J J ⟨Zb J,Zl (i:=63) J Zi,Zb J,Zl (i:=64) J Zi,trivial⟩ J hw trivial) fun _ _=>Yk<|Yf<|Qt (g.1,g.2,g_8.1,g_8.2,g_10.1,g_10.2,_,_) (hg) K7 K16
    ·exact Yj J (Zr (i:=98) J J zeroValue50 J J hw K2) fun bx_18 ho14=>Zx (n:=0) [(3,1),(5,1),(8,0),(9,1),(10,3)]<|r1' J (Zh (n:=61) (Xl a.1 a.2) J J J K1 Ai Ze J hw) fun g_11 _=>r1' J (Zh (n:=63) (Xl b.1 b.2) J J J K1 Ai Ze J hw) fun g_12 _=>r0' J J (stf (Mf J J) K2)<|r1' J (Zm (i:=97) J J J J J (by decide) J Nu J J ⟨Zb J,Zl (i:=61) J Zi,Zb J,Zl (i:=62) J Zi,trivial⟩ J hw ho11) fun _ _=>r3' J (Zm (i:=98) J J J J J (by decide) J Nu J J ⟨Zb J,Zl (i:=63) J Zi,Zb J,Zl (i:=64) J Zi,trivial⟩ J hw trivial) fun _ _=>Yk<|Yf<|Qt (g.1,g.2,g_11.1,g_11.2,g_12.1,g_12.2,_,_) (hg) K7 K16
   ·refine Yj J (Zr (i:=98) J J zeroValue50 J J hw K2) fun bx_19 ho15=>Pb (n:=5) 3 6 ?_ ?_
    ·refine Yj J (Zh (n:=61) (Xl a.1 a.2) J J J K1 Ai Ze J hw) fun g_13 _=>Pb (n:=4) 5 6 ?_ ?_
     ·exact Yj J (Zh (n:=63) (Xl b.1 b.2) J J J K1 Ai Ze J hw) fun g_14 _=>Zx (n:=0) [(6,1),(8,0),(9,1),(10,3)]<|r1' J (Zr (i:=97) J J zeroValue50 J J hw K2) fun bx_20 ho16=>r0' J J (stf (Mf J J) K2)<|r1' J (Zm (i:=97) J J J J J (by decide) J Nu J J ⟨Zb J,Zl (i:=61) J Zi,Zb J,Zl (i:=62) J Zi,trivial⟩ J hw ho16) fun _ _=>r3' J (Zm (i:=98) J J J J J (by decide) J Nu J J ⟨Zb J,Zl (i:=63) J Zi,Zb J,Zl (i:=64) J Zi,trivial⟩ J hw trivial) fun _ _=>Yk<|Yf<|Qt (g.1,g.2,g_13.1,g_13.2,g_14.1,g_14.2,_,_) (hg) K7 K16
     ·exact Yj J (Zr (i:=97) J J zeroValue50 J J hw K2) fun bx_21 ho17=>Zx (n:=0) [(5,1),(8,0),(9,1),(10,3)]<|r1' J (Zh (n:=63) (Xl b.1 b.2) J J J K1 Ai Ze J hw) fun g_15 _=>r0' J J (stf (Mf J J) K2)<|r1' J (Zm (i:=97) J J J J J (by decide) J Nu J J ⟨Zb J,Zl (i:=61) J Zi,Zb J,Zl (i:=62) J Zi,trivial⟩ J hw ho17) fun _ _=>r3' J (Zm (i:=98) J J J J J (by decide) J Nu J J ⟨Zb J,Zl (i:=63) J Zi,Zb J,Zl (i:=64) J Zi,trivial⟩ J hw trivial) fun _ _=>Yk<|Yf<|Qt (g.1,g.2,g_13.1,g_13.2,g_15.1,g_15.2,_,_) (hg) K7 K16
    ·exact Yj J (Zr (i:=97) J J zeroValue50 J J hw K2) fun bx_22 ho18=>Zx (n:=0) [(3,1),(5,1),(8,0),(9,1),(10,3)]<|r1' J (Zh (n:=61) (Xl a.1 a.2) J J J K1 Ai Ze J hw) fun g_16 _=>r1' J (Zh (n:=63) (Xl b.1 b.2) J J J K1 Ai Ze J hw) fun g_17 _=>r0' J J (stf (Mf J J) K2)<|r1' J (Zm (i:=97) J J J J J (by decide) J Nu J J ⟨Zb J,Zl (i:=61) J Zi,Zb J,Zl (i:=62) J Zi,trivial⟩ J hw ho18) fun _ _=>r3' J (Zm (i:=98) J J J J J (by decide) J Nu J J ⟨Zb J,Zl (i:=63) J Zi,Zb J,Zl (i:=64) J Zi,trivial⟩ J hw trivial) fun _ _=>Yk<|Yf<|Qt (g.1,g.2,g_16.1,g_16.2,g_17.1,g_17.2,_,_) (hg) K7 K16
  ·refine Yj J (Zr (i:=97) J J zeroValue50 J J hw K2) fun bx_23 ho19=>Pb (n:=6) 1 7 ?_ ?_
   ·refine Yj J (Zh (n:=60) (Gn _ _ hok) J J J K1 call16 (Zc 1 J J J Ze) J hw) fun g_18 hg_2=>Pb (n:=5) 3 7 ?_ ?_
    ·refine Yj J (Zh (n:=61) (Xl a.1 a.2) J J J K1 Ai Ze J hw) fun g_19 _=>Pb (n:=4) 5 7 ?_ ?_
     ·exact Yj J (Zh (n:=63) (Xl b.1 b.2) J J J K1 Ai Ze J hw) fun g_20 _=>Zx (n:=0) [(7,1),(8,0),(9,1),(10,3)]<|r1' J (Zr (i:=98) J J zeroValue50 J J hw K2) fun bx_24 ho20=>r0' J J (stf (Mf J J) K2)<|r1' J (Zm (i:=97) J J J J J (by decide) J Nu J J ⟨Zb J,Zl (i:=61) J Zi,Zb J,Zl (i:=62) J Zi,trivial⟩ J hw ho19) fun _ _=>r3' J (Zm (i:=98) J J J J J (by decide) J Nu J J ⟨Zb J,Zl (i:=63) J Zi,Zb J,Zl (i:=64) J Zi,trivial⟩ J hw trivial) fun _ _=>Yk<|Yf<|Qt (g_18.1,g_18.2,g_19.1,g_19.2,g_20.1,g_20.2,_,_) (hg_2) K7 K16
     ·exact Yj J (Zr (i:=98) J J zeroValue50 J J hw K2) fun bx_25 ho21=>Zx (n:=0) [(5,1),(8,0),(9,1),(10,3)]<|r1' J (Zh (n:=63) (Xl b.1 b.2) J J J K1 Ai Ze J hw) fun g_21 _=>r0' J J (stf (Mf J J) K2)<|r1' J (Zm (i:=97) J J J J J (by decide) J Nu J J ⟨Zb J,Zl (i:=61) J Zi,Zb J,Zl (i:=62) J Zi,trivial⟩ J hw ho19) fun _ _=>r3' J (Zm (i:=98) J J J J J (by decide) J Nu J J ⟨Zb J,Zl (i:=63) J Zi,Zb J,Zl (i:=64) J Zi,trivial⟩ J hw trivial) fun _ _=>Yk<|Yf<|Qt (g_18.1,g_18.2,g_19.1,g_19.2,g_21.1,g_21.2,_,_) (hg_2) K7 K16
    ·exact Yj J (Zr (i:=98) J J zeroValue50 J J hw K2) fun bx_26 ho22=>Zx (n:=0) [(3,1),(5,1),(8,0),(9,1),(10,3)]<|r1' J (Zh (n:=61) (Xl a.1 a.2) J J J K1 Ai Ze J hw) fun g_22 _=>r1' J (Zh (n:=63) (Xl b.1 b.2) J J J K1 Ai Ze J hw) fun g_23 _=>r0' J J (stf (Mf J J) K2)<|r1' J (Zm (i:=97) J J J J J (by decide) J Nu J J ⟨Zb J,Zl (i:=61) J Zi,Zb J,Zl (i:=62) J Zi,trivial⟩ J hw ho19) fun _ _=>r3' J (Zm (i:=98) J J J J J (by decide) J Nu J J ⟨Zb J,Zl (i:=63) J Zi,Zb J,Zl (i:=64) J Zi,trivial⟩ J hw trivial) fun _ _=>Yk<|Yf<|Qt (g_18.1,g_18.2,g_22.1,g_22.2,g_23.1,g_23.2,_,_) (hg_2) K7 K16
   ·exact Yj J (Zr (i:=98) J J zeroValue50 J J hw K2) fun bx_27 ho23=>Zx (n:=0) [(1,1),(3,1),(5,1),(8,0),(9,1),(10,3)]<|r1' J (Zh (n:=60) (Gn _ _ hok) J J J K1 call16 (Zc 1 J J J Ze) J hw) fun g_24 hg_3=>r1' J (Zh (n:=61) (Xl a.1 a.2) J J J K1 Ai Ze J hw) fun g_25 _=>r1' J (Zh (n:=63) (Xl b.1 b.2) J J J K1 Ai Ze J hw) fun g_26 _=>r0' J J (stf (Mf J J) K2)<|r1' J (Zm (i:=97) J J J J J (by decide) J Nu J J ⟨Zb J,Zl (i:=61) J Zi,Zb J,Zl (i:=62) J Zi,trivial⟩ J hw ho19) fun _ _=>r3' J (Zm (i:=98) J J J J J (by decide) J Nu J J ⟨Zb J,Zl (i:=63) J Zi,Zb J,Zl (i:=64) J Zi,trivial⟩ J hw trivial) fun _ _=>Yk<|Yf<|Qt (g_24.1,g_24.2,g_25.1,g_25.2,g_26.1,g_26.2,_,_) (hg_3) K7 K16
  ·refine Yj J (Zr (i:=98) J J zeroValue50 J J hw K2) fun bx_28 ho24=>Pb (n:=6) 1 6 ?_ ?_
   ·refine Yj J (Zh (n:=60) (Gn _ _ hok) J J J K1 call16 (Zc 1 J J J Ze) J hw) fun g_27 hg_4=>Pb (n:=5) 3 6 ?_ ?_
    ·refine Yj J (Zh (n:=61) (Xl a.1 a.2) J J J K1 Ai Ze J hw) fun g_28 _=>Pb (n:=4) 5 6 ?_ ?_
     ·exact Yj J (Zh (n:=63) (Xl b.1 b.2) J J J K1 Ai Ze J hw) fun g_29 _=>Zx (n:=0) [(6,1),(8,0),(9,1),(10,3)]<|r1' J (Zr (i:=97) J J zeroValue50 J J hw K2) fun bx_29 ho25=>r0' J J (stf (Mf J J) K2)<|r1' J (Zm (i:=97) J J J J J (by decide) J Nu J J ⟨Zb J,Zl (i:=61) J Zi,Zb J,Zl (i:=62) J Zi,trivial⟩ J hw ho25) fun _ _=>r3' J (Zm (i:=98) J J J J J (by decide) J Nu J J ⟨Zb J,Zl (i:=63) J Zi,Zb J,Zl (i:=64) J Zi,trivial⟩ J hw trivial) fun _ _=>Yk<|Yf<|Qt (g_27.1,g_27.2,g_28.1,g_28.2,g_29.1,g_29.2,_,_) (hg_4) K7 K16
     ·exact Yj J (Zr (i:=97) J J zeroValue50 J J hw K2) fun bx_30 ho26=>Zx (n:=0) [(5,1),(8,0),(9,1),(10,3)]<|r1' J (Zh (n:=63) (Xl b.1 b.2) J J J K1 Ai Ze J hw) fun g_30 _=>r0' J J (stf (Mf J J) K2)<|r1' J (Zm (i:=97) J J J J J (by decide) J Nu J J ⟨Zb J,Zl (i:=61) J Zi,Zb J,Zl (i:=62) J Zi,trivial⟩ J hw ho26) fun _ _=>r3' J (Zm (i:=98) J J J J J (by decide) J Nu J J ⟨Zb J,Zl (i:=63) J Zi,Zb J,Zl (i:=64) J Zi,trivial⟩ J hw trivial) fun _ _=>Yk<|Yf<|Qt (g_27.1,g_27.2,g_28.1,g_28.2,g_30.1,g_30.2,_,_) (hg_4) K7 K16
    ·exact Yj J (Zr (i:=97) J J zeroValue50 J J hw K2) fun bx_31 ho27=>Zx (n:=0) [(3,1),(5,1),(8,0),(9,1),(10,3)]<|r1' J (Zh (n:=61) (Xl a.1 a.2) J J J K1 Ai Ze J hw) fun g_31 _=>r1' J (Zh (n:=63) (Xl b.1 b.2) J J J K1 Ai Ze J hw) fun g_32 _=>r0' J J (stf (Mf J J) K2)<|r1' J (Zm (i:=97) J J J J J (by decide) J Nu J J ⟨Zb J,Zl (i:=61) J Zi,Zb J,Zl (i:=62) J Zi,trivial⟩ J hw ho27) fun _ _=>r3' J (Zm (i:=98) J J J J J (by decide) J Nu J J ⟨Zb J,Zl (i:=63) J Zi,Zb J,Zl (i:=64) J Zi,trivial⟩ J hw trivial) fun _ _=>Yk<|Yf<|Qt (g_27.1,g_27.2,g_31.1,g_31.2,g_32.1,g_32.2,_,_) (hg_4) K7 K16
   ·exact Yj J (Zr (i:=97) J J zeroValue50 J J hw K2) fun bx_32 ho28=>Zx (n:=0) [(1,1),(3,1),(5,1),(8,0),(9,1),(10,3)]<|r1' J (Zh (n:=60) (Gn _ _ hok) J J J K1 call16 (Zc 1 J J J Ze) J hw) fun g_33 hg_5=>r1' J (Zh (n:=61) (Xl a.1 a.2) J J J K1 Ai Ze J hw) fun g_34 _=>r1' J (Zh (n:=63) (Xl b.1 b.2) J J J K1 Ai Ze J hw) fun g_35 _=>r0' J J (stf (Mf J J) K2)<|r1' J (Zm (i:=97) J J J J J (by decide) J Nu J J ⟨Zb J,Zl (i:=61) J Zi,Zb J,Zl (i:=62) J Zi,trivial⟩ J hw ho28) fun _ _=>r3' J (Zm (i:=98) J J J J J (by decide) J Nu J J ⟨Zb J,Zl (i:=63) J Zi,Zb J,Zl (i:=64) J Zi,trivial⟩ J hw trivial) fun _ _=>Yk<|Yf<|Qt (g_33.1,g_33.2,g_34.1,g_34.2,g_35.1,g_35.2,_,_) (hg_5) K7 K16
 ·rintro⟨vx,zz,w1,w2,w3,w4,b7,b8⟩ hG
  dsimp only at hG
  simp only [CA,NA]
  have hgl9:=congrArg List.length hG
  rw [Zw]at hgl9
  refine Zd<|Zd<|Zg<|mv J<|dt (Yp (i:=97) J J J Eb Nu J J J J)<|dt (Yp (i:=98) J J J Eb Nu J J J J)<|tt (Zh (n:=6) (Ze2 _ _ _ _ _ _ a.1 a.2 b.1 b.2 hap hbp (by rw [hG];exact hd) hc) J J J K3 call24 (Zc 60 J J J (Zc 61 J J J (Zc 62 J J J (Zc 63 J J J (Zc 64 J J J Ze))))) J hw) fun _ _=>dt (Xg J J)<|Zf<|Za<|Mm J (fun h197=>?_) (fun h197=>?_)
  ·have hn:ngb (Pq (dec r)) (chx (dec r)) a b=false:=by rw [←hG];exact Iw h197
   exact Zd<|Zg<|dt (Hz (i:=5) J J J Ce Km J J J J J J J J)<|dt (Hz (i:=6) J J J Ce Km J J J J J J J J)<|dt (Ya (r':= .bool true) (Zbs J J J Zvv (fun w=>Zku w _ _ _ _ _ _ _ _ _ _ _ _ _ _ _ _)) (congrArg Value.bool (by rw [(fz_f (hq:=hq) hn).1];simp [Lz])))<|mv J<|gdt (Yo J J) J J<|gdt (Ya (r':= .bool true) (Pg J J J) (congrArg Value.bool (by rw [(fz_f (hq:=hq) hn).2];decide))) J J<|dt (Ys J J J)<|mv J<|gtt (Zh (n:=6) (La) J J J trivial call11 Ze J hw) J J J fun _ _=>dt (Ys J J J)<|as_ J<|Zf<|Za<|Zu<|Xa<|xU hsc results5 J J J
  ·have hn:ngb (Pq (dec r)) (chx (dec r)) a b=true:=by rw [←hG];exact Fm h197
   refine Zj<|Za<|Zd<|Zg<|mv J<|dt (Yp (i:=97) J J J Eb Nu J J J J)<|dt (Yp (i:=98) J J J Eb Nu J J J J)<|mv J<|tt (Zh (n:=7) (Zwz _ _ _ _ _ _ a b hq (by omega) ha hb hle (by rw [hG];exact hd)) J J J K4 call32 (Zc 60 J J J (Zc 61 J J J (Zc 62 J J J (Zc 63 J J J (Zc 64 J J J Ze))))) J hw) fun g_36 _=>mv J<|dt (Yh J J J)<|dt (Yh J J J)<|tt (Zn (i:=11) J J zeroValue50 J J hw) fun bx_33 _=>tt (Zn (i:=12) J J zeroValue50 J J hw) fun bx_34 _=>tt (Zm (i:=11) J J J J J (by decide) J Nu J J ⟨Zb J,Zl (i:=7) J Zi,Zb J,Zl (i:=8) J Zi,trivial⟩ J hw trivial) fun _ _=>tt (Zm (i:=12) J J J J J (by decide) J Nu J J ⟨Zb J,Zl (i:=9) J Zi,Zb J,Zl (i:=10) J Zi,trivial⟩ J hw trivial) fun _ _=>Zf<|Za<|Zd<|Zg<|dt (Yp (i:=11) J J J Eb Nu J J J J)<|tt (Zh (n:=12) (Zgn _ _ (frs (Zt zz) hq (slow a) (slow b)).1.1 (frs (Zt zz) hq (slow a) (slow b)).1.2 (by rw [hG];omega) (by rw [hG];omega)) J J J K1 call28 (Zc 7 J J J (Zc 8 J J J Ze)) J hw) fun _ _=>mv J<|dt (Yh J J J)<|dt (Yh J J J)<|tt (Zn (i:=13) J J zeroValue41 J J hw) (fun bx_35 _=>?_)
   refine tt (Zm (i:=13) J J J J J (by decide) J Xk J J ⟨Zb J,Zb J,Zb J,Zb J,trivial⟩ J hw trivial) fun _ _=>as_ J<|Zf<|Za<|Zd<|Zg<|dt (Yp (i:=12) J J J Eb Nu J J J J)<|tt (Zh (n:=13) (Zgn _ _ (frs (Zt zz) hq (slow a) (slow b)).2.1 (frs (Zt zz) hq (slow a) (slow b)).2.2 (by rw [hG];omega) (by rw [hG];omega)) J J J K1 call28 (Zc 9 J J J (Zc 10 J J J Ze)) J hw) fun _ _=>mv J<|dt (Yh J J J)<|dt (Yh J J J)<|tt (Zn (i:=14) J J zeroValue41 J J hw) fun bx_36 _=>tt (Zm (i:=14) J J J J J (by decide) J Xk J J ⟨Zb J,Zb J,Zb J,Zb J,trivial⟩ J hw trivial) fun _ _=>as_ J<|Zf<|Za<|Zd<|Zg<|dt (Hz (i:=5) J J J Ce Km J J J J J J J J)<|dt (Yp (i:=13) J J J Qp Xk J J J J)<|dt (Yp (i:=14) J J J Qp Xk J J J J)<|dt (Pv (ivs:=[(0,_),(1,_)]) J K4 (fun a w hs=>Zvj))<|dt (Ya (r':= .bool true) (Zbs J J J Zvv (fun w=>Zku w _ _ _ _ _ _ _ _ _ _ _ _ _ _ _ _)) (congrArg Value.bool (by rw [hG,q1.1,q1.2,q2.1,q2.2,(fz_t (hq:=hq) hn).1];simp [Lz])))<|mv J<|gdt (Yo J J) J J<|gdt (Ya (r':= .bool true) (Pg J J J) (congrArg Value.bool (by rw [(fz_t (hq:=hq) hn).2];decide))) J J<|dt (Ys J J J)<|mv J ?_
   exact gtt (Zh (n:=14) (La) J J J trivial call11 Ze J hw) J J J fun _ _=>dt (Ys J J J)<|as_ J<|Zf<|Za<|Zu<|xU hsc results5 J J J
theorem Zx5(v:Value)(r:List (Bool×ByteArray))(b1:Bool)(s1:ByteArray)(c1:Bool)(t1:ByteArray)(b2:Bool)(s2:ByteArray)(c2:Bool)(t2:ByteArray)(hq:Int):Cal Tryz.prog 5 #[v,.agg #[.bool b1,.string s1,.bool c1,.string t1],.agg #[.bool b2,.string s2,.bool c2,.string t2],.int .i64 hq] [slp 2 Zfg v r] false (G:=Unit) (fun _=>True) (fun _=> .bool true) (fun _=>[]):=by
 generalize hz1:(((b1,s1),(c1,t1)):RZ)=z1
 generalize hz2:(((b2,s2),(c2,t2)):RZ)=z2
 suffices h:Cal Tryz.prog 5 #[v,.agg #[.bool z1.1.1,.string z1.1.2,.bool z1.2.1,.string z1.2.2],.agg #[.bool z2.1.1,.string z2.1.2,.bool z2.2.1,.string z2.2.2],.int .i64 hq] [slp 2 Zfg v r] false (G:=Unit) (fun _=>True) (fun _=> .bool true) (fun _=>[]) by
  rw [←hz1,←hz2]at h;exact h
 clear hz1 hz2
 by_cases hn:(smR r && [z1,z2].all enR)=true
 ·have hn':=hn
  rw [Bool.and_eq_true]at hn
  obtain⟨hs,he⟩:=hn
  by_cases hm:12<hq∧hq≤100
  ·exact Zfe v r z1 z2 hq (.inr hm)
  by_cases hh:hq<0∨100<hq
  ·exact Zkl v r z1 z2 hq hs he hh
  obtain⟨k,rfl⟩:∃k:Nat,hq=(k:Int):=⟨hq.toNat,by omega⟩
  have hk:k≤12:=by omega
  by_cases hbad:(okP r && qOK z1 && qOK z2)=true
  ·rw [Bool.and_eq_true,Bool.and_eq_true]at hbad
   obtain⟨⟨hok,q1⟩,q2⟩:=hbad
   obtain⟨e1,e2⟩:=all2 he
   obtain⟨a,ha,rfl⟩:=e32_q q1 e1
   obtain⟨b,hb,rfl⟩:=e32_q q2 e2
   by_cases hc:0<cmp a b
   ·exact Zkj v r a b ha hb hs he hok k hk hc
   ·exact Zmm v r a b ha hb hs he hok k hk hc
  ·exact Zkk v r z1 z2 hs he k hk (by simpa using hbad)
 ·exact Zfe v r z1 z2 hq (.inl (by simpa using hn))
end Go.Sky
namespace Go.Proofs.YtcmiiammekgooaaGreat
open Go.ChangeShapes Go.WideShapes Go.ChangeAt Go.RowKit Go.Joins Go.Deep Go.Sky
theorem own:ownKnob Tryz.prog.godebug=none:=by kernel_rfl
theorem Ziu:laidOutB Tryz.prog=true:=by kernel_rfl
set_option maxRecDepth 100000 in
theorem lifted(os:Os)(started:os.Started)(H:Type)(enc:TypeId×Value→H) :
  ReturnsInHanded {} Tryz.checked os 5 .any (Rows.signFirstsSpec.pre6 enc Tryz.prog Tryz.f5 Rows.signFirstsRow.domain false) (Rows.signFirstsSpec.post enc Tryz.prog Tryz.f5 false true false false):=by
 refine returnsInHanded_of_change (C:=Tryz.checked) own started (by kernel_rfl) Tryz.func5
  (ChangeSpec.witness6 (enc:=enc) (C:=Tryz.checked) false ⟨#[],#[.slice none 0 0,.agg #[.bool false,.string ByteArray.empty,.bool false,.string ByteArray.empty],.agg #[.bool false,.string ByteArray.empty,.bool false,.string ByteArray.empty],.int .i64 0],[]⟩ 8 (by kernel_rfl) (by kernel_rfl) (by kernel_rfl) (by kernel_rfl)) ?_
 intro W base args ds gs before hval0 hW hcnd _
 have hval:∀(j:Nat) t v,Tryz.f5.params[j]? = some t→args[j]? = some v→Value.okWide Tryz.prog W .any base t v:=hval0
 have hW':=hW
 obtain⟨p,q,hA0,hV,rfl,hfz,hnd⟩:=hW
 have hA:DataW.TrodAll enc Tryz.prog W 0 (fun _=>true) true Tryz.f5.params.toList args.toList ds p:=hA0
 rw [Tryz.params5]at hA hval
 obtain⟨v0,vs0,d0,ds0,p0,q0,hargs,rfl,rfl,h0,r0⟩:=trodAll_cons hA
 obtain⟨v1,vs1,d1,ds1,p1,q1,rfl,rfl,rfl,h1,r1⟩:=trodAll_cons r0
 obtain⟨v2,vs2,d2,ds2,p2,q2,rfl,rfl,rfl,h2,r2⟩:=trodAll_cons r1
 obtain⟨v3,vs3,d3,ds3,p3,q3,rfl,rfl,rfl,h3,r3⟩:=trodAll_cons r2
 obtain⟨rfl,rfl,rfl⟩:=trodAll_nil r3
 obtain rfl:args=#[v0,v1,v2,v3]:=by cases args;simp_all
 obtain⟨rfl,rfl⟩:=trodVars_none hV
 have lt0:∀x∈p0,x.block<W.heap.size:=by obtain⟨m,hm⟩:=h0;exact DataW.trod_lt m _ _ _ hm
 obtain⟨l0,hl0⟩:=Zqf Tryz.underlying23 Tryz.underlying31 (by kernel_rfl) rfl rfl (by kernel_rfl) (by kernel_rfl) (by kernel_rfl) (by kernel_rfl) (hval 0 23 v0 rfl rfl) h0 lt0
 have lt1:∀x∈p1,x.block<W.heap.size:=by obtain⟨m,hm⟩:=h1;exact DataW.trod_lt m _ _ _ hm
 obtain⟨b1,s1,c1,t1,rfl⟩:=Zgv Tryz.underlying41 Tryz.underlying31 (by kernel_rfl) (by kernel_rfl) rfl rfl rfl rfl (by kernel_rfl) (by kernel_rfl) (by kernel_rfl) (by kernel_rfl) rfl rfl (hval 1 41 v1 rfl rfl) h1
 have lt2:∀x∈p2,x.block<W.heap.size:=by obtain⟨m,hm⟩:=h2;exact DataW.trod_lt m _ _ _ hm
 obtain⟨b2,s2,c2,t2,rfl⟩:=Zgv Tryz.underlying41 Tryz.underlying31 (by kernel_rfl) (by kernel_rfl) rfl rfl rfl rfl (by kernel_rfl) (by kernel_rfl) (by kernel_rfl) (by kernel_rfl) rfl rfl (hval 2 41 v2 rfl rfl) h2
 have lt3:∀x∈p3,x.block<W.heap.size:=by obtain⟨m,hm⟩:=h3;exact DataW.trod_lt m _ _ _ hm
 obtain⟨n3,rfl⟩:=okWide_int Tryz.underlying3 (hval 3 3 v3 rfl rfl)
 clear hA0 hval0
 refine(Zx5 v0 l0 b1 s1 c1 t1 b2 s2 c2 t2 n3 W (fun p hp=>by cases hp with | head=>exact hl0 | tail _ hp=>cases hp)).mono fun e W' ⟨_,he,_,bel,_⟩=>?_
 subst he
 exact⟨_,rfl,_,_,_,[],_,[],hW',trodAll_mk1 (shut_bool Tryz.underlying4 _),(trodAll_cons_mk (Below.trod Ziu (by kernel_rfl) (of_decide_eq_true (by kernel_rfl)) h0 bel lt0) (trodAll_cons_mk (Below.trod Ziu (by kernel_rfl) (of_decide_eq_true (by kernel_rfl)) h1 bel lt1) (trodAll_cons_mk (Below.trod Ziu (by kernel_rfl) (of_decide_eq_true (by kernel_rfl)) h2 bel lt2) (trodAll_cons_mk (Below.trod Ziu (by kernel_rfl) (of_decide_eq_true (by kernel_rfl)) h3 bel lt3) trodAll_mk0)))),rfl,bel.frame _,fun h=>by cases h⟩
theorem x_holds : Rows.SignFirstsSaid :=
 OpenClaim.holds_of_wide 5 Tryz.f5 rfl rfl rfl rfl rfl rfl rfl ⟨rfl,rfl,rfl,rfl,rfl⟩ rfl rfl rfl rfl rfl (by kernel_rfl) Tryz.func5 (by kernel_rfl)
  (of_decide_eq_true (by kernel_rfl)) (by unfold Func.isWrapper;first | (rw [if_pos (by decide +kernel)];kernel_rfl) | (rw [if_neg (by decide +kernel)];exact⟨rfl,rfl⟩))
  (fun os started H enc _=>lifted os started H enc)
#print axioms x_holds
end Go.Proofs.YtcmiiammekgooaaGreat

