/- Rules, arithmetic and contracts: part 10. No conditions but those that each theorem names. -/
import Derived.Test.YtljmhpopdmadkaaGreatLv08
set_option linter.all false
namespace Go.Sky
open Go.Proofs.Tryz
open Go.Proofs
set_option synthInstance.maxHeartbeats 0
set_option synthInstance.maxSize 100000
set_option maxRecDepth 20000
set_option maxHeartbeats 4000000
set_option linter.unusedSimpArgs false
theorem Zcv(v:Value)(xs:List Int)(hs:Sz 65536 xs):Cal prog 162 #[v] [Xc 2 wv v xs] true (G:=Unit) (fun _=>True) (fun _=>Ll v (tzl xs).length) (fun _=>[Xc 2 wv (Ll v (tzl xs).length) (tzl xs)]):=by
 refine Zh func162 ntmps162 fun w0 sc hw hsc=>?_
 refine Oc (Zt1 (i:=1) J Zn) (fun hself=>?_)
 refine Oc (Lp (i:=1) J Zn) fun hlen=>go 7 ?_
 refine lp (G:=Nat) [] [0] (fun k=>[(0,Ll v k)]) (fun k=>[(1,Xc 2 wv (Ll v k) (xs.take k))]) (fun k=>(k≤xs.length)∧(tzl (xs.take k)=tzl xs)) (fun k=>k) xs.length ⟨Nat.le_refl _,by rw [List.take_length]⟩ ⟨by rw [hself];rfl,trivial⟩ ⟨by rw [hself,List.take_length];rfl,trivial⟩ ?_
 rintro k ⟨hk,ht⟩
 have hl:(xs.take k).length=k:=by rw [List.length_take];omega
 refine go 7 ?_
 refine Ys (d:=6) J (fun s35=>?_) (fun s35=>?_)
 ·refine go 4 ⟨O,?_⟩
  refine Dc (Zy (ii:=1) (i:=k-1) J J J J Zn Lq Ix) J J<|go 1 ⟨O,?_⟩
  refine Bl 1 [] (Il _ ((hs.take _).getD _)) fun _ _=>go 4 ?_
  refine Zc J (fun h35=>?_) (fun h35=>?_)
  ·have hstep:=Zps hk O (Ziy (k:=k) O (Int.sign_eq_zero_iff_zero.1 ‹_›):cf xs (k-1)=0)
   refine go 8 ⟨O,?_⟩
   refine dt (Zxd (ii:=1) (i:=k-1) J J J J Zn Lq Ix)<|go 3 ?_
   exact Zw (Ybu 1 1 (k-1) J J)<|Yq (k-1) ⟨O1,by rw [←ht,←hstep]⟩ O1 ⟨by rw [←Ge v k (k-1)];rfl,trivial⟩ ⟨by rw [Ge,List.take_take,Nat.min_eq_left O];rfl,trivial⟩
  ·refine go 12 ?_
   have hx:tzl xs=xs.take k:=by rw [←ht];exact Zeo hk (by first | (left;omega) | (right;exact Zeq (k:=k) O ‹_›))
   exact Xa hsc () results162 (by rw [hx,hl]) trivial (Oe 1 Za (by rw [hx,hl]))
 ·refine go 24 ?_
  have hx:tzl xs=xs.take k:=by rw [←ht];exact Zeo hk (by first | (left;omega) | (right;exact Zeq (k:=k) O ‹_›))
  exact Xa hsc () results162 (by rw [hx,hl]) trivial (Oe 1 Za (by rw [hx,hl]))
theorem Ztg(v:Value)(r:List (Bool×ByteArray)):Ok prog 163 #[v] [Xc 2 Zt6 v r] (.bool (okP r)):=by
 refine Zh func163 ntmps163 fun w0 sc hw hsc=>?_
 refine Oc (Lp (i:=1) J Zn) fun hlen=>go 14 ?_
 refine lp (G:=Nat) [0,5,6] [0,1] (fun k=>[(7,.int .i64 (k:Int))]) (fun k=>[]) (fun k=>(k≤r.length)∧((r.take k).all (fun w=>okW w.1 w.2)=true)) (fun k=>r.length-k) 0 ⟨O1,O5⟩ K1 trivial ?_
 rintro k ⟨hk,ha⟩
 refine go 6 ?_
 refine Zc J (fun h51=>?_) (fun h51=>?_)
 ·refine go 7 ⟨O2,?_⟩
  refine dt (Xy (ii:=1) (false,⟨#[]⟩) J J J Zn pW O2)<|Ya (Zs 2) fun b _=>go 6 ?_
  refine cl 2 [] (Zaa _ _) fun _ _=>go 3 ?_
  refine Oy J (fun h52=>?_) (fun h52=>?_)
  ·refine go 11 ?_
   exact Xa hsc () results163 (by rw [Yhn (Zf (i:=k) (d:=(false,⟨#[]⟩))) (by simp_all)]) trivial Za
  ·refine go 7 ⟨O,?_⟩
   exact Yq (k+1) ⟨O1,by rw [Pz (false,⟨#[]⟩) _ _ O,List.all_append,ha];simpa using h52⟩ O1 K1 trivial
 ·refine go 6 ?_
  obtain rfl:k=r.length:=O
  rw [List.take_length]at ha
  obtain⟨xs,hxs,rfl⟩:=Zqy (List.all_eq_true.1 ha)
  have hsz:=Sz.of_mem hxs
  rw [List.length_map]at hlen
  refine Zg (Zm9 1 (q:=Xc 2 wv v xs) J J (Ygr v xs) (fun _ h=>fpn h) J)<|go 5 ?_
  refine Ys (d:=18) J (fun s56=>?_) (fun s56=>?_)
  ·refine go 4 ?_
   refine Ys (d:=22) J (fun s56_2=>?_) (fun s56_2=>?_)
   ·refine go 14 ?_
    exact Xa hsc () results163 (by rw [Znx hxs];first | (simp_all;done) | (simp_all;omega)) trivial Za
   ·refine go 4 ⟨O,?_⟩
    refine Dc (Zy (ii:=1) (i:=xs.length-1) J J J J Zn Lq Ix) J J<|go 1 ⟨O,?_⟩
    refine Bl 2 [] (Il _ (hsz.getD _)) fun _ _=>go 7 ?_
    exact Xa hsc () results163 (by rw [Znx hxs];first | (simp_all;done) | (simp_all;omega)) trivial Za
  ·refine go 18 ?_
   exact Xa hsc () results163 (by rw [Znx hxs];first | (simp_all;done) | (simp_all;omega)) trivial Za
theorem Xk(v:Value)(xs:List Int)(h:Vp xs):Cal prog 163 #[v] [Xc 2 wv v xs] false (G:=Unit) (fun _=>True) (fun _=> .bool true) (fun _=>[]):=okP_wr h▸(Ztg v (xs.map wr)).imp (Zs1 v xs) (fun _ h=>fpm h)
theorem Ka(v:Value)(xs:List Int)(hs:Sz 65536 xs):Ok prog 167 #[v] [Xc 2 wv v xs] (.int .i64 (Xw xs:Int)):=by
 refine Zh func167 ntmps167 fun w0 sc hw hsc=>?_
 refine Oc (Lp (i:=1) J Zn) fun hlen=>go 19 ?_
 refine lp (G:=Nat) [6,7] [0,1] (fun k=>[(8,.int .i64 (k:Int)),(3,.int .i64 (Xw (xs.take k):Int))]) (fun k=>[]) (fun k=>k≤xs.length) (fun k=>xs.length-k) 0 O1 K2 trivial ?_
 rintro k hk
 refine go 6 ?_
 refine Zc J (fun h83=>?_) (fun h83=>?_)
 ·refine go 8 ⟨O2,O2,?_⟩
  refine Ya (Zs 2) fun b _=>go 6 ?_
  refine cl 2 [] (Ziq _ (hs.getD _)) fun _ _=>?_
  refine dt (Zmq J J J)<|go 8 ⟨O,?_⟩
  exact Yq (k+1) O1 O1 ⟨J,by rw [Pz 0 _ _ O,Ydq];exact congrArg some (Zaz O),trivial⟩ trivial
 ·refine go 12 ?_
  exact Xa hsc () results167 (by rw [List.take_of_length_le O]) trivial Za
theorem Zoj(bd:Nat)(t:TypeId)(e e2:Int)(n:Bool)(s:ByteArray):Zg0 prog 195 #[.pointer (some ⟨bd,0,none⟩),.agg #[.bool n,.string s],.int .i64 e2] [] false bd t #[.int .i64 e] (G:=Unit) (fun _=>True) (fun _=> .agg #[.bool n,.string s]) (fun _=>#[.int .i64 (if e=0 then e2 else e)]) (fun _=>[]):=by
 refine Za5 func195 J ntmps195 J trivial ?_
 intro w0 sc hw hsc;have hw:=Hw.mk hw
 simp only [Ox,Ob]
 refine go 2 ?_
 refine Ya (Yl 2) fun b _=>Ya (Zs 3) fun b_2 _=>go 12 ?_
 refine Zc J (fun h19=>?_) (fun h19=>?_)
 ·refine go 15 ?_
  exact Zbc (.inl J) hsc () _ (fun a w hs=>Zgh hs results195 (Hi (i:=3) J J isAgg93 Ix J)) J trivial 1 J (by simp_all [Da]) J J Za
 ·refine go 9 ?_
  exact Zbc (.inl J) hsc () _ (fun a w hs=>Zgh hs results195 (Hi (i:=3) J J isAgg93 Ix J)) J trivial 1 J (by simp_all [Da]) J J Za
theorem d_mul_(bd:Nat)(e x y:Int)(hx:bl x.natAbs≤65536)(hy:bl y.natAbs≤65536):Zg0 prog 164 #[.pointer (some ⟨bd,0,none⟩),wv x,wv y] [] false bd 221 #[.int .i64 e] (G:=Unit) (fun _=>True) (fun _=>wv (Bs (x*y))) (fun _=>#[.int .i64 (err e (x*y))]) (fun _=>[]):=by
 refine Za5 func164 J ntmps164 J trivial ?_
 intro w0 sc hw hsc;have hw:=Hw.mk hw
 simp only [Ox,Ob]
 refine go 2 ?_
 refine Ya (Yl 2) fun b _=>Ya (Yl 3) fun b_2 _=>Ya (Zs 4) fun b_3 _=>go 3 ?_
 refine Xx (fun x=>x=bd) [(0,0),(1,0),(2,0),(3,0),(4,0),(5,1),(6,0),(7,0),(8,1),(9,3)]<|go 5 ?_
 refine Yh (Zj 4 [] (Zej _ _ ‹_› ‹_›)) fun _ _=>go 2 ?_
 refine Kg J (Oi (n:=4) (i:=1) (Zoj _ _ _ _ _ _) J J J K3 call195 J O3 Zo J hw.h J) fun _ _=>go 4 ?_
 exact Zbc (.inl J) hsc () _ (fun a w hs=>Zgh hs results164 (Hi (i:=4) J J isAgg93 Ix J)) J trivial 1 J J J J Za
theorem Za1(bd:Nat)(x y:Int)(hx:bl x.natAbs≤65536)(hy:bl y.natAbs≤65536)(hz:bl (x*y).natAbs≤65536):Zg0 prog 164 #[.pointer (some ⟨bd,0,none⟩),wv x,wv y] [] false bd 221 #[.int .i64 0] (G:=Unit) (fun _=>True) (fun _=>wv (x*y)) (fun _=>#[.int .i64 0]) (fun _=>[]):=by
 have h:=d_mul_ bd 0 x y hx hy
 rw [Mw hz,Zt4 hz]at h;exact h
theorem d_add_(bd:Nat)(e x y:Int)(hx:bl x.natAbs≤65536)(hy:bl y.natAbs≤65536):Zg0 prog 168 #[.pointer (some ⟨bd,0,none⟩),wv x,wv y] [] false bd 221 #[.int .i64 e] (G:=Unit) (fun _=>True) (fun _=>wv (Bs (x+y))) (fun _=>#[.int .i64 (err e (x+y))]) (fun _=>[]):=by
 refine Za5 func168 J ntmps168 J trivial ?_
 intro w0 sc hw hsc;have hw:=Hw.mk hw
 simp only [Ox,Ob]
 refine go 2 ?_
 refine Ya (Yl 2) fun b _=>Ya (Yl 3) fun b_2 _=>Ya (Zs 4) fun b_3 _=>go 3 ?_
 refine Xx (fun x=>x=bd) [(0,0),(1,0),(2,0),(3,0),(4,0),(5,1),(6,0),(7,0),(8,1),(9,3)]<|go 5 ?_
 refine Yh (Zj 4 [] (Ec _ _ ‹_› ‹_›)) fun _ _=>go 2 ?_
 refine Kg J (Oi (n:=4) (i:=1) (Zoj _ _ _ _ _ _) J J J K3 call195 J O3 Zo J hw.h J) fun _ _=>go 4 ?_
 exact Zbc (.inl J) hsc () _ (fun a w hs=>Zgh hs results168 (Hi (i:=4) J J isAgg93 Ix J)) J trivial 1 J J J J Za
theorem Zt9(bd:Nat)(x y:Int)(hx:bl x.natAbs≤65536)(hy:bl y.natAbs≤65536)(hz:bl (x+y).natAbs≤65536):Zg0 prog 168 #[.pointer (some ⟨bd,0,none⟩),wv x,wv y] [] false bd 221 #[.int .i64 0] (G:=Unit) (fun _=>True) (fun _=>wv (x+y)) (fun _=>#[.int .i64 0]) (fun _=>[]):=by
 have h:=d_add_ bd 0 x y hx hy
 rw [Mw hz,Zt4 hz]at h;exact h
theorem d_sub_(bd:Nat)(e x y:Int)(hx:bl x.natAbs≤65536)(hy:bl y.natAbs≤65536):Zg0 prog 170 #[.pointer (some ⟨bd,0,none⟩),wv x,wv y] [] false bd 221 #[.int .i64 e] (G:=Unit) (fun _=>True) (fun _=>wv (Bs (x-y))) (fun _=>#[.int .i64 (err e (x-y))]) (fun _=>[]):=by
 refine Za5 func170 J ntmps170 J trivial ?_
 intro w0 sc hw hsc;have hw:=Hw.mk hw
 simp only [Ox,Ob]
 refine go 2 ?_
 refine Ya (Yl 2) fun b _=>Ya (Yl 3) fun b_2 _=>Ya (Zs 4) fun b_3 _=>go 3 ?_
 refine Xx (fun x=>x=bd) [(0,0),(1,0),(2,0),(3,0),(4,0),(5,1),(6,0),(7,0),(8,1),(9,3)]<|go 5 ?_
 refine Yh (Zj 4 [] (Yan _ _ ‹_› ‹_›)) fun _ _=>go 2 ?_
 refine Kg J (Oi (n:=4) (i:=1) (Zoj _ _ _ _ _ _) J J J K3 call195 J O3 Zo J hw.h J) fun _ _=>go 4 ?_
 exact Zbc (.inl J) hsc () _ (fun a w hs=>Zgh hs results170 (Hi (i:=4) J J isAgg93 Ix J)) J trivial 1 J J J J Za
theorem Zt8(bd:Nat)(x y:Int)(hx:bl x.natAbs≤65536)(hy:bl y.natAbs≤65536)(hz:bl (x-y).natAbs≤65536):Zg0 prog 170 #[.pointer (some ⟨bd,0,none⟩),wv x,wv y] [] false bd 221 #[.int .i64 0] (G:=Unit) (fun _=>True) (fun _=>wv (x-y)) (fun _=>#[.int .i64 0]) (fun _=>[]):=by
 have h:=d_sub_ bd 0 x y hx hy
 rw [Mw hz,Zt4 hz]at h;exact h
theorem Ye7(bd:Nat)(v:Value)(xs:List Int)(hs:Sz 65536 xs):Cal prog 165 #[.pointer (some ⟨bd,0,none⟩),v] [Fa bd 221 #[.int .i64 0],Xc 2 wv v xs] true (G:=Unit) (fun _=>True) (fun _=> .tuple #[Ll v (tzl xs).length,.int .i64 0]) (fun _=>[Xc 2 wv (Ll v (tzl xs).length) (tzl xs)]):=by
 refine Zh func165 ntmps165 fun w0 sc hw hsc=>go 17 ?_
 refine Zc J (fun h43=>?_) (fun h43=>?_)
 ·exfalso;simp_all
 ·refine go 5 ?_
  refine cl 3 [2] (Zcv _ _ ‹_›) fun _ _=>go 5 ?_
  exact Mi hsc () results165 J trivial (Oe 3 Za)
theorem Hu(v:Value)(xs:List Int)(c:Int)(hv:Vp xs)(hc:bl c.natAbs≤65536)(hz:∀i,bl (cf xs i*c).natAbs≤65536):Cal prog 130 #[v,wv c] [Xc 2 wv v xs] true (G:=Value) (fun r=>True) (fun r=> .tuple #[r,.int .i64 0]) (fun r=>[Xc 2 wv r (Zv xs c)]):=by
 refine Zh func130 ntmps130 fun w0 sc hw hsc=>?_
 have hlen:=hv.len
 refine go 2 ?_
 refine Ya (Yl 2) fun b _=>go 8 ?_
 refine cl 2 [1] (Xk _ _ ‹_›) fun _ _=>go 3 ?_
 refine Bl 2 [] (Bm _ ‹_›) fun _ _=>go 9 ?_
 refine Ya (Zs 3) fun b_2 _=>go 6 ?_
 refine tt (Kt (i:=4) (n:=_) (by_:=24) (enc:=wv) 0 J J J J Lq ti93 J pV.cells pV.pos J J J hw.h J J) fun v _=>go 12 ?_
 refine lp (G:=Nat) [3,6,7,21,22] [0,1,2,3] (fun k=>[(23,.int .i64 (k:Int))]) (fun k=>[(4,Ns 2 93 wv v (fill xs.length k (fun i=>cf xs i*c)))]) (fun k=>k≤xs.length) (fun k=>xs.length-k) 0 O1 K1 ⟨by rw [Ca xs.length (fun i=>cf xs i*c)];rfl,trivial⟩ ?_
 rintro k hk
 refine go 6 ?_
 refine Zc J (fun h159=>?_) (fun h159=>?_)
 ·refine go 9 ⟨O2,O2,?_⟩
  refine Ya (Zs 5) fun b_3 _=>go 9 ?_
  refine tt (Oi (n:=5) (i:=3) (Za1 _ _ _ (hv.sz.getD _) hc (hz _)) J J J K3 call164 J O3 Zo J hw.h trivial) (fun _ _=>?_)
  refine dt (Zy (ii:=4) (i:=k) J J J J (Yw pV) Lq Ix J (by rw [Ph];omega))<|tt (Lz (i:=4) (enc:=wv) _ J J J J J J pV J hw.h O3 (by rw [Ph];omega)) fun _ _=>go 7 ⟨O,?_⟩
  exact Yq (k+1) O1 O1 K1 ⟨by rw [←Zbz O];rfl,trivial⟩
 ·refine go 6 ?_
  obtain rfl:k=xs.length:=O
  refine Zg (Qa 4 J J pV)<|Zg (Zm8 3 J J)<|go 2 ?_
  refine cl 6 [3,4] (Ye7 _ _ _ (by rw [Gt];exact Cp fun i _=>hz i)) fun _ _=>go 7 ?_
  exact Mi hsc _ results130 J trivial (Oe 6 Za (by rw [Zy8]<;>rfl))
theorem Ek(v:Value)(xs:List Int)(hv:Vp xs)(hz:∀i,bl (cf xs (i+1)*((i:Int)+1)).natAbs≤65536):Cal prog 129 #[v] [Xc 2 wv v xs] true (G:=Value) (fun r=>True) (fun r=> .tuple #[r,.int .i64 0]) (fun r=>[Xc 2 wv r (Yi xs)]):=by
 refine Zh func129 ntmps129 fun w0 sc hw hsc=>?_
 have hlen:=hv.len
 refine go 10 ?_
 refine cl 1 [1] (Xk _ _ ‹_›) fun _ _=>go 14 ?_
 refine Zc J (fun h170=>?_) (fun h170=>?_)
 ·refine go 8 ?_
  exact Mi hsc _ results129 J trivial (Kq (Yc4 O) Za)
 ·refine go 4 ?_
  refine Ya (Zs 2) fun b _=>go 7 ⟨O,?_⟩
  refine tt (Kt (i:=3) (n:=(xs.length-1)) (by_:=24) (enc:=wv) 0 J J J J Lq ti93 J pV.cells pV.pos J J J hw.h) fun v _=>go 12 ?_
  refine lp (G:=Nat) [0,4,5,18] [0,1,2] (fun k=>[(19,.int .i64 (k:Int))]) (fun k=>[(3,Ns 2 93 wv v (fill (xs.length-1) k (fun i=>cf xs (i+1)*((i:Int)+1))))]) (fun k=>k≤xs.length-1) (fun k=>xs.length-1-k) 0 O1 K1 ⟨by rw [Ca (xs.length-1) (fun i=>cf xs (i+1)*((i:Int)+1))];rfl,trivial⟩ ?_
  rintro k hk
  have hlf:(fill (xs.length-1) k (fun i=>cf xs (i+1)*((i:Int)+1))).length=xs.length-1:=Ph _ _ _
  refine go 6 ?_
  refine Zc J (fun h175=>?_) (fun h175=>?_)
  ·try rw [List.length_replicate]at *
   refine go 10 ?_
   refine Xx (fun x=>x=b) [(0,0),(1,0),(2,0),(3,0),(4,0),(5,0),(6,0),(7,0),(8,0),(9,1),(10,1),(11,0),(12,3)]<|go 5 ⟨O,?_⟩
   refine Qo J J (st1 2 J (Zy (ii:=1) (i:=k+1) J J J J Zn Lq Ix))<|go 3 ⟨O,O,?_⟩
   refine Yh (Zj 3 [] (Ye _ (by first | assumption | exact⟨O,O⟩))) fun _ _=>?_
   refine Kg J (Oi (n:=3) (i:=2) (Za1 _ (cf xs (k+1)) ((k:Int)+1) (hv.sz _) (Nat.le_trans (Od (n:=32) O) O3) (hz k)) J J J K3 call164 J O3 Zo J hw.h J) (fun _ _=>?_)
   refine Qo J J (st1 2 J (Zy (ii:=3) (i:=k) J J J J (Yw pV) Lq Ix J (by rw [Ph];omega)))<|r3' J (Lz (i:=3) (enc:=wv) _ J J J J J J pV J hw.h O3 (by rw [Ph];omega)) fun _ _=>go 7 ⟨O,?_⟩
   exact Yq (k+1) O1 O1 K1 ⟨by rw [←Zbz O];rfl,trivial⟩
  ·try rw [List.length_replicate]at *
   refine go 6 ?_
   obtain rfl:k=xs.length-1:=O
   refine Zg (Qa 3 J J pV)<|Zg (Zm8 2 J J)<|go 2 ?_
   refine cl 4 [2,3] (Ye7 _ _ _ (by rw [Gt];exact Cp fun i _=>hz i)) fun _ _=>go 7 ?_
   exact Mi hsc _ results129 J trivial (Oe 4 Za (by rw [Yhg hv.tr]<;>rfl))
theorem Znq(v:Value)(xs:List Int)(hv:Vp xs):Ok prog 171 #[v] [Xc 2 wv v xs] (.tuple #[wv (Yk xs),.int .i64 0]):=by
 refine Zh func171 ntmps171 fun w0 sc hw hsc=>?_
 have hlen:=hv.len
 have hcb:∀k,bl (Yk (xs.take k)).natAbs≤65536:=fun k=>Ze7 _ (hv.sz.take k)
 refine go 2 ?_
 refine Ya (Zs 2) fun b _=>go 7 ?_
 refine cl 2 [1] (Xk _ _ ‹_›) fun _ _=>go 8 ?_
 refine Ya (Zs 3) fun b_2 _=>go 4 ?_
 refine Ya (Zs 4) fun b_3 _=>go 11 ?_
 refine lp (G:=Nat) [2,4,5,12,13] [0,1,2] (fun k=>[(14,.int .i64 (k:Int))]) (fun k=>[(4,box b_3 93 #[.bool (decide (Yk (xs.take k)<0)),.string (Qb (Yk (xs.take k)).natAbs)]),(3,box b_2 221 #[.int .i64 0])]) (fun k=>k≤xs.length) (fun k=>xs.length-k) 0 O1 K1 K2 ?_
 rintro k hk
 have hgc:=fun h=>Lc (p:=xs) (k:=k) h
 refine go 6 ?_
 refine Zc J (fun h264=>?_) (fun h264=>?_)
 ·refine go 8 ⟨O2,O2,?_⟩
  refine Ya (Zs 5) fun b_4 _=>go 7 ?_
  refine cl 5 [] (Zpp (Yk (xs.take k)) (xs.getD k 0) (hcb _) (hv.sz.getD _)) fun _ _=>go 2 ?_
  refine tt (Oi (n:=5) (i:=3) (Zoj _ _ _ _ _ _) J J J K3 call195 J O3 Zo J hw.h trivial) fun _ _=>go 8 ⟨O,?_⟩
  have hc1:=hcb (k+1)
  rw [hgc O]at hc1
  exact Yq (k+1) O1 O1 K1 ⟨by rw [hgc O];simp only [Mw hc1];rfl,by simp only [Zof hc1];rfl,trivial⟩
 ·refine go 6 ?_
  refine Pm [3,4] [5]<|Zl (n:=0) [(0,0),(1,0),(2,0),(3,0),(4,1),(5,3)]<|go 7 ?_
  refine Zp<|go 2 ?_
  exact Mi hsc () results171 (by rw [show k=xs.length by omega,List.take_length]<;>rfl) trivial Za
theorem Zlb(v:Value)(xs:List Int)(c:Int)(hv:Sz 65536 xs)(hlen:xs.length≤1000)(hc:bl c.natAbs≤65536)(hd:∀i,c∣cf xs i)(hc0:xs≠[]→c≠0):Cal prog 172 #[v,wv c] [Xc 2 wv v xs] true (G:=Value) (fun r=>True) (fun r=> .tuple #[r,.int .i64 0]) (fun r=>[Xc 2 wv r (xs.map (· / c))]):=by
 refine Zh func172 ntmps172 fun w0 sc hw hsc=>go 2 ?_
 refine Ya (Yl 2) fun b _=>go 8 ?_
 refine tt (Kt (i:=3) (n:=_) (by_:=24) (enc:=wv) 0 J J J J Lq ti93 J pV.cells pV.pos J J J hw.h J J) fun v _=>go 12 ?_
 refine lp (G:=Nat) [3,6,15,16] [0,1,2] (fun k=>[(17,.int .i64 (k:Int))]) (fun k=>[(3,Ns 2 93 wv v (fill xs.length k (fun i=>cf xs i/c)))]) (fun k=>k≤xs.length) (fun k=>xs.length-k) 0 O1 K1 ⟨by rw [Ca xs.length (fun i=>cf xs i/c)];rfl,trivial⟩ ?_
 rintro k hk
 have hcl:Bs (xs.getD k 0/c)=cf xs k/c:=Mw (Gc (hd k) (hv k))
 refine go 6 ?_
 refine Zc J (fun h273=>?_) (fun h273=>?_)
 ·refine go 9 ⟨O2,O2,?_⟩
  refine Ya (Zs 4) fun b_2 _=>go 8 ?_
  refine cl 4 [] (Cc _ _ (hv.getD _) hc (hc0 (by intro e;rw [e]at h273;simp at h273;omega))) fun _ _=>go 4 ?_
  refine Ya (Zs 5) fun b_3 _=>Ya (Zs 6) fun b_4 _=>go 12 ?_
  refine Zc J (fun h275=>?_) (fun h275=>?_)
  ·exfalso;simp_all
  ·refine go 6 ?_
   refine dt (Zy (ii:=3) (i:=k) J J J J (Yw pV) Lq Ix J (by rw [Ph];omega))<|tt (Lz (i:=3) (enc:=wv) _ J J J J J J pV J hw.h O3 (by rw [Ph];omega)) fun _ _=>go 7 ⟨O,?_⟩
   exact Yq (k+1) O1 O1 K1 ⟨by rw [←Zbz O];simp only [hcl];rfl,trivial⟩
 ·refine go 13 ?_
  obtain rfl:k=xs.length:=O
  exact Mi hsc _ results172 J trivial (gow 3 Za (by rw [Gt,Zn4 xs (· / c)]<;>rfl))
theorem Md(v:Value)(xs:List Int)(hv:Vp xs):Cal prog 134 #[v] [Xc 2 wv v xs] true (G:=Value) (fun r=>True) (fun r=> .tuple #[r,.int .i64 0]) (fun r=>[Xc 2 wv r (Zr xs)]):=by
 refine Zh func134 ntmps134 fun w0 sc hw hsc=>?_
 have hlen:=hv.len
 refine go 9 ?_
 refine cl 1 [1] (Znq _ _ ‹_›) fun _ _=>go 3 ?_
 refine Ya (Zs 2) fun b _=>go 11 ?_
 refine Zc J (fun h286=>?_) (fun h286=>?_)
 ·exfalso;simp_all
 ·refine go 6 ?_
  refine cl 3 [1] (Zlb _ _ _ hv.sz O (Ze7 _ hv.sz) (Mo _) hv.ne) fun _ _=>go 7 ?_
  exact Mi hsc _ results134 J trivial (Oe 3 Za J)
theorem Zzc(v:Value)(xs:List Int)(x y:Int)(hv:Vp xs)(hx:bl x.natAbs≤65536)(hy:bl y.natAbs≤65536)(hy0:0<y):Ok prog 247 #[v,rX x y] [Xc 2 wv v xs] (.tuple #[wv (evv xs x y),.int .i64 (eve xs x y)]):=by
 refine Zh func247 ntmps247 fun w0 sc hw hsc=>?_
 have hlen:=hv.len
 refine go 2 ?_
 refine Ya (Yl 2) fun b _=>Ya (Zs 3) fun b_2 _=>go 7 ?_
 refine cl 3 [1] (Xk _ _ ‹_›) fun _ _=>go 3 ?_
 refine Bl 3 [] (Mq _ _ ‹_› ‹_› ‹_›) fun _ _=>go 15 ?_
 refine Zc J (fun h186=>?_) (fun h186=>?_)
 ·refine go 2 ?_
  refine dt (Xh (ivs:=[]) J trivial (fun a w hs=>b93_))<|go 6 ?_
  exact Mi hsc () results247 (by rw [List.eq_nil_of_length_eq_zero (l:=xs) O];rfl) trivial Za
 ·have hne:xs≠[]:=fun e=>by rw [e]at h186;simp at h186
  have hm1:=Qn hv.sz
  have hsxy:Sz 65536 [x,y]:=Sz.of_mem (by intro z hz;simp at hz;rcases hz with rfl | rfl<;>assumption)
  have hm2:=Qn hsxy
  have hm3:(xs.length-1)*Xw [x,y]≤24*65536:=Nat.mul_le_mul O hm2
  have hm4:((xs.length:Int)-1)*(Xw [x,y]:Int)=(((xs.length-1)*Xw [x,y]:Nat):Int):=by rw [Int.natCast_mul];congr 1;omega
  refine go 3 ?_
  refine jn (G:=Unit) [0,3,4] [0,1,2,3] (fun _=>[(37,.bool (decide ((65536:Int)<(Xw xs:Int)+((xs.length:Int)-1)*(Xw [x,y]:Int)+8)))]) (fun _=>[]) (fun _=>True) ?_ ?_
  ·refine Fw (fun _=>False) []<|Zl (n:=7) [(0,0),(2,0),(3,0),(4,0),(5,0),(6,0),(7,0),(8,0)]<|go 9 ⟨O,?_⟩
   refine Qp (n:=6) 1 9 ?_ ?_
   ·refine Nb (Zj 3 [1] (Ka _ _ (by first | exact hv.sz | exact hsxy))) fun _ _=>?_
    refine Zl (n:=0) [(9,1),(10,1),(11,0),(12,0),(13,0),(14,0)]<|Kg J (Qg (i:=90) (ivs:=[(0,_),(1,_)]) (enc:=wv) [x,y] J J K4 uT38 ti93 J J J J J pV.cells J J hw.h) fun v _=>Yh (Zj 3 [90] (Ka _ _ (by first | exact hv.sz | exact hsxy))) fun _ _=>go 5 ⟨by rw [hm4];exact⟨O,O⟩,by rw [hm4];exact⟨O,O⟩,by rw [hm4];exact⟨O,O⟩,?_⟩
    exact Zp<|Pw () trivial K1 trivial
   ·refine Lj J (Qg (i:=90) (ivs:=[(0,_),(1,_)]) (enc:=wv) [x,y] J J K4 uT38 ti93 J J J J J pV.cells J J hw.h) (fun v_2 _=>?_)
    refine Zl (n:=0) [(1,1),(10,1),(11,0),(12,0),(13,0),(14,0)]<|Yh (Zj 3 [1] (Ka _ _ (by first | exact hv.sz | exact hsxy))) fun _ _=>Yh (Zj 3 [90] (Ka _ _ (by first | exact hv.sz | exact hsxy))) fun _ _=>go 5 ⟨by rw [hm4];exact⟨O,O⟩,by rw [hm4];exact⟨O,O⟩,by rw [hm4];exact⟨O,O⟩,?_⟩
    exact Zp<|Pw () trivial K1 trivial
  ·rintro _ -
   refine Zc J (fun h189=>?_) (fun h189=>?_)
   ·have hE:Lm xs x y:=⟨hne,by rw [hm4]at h189;omega⟩
    refine go 2 ?_
    refine dt (Xh (ivs:=[]) J trivial (fun a w hs=>b93_))<|go 6 ?_
    exact Mi hsc () results247 (by unfold evv eve;rw [if_pos hE,if_pos hE]<;>rfl) trivial Za
   ·have hF:Xw xs+(xs.length-1)*Xw [x,y]+8≤65536:=by rw [hm4]at h189;omega
    refine go 4 ?_
    refine Ya (Zs 4) fun b_3 _=>go 2 ?_
    refine jn (G:=Nat×Nat) [0,3,4,6] [0,1,2,3,4] (fun q=>[(7,.pointer (some ⟨q.1,0,none⟩)),(8,.pointer (some ⟨q.2,0,none⟩))]) (fun q=>[(97,box q.1 93 (wc (xs.getD (xs.length-1) 0))),(98,box q.2 93 (wc 1))]) (fun q=>True) ?_ ?_
    ·refine Fw (fun _=>False) [9,10]<|Zl (n:=5) [(0,0),(1,0),(2,0),(3,0),(4,0),(5,0)]<|go 4 ⟨O,?_⟩
     refine Qo J J (Qq (Zy (ii:=1) (i:=(xs.length-1)) J J J J Zn Lq Ix))<|go 2 ⟨O,?_⟩
     refine Zdt (n:=4) 6 7 8 ?_ ?_ ?_
     ·refine Nb (Zj 4 [] (Ye _ (by first | assumption | exact⟨O,O⟩))) fun _ _=>?_
      refine Qp (n:=3) 7 8 ?_ ?_
      ·refine Nb (Zs 97) fun b_4 _=>?_
       refine Zl (n:=0) [(8,1),(9,3),(10,3)]<|Yh (Zs 98) fun b_5 _=>go 3 ?_
       exact Zp<|Pw (_,_) trivial K2 K2
      ·refine Nb (Zs 98) fun b_6 _=>?_
       refine Zl (n:=0) [(7,1),(9,3),(10,3)]<|Yh (Zs 97) fun b_7 _=>go 3 ?_
       exact Zp<|Pw (_,_) trivial K2 K2
     ·refine Nb (Zs 97) fun b_8 _=>?_
      refine Qp (n:=3) 6 8 ?_ ?_
      ·refine Nb (Zj 4 [] (Ye _ (by first | assumption | exact⟨O,O⟩))) fun _ _=>?_
       refine Zl (n:=0) [(8,1),(9,3),(10,3)]<|Yh (Zs 98) fun b_9 _=>go 3 ?_
       exact Zp<|Pw (_,_) trivial K2 K2
      ·refine Nb (Zs 98) fun b_10 _=>?_
       refine Zl (n:=0) [(6,1),(9,3),(10,3)]<|Yh (Zj 4 [] (Ye _ (by first | assumption | exact⟨O,O⟩))) fun _ _=>go 3 ?_
       exact Zp<|Pw (_,_) trivial K2 K2
     ·refine Nb (Zs 98) fun b_11 _=>?_
      refine Qp (n:=3) 6 7 ?_ ?_
      ·refine Nb (Zj 4 [] (Ye _ (by first | assumption | exact⟨O,O⟩))) fun _ _=>?_
       refine Zl (n:=0) [(7,1),(9,3),(10,3)]<|Yh (Zs 97) fun b_12 _=>go 3 ?_
       exact Zp<|Pw (_,_) trivial K2 K2
      ·refine Nb (Zs 97) fun b_13 _=>?_
       refine Zl (n:=0) [(6,1),(9,3),(10,3)]<|Yh (Zj 4 [] (Ye _ (by first | assumption | exact⟨O,O⟩))) fun _ _=>go 3 ?_
       exact Zp<|Pw (_,_) trivial K2 K2
    ·rintro⟨b7,b8⟩ -
     dsimp only
     refine go 10 ⟨O,?_⟩
     refine lp (G:=Nat) [0,3,4,6,7,8] [0,1,2,3,4] (fun k=>[(9,.int .i64 ((k:Int)-1))]) (fun k=>[(97,box b7 93 (wc (Km xs x y k))),(98,box b8 93 (wc (y^(xs.length-1-k))))]) (fun k=>k≤xs.length-1) (fun k=>k) (xs.length-1) O1 ⟨by rw [show((xs.length-1:Nat):Int)-1=(xs.length:Int)-2 by omega];rfl,trivial⟩ ⟨by rw [Yh8 x y O];rfl,by rw [Nat.sub_self,Int.pow_zero];rfl,trivial⟩ ?_
     rintro k hk
     refine go 7 ?_
     refine Zc J (fun h194=>?_) (fun h194=>?_)
     ·have hpw:y^(xs.length-1-k)*y=y^(xs.length-1-(k-1)):=Ycu y O hk
      have hst:Km xs x y k*x+xs.getD (k-1) 0*y^(xs.length-1-(k-1))=Km xs x y (k-1):=Zz5 x y O hk
      refine go 9 ?_
      refine tt (Oi (n:=4) (i:=4) (Za1 _ _ _ (Zol hF) hy (by rw [hpw];exact Zol hF)) J J J K3 call164 J O3 Zo J hw.h trivial) fun _ _=>go 3 ?_
      refine Xx (fun x=>x=b_3) [(0,0),(1,0),(2,0),(4,0),(5,0),(6,0),(7,0),(8,0),(3,1),(9,1),(10,1),(11,3)]<|go 5 ?_
      refine Qo J J (st1 4 J (Zy (ii:=1) (i:=(k-1)) J J J J Zn Lq Ix))<|go 2 ⟨O,?_⟩
      refine Kg J (Oi (n:=4) (i:=4) (Za1 _ _ _ (by first | exact Zom hF hlen _ | exact hv.sz.getD _) (by first | exact hx | (rw [hpw];exact Zol hF)) (by first | exact Zt2 hF hlen O hk | (rw [hpw];exact Zok hF))) J J J K3 call164 J O3 Zo J hw.h J) (fun _ _=>?_)
      refine Kg J (Oi (n:=4) (i:=4) (Za1 _ _ _ (by first | exact Zom hF hlen _ | exact hv.sz.getD _) (by first | exact hx | (rw [hpw];exact Zol hF)) (by first | exact Zt2 hF hlen O hk | (rw [hpw];exact Zok hF))) J J J K3 call164 J O3 Zo J hw.h J) (fun _ _=>?_)
      refine Kg J (Oi (n:=4) (i:=4) (Zt9 _ _ _ (Zt2 hF hlen O hk) (by rw [hpw];exact Zok hF) (by rw [hpw,hst];exact Zom hF hlen _)) J J J K3 call168 J O3 Zo J hw.h J) fun _ _=>go 9 ⟨O,?_⟩
      exact Yq (k-1) O1 O1 ⟨by rw [show((k-1:Nat):Int)-1=(k:Int)-1-1 by omega];rfl,trivial⟩ ⟨by rw [hpw,hst];rfl,by rw [hpw];rfl,trivial⟩
     ·refine go 14 ?_
      refine Zc J (fun h198=>?_) (fun h198=>?_)
      ·exfalso;simp_all
      ·refine go 10 ?_
       obtain rfl:k=0:=O
       have hE:¬Lm xs x y:=fun h=>by have:=h.2;omega
       exact Mi hsc () results247 (by unfold evv eve;rw [if_neg hE,if_neg hE,←Zri]<;>rfl) trivial Za
theorem Zqt(v:Value)(xs:List Int)(x y:Int)(hv:Vp xs)(hx:bl x.natAbs≤65536)(hy:bl y.natAbs≤65536)(hy0:0<y):Ok prog 230 #[v,rX x y] [Xc 2 wv v xs] (.tuple #[.int .i64 (evv xs x y).sign,.int .i64 (eve xs x y)]):=by
 refine Zh func230 ntmps230 fun w0 sc hw hsc=>?_
 have hlen:=hv.len
 refine go 2 ?_
 refine Ya (Yl 2) fun b _=>go 8 ?_
 refine cl 2 [1] (Zzc _ _ _ _ hv hx hy hy0) fun _ _=>go 3 ?_
 refine Ya (Zs 3) fun b_2 _=>go 7 ?_
 refine cl 3 [] (Il _ (evv_bl hlen)) fun _ _=>go 6 ?_
 exact Mi hsc () results230 J trivial Za
theorem Zb6(bd:Nat)(v:Value)(xs:List Int)(hs:Sz 65536 xs):Zg0 prog 165 #[.pointer (some ⟨bd,0,none⟩),v] [Xc 2 wv v xs] true bd 221 #[.int .i64 0] (G:=Unit) (fun _=>True) (fun _=> .tuple #[Ll v (tzl xs).length,.int .i64 0]) (fun _=>#[.int .i64 0]) (fun _=>[Xc 2 wv (Ll v (tzl xs).length) (tzl xs)]):=by
 refine Za5 func165 J ntmps165 J K1 ?_
 intro w0 sc hw hsc;have hw:=Hw.mk hw
 simp only [Ox,Ob]
 refine go 17 ?_
 refine Zc J (fun h43=>?_) (fun h43=>?_)
 ·exfalso;simp_all
 ·refine go 5 ?_
  refine cl 3 [2] (Zcv _ _ ‹_›) fun _ _=>go 5 ?_
  exact Zbc (.inl J) hsc () _ (fun a w hs=>Yb8 hs results165 J J) J trivial 1 J J J J (Zgs 3 J J J Za)
theorem Zxt(v:Value)(xs:List Int)(hx:xs.length*24≤140737488355328:=by omega):Yjn prog 244 #[v] [Xc 2 wv v xs] (G:=Value) (fun r=>True) (fun r=>r) (fun r=>Ns 2 93 wv r xs):=by
 refine Zx3 func244 J ntmps244 J K1 ?_
 intro w0 sc hw hsc;have hw:=Hw.mk hw
 simp only [Ox,Ob]
 refine Oc (f_nil (i:=1) J Zn) fun hnil=>go 9 ?_
 refine dt (Zxi J J J (i:=1) J Zn Lq)<|go 2 ?_
 refine Oy J (fun h357=>?_) (fun h357=>?_)
 ·refine go 7 ?_
  obtain rfl:xs=[]:=hnil (by simpa using h357)
  exact Zw (Px 9 2 93 wv)<|Zmw (.inl J) (.slice none 0 0) _ (fun a w hs=>Zgh hs results244 J) J trivial J 9 J J J
 ·refine go 4 ?_
  refine tt (t_bs0 (i:=2) (enc:=wv) J J J Lq pV J hw.h) fun v _=>go 1 ?_
  refine tt (Lk (i:=2) (j:=1) (by_:=24) J J J J J J O3 J Zn Lq ti93 J pV J J J O9 O3 J hw.h) fun v_2 _=>go 4 ?_
  exact Zmw (.inl J) _ _ (fun a w hs=>Zgh hs results244 J) J trivial J 2 J (by rfl) J
theorem Zhf(v:Value)(xs:List Int)(hv:Vp xs):Ok prog 238 #[v] [Xc 2 wv v xs] (.tuple #[.int .i64 ((xs.length:Int)-1),.int .i64 0]):=by
 refine Zh func238 ntmps238 fun w0 sc hw hsc=>?_
 have hlen:=hv.len
 refine go 10 ?_
 refine cl 1 [1] (Xk _ _ ‹_›) fun _ _=>go 16 ⟨O,?_⟩
 exact Mi hsc () results238 J trivial Za
theorem Zl8(v:Value)(xs:List Int)(hv:Vp xs):Ok prog 239 #[v] [Xc 2 wv v xs] (.tuple #[.int .i64 (Xw xs:Int),.int .i64 0]):=by
 refine Zh func239 ntmps239 fun w0 sc hw hsc=>go 10 ?_
 refine cl 1 [1] (Xk _ _ ‹_›) fun _ _=>go 9 ?_
 refine cl 1 [1] (Ka _ _ hv.sz) fun _ _=>go 5 ?_
 exact Mi hsc () results239 J trivial Za
theorem Zr6(bd:Nat)(v u:Value)(xs ys:List Int)(hv:Vp xs)(hu:Vp ys)(hz:∀i,bl (cf xs i+cf ys i).natAbs≤65536):Zg0 prog 169 #[v,u,.pointer (some ⟨bd,0,none⟩),.func (.func 168) #[.pointer (some ⟨bd,0,none⟩)] #[]] [Xc 2 wv v xs,Xc 2 wv u ys] true bd 221 #[.int .i64 0] (G:=Value) (fun r=>True) (fun r=> .tuple #[r,.int .i64 0]) (fun r=>#[.int .i64 0]) (fun r=>[Xc 2 wv r (Bq xs ys)]):=by
 refine Za5 func169 J ntmps169 J K2 ?_
 intro w0 sc hw hsc;have hw:=Hw.mk hw
 simp only [Ox,Ob]
 have hlen:=hv.len
 have hlen2:=hu.len
 refine go 10 ?_
 refine cl 3 [2] (Xk _ _ ‹_›) fun _ _=>go 3 ?_
 refine Bl 3 [3] (Xk _ _ ‹_›) fun _ _=>go 13 ?_
 refine dt (Zmq J J J)<|tt (Kt (i:=4) (n:=(max xs.length ys.length)) (by_:=24) (enc:=wv) 0 J J J J Lq ti93 J pV.cells pV.pos J J J hw.h) fun v _=>go 12 ?_
 refine lp (G:=Nat) [0,1,2,3,10,29] [0,1,2,3] (fun k=>[(30,.int .i64 (k:Int))]) (fun k=>[(4,Ns 2 93 wv v (fill (max xs.length ys.length) k (fun i=>cf xs i+cf ys i)))]) (fun k=>k≤max xs.length ys.length) (fun k=>max xs.length ys.length-k) 0 O1 K1 ⟨by rw [Ca (max xs.length ys.length) (fun i=>cf xs i+cf ys i)];rfl,trivial⟩ ?_
 rintro k hk
 have hlf:(fill (max xs.length ys.length) k (fun i=>cf xs i+cf ys i)).length=max xs.length ys.length:=Ph _ _ _
 refine go 6 ?_
 refine Zc J (fun h106=>?_) (fun h106=>?_)
 ·try rw [List.length_replicate]at *
  refine go 12 ?_
  refine Ya (Zs 5) fun b _=>Ya (Zs 6) fun b_2 _=>go 2 ?_
  refine jn (G:=Unit) [0,1,2,3,10,11,12,13,29,30] [0,4,1,2,3,6] (fun _=>[]) (fun _=>[(5,box b 93 (wc (cf xs k)))]) (fun _=>True) ?_ ?_
  ·refine go 8 ?_
   refine Zc J (fun h108=>?_) (fun h108=>?_)
   ·refine go 7 ⟨O2,O2,?_⟩
    exact Pw () trivial trivial ⟨by first | rfl | (rw [Yb (p:=xs) O];rfl),trivial⟩
   ·refine go 1 ?_
    exact Pw () trivial trivial ⟨by first | rfl | (rw [Yb (p:=xs) O];rfl),trivial⟩
  ·rintro _ -
   refine jn (G:=Unit) [0,1,2,3,10,11,12,13,29,30] [0,5,4,1,2,3] (fun _=>[]) (fun _=>[(6,box b_2 93 (wc (cf ys k)))]) (fun _=>True) ?_ ?_
   ·refine go 8 ?_
    refine Zc J (fun h111=>?_) (fun h111=>?_)
    ·refine go 7 ⟨O2,O2,?_⟩
     exact Pw () trivial trivial ⟨by first | rfl | (rw [Yb (p:=ys) O];rfl),trivial⟩
    ·refine go 1 ?_
     exact Pw () trivial trivial ⟨by first | rfl | (rw [Yb (p:=ys) O];rfl),trivial⟩
   ·rintro _ -
    refine go 6 ?_
    refine tt (Zpw (n:=6) (i:=1) (fs:=[_]) (vs:=[_,_]) (Zt9 _ _ _ (hv.sz _) (hu.sz _) (hz _)) J J J J K2 call168 J O3 Zo J hw.h trivial) (fun _ _=>?_)
    refine dt (Zy (ii:=4) (i:=k) J J J J (Yw pV) Lq Ix J (by rw [Ph];omega))<|tt (Lz (i:=4) (enc:=wv) _ J J J J J J pV J hw.h O3 (by rw [Ph];omega)) fun _ _=>go 7 ⟨O,?_⟩
    exact Yq (k+1) O1 O1 K1 ⟨by rw [←Zbz O];rfl,trivial⟩
 ·try rw [List.length_replicate]at *
  refine go 6 ?_
  obtain rfl:k=max xs.length ys.length:=O
  refine Zg (Qa 4 J J pV)<|go 3 ?_
  refine tt (Oi (n:=7) (i:=1) (Zb6 _ _ _ (by rw [Gt];exact Cp fun i _=>hz i)) J J J K2 call165 J O3 (Zk 4 J J J Zo) J hw.h trivial) fun _ _=>go 7 ?_
  exact Zbc (.inl J) hsc _ _ (fun a w hs=>Yb8 hs results169 J J) J trivial 1 J J J J (Zj7 7 J J J (by rw [Gt]<;>rfl) Za)
theorem Zr5(bd:Nat)(v u:Value)(xs ys:List Int)(hv:Vp xs)(hu:Vp ys)(hz:∀i,bl (cf xs i-cf ys i).natAbs≤65536):Zg0 prog 169 #[v,u,.pointer (some ⟨bd,0,none⟩),.func (.func 170) #[.pointer (some ⟨bd,0,none⟩)] #[]] [Xc 2 wv v xs,Xc 2 wv u ys] true bd 221 #[.int .i64 0] (G:=Value) (fun r=>True) (fun r=> .tuple #[r,.int .i64 0]) (fun r=>#[.int .i64 0]) (fun r=>[Xc 2 wv r (Gj xs ys)]):=by
 refine Za5 func169 J ntmps169 J K2 ?_
 intro w0 sc hw hsc;have hw:=Hw.mk hw
 simp only [Ox,Ob]
 have hlen:=hv.len
 have hlen2:=hu.len
 refine go 10 ?_
 refine cl 3 [2] (Xk _ _ ‹_›) fun _ _=>go 3 ?_
 refine Bl 3 [3] (Xk _ _ ‹_›) fun _ _=>go 13 ?_
 refine dt (Zmq J J J)<|tt (Kt (i:=4) (n:=(max xs.length ys.length)) (by_:=24) (enc:=wv) 0 J J J J Lq ti93 J pV.cells pV.pos J J J hw.h) fun v _=>go 12 ?_
 refine lp (G:=Nat) [0,1,2,3,10,29] [0,1,2,3] (fun k=>[(30,.int .i64 (k:Int))]) (fun k=>[(4,Ns 2 93 wv v (fill (max xs.length ys.length) k (fun i=>cf xs i-cf ys i)))]) (fun k=>k≤max xs.length ys.length) (fun k=>max xs.length ys.length-k) 0 O1 K1 ⟨by rw [Ca (max xs.length ys.length) (fun i=>cf xs i-cf ys i)];rfl,trivial⟩ ?_
 rintro k hk
 have hlf:(fill (max xs.length ys.length) k (fun i=>cf xs i-cf ys i)).length=max xs.length ys.length:=Ph _ _ _
 refine go 6 ?_
 refine Zc J (fun h106=>?_) (fun h106=>?_)
 ·try rw [List.length_replicate]at *
  refine go 12 ?_
  refine Ya (Zs 5) fun b _=>Ya (Zs 6) fun b_2 _=>go 2 ?_
  refine jn (G:=Unit) [0,1,2,3,10,11,12,13,29,30] [0,4,1,2,3,6] (fun _=>[]) (fun _=>[(5,box b 93 (wc (cf xs k)))]) (fun _=>True) ?_ ?_
  ·refine go 8 ?_
   refine Zc J (fun h108=>?_) (fun h108=>?_)
   ·refine go 7 ⟨O2,O2,?_⟩
    exact Pw () trivial trivial ⟨by first | rfl | (rw [Yb (p:=xs) O];rfl),trivial⟩
   ·refine go 1 ?_
    exact Pw () trivial trivial ⟨by first | rfl | (rw [Yb (p:=xs) O];rfl),trivial⟩
  ·rintro _ -
   refine jn (G:=Unit) [0,1,2,3,10,11,12,13,29,30] [0,5,4,1,2,3] (fun _=>[]) (fun _=>[(6,box b_2 93 (wc (cf ys k)))]) (fun _=>True) ?_ ?_
   ·refine go 8 ?_
    refine Zc J (fun h111=>?_) (fun h111=>?_)
    ·refine go 7 ⟨O2,O2,?_⟩
     exact Pw () trivial trivial ⟨by first | rfl | (rw [Yb (p:=ys) O];rfl),trivial⟩
    ·refine go 1 ?_
     exact Pw () trivial trivial ⟨by first | rfl | (rw [Yb (p:=ys) O];rfl),trivial⟩
   ·rintro _ -
    refine go 6 ?_
    refine tt (Zpw (n:=6) (i:=1) (fs:=[_]) (vs:=[_,_]) (Zt8 _ _ _ (hv.sz _) (hu.sz _) (hz _)) J J J J K2 call170 J O3 Zo J hw.h trivial) (fun _ _=>?_)
    refine dt (Zy (ii:=4) (i:=k) J J J J (Yw pV) Lq Ix J (by rw [Ph];omega))<|tt (Lz (i:=4) (enc:=wv) _ J J J J J J pV J hw.h O3 (by rw [Ph];omega)) fun _ _=>go 7 ⟨O,?_⟩
    exact Yq (k+1) O1 O1 K1 ⟨by rw [←Zbz O];rfl,trivial⟩
 ·try rw [List.length_replicate]at *
  refine go 6 ?_
  obtain rfl:k=max xs.length ys.length:=O
  refine Zg (Qa 4 J J pV)<|go 3 ?_
  refine tt (Oi (n:=7) (i:=1) (Zb6 _ _ _ (by rw [Gt];exact Cp fun i _=>hz i)) J J J K2 call165 J O3 (Zk 4 J J J Zo) J hw.h trivial) fun _ _=>go 7 ?_
  exact Zbc (.inl J) hsc _ _ (fun a w hs=>Yb8 hs results169 J J) J trivial 1 J J J J (Zj7 7 J J J (by rw [Gt]<;>rfl) Za)
theorem Ycw(v u:Value)(xs ys:List Int)(hv:Vp xs)(hu:Vp ys)(hz:∀i,bl (cf xs i+cf ys i).natAbs≤65536):Cal prog 132 #[v,u] [Xc 2 wv v xs,Xc 2 wv u ys] true (G:=Value) (fun r=>True) (fun r=> .tuple #[r,.int .i64 0]) (fun r=>[Xc 2 wv r (Bq xs ys)]):=by
 refine Zh func132 ntmps132 fun w0 sc hw hsc=>go 8 ?_
 refine Ya (Zs 3) fun b _=>go 6 ?_
 refine dt (Zxe (vs:=[_]) J K1)<|tt (Oi (n:=4) (i:=3) (Zr6 _ _ _ _ _ ‹_› ‹_› ‹_›) J J J K4 call169 J O3 (Zk 1 J J J (Zk 2 J J J Zo)) J hw.h trivial) fun _ _=>go 7 ?_
 exact Mi hsc _ results132 J trivial (Oe 4 Za)
theorem Ycv(v u:Value)(xs ys:List Int)(hv:Vp xs)(hu:Vp ys)(hz:∀i,bl (cf xs i-cf ys i).natAbs≤65536):Cal prog 133 #[v,u] [Xc 2 wv v xs,Xc 2 wv u ys] true (G:=Value) (fun r=>True) (fun r=> .tuple #[r,.int .i64 0]) (fun r=>[Xc 2 wv r (Gj xs ys)]):=by
 refine Zh func133 ntmps133 fun w0 sc hw hsc=>go 8 ?_
 refine Ya (Zs 3) fun b _=>go 6 ?_
 refine dt (Zxe (vs:=[_]) J K1)<|tt (Oi (n:=4) (i:=3) (Zr5 _ _ _ _ _ ‹_› ‹_› ‹_›) J J J K4 call169 J O3 (Zk 1 J J J (Zk 2 J J J Zo)) J hw.h trivial) fun _ _=>go 7 ?_
 exact Mi hsc _ results133 J trivial (Oe 4 Za)
theorem Zjk(v u:Value)(xs ys:List Int)(hv:Vp xs)(hu:Vp ys)(hF:¬Zav xs ys):Cal prog 131 #[v,u] [Xc 2 wv v xs,Xc 2 wv u ys] true (G:=Value) (fun r=>True) (fun r=> .tuple #[r,.int .i64 0]) (fun r=>[Xc 2 wv r (Xq xs ys)]):=by
 refine Zh func131 ntmps131 fun w0 sc hw hsc=>?_
 have hlen:=hv.len
 have hlen2:=hu.len
 have hm1:=Qn hv.sz
 have hm2:=Qn hu.sz
 refine go 10 ?_
 refine cl 2 [1] (Xk _ _ ‹_›) fun _ _=>go 3 ?_
 refine Bl 2 [2] (Xk _ _ ‹_›) fun _ _=>go 14 ?_
 refine Ys (d:=23) J (fun s136=>?_) (fun s136=>?_)
 ·refine go 15 ?_
  exact Mi hsc _ results131 J trivial (Kq (Ai (p:=xs) (q:=ys) (by first | (left;omega) | (right;omega))) Za)
 ·refine go 6 ?_
  refine Zc J (fun h136=>?_) (fun h136=>?_)
  ·refine go 8 ?_
   exact Mi hsc _ results131 J trivial (Kq (Ai (p:=xs) (q:=ys) (by first | (left;omega) | (right;omega))) Za)
  ·have hnx:xs≠[]:=by intro e;subst e;simp_all
   have hny:ys≠[]:=by intro e;subst e;simp_all
   have hlx:0<xs.length:=List.length_pos_iff.2 hnx
   have hly:0<ys.length:=List.length_pos_iff.2 hny
   refine go 13 ⟨O,O,?_⟩
   refine Ys (d:=35) J (fun s139=>?_) (fun s139=>?_)
   ·exfalso;exact hF ⟨hnx,hny,.inl O⟩
   ·refine go 1 ?_
    refine Bl 2 [1] (Ka _ _ (by first | exact hv.sz | exact hu.sz)) fun _ _=>go 1 ?_
    refine Bl 2 [2] (Ka _ _ (by first | exact hv.sz | exact hu.sz)) fun _ _=>go 6 ⟨O,O,?_⟩
    refine Zc J (fun h139=>?_) (fun h139=>?_)
    ·exfalso;exact hF ⟨hnx,hny,by first | (left;omega) | (right;omega)⟩
    ·have hsz:Xw xs+Xw ys+5≤65536:=O
     have hpq:∀i j,bl (cf xs i*cf ys j).natAbs≤65536:=fun i j=>by have:=Yd (cf xs i) (cf ys j);have:=Pf xs i;have:=Pf ys j;omega
     have hac:∀i j t,i<25→bl (Aw xs ys i j t).natAbs≤65536:=fun i j t hi=>by have:=Yjh (i:=i) (j:=j) (t:=t) (Pf xs) (Pf ys) O;omega
     have hacc:∀t,bl (acc xs ys xs.length t).natAbs≤65536:=fun t=>by have:=bl_acc (i:=xs.length) (t:=t) (Pf xs) (Pf ys) O;omega
     have hsum:∀i j,i<25→bl (Aw xs ys i j (i+j)+cf xs i*cf ys j).natAbs≤65536:=fun i j hi=>by rw [←Yaj];exact hac i (j+1) _ hi
     refine go 4 ?_
     refine Ya (Zs 3) fun b _=>go 10 ⟨O,O,?_⟩
     refine tt (Kt (i:=4) (n:=(xs.length+ys.length-1)) (by_:=24) (enc:=wv) 0 J J J J Lq ti93 J pV.cells pV.pos J J J hw.h) fun v _=>go 12 ?_
     refine lp (G:=Nat) [1,6,7,51,52] [0,1,2,3] (fun i=>[(53,.int .i64 (i:Int))]) (fun i=>[(4,Ns 2 93 wv v (mk (xs.length+ys.length-1) (acc xs ys i)))]) (fun i=>i≤xs.length) (fun i=>xs.length-i) 0 O1 K1 ⟨by rw [Zta];rfl,trivial⟩ ?_
     rintro i hi
     refine go 6 ?_
     refine Zc J (fun h144=>?_) (fun h144=>?_)
     ·refine go 9 ⟨O2,O2,?_⟩
      refine Ya (Zs 5) fun b_2 _=>go 12 ?_
      refine lp (G:=Nat) [1,6,7,8,9,51,52,53,58,59] [0,1,2,3,5] (fun j=>[(60,.int .i64 (j:Int))]) (fun j=>[(4,Ns 2 93 wv v (mk (xs.length+ys.length-1) (Aw xs ys i j)))]) (fun j=>j≤ys.length) (fun j=>ys.length-j) 0 O1 K1 ⟨by rw [Yai];rfl,trivial⟩ ?_
      rintro j hj
      have hgd:i+j<xs.length+ys.length-1→(mk (xs.length+ys.length-1) (Aw xs ys i j)).getD (i+j) 0=Aw xs ys i j (i+j):=fun h=>Zig h
      refine go 6 ?_
      refine Zc J (fun h145=>?_) (fun h145=>?_)
      ·refine go 9 ⟨O2,O2,?_⟩
       refine Ya (Zs 6) fun b_3 _=>go 4 ?_
       refine Xx (fun x=>x=b) [(0,0),(1,0),(2,0),(3,0),(4,0),(5,0),(6,0),(7,0),(8,0),(9,0),(10,0),(11,0),(12,1),(13,1),(14,0),(15,3)]<|go 8 ⟨O,O,?_⟩
       refine Qo J J (st1 3 J (Zy (ii:=4) (i:=(i+j)) J J J J (Yw pV) Lq Ix O (by rw [Yu];omega)))<|go 3 ⟨by rw [Yu];omega,?_⟩
       refine Kg J (Oi (n:=6) (i:=3) (Za1 _ _ _ (hv.sz _) (hu.sz _) (hpq i j)) J J J K3 call164 J O3 Zo J hw.h J) (fun _ _=>?_)
       refine Kg J (Oi (n:=6) (i:=3) (Zt9 _ _ _ (by rw [hgd O];exact hac i j _ O) (hpq i j) (by rw [hgd O];exact hsum i j O)) J J J K3 call168 J O3 Zo J hw.h J) (fun _ _=>?_)
       refine Qo J J (st1 3 J (Zy (ii:=4) (i:=(i+j)) J J J J (Yw pV) Lq Ix O (by rw [Yu];omega)))<|r3' J (Lz (i:=4) (enc:=wv) _ J J J J J J pV J hw.h O3 (by rw [Yu];omega)) fun _ _=>go 7 ⟨O,?_⟩
       exact Yq (j+1) O1 O1 K1 ⟨by rw [←Yfw O,←hgd O];rfl,trivial⟩
      ·refine go 10 ⟨O,?_⟩
       obtain rfl:j=ys.length:=O
       exact Yq (i+1) O1 O1 K1 ⟨by rw [←Yfx];rfl,trivial⟩
     ·refine go 6 ?_
      obtain rfl:i=xs.length:=O
      refine Zg (Qa 4 J J pV)<|go 2 ?_
      refine tt (Oi (n:=7) (i:=3) (Zb6 _ _ _ (Cp fun t _=>hacc t)) J J J K2 call165 J O3 (Zk 4 J J J Zo) J hw.h trivial) fun _ _=>go 7 ?_
      exact Mi hsc _ results131 J trivial (Oe 7 Za (by rw [Ycz]<;>rfl))
theorem Zdl(v u:Value)(xs ys:List Int)(hv:Vp xs)(hu:Vp ys):Ok prog 243 #[v,u] [Xc 2 wv v xs,Xc 2 wv u ys] (.tuple #[.bool (Yim xs ys),.int .i64 (Ds xs ys)]):=by
 refine Zh func243 ntmps243 fun w0 sc hw hsc=>?_
 have hlen:=hv.len
 have hlen2:=hu.len
 have hm1:=Qn hv.sz
 have hm2:=Qn hu.sz
 refine go 11 ?_
 refine cl 2 [1] (Xk _ _ ‹_›) fun _ _=>go 3 ?_
 refine Bl 2 [2] (Xk _ _ ‹_›) fun _ _=>go 14 ?_
 refine Zc J (fun h297=>?_) (fun h297=>?_)
 ·refine go 9 ?_
  exact Mi hsc () results243 (by unfold Ds Yim;rw [if_pos O,List.eq_nil_of_length_eq_zero (l:=ys) O];rfl) trivial Za
 ·refine go 10 ?_
  refine Zc J (fun h299=>?_) (fun h299=>?_)
  ·refine go 9 ?_
   exact Mi hsc () results243 (by rw [Zft O,decide_eq_true O];unfold Ds;rw [if_neg O,if_pos O]) trivial Za
  ·have hp3:(xs.length-ys.length+1)*(Xw ys+1)≤26*65537:=Nat.mul_le_mul O O
   have hp4:((xs.length:Int)-(ys.length:Int)+1)*((Xw ys:Int)+1)=(((xs.length-ys.length+1)*(Xw ys+1):Nat):Int):=by rw [Int.natCast_mul];congr 1;omega
   refine go 3 ?_
   refine cl 2 [1] (Ka _ _ (by first | exact hv.sz | exact hu.sz)) fun _ _=>go 7 ⟨O,O,?_⟩
   refine cl 2 [2] (Ka _ _ (by first | exact hv.sz | exact hu.sz)) fun _ _=>go 7 ⟨O,by rw [hp4];exact⟨O,O⟩,by rw [hp4];exact⟨O,O⟩,?_⟩
   refine Zc J (fun h301=>?_) (fun h301=>?_)
   ·refine go 9 ?_
    exact Mi hsc () results243 (by rw [hp4]at h301;rw [Zft O,decide_eq_false O];unfold Ds;rw [if_neg O,if_neg O,if_pos O]) trivial Za
   ·refine go 10 ?_
    exact Mi hsc () results243 (by rw [hp4]at h301;rw [Zft O,decide_eq_false O];unfold Ds;rw [if_neg O,if_neg O,if_neg O]) trivial Za
theorem Zl7(v u:Value)(xs ys:List Int)(hv:Vp xs)(hu:Vp ys)(hd:Ds xs ys=0):Cal prog 242 #[v,u] [Xc 2 wv v xs,Xc 2 wv u ys] true (G:=Value) (fun r=>True) (fun r=> .tuple #[r,.int .i64 0]) (fun r=>[Xc 2 wv r (Xm xs ys)]):=by
 refine Zh func242 ntmps242 fun w0 sc hw hsc=>?_
 have hlen:=hv.len
 have hlen2:=hu.len
 have hm1:=Qn hv.sz
 have hm2:=Qn hu.sz
 obtain⟨hm0,hF0⟩:=Za2 hd
 have hdl:=Zft (p:=xs) hm0
 refine go 10 ?_
 refine cl 2 [1,2] (Zdl _ _ _ _ hv hu) fun _ _=>go 14 ?_
 refine Zc J (fun h310=>?_) (fun h310=>?_)
 ·exfalso;exact h310 hd
 ·refine go 5 ?_
  refine tt (Zm3 (n:=3) (Zxt _ _) J J J K1 call244 (Zk 1 J J J Zo) J hw.h) fun v _=>go 9 ?_
  refine Oy J (fun h314=>?_) (fun h314=>?_)
  ·have hlt:xs.length<ys.length:=by rw [hdl]at h314;simpa using h314
   refine go 9 ?_
   exact Mi hsc _ results242 J trivial (gow 3 Za (by unfold Xm;rw [if_pos hlt]))
  ·have hge:ys.length≤xs.length:=by rw [hdl]at h314;simpa using h314
   have hF:=hF0 hge
   refine go 4 ?_
   refine Ya (Zs 4) fun b _=>go 8 ⟨O,?_⟩
   refine dt (Zy (ii:=2) (i:=(ys.length-1)) J J J J Zn Lq Ix)<|go 1 ⟨O,?_⟩
   refine Ya (Zs 5) fun b_2 _=>go 13 ⟨O,?_⟩
   refine lp (G:=Nat) [1,8,9,10] [0,1,2,4,5] (fun j=>[(11,.int .i64 ((xs.length:Int)-1-(j:Int)))]) (fun j=>[(3,Ns 2 93 wv v (Xz xs ys j))]) (fun j=>j≤xs.length-ys.length+1) (fun j=>xs.length-ys.length+1-j) 0 O1 ⟨by rw [show(xs.length:Int)-1-((0:Nat):Int)=(xs.length:Int)-1 by omega];rfl,trivial⟩ K1 ?_
   rintro j hj
   refine go 10 ⟨O,?_⟩
   refine Zc J (fun h319=>?_) (fun h319=>?_)
   ·obtain⟨hb1,hb2,hb3⟩:=rest_b hF (j:=j) O
    have hRl:=Qv xs ys j
    refine go 8 ?_
    refine dt (Zy (ii:=3) (i:=(xs.length-1-j)) J J J J (Yw pV) Lq Ix)<|go 1 ⟨O,?_⟩
    refine Ya (Zs 6) fun b_3 _=>go 12 ?_
    refine lp (G:=Nat) [1,8,9,10,11,12,51] [0,1,2,4,5,6] (fun i=>[(52,.int .i64 (i:Int))]) (fun i=>[(3,Ns 2 93 wv v (Zhu (Xz xs ys j) (cf ys (ys.length-1)) i))]) (fun i=>i≤xs.length) (fun i=>xs.length-i) 0 O1 K1 ⟨by rw [Zzm];rfl,trivial⟩ ?_
    rintro i hi
    have hg1:i<xs.length→(Zhu (Xz xs ys j) (cf ys (ys.length-1)) i).getD i 0=cf (Xz xs ys j) i:=fun h=>Ydp O
    have hl1:=Zrb (Xz xs ys j) (cf ys (ys.length-1)) i
    refine go 6 ?_
    refine Zc J (fun h322=>?_) (fun h322=>?_)
    ·refine go 10 ?_
     refine Xx (fun x=>x=b) [(0,0),(1,0),(2,0),(3,0),(4,0),(5,0),(6,0),(7,1),(8,0),(9,3)]<|go 4 ?_
     refine Qo J J (st1 4 J (Zy (ii:=3) (i:=i) J J J J (Yw pV) Lq Ix J))<|go 2 ⟨O,?_⟩
     refine Kg J (Oi (n:=6) (i:=4) (Za1 _ _ _ (by rw [hg1 O];exact hb1 _) (hu.sz _) (by rw [hg1 O];exact hb2 _ _)) J J J K3 call164 J O3 Zo J hw.h J) (fun _ _=>?_)
     refine Qo J J (st1 4 J (Zy (ii:=3) (i:=i) J J J J (Yw pV) Lq Ix J))<|r3' J (Lz (i:=3) (enc:=wv) _ J J J J J J pV J hw.h) fun _ _=>go 7 ⟨O,?_⟩
     exact Yq (i+1) O1 O1 K1 ⟨by rw [←Ydo O,←hg1 O];rfl,trivial⟩
    ·refine go 6 ?_
     obtain rfl:i=xs.length:=O
     refine go 7 ?_
     refine lp (G:=Nat) [1,8,9,10,11,12,65,66] [0,1,2,4,5,6] (fun i=>[(67,.int .i64 (i:Int))]) (fun i=>[(3,Ns 2 93 wv v (Zk4 ys (Xz xs ys j) (cf ys (ys.length-1)) (cf (Xz xs ys j) (xs.length-1-j)) (xs.length-1-j-(ys.length-1)) i))]) (fun i=>i≤ys.length) (fun i=>ys.length-i) 0 O1 K1 ⟨by rw [←Zyo,hRl];rfl,trivial⟩ ?_
     rintro i hi
     have hg2:i<ys.length→(Zk4 ys (Xz xs ys j) (cf ys (ys.length-1)) (cf (Xz xs ys j) (xs.length-1-j)) (xs.length-1-j-(ys.length-1)) i).getD ((xs.length-1-j-(ys.length-1))+i) 0=cf (Xz xs ys j) ((xs.length-1-j-(ys.length-1))+i)*(cf ys (ys.length-1)):=fun h=>Ya8 O
     have hl2:=Zra ys (Xz xs ys j) (cf ys (ys.length-1)) (cf (Xz xs ys j) (xs.length-1-j)) (xs.length-1-j-(ys.length-1)) i
     refine go 6 ?_
     refine Zc J (fun h325=>?_) (fun h325=>?_)
     ·refine go 9 ⟨O2,O2,?_⟩
      refine Ya (Zs 7) fun b_4 _=>go 16 ⟨O,O,O,?_⟩
      refine Xx (fun x=>x=b) [(0,0),(1,0),(2,0),(3,0),(4,0),(5,0),(6,0),(7,0),(8,1),(9,1),(10,0),(11,3)]<|go 4 ?_
      refine Qo J J (st1 4 J (Zy (ii:=3) (i:=((xs.length-1-j-(ys.length-1))+i)) J J J J (Yw pV) Lq Ix))<|go 3 ⟨O,?_⟩
      refine Kg J (Oi (n:=7) (i:=4) (Za1 _ _ _ (hb1 _) (hu.sz _) (hb2 _ _)) J J J K3 call164 J O3 Zo J hw.h J) (fun _ _=>?_)
      refine Kg J (Oi (n:=7) (i:=4) (Zt8 _ _ _ (by rw [hg2 O];exact hb2 _ _) (hb2 _ _) (by rw [hg2 O];exact hb3 _ _ _ _)) J J J K3 call170 J O3 Zo J hw.h J) (fun _ _=>?_)
      refine Qo J J (st1 4 J (Zy (ii:=3) (i:=((xs.length-1-j-(ys.length-1))+i)) J J J J (Yw pV) Lq Ix))<|r3' J (Lz (i:=3) (enc:=wv) _ J J J J J J pV J hw.h) fun _ _=>go 7 ⟨O,?_⟩
      exact Yq (i+1) O1 O1 K1 ⟨by rw [←Ya7 O,←hg2 O];rfl,trivial⟩
     ·refine go 11 ⟨O,?_⟩
      obtain rfl:i=ys.length:=O
      exact Yq (j+1) O1 O1 ⟨by rw [show(xs.length:Int)-1-((j+1:Nat):Int)=(xs.length:Int)-1-(j:Int)-1 by omega];rfl,trivial⟩ ⟨by rfl,trivial⟩
   ·refine go 6 ?_
    obtain rfl:j=xs.length-ys.length+1:=O
    refine Zg (Qa 3 J J pV)<|go 2 ?_
    refine tt (Oi (n:=8) (i:=4) (Zb6 _ _ _ (Zpx hF)) J J J K2 call165 J O3 (Zk 3 J J J Zo) J hw.h trivial) fun _ _=>go 7 ?_
    exact Mi hsc _ results242 J trivial (Oe 8 Za (by unfold Xm;rw [if_neg O]<;>rfl))
theorem Zbq(v u:Value)(xs ys:List Int)(hv:Vp xs)(hu:Vp ys)(hd:Ds xs ys=0):Cal prog 226 #[v,u] [Xc 2 wv v xs,Xc 2 wv u ys] true (G:=Value) (fun r=>True) (fun r=> .tuple #[r,.int .i64 (if pdv xs ys then 0 else 10)]) (fun r=>[Xc 2 wv r (if pdv xs ys then Ms xs ys else [])]):=by
 refine Zh func226 ntmps226 fun w0 sc hw hsc=>?_
 have hlen:=hv.len
 have hlen2:=hu.len
 have hm1:=Qn hv.sz
 have hm2:=Qn hu.sz
 obtain⟨hm0,hF0⟩:=Za2 hd
 have hdl:=Zft (p:=xs) hm0
 have hyz:cf ys (ys.length-1)≠0:=hu.tr.mem (fun e=>hm0 (by rw [e];rfl))
 refine go 10 ?_
 refine cl 2 [1,2] (Zdl _ _ _ _ hv hu) fun _ _=>go 16 ?_
 refine Zc J (fun h337=>?_) (fun h337=>?_)
 ·exfalso;exact h337 hd
 ·refine go 8 ?_
  refine Zc J (fun h339=>?_) (fun h339=>?_)
  ·refine go 9 ?_
   have hx0:xs=[]:=List.eq_nil_of_length_eq_zero O
   have hp:pdv xs ys:= .inl hx0
   exact Mi hsc _ results226 (by rw [if_pos hp]) trivial (Kq (by rw [if_pos hp,hx0];rfl) Za)
  ·have hnx:xs≠[]:=fun e=>by rw [e]at h339;simp at h339
   refine go 6 ?_
   refine Oy J (fun h341=>?_) (fun h341=>?_)
   ·have hlt:xs.length<ys.length:=by rw [hdl]at h341;simpa using h341
    refine go 9 ?_
    have hp:¬pdv xs ys:=fun h=>by rcases h with h | h;(exact hnx h);(have:=h.1;omega)
    exact Mi hsc _ results226 (by rw [if_neg hp]) trivial (Kq (if_neg hp) Za)
   ·have hge:ys.length≤xs.length:=by rw [hdl]at h341;simpa using h341
    have hF:=hF0 hge
    refine go 5 ?_
    refine Ya (Zs 3) fun b _=>go 5 ?_
    refine tt (Zm3 (n:=4) (Zxt _ _) J J J K1 call244 (Zk 1 J J J Zo) J hw.h) fun v _=>go 11 ⟨O,O,?_⟩
    refine tt (Kt (i:=5) (n:=(xs.length-ys.length+1)) (by_:=24) (enc:=wv) 0 J J J J Lq ti93 J pV.cells pV.pos J J J hw.h) fun v_2 _=>go 13 ⟨⟨by simp only [List.length_replicate];omega,by simp only [List.length_replicate];omega⟩,?_⟩
    refine lp (G:=Nat) [1,8,9,10] [0,1,2,3] (fun j=>[(11,.int .i64 ((xs.length:Int)-(ys.length:Int)-(j:Int)))]) (fun j=>[(4,Ns 2 93 wv v (Xb xs ys j)),(5,Ns 2 93 wv v_2 (Zb2 xs ys j))]) (fun j=>(j≤xs.length-ys.length+1)∧(∀k,xs.length-ys.length<k+j→k≤xs.length-ys.length→Nu xs ys k)) (fun j=>xs.length-ys.length+1-j) 0 ⟨O1,fun k h1 h2=>O⟩ ⟨by simp only [List.length_replicate];exact congrArg some (Zaz O),trivial⟩ ⟨J,by rw [Zmn];rfl,trivial⟩ ?_
    rintro j ⟨hj,hx⟩
    have hol:=Bd xs ys j
    refine go 7 ?_
    refine Zc J (fun h347=>?_) (fun h347=>?_)
    ·obtain⟨hb1,hb5⟩:=div_b hF (j:=j) O hx
     have hRl:=He xs ys j
     have hi1:xs.length-ys.length-j+ys.length-1<xs.length:=O
     refine go 4 ?_
     refine jn (G:=Nat×Nat) [1,8,9,10,11] [0,4,5,1,2,3] (fun q=>[(12,.pointer (some ⟨q.1,0,none⟩)),(13,.pointer (some ⟨q.2,0,none⟩)),(14,.int .i64 0)]) (fun q=>[(97,box q.1 93 (wc (Bs (dq ys (Xb xs ys j) (xs.length-ys.length-j))))),(98,box q.2 93 (wc (Bs (cf (Xb xs ys j) ((xs.length-ys.length-j)+ys.length-1)%cf ys (ys.length-1)))))]) (fun q=>True) ?_ ?_
     ·refine Pm [2,4] [23]<|Zl (n:=10) [(0,0),(1,0),(2,0),(3,0),(4,0),(5,0),(6,0),(7,0),(8,0),(9,0),(10,0),(11,0),(12,0),(13,0)]<|go 6 ⟨O,O,?_⟩
      refine Qo J J (stf (Zy (ii:=4) (i:=((xs.length-ys.length-j)+ys.length-1)) J J J J (Yw pV) Lq Ix) K2)<|go 5 ⟨O,O,?_⟩
      refine Qo J J (stf (Zy (ii:=2) (i:=(ys.length-1)) J J J J Zn Lq Ix) K2)<|go 2 ⟨O,?_⟩
      refine Zdt (n:=9) 14 19 20 ?_ ?_ ?_
      ·refine Nb (Zj 5 [] (Cc _ _ (hb1 _) (hu.sz _) hyz)) fun _ _=>?_
       refine Zl (n:=5) [(15,0),(16,0),(17,0),(18,0)]<|go 5 ?_
       refine Qp (n:=4) 19 20 ?_ ?_
       ·refine Nb (Ql 97) fun b_2 ho=>?_
        refine Zl (n:=0) [(20,1),(21,1),(22,1),(23,3)]<|Yh (Ql 98) fun b_3 ho2=>go 4 ?_
        exact Zp<|Pw (_,_) trivial K3 K2
       ·refine Nb (Ql 98) fun b_4 ho3=>?_
        refine Zl (n:=0) [(19,1),(21,1),(22,1),(23,3)]<|Yh (Ql 97) fun b_5 ho4=>go 4 ?_
        exact Zp<|Pw (_,_) trivial K3 K2
      ·refine Nb (Ql 97) fun b_6 ho5=>?_
       refine Qp (n:=8) 14 20 ?_ ?_
       ·refine Nb (Zj 5 [] (Cc _ _ (hb1 _) (hu.sz _) hyz)) fun _ _=>?_
        refine Zl (n:=0) [(15,0),(16,0),(17,0),(18,0),(20,1),(21,1),(22,1),(23,3)]<|go 4 ?_
        refine Yh (Ql 98) fun b_7 ho6=>go 4 ?_
        exact Zp<|Pw (_,_) trivial K3 K2
       ·refine Nb (Ql 98) fun b_8 ho7=>?_
        refine Zl (n:=0) [(14,1),(15,0),(16,0),(17,0),(18,0),(21,1),(22,1),(23,3)]<|Yh (Zj 5 [] (Cc _ _ (hb1 _) (hu.sz _) hyz)) fun _ _=>go 8 ?_
        exact Zp<|Pw (_,_) trivial K3 K2
      ·refine Nb (Ql 98) fun b_9 ho8=>?_
       refine Qp (n:=8) 14 19 ?_ ?_
       ·refine Nb (Zj 5 [] (Cc _ _ (hb1 _) (hu.sz _) hyz)) fun _ _=>?_
        refine Zl (n:=0) [(15,0),(16,0),(17,0),(18,0),(19,1),(21,1),(22,1),(23,3)]<|go 4 ?_
        refine Yh (Ql 97) fun b_10 ho9=>go 4 ?_
        exact Zp<|Pw (_,_) trivial K3 K2
       ·refine Nb (Ql 97) fun b_11 ho10=>?_
        refine Zl (n:=0) [(14,1),(15,0),(16,0),(17,0),(18,0),(21,1),(22,1),(23,3)]<|Yh (Zj 5 [] (Cc _ _ (hb1 _) (hu.sz _) hyz)) fun _ _=>go 8 ?_
        exact Zp<|Pw (_,_) trivial K3 K2
     ·rintro⟨b7,b8⟩ -
      dsimp only
      refine go 7 ?_
      refine Zc J (fun h349=>?_) (fun h349=>?_)
      ·exfalso;exact h349 rfl
      ·refine go 6 ?_
       refine cl 5 [] (Il _ (Yi0 _)) fun _ _=>go 3 ?_
       refine Zc J (fun h352=>?_) (fun h352=>?_)
       ·have hne:¬Nu xs ys (xs.length-ys.length-j):=fun he=>h352 (by rw [Zr8 hyz (hu.sz _),(Zfu O).1 he];rfl)
        refine go 13 ?_
        have hp:¬pdv xs ys:=fun h=>by rcases h with h | h;(exact hnx h);(exact hne (h.2.1 _ O))
        exact Mi hsc _ results226 (by rw [if_neg hp]) trivial (Kq (if_neg hp) Za)
       ·have hde:Nu xs ys (xs.length-ys.length-j):=(Zfu O).2 (by have h0:=Decidable.byContradiction h352;rw [Zr8 hyz (hu.sz _)]at h0;exact Int.sign_eq_zero_iff_zero.1 h0)
        obtain⟨hb2,hb3,hb4⟩:=hb5 hde
        refine Zg (Ia 97 (q:=box b7 93 (wc (dq ys (Xb xs ys j) (xs.length-ys.length-j)))) (by rw [Mw hb2]) J J)<|go 7 ?_
        refine dt (Zy (ii:=5) (i:=(xs.length-ys.length-j)) J J J J (Yw pV) Lq Ix)<|tt (Lz (i:=5) (enc:=wv) _ J J J J J J pV J hw.h) fun _ _=>go 10 ?_
        refine lp (G:=Nat) [1,8,9,10,11,12,78,79] [0,97,98,5,1,2,3] (fun i=>[(80,.int .i64 (i:Int))]) (fun i=>[(4,Ns 2 93 wv v (Zld ys (Xb xs ys j) (dq ys (Xb xs ys j) (xs.length-ys.length-j)) (xs.length-ys.length-j) i))]) (fun i=>i≤ys.length) (fun i=>ys.length-i) 0 O1 K1 ⟨by rw [←Zz8];rfl,trivial⟩ ?_
        rintro i hi
        have hg2:i<ys.length→(Zld ys (Xb xs ys j) (dq ys (Xb xs ys j) (xs.length-ys.length-j)) (xs.length-ys.length-j) i).getD ((xs.length-ys.length-j)+i) 0=cf (Xb xs ys j) ((xs.length-ys.length-j)+i):=fun h=>Yew O
        have hl2:=Zrc ys (Xb xs ys j) (dq ys (Xb xs ys j) (xs.length-ys.length-j)) (xs.length-ys.length-j) i
        refine go 6 ?_
        refine Zc J (fun h356=>?_) (fun h356=>?_)
        ·refine go 9 ⟨O2,O2,?_⟩
         refine Ya (Zs 6) fun b_12 _=>go 4 ?_
         refine Xx (fun x=>x=b) [(0,0),(1,0),(2,0),(3,0),(4,0),(5,0),(6,0),(7,0),(8,0),(9,0),(10,0),(11,0),(12,1),(13,1),(14,0),(15,3)]<|go 8 ⟨O,O,?_⟩
         refine Qo J J (st1 3 J (Zy (ii:=4) (i:=((xs.length-ys.length-j)+i)) J J J J (Yw pV) Lq Ix))<|go 3 ⟨O,?_⟩
         refine Kg J (Oi (n:=6) (i:=3) (Za1 _ _ _ hb2 (hu.sz _) (hb3 _)) J J J K3 call164 J O3 Zo J hw.h J) (fun _ _=>?_)
         refine Kg J (Oi (n:=6) (i:=3) (Zt8 _ _ _ (by rw [hg2 O];exact hb1 _) (hb3 _) (by rw [hg2 O];exact hb4 _ _)) J J J K3 call170 J O3 Zo J hw.h J) (fun _ _=>?_)
         refine Qo J J (st1 3 J (Zy (ii:=4) (i:=((xs.length-ys.length-j)+i)) J J J J (Yw pV) Lq Ix))<|r3' J (Lz (i:=4) (enc:=wv) _ J J J J J J pV J hw.h) fun _ _=>go 7 ⟨O,?_⟩
         exact Yq (i+1) O1 O1 K1 ⟨by rw [←Yev O,←hg2 O];rfl,trivial⟩
        ·refine go 11 ⟨O,?_⟩
         obtain rfl:i=ys.length:=O
         exact Yq (j+1) ⟨O1,fun k h1 h2=>by rcases Nat.lt_or_ge (xs.length-ys.length) (k+j)with h3 | h3;(exact hx k h3 h2);(rw [show k=xs.length-ys.length-j by omega];exact hde)⟩ O1 ⟨by rw [show(xs.length:Int)-(ys.length:Int)-((j+1:Nat):Int)=(xs.length:Int)-(ys.length:Int)-(j:Int)-1 by omega];rfl,trivial⟩ ⟨by rfl,by rw [←Zrq O];rfl,trivial⟩
    ·refine go 7 ?_
     obtain rfl:j=xs.length-ys.length+1:=O
     have hall:∀k,k≤xs.length-ys.length→Nu xs ys k:=fun k hk=>hx k O hk
     refine Zg (Qa 4 J J pV)<|go 6 ?_
     refine Ys (d:=105) J (fun s360=>?_) (fun s360=>?_)
     ·refine go 1 ?_
      refine Bl 7 [4] (Zcv _ _ (Ya5 hF hall)) fun _ _=>go 5 ?_
      refine Zc J (fun h360=>?_) (fun h360=>?_)
      ·refine go 8 ?_
       have hp:¬pdv xs ys:=fun h=>by rcases h with h | h;(exact hnx h);(rw [h.2.2]at h360;simp at h360)
       exact Mi hsc _ results226 (by rw [if_neg hp]) trivial (Kq (if_neg hp) Za)
      ·refine go 3 ?_
       refine Zg (Qa 5 J J pV)<|go 2 ?_
       refine tt (Oi (n:=8) (i:=3) (Zb6 _ _ _ (Zu3 hF hall _)) J J J K2 call165 J O3 (Zk 5 J J J Zo) J hw.h trivial) fun _ _=>go 7 ?_
       have hp:pdv xs ys:= .inr ⟨hge,hall,List.eq_nil_of_length_eq_zero O⟩
       exact Mi hsc _ results226 (by rw [if_pos hp]<;>rfl) trivial (Oe 8 Za (by rw [if_pos hp,Zji hnx,←Zb1]<;>rfl))
     ·exfalso;exact s360 rfl
theorem Zqu(v u:Value)(xs ys:List Int)(hv:Vp xs)(hu:Vp ys)(F:Nat)(hg:¬Zmi xs ys)(hok:eok F (gA xs ys) (gB xs ys)):Cal prog 225 #[v,u] [Xc 2 wv v xs,Xc 2 wv u ys] true (G:=Value) (fun r=>True) (fun r=> .tuple #[r,.int .i64 0]) (fun r=>[Xc 2 wv r (Ou F xs ys)]):=by
 refine Zh func225 ntmps225 fun w0 sc hw hsc=>?_
 have hlen:=hv.len
 have hlen2:=hu.len
 have hm1:=Qn hv.sz
 have hm2:=Qn hu.sz
 have hpx:=Zq xs
 have hpy:=Zq ys
 have hN2:(max xs.length ys.length+2)*(max xs.length ys.length+2)≤27*27:=Nat.mul_le_mul O O
 have hN3:(max xs.length ys.length+2)*(max xs.length ys.length+2)*(max (Xw xs) (Xw ys)+8)≤27*27*65544:=Nat.mul_le_mul hN2 O
 have hN4:(max (xs.length:Int) (ys.length:Int)+2)*(max (xs.length:Int) (ys.length:Int)+2)=(((max xs.length ys.length+2)*(max xs.length ys.length+2):Nat):Int):=by rw [Int.natCast_mul,show(((max xs.length ys.length+2):Nat):Int)=(max (xs.length:Int) (ys.length:Int)+2) by omega]
 have hN5:(max (xs.length:Int) (ys.length:Int)+2)*(max (xs.length:Int) (ys.length:Int)+2)*(max (Xw xs:Int) (Xw ys:Int)+8)=(((max xs.length ys.length+2)*(max xs.length ys.length+2)*(max (Xw xs) (Xw ys)+8):Nat):Int):=by rw [hN4,Int.natCast_mul ((max xs.length ys.length+2)*(max xs.length ys.length+2)),show((max (Xw xs) (Xw ys)+8:Nat):Int)=max (Xw xs:Int) (Xw ys:Int)+8 by omega]
 refine go 10 ?_
 refine cl 2 [1] (Xk _ _ ‹_›) fun _ _=>go 3 ?_
 refine Bl 2 [2] (Xk _ _ ‹_›) fun _ _=>go 14 ?_
 refine dt (Zmq J J J)<|go 4 ⟨O,?_⟩
 refine jn (G:=Unit) [0,1] [0,1,2] (fun _=>[(46,.bool (decide (Zmi xs ys)))]) (fun _=>[]) (fun _=>True) ?_ ?_
 ·refine go 5 ?_
  refine Ys (d:=29) J (fun s371=>?_) (fun s371=>?_)
  ·refine go 5 ?_
   refine Ys (d:=34) J (fun s371_2=>?_) (fun s371_2=>?_)
   ·refine go 4 ⟨by rw [hN4];exact⟨O,O⟩,?_⟩
    refine Bl 2 [1] (Ka _ _ (by first | exact hv.sz | exact hu.sz)) fun _ _=>go 1 ?_
    refine Bl 2 [2] (Ka _ _ (by first | exact hv.sz | exact hu.sz)) fun _ _=>?_
    refine Dc (Zmq J J J) J J<|go 5 ⟨O,by rw [hN5];exact⟨O,O⟩,?_⟩
    exact Pw () trivial ⟨by first | (rw [hN5];exact congrArg some (vB (decide_eq_decide.2 ⟨fun h=>⟨O,O,O⟩,fun h=>by have:=h.2.2;omega⟩))) | exact congrArg some (vB (decide_eq_false (fun h=>by have h1:=h.1;have h2:=h.2.1;omega)).symm),trivial⟩ trivial
   ·refine go 13 ?_
    exact Pw () trivial ⟨by first | (rw [hN5];exact congrArg some (vB (decide_eq_decide.2 ⟨fun h=>⟨O,O,O⟩,fun h=>by have:=h.2.2;omega⟩))) | exact congrArg some (vB (decide_eq_false (fun h=>by have h1:=h.1;have h2:=h.2.1;omega)).symm),trivial⟩ trivial
  ·refine go 18 ?_
   exact Pw () trivial ⟨by first | (rw [hN5];exact congrArg some (vB (decide_eq_decide.2 ⟨fun h=>⟨O,O,O⟩,fun h=>by have:=h.2.2;omega⟩))) | exact congrArg some (vB (decide_eq_false (fun h=>by have h1:=h.1;have h2:=h.2.1;omega)).symm),trivial⟩ trivial
 ·rintro _ -
  refine Zc J (fun h371=>?_) (fun h371=>?_)
  ·exfalso;exact hg h371
  ·refine go 5 ?_
   refine cl 3 [1] (Md _ _ hv) fun _ _=>go 14 ?_
   refine Zc J (fun h375=>?_) (fun h375=>?_)
   ·exfalso;exact h375 rfl
   ·refine go 5 ?_
    refine cl 4 [2] (Md _ _ hu) fun _ _=>go 14 ?_
    refine Zc J (fun h379=>?_) (fun h379=>?_)
    ·exfalso;exact h379 rfl
    ·refine go 2 ?_
     refine jn (G:=Value×Value) [] [0,1,2,3,4] (fun q=>[(7,q.1),(9,q.2)]) (fun q=>[(80,Xc 2 wv q.1 (gA xs ys)),(81,Xc 2 wv q.2 (gB xs ys))]) (fun q=>True) ?_ ?_
     ·refine go 9 ?_
      refine Zc J (fun h382=>?_) (fun h382=>?_)
      ·refine go 6 ?_
       exact Zw (Xe 4 80 J J J)<|Zw (Xe 3 81 J J J)<|Pw (_,_) trivial K2 ⟨by unfold gA;first | rw [if_pos O];rfl | rw [if_neg O];rfl,by unfold gB;first | rw [if_pos O];rfl | rw [if_neg O];rfl,trivial⟩
      ·refine go 1 ?_
       exact Zw (Xe 3 80 J J J)<|Zw (Xe 4 81 J J J)<|Pw (_,_) trivial K2 ⟨by unfold gA;first | rw [if_pos O];rfl | rw [if_neg O];rfl,by unfold gB;first | rw [if_pos O];rfl | rw [if_neg O];rfl,trivial⟩
     ·rintro⟨va,vb⟩ -
      dsimp only
      refine go 2 ?_
      refine lp (G:=Value×Value×List Int×List Int×Nat) [] [0,1,2,3,4] (fun q=>[(7,q.1),(9,q.2.1)]) (fun q=>[(80,Xc 2 wv q.1 q.2.2.1),(81,Xc 2 wv q.2.1 q.2.2.2.1)]) (fun q=>(Vp q.2.2.1)∧(Vp q.2.2.2.1)∧(eok q.2.2.2.2 q.2.2.1 q.2.2.2.1)∧(eu q.2.2.2.2 q.2.2.1 q.2.2.2.1=eu F (gA xs ys) (gB xs ys))) (fun q=>q.2.2.2.2) (va,vb,gA xs ys,gB xs ys,F) ⟨vp_gA hv hu,vp_gB hv hu,hok,J⟩ K2 K2 ?_
      rintro⟨va,vb,a,b,f⟩ ⟨hva,hvb,hok0,heu⟩
      dsimp only at hva hvb hok0 heu
      dsimp only
      refine go 8 ?_
      refine Zc J (fun h385=>?_) (fun h385=>?_)
      ·have hbn:b≠[]:=fun e=>by rw [e]at h385;simp at h385
       obtain⟨f1,rfl,hde,hok1,heu1⟩:=Zrn hok0 hbn
       refine go 7 ?_
       refine cl 5 [80,81] (Zl7 _ _ _ _ hva hvb hde) fun _ _=>go 14 ?_
       refine Zc J (fun h387=>?_) (fun h387=>?_)
       ·exfalso;exact h387 rfl
       ·refine go 6 ?_
        refine cl 6 [5] (Md _ _ (Bu hva hde)) fun _ _=>go 13 ?_
        refine Zc J (fun h390=>?_) (fun h390=>?_)
        ·exfalso;exact h390 rfl
        ·refine go 9 ?_
         exact Zw (Xe 81 80 J J J)<|Zw (Xe 6 81 J J J)<|Yq (_,_,b,Zr (Xm a b),f1) ⟨hvb,Mr (Bu hva hde),hok1,by rw [←heu1];exact heu⟩ (Nat.lt_succ_self f1) K2 K2
      ·obtain rfl:b=[]:=List.eq_nil_of_length_eq_zero O
       rw [Fm]at heu
       have hal:=hva.len
       refine go 12 ?_
       refine Ys (d:=95) J (fun s395=>?_) (fun s395=>?_)
       ·refine go 4 ⟨O,?_⟩
        refine Dc (Zy (ii:=80) (i:=(a.length-1)) J J J J Zn Lq Ix) J J<|go 1 ⟨O,?_⟩
        refine Bl 6 [] (Il _ (hva.sz _)) fun _ _=>go 4 ?_
        refine Zc J (fun h395=>?_) (fun h395=>?_)
        ·have hneg:a.length≠0∧cf a (a.length-1)<0:=⟨O,(Qe _).1 h395⟩
         refine go 3 ?_
         refine cl 6 [] (Ye (-1) (by first | assumption | exact⟨O,O⟩)) fun _ _=>cl 7 [80] (Hu _ _ (-1) hva O3 (Za6 hva.sz)) fun _ _=>go 8 ?_
         exact Mi hsc _ results225 J trivial (Oe 7 Za (by unfold Ou Mm;rw [←heu,if_pos hneg]<;>rfl))
        ·refine go 10 ?_
         have hneg:¬(a.length≠0∧cf a (a.length-1)<0):=fun h=>by first | omega | exact absurd ((Qe (cf a (a.length-1))).2 h.2) ‹_›
         exact Mi hsc _ results225 J trivial (Oe 80 Za (by unfold Ou Mm;rw [←heu,if_neg hneg]<;>rfl))
       ·refine go 22 ?_
        have hneg:¬(a.length≠0∧cf a (a.length-1)<0):=fun h=>by first | omega | exact absurd ((Qe (cf a (a.length-1))).2 h.2) ‹_›
        exact Mi hsc _ results225 J trivial (Oe 80 Za (by unfold Ou Mm;rw [←heu,if_neg hneg]<;>rfl))
theorem Znp(v:Value)(l:List Int)(hl:∀x∈l,Pu x)(hlen:l.length≤1000:=by decide):Cal prog 128 #[v] [Xc 1 Xg v l] true (G:=Value) (fun r=>True) (fun r=> .tuple #[r,.int .i64 (if 25<(tzl l).length then 7 else 0)]) (fun r=>[Xc 2 wv r (if 25<(tzl l).length then []else tzl l)]):=by
 refine Zh func128 ntmps128 fun w0 sc hw hsc=>?_
 have hsz:=Zh4 hl
 refine go 20 ?_
 refine Zg (Px 70 2 93 wv)<|lp (G:=Nat×Value) [7,8] [0,1] (fun q=>[(9,.int .i64 (q.1:Int)),(4,q.2)]) (fun q=>[(70,Ns 2 93 wv q.2 (l.take q.1))]) (fun q=>q.1≤l.length) (fun q=>l.length-q.1) (0,.slice none 0 0) O1 K2 K1 ?_
 rintro⟨k,vo⟩ hk
 dsimp only at hk
 dsimp only
 have hlk:(l.take k).length=k:=by rw [List.length_take];omega
 refine go 6 ?_
 refine Zc J (fun h62=>?_) (fun h62=>?_)
 ·refine go 14 ⟨O2,O2,?_⟩
  refine cl 1 [] (Ye _ (hl _ (Zf))) fun _ _=>?_
  refine tt (Qg (i:=2) (ivs:=[(0,_)]) (enc:=wv) [l.getD k 0] J J K2 Lq ti93 J J J J J pV.cells J J hw.h) (fun v _=>?_)
  refine tt (Lk (i:=70) (j:=2) (by_:=24) J J J J J J O3 J (Yw pV) Lq ti93 J pV J J J O9 O3 J hw.h) fun v_2 _=>go 8 ⟨O,?_⟩
  exact Yq (k+1,_) O1 O1 K2 ⟨by rw [Pz 0 _ _ O];rfl,trivial⟩
 ·refine go 6 ?_
  obtain rfl:k=l.length:=O
  rw [List.take_length]
  refine Zg (Qa 70 J J pV)<|go 2 ?_
  refine cl 3 [70] (Zcv _ _ hsz) fun _ _=>go 11 ?_
  refine Zc J (fun h66=>?_) (fun h66=>?_)
  ·refine go 8 ?_
   have h25:25<(tzl l).length:=O
   exact Mi hsc _ results128 (by rw [if_pos h25]) trivial (Kq (if_pos h25) Za)
  ·refine go 10 ?_
   have h25:¬25<(tzl l).length:=O
   exact Mi hsc _ results128 (by rw [if_neg h25]<;>rfl) trivial (Oe 3 Za (by rw [if_neg h25]<;>rfl))
end Go.Sky

