/- Rules, arithmetic and contracts: part 10. No conditions but those that each theorem names. -/
import Derived.Test.YtljmhpopdmadkaaGreatLu08
set_option linter.all false
namespace Go.Sky
open Go.Proofs.Tryz
open Go.Proofs
set_option synthInstance.maxHeartbeats 0
set_option synthInstance.maxSize 100000
set_option maxRecDepth 20000
set_option maxHeartbeats 4000000
set_option linter.unusedSimpArgs false
theorem Zcu(v:Value)(xs:List Int)(hs:Sz 65536 xs):Cal prog 162 #[v] [Xc 2 wv v xs] true (G:=Unit) (fun _=>True) (fun _=>Lk v (tzl xs).length) (fun _=>[Xc 2 wv (Lk v (tzl xs).length) (tzl xs)]):=by
 refine Zh func162 ntmps162 fun w0 sc hw hsc=>?_
 refine Of (Ztz (i:=1) J Zo) (fun hself=>?_)
 refine Of (Ly (i:=1) J Zo) fun hlen=>go 7 ?_
 refine lp (G:=Nat) [] [0] (fun k=>[(0,Lk v k)]) (fun k=>[(1,Xc 2 wv (Lk v k) (xs.take k))]) (fun k=>(k≤xs.length)∧(tzl (xs.take k)=tzl xs)) (fun k=>k) xs.length ⟨Nat.le_refl _,by rw [List.take_length]⟩ ⟨by rw [hself];rfl,trivial⟩ ⟨by rw [hself,List.take_length];rfl,trivial⟩ ?_
 rintro k ⟨hk,ht⟩
 have hl:(xs.take k).length=k:=by rw [List.length_take];omega
 refine go 7 ?_
 refine Ym (d:=6) J (fun s35=>?_) (fun s35=>?_)
 ·refine go 4 ⟨O,?_⟩
  refine Gx (Zx (ii:=1) (i:=k-1) J J J J Zo Lo Iw) J J<|go 1 ⟨O,?_⟩
  refine Ez 1 [] (Il _ ((hs.take _).getD _)) fun _ _=>go 4 ?_
  refine Zc J (fun h35=>?_) (fun h35=>?_)
  ·have hstep:=Zpx hk O (Ziw (k:=k) O (Int.sign_eq_zero_iff_zero.1 ‹_›):cf xs (k-1)=0)
   refine go 8 ⟨O,?_⟩
   refine dt (Zw8 (ii:=1) (i:=k-1) J J J J Zo Lo Iw)<|go 3 ?_
   exact Zw (Ybn 1 1 (k-1) J J)<|Ys (k-1) ⟨O1,by rw [←ht,←hstep]⟩ O1 ⟨by rw [←Gd v k (k-1)];rfl,trivial⟩ ⟨by rw [Gd,List.take_take,Nat.min_eq_left O];rfl,trivial⟩
  ·refine go 12 ?_
   have hx:tzl xs=xs.take k:=by rw [←ht];exact Zem hk (by first | (left;omega) | (right;exact Zeq (k:=k) O ‹_›))
   exact Yz hsc () results162 (by rw [hx,hl]) trivial (Ob 1 Za (by rw [hx,hl]))
 ·refine go 24 ?_
  have hx:tzl xs=xs.take k:=by rw [←ht];exact Zem hk (by first | (left;omega) | (right;exact Zeq (k:=k) O ‹_›))
  exact Yz hsc () results162 (by rw [hx,hl]) trivial (Ob 1 Za (by rw [hx,hl]))
theorem Zti(v:Value)(r:List (Bool×ByteArray)):Ok prog 163 #[v] [Xc 2 Zt4 v r] (.bool (okP r)):=by
 refine Zh func163 ntmps163 fun w0 sc hw hsc=>?_
 refine Of (Ly (i:=1) J Zo) fun hlen=>go 14 ?_
 refine lp (G:=Nat) [0,5,6] [0,1] (fun k=>[(7,.int .i64 (k:Int))]) (fun k=>[]) (fun k=>(k≤r.length)∧((r.take k).all (fun w=>okW w.1 w.2)=true)) (fun k=>r.length-k) 0 ⟨O1,O5⟩ K1 trivial ?_
 rintro k ⟨hk,ha⟩
 refine go 6 ?_
 refine Zc J (fun h51=>?_) (fun h51=>?_)
 ·refine go 7 ⟨O2,?_⟩
  refine dt (Xv (ii:=1) (false,⟨#[]⟩) J J J Zo pW O2)<|Zy (Zs 2) fun b _=>go 6 ?_
  refine cl 2 [] (Zaa _ _) fun _ _=>go 3 ?_
  refine Nq J (fun h52=>?_) (fun h52=>?_)
  ·refine go 11 ?_
   exact Yz hsc () results163 (by rw [Yg8 (Ze (i:=k) (d:=(false,⟨#[]⟩))) (by simp_all)]) trivial Za
  ·refine go 7 ⟨O,?_⟩
   exact Ys (k+1) ⟨O1,by rw [Pz (false,⟨#[]⟩) _ _ O,List.all_append,ha];simpa using h52⟩ O1 K1 trivial
 ·refine go 6 ?_
  obtain rfl:k=r.length:=O
  rw [List.take_length]at ha
  obtain⟨xs,hxs,rfl⟩:=Zq3 (List.all_eq_true.1 ha)
  have hsz:=Sz.of_mem hxs
  rw [List.length_map]at hlen
  refine Zg (Zne 1 (q:=Xc 2 wv v xs) J J (Ygd v xs) (fun _ h=>fpn h) J)<|go 5 ?_
  refine Ym (d:=18) J (fun s56=>?_) (fun s56=>?_)
  ·refine go 4 ?_
   refine Ym (d:=22) J (fun s56_2=>?_) (fun s56_2=>?_)
   ·refine go 14 ?_
    exact Yz hsc () results163 (by rw [Zn1 hxs];first | (simp_all;done) | (simp_all;omega)) trivial Za
   ·refine go 4 ⟨O,?_⟩
    refine Gx (Zx (ii:=1) (i:=xs.length-1) J J J J Zo Lo Iw) J J<|go 1 ⟨O,?_⟩
    refine Ez 2 [] (Il _ (hsz.getD _)) fun _ _=>go 7 ?_
    exact Yz hsc () results163 (by rw [Zn1 hxs];first | (simp_all;done) | (simp_all;omega)) trivial Za
  ·refine go 18 ?_
   exact Yz hsc () results163 (by rw [Zn1 hxs];first | (simp_all;done) | (simp_all;omega)) trivial Za
theorem Xl(v:Value)(xs:List Int)(h:Vp xs):Cal prog 163 #[v] [Xc 2 wv v xs] false (G:=Unit) (fun _=>True) (fun _=> .bool true) (fun _=>[]):=okP_wr h▸(Zti v (xs.map wr)).imp (Zs3 v xs) (fun _ h=>fpm h)
theorem Lv(v:Value)(xs:List Int)(hs:Sz 65536 xs):Ok prog 167 #[v] [Xc 2 wv v xs] (.int .i64 (Xz xs:Int)):=by
 refine Zh func167 ntmps167 fun w0 sc hw hsc=>?_
 refine Of (Ly (i:=1) J Zo) fun hlen=>go 19 ?_
 refine lp (G:=Nat) [6,7] [0,1] (fun k=>[(8,.int .i64 (k:Int)),(3,.int .i64 (Xz (xs.take k):Int))]) (fun k=>[]) (fun k=>k≤xs.length) (fun k=>xs.length-k) 0 O1 K2 trivial ?_
 rintro k hk
 refine go 6 ?_
 refine Zc J (fun h83=>?_) (fun h83=>?_)
 ·refine go 8 ⟨O2,O2,?_⟩
  refine Zy (Zs 2) fun b _=>go 6 ?_
  refine cl 2 [] (Zio _ (hs.getD _)) fun _ _=>?_
  refine dt (Zmv J J J)<|go 8 ⟨O,?_⟩
  exact Ys (k+1) O1 O1 ⟨J,by rw [Pz 0 _ _ O,Ydf];exact congrArg some (Zax O),trivial⟩ trivial
 ·refine go 12 ?_
  exact Yz hsc () results167 (by rw [List.take_of_length_le O]) trivial Za
theorem Zon(bd:Nat)(t:TypeId)(e e2:Int)(n:Bool)(s:ByteArray):Zgy prog 195 #[.pointer (some ⟨bd,0,none⟩),.agg #[.bool n,.string s],.int .i64 e2] [] false bd t #[.int .i64 e] (G:=Unit) (fun _=>True) (fun _=> .agg #[.bool n,.string s]) (fun _=>#[.int .i64 (if e=0 then e2 else e)]) (fun _=>[]):=by
 refine Za3 func195 J ntmps195 J trivial ?_
 intro w0 sc hw hsc;have hw:=Hw.mk hw
 simp only [Ox,Oc]
 refine go 2 ?_
 refine Zy (Yc 2) fun b _=>Zy (Zs 3) fun b_2 _=>go 12 ?_
 refine Zc J (fun h19=>?_) (fun h19=>?_)
 ·refine go 15 ?_
  exact Zbb (.inl J) hsc () _ (fun a w hs=>Zgd hs results195 (Hh (i:=3) J J isAgg93 Iw J)) J trivial 1 J (by simp_all [Ew]) J J Za
 ·refine go 9 ?_
  exact Zbb (.inl J) hsc () _ (fun a w hs=>Zgd hs results195 (Hh (i:=3) J J isAgg93 Iw J)) J trivial 1 J (by simp_all [Ew]) J J Za
theorem d_mul_(bd:Nat)(e x y:Int)(hx:bl x.natAbs≤65536)(hy:bl y.natAbs≤65536):Zgy prog 164 #[.pointer (some ⟨bd,0,none⟩),wv x,wv y] [] false bd 221 #[.int .i64 e] (G:=Unit) (fun _=>True) (fun _=>wv (Bs (x*y))) (fun _=>#[.int .i64 (err e (x*y))]) (fun _=>[]):=by
 refine Za3 func164 J ntmps164 J trivial ?_
 intro w0 sc hw hsc;have hw:=Hw.mk hw
 simp only [Ox,Oc]
 refine go 2 ?_
 refine Zy (Yc 2) fun b _=>Zy (Yc 3) fun b_2 _=>Zy (Zs 4) fun b_3 _=>go 3 ?_
 refine Xw (fun x=>x=bd) [(0,0),(1,0),(2,0),(3,0),(4,0),(5,1),(6,0),(7,0),(8,1),(9,3)]<|go 5 ?_
 refine Yf (Zk 4 [] (Zeh _ _ ‹_› ‹_›)) fun _ _=>go 2 ?_
 refine Kd J (Oi (n:=4) (i:=1) (Zon _ _ _ _ _ _) J J J K3 call195 J O3 Zn J hw.h J) fun _ _=>go 4 ?_
 exact Zbb (.inl J) hsc () _ (fun a w hs=>Zgd hs results164 (Hh (i:=4) J J isAgg93 Iw J)) J trivial 1 J J J J Za
theorem Zaz(bd:Nat)(x y:Int)(hx:bl x.natAbs≤65536)(hy:bl y.natAbs≤65536)(hz:bl (x*y).natAbs≤65536):Zgy prog 164 #[.pointer (some ⟨bd,0,none⟩),wv x,wv y] [] false bd 221 #[.int .i64 0] (G:=Unit) (fun _=>True) (fun _=>wv (x*y)) (fun _=>#[.int .i64 0]) (fun _=>[]):=by
 have h:=d_mul_ bd 0 x y hx hy
 rw [Mv hz,Zt2 hz]at h;exact h
theorem d_add_(bd:Nat)(e x y:Int)(hx:bl x.natAbs≤65536)(hy:bl y.natAbs≤65536):Zgy prog 168 #[.pointer (some ⟨bd,0,none⟩),wv x,wv y] [] false bd 221 #[.int .i64 e] (G:=Unit) (fun _=>True) (fun _=>wv (Bs (x+y))) (fun _=>#[.int .i64 (err e (x+y))]) (fun _=>[]):=by
 refine Za3 func168 J ntmps168 J trivial ?_
 intro w0 sc hw hsc;have hw:=Hw.mk hw
 simp only [Ox,Oc]
 refine go 2 ?_
 refine Zy (Yc 2) fun b _=>Zy (Yc 3) fun b_2 _=>Zy (Zs 4) fun b_3 _=>go 3 ?_
 refine Xw (fun x=>x=bd) [(0,0),(1,0),(2,0),(3,0),(4,0),(5,1),(6,0),(7,0),(8,1),(9,3)]<|go 5 ?_
 refine Yf (Zk 4 [] (Eb _ _ ‹_› ‹_›)) fun _ _=>go 2 ?_
 refine Kd J (Oi (n:=4) (i:=1) (Zon _ _ _ _ _ _) J J J K3 call195 J O3 Zn J hw.h J) fun _ _=>go 4 ?_
 exact Zbb (.inl J) hsc () _ (fun a w hs=>Zgd hs results168 (Hh (i:=4) J J isAgg93 Iw J)) J trivial 1 J J J J Za
theorem Zt7(bd:Nat)(x y:Int)(hx:bl x.natAbs≤65536)(hy:bl y.natAbs≤65536)(hz:bl (x+y).natAbs≤65536):Zgy prog 168 #[.pointer (some ⟨bd,0,none⟩),wv x,wv y] [] false bd 221 #[.int .i64 0] (G:=Unit) (fun _=>True) (fun _=>wv (x+y)) (fun _=>#[.int .i64 0]) (fun _=>[]):=by
 have h:=d_add_ bd 0 x y hx hy
 rw [Mv hz,Zt2 hz]at h;exact h
theorem d_sub_(bd:Nat)(e x y:Int)(hx:bl x.natAbs≤65536)(hy:bl y.natAbs≤65536):Zgy prog 170 #[.pointer (some ⟨bd,0,none⟩),wv x,wv y] [] false bd 221 #[.int .i64 e] (G:=Unit) (fun _=>True) (fun _=>wv (Bs (x-y))) (fun _=>#[.int .i64 (err e (x-y))]) (fun _=>[]):=by
 refine Za3 func170 J ntmps170 J trivial ?_
 intro w0 sc hw hsc;have hw:=Hw.mk hw
 simp only [Ox,Oc]
 refine go 2 ?_
 refine Zy (Yc 2) fun b _=>Zy (Yc 3) fun b_2 _=>Zy (Zs 4) fun b_3 _=>go 3 ?_
 refine Xw (fun x=>x=bd) [(0,0),(1,0),(2,0),(3,0),(4,0),(5,1),(6,0),(7,0),(8,1),(9,3)]<|go 5 ?_
 refine Yf (Zk 4 [] (Yai _ _ ‹_› ‹_›)) fun _ _=>go 2 ?_
 refine Kd J (Oi (n:=4) (i:=1) (Zon _ _ _ _ _ _) J J J K3 call195 J O3 Zn J hw.h J) fun _ _=>go 4 ?_
 exact Zbb (.inl J) hsc () _ (fun a w hs=>Zgd hs results170 (Hh (i:=4) J J isAgg93 Iw J)) J trivial 1 J J J J Za
theorem Zt6(bd:Nat)(x y:Int)(hx:bl x.natAbs≤65536)(hy:bl y.natAbs≤65536)(hz:bl (x-y).natAbs≤65536):Zgy prog 170 #[.pointer (some ⟨bd,0,none⟩),wv x,wv y] [] false bd 221 #[.int .i64 0] (G:=Unit) (fun _=>True) (fun _=>wv (x-y)) (fun _=>#[.int .i64 0]) (fun _=>[]):=by
 have h:=d_sub_ bd 0 x y hx hy
 rw [Mv hz,Zt2 hz]at h;exact h
theorem Yet(bd:Nat)(v:Value)(xs:List Int)(hs:Sz 65536 xs):Cal prog 165 #[.pointer (some ⟨bd,0,none⟩),v] [Gy bd 221 #[.int .i64 0],Xc 2 wv v xs] true (G:=Unit) (fun _=>True) (fun _=> .tuple #[Lk v (tzl xs).length,.int .i64 0]) (fun _=>[Xc 2 wv (Lk v (tzl xs).length) (tzl xs)]):=by
 refine Zh func165 ntmps165 fun w0 sc hw hsc=>go 17 ?_
 refine Zc J (fun h43=>?_) (fun h43=>?_)
 ·exfalso;simp_all
 ·refine go 5 ?_
  refine cl 3 [2] (Zcu _ _ ‹_›) fun _ _=>go 5 ?_
  exact Mj hsc () results165 J trivial (Ob 3 Za)
theorem Ht(v:Value)(xs:List Int)(c:Int)(hv:Vp xs)(hc:bl c.natAbs≤65536)(hz:∀i,bl (cf xs i*c).natAbs≤65536):Cal prog 130 #[v,wv c] [Xc 2 wv v xs] true (G:=Value) (fun r=>True) (fun r=> .tuple #[r,.int .i64 0]) (fun r=>[Xc 2 wv r (Zv xs c)]):=by
 refine Zh func130 ntmps130 fun w0 sc hw hsc=>?_
 have hlen:=hv.len
 refine go 2 ?_
 refine Zy (Yc 2) fun b _=>go 8 ?_
 refine cl 2 [1] (Xl _ _ ‹_›) fun _ _=>go 3 ?_
 refine Ez 2 [] (Bl _ ‹_›) fun _ _=>go 9 ?_
 refine Zy (Zs 3) fun b_2 _=>go 6 ?_
 refine tt (Ks (i:=4) (n:=_) (by_:=24) (enc:=wv) 0 J J J J Lo ti93 J pV.cells pV.pos J J J hw.h J J) fun v _=>go 12 ?_
 refine lp (G:=Nat) [3,6,7,21,22] [0,1,2,3] (fun k=>[(23,.int .i64 (k:Int))]) (fun k=>[(4,Ns 2 93 wv v (fill xs.length k (fun i=>cf xs i*c)))]) (fun k=>k≤xs.length) (fun k=>xs.length-k) 0 O1 K1 ⟨by rw [Dy xs.length (fun i=>cf xs i*c)];rfl,trivial⟩ ?_
 rintro k hk
 refine go 6 ?_
 refine Zc J (fun h159=>?_) (fun h159=>?_)
 ·refine go 9 ⟨O2,O2,?_⟩
  refine Zy (Zs 5) fun b_3 _=>go 9 ?_
  refine tt (Oi (n:=5) (i:=3) (Zaz _ _ _ (hv.sz.getD _) hc (hz _)) J J J K3 call164 J O3 Zn J hw.h trivial) (fun _ _=>?_)
  refine dt (Zx (ii:=4) (i:=k) J J J J (Yx pV) Lo Iw J (by rw [Pg];omega))<|tt (Lu (i:=4) (enc:=wv) _ J J J J J J pV J hw.h O3 (by rw [Pg];omega)) fun _ _=>go 7 ⟨O,?_⟩
  exact Ys (k+1) O1 O1 K1 ⟨by rw [←Zby O];rfl,trivial⟩
 ·refine go 6 ?_
  obtain rfl:k=xs.length:=O
  refine Zg (Qb 4 J J pV)<|Zg (Znd 3 J J)<|go 2 ?_
  refine cl 6 [3,4] (Yet _ _ _ (by rw [Gq];exact Cp fun i _=>hz i)) fun _ _=>go 7 ?_
  exact Mj hsc _ results130 J trivial (Ob 6 Za (by rw [Zy2]<;>rfl))
theorem Eh(v:Value)(xs:List Int)(hv:Vp xs)(hz:∀i,bl (cf xs (i+1)*((i:Int)+1)).natAbs≤65536):Cal prog 129 #[v] [Xc 2 wv v xs] true (G:=Value) (fun r=>True) (fun r=> .tuple #[r,.int .i64 0]) (fun r=>[Xc 2 wv r (Yj xs)]):=by
 refine Zh func129 ntmps129 fun w0 sc hw hsc=>?_
 have hlen:=hv.len
 refine go 10 ?_
 refine cl 1 [1] (Xl _ _ ‹_›) fun _ _=>go 14 ?_
 refine Zc J (fun h170=>?_) (fun h170=>?_)
 ·refine go 8 ?_
  exact Mj hsc _ results129 J trivial (Kp (Ycu O) Za)
 ·refine go 4 ?_
  refine Zy (Zs 2) fun b _=>go 7 ⟨O,?_⟩
  refine tt (Ks (i:=3) (n:=(xs.length-1)) (by_:=24) (enc:=wv) 0 J J J J Lo ti93 J pV.cells pV.pos J J J hw.h) fun v _=>go 12 ?_
  refine lp (G:=Nat) [0,4,5,18] [0,1,2] (fun k=>[(19,.int .i64 (k:Int))]) (fun k=>[(3,Ns 2 93 wv v (fill (xs.length-1) k (fun i=>cf xs (i+1)*((i:Int)+1))))]) (fun k=>k≤xs.length-1) (fun k=>xs.length-1-k) 0 O1 K1 ⟨by rw [Dy (xs.length-1) (fun i=>cf xs (i+1)*((i:Int)+1))];rfl,trivial⟩ ?_
  rintro k hk
  have hlf:(fill (xs.length-1) k (fun i=>cf xs (i+1)*((i:Int)+1))).length=xs.length-1:=Pg _ _ _
  refine go 6 ?_
  refine Zc J (fun h175=>?_) (fun h175=>?_)
  ·try rw [List.length_replicate]at *
   refine go 10 ?_
   refine Xw (fun x=>x=b) [(0,0),(1,0),(2,0),(3,0),(4,0),(5,0),(6,0),(7,0),(8,0),(9,1),(10,1),(11,0),(12,3)]<|go 5 ⟨O,?_⟩
   refine Qn J J (st1 2 J (Zx (ii:=1) (i:=k+1) J J J J Zo Lo Iw))<|go 3 ⟨O,O,?_⟩
   refine Yf (Zk 3 [] (Yh _ (by first | assumption | exact⟨O,O⟩))) fun _ _=>?_
   refine Kd J (Oi (n:=3) (i:=2) (Zaz _ (cf xs (k+1)) ((k:Int)+1) (hv.sz _) (Nat.le_trans (Od (n:=32) O) O3) (hz k)) J J J K3 call164 J O3 Zn J hw.h J) (fun _ _=>?_)
   refine Qn J J (st1 2 J (Zx (ii:=3) (i:=k) J J J J (Yx pV) Lo Iw J (by rw [Pg];omega)))<|r3' J (Lu (i:=3) (enc:=wv) _ J J J J J J pV J hw.h O3 (by rw [Pg];omega)) fun _ _=>go 7 ⟨O,?_⟩
   exact Ys (k+1) O1 O1 K1 ⟨by rw [←Zby O];rfl,trivial⟩
  ·try rw [List.length_replicate]at *
   refine go 6 ?_
   obtain rfl:k=xs.length-1:=O
   refine Zg (Qb 3 J J pV)<|Zg (Znd 2 J J)<|go 2 ?_
   refine cl 4 [2,3] (Yet _ _ _ (by rw [Gq];exact Cp fun i _=>hz i)) fun _ _=>go 7 ?_
   exact Mj hsc _ results129 J trivial (Ob 4 Za (by rw [Yg1 hv.tr]<;>rfl))
theorem Znu(v:Value)(xs:List Int)(hv:Vp xs):Ok prog 171 #[v] [Xc 2 wv v xs] (.tuple #[wv (Yn xs),.int .i64 0]):=by
 refine Zh func171 ntmps171 fun w0 sc hw hsc=>?_
 have hlen:=hv.len
 have hcb:∀k,bl (Yn (xs.take k)).natAbs≤65536:=fun k=>Ze7 _ (hv.sz.take k)
 refine go 2 ?_
 refine Zy (Zs 2) fun b _=>go 7 ?_
 refine cl 2 [1] (Xl _ _ ‹_›) fun _ _=>go 8 ?_
 refine Zy (Zs 3) fun b_2 _=>go 4 ?_
 refine Zy (Zs 4) fun b_3 _=>go 11 ?_
 refine lp (G:=Nat) [2,4,5,12,13] [0,1,2] (fun k=>[(14,.int .i64 (k:Int))]) (fun k=>[(4,box b_3 93 #[.bool (decide (Yn (xs.take k)<0)),.string (Qc (Yn (xs.take k)).natAbs)]),(3,box b_2 221 #[.int .i64 0])]) (fun k=>k≤xs.length) (fun k=>xs.length-k) 0 O1 K1 K2 ?_
 rintro k hk
 have hgc:=fun h=>Lb (p:=xs) (k:=k) h
 refine go 6 ?_
 refine Zc J (fun h264=>?_) (fun h264=>?_)
 ·refine go 8 ⟨O2,O2,?_⟩
  refine Zy (Zs 5) fun b_4 _=>go 7 ?_
  refine cl 5 [] (Zpu (Yn (xs.take k)) (xs.getD k 0) (hcb _) (hv.sz.getD _)) fun _ _=>go 2 ?_
  refine tt (Oi (n:=5) (i:=3) (Zon _ _ _ _ _ _) J J J K3 call195 J O3 Zn J hw.h trivial) fun _ _=>go 8 ⟨O,?_⟩
  have hc1:=hcb (k+1)
  rw [hgc O]at hc1
  exact Ys (k+1) O1 O1 K1 ⟨by rw [hgc O];simp only [Mv hc1];rfl,by simp only [Zoj hc1];rfl,trivial⟩
 ·refine go 6 ?_
  refine Pk [3,4] [5]<|Zl (n:=0) [(0,0),(1,0),(2,0),(3,0),(4,1),(5,3)]<|go 7 ?_
  refine Zp<|go 2 ?_
  exact Mj hsc () results171 (by rw [show k=xs.length by omega,List.take_length]<;>rfl) trivial Za
theorem Zle(v:Value)(xs:List Int)(c:Int)(hv:Sz 65536 xs)(hlen:xs.length≤1000)(hc:bl c.natAbs≤65536)(hd:∀i,c∣cf xs i)(hc0:xs≠[]→c≠0):Cal prog 172 #[v,wv c] [Xc 2 wv v xs] true (G:=Value) (fun r=>True) (fun r=> .tuple #[r,.int .i64 0]) (fun r=>[Xc 2 wv r (xs.map (· / c))]):=by
 refine Zh func172 ntmps172 fun w0 sc hw hsc=>go 2 ?_
 refine Zy (Yc 2) fun b _=>go 8 ?_
 refine tt (Ks (i:=3) (n:=_) (by_:=24) (enc:=wv) 0 J J J J Lo ti93 J pV.cells pV.pos J J J hw.h J J) fun v _=>go 12 ?_
 refine lp (G:=Nat) [3,6,15,16] [0,1,2] (fun k=>[(17,.int .i64 (k:Int))]) (fun k=>[(3,Ns 2 93 wv v (fill xs.length k (fun i=>cf xs i/c)))]) (fun k=>k≤xs.length) (fun k=>xs.length-k) 0 O1 K1 ⟨by rw [Dy xs.length (fun i=>cf xs i/c)];rfl,trivial⟩ ?_
 rintro k hk
 have hcl:Bs (xs.getD k 0/c)=cf xs k/c:=Mv (Gb (hd k) (hv k))
 refine go 6 ?_
 refine Zc J (fun h273=>?_) (fun h273=>?_)
 ·refine go 9 ⟨O2,O2,?_⟩
  refine Zy (Zs 4) fun b_2 _=>go 8 ?_
  refine cl 4 [] (Ca _ _ (hv.getD _) hc (hc0 (by intro e;rw [e]at h273;simp at h273;omega))) fun _ _=>go 4 ?_
  refine Zy (Zs 5) fun b_3 _=>Zy (Zs 6) fun b_4 _=>go 12 ?_
  refine Zc J (fun h275=>?_) (fun h275=>?_)
  ·exfalso;simp_all
  ·refine go 6 ?_
   refine dt (Zx (ii:=3) (i:=k) J J J J (Yx pV) Lo Iw J (by rw [Pg];omega))<|tt (Lu (i:=3) (enc:=wv) _ J J J J J J pV J hw.h O3 (by rw [Pg];omega)) fun _ _=>go 7 ⟨O,?_⟩
   exact Ys (k+1) O1 O1 K1 ⟨by rw [←Zby O];simp only [hcl];rfl,trivial⟩
 ·refine go 13 ?_
  obtain rfl:k=xs.length:=O
  exact Mj hsc _ results172 J trivial (gow 3 Za (by rw [Gq,Zn8 xs (· / c)]<;>rfl))
theorem Mb(v:Value)(xs:List Int)(hv:Vp xs):Cal prog 134 #[v] [Xc 2 wv v xs] true (G:=Value) (fun r=>True) (fun r=> .tuple #[r,.int .i64 0]) (fun r=>[Xc 2 wv r (Zr xs)]):=by
 refine Zh func134 ntmps134 fun w0 sc hw hsc=>?_
 have hlen:=hv.len
 refine go 9 ?_
 refine cl 1 [1] (Znu _ _ ‹_›) fun _ _=>go 3 ?_
 refine Zy (Zs 2) fun b _=>go 11 ?_
 refine Zc J (fun h286=>?_) (fun h286=>?_)
 ·exfalso;simp_all
 ·refine go 6 ?_
  refine cl 3 [1] (Zle _ _ _ hv.sz O (Ze7 _ hv.sz) (Mn _) hv.ne) fun _ _=>go 7 ?_
  exact Mj hsc _ results134 J trivial (Ob 3 Za J)
theorem Zy6(v:Value)(xs:List Int)(x y:Int)(hv:Vp xs)(hx:bl x.natAbs≤65536)(hy:bl y.natAbs≤65536)(hy0:0<y):Ok prog 247 #[v,rX x y] [Xc 2 wv v xs] (.tuple #[wv (evv xs x y),.int .i64 (eve xs x y)]):=by
 refine Zh func247 ntmps247 fun w0 sc hw hsc=>?_
 have hlen:=hv.len
 refine go 2 ?_
 refine Zy (Yc 2) fun b _=>Zy (Zs 3) fun b_2 _=>go 7 ?_
 refine cl 3 [1] (Xl _ _ ‹_›) fun _ _=>go 3 ?_
 refine Ez 3 [] (Mo _ _ ‹_› ‹_› ‹_›) fun _ _=>go 15 ?_
 refine Zc J (fun h186=>?_) (fun h186=>?_)
 ·refine go 2 ?_
  refine dt (Xg (ivs:=[]) J trivial (fun a w hs=>b93_))<|go 6 ?_
  exact Mj hsc () results247 (by rw [List.eq_nil_of_length_eq_zero (l:=xs) O];rfl) trivial Za
 ·have hne:xs≠[]:=fun e=>by rw [e]at h186;simp at h186
  have hm1:=Qp hv.sz
  have hsxy:Sz 65536 [x,y]:=Sz.of_mem (by intro z hz;simp at hz;rcases hz with rfl | rfl<;>assumption)
  have hm2:=Qp hsxy
  have hm3:(xs.length-1)*Xz [x,y]≤24*65536:=Nat.mul_le_mul O hm2
  have hm4:((xs.length:Int)-1)*(Xz [x,y]:Int)=(((xs.length-1)*Xz [x,y]:Nat):Int):=by rw [Int.natCast_mul];congr 1;omega
  refine go 3 ?_
  refine jn (G:=Unit) [0,3,4] [0,1,2,3] (fun _=>[(37,.bool (decide ((65536:Int)<(Xz xs:Int)+((xs.length:Int)-1)*(Xz [x,y]:Int)+8)))]) (fun _=>[]) (fun _=>True) ?_ ?_
  ·refine Fv (fun _=>False) []<|Zl (n:=7) [(0,0),(2,0),(3,0),(4,0),(5,0),(6,0),(7,0),(8,0)]<|go 9 ⟨O,?_⟩
   refine Qq (n:=6) 1 9 ?_ ?_
   ·refine Oz (Zk 3 [1] (Lv _ _ (by first | exact hv.sz | exact hsxy))) fun _ _=>?_
    refine Zl (n:=0) [(9,1),(10,1),(11,0),(12,0),(13,0),(14,0)]<|Kd J (Qg (i:=90) (ivs:=[(0,_),(1,_)]) (enc:=wv) [x,y] J J K4 uT38 ti93 J J J J J pV.cells J J hw.h) fun v _=>Yf (Zk 3 [90] (Lv _ _ (by first | exact hv.sz | exact hsxy))) fun _ _=>go 5 ⟨by rw [hm4];exact⟨O,O⟩,by rw [hm4];exact⟨O,O⟩,by rw [hm4];exact⟨O,O⟩,?_⟩
    exact Zp<|Pw () trivial K1 trivial
   ·refine Li J (Qg (i:=90) (ivs:=[(0,_),(1,_)]) (enc:=wv) [x,y] J J K4 uT38 ti93 J J J J J pV.cells J J hw.h) (fun v_2 _=>?_)
    refine Zl (n:=0) [(1,1),(10,1),(11,0),(12,0),(13,0),(14,0)]<|Yf (Zk 3 [1] (Lv _ _ (by first | exact hv.sz | exact hsxy))) fun _ _=>Yf (Zk 3 [90] (Lv _ _ (by first | exact hv.sz | exact hsxy))) fun _ _=>go 5 ⟨by rw [hm4];exact⟨O,O⟩,by rw [hm4];exact⟨O,O⟩,by rw [hm4];exact⟨O,O⟩,?_⟩
    exact Zp<|Pw () trivial K1 trivial
  ·rintro _ -
   refine Zc J (fun h189=>?_) (fun h189=>?_)
   ·have hE:Ll xs x y:=⟨hne,by rw [hm4]at h189;omega⟩
    refine go 2 ?_
    refine dt (Xg (ivs:=[]) J trivial (fun a w hs=>b93_))<|go 6 ?_
    exact Mj hsc () results247 (by unfold evv eve;rw [if_pos hE,if_pos hE]<;>rfl) trivial Za
   ·have hF:Xz xs+(xs.length-1)*Xz [x,y]+8≤65536:=by rw [hm4]at h189;omega
    refine go 4 ?_
    refine Zy (Zs 4) fun b_3 _=>go 2 ?_
    refine jn (G:=Nat×Nat) [0,3,4,6] [0,1,2,3,4] (fun q=>[(7,.pointer (some ⟨q.1,0,none⟩)),(8,.pointer (some ⟨q.2,0,none⟩))]) (fun q=>[(97,box q.1 93 (wc (xs.getD (xs.length-1) 0))),(98,box q.2 93 (wc 1))]) (fun q=>True) ?_ ?_
    ·refine Fv (fun _=>False) [9,10]<|Zl (n:=5) [(0,0),(1,0),(2,0),(3,0),(4,0),(5,0)]<|go 4 ⟨O,?_⟩
     refine Qn J J (Qh (Zx (ii:=1) (i:=(xs.length-1)) J J J J Zo Lo Iw))<|go 2 ⟨O,?_⟩
     refine Zds (n:=4) 6 7 8 ?_ ?_ ?_
     ·refine Oz (Zk 4 [] (Yh _ (by first | assumption | exact⟨O,O⟩))) fun _ _=>?_
      refine Qq (n:=3) 7 8 ?_ ?_
      ·refine Oz (Zs 97) fun b_4 _=>?_
       refine Zl (n:=0) [(8,1),(9,3),(10,3)]<|Yf (Zs 98) fun b_5 _=>go 3 ?_
       exact Zp<|Pw (_,_) trivial K2 K2
      ·refine Oz (Zs 98) fun b_6 _=>?_
       refine Zl (n:=0) [(7,1),(9,3),(10,3)]<|Yf (Zs 97) fun b_7 _=>go 3 ?_
       exact Zp<|Pw (_,_) trivial K2 K2
     ·refine Oz (Zs 97) fun b_8 _=>?_
      refine Qq (n:=3) 6 8 ?_ ?_
      ·refine Oz (Zk 4 [] (Yh _ (by first | assumption | exact⟨O,O⟩))) fun _ _=>?_
       refine Zl (n:=0) [(8,1),(9,3),(10,3)]<|Yf (Zs 98) fun b_9 _=>go 3 ?_
       exact Zp<|Pw (_,_) trivial K2 K2
      ·refine Oz (Zs 98) fun b_10 _=>?_
       refine Zl (n:=0) [(6,1),(9,3),(10,3)]<|Yf (Zk 4 [] (Yh _ (by first | assumption | exact⟨O,O⟩))) fun _ _=>go 3 ?_
       exact Zp<|Pw (_,_) trivial K2 K2
     ·refine Oz (Zs 98) fun b_11 _=>?_
      refine Qq (n:=3) 6 7 ?_ ?_
      ·refine Oz (Zk 4 [] (Yh _ (by first | assumption | exact⟨O,O⟩))) fun _ _=>?_
       refine Zl (n:=0) [(7,1),(9,3),(10,3)]<|Yf (Zs 97) fun b_12 _=>go 3 ?_
       exact Zp<|Pw (_,_) trivial K2 K2
      ·refine Oz (Zs 97) fun b_13 _=>?_
       refine Zl (n:=0) [(6,1),(9,3),(10,3)]<|Yf (Zk 4 [] (Yh _ (by first | assumption | exact⟨O,O⟩))) fun _ _=>go 3 ?_
       exact Zp<|Pw (_,_) trivial K2 K2
    ·rintro⟨b7,b8⟩ -
     dsimp only
     refine go 10 ⟨O,?_⟩
     refine lp (G:=Nat) [0,3,4,6,7,8] [0,1,2,3,4] (fun k=>[(9,.int .i64 ((k:Int)-1))]) (fun k=>[(97,box b7 93 (wc (Kl xs x y k))),(98,box b8 93 (wc (y^(xs.length-1-k))))]) (fun k=>k≤xs.length-1) (fun k=>k) (xs.length-1) O1 ⟨by rw [show((xs.length-1:Nat):Int)-1=(xs.length:Int)-2 by omega];rfl,trivial⟩ ⟨by rw [Yhw x y O];rfl,by rw [Nat.sub_self,Int.pow_zero];rfl,trivial⟩ ?_
     rintro k hk
     refine go 7 ?_
     refine Zc J (fun h194=>?_) (fun h194=>?_)
     ·have hpw:y^(xs.length-1-k)*y=y^(xs.length-1-(k-1)):=Yck y O hk
      have hst:Kl xs x y k*x+xs.getD (k-1) 0*y^(xs.length-1-(k-1))=Kl xs x y (k-1):=Zzy x y O hk
      refine go 9 ?_
      refine tt (Oi (n:=4) (i:=4) (Zaz _ _ _ (Zop hF) hy (by rw [hpw];exact Zop hF)) J J J K3 call164 J O3 Zn J hw.h trivial) fun _ _=>go 3 ?_
      refine Xw (fun x=>x=b_3) [(0,0),(1,0),(2,0),(4,0),(5,0),(6,0),(7,0),(8,0),(3,1),(9,1),(10,1),(11,3)]<|go 5 ?_
      refine Qn J J (st1 4 J (Zx (ii:=1) (i:=(k-1)) J J J J Zo Lo Iw))<|go 2 ⟨O,?_⟩
      refine Kd J (Oi (n:=4) (i:=4) (Zaz _ _ _ (by first | exact Zoq hF hlen _ | exact hv.sz.getD _) (by first | exact hx | (rw [hpw];exact Zop hF)) (by first | exact Zt0 hF hlen O hk | (rw [hpw];exact Zoo hF))) J J J K3 call164 J O3 Zn J hw.h J) (fun _ _=>?_)
      refine Kd J (Oi (n:=4) (i:=4) (Zaz _ _ _ (by first | exact Zoq hF hlen _ | exact hv.sz.getD _) (by first | exact hx | (rw [hpw];exact Zop hF)) (by first | exact Zt0 hF hlen O hk | (rw [hpw];exact Zoo hF))) J J J K3 call164 J O3 Zn J hw.h J) (fun _ _=>?_)
      refine Kd J (Oi (n:=4) (i:=4) (Zt7 _ _ _ (Zt0 hF hlen O hk) (by rw [hpw];exact Zoo hF) (by rw [hpw,hst];exact Zoq hF hlen _)) J J J K3 call168 J O3 Zn J hw.h J) fun _ _=>go 9 ⟨O,?_⟩
      exact Ys (k-1) O1 O1 ⟨by rw [show((k-1:Nat):Int)-1=(k:Int)-1-1 by omega];rfl,trivial⟩ ⟨by rw [hpw,hst];rfl,by rw [hpw];rfl,trivial⟩
     ·refine go 14 ?_
      refine Zc J (fun h198=>?_) (fun h198=>?_)
      ·exfalso;simp_all
      ·refine go 10 ?_
       obtain rfl:k=0:=O
       have hE:¬Ll xs x y:=fun h=>by have:=h.2;omega
       exact Mj hsc () results247 (by unfold evv eve;rw [if_neg hE,if_neg hE,←Zro]<;>rfl) trivial Za
theorem Zqy(v:Value)(xs:List Int)(x y:Int)(hv:Vp xs)(hx:bl x.natAbs≤65536)(hy:bl y.natAbs≤65536)(hy0:0<y):Ok prog 230 #[v,rX x y] [Xc 2 wv v xs] (.tuple #[.int .i64 (evv xs x y).sign,.int .i64 (eve xs x y)]):=by
 refine Zh func230 ntmps230 fun w0 sc hw hsc=>?_
 have hlen:=hv.len
 refine go 2 ?_
 refine Zy (Yc 2) fun b _=>go 8 ?_
 refine cl 2 [1] (Zy6 _ _ _ _ hv hx hy hy0) fun _ _=>go 3 ?_
 refine Zy (Zs 3) fun b_2 _=>go 7 ?_
 refine cl 3 [] (Il _ (evv_bl hlen)) fun _ _=>go 6 ?_
 exact Mj hsc () results230 J trivial Za
theorem Zb6(bd:Nat)(v:Value)(xs:List Int)(hs:Sz 65536 xs):Zgy prog 165 #[.pointer (some ⟨bd,0,none⟩),v] [Xc 2 wv v xs] true bd 221 #[.int .i64 0] (G:=Unit) (fun _=>True) (fun _=> .tuple #[Lk v (tzl xs).length,.int .i64 0]) (fun _=>#[.int .i64 0]) (fun _=>[Xc 2 wv (Lk v (tzl xs).length) (tzl xs)]):=by
 refine Za3 func165 J ntmps165 J K1 ?_
 intro w0 sc hw hsc;have hw:=Hw.mk hw
 simp only [Ox,Oc]
 refine go 17 ?_
 refine Zc J (fun h43=>?_) (fun h43=>?_)
 ·exfalso;simp_all
 ·refine go 5 ?_
  refine cl 3 [2] (Zcu _ _ ‹_›) fun _ _=>go 5 ?_
  exact Zbb (.inl J) hsc () _ (fun a w hs=>Ybz hs results165 J J) J trivial 1 J J J J (Zgp 3 J J J Za)
theorem Zxo(v:Value)(xs:List Int)(hx:xs.length*24≤140737488355328:=by omega):Yjb prog 244 #[v] [Xc 2 wv v xs] (G:=Value) (fun r=>True) (fun r=>r) (fun r=>Ns 2 93 wv r xs):=by
 refine Zxy func244 J ntmps244 J K1 ?_
 intro w0 sc hw hsc;have hw:=Hw.mk hw
 simp only [Ox,Oc]
 refine Of (f_nil (i:=1) J Zo) fun hnil=>go 9 ?_
 refine dt (Zxd J J J (i:=1) J Zo Lo)<|go 2 ?_
 refine Nq J (fun h357=>?_) (fun h357=>?_)
 ·refine go 7 ?_
  obtain rfl:xs=[]:=hnil (by simpa using h357)
  exact Zw (Px 9 2 93 wv)<|Zm1 (.inl J) (.slice none 0 0) _ (fun a w hs=>Zgd hs results244 J) J trivial J 9 J J J
 ·refine go 4 ?_
  refine tt (t_bs0 (i:=2) (enc:=wv) J J J Lo pV J hw.h) fun v _=>go 1 ?_
  refine tt (Lj (i:=2) (j:=1) (by_:=24) J J J J J J O3 J Zo Lo ti93 J pV J J J O8 O3 J hw.h) fun v_2 _=>go 4 ?_
  exact Zm1 (.inl J) _ _ (fun a w hs=>Zgd hs results244 J) J trivial J 2 J (by rfl) J
theorem Zhd(v:Value)(xs:List Int)(hv:Vp xs):Ok prog 238 #[v] [Xc 2 wv v xs] (.tuple #[.int .i64 ((xs.length:Int)-1),.int .i64 0]):=by
 refine Zh func238 ntmps238 fun w0 sc hw hsc=>?_
 have hlen:=hv.len
 refine go 10 ?_
 refine cl 1 [1] (Xl _ _ ‹_›) fun _ _=>go 16 ⟨O,?_⟩
 exact Mj hsc () results238 J trivial Za
theorem Zmc(v:Value)(xs:List Int)(hv:Vp xs):Ok prog 239 #[v] [Xc 2 wv v xs] (.tuple #[.int .i64 (Xz xs:Int),.int .i64 0]):=by
 refine Zh func239 ntmps239 fun w0 sc hw hsc=>go 10 ?_
 refine cl 1 [1] (Xl _ _ ‹_›) fun _ _=>go 9 ?_
 refine cl 1 [1] (Lv _ _ hv.sz) fun _ _=>go 5 ?_
 exact Mj hsc () results239 J trivial Za
theorem Zsd(bd:Nat)(v u:Value)(xs ys:List Int)(hv:Vp xs)(hu:Vp ys)(hz:∀i,bl (cf xs i+cf ys i).natAbs≤65536):Zgy prog 169 #[v,u,.pointer (some ⟨bd,0,none⟩),.func (.func 168) #[.pointer (some ⟨bd,0,none⟩)] #[]] [Xc 2 wv v xs,Xc 2 wv u ys] true bd 221 #[.int .i64 0] (G:=Value) (fun r=>True) (fun r=> .tuple #[r,.int .i64 0]) (fun r=>#[.int .i64 0]) (fun r=>[Xc 2 wv r (Bq xs ys)]):=by
 refine Za3 func169 J ntmps169 J K2 ?_
 intro w0 sc hw hsc;have hw:=Hw.mk hw
 simp only [Ox,Oc]
 have hlen:=hv.len
 have hlen2:=hu.len
 refine go 10 ?_
 refine cl 3 [2] (Xl _ _ ‹_›) fun _ _=>go 3 ?_
 refine Ez 3 [3] (Xl _ _ ‹_›) fun _ _=>go 13 ?_
 refine dt (Zmv J J J)<|tt (Ks (i:=4) (n:=(max xs.length ys.length)) (by_:=24) (enc:=wv) 0 J J J J Lo ti93 J pV.cells pV.pos J J J hw.h) fun v _=>go 12 ?_
 refine lp (G:=Nat) [0,1,2,3,10,29] [0,1,2,3] (fun k=>[(30,.int .i64 (k:Int))]) (fun k=>[(4,Ns 2 93 wv v (fill (max xs.length ys.length) k (fun i=>cf xs i+cf ys i)))]) (fun k=>k≤max xs.length ys.length) (fun k=>max xs.length ys.length-k) 0 O1 K1 ⟨by rw [Dy (max xs.length ys.length) (fun i=>cf xs i+cf ys i)];rfl,trivial⟩ ?_
 rintro k hk
 have hlf:(fill (max xs.length ys.length) k (fun i=>cf xs i+cf ys i)).length=max xs.length ys.length:=Pg _ _ _
 refine go 6 ?_
 refine Zc J (fun h106=>?_) (fun h106=>?_)
 ·try rw [List.length_replicate]at *
  refine go 12 ?_
  refine Zy (Zs 5) fun b _=>Zy (Zs 6) fun b_2 _=>go 2 ?_
  refine jn (G:=Unit) [0,1,2,3,10,11,12,13,29,30] [0,4,1,2,3,6] (fun _=>[]) (fun _=>[(5,box b 93 (wc (cf xs k)))]) (fun _=>True) ?_ ?_
  ·refine go 8 ?_
   refine Zc J (fun h108=>?_) (fun h108=>?_)
   ·refine go 7 ⟨O2,O2,?_⟩
    exact Pw () trivial trivial ⟨by first | rfl | (rw [Yd (p:=xs) O];rfl),trivial⟩
   ·refine go 1 ?_
    exact Pw () trivial trivial ⟨by first | rfl | (rw [Yd (p:=xs) O];rfl),trivial⟩
  ·rintro _ -
   refine jn (G:=Unit) [0,1,2,3,10,11,12,13,29,30] [0,5,4,1,2,3] (fun _=>[]) (fun _=>[(6,box b_2 93 (wc (cf ys k)))]) (fun _=>True) ?_ ?_
   ·refine go 8 ?_
    refine Zc J (fun h111=>?_) (fun h111=>?_)
    ·refine go 7 ⟨O2,O2,?_⟩
     exact Pw () trivial trivial ⟨by first | rfl | (rw [Yd (p:=ys) O];rfl),trivial⟩
    ·refine go 1 ?_
     exact Pw () trivial trivial ⟨by first | rfl | (rw [Yd (p:=ys) O];rfl),trivial⟩
   ·rintro _ -
    refine go 6 ?_
    refine tt (Zp0 (n:=6) (i:=1) (fs:=[_]) (vs:=[_,_]) (Zt7 _ _ _ (hv.sz _) (hu.sz _) (hz _)) J J J J K2 call168 J O3 Zn J hw.h trivial) (fun _ _=>?_)
    refine dt (Zx (ii:=4) (i:=k) J J J J (Yx pV) Lo Iw J (by rw [Pg];omega))<|tt (Lu (i:=4) (enc:=wv) _ J J J J J J pV J hw.h O3 (by rw [Pg];omega)) fun _ _=>go 7 ⟨O,?_⟩
    exact Ys (k+1) O1 O1 K1 ⟨by rw [←Zby O];rfl,trivial⟩
 ·try rw [List.length_replicate]at *
  refine go 6 ?_
  obtain rfl:k=max xs.length ys.length:=O
  refine Zg (Qb 4 J J pV)<|go 3 ?_
  refine tt (Oi (n:=7) (i:=1) (Zb6 _ _ _ (by rw [Gq];exact Cp fun i _=>hz i)) J J J K2 call165 J O3 (Zj 4 J J J Zn) J hw.h trivial) fun _ _=>go 7 ?_
  exact Zbb (.inl J) hsc _ _ (fun a w hs=>Ybz hs results169 J J) J trivial 1 J J J J (Zkd 7 J J J (by rw [Gq]<;>rfl) Za)
theorem Zsc(bd:Nat)(v u:Value)(xs ys:List Int)(hv:Vp xs)(hu:Vp ys)(hz:∀i,bl (cf xs i-cf ys i).natAbs≤65536):Zgy prog 169 #[v,u,.pointer (some ⟨bd,0,none⟩),.func (.func 170) #[.pointer (some ⟨bd,0,none⟩)] #[]] [Xc 2 wv v xs,Xc 2 wv u ys] true bd 221 #[.int .i64 0] (G:=Value) (fun r=>True) (fun r=> .tuple #[r,.int .i64 0]) (fun r=>#[.int .i64 0]) (fun r=>[Xc 2 wv r (Gz xs ys)]):=by
 refine Za3 func169 J ntmps169 J K2 ?_
 intro w0 sc hw hsc;have hw:=Hw.mk hw
 simp only [Ox,Oc]
 have hlen:=hv.len
 have hlen2:=hu.len
 refine go 10 ?_
 refine cl 3 [2] (Xl _ _ ‹_›) fun _ _=>go 3 ?_
 refine Ez 3 [3] (Xl _ _ ‹_›) fun _ _=>go 13 ?_
 refine dt (Zmv J J J)<|tt (Ks (i:=4) (n:=(max xs.length ys.length)) (by_:=24) (enc:=wv) 0 J J J J Lo ti93 J pV.cells pV.pos J J J hw.h) fun v _=>go 12 ?_
 refine lp (G:=Nat) [0,1,2,3,10,29] [0,1,2,3] (fun k=>[(30,.int .i64 (k:Int))]) (fun k=>[(4,Ns 2 93 wv v (fill (max xs.length ys.length) k (fun i=>cf xs i-cf ys i)))]) (fun k=>k≤max xs.length ys.length) (fun k=>max xs.length ys.length-k) 0 O1 K1 ⟨by rw [Dy (max xs.length ys.length) (fun i=>cf xs i-cf ys i)];rfl,trivial⟩ ?_
 rintro k hk
 have hlf:(fill (max xs.length ys.length) k (fun i=>cf xs i-cf ys i)).length=max xs.length ys.length:=Pg _ _ _
 refine go 6 ?_
 refine Zc J (fun h106=>?_) (fun h106=>?_)
 ·try rw [List.length_replicate]at *
  refine go 12 ?_
  refine Zy (Zs 5) fun b _=>Zy (Zs 6) fun b_2 _=>go 2 ?_
  refine jn (G:=Unit) [0,1,2,3,10,11,12,13,29,30] [0,4,1,2,3,6] (fun _=>[]) (fun _=>[(5,box b 93 (wc (cf xs k)))]) (fun _=>True) ?_ ?_
  ·refine go 8 ?_
   refine Zc J (fun h108=>?_) (fun h108=>?_)
   ·refine go 7 ⟨O2,O2,?_⟩
    exact Pw () trivial trivial ⟨by first | rfl | (rw [Yd (p:=xs) O];rfl),trivial⟩
   ·refine go 1 ?_
    exact Pw () trivial trivial ⟨by first | rfl | (rw [Yd (p:=xs) O];rfl),trivial⟩
  ·rintro _ -
   refine jn (G:=Unit) [0,1,2,3,10,11,12,13,29,30] [0,5,4,1,2,3] (fun _=>[]) (fun _=>[(6,box b_2 93 (wc (cf ys k)))]) (fun _=>True) ?_ ?_
   ·refine go 8 ?_
    refine Zc J (fun h111=>?_) (fun h111=>?_)
    ·refine go 7 ⟨O2,O2,?_⟩
     exact Pw () trivial trivial ⟨by first | rfl | (rw [Yd (p:=ys) O];rfl),trivial⟩
    ·refine go 1 ?_
     exact Pw () trivial trivial ⟨by first | rfl | (rw [Yd (p:=ys) O];rfl),trivial⟩
   ·rintro _ -
    refine go 6 ?_
    refine tt (Zp0 (n:=6) (i:=1) (fs:=[_]) (vs:=[_,_]) (Zt6 _ _ _ (hv.sz _) (hu.sz _) (hz _)) J J J J K2 call170 J O3 Zn J hw.h trivial) (fun _ _=>?_)
    refine dt (Zx (ii:=4) (i:=k) J J J J (Yx pV) Lo Iw J (by rw [Pg];omega))<|tt (Lu (i:=4) (enc:=wv) _ J J J J J J pV J hw.h O3 (by rw [Pg];omega)) fun _ _=>go 7 ⟨O,?_⟩
    exact Ys (k+1) O1 O1 K1 ⟨by rw [←Zby O];rfl,trivial⟩
 ·try rw [List.length_replicate]at *
  refine go 6 ?_
  obtain rfl:k=max xs.length ys.length:=O
  refine Zg (Qb 4 J J pV)<|go 3 ?_
  refine tt (Oi (n:=7) (i:=1) (Zb6 _ _ _ (by rw [Gq];exact Cp fun i _=>hz i)) J J J K2 call165 J O3 (Zj 4 J J J Zn) J hw.h trivial) fun _ _=>go 7 ?_
  exact Zbb (.inl J) hsc _ _ (fun a w hs=>Ybz hs results169 J J) J trivial 1 J J J J (Zkd 7 J J J (by rw [Gq]<;>rfl) Za)
theorem Ycm(v u:Value)(xs ys:List Int)(hv:Vp xs)(hu:Vp ys)(hz:∀i,bl (cf xs i+cf ys i).natAbs≤65536):Cal prog 132 #[v,u] [Xc 2 wv v xs,Xc 2 wv u ys] true (G:=Value) (fun r=>True) (fun r=> .tuple #[r,.int .i64 0]) (fun r=>[Xc 2 wv r (Bq xs ys)]):=by
 refine Zh func132 ntmps132 fun w0 sc hw hsc=>go 8 ?_
 refine Zy (Zs 3) fun b _=>go 6 ?_
 refine dt (Zw9 (vs:=[_]) J K1)<|tt (Oi (n:=4) (i:=3) (Zsd _ _ _ _ _ ‹_› ‹_› ‹_›) J J J K4 call169 J O3 (Zj 1 J J J (Zj 2 J J J Zn)) J hw.h trivial) fun _ _=>go 7 ?_
 exact Mj hsc _ results132 J trivial (Ob 4 Za)
theorem Ycl(v u:Value)(xs ys:List Int)(hv:Vp xs)(hu:Vp ys)(hz:∀i,bl (cf xs i-cf ys i).natAbs≤65536):Cal prog 133 #[v,u] [Xc 2 wv v xs,Xc 2 wv u ys] true (G:=Value) (fun r=>True) (fun r=> .tuple #[r,.int .i64 0]) (fun r=>[Xc 2 wv r (Gz xs ys)]):=by
 refine Zh func133 ntmps133 fun w0 sc hw hsc=>go 8 ?_
 refine Zy (Zs 3) fun b _=>go 6 ?_
 refine dt (Zw9 (vs:=[_]) J K1)<|tt (Oi (n:=4) (i:=3) (Zsc _ _ _ _ _ ‹_› ‹_› ‹_›) J J J K4 call169 J O3 (Zj 1 J J J (Zj 2 J J J Zn)) J hw.h trivial) fun _ _=>go 7 ?_
 exact Mj hsc _ results133 J trivial (Ob 4 Za)
theorem Zjj(v u:Value)(xs ys:List Int)(hv:Vp xs)(hu:Vp ys)(hF:¬Zat xs ys):Cal prog 131 #[v,u] [Xc 2 wv v xs,Xc 2 wv u ys] true (G:=Value) (fun r=>True) (fun r=> .tuple #[r,.int .i64 0]) (fun r=>[Xc 2 wv r (Xr xs ys)]):=by
 refine Zh func131 ntmps131 fun w0 sc hw hsc=>?_
 have hlen:=hv.len
 have hlen2:=hu.len
 have hm1:=Qp hv.sz
 have hm2:=Qp hu.sz
 refine go 10 ?_
 refine cl 2 [1] (Xl _ _ ‹_›) fun _ _=>go 3 ?_
 refine Ez 2 [2] (Xl _ _ ‹_›) fun _ _=>go 14 ?_
 refine Ym (d:=23) J (fun s136=>?_) (fun s136=>?_)
 ·refine go 15 ?_
  exact Mj hsc _ results131 J trivial (Kp (Ag (p:=xs) (q:=ys) (by first | (left;omega) | (right;omega))) Za)
 ·refine go 6 ?_
  refine Zc J (fun h136=>?_) (fun h136=>?_)
  ·refine go 8 ?_
   exact Mj hsc _ results131 J trivial (Kp (Ag (p:=xs) (q:=ys) (by first | (left;omega) | (right;omega))) Za)
  ·have hnx:xs≠[]:=by intro e;subst e;simp_all
   have hny:ys≠[]:=by intro e;subst e;simp_all
   have hlx:0<xs.length:=List.length_pos_iff.2 hnx
   have hly:0<ys.length:=List.length_pos_iff.2 hny
   refine go 13 ⟨O,O,?_⟩
   refine Ym (d:=35) J (fun s139=>?_) (fun s139=>?_)
   ·exfalso;exact hF ⟨hnx,hny,.inl O⟩
   ·refine go 1 ?_
    refine Ez 2 [1] (Lv _ _ (by first | exact hv.sz | exact hu.sz)) fun _ _=>go 1 ?_
    refine Ez 2 [2] (Lv _ _ (by first | exact hv.sz | exact hu.sz)) fun _ _=>go 6 ⟨O,O,?_⟩
    refine Zc J (fun h139=>?_) (fun h139=>?_)
    ·exfalso;exact hF ⟨hnx,hny,by first | (left;omega) | (right;omega)⟩
    ·have hsz:Xz xs+Xz ys+5≤65536:=O
     have hpq:∀i j,bl (cf xs i*cf ys j).natAbs≤65536:=fun i j=>by have:=Yg (cf xs i) (cf ys j);have:=Pe xs i;have:=Pe ys j;omega
     have hac:∀i j t,i<25→bl (Aw xs ys i j t).natAbs≤65536:=fun i j t hi=>by have:=Yi5 (i:=i) (j:=j) (t:=t) (Pe xs) (Pe ys) O;omega
     have hacc:∀t,bl (acc xs ys xs.length t).natAbs≤65536:=fun t=>by have:=bl_acc (i:=xs.length) (t:=t) (Pe xs) (Pe ys) O;omega
     have hsum:∀i j,i<25→bl (Aw xs ys i j (i+j)+cf xs i*cf ys j).natAbs≤65536:=fun i j hi=>by rw [←Yad];exact hac i (j+1) _ hi
     refine go 4 ?_
     refine Zy (Zs 3) fun b _=>go 10 ⟨O,O,?_⟩
     refine tt (Ks (i:=4) (n:=(xs.length+ys.length-1)) (by_:=24) (enc:=wv) 0 J J J J Lo ti93 J pV.cells pV.pos J J J hw.h) fun v _=>go 12 ?_
     refine lp (G:=Nat) [1,6,7,51,52] [0,1,2,3] (fun i=>[(53,.int .i64 (i:Int))]) (fun i=>[(4,Ns 2 93 wv v (mk (xs.length+ys.length-1) (acc xs ys i)))]) (fun i=>i≤xs.length) (fun i=>xs.length-i) 0 O1 K1 ⟨by rw [Ztc];rfl,trivial⟩ ?_
     rintro i hi
     refine go 6 ?_
     refine Zc J (fun h144=>?_) (fun h144=>?_)
     ·refine go 9 ⟨O2,O2,?_⟩
      refine Zy (Zs 5) fun b_2 _=>go 12 ?_
      refine lp (G:=Nat) [1,6,7,8,9,51,52,53,58,59] [0,1,2,3,5] (fun j=>[(60,.int .i64 (j:Int))]) (fun j=>[(4,Ns 2 93 wv v (mk (xs.length+ys.length-1) (Aw xs ys i j)))]) (fun j=>j≤ys.length) (fun j=>ys.length-j) 0 O1 K1 ⟨by rw [Yac];rfl,trivial⟩ ?_
      rintro j hj
      have hgd:i+j<xs.length+ys.length-1→(mk (xs.length+ys.length-1) (Aw xs ys i j)).getD (i+j) 0=Aw xs ys i j (i+j):=fun h=>Zie h
      refine go 6 ?_
      refine Zc J (fun h145=>?_) (fun h145=>?_)
      ·refine go 9 ⟨O2,O2,?_⟩
       refine Zy (Zs 6) fun b_3 _=>go 4 ?_
       refine Xw (fun x=>x=b) [(0,0),(1,0),(2,0),(3,0),(4,0),(5,0),(6,0),(7,0),(8,0),(9,0),(10,0),(11,0),(12,1),(13,1),(14,0),(15,3)]<|go 8 ⟨O,O,?_⟩
       refine Qn J J (st1 3 J (Zx (ii:=4) (i:=(i+j)) J J J J (Yx pV) Lo Iw O (by rw [Yu];omega)))<|go 3 ⟨by rw [Yu];omega,?_⟩
       refine Kd J (Oi (n:=6) (i:=3) (Zaz _ _ _ (hv.sz _) (hu.sz _) (hpq i j)) J J J K3 call164 J O3 Zn J hw.h J) (fun _ _=>?_)
       refine Kd J (Oi (n:=6) (i:=3) (Zt7 _ _ _ (by rw [hgd O];exact hac i j _ O) (hpq i j) (by rw [hgd O];exact hsum i j O)) J J J K3 call168 J O3 Zn J hw.h J) (fun _ _=>?_)
       refine Qn J J (st1 3 J (Zx (ii:=4) (i:=(i+j)) J J J J (Yx pV) Lo Iw O (by rw [Yu];omega)))<|r3' J (Lu (i:=4) (enc:=wv) _ J J J J J J pV J hw.h O3 (by rw [Yu];omega)) fun _ _=>go 7 ⟨O,?_⟩
       exact Ys (j+1) O1 O1 K1 ⟨by rw [←Yfh O,←hgd O];rfl,trivial⟩
      ·refine go 10 ⟨O,?_⟩
       obtain rfl:j=ys.length:=O
       exact Ys (i+1) O1 O1 K1 ⟨by rw [←Yfi];rfl,trivial⟩
     ·refine go 6 ?_
      obtain rfl:i=xs.length:=O
      refine Zg (Qb 4 J J pV)<|go 2 ?_
      refine tt (Oi (n:=7) (i:=3) (Zb6 _ _ _ (Cp fun t _=>hacc t)) J J J K2 call165 J O3 (Zj 4 J J J Zn) J hw.h trivial) fun _ _=>go 7 ?_
      exact Mj hsc _ results131 J trivial (Ob 7 Za (by rw [Ycp]<;>rfl))
theorem Zdk(v u:Value)(xs ys:List Int)(hv:Vp xs)(hu:Vp ys):Ok prog 243 #[v,u] [Xc 2 wv v xs,Xc 2 wv u ys] (.tuple #[.bool (Yia xs ys),.int .i64 (Dq xs ys)]):=by
 refine Zh func243 ntmps243 fun w0 sc hw hsc=>?_
 have hlen:=hv.len
 have hlen2:=hu.len
 have hm1:=Qp hv.sz
 have hm2:=Qp hu.sz
 refine go 11 ?_
 refine cl 2 [1] (Xl _ _ ‹_›) fun _ _=>go 3 ?_
 refine Ez 2 [2] (Xl _ _ ‹_›) fun _ _=>go 14 ?_
 refine Zc J (fun h297=>?_) (fun h297=>?_)
 ·refine go 9 ?_
  exact Mj hsc () results243 (by unfold Dq Yia;rw [if_pos O,List.eq_nil_of_length_eq_zero (l:=ys) O];rfl) trivial Za
 ·refine go 10 ?_
  refine Zc J (fun h299=>?_) (fun h299=>?_)
  ·refine go 9 ?_
   exact Mj hsc () results243 (by rw [Zfr O,decide_eq_true O];unfold Dq;rw [if_neg O,if_pos O]) trivial Za
  ·have hp3:(xs.length-ys.length+1)*(Xz ys+1)≤26*65537:=Nat.mul_le_mul O O
   have hp4:((xs.length:Int)-(ys.length:Int)+1)*((Xz ys:Int)+1)=(((xs.length-ys.length+1)*(Xz ys+1):Nat):Int):=by rw [Int.natCast_mul];congr 1;omega
   refine go 3 ?_
   refine cl 2 [1] (Lv _ _ (by first | exact hv.sz | exact hu.sz)) fun _ _=>go 7 ⟨O,O,?_⟩
   refine cl 2 [2] (Lv _ _ (by first | exact hv.sz | exact hu.sz)) fun _ _=>go 7 ⟨O,by rw [hp4];exact⟨O,O⟩,by rw [hp4];exact⟨O,O⟩,?_⟩
   refine Zc J (fun h301=>?_) (fun h301=>?_)
   ·refine go 9 ?_
    exact Mj hsc () results243 (by rw [hp4]at h301;rw [Zfr O,decide_eq_false O];unfold Dq;rw [if_neg O,if_neg O,if_pos O]) trivial Za
   ·refine go 10 ?_
    exact Mj hsc () results243 (by rw [hp4]at h301;rw [Zfr O,decide_eq_false O];unfold Dq;rw [if_neg O,if_neg O,if_neg O]) trivial Za
theorem Zmb(v u:Value)(xs ys:List Int)(hv:Vp xs)(hu:Vp ys)(hd:Dq xs ys=0):Cal prog 242 #[v,u] [Xc 2 wv v xs,Xc 2 wv u ys] true (G:=Value) (fun r=>True) (fun r=> .tuple #[r,.int .i64 0]) (fun r=>[Xc 2 wv r (Xn xs ys)]):=by
 refine Zh func242 ntmps242 fun w0 sc hw hsc=>?_
 have hlen:=hv.len
 have hlen2:=hu.len
 have hm1:=Qp hv.sz
 have hm2:=Qp hu.sz
 obtain⟨hm0,hF0⟩:=Za0 hd
 have hdl:=Zfr (p:=xs) hm0
 refine go 10 ?_
 refine cl 2 [1,2] (Zdk _ _ _ _ hv hu) fun _ _=>go 14 ?_
 refine Zc J (fun h310=>?_) (fun h310=>?_)
 ·exfalso;exact h310 hd
 ·refine go 5 ?_
  refine tt (Zm8 (n:=3) (Zxo _ _) J J J K1 call244 (Zj 1 J J J Zn) J hw.h) fun v _=>go 9 ?_
  refine Nq J (fun h314=>?_) (fun h314=>?_)
  ·have hlt:xs.length<ys.length:=by rw [hdl]at h314;simpa using h314
   refine go 9 ?_
   exact Mj hsc _ results242 J trivial (gow 3 Za (by unfold Xn;rw [if_pos hlt]))
  ·have hge:ys.length≤xs.length:=by rw [hdl]at h314;simpa using h314
   have hF:=hF0 hge
   refine go 4 ?_
   refine Zy (Zs 4) fun b _=>go 8 ⟨O,?_⟩
   refine dt (Zx (ii:=2) (i:=(ys.length-1)) J J J J Zo Lo Iw)<|go 1 ⟨O,?_⟩
   refine Zy (Zs 5) fun b_2 _=>go 13 ⟨O,?_⟩
   refine lp (G:=Nat) [1,8,9,10] [0,1,2,4,5] (fun j=>[(11,.int .i64 ((xs.length:Int)-1-(j:Int)))]) (fun j=>[(3,Ns 2 93 wv v (Qa xs ys j))]) (fun j=>j≤xs.length-ys.length+1) (fun j=>xs.length-ys.length+1-j) 0 O1 ⟨by rw [show(xs.length:Int)-1-((0:Nat):Int)=(xs.length:Int)-1 by omega];rfl,trivial⟩ K1 ?_
   rintro j hj
   refine go 10 ⟨O,?_⟩
   refine Zc J (fun h319=>?_) (fun h319=>?_)
   ·obtain⟨hb1,hb2,hb3⟩:=rest_b hF (j:=j) O
    have hRl:=Qu xs ys j
    refine go 8 ?_
    refine dt (Zx (ii:=3) (i:=(xs.length-1-j)) J J J J (Yx pV) Lo Iw)<|go 1 ⟨O,?_⟩
    refine Zy (Zs 6) fun b_3 _=>go 12 ?_
    refine lp (G:=Nat) [1,8,9,10,11,12,51] [0,1,2,4,5,6] (fun i=>[(52,.int .i64 (i:Int))]) (fun i=>[(3,Ns 2 93 wv v (Zhr (Qa xs ys j) (cf ys (ys.length-1)) i))]) (fun i=>i≤xs.length) (fun i=>xs.length-i) 0 O1 K1 ⟨by rw [Zzf];rfl,trivial⟩ ?_
    rintro i hi
    have hg1:i<xs.length→(Zhr (Qa xs ys j) (cf ys (ys.length-1)) i).getD i 0=cf (Qa xs ys j) i:=fun h=>Yde O
    have hl1:=Zrg (Qa xs ys j) (cf ys (ys.length-1)) i
    refine go 6 ?_
    refine Zc J (fun h322=>?_) (fun h322=>?_)
    ·refine go 10 ?_
     refine Xw (fun x=>x=b) [(0,0),(1,0),(2,0),(3,0),(4,0),(5,0),(6,0),(7,1),(8,0),(9,3)]<|go 4 ?_
     refine Qn J J (st1 4 J (Zx (ii:=3) (i:=i) J J J J (Yx pV) Lo Iw J))<|go 2 ⟨O,?_⟩
     refine Kd J (Oi (n:=6) (i:=4) (Zaz _ _ _ (by rw [hg1 O];exact hb1 _) (hu.sz _) (by rw [hg1 O];exact hb2 _ _)) J J J K3 call164 J O3 Zn J hw.h J) (fun _ _=>?_)
     refine Qn J J (st1 4 J (Zx (ii:=3) (i:=i) J J J J (Yx pV) Lo Iw J))<|r3' J (Lu (i:=3) (enc:=wv) _ J J J J J J pV J hw.h) fun _ _=>go 7 ⟨O,?_⟩
     exact Ys (i+1) O1 O1 K1 ⟨by rw [←Ydd O,←hg1 O];rfl,trivial⟩
    ·refine go 6 ?_
     obtain rfl:i=xs.length:=O
     refine go 7 ?_
     refine lp (G:=Nat) [1,8,9,10,11,12,65,66] [0,1,2,4,5,6] (fun i=>[(67,.int .i64 (i:Int))]) (fun i=>[(3,Ns 2 93 wv v (Zk7 ys (Qa xs ys j) (cf ys (ys.length-1)) (cf (Qa xs ys j) (xs.length-1-j)) (xs.length-1-j-(ys.length-1)) i))]) (fun i=>i≤ys.length) (fun i=>ys.length-i) 0 O1 K1 ⟨by rw [←Zyi,hRl];rfl,trivial⟩ ?_
     rintro i hi
     have hg2:i<ys.length→(Zk7 ys (Qa xs ys j) (cf ys (ys.length-1)) (cf (Qa xs ys j) (xs.length-1-j)) (xs.length-1-j-(ys.length-1)) i).getD ((xs.length-1-j-(ys.length-1))+i) 0=cf (Qa xs ys j) ((xs.length-1-j-(ys.length-1))+i)*(cf ys (ys.length-1)):=fun h=>Ya2 O
     have hl2:=Zrf ys (Qa xs ys j) (cf ys (ys.length-1)) (cf (Qa xs ys j) (xs.length-1-j)) (xs.length-1-j-(ys.length-1)) i
     refine go 6 ?_
     refine Zc J (fun h325=>?_) (fun h325=>?_)
     ·refine go 9 ⟨O2,O2,?_⟩
      refine Zy (Zs 7) fun b_4 _=>go 16 ⟨O,O,O,?_⟩
      refine Xw (fun x=>x=b) [(0,0),(1,0),(2,0),(3,0),(4,0),(5,0),(6,0),(7,0),(8,1),(9,1),(10,0),(11,3)]<|go 4 ?_
      refine Qn J J (st1 4 J (Zx (ii:=3) (i:=((xs.length-1-j-(ys.length-1))+i)) J J J J (Yx pV) Lo Iw))<|go 3 ⟨O,?_⟩
      refine Kd J (Oi (n:=7) (i:=4) (Zaz _ _ _ (hb1 _) (hu.sz _) (hb2 _ _)) J J J K3 call164 J O3 Zn J hw.h J) (fun _ _=>?_)
      refine Kd J (Oi (n:=7) (i:=4) (Zt6 _ _ _ (by rw [hg2 O];exact hb2 _ _) (hb2 _ _) (by rw [hg2 O];exact hb3 _ _ _ _)) J J J K3 call170 J O3 Zn J hw.h J) (fun _ _=>?_)
      refine Qn J J (st1 4 J (Zx (ii:=3) (i:=((xs.length-1-j-(ys.length-1))+i)) J J J J (Yx pV) Lo Iw))<|r3' J (Lu (i:=3) (enc:=wv) _ J J J J J J pV J hw.h) fun _ _=>go 7 ⟨O,?_⟩
      exact Ys (i+1) O1 O1 K1 ⟨by rw [←Ya1 O,←hg2 O];rfl,trivial⟩
     ·refine go 11 ⟨O,?_⟩
      obtain rfl:i=ys.length:=O
      exact Ys (j+1) O1 O1 ⟨by rw [show(xs.length:Int)-1-((j+1:Nat):Int)=(xs.length:Int)-1-(j:Int)-1 by omega];rfl,trivial⟩ ⟨by rfl,trivial⟩
   ·refine go 6 ?_
    obtain rfl:j=xs.length-ys.length+1:=O
    refine Zg (Qb 3 J J pV)<|go 2 ?_
    refine tt (Oi (n:=8) (i:=4) (Zb6 _ _ _ (Zp1 hF)) J J J K2 call165 J O3 (Zj 3 J J J Zn) J hw.h trivial) fun _ _=>go 7 ?_
    exact Mj hsc _ results242 J trivial (Ob 8 Za (by unfold Xn;rw [if_neg O]<;>rfl))
theorem Zbo(v u:Value)(xs ys:List Int)(hv:Vp xs)(hu:Vp ys)(hd:Dq xs ys=0):Cal prog 226 #[v,u] [Xc 2 wv v xs,Xc 2 wv u ys] true (G:=Value) (fun r=>True) (fun r=> .tuple #[r,.int .i64 (if pdv xs ys then 0 else 10)]) (fun r=>[Xc 2 wv r (if pdv xs ys then Mq xs ys else [])]):=by
 refine Zh func226 ntmps226 fun w0 sc hw hsc=>?_
 have hlen:=hv.len
 have hlen2:=hu.len
 have hm1:=Qp hv.sz
 have hm2:=Qp hu.sz
 obtain⟨hm0,hF0⟩:=Za0 hd
 have hdl:=Zfr (p:=xs) hm0
 have hyz:cf ys (ys.length-1)≠0:=hu.tr.mem (fun e=>hm0 (by rw [e];rfl))
 refine go 10 ?_
 refine cl 2 [1,2] (Zdk _ _ _ _ hv hu) fun _ _=>go 16 ?_
 refine Zc J (fun h337=>?_) (fun h337=>?_)
 ·exfalso;exact h337 hd
 ·refine go 8 ?_
  refine Zc J (fun h339=>?_) (fun h339=>?_)
  ·refine go 9 ?_
   have hx0:xs=[]:=List.eq_nil_of_length_eq_zero O
   have hp:pdv xs ys:= .inl hx0
   exact Mj hsc _ results226 (by rw [if_pos hp]) trivial (Kp (by rw [if_pos hp,hx0];rfl) Za)
  ·have hnx:xs≠[]:=fun e=>by rw [e]at h339;simp at h339
   refine go 6 ?_
   refine Nq J (fun h341=>?_) (fun h341=>?_)
   ·have hlt:xs.length<ys.length:=by rw [hdl]at h341;simpa using h341
    refine go 9 ?_
    have hp:¬pdv xs ys:=fun h=>by rcases h with h | h;(exact hnx h);(have:=h.1;omega)
    exact Mj hsc _ results226 (by rw [if_neg hp]) trivial (Kp (if_neg hp) Za)
   ·have hge:ys.length≤xs.length:=by rw [hdl]at h341;simpa using h341
    have hF:=hF0 hge
    refine go 5 ?_
    refine Zy (Zs 3) fun b _=>go 5 ?_
    refine tt (Zm8 (n:=4) (Zxo _ _) J J J K1 call244 (Zj 1 J J J Zn) J hw.h) fun v _=>go 11 ⟨O,O,?_⟩
    refine tt (Ks (i:=5) (n:=(xs.length-ys.length+1)) (by_:=24) (enc:=wv) 0 J J J J Lo ti93 J pV.cells pV.pos J J J hw.h) fun v_2 _=>go 13 ⟨⟨by simp only [List.length_replicate];omega,by simp only [List.length_replicate];omega⟩,?_⟩
    refine lp (G:=Nat) [1,8,9,10] [0,1,2,3] (fun j=>[(11,.int .i64 ((xs.length:Int)-(ys.length:Int)-(j:Int)))]) (fun j=>[(4,Ns 2 93 wv v (Xb xs ys j)),(5,Ns 2 93 wv v_2 (Zb1 xs ys j))]) (fun j=>(j≤xs.length-ys.length+1)∧(∀k,xs.length-ys.length<k+j→k≤xs.length-ys.length→Nu xs ys k)) (fun j=>xs.length-ys.length+1-j) 0 ⟨O1,fun k h1 h2=>O⟩ ⟨by simp only [List.length_replicate];exact congrArg some (Zax O),trivial⟩ ⟨J,by rw [Zms];rfl,trivial⟩ ?_
    rintro j ⟨hj,hx⟩
    have hol:=Bd xs ys j
    refine go 7 ?_
    refine Zc J (fun h347=>?_) (fun h347=>?_)
    ·obtain⟨hb1,hb5⟩:=div_b hF (j:=j) O hx
     have hRl:=Hd xs ys j
     have hi1:xs.length-ys.length-j+ys.length-1<xs.length:=O
     refine go 4 ?_
     refine jn (G:=Nat×Nat) [1,8,9,10,11] [0,4,5,1,2,3] (fun q=>[(12,.pointer (some ⟨q.1,0,none⟩)),(13,.pointer (some ⟨q.2,0,none⟩)),(14,.int .i64 0)]) (fun q=>[(97,box q.1 93 (wc (Bs (dq ys (Xb xs ys j) (xs.length-ys.length-j))))),(98,box q.2 93 (wc (Bs (cf (Xb xs ys j) ((xs.length-ys.length-j)+ys.length-1)%cf ys (ys.length-1)))))]) (fun q=>True) ?_ ?_
     ·refine Pk [2,4] [23]<|Zl (n:=10) [(0,0),(1,0),(2,0),(3,0),(4,0),(5,0),(6,0),(7,0),(8,0),(9,0),(10,0),(11,0),(12,0),(13,0)]<|go 6 ⟨O,O,?_⟩
      refine Qn J J (stf (Zx (ii:=4) (i:=((xs.length-ys.length-j)+ys.length-1)) J J J J (Yx pV) Lo Iw) K2)<|go 5 ⟨O,O,?_⟩
      refine Qn J J (stf (Zx (ii:=2) (i:=(ys.length-1)) J J J J Zo Lo Iw) K2)<|go 2 ⟨O,?_⟩
      refine Zds (n:=9) 14 19 20 ?_ ?_ ?_
      ·refine Oz (Zk 5 [] (Ca _ _ (hb1 _) (hu.sz _) hyz)) fun _ _=>?_
       refine Zl (n:=5) [(15,0),(16,0),(17,0),(18,0)]<|go 5 ?_
       refine Qq (n:=4) 19 20 ?_ ?_
       ·refine Oz (Qm 97) fun b_2 ho=>?_
        refine Zl (n:=0) [(20,1),(21,1),(22,1),(23,3)]<|Yf (Qm 98) fun b_3 ho2=>go 4 ?_
        exact Zp<|Pw (_,_) trivial K3 K2
       ·refine Oz (Qm 98) fun b_4 ho3=>?_
        refine Zl (n:=0) [(19,1),(21,1),(22,1),(23,3)]<|Yf (Qm 97) fun b_5 ho4=>go 4 ?_
        exact Zp<|Pw (_,_) trivial K3 K2
      ·refine Oz (Qm 97) fun b_6 ho5=>?_
       refine Qq (n:=8) 14 20 ?_ ?_
       ·refine Oz (Zk 5 [] (Ca _ _ (hb1 _) (hu.sz _) hyz)) fun _ _=>?_
        refine Zl (n:=0) [(15,0),(16,0),(17,0),(18,0),(20,1),(21,1),(22,1),(23,3)]<|go 4 ?_
        refine Yf (Qm 98) fun b_7 ho6=>go 4 ?_
        exact Zp<|Pw (_,_) trivial K3 K2
       ·refine Oz (Qm 98) fun b_8 ho7=>?_
        refine Zl (n:=0) [(14,1),(15,0),(16,0),(17,0),(18,0),(21,1),(22,1),(23,3)]<|Yf (Zk 5 [] (Ca _ _ (hb1 _) (hu.sz _) hyz)) fun _ _=>go 8 ?_
        exact Zp<|Pw (_,_) trivial K3 K2
      ·refine Oz (Qm 98) fun b_9 ho8=>?_
       refine Qq (n:=8) 14 19 ?_ ?_
       ·refine Oz (Zk 5 [] (Ca _ _ (hb1 _) (hu.sz _) hyz)) fun _ _=>?_
        refine Zl (n:=0) [(15,0),(16,0),(17,0),(18,0),(19,1),(21,1),(22,1),(23,3)]<|go 4 ?_
        refine Yf (Qm 97) fun b_10 ho9=>go 4 ?_
        exact Zp<|Pw (_,_) trivial K3 K2
       ·refine Oz (Qm 97) fun b_11 ho10=>?_
        refine Zl (n:=0) [(14,1),(15,0),(16,0),(17,0),(18,0),(21,1),(22,1),(23,3)]<|Yf (Zk 5 [] (Ca _ _ (hb1 _) (hu.sz _) hyz)) fun _ _=>go 8 ?_
        exact Zp<|Pw (_,_) trivial K3 K2
     ·rintro⟨b7,b8⟩ -
      dsimp only
      refine go 7 ?_
      refine Zc J (fun h349=>?_) (fun h349=>?_)
      ·exfalso;exact h349 rfl
      ·refine go 6 ?_
       refine cl 5 [] (Il _ (Yio _)) fun _ _=>go 3 ?_
       refine Zc J (fun h352=>?_) (fun h352=>?_)
       ·have hne:¬Nu xs ys (xs.length-ys.length-j):=fun he=>h352 (by rw [Zsf hyz (hu.sz _),(Zfs O).1 he];rfl)
        refine go 13 ?_
        have hp:¬pdv xs ys:=fun h=>by rcases h with h | h;(exact hnx h);(exact hne (h.2.1 _ O))
        exact Mj hsc _ results226 (by rw [if_neg hp]) trivial (Kp (if_neg hp) Za)
       ·have hde:Nu xs ys (xs.length-ys.length-j):=(Zfs O).2 (by have h0:=Decidable.byContradiction h352;rw [Zsf hyz (hu.sz _)]at h0;exact Int.sign_eq_zero_iff_zero.1 h0)
        obtain⟨hb2,hb3,hb4⟩:=hb5 hde
        refine Zg (Kz 97 (q:=box b7 93 (wc (dq ys (Xb xs ys j) (xs.length-ys.length-j)))) (by rw [Mv hb2]) J J)<|go 7 ?_
        refine dt (Zx (ii:=5) (i:=(xs.length-ys.length-j)) J J J J (Yx pV) Lo Iw)<|tt (Lu (i:=5) (enc:=wv) _ J J J J J J pV J hw.h) fun _ _=>go 10 ?_
        refine lp (G:=Nat) [1,8,9,10,11,12,78,79] [0,97,98,5,1,2,3] (fun i=>[(80,.int .i64 (i:Int))]) (fun i=>[(4,Ns 2 93 wv v (Zlf ys (Xb xs ys j) (dq ys (Xb xs ys j) (xs.length-ys.length-j)) (xs.length-ys.length-j) i))]) (fun i=>i≤ys.length) (fun i=>ys.length-i) 0 O1 K1 ⟨by rw [←Zz1];rfl,trivial⟩ ?_
        rintro i hi
        have hg2:i<ys.length→(Zlf ys (Xb xs ys j) (dq ys (Xb xs ys j) (xs.length-ys.length-j)) (xs.length-ys.length-j) i).getD ((xs.length-ys.length-j)+i) 0=cf (Xb xs ys j) ((xs.length-ys.length-j)+i):=fun h=>Yei O
        have hl2:=Zrh ys (Xb xs ys j) (dq ys (Xb xs ys j) (xs.length-ys.length-j)) (xs.length-ys.length-j) i
        refine go 6 ?_
        refine Zc J (fun h356=>?_) (fun h356=>?_)
        ·refine go 9 ⟨O2,O2,?_⟩
         refine Zy (Zs 6) fun b_12 _=>go 4 ?_
         refine Xw (fun x=>x=b) [(0,0),(1,0),(2,0),(3,0),(4,0),(5,0),(6,0),(7,0),(8,0),(9,0),(10,0),(11,0),(12,1),(13,1),(14,0),(15,3)]<|go 8 ⟨O,O,?_⟩
         refine Qn J J (st1 3 J (Zx (ii:=4) (i:=((xs.length-ys.length-j)+i)) J J J J (Yx pV) Lo Iw))<|go 3 ⟨O,?_⟩
         refine Kd J (Oi (n:=6) (i:=3) (Zaz _ _ _ hb2 (hu.sz _) (hb3 _)) J J J K3 call164 J O3 Zn J hw.h J) (fun _ _=>?_)
         refine Kd J (Oi (n:=6) (i:=3) (Zt6 _ _ _ (by rw [hg2 O];exact hb1 _) (hb3 _) (by rw [hg2 O];exact hb4 _ _)) J J J K3 call170 J O3 Zn J hw.h J) (fun _ _=>?_)
         refine Qn J J (st1 3 J (Zx (ii:=4) (i:=((xs.length-ys.length-j)+i)) J J J J (Yx pV) Lo Iw))<|r3' J (Lu (i:=4) (enc:=wv) _ J J J J J J pV J hw.h) fun _ _=>go 7 ⟨O,?_⟩
         exact Ys (i+1) O1 O1 K1 ⟨by rw [←Yeh O,←hg2 O];rfl,trivial⟩
        ·refine go 11 ⟨O,?_⟩
         obtain rfl:i=ys.length:=O
         exact Ys (j+1) ⟨O1,fun k h1 h2=>by rcases Nat.lt_or_ge (xs.length-ys.length) (k+j)with h3 | h3;(exact hx k h3 h2);(rw [show k=xs.length-ys.length-j by omega];exact hde)⟩ O1 ⟨by rw [show(xs.length:Int)-(ys.length:Int)-((j+1:Nat):Int)=(xs.length:Int)-(ys.length:Int)-(j:Int)-1 by omega];rfl,trivial⟩ ⟨by rfl,by rw [←Zrx O];rfl,trivial⟩
    ·refine go 7 ?_
     obtain rfl:j=xs.length-ys.length+1:=O
     have hall:∀k,k≤xs.length-ys.length→Nu xs ys k:=fun k hk=>hx k O hk
     refine Zg (Qb 4 J J pV)<|go 6 ?_
     refine Ym (d:=105) J (fun s360=>?_) (fun s360=>?_)
     ·refine go 1 ?_
      refine Ez 7 [4] (Zcu _ _ (Yaz hF hall)) fun _ _=>go 5 ?_
      refine Zc J (fun h360=>?_) (fun h360=>?_)
      ·refine go 8 ?_
       have hp:¬pdv xs ys:=fun h=>by rcases h with h | h;(exact hnx h);(rw [h.2.2]at h360;simp at h360)
       exact Mj hsc _ results226 (by rw [if_neg hp]) trivial (Kp (if_neg hp) Za)
      ·refine go 3 ?_
       refine Zg (Qb 5 J J pV)<|go 2 ?_
       refine tt (Oi (n:=8) (i:=3) (Zb6 _ _ _ (Zu1 hF hall _)) J J J K2 call165 J O3 (Zj 5 J J J Zn) J hw.h trivial) fun _ _=>go 7 ?_
       have hp:pdv xs ys:= .inr ⟨hge,hall,List.eq_nil_of_length_eq_zero O⟩
       exact Mj hsc _ results226 (by rw [if_pos hp]<;>rfl) trivial (Ob 8 Za (by rw [if_pos hp,Zjh hnx,←Zb0]<;>rfl))
     ·exfalso;exact s360 rfl
theorem Zqz(v u:Value)(xs ys:List Int)(hv:Vp xs)(hu:Vp ys)(F:Nat)(hg:¬Zmn xs ys)(hok:eok F (gA xs ys) (gB xs ys)):Cal prog 225 #[v,u] [Xc 2 wv v xs,Xc 2 wv u ys] true (G:=Value) (fun r=>True) (fun r=> .tuple #[r,.int .i64 0]) (fun r=>[Xc 2 wv r (Ou F xs ys)]):=by
 refine Zh func225 ntmps225 fun w0 sc hw hsc=>?_
 have hlen:=hv.len
 have hlen2:=hu.len
 have hm1:=Qp hv.sz
 have hm2:=Qp hu.sz
 have hpx:=Zq xs
 have hpy:=Zq ys
 have hN2:(max xs.length ys.length+2)*(max xs.length ys.length+2)≤27*27:=Nat.mul_le_mul O O
 have hN3:(max xs.length ys.length+2)*(max xs.length ys.length+2)*(max (Xz xs) (Xz ys)+8)≤27*27*65544:=Nat.mul_le_mul hN2 O
 have hN4:(max (xs.length:Int) (ys.length:Int)+2)*(max (xs.length:Int) (ys.length:Int)+2)=(((max xs.length ys.length+2)*(max xs.length ys.length+2):Nat):Int):=by rw [Int.natCast_mul,show(((max xs.length ys.length+2):Nat):Int)=(max (xs.length:Int) (ys.length:Int)+2) by omega]
 have hN5:(max (xs.length:Int) (ys.length:Int)+2)*(max (xs.length:Int) (ys.length:Int)+2)*(max (Xz xs:Int) (Xz ys:Int)+8)=(((max xs.length ys.length+2)*(max xs.length ys.length+2)*(max (Xz xs) (Xz ys)+8):Nat):Int):=by rw [hN4,Int.natCast_mul ((max xs.length ys.length+2)*(max xs.length ys.length+2)),show((max (Xz xs) (Xz ys)+8:Nat):Int)=max (Xz xs:Int) (Xz ys:Int)+8 by omega]
 refine go 10 ?_
 refine cl 2 [1] (Xl _ _ ‹_›) fun _ _=>go 3 ?_
 refine Ez 2 [2] (Xl _ _ ‹_›) fun _ _=>go 14 ?_
 refine dt (Zmv J J J)<|go 4 ⟨O,?_⟩
 refine jn (G:=Unit) [0,1] [0,1,2] (fun _=>[(46,.bool (decide (Zmn xs ys)))]) (fun _=>[]) (fun _=>True) ?_ ?_
 ·refine go 5 ?_
  refine Ym (d:=29) J (fun s371=>?_) (fun s371=>?_)
  ·refine go 5 ?_
   refine Ym (d:=34) J (fun s371_2=>?_) (fun s371_2=>?_)
   ·refine go 4 ⟨by rw [hN4];exact⟨O,O⟩,?_⟩
    refine Ez 2 [1] (Lv _ _ (by first | exact hv.sz | exact hu.sz)) fun _ _=>go 1 ?_
    refine Ez 2 [2] (Lv _ _ (by first | exact hv.sz | exact hu.sz)) fun _ _=>?_
    refine Gx (Zmv J J J) J J<|go 5 ⟨O,by rw [hN5];exact⟨O,O⟩,?_⟩
    exact Pw () trivial ⟨by first | (rw [hN5];exact congrArg some (vB (decide_eq_decide.2 ⟨fun h=>⟨O,O,O⟩,fun h=>by have:=h.2.2;omega⟩))) | exact congrArg some (vB (decide_eq_false (fun h=>by have h1:=h.1;have h2:=h.2.1;omega)).symm),trivial⟩ trivial
   ·refine go 13 ?_
    exact Pw () trivial ⟨by first | (rw [hN5];exact congrArg some (vB (decide_eq_decide.2 ⟨fun h=>⟨O,O,O⟩,fun h=>by have:=h.2.2;omega⟩))) | exact congrArg some (vB (decide_eq_false (fun h=>by have h1:=h.1;have h2:=h.2.1;omega)).symm),trivial⟩ trivial
  ·refine go 18 ?_
   exact Pw () trivial ⟨by first | (rw [hN5];exact congrArg some (vB (decide_eq_decide.2 ⟨fun h=>⟨O,O,O⟩,fun h=>by have:=h.2.2;omega⟩))) | exact congrArg some (vB (decide_eq_false (fun h=>by have h1:=h.1;have h2:=h.2.1;omega)).symm),trivial⟩ trivial
 ·rintro _ -
  refine Zc J (fun h371=>?_) (fun h371=>?_)
  ·exfalso;exact hg h371
  ·refine go 5 ?_
   refine cl 3 [1] (Mb _ _ hv) fun _ _=>go 14 ?_
   refine Zc J (fun h375=>?_) (fun h375=>?_)
   ·exfalso;exact h375 rfl
   ·refine go 5 ?_
    refine cl 4 [2] (Mb _ _ hu) fun _ _=>go 14 ?_
    refine Zc J (fun h379=>?_) (fun h379=>?_)
    ·exfalso;exact h379 rfl
    ·refine go 2 ?_
     refine jn (G:=Value×Value) [] [0,1,2,3,4] (fun q=>[(7,q.1),(9,q.2)]) (fun q=>[(80,Xc 2 wv q.1 (gA xs ys)),(81,Xc 2 wv q.2 (gB xs ys))]) (fun q=>True) ?_ ?_
     ·refine go 9 ?_
      refine Zc J (fun h382=>?_) (fun h382=>?_)
      ·refine go 6 ?_
       exact Zw (Xf 4 80 J J J)<|Zw (Xf 3 81 J J J)<|Pw (_,_) trivial K2 ⟨by unfold gA;first | rw [if_pos O];rfl | rw [if_neg O];rfl,by unfold gB;first | rw [if_pos O];rfl | rw [if_neg O];rfl,trivial⟩
      ·refine go 1 ?_
       exact Zw (Xf 3 80 J J J)<|Zw (Xf 4 81 J J J)<|Pw (_,_) trivial K2 ⟨by unfold gA;first | rw [if_pos O];rfl | rw [if_neg O];rfl,by unfold gB;first | rw [if_pos O];rfl | rw [if_neg O];rfl,trivial⟩
     ·rintro⟨va,vb⟩ -
      dsimp only
      refine go 2 ?_
      refine lp (G:=Value×Value×List Int×List Int×Nat) [] [0,1,2,3,4] (fun q=>[(7,q.1),(9,q.2.1)]) (fun q=>[(80,Xc 2 wv q.1 q.2.2.1),(81,Xc 2 wv q.2.1 q.2.2.2.1)]) (fun q=>(Vp q.2.2.1)∧(Vp q.2.2.2.1)∧(eok q.2.2.2.2 q.2.2.1 q.2.2.2.1)∧(eu q.2.2.2.2 q.2.2.1 q.2.2.2.1=eu F (gA xs ys) (gB xs ys))) (fun q=>q.2.2.2.2) (va,vb,gA xs ys,gB xs ys,F) ⟨vp_gA hv hu,vp_gB hv hu,hok,J⟩ K2 K2 ?_
      rintro⟨va,vb,a,b,f⟩ ⟨hva,hvb,hok0,heu⟩
      dsimp only at hva hvb hok0 heu
      dsimp only
      refine go 8 ?_
      refine Zc J (fun h385=>?_) (fun h385=>?_)
      ·have hbn:b≠[]:=fun e=>by rw [e]at h385;simp at h385
       obtain⟨f1,rfl,hde,hok1,heu1⟩:=Zru hok0 hbn
       refine go 7 ?_
       refine cl 5 [80,81] (Zmb _ _ _ _ hva hvb hde) fun _ _=>go 14 ?_
       refine Zc J (fun h387=>?_) (fun h387=>?_)
       ·exfalso;exact h387 rfl
       ·refine go 6 ?_
        refine cl 6 [5] (Mb _ _ (Bu hva hde)) fun _ _=>go 13 ?_
        refine Zc J (fun h390=>?_) (fun h390=>?_)
        ·exfalso;exact h390 rfl
        ·refine go 9 ?_
         exact Zw (Xf 81 80 J J J)<|Zw (Xf 6 81 J J J)<|Ys (_,_,b,Zr (Xn a b),f1) ⟨hvb,Mp (Bu hva hde),hok1,by rw [←heu1];exact heu⟩ (Nat.lt_succ_self f1) K2 K2
      ·obtain rfl:b=[]:=List.eq_nil_of_length_eq_zero O
       rw [Fl]at heu
       have hal:=hva.len
       refine go 12 ?_
       refine Ym (d:=95) J (fun s395=>?_) (fun s395=>?_)
       ·refine go 4 ⟨O,?_⟩
        refine Gx (Zx (ii:=80) (i:=(a.length-1)) J J J J Zo Lo Iw) J J<|go 1 ⟨O,?_⟩
        refine Ez 6 [] (Il _ (hva.sz _)) fun _ _=>go 4 ?_
        refine Zc J (fun h395=>?_) (fun h395=>?_)
        ·have hneg:a.length≠0∧cf a (a.length-1)<0:=⟨O,(Qe _).1 h395⟩
         refine go 3 ?_
         refine cl 6 [] (Yh (-1) (by first | assumption | exact⟨O,O⟩)) fun _ _=>cl 7 [80] (Ht _ _ (-1) hva O3 (Za4 hva.sz)) fun _ _=>go 8 ?_
         exact Mj hsc _ results225 J trivial (Ob 7 Za (by unfold Ou Ml;rw [←heu,if_pos hneg]<;>rfl))
        ·refine go 10 ?_
         have hneg:¬(a.length≠0∧cf a (a.length-1)<0):=fun h=>by first | omega | exact absurd ((Qe (cf a (a.length-1))).2 h.2) ‹_›
         exact Mj hsc _ results225 J trivial (Ob 80 Za (by unfold Ou Ml;rw [←heu,if_neg hneg]<;>rfl))
       ·refine go 22 ?_
        have hneg:¬(a.length≠0∧cf a (a.length-1)<0):=fun h=>by first | omega | exact absurd ((Qe (cf a (a.length-1))).2 h.2) ‹_›
        exact Mj hsc _ results225 J trivial (Ob 80 Za (by unfold Ou Ml;rw [←heu,if_neg hneg]<;>rfl))
theorem Znt(v:Value)(l:List Int)(hl:∀x∈l,Pr x)(hlen:l.length≤1000:=by decide):Cal prog 128 #[v] [Xc 1 Xd v l] true (G:=Value) (fun r=>True) (fun r=> .tuple #[r,.int .i64 (if 25<(tzl l).length then 7 else 0)]) (fun r=>[Xc 2 wv r (if 25<(tzl l).length then []else tzl l)]):=by
 refine Zh func128 ntmps128 fun w0 sc hw hsc=>?_
 have hsz:=Zh1 hl
 refine go 20 ?_
 refine Zg (Px 70 2 93 wv)<|lp (G:=Nat×Value) [7,8] [0,1] (fun q=>[(9,.int .i64 (q.1:Int)),(4,q.2)]) (fun q=>[(70,Ns 2 93 wv q.2 (l.take q.1))]) (fun q=>q.1≤l.length) (fun q=>l.length-q.1) (0,.slice none 0 0) O1 K2 K1 ?_
 rintro⟨k,vo⟩ hk
 dsimp only at hk
 dsimp only
 have hlk:(l.take k).length=k:=by rw [List.length_take];omega
 refine go 6 ?_
 refine Zc J (fun h62=>?_) (fun h62=>?_)
 ·refine go 14 ⟨O2,O2,?_⟩
  refine cl 1 [] (Yh _ (hl _ (Ze))) fun _ _=>?_
  refine tt (Qg (i:=2) (ivs:=[(0,_)]) (enc:=wv) [l.getD k 0] J J K2 Lo ti93 J J J J J pV.cells J J hw.h) (fun v _=>?_)
  refine tt (Lj (i:=70) (j:=2) (by_:=24) J J J J J J O3 J (Yx pV) Lo ti93 J pV J J J O8 O3 J hw.h) fun v_2 _=>go 8 ⟨O,?_⟩
  exact Ys (k+1,_) O1 O1 K2 ⟨by rw [Pz 0 _ _ O];rfl,trivial⟩
 ·refine go 6 ?_
  obtain rfl:k=l.length:=O
  rw [List.take_length]
  refine Zg (Qb 70 J J pV)<|go 2 ?_
  refine cl 3 [70] (Zcu _ _ hsz) fun _ _=>go 11 ?_
  refine Zc J (fun h66=>?_) (fun h66=>?_)
  ·refine go 8 ?_
   have h25:25<(tzl l).length:=O
   exact Mj hsc _ results128 (by rw [if_pos h25]) trivial (Kp (if_pos h25) Za)
  ·refine go 10 ?_
   have h25:¬25<(tzl l).length:=O
   exact Mj hsc _ results128 (by rw [if_neg h25]<;>rfl) trivial (Ob 3 Za (by rw [if_neg h25]<;>rfl))
end Go.Sky

