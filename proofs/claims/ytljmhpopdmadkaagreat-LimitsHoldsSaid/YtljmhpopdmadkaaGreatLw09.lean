/- Rules, arithmetic and contracts: part 10. No conditions but those that each theorem names. -/
import Derived.Test.YtljmhpopdmadkaaGreatLw08
set_option linter.all false
namespace Go.Sky
open Go.Proofs.Tryz
open Go.Proofs
set_option synthInstance.maxHeartbeats 0
set_option synthInstance.maxSize 100000
set_option maxRecDepth 20000
set_option maxHeartbeats 4000000
set_option linter.unusedSimpArgs false
theorem Zch(v:Value)(xs:List Int)(hs:Sz 65536 xs):Cal prog 162 #[v] [Ym 2 wv v xs] true (G:=Unit) (fun _=>True) (fun _=>Ld v (tzl xs).length) (fun _=>[Ym 2 wv (Ld v (tzl xs).length) (tzl xs)]):=by
 refine Zd func162 ntmps162 fun w0 sc hw hsc=>?_
 refine Nd (Zuc (i:=1) J Zo) (fun hself=>?_)
 refine Nd (Hq (i:=1) J Zo) fun hlen=>go 7 ?_
 refine lp (G:=Nat) [] [0] (fun k=>[(0,Ld v k)]) (fun k=>[(1,Ym 2 wv (Ld v k) (xs.take k))]) (fun k=>(k≤xs.length)∧(tzl (xs.take k)=tzl xs)) (fun k=>k) xs.length ⟨Nat.le_refl _,by rw [List.take_length]⟩ ⟨by rw [hself];rfl,trivial⟩ ⟨by rw [hself,List.take_length];rfl,trivial⟩ ?_
 rintro k ⟨hk,ht⟩
 have hl:(xs.take k).length=k:=by rw [List.length_take];omega
 refine go 7 ?_
 refine Yu (d:=6) J (fun s35=>?_) (fun s35=>?_)
 ·refine go 4 ⟨O,?_⟩
  refine Ly (Yf (ii:=1) (i:=k-1) J J J J Zo Nn Ke) J J<|go 1 ⟨O,?_⟩
  refine Fl 1 [] (Kl _ ((hs.take _).getD _)) fun _ _=>go 4 ?_
  refine Zc J (fun h35=>?_) (fun h35=>?_)
  ·have hstep:=Zpy hk O (Zip (k:=k) O (Int.sign_eq_zero_iff_zero.1 ‹_›):cf xs (k-1)=0)
   refine go 8 ⟨O,?_⟩
   refine dt (Zxl (ii:=1) (i:=k-1) J J J J Zo Nn Ke)<|go 3 ?_
   exact Yn (Yb2 1 1 (k-1) J J)<|Xb (k-1) ⟨O1,by rw [←ht,←hstep]⟩ O1 ⟨by rw [←Gh v k (k-1)];rfl,trivial⟩ ⟨by rw [Gh,List.take_take,Nat.min_eq_left O];rfl,trivial⟩
  ·refine go 12 ?_
   have hx:tzl xs=xs.take k:=by rw [←ht];exact Zec hk (by first | (left;omega) | (right;exact Zef (k:=k) O ‹_›))
   exact Xj hsc () results162 (by rw [hx,hl]) trivial (Mm 1 Za (by rw [hx,hl]))
 ·refine go 24 ?_
  have hx:tzl xs=xs.take k:=by rw [←ht];exact Zec hk (by first | (left;omega) | (right;exact Zef (k:=k) O ‹_›))
  exact Xj hsc () results162 (by rw [hx,hl]) trivial (Mm 1 Za (by rw [hx,hl]))
theorem Zti(v:Value)(r:List (Bool×ByteArray)):Oo prog 163 #[v] [Ym 2 Zuh v r] (.bool (okP r)):=by
 refine Zd func163 ntmps163 fun w0 sc hw hsc=>?_
 refine Nd (Hq (i:=1) J Zo) fun hlen=>go 14 ?_
 refine lp (G:=Nat) [0,5,6] [0,1] (fun k=>[(7,.int .i64 (k:Int))]) (fun k=>[]) (fun k=>(k≤r.length)∧((r.take k).all (fun w=>okW w.1 w.2)=true)) (fun k=>r.length-k) 0 ⟨O1,O5⟩ K1 trivial ?_
 rintro k ⟨hk,ha⟩
 refine go 6 ?_
 refine Zc J (fun h51=>?_) (fun h51=>?_)
 ·refine go 7 ⟨O2,?_⟩
  refine dt (Pj (ii:=1) (false,⟨#[]⟩) J J J Zo pW O2)<|Yd (Zs 2) fun b _=>go 6 ?_
  refine cl 2 [] (Ao _ _) fun _ _=>go 3 ?_
  refine Nw J (fun h52=>?_) (fun h52=>?_)
  ·refine go 11 ?_
   exact Xj hsc () results163 (by rw [Yh9 (Zf (i:=k) (d:=(false,⟨#[]⟩))) (by simp_all)]) trivial Za
  ·refine go 7 ⟨O,?_⟩
   exact Xb (k+1) ⟨O1,by rw [Pa (false,⟨#[]⟩) _ _ O,List.all_append,ha];simpa using h52⟩ O1 K1 trivial
 ·refine go 6 ?_
  obtain rfl:k=r.length:=O
  rw [List.take_length]at ha
  obtain⟨xs,hxs,rfl⟩:=Zqz (List.all_eq_true.1 ha)
  have hsz:=Sz.of_mem hxs
  rw [List.length_map]at hlen
  refine Ze (Znd 1 (q:=Ym 2 wv v xs) J J (Yhf v xs) (fun _ h=>fpn h) J)<|go 5 ?_
  refine Yu (d:=18) J (fun s56=>?_) (fun s56=>?_)
  ·refine go 4 ?_
   refine Yu (d:=22) J (fun s56_2=>?_) (fun s56_2=>?_)
   ·refine go 14 ?_
    exact Xj hsc () results163 (by rw [Zn2 hxs];first | (simp_all;done) | (simp_all;omega)) trivial Za
   ·refine go 4 ⟨O,?_⟩
    refine Ly (Yf (ii:=1) (i:=xs.length-1) J J J J Zo Nn Ke) J J<|go 1 ⟨O,?_⟩
    refine Fl 2 [] (Kl _ (hsz.getD _)) fun _ _=>go 7 ?_
    exact Xj hsc () results163 (by rw [Zn2 hxs];first | (simp_all;done) | (simp_all;omega)) trivial Za
  ·refine go 18 ?_
   exact Xj hsc () results163 (by rw [Zn2 hxs];first | (simp_all;done) | (simp_all;omega)) trivial Za
theorem Xc(v:Value)(xs:List Int)(h:Vp xs):Cal prog 163 #[v] [Ym 2 wv v xs] false (G:=Unit) (fun _=>True) (fun _=> .bool true) (fun _=>[]):=okP_wr h▸(Zti v (xs.map wr)).imp (Zs5 v xs) (fun _ h=>fpm h)
theorem Nb(v:Value)(xs:List Int)(hs:Sz 65536 xs):Oo prog 167 #[v] [Ym 2 wv v xs] (.int .i64 (Qh xs:Int)):=by
 refine Zd func167 ntmps167 fun w0 sc hw hsc=>?_
 refine Nd (Hq (i:=1) J Zo) fun hlen=>go 19 ?_
 refine lp (G:=Nat) [6,7] [0,1] (fun k=>[(8,.int .i64 (k:Int)),(3,.int .i64 (Qh (xs.take k):Int))]) (fun k=>[]) (fun k=>k≤xs.length) (fun k=>xs.length-k) 0 O1 K2 trivial ?_
 rintro k hk
 refine go 6 ?_
 refine Zc J (fun h83=>?_) (fun h83=>?_)
 ·refine go 8 ⟨O2,O2,?_⟩
  refine Yd (Zs 2) fun b _=>go 6 ?_
  refine cl 2 [] (Zih _ (hs.getD _)) fun _ _=>?_
  refine dt (Zkm J J J)<|go 8 ⟨O,?_⟩
  exact Xb (k+1) O1 O1 ⟨J,by rw [Pa 0 _ _ O,Ydo];exact congrArg some (Zbs O),trivial⟩ trivial
 ·refine go 12 ?_
  exact Xj hsc () results167 (by rw [List.take_of_length_le O]) trivial Za
theorem Zos(bd:Nat)(t:TypeId)(e e2:Int)(n:Bool)(s:ByteArray):Zgr prog 195 #[.pointer (some ⟨bd,0,none⟩),.agg #[.bool n,.string s],.int .i64 e2] [] false bd t #[.int .i64 e] (G:=Unit) (fun _=>True) (fun _=> .agg #[.bool n,.string s]) (fun _=>#[.int .i64 (if e=0 then e2 else e)]) (fun _=>[]):=by
 refine Zas func195 J ntmps195 J trivial ?_
 intro w0 sc hw hsc;have hw:=Hw.mk hw
 simp only [Po,Xx]
 refine go 2 ?_
 refine Yd (Yg 2) fun b _=>Yd (Zs 3) fun b_2 _=>go 12 ?_
 refine Zc J (fun h19=>?_) (fun h19=>?_)
 ·refine go 15 ?_
  exact Za2 (.inl J) hsc () _ (fun a w hs=>Zep hs results195 (Kb (i:=3) J J isAgg93 Ke J)) J trivial 1 J (by simp_all [Gy]) J J Za
 ·refine go 9 ?_
  exact Za2 (.inl J) hsc () _ (fun a w hs=>Zep hs results195 (Kb (i:=3) J J isAgg93 Ke J)) J trivial 1 J (by simp_all [Gy]) J J Za
theorem d_mul_(bd:Nat)(e x y:Int)(hx:bl x.natAbs≤65536)(hy:bl y.natAbs≤65536):Zgr prog 164 #[.pointer (some ⟨bd,0,none⟩),wv x,wv y] [] false bd 221 #[.int .i64 e] (G:=Unit) (fun _=>True) (fun _=>wv (Bl (x*y))) (fun _=>#[.int .i64 (err e (x*y))]) (fun _=>[]):=by
 refine Zas func164 J ntmps164 J trivial ?_
 intro w0 sc hw hsc;have hw:=Hw.mk hw
 simp only [Po,Xx]
 refine go 2 ?_
 refine Yd (Yg 2) fun b _=>Yd (Yg 3) fun b_2 _=>Yd (Zs 4) fun b_3 _=>go 3 ?_
 refine Xw (fun x=>x=bd) [(0,0),(1,0),(2,0),(3,0),(4,0),(5,1),(6,0),(7,0),(8,1),(9,3)]<|go 5 ?_
 refine Yx (Zh 4 [] (Zd6 _ _ ‹_› ‹_›)) fun _ _=>go 2 ?_
 refine Fm J (Qf (n:=4) (i:=1) (Zos _ _ _ _ _ _) J J J K3 call195 J O3 Zw J hw.h J) fun _ _=>go 4 ?_
 exact Za2 (.inl J) hsc () _ (fun a w hs=>Zep hs results164 (Kb (i:=4) J J isAgg93 Ke J)) J trivial 1 J J J J Za
theorem Fu(bd:Nat)(x y:Int)(hx:bl x.natAbs≤65536)(hy:bl y.natAbs≤65536)(hz:bl (x*y).natAbs≤65536):Zgr prog 164 #[.pointer (some ⟨bd,0,none⟩),wv x,wv y] [] false bd 221 #[.int .i64 0] (G:=Unit) (fun _=>True) (fun _=>wv (x*y)) (fun _=>#[.int .i64 0]) (fun _=>[]):=by
 have h:=d_mul_ bd 0 x y hx hy
 rw [Mr hz,Zue hz]at h;exact h
theorem d_add_(bd:Nat)(e x y:Int)(hx:bl x.natAbs≤65536)(hy:bl y.natAbs≤65536):Zgr prog 168 #[.pointer (some ⟨bd,0,none⟩),wv x,wv y] [] false bd 221 #[.int .i64 e] (G:=Unit) (fun _=>True) (fun _=>wv (Bl (x+y))) (fun _=>#[.int .i64 (err e (x+y))]) (fun _=>[]):=by
 refine Zas func168 J ntmps168 J trivial ?_
 intro w0 sc hw hsc;have hw:=Hw.mk hw
 simp only [Po,Xx]
 refine go 2 ?_
 refine Yd (Yg 2) fun b _=>Yd (Yg 3) fun b_2 _=>Yd (Zs 4) fun b_3 _=>go 3 ?_
 refine Xw (fun x=>x=bd) [(0,0),(1,0),(2,0),(3,0),(4,0),(5,1),(6,0),(7,0),(8,1),(9,3)]<|go 5 ?_
 refine Yx (Zh 4 [] (Ek _ _ ‹_› ‹_›)) fun _ _=>go 2 ?_
 refine Fm J (Qf (n:=4) (i:=1) (Zos _ _ _ _ _ _) J J J K3 call195 J O3 Zw J hw.h J) fun _ _=>go 4 ?_
 exact Za2 (.inl J) hsc () _ (fun a w hs=>Zep hs results168 (Kb (i:=4) J J isAgg93 Ke J)) J trivial 1 J J J J Za
theorem Zki(bd:Nat)(x y:Int)(hx:bl x.natAbs≤65536)(hy:bl y.natAbs≤65536)(hz:bl (x+y).natAbs≤65536):Zgr prog 168 #[.pointer (some ⟨bd,0,none⟩),wv x,wv y] [] false bd 221 #[.int .i64 0] (G:=Unit) (fun _=>True) (fun _=>wv (x+y)) (fun _=>#[.int .i64 0]) (fun _=>[]):=by
 have h:=d_add_ bd 0 x y hx hy
 rw [Mr hz,Zue hz]at h;exact h
theorem d_sub_(bd:Nat)(e x y:Int)(hx:bl x.natAbs≤65536)(hy:bl y.natAbs≤65536):Zgr prog 170 #[.pointer (some ⟨bd,0,none⟩),wv x,wv y] [] false bd 221 #[.int .i64 e] (G:=Unit) (fun _=>True) (fun _=>wv (Bl (x-y))) (fun _=>#[.int .i64 (err e (x-y))]) (fun _=>[]):=by
 refine Zas func170 J ntmps170 J trivial ?_
 intro w0 sc hw hsc;have hw:=Hw.mk hw
 simp only [Po,Xx]
 refine go 2 ?_
 refine Yd (Yg 2) fun b _=>Yd (Yg 3) fun b_2 _=>Yd (Zs 4) fun b_3 _=>go 3 ?_
 refine Xw (fun x=>x=bd) [(0,0),(1,0),(2,0),(3,0),(4,0),(5,1),(6,0),(7,0),(8,1),(9,3)]<|go 5 ?_
 refine Yx (Zh 4 [] (Yao _ _ ‹_› ‹_›)) fun _ _=>go 2 ?_
 refine Fm J (Qf (n:=4) (i:=1) (Zos _ _ _ _ _ _) J J J K3 call195 J O3 Zw J hw.h J) fun _ _=>go 4 ?_
 exact Za2 (.inl J) hsc () _ (fun a w hs=>Zep hs results170 (Kb (i:=4) J J isAgg93 Ke J)) J trivial 1 J J J J Za
theorem Zuj(bd:Nat)(x y:Int)(hx:bl x.natAbs≤65536)(hy:bl y.natAbs≤65536)(hz:bl (x-y).natAbs≤65536):Zgr prog 170 #[.pointer (some ⟨bd,0,none⟩),wv x,wv y] [] false bd 221 #[.int .i64 0] (G:=Unit) (fun _=>True) (fun _=>wv (x-y)) (fun _=>#[.int .i64 0]) (fun _=>[]):=by
 have h:=d_sub_ bd 0 x y hx hy
 rw [Mr hz,Zue hz]at h;exact h
theorem Yfl(bd:Nat)(v:Value)(xs:List Int)(hs:Sz 65536 xs):Cal prog 165 #[.pointer (some ⟨bd,0,none⟩),v] [Kr bd 221 #[.int .i64 0],Ym 2 wv v xs] true (G:=Unit) (fun _=>True) (fun _=> .tuple #[Ld v (tzl xs).length,.int .i64 0]) (fun _=>[Ym 2 wv (Ld v (tzl xs).length) (tzl xs)]):=by
 refine Zd func165 ntmps165 fun w0 sc hw hsc=>go 17 ?_
 refine Zc J (fun h43=>?_) (fun h43=>?_)
 ·exfalso;simp_all
 ·refine go 5 ?_
  refine cl 3 [2] (Zch _ _ ‹_›) fun _ _=>go 5 ?_
  exact Nz hsc () results165 J trivial (Mm 3 Za)
theorem Ic(v:Value)(xs:List Int)(c:Int)(hv:Vp xs)(hc:bl c.natAbs≤65536)(hz:∀i,bl (cf xs i*c).natAbs≤65536):Cal prog 130 #[v,wv c] [Ym 2 wv v xs] true (G:=Value) (fun r=>True) (fun r=> .tuple #[r,.int .i64 0]) (fun r=>[Ym 2 wv r (Yb xs c)]):=by
 refine Zd func130 ntmps130 fun w0 sc hw hsc=>?_
 have hlen:=hv.len
 refine go 2 ?_
 refine Yd (Yg 2) fun b _=>go 8 ?_
 refine cl 2 [1] (Xc _ _ ‹_›) fun _ _=>go 3 ?_
 refine Fl 2 [] (Lb _ ‹_›) fun _ _=>go 9 ?_
 refine Yd (Zs 3) fun b_2 _=>go 6 ?_
 refine tt (Gf (i:=4) (n:=_) (by_:=24) (enc:=wv) 0 J J J J Nn ti93 J pV.cells pV.pos J J J hw.h J J) J fun v _=>go 12 ?_
 refine lp (G:=Nat) [3,6,7,21,22] [0,1,2,3] (fun k=>[(23,.int .i64 (k:Int))]) (fun k=>[(4,Ma 2 93 wv v (fill xs.length k (fun i=>cf xs i*c)))]) (fun k=>k≤xs.length) (fun k=>xs.length-k) 0 O1 K1 ⟨by rw [Du xs.length (fun i=>cf xs i*c)];rfl,trivial⟩ ?_
 rintro k hk
 refine go 6 ?_
 refine Zc J (fun h159=>?_) (fun h159=>?_)
 ·refine go 9 ⟨O2,O2,?_⟩
  refine Yd (Zs 5) fun b_3 _=>go 9 ?_
  refine tt (Qf (n:=5) (i:=3) (Fu _ _ _ (hv.sz.getD _) hc (hz _)) J J J K3 call164 J O3 Zw J hw.h trivial) J (fun _ _=>?_)
  refine dt (Yf (ii:=4) (i:=k) J J J J (Xa pV) Nn Ke J (by rw [Qi];omega))<|tt (Mx (i:=4) (enc:=wv) _ J J J J J J pV J hw.h O3 (by rw [Qi];omega)) J fun _ _=>go 7 ⟨O,?_⟩
  exact Xb (k+1) O1 O1 K1 ⟨by rw [←Zbu O];rfl,trivial⟩
 ·refine go 6 ?_
  obtain rfl:k=xs.length:=O
  refine Ze (Pf 4 J J pV)<|Ze (Zdi 3 J J)<|go 2 ?_
  refine cl 6 [3,4] (Yfl _ _ _ (by rw [Gz];exact Zc7 fun i _=>hz i)) fun _ _=>go 7 ?_
  exact Nz hsc _ results130 J trivial (Mm 6 Za (by rw [Zza]<;>rfl))
theorem Ep(v:Value)(xs:List Int)(hv:Vp xs)(hz:∀i,bl (cf xs (i+1)*((i:Int)+1)).natAbs≤65536):Cal prog 129 #[v] [Ym 2 wv v xs] true (G:=Value) (fun r=>True) (fun r=> .tuple #[r,.int .i64 0]) (fun r=>[Ym 2 wv r (Yo xs)]):=by
 refine Zd func129 ntmps129 fun w0 sc hw hsc=>?_
 have hlen:=hv.len
 refine go 10 ?_
 refine cl 1 [1] (Xc _ _ ‹_›) fun _ _=>go 14 ?_
 refine Zc J (fun h170=>?_) (fun h170=>?_)
 ·refine go 8 ?_
  exact Nz hsc _ results129 J trivial (Mi (Yc2 O) Za)
 ·refine go 4 ?_
  refine Yd (Zs 2) fun b _=>go 7 ⟨O,?_⟩
  refine tt (Gf (i:=3) (n:=(xs.length-1)) (by_:=24) (enc:=wv) 0 J J J J Nn ti93 J pV.cells pV.pos J J J hw.h) J fun v _=>go 12 ?_
  refine lp (G:=Nat) [0,4,5,18] [0,1,2] (fun k=>[(19,.int .i64 (k:Int))]) (fun k=>[(3,Ma 2 93 wv v (fill (xs.length-1) k (fun i=>cf xs (i+1)*((i:Int)+1))))]) (fun k=>k≤xs.length-1) (fun k=>xs.length-1-k) 0 O1 K1 ⟨by rw [Du (xs.length-1) (fun i=>cf xs (i+1)*((i:Int)+1))];rfl,trivial⟩ ?_
  rintro k hk
  have hlf:(fill (xs.length-1) k (fun i=>cf xs (i+1)*((i:Int)+1))).length=xs.length-1:=Qi _ _ _
  refine go 6 ?_
  refine Zc J (fun h175=>?_) (fun h175=>?_)
  ·try rw [List.length_replicate]at *
   refine go 10 ?_
   refine Xw (fun x=>x=b) [(0,0),(1,0),(2,0),(3,0),(4,0),(5,0),(6,0),(7,0),(8,0),(9,1),(10,1),(11,0),(12,3)]<|go 5 ⟨O,?_⟩
   refine Qe J J (st1 2 J (Yf (ii:=1) (i:=k+1) J J J J Zo Nn Ke))<|go 3 ⟨O,O,?_⟩
   refine Yx (Zh 3 [] (Zp _ (by first | assumption | exact⟨O,O⟩))) fun _ _=>?_
   refine Fm J (Qf (n:=3) (i:=2) (Fu _ (cf xs (k+1)) ((k:Int)+1) (hv.sz _) (Nat.le_trans (Ps (n:=32) O) O3) (hz k)) J J J K3 call164 J O3 Zw J hw.h J) (fun _ _=>?_)
   refine Qe J J (st1 2 J (Yf (ii:=3) (i:=k) J J J J (Xa pV) Nn Ke J (by rw [Qi];omega)))<|r3' J (Mx (i:=3) (enc:=wv) _ J J J J J J pV J hw.h O3 (by rw [Qi];omega)) fun _ _=>go 7 ⟨O,?_⟩
   exact Xb (k+1) O1 O1 K1 ⟨by rw [←Zbu O];rfl,trivial⟩
  ·try rw [List.length_replicate]at *
   refine go 6 ?_
   obtain rfl:k=xs.length-1:=O
   refine Ze (Pf 3 J J pV)<|Ze (Zdi 2 J J)<|go 2 ?_
   refine cl 4 [2,3] (Yfl _ _ _ (by rw [Gz];exact Zc7 fun i _=>hz i)) fun _ _=>go 7 ?_
   exact Nz hsc _ results129 J trivial (Mm 4 Za (by rw [Yh3 hv.tr]<;>rfl))
theorem Znu(v:Value)(xs:List Int)(hv:Vp xs):Oo prog 171 #[v] [Ym 2 wv v xs] (.tuple #[wv (Ys xs),.int .i64 0]):=by
 refine Zd func171 ntmps171 fun w0 sc hw hsc=>?_
 have hlen:=hv.len
 have hcb:∀k,bl (Ys (xs.take k)).natAbs≤65536:=fun k=>Zqw _ (hv.sz.take k)
 refine go 2 ?_
 refine Yd (Zs 2) fun b _=>go 7 ?_
 refine cl 2 [1] (Xc _ _ ‹_›) fun _ _=>go 8 ?_
 refine Yd (Zs 3) fun b_2 _=>go 4 ?_
 refine Yd (Zs 4) fun b_3 _=>go 11 ?_
 refine lp (G:=Nat) [2,4,5,12,13] [0,1,2] (fun k=>[(14,.int .i64 (k:Int))]) (fun k=>[(4,box b_3 93 #[.bool (decide (Ys (xs.take k)<0)),.string (Xp (Ys (xs.take k)).natAbs)]),(3,box b_2 221 #[.int .i64 0])]) (fun k=>k≤xs.length) (fun k=>xs.length-k) 0 O1 K1 K2 ?_
 rintro k hk
 have hgc:=fun h=>Kj (p:=xs) (k:=k) h
 refine go 6 ?_
 refine Zc J (fun h264=>?_) (fun h264=>?_)
 ·refine go 8 ⟨O2,O2,?_⟩
  refine Yd (Zs 5) fun b_4 _=>go 7 ?_
  refine cl 5 [] (Zpu (Ys (xs.take k)) (xs.getD k 0) (hcb _) (hv.sz.getD _)) fun _ _=>go 2 ?_
  refine tt (Qf (n:=5) (i:=3) (Zos _ _ _ _ _ _) J J J K3 call195 J O3 Zw J hw.h trivial) J fun _ _=>go 8 ⟨O,?_⟩
  have hc1:=hcb (k+1)
  rw [hgc O]at hc1
  exact Xb (k+1) O1 O1 K1 ⟨by rw [hgc O];simp only [Mr hc1];rfl,by simp only [Zol hc1];rfl,trivial⟩
 ·refine go 6 ?_
  refine Mq [3,4] [5]<|Zm (n:=0) [(0,0),(1,0),(2,0),(3,0),(4,1),(5,3)]<|go 7 ?_
  refine Zy<|go 2 ?_
  exact Nz hsc () results171 (by rw [show k=xs.length by omega,List.take_length]<;>rfl) trivial Za
theorem Zlf(v:Value)(xs:List Int)(c:Int)(hv:Sz 65536 xs)(hlen:xs.length≤1000)(hc:bl c.natAbs≤65536)(hd:∀i,c∣cf xs i)(hc0:xs≠[]→c≠0):Cal prog 172 #[v,wv c] [Ym 2 wv v xs] true (G:=Value) (fun r=>True) (fun r=> .tuple #[r,.int .i64 0]) (fun r=>[Ym 2 wv r (xs.map (· / c))]):=by
 refine Zd func172 ntmps172 fun w0 sc hw hsc=>go 2 ?_
 refine Yd (Yg 2) fun b _=>go 8 ?_
 refine tt (Gf (i:=3) (n:=_) (by_:=24) (enc:=wv) 0 J J J J Nn ti93 J pV.cells pV.pos J J J hw.h J J) J fun v _=>go 12 ?_
 refine lp (G:=Nat) [3,6,15,16] [0,1,2] (fun k=>[(17,.int .i64 (k:Int))]) (fun k=>[(3,Ma 2 93 wv v (fill xs.length k (fun i=>cf xs i/c)))]) (fun k=>k≤xs.length) (fun k=>xs.length-k) 0 O1 K1 ⟨by rw [Du xs.length (fun i=>cf xs i/c)];rfl,trivial⟩ ?_
 rintro k hk
 have hcl:Bl (xs.getD k 0/c)=cf xs k/c:=Mr (Zan (hd k) (hv k))
 refine go 6 ?_
 refine Zc J (fun h273=>?_) (fun h273=>?_)
 ·refine go 9 ⟨O2,O2,?_⟩
  refine Yd (Zs 4) fun b_2 _=>go 8 ?_
  refine cl 4 [] (Dx _ _ (hv.getD _) hc (hc0 (by intro e;rw [e]at h273;simp at h273;omega))) fun _ _=>go 4 ?_
  refine Yd (Zs 5) fun b_3 _=>Yd (Zs 6) fun b_4 _=>go 12 ?_
  refine Zc J (fun h275=>?_) (fun h275=>?_)
  ·exfalso;simp_all
  ·refine go 6 ?_
   refine dt (Yf (ii:=3) (i:=k) J J J J (Xa pV) Nn Ke J (by rw [Qi];omega))<|tt (Mx (i:=3) (enc:=wv) _ J J J J J J pV J hw.h O3 (by rw [Qi];omega)) J fun _ _=>go 7 ⟨O,?_⟩
   exact Xb (k+1) O1 O1 K1 ⟨by rw [←Zbu O];simp only [hcl];rfl,trivial⟩
 ·refine go 13 ?_
  obtain rfl:k=xs.length:=O
  exact Nz hsc _ results172 J trivial (gow 3 Za (by rw [Gz,Ydp xs (· / c)]<;>rfl))
theorem Nq(v:Value)(xs:List Int)(hv:Vp xs):Cal prog 134 #[v] [Ym 2 wv v xs] true (G:=Value) (fun r=>True) (fun r=> .tuple #[r,.int .i64 0]) (fun r=>[Ym 2 wv r (Zu xs)]):=by
 refine Zd func134 ntmps134 fun w0 sc hw hsc=>?_
 have hlen:=hv.len
 refine go 9 ?_
 refine cl 1 [1] (Znu _ _ ‹_›) fun _ _=>go 3 ?_
 refine Yd (Zs 2) fun b _=>go 11 ?_
 refine Zc J (fun h286=>?_) (fun h286=>?_)
 ·exfalso;simp_all
 ·refine go 6 ?_
  refine cl 3 [1] (Zlf _ _ _ hv.sz O (Zqw _ hv.sz) (Mh _) hv.ne) fun _ _=>go 7 ?_
  exact Nz hsc _ results134 J trivial (Mm 3 Za J)
theorem Zzd(v:Value)(xs:List Int)(x y:Int)(hv:Vp xs)(hx:bl x.natAbs≤65536)(hy:bl y.natAbs≤65536)(hy0:0<y):Oo prog 247 #[v,rX x y] [Ym 2 wv v xs] (.tuple #[wv (evv xs x y),.int .i64 (eve xs x y)]):=by
 refine Zd func247 ntmps247 fun w0 sc hw hsc=>?_
 have hlen:=hv.len
 refine go 2 ?_
 refine Yd (Yg 2) fun b _=>Yd (Zs 3) fun b_2 _=>go 7 ?_
 refine cl 3 [1] (Xc _ _ ‹_›) fun _ _=>go 3 ?_
 refine Fl 3 [] (Mn _ _ ‹_› ‹_› ‹_›) fun _ _=>go 15 ?_
 refine Zc J (fun h186=>?_) (fun h186=>?_)
 ·refine go 2 ?_
  refine dt (Xl (ivs:=[]) J trivial (fun a w hs=>b93_))<|go 6 ?_
  exact Nz hsc () results247 (by rw [List.eq_nil_of_length_eq_zero (l:=xs) O];rfl) trivial Za
 ·have hne:xs≠[]:=fun e=>by rw [e]at h186;simp at h186
  have hm1:=Qz hv.sz
  have hsxy:Sz 65536 [x,y]:=Sz.of_mem (by intro z hz;simp at hz;rcases hz with rfl | rfl<;>assumption)
  have hm2:=Qz hsxy
  have hm3:(xs.length-1)*Qh [x,y]≤24*65536:=Nat.mul_le_mul O hm2
  have hm4:((xs.length:Int)-1)*(Qh [x,y]:Int)=(((xs.length-1)*Qh [x,y]:Nat):Int):=by rw [Int.natCast_mul];congr 1;omega
  refine go 3 ?_
  refine jn (G:=Unit) [0,3,4] [0,1,2,3] (fun _=>[(37,.bool (decide ((65536:Int)<(Qh xs:Int)+((xs.length:Int)-1)*(Qh [x,y]:Int)+8)))]) (fun _=>[]) (fun _=>True) ?_ ?_
  ·refine Ec (fun _=>False) []<|Zm (n:=7) [(0,0),(2,0),(3,0),(4,0),(5,0),(6,0),(7,0),(8,0)]<|go 9 ⟨O,?_⟩
   refine Qq (n:=6) 1 9 ?_ ?_
   ·refine Ny (Zh 3 [1] (Nb _ _ (by first | exact hv.sz | exact hsxy))) fun _ _=>?_
    refine Zm (n:=0) [(9,1),(10,1),(11,0),(12,0),(13,0),(14,0)]<|Fm J (Qd (i:=90) (ivs:=[(0,_),(1,_)]) (enc:=wv) [x,y] J J K4 Ygy ti93 J J J J J pV.cells J J hw.h) fun v _=>Yx (Zh 3 [90] (Nb _ _ (by first | exact hv.sz | exact hsxy))) fun _ _=>go 5 ⟨by rw [hm4];exact⟨O,O⟩,by rw [hm4];exact⟨O,O⟩,by rw [hm4];exact⟨O,O⟩,?_⟩
    exact Zy<|Qu () trivial K1 trivial
   ·refine Hd J (Qd (i:=90) (ivs:=[(0,_),(1,_)]) (enc:=wv) [x,y] J J K4 Ygy ti93 J J J J J pV.cells J J hw.h) (fun v_2 _=>?_)
    refine Zm (n:=0) [(1,1),(10,1),(11,0),(12,0),(13,0),(14,0)]<|Yx (Zh 3 [1] (Nb _ _ (by first | exact hv.sz | exact hsxy))) fun _ _=>Yx (Zh 3 [90] (Nb _ _ (by first | exact hv.sz | exact hsxy))) fun _ _=>go 5 ⟨by rw [hm4];exact⟨O,O⟩,by rw [hm4];exact⟨O,O⟩,by rw [hm4];exact⟨O,O⟩,?_⟩
    exact Zy<|Qu () trivial K1 trivial
  ·rintro _ -
   refine Zc J (fun h189=>?_) (fun h189=>?_)
   ·have hE:Lg xs x y:=⟨hne,by rw [hm4]at h189;omega⟩
    refine go 2 ?_
    refine dt (Xl (ivs:=[]) J trivial (fun a w hs=>b93_))<|go 6 ?_
    exact Nz hsc () results247 (by unfold evv eve;rw [if_pos hE,if_pos hE]<;>rfl) trivial Za
   ·have hF:Qh xs+(xs.length-1)*Qh [x,y]+8≤65536:=by rw [hm4]at h189;omega
    refine go 4 ?_
    refine Yd (Zs 4) fun b_3 _=>go 2 ?_
    refine jn (G:=Nat×Nat) [0,3,4,6] [0,1,2,3,4] (fun q=>[(7,.pointer (some ⟨q.1,0,none⟩)),(8,.pointer (some ⟨q.2,0,none⟩))]) (fun q=>[(97,box q.1 93 (wc (xs.getD (xs.length-1) 0))),(98,box q.2 93 (wc 1))]) (fun q=>True) ?_ ?_
    ·refine Ec (fun _=>False) [9,10]<|Zm (n:=5) [(0,0),(1,0),(2,0),(3,0),(4,0),(5,0)]<|go 4 ⟨O,?_⟩
     refine Qe J J (Qa (Yf (ii:=1) (i:=(xs.length-1)) J J J J Zo Nn Ke))<|go 2 ⟨O,?_⟩
     refine Zk4 (n:=4) 6 7 8 ?_ ?_ ?_
     ·refine Ny (Zh 4 [] (Zp _ (by first | assumption | exact⟨O,O⟩))) fun _ _=>?_
      refine Qq (n:=3) 7 8 ?_ ?_
      ·refine Ny (Zs 97) fun b_4 _=>?_
       refine Zm (n:=0) [(8,1),(9,3),(10,3)]<|Yx (Zs 98) fun b_5 _=>go 3 ?_
       exact Zy<|Qu (_,_) trivial K2 K2
      ·refine Ny (Zs 98) fun b_6 _=>?_
       refine Zm (n:=0) [(7,1),(9,3),(10,3)]<|Yx (Zs 97) fun b_7 _=>go 3 ?_
       exact Zy<|Qu (_,_) trivial K2 K2
     ·refine Ny (Zs 97) fun b_8 _=>?_
      refine Qq (n:=3) 6 8 ?_ ?_
      ·refine Ny (Zh 4 [] (Zp _ (by first | assumption | exact⟨O,O⟩))) fun _ _=>?_
       refine Zm (n:=0) [(8,1),(9,3),(10,3)]<|Yx (Zs 98) fun b_9 _=>go 3 ?_
       exact Zy<|Qu (_,_) trivial K2 K2
      ·refine Ny (Zs 98) fun b_10 _=>?_
       refine Zm (n:=0) [(6,1),(9,3),(10,3)]<|Yx (Zh 4 [] (Zp _ (by first | assumption | exact⟨O,O⟩))) fun _ _=>go 3 ?_
       exact Zy<|Qu (_,_) trivial K2 K2
     ·refine Ny (Zs 98) fun b_11 _=>?_
      refine Qq (n:=3) 6 7 ?_ ?_
      ·refine Ny (Zh 4 [] (Zp _ (by first | assumption | exact⟨O,O⟩))) fun _ _=>?_
       refine Zm (n:=0) [(7,1),(9,3),(10,3)]<|Yx (Zs 97) fun b_12 _=>go 3 ?_
       exact Zy<|Qu (_,_) trivial K2 K2
      ·refine Ny (Zs 97) fun b_13 _=>?_
       refine Zm (n:=0) [(6,1),(9,3),(10,3)]<|Yx (Zh 4 [] (Zp _ (by first | assumption | exact⟨O,O⟩))) fun _ _=>go 3 ?_
       exact Zy<|Qu (_,_) trivial K2 K2
    ·rintro⟨b7,b8⟩ -
     dsimp only
     refine go 10 ⟨O,?_⟩
     refine lp (G:=Nat) [0,3,4,6,7,8] [0,1,2,3,4] (fun k=>[(9,.int .i64 ((k:Int)-1))]) (fun k=>[(97,box b7 93 (wc (Lp xs x y k))),(98,box b8 93 (wc (y^(xs.length-1-k))))]) (fun k=>k≤xs.length-1) (fun k=>k) (xs.length-1) O1 ⟨by rw [show((xs.length-1:Nat):Int)-1=(xs.length:Int)-2 by omega];rfl,trivial⟩ ⟨by rw [Yi0 x y O];rfl,by rw [Nat.sub_self,Int.pow_zero];rfl,trivial⟩ ?_
     rintro k hk
     refine go 7 ?_
     refine Zc J (fun h194=>?_) (fun h194=>?_)
     ·have hpw:y^(xs.length-1-k)*y=y^(xs.length-1-(k-1)):=Ycq y O hk
      have hst:Lp xs x y k*x+xs.getD (k-1) 0*y^(xs.length-1-(k-1))=Lp xs x y (k-1):=Zz1 x y O hk
      refine go 9 ?_
      refine tt (Qf (n:=4) (i:=4) (Fu _ _ _ (Zou hF) hy (by rw [hpw];exact Zou hF)) J J J K3 call164 J O3 Zw J hw.h trivial) J fun _ _=>go 3 ?_
      refine Xw (fun x=>x=b_3) [(0,0),(1,0),(2,0),(4,0),(5,0),(6,0),(7,0),(8,0),(3,1),(9,1),(10,1),(11,3)]<|go 5 ?_
      refine Qe J J (st1 4 J (Yf (ii:=1) (i:=(k-1)) J J J J Zo Nn Ke))<|go 2 ⟨O,?_⟩
      refine Fm J (Qf (n:=4) (i:=4) (Fu _ _ _ (by first | exact Zov hF hlen _ | exact hv.sz.getD _) (by first | exact hx | (rw [hpw];exact Zou hF)) (by first | exact Zud hF hlen O hk | (rw [hpw];exact Zot hF))) J J J K3 call164 J O3 Zw J hw.h J) (fun _ _=>?_)
      refine Fm J (Qf (n:=4) (i:=4) (Fu _ _ _ (by first | exact Zov hF hlen _ | exact hv.sz.getD _) (by first | exact hx | (rw [hpw];exact Zou hF)) (by first | exact Zud hF hlen O hk | (rw [hpw];exact Zot hF))) J J J K3 call164 J O3 Zw J hw.h J) (fun _ _=>?_)
      refine Fm J (Qf (n:=4) (i:=4) (Zki _ _ _ (Zud hF hlen O hk) (by rw [hpw];exact Zot hF) (by rw [hpw,hst];exact Zov hF hlen _)) J J J K3 call168 J O3 Zw J hw.h J) fun _ _=>go 9 ⟨O,?_⟩
      exact Xb (k-1) O1 O1 ⟨by rw [show((k-1:Nat):Int)-1=(k:Int)-1-1 by omega];rfl,trivial⟩ ⟨by rw [hpw,hst];rfl,by rw [hpw];rfl,trivial⟩
     ·refine go 14 ?_
      refine Zc J (fun h198=>?_) (fun h198=>?_)
      ·exfalso;simp_all
      ·refine go 10 ?_
       obtain rfl:k=0:=O
       have hE:¬Lg xs x y:=fun h=>by have:=h.2;omega
       exact Nz hsc () results247 (by unfold evv eve;rw [if_neg hE,if_neg hE,←Zri]<;>rfl) trivial Za
theorem Zqs(v:Value)(xs:List Int)(x y:Int)(hv:Vp xs)(hx:bl x.natAbs≤65536)(hy:bl y.natAbs≤65536)(hy0:0<y):Oo prog 230 #[v,rX x y] [Ym 2 wv v xs] (.tuple #[.int .i64 (evv xs x y).sign,.int .i64 (eve xs x y)]):=by
 refine Zd func230 ntmps230 fun w0 sc hw hsc=>?_
 have hlen:=hv.len
 refine go 2 ?_
 refine Yd (Yg 2) fun b _=>go 8 ?_
 refine cl 2 [1] (Zzd _ _ _ _ hv hx hy hy0) fun _ _=>go 3 ?_
 refine Yd (Zs 3) fun b_2 _=>go 7 ?_
 refine cl 3 [] (Kl _ (evv_bl hlen)) fun _ _=>go 6 ?_
 exact Nz hsc () results230 J trivial Za
theorem Ag(bd:Nat)(v:Value)(xs:List Int)(hs:Sz 65536 xs):Zgr prog 165 #[.pointer (some ⟨bd,0,none⟩),v] [Ym 2 wv v xs] true bd 221 #[.int .i64 0] (G:=Unit) (fun _=>True) (fun _=> .tuple #[Ld v (tzl xs).length,.int .i64 0]) (fun _=>#[.int .i64 0]) (fun _=>[Ym 2 wv (Ld v (tzl xs).length) (tzl xs)]):=by
 refine Zas func165 J ntmps165 J K1 ?_
 intro w0 sc hw hsc;have hw:=Hw.mk hw
 simp only [Po,Xx]
 refine go 17 ?_
 refine Zc J (fun h43=>?_) (fun h43=>?_)
 ·exfalso;simp_all
 ·refine go 5 ?_
  refine cl 3 [2] (Zch _ _ ‹_›) fun _ _=>go 5 ?_
  exact Za2 (.inl J) hsc () _ (fun a w hs=>Zte hs results165 J J) J trivial 1 J J J J (Iz 3 J J J Za)
theorem Zxv(v:Value)(xs:List Int)(hx:xs.length*24≤140737488355328:=by omega):Ykk prog 244 #[v] [Ym 2 wv v xs] (G:=Value) (fun r=>True) (fun r=>r) (fun r=>Ma 2 93 wv r xs):=by
 refine Zx3 func244 J ntmps244 J K1 ?_
 intro w0 sc hw hsc;have hw:=Hw.mk hw
 simp only [Po,Xx]
 refine Nd (f_nil (i:=1) J Zo) fun hnil=>go 9 ?_
 refine dt (Zxn J J J (i:=1) J Zo Nn)<|go 2 ?_
 refine Nw J (fun h357=>?_) (fun h357=>?_)
 ·refine go 7 ?_
  obtain rfl:xs=[]:=hnil (by simpa using h357)
  exact Yn (Np 9 2 93 wv)<|Zm3 (.inl J) (.slice none 0 0) _ (fun a w hs=>Zep hs results244 J) J trivial J 9 J J J
 ·refine go 4 ?_
  refine tt (t_bs0 (i:=2) (enc:=wv) J J J Nn pV J hw.h) J fun v _=>go 1 ?_
  refine tt (Kq (i:=2) (j:=1) (by_:=24) J J J J J J O3 J Zo Nn ti93 J pV J J J O8 O3 J hw.h) J fun v_2 _=>go 4 ?_
  exact Zm3 (.inl J) _ _ (fun a w hs=>Zep hs results244 J) J trivial J 2 J (by rfl) J
theorem Zg5(v:Value)(xs:List Int)(hv:Vp xs):Oo prog 238 #[v] [Ym 2 wv v xs] (.tuple #[.int .i64 ((xs.length:Int)-1),.int .i64 0]):=by
 refine Zd func238 ntmps238 fun w0 sc hw hsc=>?_
 have hlen:=hv.len
 refine go 10 ?_
 refine cl 1 [1] (Xc _ _ ‹_›) fun _ _=>go 16 ⟨O,?_⟩
 exact Nz hsc () results238 J trivial Za
theorem Zmc(v:Value)(xs:List Int)(hv:Vp xs):Oo prog 239 #[v] [Ym 2 wv v xs] (.tuple #[.int .i64 (Qh xs:Int),.int .i64 0]):=by
 refine Zd func239 ntmps239 fun w0 sc hw hsc=>go 10 ?_
 refine cl 1 [1] (Xc _ _ ‹_›) fun _ _=>go 9 ?_
 refine cl 1 [1] (Nb _ _ hv.sz) fun _ _=>go 5 ?_
 exact Nz hsc () results239 J trivial Za
theorem Zr9(bd:Nat)(v u:Value)(xs ys:List Int)(hv:Vp xs)(hu:Vp ys)(hz:∀i,bl (cf xs i+cf ys i).natAbs≤65536):Zgr prog 169 #[v,u,.pointer (some ⟨bd,0,none⟩),.func (.func 168) #[.pointer (some ⟨bd,0,none⟩)] #[]] [Ym 2 wv v xs,Ym 2 wv u ys] true bd 221 #[.int .i64 0] (G:=Value) (fun r=>True) (fun r=> .tuple #[r,.int .i64 0]) (fun r=>#[.int .i64 0]) (fun r=>[Ym 2 wv r (Ct xs ys)]):=by
 refine Zas func169 J ntmps169 J K2 ?_
 intro w0 sc hw hsc;have hw:=Hw.mk hw
 simp only [Po,Xx]
 have hlen:=hv.len
 have hlen2:=hu.len
 refine go 10 ?_
 refine cl 3 [2] (Xc _ _ ‹_›) fun _ _=>go 3 ?_
 refine Fl 3 [3] (Xc _ _ ‹_›) fun _ _=>go 13 ?_
 refine dt (Zkm J J J)<|tt (Gf (i:=4) (n:=(max xs.length ys.length)) (by_:=24) (enc:=wv) 0 J J J J Nn ti93 J pV.cells pV.pos J J J hw.h) J fun v _=>go 12 ?_
 refine lp (G:=Nat) [0,1,2,3,10,29] [0,1,2,3] (fun k=>[(30,.int .i64 (k:Int))]) (fun k=>[(4,Ma 2 93 wv v (fill (max xs.length ys.length) k (fun i=>cf xs i+cf ys i)))]) (fun k=>k≤max xs.length ys.length) (fun k=>max xs.length ys.length-k) 0 O1 K1 ⟨by rw [Du (max xs.length ys.length) (fun i=>cf xs i+cf ys i)];rfl,trivial⟩ ?_
 rintro k hk
 have hlf:(fill (max xs.length ys.length) k (fun i=>cf xs i+cf ys i)).length=max xs.length ys.length:=Qi _ _ _
 refine go 6 ?_
 refine Zc J (fun h106=>?_) (fun h106=>?_)
 ·try rw [List.length_replicate]at *
  refine go 12 ?_
  refine Yd (Zs 5) fun b _=>Yd (Zs 6) fun b_2 _=>go 2 ?_
  refine jn (G:=Unit) [0,1,2,3,10,11,12,13,29,30] [0,4,1,2,3,6] (fun _=>[]) (fun _=>[(5,box b 93 (wc (cf xs k)))]) (fun _=>True) ?_ ?_
  ·refine go 8 ?_
   refine Zc J (fun h108=>?_) (fun h108=>?_)
   ·refine go 7 ⟨O2,O2,?_⟩
    exact Qu () trivial trivial ⟨by first | rfl | (rw [Yj (p:=xs) O];rfl),trivial⟩
   ·refine go 1 ?_
    exact Qu () trivial trivial ⟨by first | rfl | (rw [Yj (p:=xs) O];rfl),trivial⟩
  ·rintro _ -
   refine jn (G:=Unit) [0,1,2,3,10,11,12,13,29,30] [0,5,4,1,2,3] (fun _=>[]) (fun _=>[(6,box b_2 93 (wc (cf ys k)))]) (fun _=>True) ?_ ?_
   ·refine go 8 ?_
    refine Zc J (fun h111=>?_) (fun h111=>?_)
    ·refine go 7 ⟨O2,O2,?_⟩
     exact Qu () trivial trivial ⟨by first | rfl | (rw [Yj (p:=ys) O];rfl),trivial⟩
    ·refine go 1 ?_
     exact Qu () trivial trivial ⟨by first | rfl | (rw [Yj (p:=ys) O];rfl),trivial⟩
   ·rintro _ -
    refine go 6 ?_
    refine tt (Zp1 (n:=6) (i:=1) (fs:=[_]) (vs:=[_,_]) (Zki _ _ _ (hv.sz _) (hu.sz _) (hz _)) J J J J K2 call168 J O3 Zw J hw.h trivial) J (fun _ _=>?_)
    refine dt (Yf (ii:=4) (i:=k) J J J J (Xa pV) Nn Ke J (by rw [Qi];omega))<|tt (Mx (i:=4) (enc:=wv) _ J J J J J J pV J hw.h O3 (by rw [Qi];omega)) J fun _ _=>go 7 ⟨O,?_⟩
    exact Xb (k+1) O1 O1 K1 ⟨by rw [←Zbu O];rfl,trivial⟩
 ·try rw [List.length_replicate]at *
  refine go 6 ?_
  obtain rfl:k=max xs.length ys.length:=O
  refine Ze (Pf 4 J J pV)<|go 3 ?_
  refine tt (Qf (n:=7) (i:=1) (Ag _ _ _ (by rw [Gz];exact Zc7 fun i _=>hz i)) J J J K2 call165 J O3 (Zk 4 J J J Zw) J hw.h trivial) J fun _ _=>go 7 ?_
  exact Za2 (.inl J) hsc _ _ (fun a w hs=>Zte hs results169 J J) J trivial 1 J J J J (Zj9 7 J J J (by rw [Gz]<;>rfl) Za)
theorem Zr8(bd:Nat)(v u:Value)(xs ys:List Int)(hv:Vp xs)(hu:Vp ys)(hz:∀i,bl (cf xs i-cf ys i).natAbs≤65536):Zgr prog 169 #[v,u,.pointer (some ⟨bd,0,none⟩),.func (.func 170) #[.pointer (some ⟨bd,0,none⟩)] #[]] [Ym 2 wv v xs,Ym 2 wv u ys] true bd 221 #[.int .i64 0] (G:=Value) (fun r=>True) (fun r=> .tuple #[r,.int .i64 0]) (fun r=>#[.int .i64 0]) (fun r=>[Ym 2 wv r (Cr xs ys)]):=by
 refine Zas func169 J ntmps169 J K2 ?_
 intro w0 sc hw hsc;have hw:=Hw.mk hw
 simp only [Po,Xx]
 have hlen:=hv.len
 have hlen2:=hu.len
 refine go 10 ?_
 refine cl 3 [2] (Xc _ _ ‹_›) fun _ _=>go 3 ?_
 refine Fl 3 [3] (Xc _ _ ‹_›) fun _ _=>go 13 ?_
 refine dt (Zkm J J J)<|tt (Gf (i:=4) (n:=(max xs.length ys.length)) (by_:=24) (enc:=wv) 0 J J J J Nn ti93 J pV.cells pV.pos J J J hw.h) J fun v _=>go 12 ?_
 refine lp (G:=Nat) [0,1,2,3,10,29] [0,1,2,3] (fun k=>[(30,.int .i64 (k:Int))]) (fun k=>[(4,Ma 2 93 wv v (fill (max xs.length ys.length) k (fun i=>cf xs i-cf ys i)))]) (fun k=>k≤max xs.length ys.length) (fun k=>max xs.length ys.length-k) 0 O1 K1 ⟨by rw [Du (max xs.length ys.length) (fun i=>cf xs i-cf ys i)];rfl,trivial⟩ ?_
 rintro k hk
 have hlf:(fill (max xs.length ys.length) k (fun i=>cf xs i-cf ys i)).length=max xs.length ys.length:=Qi _ _ _
 refine go 6 ?_
 refine Zc J (fun h106=>?_) (fun h106=>?_)
 ·try rw [List.length_replicate]at *
  refine go 12 ?_
  refine Yd (Zs 5) fun b _=>Yd (Zs 6) fun b_2 _=>go 2 ?_
  refine jn (G:=Unit) [0,1,2,3,10,11,12,13,29,30] [0,4,1,2,3,6] (fun _=>[]) (fun _=>[(5,box b 93 (wc (cf xs k)))]) (fun _=>True) ?_ ?_
  ·refine go 8 ?_
   refine Zc J (fun h108=>?_) (fun h108=>?_)
   ·refine go 7 ⟨O2,O2,?_⟩
    exact Qu () trivial trivial ⟨by first | rfl | (rw [Yj (p:=xs) O];rfl),trivial⟩
   ·refine go 1 ?_
    exact Qu () trivial trivial ⟨by first | rfl | (rw [Yj (p:=xs) O];rfl),trivial⟩
  ·rintro _ -
   refine jn (G:=Unit) [0,1,2,3,10,11,12,13,29,30] [0,5,4,1,2,3] (fun _=>[]) (fun _=>[(6,box b_2 93 (wc (cf ys k)))]) (fun _=>True) ?_ ?_
   ·refine go 8 ?_
    refine Zc J (fun h111=>?_) (fun h111=>?_)
    ·refine go 7 ⟨O2,O2,?_⟩
     exact Qu () trivial trivial ⟨by first | rfl | (rw [Yj (p:=ys) O];rfl),trivial⟩
    ·refine go 1 ?_
     exact Qu () trivial trivial ⟨by first | rfl | (rw [Yj (p:=ys) O];rfl),trivial⟩
   ·rintro _ -
    refine go 6 ?_
    refine tt (Zp1 (n:=6) (i:=1) (fs:=[_]) (vs:=[_,_]) (Zuj _ _ _ (hv.sz _) (hu.sz _) (hz _)) J J J J K2 call170 J O3 Zw J hw.h trivial) J (fun _ _=>?_)
    refine dt (Yf (ii:=4) (i:=k) J J J J (Xa pV) Nn Ke J (by rw [Qi];omega))<|tt (Mx (i:=4) (enc:=wv) _ J J J J J J pV J hw.h O3 (by rw [Qi];omega)) J fun _ _=>go 7 ⟨O,?_⟩
    exact Xb (k+1) O1 O1 K1 ⟨by rw [←Zbu O];rfl,trivial⟩
 ·try rw [List.length_replicate]at *
  refine go 6 ?_
  obtain rfl:k=max xs.length ys.length:=O
  refine Ze (Pf 4 J J pV)<|go 3 ?_
  refine tt (Qf (n:=7) (i:=1) (Ag _ _ _ (by rw [Gz];exact Zc7 fun i _=>hz i)) J J J K2 call165 J O3 (Zk 4 J J J Zw) J hw.h trivial) J fun _ _=>go 7 ?_
  exact Za2 (.inl J) hsc _ _ (fun a w hs=>Zte hs results169 J J) J trivial 1 J J J J (Zj9 7 J J J (by rw [Gz]<;>rfl) Za)
theorem Ycs(v u:Value)(xs ys:List Int)(hv:Vp xs)(hu:Vp ys)(hz:∀i,bl (cf xs i+cf ys i).natAbs≤65536):Cal prog 132 #[v,u] [Ym 2 wv v xs,Ym 2 wv u ys] true (G:=Value) (fun r=>True) (fun r=> .tuple #[r,.int .i64 0]) (fun r=>[Ym 2 wv r (Ct xs ys)]):=by
 refine Zd func132 ntmps132 fun w0 sc hw hsc=>go 8 ?_
 refine Yd (Zs 3) fun b _=>go 6 ?_
 refine dt (Zxm (vs:=[_]) J K1)<|tt (Qf (n:=4) (i:=3) (Zr9 _ _ _ _ _ ‹_› ‹_› ‹_›) J J J K4 call169 J O3 (Zk 1 J J J (Zk 2 J J J Zw)) J hw.h trivial) J fun _ _=>go 7 ?_
 exact Nz hsc _ results132 J trivial (Mm 4 Za)
theorem Ycr(v u:Value)(xs ys:List Int)(hv:Vp xs)(hu:Vp ys)(hz:∀i,bl (cf xs i-cf ys i).natAbs≤65536):Cal prog 133 #[v,u] [Ym 2 wv v xs,Ym 2 wv u ys] true (G:=Value) (fun r=>True) (fun r=> .tuple #[r,.int .i64 0]) (fun r=>[Ym 2 wv r (Cr xs ys)]):=by
 refine Zd func133 ntmps133 fun w0 sc hw hsc=>go 8 ?_
 refine Yd (Zs 3) fun b _=>go 6 ?_
 refine dt (Zxm (vs:=[_]) J K1)<|tt (Qf (n:=4) (i:=3) (Zr8 _ _ _ _ _ ‹_› ‹_› ‹_›) J J J K4 call169 J O3 (Zk 1 J J J (Zk 2 J J J Zw)) J hw.h trivial) J fun _ _=>go 7 ?_
 exact Nz hsc _ results133 J trivial (Mm 4 Za)
theorem Zjh(v u:Value)(xs ys:List Int)(hv:Vp xs)(hu:Vp ys)(hF:¬Zai xs ys):Cal prog 131 #[v,u] [Ym 2 wv v xs,Ym 2 wv u ys] true (G:=Value) (fun r=>True) (fun r=> .tuple #[r,.int .i64 0]) (fun r=>[Ym 2 wv r (Xm xs ys)]):=by
 refine Zd func131 ntmps131 fun w0 sc hw hsc=>?_
 have hlen:=hv.len
 have hlen2:=hu.len
 have hm1:=Qz hv.sz
 have hm2:=Qz hu.sz
 refine go 10 ?_
 refine cl 2 [1] (Xc _ _ ‹_›) fun _ _=>go 3 ?_
 refine Fl 2 [2] (Xc _ _ ‹_›) fun _ _=>go 14 ?_
 refine Yu (d:=23) J (fun s136=>?_) (fun s136=>?_)
 ·refine go 15 ?_
  exact Nz hsc _ results131 J trivial (Mi (Zev (p:=xs) (q:=ys) (by first | (left;omega) | (right;omega))) Za)
 ·refine go 6 ?_
  refine Zc J (fun h136=>?_) (fun h136=>?_)
  ·refine go 8 ?_
   exact Nz hsc _ results131 J trivial (Mi (Zev (p:=xs) (q:=ys) (by first | (left;omega) | (right;omega))) Za)
  ·have hnx:xs≠[]:=by intro e;subst e;simp_all
   have hny:ys≠[]:=by intro e;subst e;simp_all
   have hlx:0<xs.length:=List.length_pos_iff.2 hnx
   have hly:0<ys.length:=List.length_pos_iff.2 hny
   refine go 13 ⟨O,O,?_⟩
   refine Yu (d:=35) J (fun s139=>?_) (fun s139=>?_)
   ·exfalso;exact hF ⟨hnx,hny,.inl O⟩
   ·refine go 1 ?_
    refine Fl 2 [1] (Nb _ _ (by first | exact hv.sz | exact hu.sz)) fun _ _=>go 1 ?_
    refine Fl 2 [2] (Nb _ _ (by first | exact hv.sz | exact hu.sz)) fun _ _=>go 6 ⟨O,O,?_⟩
    refine Zc J (fun h139=>?_) (fun h139=>?_)
    ·exfalso;exact hF ⟨hnx,hny,by first | (left;omega) | (right;omega)⟩
    ·have hsz:Qh xs+Qh ys+5≤65536:=O
     have hpq:∀i j,bl (cf xs i*cf ys j).natAbs≤65536:=fun i j=>by have:=Yv (cf xs i) (cf ys j);have:=Ln xs i;have:=Ln ys j;omega
     have hac:∀i j t,i<25→bl (Ak xs ys i j t).natAbs≤65536:=fun i j t hi=>by have:=Ykd (i:=i) (j:=j) (t:=t) (Ln xs) (Ln ys) O;omega
     have hacc:∀t,bl (acc xs ys xs.length t).natAbs≤65536:=fun t=>by have:=bl_acc (i:=xs.length) (t:=t) (Ln xs) (Ln ys) O;omega
     have hsum:∀i j,i<25→bl (Ak xs ys i j (i+j)+cf xs i*cf ys j).natAbs≤65536:=fun i j hi=>by rw [←Yah];exact hac i (j+1) _ hi
     refine go 4 ?_
     refine Yd (Zs 3) fun b _=>go 10 ⟨O,O,?_⟩
     refine tt (Gf (i:=4) (n:=(xs.length+ys.length-1)) (by_:=24) (enc:=wv) 0 J J J J Nn ti93 J pV.cells pV.pos J J J hw.h) J fun v _=>go 12 ?_
     refine lp (G:=Nat) [1,6,7,51,52] [0,1,2,3] (fun i=>[(53,.int .i64 (i:Int))]) (fun i=>[(4,Ma 2 93 wv v (mk (xs.length+ys.length-1) (acc xs ys i)))]) (fun i=>i≤xs.length) (fun i=>xs.length-i) 0 O1 K1 ⟨by rw [Ztf];rfl,trivial⟩ ?_
     rintro i hi
     refine go 6 ?_
     refine Zc J (fun h144=>?_) (fun h144=>?_)
     ·refine go 9 ⟨O2,O2,?_⟩
      refine Yd (Zs 5) fun b_2 _=>go 12 ?_
      refine lp (G:=Nat) [1,6,7,8,9,51,52,53,58,59] [0,1,2,3,5] (fun j=>[(60,.int .i64 (j:Int))]) (fun j=>[(4,Ma 2 93 wv v (mk (xs.length+ys.length-1) (Ak xs ys i j)))]) (fun j=>j≤ys.length) (fun j=>ys.length-j) 0 O1 K1 ⟨by rw [Yag];rfl,trivial⟩ ?_
      rintro j hj
      have hgd:i+j<xs.length+ys.length-1→(mk (xs.length+ys.length-1) (Ak xs ys i j)).getD (i+j) 0=Ak xs ys i j (i+j):=fun h=>Zct h
      refine go 6 ?_
      refine Zc J (fun h145=>?_) (fun h145=>?_)
      ·refine go 9 ⟨O2,O2,?_⟩
       refine Yd (Zs 6) fun b_3 _=>go 4 ?_
       refine Xw (fun x=>x=b) [(0,0),(1,0),(2,0),(3,0),(4,0),(5,0),(6,0),(7,0),(8,0),(9,0),(10,0),(11,0),(12,1),(13,1),(14,0),(15,3)]<|go 8 ⟨O,O,?_⟩
       refine Qe J J (st1 3 J (Yf (ii:=4) (i:=(i+j)) J J J J (Xa pV) Nn Ke O (by rw [Yi];omega)))<|go 3 ⟨by rw [Yi];omega,?_⟩
       refine Fm J (Qf (n:=6) (i:=3) (Fu _ _ _ (hv.sz _) (hu.sz _) (hpq i j)) J J J K3 call164 J O3 Zw J hw.h J) (fun _ _=>?_)
       refine Fm J (Qf (n:=6) (i:=3) (Zki _ _ _ (by rw [hgd O];exact hac i j _ O) (hpq i j) (by rw [hgd O];exact hsum i j O)) J J J K3 call168 J O3 Zw J hw.h J) (fun _ _=>?_)
       refine Qe J J (st1 3 J (Yf (ii:=4) (i:=(i+j)) J J J J (Xa pV) Nn Ke O (by rw [Yi];omega)))<|r3' J (Mx (i:=4) (enc:=wv) _ J J J J J J pV J hw.h O3 (by rw [Yi];omega)) fun _ _=>go 7 ⟨O,?_⟩
       exact Xb (j+1) O1 O1 K1 ⟨by rw [←Ygg O,←hgd O];rfl,trivial⟩
      ·refine go 10 ⟨O,?_⟩
       obtain rfl:j=ys.length:=O
       exact Xb (i+1) O1 O1 K1 ⟨by rw [←Ygh];rfl,trivial⟩
     ·refine go 6 ?_
      obtain rfl:i=xs.length:=O
      refine Ze (Pf 4 J J pV)<|go 2 ?_
      refine tt (Qf (n:=7) (i:=3) (Ag _ _ _ (Zc7 fun t _=>hacc t)) J J J K2 call165 J O3 (Zk 4 J J J Zw) J hw.h trivial) J fun _ _=>go 7 ?_
      exact Nz hsc _ results131 J trivial (Mm 7 Za (by rw [Ycv]<;>rfl))
theorem Zc5(v u:Value)(xs ys:List Int)(hv:Vp xs)(hu:Vp ys):Oo prog 243 #[v,u] [Ym 2 wv v xs,Ym 2 wv u ys] (.tuple #[.bool (Yjd xs ys),.int .i64 (Dk xs ys)]):=by
 refine Zd func243 ntmps243 fun w0 sc hw hsc=>?_
 have hlen:=hv.len
 have hlen2:=hu.len
 have hm1:=Qz hv.sz
 have hm2:=Qz hu.sz
 refine go 11 ?_
 refine cl 2 [1] (Xc _ _ ‹_›) fun _ _=>go 3 ?_
 refine Fl 2 [2] (Xc _ _ ‹_›) fun _ _=>go 14 ?_
 refine Zc J (fun h297=>?_) (fun h297=>?_)
 ·refine go 9 ?_
  exact Nz hsc () results243 (by unfold Dk Yjd;rw [if_pos O,List.eq_nil_of_length_eq_zero (l:=ys) O];rfl) trivial Za
 ·refine go 10 ?_
  refine Zc J (fun h299=>?_) (fun h299=>?_)
  ·refine go 9 ?_
   exact Nz hsc () results243 (by rw [Zfk O,decide_eq_true O];unfold Dk;rw [if_neg O,if_pos O]) trivial Za
  ·have hp3:(xs.length-ys.length+1)*(Qh ys+1)≤26*65537:=Nat.mul_le_mul O O
   have hp4:((xs.length:Int)-(ys.length:Int)+1)*((Qh ys:Int)+1)=(((xs.length-ys.length+1)*(Qh ys+1):Nat):Int):=by rw [Int.natCast_mul];congr 1;omega
   refine go 3 ?_
   refine cl 2 [1] (Nb _ _ (by first | exact hv.sz | exact hu.sz)) fun _ _=>go 7 ⟨O,O,?_⟩
   refine cl 2 [2] (Nb _ _ (by first | exact hv.sz | exact hu.sz)) fun _ _=>go 7 ⟨O,by rw [hp4];exact⟨O,O⟩,by rw [hp4];exact⟨O,O⟩,?_⟩
   refine Zc J (fun h301=>?_) (fun h301=>?_)
   ·refine go 9 ?_
    exact Nz hsc () results243 (by rw [hp4]at h301;rw [Zfk O,decide_eq_false O];unfold Dk;rw [if_neg O,if_neg O,if_pos O]) trivial Za
   ·refine go 10 ?_
    exact Nz hsc () results243 (by rw [hp4]at h301;rw [Zfk O,decide_eq_false O];unfold Dk;rw [if_neg O,if_neg O,if_neg O]) trivial Za
theorem Zmb(v u:Value)(xs ys:List Int)(hv:Vp xs)(hu:Vp ys)(hd:Dk xs ys=0):Cal prog 242 #[v,u] [Ym 2 wv v xs,Ym 2 wv u ys] true (G:=Value) (fun r=>True) (fun r=> .tuple #[r,.int .i64 0]) (fun r=>[Ym 2 wv r (Xy xs ys)]):=by
 refine Zd func242 ntmps242 fun w0 sc hw hsc=>?_
 have hlen:=hv.len
 have hlen2:=hu.len
 have hm1:=Qz hv.sz
 have hm2:=Qz hu.sz
 obtain⟨hm0,hF0⟩:=Zcw hd
 have hdl:=Zfk (p:=xs) hm0
 refine go 10 ?_
 refine cl 2 [1,2] (Zc5 _ _ _ _ hv hu) fun _ _=>go 14 ?_
 refine Zc J (fun h310=>?_) (fun h310=>?_)
 ·exfalso;exact h310 hd
 ·refine go 5 ?_
  refine tt (Zm8 (n:=3) (Zxv _ _) J J J K1 call244 (Zk 1 J J J Zw) J hw.h) J fun v _=>go 9 ?_
  refine Nw J (fun h314=>?_) (fun h314=>?_)
  ·have hlt:xs.length<ys.length:=by rw [hdl]at h314;simpa using h314
   refine go 9 ?_
   exact Nz hsc _ results242 J trivial (gow 3 Za (by unfold Xy;rw [if_pos hlt]))
  ·have hge:ys.length≤xs.length:=by rw [hdl]at h314;simpa using h314
   have hF:=hF0 hge
   refine go 4 ?_
   refine Yd (Zs 4) fun b _=>go 8 ⟨O,?_⟩
   refine dt (Yf (ii:=2) (i:=(ys.length-1)) J J J J Zo Nn Ke)<|go 1 ⟨O,?_⟩
   refine Yd (Zs 5) fun b_2 _=>go 13 ⟨O,?_⟩
   refine lp (G:=Nat) [1,8,9,10] [0,1,2,4,5] (fun j=>[(11,.int .i64 ((xs.length:Int)-1-(j:Int)))]) (fun j=>[(3,Ma 2 93 wv v (Qg xs ys j))]) (fun j=>j≤xs.length-ys.length+1) (fun j=>xs.length-ys.length+1-j) 0 O1 ⟨by rw [show(xs.length:Int)-1-((0:Nat):Int)=(xs.length:Int)-1 by omega];rfl,trivial⟩ K1 ?_
   rintro j hj
   refine go 10 ⟨O,?_⟩
   refine Zc J (fun h319=>?_) (fun h319=>?_)
   ·obtain⟨hb1,hb2,hb3⟩:=rest_b hF (j:=j) O
    have hRl:=Mg xs ys j
    refine go 8 ?_
    refine dt (Yf (ii:=3) (i:=(xs.length-1-j)) J J J J (Xa pV) Nn Ke)<|go 1 ⟨O,?_⟩
    refine Yd (Zs 6) fun b_3 _=>go 12 ?_
    refine lp (G:=Nat) [1,8,9,10,11,12,51] [0,1,2,4,5,6] (fun i=>[(52,.int .i64 (i:Int))]) (fun i=>[(3,Ma 2 93 wv v (Zhm (Qg xs ys j) (cf ys (ys.length-1)) i))]) (fun i=>i≤xs.length) (fun i=>xs.length-i) 0 O1 K1 ⟨by rw [Zzl];rfl,trivial⟩ ?_
    rintro i hi
    have hg1:i<xs.length→(Zhm (Qg xs ys j) (cf ys (ys.length-1)) i).getD i 0=cf (Qg xs ys j) i:=fun h=>Ydn O
    have hl1:=Zrb (Qg xs ys j) (cf ys (ys.length-1)) i
    refine go 6 ?_
    refine Zc J (fun h322=>?_) (fun h322=>?_)
    ·refine go 10 ?_
     refine Xw (fun x=>x=b) [(0,0),(1,0),(2,0),(3,0),(4,0),(5,0),(6,0),(7,1),(8,0),(9,3)]<|go 4 ?_
     refine Qe J J (st1 4 J (Yf (ii:=3) (i:=i) J J J J (Xa pV) Nn Ke J))<|go 2 ⟨O,?_⟩
     refine Fm J (Qf (n:=6) (i:=4) (Fu _ _ _ (by rw [hg1 O];exact hb1 _) (hu.sz _) (by rw [hg1 O];exact hb2 _ _)) J J J K3 call164 J O3 Zw J hw.h J) (fun _ _=>?_)
     refine Qe J J (st1 4 J (Yf (ii:=3) (i:=i) J J J J (Xa pV) Nn Ke J))<|r3' J (Mx (i:=3) (enc:=wv) _ J J J J J J pV J hw.h) fun _ _=>go 7 ⟨O,?_⟩
     exact Xb (i+1) O1 O1 K1 ⟨by rw [←Ydm O,←hg1 O];rfl,trivial⟩
    ·refine go 6 ?_
     obtain rfl:i=xs.length:=O
     refine go 7 ?_
     refine lp (G:=Nat) [1,8,9,10,11,12,65,66] [0,1,2,4,5,6] (fun i=>[(67,.int .i64 (i:Int))]) (fun i=>[(3,Ma 2 93 wv v (Zla ys (Qg xs ys j) (cf ys (ys.length-1)) (cf (Qg xs ys j) (xs.length-1-j)) (xs.length-1-j-(ys.length-1)) i))]) (fun i=>i≤ys.length) (fun i=>ys.length-i) 0 O1 K1 ⟨by rw [←Zys,hRl];rfl,trivial⟩ ?_
     rintro i hi
     have hg2:i<ys.length→(Zla ys (Qg xs ys j) (cf ys (ys.length-1)) (cf (Qg xs ys j) (xs.length-1-j)) (xs.length-1-j-(ys.length-1)) i).getD ((xs.length-1-j-(ys.length-1))+i) 0=cf (Qg xs ys j) ((xs.length-1-j-(ys.length-1))+i)*(cf ys (ys.length-1)):=fun h=>Ybb O
     have hl2:=Zra ys (Qg xs ys j) (cf ys (ys.length-1)) (cf (Qg xs ys j) (xs.length-1-j)) (xs.length-1-j-(ys.length-1)) i
     refine go 6 ?_
     refine Zc J (fun h325=>?_) (fun h325=>?_)
     ·refine go 9 ⟨O2,O2,?_⟩
      refine Yd (Zs 7) fun b_4 _=>go 16 ⟨O,O,O,?_⟩
      refine Xw (fun x=>x=b) [(0,0),(1,0),(2,0),(3,0),(4,0),(5,0),(6,0),(7,0),(8,1),(9,1),(10,0),(11,3)]<|go 4 ?_
      refine Qe J J (st1 4 J (Yf (ii:=3) (i:=((xs.length-1-j-(ys.length-1))+i)) J J J J (Xa pV) Nn Ke))<|go 3 ⟨O,?_⟩
      refine Fm J (Qf (n:=7) (i:=4) (Fu _ _ _ (hb1 _) (hu.sz _) (hb2 _ _)) J J J K3 call164 J O3 Zw J hw.h J) (fun _ _=>?_)
      refine Fm J (Qf (n:=7) (i:=4) (Zuj _ _ _ (by rw [hg2 O];exact hb2 _ _) (hb2 _ _) (by rw [hg2 O];exact hb3 _ _ _ _)) J J J K3 call170 J O3 Zw J hw.h J) (fun _ _=>?_)
      refine Qe J J (st1 4 J (Yf (ii:=3) (i:=((xs.length-1-j-(ys.length-1))+i)) J J J J (Xa pV) Nn Ke))<|r3' J (Mx (i:=3) (enc:=wv) _ J J J J J J pV J hw.h) fun _ _=>go 7 ⟨O,?_⟩
      exact Xb (i+1) O1 O1 K1 ⟨by rw [←Yba O,←hg2 O];rfl,trivial⟩
     ·refine go 11 ⟨O,?_⟩
      obtain rfl:i=ys.length:=O
      exact Xb (j+1) O1 O1 ⟨by rw [show(xs.length:Int)-1-((j+1:Nat):Int)=(xs.length:Int)-1-(j:Int)-1 by omega];rfl,trivial⟩ ⟨by rfl,trivial⟩
   ·refine go 6 ?_
    obtain rfl:j=xs.length-ys.length+1:=O
    refine Ze (Pf 3 J J pV)<|go 2 ?_
    refine tt (Qf (n:=8) (i:=4) (Ag _ _ _ (Zp2 hF)) J J J K2 call165 J O3 (Zk 3 J J J Zw) J hw.h trivial) J fun _ _=>go 7 ?_
    exact Nz hsc _ results242 J trivial (Mm 8 Za (by unfold Xy;rw [if_neg O]<;>rfl))
theorem Zbg(v u:Value)(xs ys:List Int)(hv:Vp xs)(hu:Vp ys)(hd:Dk xs ys=0):Cal prog 226 #[v,u] [Ym 2 wv v xs,Ym 2 wv u ys] true (G:=Value) (fun r=>True) (fun r=> .tuple #[r,.int .i64 (if pdv xs ys then 0 else 10)]) (fun r=>[Ym 2 wv r (if pdv xs ys then Ll xs ys else [])]):=by
 refine Zd func226 ntmps226 fun w0 sc hw hsc=>?_
 have hlen:=hv.len
 have hlen2:=hu.len
 have hm1:=Qz hv.sz
 have hm2:=Qz hu.sz
 obtain⟨hm0,hF0⟩:=Zcw hd
 have hdl:=Zfk (p:=xs) hm0
 have hyz:cf ys (ys.length-1)≠0:=hu.tr.mem (fun e=>hm0 (by rw [e];rfl))
 refine go 10 ?_
 refine cl 2 [1,2] (Zc5 _ _ _ _ hv hu) fun _ _=>go 16 ?_
 refine Zc J (fun h337=>?_) (fun h337=>?_)
 ·exfalso;exact h337 hd
 ·refine go 8 ?_
  refine Zc J (fun h339=>?_) (fun h339=>?_)
  ·refine go 9 ?_
   have hx0:xs=[]:=List.eq_nil_of_length_eq_zero O
   have hp:pdv xs ys:= .inl hx0
   exact Nz hsc _ results226 (by rw [if_pos hp]) trivial (Mi (by rw [if_pos hp,hx0];rfl) Za)
  ·have hnx:xs≠[]:=fun e=>by rw [e]at h339;simp at h339
   refine go 6 ?_
   refine Nw J (fun h341=>?_) (fun h341=>?_)
   ·have hlt:xs.length<ys.length:=by rw [hdl]at h341;simpa using h341
    refine go 9 ?_
    have hp:¬pdv xs ys:=fun h=>by rcases h with h | h;(exact hnx h);(have:=h.1;omega)
    exact Nz hsc _ results226 (by rw [if_neg hp]) trivial (Mi (if_neg hp) Za)
   ·have hge:ys.length≤xs.length:=by rw [hdl]at h341;simpa using h341
    have hF:=hF0 hge
    refine go 5 ?_
    refine Yd (Zs 3) fun b _=>go 5 ?_
    refine tt (Zm8 (n:=4) (Zxv _ _) J J J K1 call244 (Zk 1 J J J Zw) J hw.h) J fun v _=>go 11 ⟨O,O,?_⟩
    refine tt (Gf (i:=5) (n:=(xs.length-ys.length+1)) (by_:=24) (enc:=wv) 0 J J J J Nn ti93 J pV.cells pV.pos J J J hw.h) J fun v_2 _=>go 13 ⟨⟨by simp only [List.length_replicate];omega,by simp only [List.length_replicate];omega⟩,?_⟩
    refine lp (G:=Nat) [1,8,9,10] [0,1,2,3] (fun j=>[(11,.int .i64 ((xs.length:Int)-(ys.length:Int)-(j:Int)))]) (fun j=>[(4,Ma 2 93 wv v (Qk xs ys j)),(5,Ma 2 93 wv v_2 (Zgk xs ys j))]) (fun j=>(j≤xs.length-ys.length+1)∧(∀k,xs.length-ys.length<k+j→k≤xs.length-ys.length→Ks xs ys k)) (fun j=>xs.length-ys.length+1-j) 0 ⟨O1,fun k h1 h2=>O⟩ ⟨by simp only [List.length_replicate];exact congrArg some (Zbs O),trivial⟩ ⟨J,by rw [Zz6];rfl,trivial⟩ ?_
    rintro j ⟨hj,hx⟩
    have hol:=Zbo xs ys j
    refine go 7 ?_
    refine Zc J (fun h347=>?_) (fun h347=>?_)
    ·obtain⟨hb1,hb5⟩:=div_b hF (j:=j) O hx
     have hRl:=Bk xs ys j
     have hi1:xs.length-ys.length-j+ys.length-1<xs.length:=O
     refine go 4 ?_
     refine jn (G:=Nat×Nat) [1,8,9,10,11] [0,4,5,1,2,3] (fun q=>[(12,.pointer (some ⟨q.1,0,none⟩)),(13,.pointer (some ⟨q.2,0,none⟩)),(14,.int .i64 0)]) (fun q=>[(97,box q.1 93 (wc (Bl (dq ys (Qk xs ys j) (xs.length-ys.length-j))))),(98,box q.2 93 (wc (Bl (cf (Qk xs ys j) ((xs.length-ys.length-j)+ys.length-1)%cf ys (ys.length-1)))))]) (fun q=>True) ?_ ?_
     ·refine Mq [2,4] [23]<|Zm (n:=10) [(0,0),(1,0),(2,0),(3,0),(4,0),(5,0),(6,0),(7,0),(8,0),(9,0),(10,0),(11,0),(12,0),(13,0)]<|go 6 ⟨O,O,?_⟩
      refine Qe J J (stf (Yf (ii:=4) (i:=((xs.length-ys.length-j)+ys.length-1)) J J J J (Xa pV) Nn Ke) K2)<|go 5 ⟨O,O,?_⟩
      refine Qe J J (stf (Yf (ii:=2) (i:=(ys.length-1)) J J J J Zo Nn Ke) K2)<|go 2 ⟨O,?_⟩
      refine Zk4 (n:=9) 14 19 20 ?_ ?_ ?_
      ·refine Ny (Zh 5 [] (Dx _ _ (hb1 _) (hu.sz _) hyz)) fun _ _=>?_
       refine Zm (n:=5) [(15,0),(16,0),(17,0),(18,0)]<|go 5 ?_
       refine Qq (n:=4) 19 20 ?_ ?_
       ·refine Ny (Oj 97) fun b_2 ho=>?_
        refine Zm (n:=0) [(20,1),(21,1),(22,1),(23,3)]<|Yx (Oj 98) fun b_3 ho2=>go 4 ?_
        exact Zy<|Qu (_,_) trivial K3 K2
       ·refine Ny (Oj 98) fun b_4 ho3=>?_
        refine Zm (n:=0) [(19,1),(21,1),(22,1),(23,3)]<|Yx (Oj 97) fun b_5 ho4=>go 4 ?_
        exact Zy<|Qu (_,_) trivial K3 K2
      ·refine Ny (Oj 97) fun b_6 ho5=>?_
       refine Qq (n:=8) 14 20 ?_ ?_
       ·refine Ny (Zh 5 [] (Dx _ _ (hb1 _) (hu.sz _) hyz)) fun _ _=>?_
        refine Zm (n:=0) [(15,0),(16,0),(17,0),(18,0),(20,1),(21,1),(22,1),(23,3)]<|go 4 ?_
        refine Yx (Oj 98) fun b_7 ho6=>go 4 ?_
        exact Zy<|Qu (_,_) trivial K3 K2
       ·refine Ny (Oj 98) fun b_8 ho7=>?_
        refine Zm (n:=0) [(14,1),(15,0),(16,0),(17,0),(18,0),(21,1),(22,1),(23,3)]<|Yx (Zh 5 [] (Dx _ _ (hb1 _) (hu.sz _) hyz)) fun _ _=>go 8 ?_
        exact Zy<|Qu (_,_) trivial K3 K2
      ·refine Ny (Oj 98) fun b_9 ho8=>?_
       refine Qq (n:=8) 14 19 ?_ ?_
       ·refine Ny (Zh 5 [] (Dx _ _ (hb1 _) (hu.sz _) hyz)) fun _ _=>?_
        refine Zm (n:=0) [(15,0),(16,0),(17,0),(18,0),(19,1),(21,1),(22,1),(23,3)]<|go 4 ?_
        refine Yx (Oj 97) fun b_10 ho9=>go 4 ?_
        exact Zy<|Qu (_,_) trivial K3 K2
       ·refine Ny (Oj 97) fun b_11 ho10=>?_
        refine Zm (n:=0) [(14,1),(15,0),(16,0),(17,0),(18,0),(21,1),(22,1),(23,3)]<|Yx (Zh 5 [] (Dx _ _ (hb1 _) (hu.sz _) hyz)) fun _ _=>go 8 ?_
        exact Zy<|Qu (_,_) trivial K3 K2
     ·rintro⟨b7,b8⟩ -
      dsimp only
      refine go 7 ?_
      refine Zc J (fun h349=>?_) (fun h349=>?_)
      ·exfalso;exact h349 rfl
      ·refine go 6 ?_
       refine cl 5 [] (Kl _ (Yju _)) fun _ _=>go 3 ?_
       refine Zc J (fun h352=>?_) (fun h352=>?_)
       ·have hne:¬Ks xs ys (xs.length-ys.length-j):=fun he=>h352 (by rw [Zsd hyz (hu.sz _),(Zrw O).1 he];rfl)
        refine go 13 ?_
        have hp:¬pdv xs ys:=fun h=>by rcases h with h | h;(exact hnx h);(exact hne (h.2.1 _ O))
        exact Nz hsc _ results226 (by rw [if_neg hp]) trivial (Mi (if_neg hp) Za)
       ·have hde:Ks xs ys (xs.length-ys.length-j):=(Zrw O).2 (by have h0:=Decidable.byContradiction h352;rw [Zsd hyz (hu.sz _)]at h0;exact Int.sign_eq_zero_iff_zero.1 h0)
        obtain⟨hb2,hb3,hb4⟩:=hb5 hde
        refine Ze (Mt 97 (q:=box b7 93 (wc (dq ys (Qk xs ys j) (xs.length-ys.length-j)))) (by rw [Mr hb2]) J J)<|go 7 ?_
        refine dt (Yf (ii:=5) (i:=(xs.length-ys.length-j)) J J J J (Xa pV) Nn Ke)<|tt (Mx (i:=5) (enc:=wv) _ J J J J J J pV J hw.h) J fun _ _=>go 10 ?_
        refine lp (G:=Nat) [1,8,9,10,11,12,78,79] [0,97,98,5,1,2,3] (fun i=>[(80,.int .i64 (i:Int))]) (fun i=>[(4,Ma 2 93 wv v (Zlg ys (Qk xs ys j) (dq ys (Qk xs ys j) (xs.length-ys.length-j)) (xs.length-ys.length-j) i))]) (fun i=>i≤ys.length) (fun i=>ys.length-i) 0 O1 K1 ⟨by rw [←Zz3];rfl,trivial⟩ ?_
        rintro i hi
        have hg2:i<ys.length→(Zlg ys (Qk xs ys j) (dq ys (Qk xs ys j) (xs.length-ys.length-j)) (xs.length-ys.length-j) i).getD ((xs.length-ys.length-j)+i) 0=cf (Qk xs ys j) ((xs.length-ys.length-j)+i):=fun h=>Ye7 O
        have hl2:=Zrc ys (Qk xs ys j) (dq ys (Qk xs ys j) (xs.length-ys.length-j)) (xs.length-ys.length-j) i
        refine go 6 ?_
        refine Zc J (fun h356=>?_) (fun h356=>?_)
        ·refine go 9 ⟨O2,O2,?_⟩
         refine Yd (Zs 6) fun b_12 _=>go 4 ?_
         refine Xw (fun x=>x=b) [(0,0),(1,0),(2,0),(3,0),(4,0),(5,0),(6,0),(7,0),(8,0),(9,0),(10,0),(11,0),(12,1),(13,1),(14,0),(15,3)]<|go 8 ⟨O,O,?_⟩
         refine Qe J J (st1 3 J (Yf (ii:=4) (i:=((xs.length-ys.length-j)+i)) J J J J (Xa pV) Nn Ke))<|go 3 ⟨O,?_⟩
         refine Fm J (Qf (n:=6) (i:=3) (Fu _ _ _ hb2 (hu.sz _) (hb3 _)) J J J K3 call164 J O3 Zw J hw.h J) (fun _ _=>?_)
         refine Fm J (Qf (n:=6) (i:=3) (Zuj _ _ _ (by rw [hg2 O];exact hb1 _) (hb3 _) (by rw [hg2 O];exact hb4 _ _)) J J J K3 call170 J O3 Zw J hw.h J) (fun _ _=>?_)
         refine Qe J J (st1 3 J (Yf (ii:=4) (i:=((xs.length-ys.length-j)+i)) J J J J (Xa pV) Nn Ke))<|r3' J (Mx (i:=4) (enc:=wv) _ J J J J J J pV J hw.h) fun _ _=>go 7 ⟨O,?_⟩
         exact Xb (i+1) O1 O1 K1 ⟨by rw [←Ye6 O,←hg2 O];rfl,trivial⟩
        ·refine go 11 ⟨O,?_⟩
         obtain rfl:i=ys.length:=O
         exact Xb (j+1) ⟨O1,fun k h1 h2=>by rcases Nat.lt_or_ge (xs.length-ys.length) (k+j)with h3 | h3;(exact hx k h3 h2);(rw [show k=xs.length-ys.length-j by omega];exact hde)⟩ O1 ⟨by rw [show(xs.length:Int)-(ys.length:Int)-((j+1:Nat):Int)=(xs.length:Int)-(ys.length:Int)-(j:Int)-1 by omega];rfl,trivial⟩ ⟨by rfl,by rw [←Yfa O];rfl,trivial⟩
    ·refine go 7 ?_
     obtain rfl:j=xs.length-ys.length+1:=O
     have hall:∀k,k≤xs.length-ys.length→Ks xs ys k:=fun k hk=>hx k O hk
     refine Ze (Pf 4 J J pV)<|go 6 ?_
     refine Yu (d:=105) J (fun s360=>?_) (fun s360=>?_)
     ·refine go 1 ?_
      refine Fl 7 [4] (Zch _ _ (Ya8 hF hall)) fun _ _=>go 5 ?_
      refine Zc J (fun h360=>?_) (fun h360=>?_)
      ·refine go 8 ?_
       have hp:¬pdv xs ys:=fun h=>by rcases h with h | h;(exact hnx h);(rw [h.2.2]at h360;simp at h360)
       exact Nz hsc _ results226 (by rw [if_neg hp]) trivial (Mi (if_neg hp) Za)
      ·refine go 3 ?_
       refine Ze (Pf 5 J J pV)<|go 2 ?_
       refine tt (Qf (n:=8) (i:=3) (Ag _ _ _ (Zvj hF hall _)) J J J K2 call165 J O3 (Zk 5 J J J Zw) J hw.h trivial) J fun _ _=>go 7 ?_
       have hp:pdv xs ys:= .inr ⟨hge,hall,List.eq_nil_of_length_eq_zero O⟩
       exact Nz hsc _ results226 (by rw [if_pos hp]<;>rfl) trivial (Mm 8 Za (by rw [if_pos hp,Zqq hnx,←Zfj]<;>rfl))
     ·exfalso;exact s360 rfl
theorem Znv(v:Value)(xs:List Int)(x y z:Int)(hv:Vp xs)(hx:bl x.natAbs≤65536)(hy:bl y.natAbs≤65536)(hz:bl z.natAbs≤65536)(hz0:0<z)(hE:¬Zkp xs x y z):Cal prog 186 #[v,wv x,wv y,wv z] [Ym 2 wv v xs] true (G:=Value) (fun r=>True) (fun r=> .tuple #[r,.int .i64 0]) (fun r=>[Ym 2 wv r (Lm xs x y z)]):=by
 refine Zd func186 ntmps186 fun w0 sc hw hsc=>?_
 have hlen:=hv.len
 refine go 2 ?_
 refine Yd (Yg 2) fun b _=>Yd (Yg 3) fun b_2 _=>Yd (Yg 4) fun b_3 _=>go 8 ?_
 refine cl 4 [1] (Xc _ _ ‹_›) fun _ _=>go 3 ?_
 refine Fl 4 [] (Lb _ ‹_›) fun _ _=>go 4 ?_
 refine Fl 4 [] (Lb _ ‹_›) fun _ _=>go 4 ?_
 refine Fl 4 [] (Lb _ ‹_›) fun _ _=>go 11 ?_
 refine cl 4 [] (Kl _ hz) fun _ _=>go 3 ?_
 refine Zc J (fun h232=>?_) (fun h232=>?_)
 ·exfalso;have h2:=decide_eq_decide.1 (Gq z);omega
 ·refine go 10 ?_
  refine Zc J (fun h235=>?_) (fun h235=>?_)
  ·refine go 8 ?_
   exact Nz hsc _ results186 J trivial (Mi (by unfold Lm;rw [if_pos O]) Za)
  ·have hne:xs≠[]:=fun e=>by rw [e]at h235;simp at h235
   have hm1:=Qz hv.sz
   have hsxy:Sz 65536 [x,y,z]:=Sz.of_mem (by intro q hq;simp at hq;rcases hq with rfl | rfl | rfl<;>assumption)
   have hm2:=Qz hsxy
   have hm3:(xs.length-1)*(Qh [x,y,z]+1)≤24*65537:=Nat.mul_le_mul O O
   have hm4:((xs.length:Int)-1)*((Qh [x,y,z]:Int)+1)=(((xs.length-1)*(Qh [x,y,z]+1):Nat):Int):=by rw [Int.natCast_mul];congr 1;omega
   refine go 3 ?_
   refine jn (G:=Unit) [0,5,6,7] [0,1,2,3,4] (fun _=>[(55,.bool (decide ((65536:Int)<(Qh xs:Int)+((xs.length:Int)-1)*((Qh [x,y,z]:Int)+1)+8)))]) (fun _=>[]) (fun _=>True) ?_ ?_
   ·refine Ec (fun _=>False) []<|Zm (n:=8) [(0,0),(2,0),(3,0),(4,0),(5,0),(6,0),(7,0)]<|go 8 ⟨O,?_⟩
    refine Qq (n:=7) 1 8 ?_ ?_
    ·refine Ny (Zh 4 [1] (Nb _ _ (by first | exact hv.sz | exact hsxy))) fun _ _=>?_
     refine Zm (n:=0) [(8,1),(9,1),(10,0),(11,0),(12,0),(13,0),(14,0)]<|Fm J (Qd (i:=90) (ivs:=[(0,_),(1,_),(2,_)]) (enc:=wv) [x,y,z] J J K6 Ygy ti93 J J (fill3 _ _ _ _ _ _ _ _) J J pV.cells J J hw.h) fun v _=>Yx (Zh 4 [90] (Nb _ _ (by first | exact hv.sz | exact hsxy))) fun _ _=>go 6 ⟨O,by rw [hm4];exact⟨O,O⟩,by rw [hm4];exact⟨O,O⟩,by rw [hm4];exact⟨O,O⟩,?_⟩
     exact Zy<|Qu () trivial K1 trivial
    ·refine Hd J (Qd (i:=90) (ivs:=[(0,_),(1,_),(2,_)]) (enc:=wv) [x,y,z] J J K6 Ygy ti93 J J (fill3 _ _ _ _ _ _ _ _) J J pV.cells J J hw.h) (fun v_2 _=>?_)
     refine Zm (n:=0) [(1,1),(9,1),(10,0),(11,0),(12,0),(13,0),(14,0)]<|Yx (Zh 4 [1] (Nb _ _ (by first | exact hv.sz | exact hsxy))) fun _ _=>Yx (Zh 4 [90] (Nb _ _ (by first | exact hv.sz | exact hsxy))) fun _ _=>go 6 ⟨O,by rw [hm4];exact⟨O,O⟩,by rw [hm4];exact⟨O,O⟩,by rw [hm4];exact⟨O,O⟩,?_⟩
     exact Zy<|Qu () trivial K1 trivial
   ·rintro _ -
    refine Zc J (fun h238=>?_) (fun h238=>?_)
    ·exfalso;exact hE ⟨hne,by rw [hm4]at h238;omega⟩
    ·have hF:Qh xs+(xs.length-1)*(Qh [x,y,z]+1)+8≤65536:=by rw [hm4]at h238;omega
     refine go 4 ?_
     refine Yd (Zs 5) fun b_4 _=>go 2 ?_
     refine jn (G:=Value×Nat) [0,5,6,7,10] [0,1,2,3,4,5] (fun q=>[(11,q.1),(12,.pointer (some ⟨q.2,0,none⟩))]) (fun q=>[(70,Ma 2 93 wv q.1 (Md xs x y z 0)),(98,box q.2 93 (wc 1))]) (fun q=>True) ?_ ?_
     ·refine Ec (fun _=>False) [9,10]<|Zm (n:=5) [(0,0),(1,0),(2,0),(3,0),(4,0),(5,0)]<|go 4 ⟨O,?_⟩
      refine Qe J J (Qa (Yf (ii:=1) (i:=(xs.length-1)) J J J J Zo Nn Ke))<|go 2 ⟨O,?_⟩
      refine Zk4 (n:=4) 6 7 8 ?_ ?_ ?_
      ·refine Hd J (Qd (i:=70) (ivs:=[(0,_)]) (enc:=wv) [cf xs (xs.length-1)] J J K2 Nn ti93 J J J J J pV.cells J J hw.h) (fun v_3 _=>?_)
       refine Qq (n:=3) 7 8 ?_ ?_
       ·refine Ny (Zh 5 [] (Zp _ (by first | assumption | exact⟨O,O⟩))) fun _ _=>?_
        refine Zm (n:=0) [(8,1),(9,3),(10,3)]<|Yx (Zs 98) fun b_5 _=>go 3 ?_
        exact Zy<|Qu (_,_) trivial K2 ⟨by rw [Fw];rfl,rfl,trivial⟩
       ·refine Ny (Zs 98) fun b_6 _=>?_
        refine Zm (n:=0) [(7,1),(9,3),(10,3)]<|Yx (Zh 5 [] (Zp _ (by first | assumption | exact⟨O,O⟩))) fun _ _=>go 3 ?_
        exact Zy<|Qu (_,_) trivial K2 ⟨by rw [Fw];rfl,rfl,trivial⟩
      ·refine Ny (Zh 5 [] (Zp _ (by first | assumption | exact⟨O,O⟩))) fun _ _=>?_
       refine Qq (n:=3) 6 8 ?_ ?_
       ·refine Hd J (Qd (i:=70) (ivs:=[(0,_)]) (enc:=wv) [cf xs (xs.length-1)] J J K2 Nn ti93 J J J J J pV.cells J J hw.h) (fun v_4 _=>?_)
        refine Zm (n:=0) [(8,1),(9,3),(10,3)]<|Yx (Zs 98) fun b_7 _=>go 3 ?_
        exact Zy<|Qu (_,_) trivial K2 ⟨by rw [Fw];rfl,rfl,trivial⟩
       ·refine Ny (Zs 98) fun b_8 _=>?_
        refine Zm (n:=0) [(6,1),(9,3),(10,3)]<|Fm J (Qd (i:=70) (ivs:=[(0,_)]) (enc:=wv) [cf xs (xs.length-1)] J J K2 Nn ti93 J J J J J pV.cells J J hw.h) fun v_5 _=>go 3 ?_
        exact Zy<|Qu (_,_) trivial K2 ⟨by rw [Fw];rfl,rfl,trivial⟩
      ·refine Ny (Zs 98) fun b_9 _=>?_
       refine Qq (n:=3) 6 7 ?_ ?_
       ·refine Hd J (Qd (i:=70) (ivs:=[(0,_)]) (enc:=wv) [cf xs (xs.length-1)] J J K2 Nn ti93 J J J J J pV.cells J J hw.h) (fun v_6 _=>?_)
        refine Zm (n:=0) [(7,1),(9,3),(10,3)]<|Yx (Zh 5 [] (Zp _ (by first | assumption | exact⟨O,O⟩))) fun _ _=>go 3 ?_
        exact Zy<|Qu (_,_) trivial K2 ⟨by rw [Fw];rfl,rfl,trivial⟩
       ·refine Ny (Zh 5 [] (Zp _ (by first | assumption | exact⟨O,O⟩))) fun _ _=>?_
        refine Zm (n:=0) [(6,1),(9,3),(10,3)]<|Fm J (Qd (i:=70) (ivs:=[(0,_)]) (enc:=wv) [cf xs (xs.length-1)] J J K2 Nn ti93 J J J J J pV.cells J J hw.h) fun v_7 _=>go 3 ?_
        exact Zy<|Qu (_,_) trivial K2 ⟨by rw [Fw];rfl,rfl,trivial⟩
     ·rintro⟨vo,b8⟩ -
      dsimp only
      refine go 10 ⟨O,?_⟩
      refine lp (G:=Nat×Value) [0,5,6,7,10,12] [0,1,2,3,4,5] (fun q=>[(13,.int .i64 ((xs.length:Int)-2-(q.1:Int))),(11,q.2)]) (fun q=>[(70,Ma 2 93 wv q.2 (Md xs x y z q.1)),(98,box b8 93 (wc (z^q.1)))]) (fun q=>q.1≤xs.length-1) (fun q=>xs.length-1-q.1) (0,vo) O1 ⟨by rw [show(xs.length:Int)-2-((0:Nat):Int)=(xs.length:Int)-2 by omega];rfl,rfl,trivial⟩ ⟨J,by rw [Int.pow_zero];rfl,trivial⟩ ?_
      rintro⟨j,vo⟩ hj
      dsimp only at hj
      dsimp only
      refine go 7 ?_
      refine Zc J (fun h243=>?_) (fun h243=>?_)
      ·obtain⟨c1,c2,c3,c4,c5,c6,c7,c8,c9⟩:=cp_all hF (j:=j) O
       have hcl:=Zbp xs x y z j
       refine go 8 ?_
       refine tt (Qf (n:=5) (i:=5) (Fu _ _ _ c1 hz (by rw [←Int.pow_succ];exact c2)) J J J K3 call164 J O3 Zw J hw.h trivial) J fun _ _=>go 8 ⟨O,?_⟩
       refine tt (Gf (i:=71) (n:=((Md xs x y z j).length+1)) (by_:=24) (enc:=wv) 0 J J J J Nn ti93 J pV.cells pV.pos J J J hw.h) J fun v_8 _=>go 12 ?_
       refine lp (G:=Nat) [0,5,6,7,10,12,13,14,78,79] [0,70,98,1,2,3,4,5] (fun i=>[(80,.int .i64 (i:Int))]) (fun i=>[(71,Ma 2 93 wv v_8 (cnx (Md xs x y z j) x y i))]) (fun i=>i≤(Md xs x y z j).length) (fun i=>(Md xs x y z j).length-i) 0 O1 K1 ⟨by rw [Yfu];rfl,trivial⟩ ?_
       rintro i hi
       have hg1:i<(Md xs x y z j).length→(cnx (Md xs x y z j) x y i).getD i 0=if i=0 then 0 else cf (Md xs x y z j) (i-1)*y:=fun h=>Zxs h
       have hl1:=Ik (Md xs x y z j) x y i
       refine go 6 ?_
       refine Zc J (fun h247=>?_) (fun h247=>?_)
       ·refine go 9 ⟨O2,O2,?_⟩
        refine Yd (Zs 6) fun b_10 _=>go 5 ?_
        refine Xw (fun x=>x=b_4) [(0,0),(1,0),(2,0),(3,0),(4,0),(5,0),(6,0),(7,0),(8,1),(9,1),(10,0),(11,3)]<|go 4 ?_
        refine Qe J J (st1 5 J (Yf (ii:=71) (i:=i) J J J J (Xa pV) Nn Ke J))<|go 3 ⟨O,?_⟩
        refine Fm J (Qf (n:=6) (i:=5) (Fu _ _ _ (c3 _) hx (c4 _)) J J J K3 call164 J O3 Zw J hw.h J) (fun _ _=>?_)
        refine Fm J (Qf (n:=6) (i:=5) (Zki _ _ _ (by rw [hg1 O];exact c6 i) (c4 _) (by rw [hg1 O];exact c7 i)) J J J K3 call168 J O3 Zw J hw.h J) (fun _ _=>?_)
        refine Qe J J (st1 5 J (Yf (ii:=71) (i:=i) J J J J (Xa pV) Nn Ke J))<|r3' J (Mx (i:=71) (enc:=wv) _ J J J J J J pV J hw.h) fun _ _=>go 8 ⟨O,?_⟩
        refine tt (Qf (n:=6) (i:=5) (Fu _ _ _ (c3 _) hy (c5 _)) J J J K3 call164 J O3 Zw J hw.h trivial) J (fun _ _=>?_)
        refine dt (Yf (ii:=71) (i:=(i+1)) J J J J (Xa pV) Nn Ke O (by rw [List.length_set];omega))<|tt (Mx (i:=71) (enc:=wv) _ J J J J J J pV J hw.h O3 (by rw [List.length_set];omega)) J fun _ _=>go 7 ⟨O,?_⟩
        exact Xb (i+1) O1 O1 K1 ⟨by rw [←Yjn O];rfl,trivial⟩
       ·refine go 6 ?_
        obtain rfl:i=(Md xs x y z j).length:=O
        have hg0:(cnx (Md xs x y z j) x y (Md xs x y z j).length).getD 0 0=cf (Md xs x y z j) 0*x:=Zsa O
        refine Xw (fun x=>x=b_4) [(0,0),(1,0),(2,0),(3,0),(4,0),(5,0),(6,0),(7,0),(8,0),(9,1),(10,1),(11,0),(12,3)]<|go 6 ⟨O,O,?_⟩
        refine Qe J J (st1 5 J (Yf (ii:=1) (i:=(xs.length-2-j)) J J J J Zo Nn Ke))<|go 2 ⟨O,?_⟩
        refine Fm J (Qf (n:=6) (i:=5) (Fu _ _ _ (hv.sz _) (by rw [←Int.pow_succ];exact c2) (by rw [←Int.pow_succ];exact c8)) J J J K3 call164 J O3 Zw J hw.h J) (fun _ _=>?_)
        refine Fm J (Qf (n:=6) (i:=5) (Zki _ _ _ (by rw [hg0];exact c4 0) (by rw [←Int.pow_succ];exact c8) (by rw [hg0,←Int.pow_succ];exact c9)) J J J K3 call168 J O3 Zw J hw.h J) fun _ _=>go 1 ⟨O,?_⟩
        refine r3' J (Mx (i:=71) (enc:=wv) _ J J J J J J pV J hw.h) fun _ _=>go 13 ⟨O,?_⟩
        exact Yn (s_move 71 70 J J J J)<|Xb (j+1,_) O1 O1 ⟨by rw [show(xs.length:Int)-2-((j+1:Nat):Int)=(xs.length:Int)-2-(j:Int)-1 by omega];rfl,rfl,trivial⟩ ⟨by rw [Yjo O];simp only [←Int.pow_succ];rfl,by rw [Int.pow_succ];rfl,trivial⟩
      ·refine go 6 ?_
       obtain rfl:j=xs.length-1:=O
       refine Ze (Pf 70 J J pV)<|go 2 ?_
       refine tt (Qf (n:=7) (i:=5) (Ag _ _ _ (Yjl hF)) J J J K2 call165 J O3 (Zk 70 J J J Zw) J hw.h trivial) J fun _ _=>go 7 ?_
       exact Nz hsc _ results186 J trivial (Mm 7 Za (by unfold Lm;rw [if_neg O]<;>rfl))
theorem Zqt(v u:Value)(xs ys:List Int)(hv:Vp xs)(hu:Vp ys)(F:Nat)(hg:¬Zmm xs ys)(hok:eok F (gA xs ys) (gB xs ys)):Cal prog 225 #[v,u] [Ym 2 wv v xs,Ym 2 wv u ys] true (G:=Value) (fun r=>True) (fun r=> .tuple #[r,.int .i64 0]) (fun r=>[Ym 2 wv r (Nr F xs ys)]):=by
 refine Zd func225 ntmps225 fun w0 sc hw hsc=>?_
 have hlen:=hv.len
 have hlen2:=hu.len
 have hm1:=Qz hv.sz
 have hm2:=Qz hu.sz
 have hpx:=Zt xs
 have hpy:=Zt ys
 have hN2:(max xs.length ys.length+2)*(max xs.length ys.length+2)≤27*27:=Nat.mul_le_mul O O
 have hN3:(max xs.length ys.length+2)*(max xs.length ys.length+2)*(max (Qh xs) (Qh ys)+8)≤27*27*65544:=Nat.mul_le_mul hN2 O
 have hN4:(max (xs.length:Int) (ys.length:Int)+2)*(max (xs.length:Int) (ys.length:Int)+2)=(((max xs.length ys.length+2)*(max xs.length ys.length+2):Nat):Int):=by rw [Int.natCast_mul,show(((max xs.length ys.length+2):Nat):Int)=(max (xs.length:Int) (ys.length:Int)+2) by omega]
 have hN5:(max (xs.length:Int) (ys.length:Int)+2)*(max (xs.length:Int) (ys.length:Int)+2)*(max (Qh xs:Int) (Qh ys:Int)+8)=(((max xs.length ys.length+2)*(max xs.length ys.length+2)*(max (Qh xs) (Qh ys)+8):Nat):Int):=by rw [hN4,Int.natCast_mul ((max xs.length ys.length+2)*(max xs.length ys.length+2)),show((max (Qh xs) (Qh ys)+8:Nat):Int)=max (Qh xs:Int) (Qh ys:Int)+8 by omega]
 refine go 10 ?_
 refine cl 2 [1] (Xc _ _ ‹_›) fun _ _=>go 3 ?_
 refine Fl 2 [2] (Xc _ _ ‹_›) fun _ _=>go 14 ?_
 refine dt (Zkm J J J)<|go 4 ⟨O,?_⟩
 refine jn (G:=Unit) [0,1] [0,1,2] (fun _=>[(46,.bool (decide (Zmm xs ys)))]) (fun _=>[]) (fun _=>True) ?_ ?_
 ·refine go 5 ?_
  refine Yu (d:=29) J (fun s371=>?_) (fun s371=>?_)
  ·refine go 5 ?_
   refine Yu (d:=34) J (fun s371_2=>?_) (fun s371_2=>?_)
   ·refine go 4 ⟨by rw [hN4];exact⟨O,O⟩,?_⟩
    refine Fl 2 [1] (Nb _ _ (by first | exact hv.sz | exact hu.sz)) fun _ _=>go 1 ?_
    refine Fl 2 [2] (Nb _ _ (by first | exact hv.sz | exact hu.sz)) fun _ _=>?_
    refine Ly (Zkm J J J) J J<|go 5 ⟨O,by rw [hN5];exact⟨O,O⟩,?_⟩
    exact Qu () trivial ⟨by first | (rw [hN5];exact congrArg some (vB (decide_eq_decide.2 ⟨fun h=>⟨O,O,O⟩,fun h=>by have:=h.2.2;omega⟩))) | exact congrArg some (vB (decide_eq_false (fun h=>by have h1:=h.1;have h2:=h.2.1;omega)).symm),trivial⟩ trivial
   ·refine go 13 ?_
    exact Qu () trivial ⟨by first | (rw [hN5];exact congrArg some (vB (decide_eq_decide.2 ⟨fun h=>⟨O,O,O⟩,fun h=>by have:=h.2.2;omega⟩))) | exact congrArg some (vB (decide_eq_false (fun h=>by have h1:=h.1;have h2:=h.2.1;omega)).symm),trivial⟩ trivial
  ·refine go 18 ?_
   exact Qu () trivial ⟨by first | (rw [hN5];exact congrArg some (vB (decide_eq_decide.2 ⟨fun h=>⟨O,O,O⟩,fun h=>by have:=h.2.2;omega⟩))) | exact congrArg some (vB (decide_eq_false (fun h=>by have h1:=h.1;have h2:=h.2.1;omega)).symm),trivial⟩ trivial
 ·rintro _ -
  refine Zc J (fun h371=>?_) (fun h371=>?_)
  ·exfalso;exact hg h371
  ·refine go 5 ?_
   refine cl 3 [1] (Nq _ _ hv) fun _ _=>go 14 ?_
   refine Zc J (fun h375=>?_) (fun h375=>?_)
   ·exfalso;exact h375 rfl
   ·refine go 5 ?_
    refine cl 4 [2] (Nq _ _ hu) fun _ _=>go 14 ?_
    refine Zc J (fun h379=>?_) (fun h379=>?_)
    ·exfalso;exact h379 rfl
    ·refine go 2 ?_
     refine jn (G:=Value×Value) [] [0,1,2,3,4] (fun q=>[(7,q.1),(9,q.2)]) (fun q=>[(80,Ym 2 wv q.1 (gA xs ys)),(81,Ym 2 wv q.2 (gB xs ys))]) (fun q=>True) ?_ ?_
     ·refine go 9 ?_
      refine Zc J (fun h382=>?_) (fun h382=>?_)
      ·refine go 6 ?_
       exact Yn (Pb 4 80 J J J)<|Yn (Pb 3 81 J J J)<|Qu (_,_) trivial K2 ⟨by unfold gA;first | rw [if_pos O];rfl | rw [if_neg O];rfl,by unfold gB;first | rw [if_pos O];rfl | rw [if_neg O];rfl,trivial⟩
      ·refine go 1 ?_
       exact Yn (Pb 3 80 J J J)<|Yn (Pb 4 81 J J J)<|Qu (_,_) trivial K2 ⟨by unfold gA;first | rw [if_pos O];rfl | rw [if_neg O];rfl,by unfold gB;first | rw [if_pos O];rfl | rw [if_neg O];rfl,trivial⟩
     ·rintro⟨va,vb⟩ -
      dsimp only
      refine go 2 ?_
      refine lp (G:=Value×Value×List Int×List Int×Nat) [] [0,1,2,3,4] (fun q=>[(7,q.1),(9,q.2.1)]) (fun q=>[(80,Ym 2 wv q.1 q.2.2.1),(81,Ym 2 wv q.2.1 q.2.2.2.1)]) (fun q=>(Vp q.2.2.1)∧(Vp q.2.2.2.1)∧(eok q.2.2.2.2 q.2.2.1 q.2.2.2.1)∧(eu q.2.2.2.2 q.2.2.1 q.2.2.2.1=eu F (gA xs ys) (gB xs ys))) (fun q=>q.2.2.2.2) (va,vb,gA xs ys,gB xs ys,F) ⟨vp_gA hv hu,vp_gB hv hu,hok,J⟩ K2 K2 ?_
      rintro⟨va,vb,a,b,f⟩ ⟨hva,hvb,hok0,heu⟩
      dsimp only at hva hvb hok0 heu
      dsimp only
      refine go 8 ?_
      refine Zc J (fun h385=>?_) (fun h385=>?_)
      ·have hbn:b≠[]:=fun e=>by rw [e]at h385;simp at h385
       obtain⟨f1,rfl,hde,hok1,heu1⟩:=Ye3 hok0 hbn
       refine go 7 ?_
       refine cl 5 [80,81] (Zmb _ _ _ _ hva hvb hde) fun _ _=>go 14 ?_
       refine Zc J (fun h387=>?_) (fun h387=>?_)
       ·exfalso;exact h387 rfl
       ·refine go 6 ?_
        refine cl 6 [5] (Nq _ _ (Za6 hva hde)) fun _ _=>go 13 ?_
        refine Zc J (fun h390=>?_) (fun h390=>?_)
        ·exfalso;exact h390 rfl
        ·refine go 9 ?_
         exact Yn (Pb 81 80 J J J)<|Yn (Pb 6 81 J J J)<|Xb (_,_,b,Zu (Xy a b),f1) ⟨hvb,Kf (Za6 hva hde),hok1,by rw [←heu1];exact heu⟩ (Nat.lt_succ_self f1) K2 K2
      ·obtain rfl:b=[]:=List.eq_nil_of_length_eq_zero O
       rw [Zgj]at heu
       have hal:=hva.len
       refine go 12 ?_
       refine Yu (d:=95) J (fun s395=>?_) (fun s395=>?_)
       ·refine go 4 ⟨O,?_⟩
        refine Ly (Yf (ii:=80) (i:=(a.length-1)) J J J J Zo Nn Ke) J J<|go 1 ⟨O,?_⟩
        refine Fl 6 [] (Kl _ (hva.sz _)) fun _ _=>go 4 ?_
        refine Zc J (fun h395=>?_) (fun h395=>?_)
        ·have hneg:a.length≠0∧cf a (a.length-1)<0:=⟨O,(Pm _).1 h395⟩
         refine go 3 ?_
         refine cl 6 [] (Zp (-1) (by first | assumption | exact⟨O,O⟩)) fun _ _=>cl 7 [80] (Ic _ _ (-1) hva O3 (Zau hva.sz)) fun _ _=>go 8 ?_
         exact Nz hsc _ results225 J trivial (Mm 7 Za (by unfold Nr Il;rw [←heu,if_pos hneg]<;>rfl))
        ·refine go 10 ?_
         have hneg:¬(a.length≠0∧cf a (a.length-1)<0):=fun h=>by first | omega | exact absurd ((Pm (cf a (a.length-1))).2 h.2) ‹_›
         exact Nz hsc _ results225 J trivial (Mm 80 Za (by unfold Nr Il;rw [←heu,if_neg hneg]<;>rfl))
       ·refine go 22 ?_
        have hneg:¬(a.length≠0∧cf a (a.length-1)<0):=fun h=>by first | omega | exact absurd ((Pm (cf a (a.length-1))).2 h.2) ‹_›
        exact Nz hsc _ results225 J trivial (Mm 80 Za (by unfold Nr Il;rw [←heu,if_neg hneg]<;>rfl))
theorem Zh3(v:Value)(l:List Int)(hl:∀x∈l,Qx x)(hlen:l.length≤1000:=by decide):Cal prog 128 #[v] [Ym 1 Yl v l] true (G:=Value) (fun r=>True) (fun r=> .tuple #[r,.int .i64 (if 25<(tzl l).length then 7 else 0)]) (fun r=>[Ym 2 wv r (if 25<(tzl l).length then []else tzl l)]):=by
 refine Zd func128 ntmps128 fun w0 sc hw hsc=>?_
 have hsz:=Zm9 hl
 refine go 20 ?_
 refine Ze (Np 70 2 93 wv)<|lp (G:=Nat×Value) [7,8] [0,1] (fun q=>[(9,.int .i64 (q.1:Int)),(4,q.2)]) (fun q=>[(70,Ma 2 93 wv q.2 (l.take q.1))]) (fun q=>q.1≤l.length) (fun q=>l.length-q.1) (0,.slice none 0 0) O1 K2 K1 ?_
 rintro⟨k,vo⟩ hk
 dsimp only at hk
 dsimp only
 have hlk:(l.take k).length=k:=by rw [List.length_take];omega
 refine go 6 ?_
 refine Zc J (fun h62=>?_) (fun h62=>?_)
 ·refine go 14 ⟨O2,O2,?_⟩
  refine cl 1 [] (Zp _ (hl _ (Zf))) fun _ _=>?_
  refine tt (Qd (i:=2) (ivs:=[(0,_)]) (enc:=wv) [l.getD k 0] J J K2 Nn ti93 J J J J J pV.cells J J hw.h) J (fun v _=>?_)
  refine tt (Kq (i:=70) (j:=2) (by_:=24) J J J J J J O3 J (Xa pV) Nn ti93 J pV J J J O8 O3 J hw.h) J fun v_2 _=>go 8 ⟨O,?_⟩
  exact Xb (k+1,_) O1 O1 K2 ⟨by rw [Pa 0 _ _ O];rfl,trivial⟩
 ·refine go 6 ?_
  obtain rfl:k=l.length:=O
  rw [List.take_length]
  refine Ze (Pf 70 J J pV)<|go 2 ?_
  refine cl 3 [70] (Zch _ _ hsz) fun _ _=>go 11 ?_
  refine Zc J (fun h66=>?_) (fun h66=>?_)
  ·refine go 8 ?_
   have h25:25<(tzl l).length:=O
   exact Nz hsc _ results128 (by rw [if_pos h25]) trivial (Mi (if_pos h25) Za)
  ·refine go 10 ?_
   have h25:¬25<(tzl l).length:=O
   exact Nz hsc _ results128 (by rw [if_neg h25]<;>rfl) trivial (Mm 3 Za (by rw [if_neg h25]<;>rfl))
end Go.Sky

