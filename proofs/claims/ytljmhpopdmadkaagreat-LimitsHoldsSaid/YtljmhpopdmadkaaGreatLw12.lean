/- Rules, arithmetic and contracts: part 13. No conditions but those that each theorem names. -/
import Derived.Test.YtljmhpopdmadkaaGreatLw11
import Derived.ChangeKeysEq
set_option linter.all false
set_option maxHeartbeats 4000000
namespace Go.Sky
open Go.Proofs.Tryz
open Go.Proofs
set_option synthInstance.maxHeartbeats 0
set_option synthInstance.maxSize 100000
set_option maxRecDepth 20000
set_option maxHeartbeats 4000000
set_option linter.unusedSimpArgs false
theorem Yhb(v u:Value)(xs ys:List Int)(hv:Vp xs)(hu:Vp ys)(h0:ys≠[])(hd:Dk xs ys=0)(hl:ys.length≤xs.length):Cal prog 228 #[v,u] [Ym 2 wv v xs,Ym 2 wv u ys] true (G:=Value) (fun r=>True) (fun r=> .tuple #[r,.int .i64 0]) (fun r=>[Ym 2 wv r (Ou xs ys)]):=by
 refine Zd func228 ntmps228 fun w0 sc hw hsc=>?_
 have hvr:=Za6 hv hd
 have hvp:=Kf hvr
 have hlen:=hv.len
 have hlen2:=hu.len
 have hl0:=List.length_pos_iff.2 h0
 refine Ze (Np 999 2 93 wv)<|Ze (Pf 999 J J pV)<|go 10 ?_
 refine cl 3 [1,2] (Zmb _ _ _ _ hv hu hd) fun _ _=>go 11 ?_
 refine kf O3<|go 7 ?_
 refine Zc J (fun h85=>?_) (fun h85=>?_)
 ·refine go 9 ?_
  exact Nz hsc (.slice none 0 0) results228 J trivial (Mi (Zyu O) Za)
 ·refine go 5 ?_
  refine cl 4 [3] (Nq _ _ hvr) fun _ _=>go 11 ?_
  refine kf O3<|go 23 ⟨O,O,O,?_⟩
  refine dt (Yf (ii:=2) (i:=(ys.length-1)) J J J J Zo Nn Ke)<|go 1 ⟨O2,?_⟩
  refine cl 4 [] (Kl _ (hu.sz _)) fun _ _=>go 2 ?_
  refine Yu (d:=45) J (fun s94=>?_) (fun s94=>?_)
  ·refine go 1 ?_
   refine Ly (Zkk J J J) J J<|go 4 ?_
   refine Zc J (fun h94=>?_) (fun h94=>?_)
   ·refine go 9 ?_
    exact Nz hsc _ results228 J trivial (Mm 4 Za (by rw [Yhe hl ‹_› ‹_›]<;>rfl))
   ·refine go 5 ?_
    refine cl 4 [] (Zp _ ⟨O3,O3⟩) fun _ _=>cl 5 [4] (Ic _ _ _ hvp O7 (fun i=>Zau hvp.sz i)) fun _ _=>go 7 ?_
    exact Nz hsc _ results228 J trivial (Mm 5 Za (by first | (rw [Zvl ‹_›]<;>rfl) | (rw [Zvk hl ‹_›]<;>rfl)))
  ·refine go 12 ?_
   refine cl 5 [] (Zp _ ⟨O3,O3⟩) fun _ _=>cl 6 [4] (Ic _ _ _ hvp O7 (fun i=>Zau hvp.sz i)) fun _ _=>go 7 ?_
   exact Nz hsc _ results228 J trivial (Mm 6 Za (by first | (rw [Zvl ‹_›]<;>rfl) | (rw [Zvk hl ‹_›]<;>rfl)))
theorem Ybc(v:Value)(xs:List Int)(hv:Vp xs)(h0:xs≠[])(hf:Br xs)(F:Nat)(hC:Cv F xs):Cal prog 204 #[v] [Ym 2 wv v xs] true (G:=Value×List (SL×List Int)) (fun r=>r.2.map Prod.snd=chn F xs) (fun r=> .tuple #[r.1,.int .i64 0]) (fun r=>[Pq 1 Kk qZ r.1 r.2]):=by
 refine Zd func204 ntmps204 fun w0 sc hw hsc=>?_
 obtain⟨hC1,hC2,hC3⟩:=hC
 have hvq:=Zsv hv h0 hC1
 have hlq:=Zj2 hv hC1
 have hvqd:Vp (Yo (sqf F xs)):=Zea hvq (fun i hi=>hC2 i O)
 refine Ze (Np 999 2 93 wv)<|Ze (Pf 999 J J pV)<|go 9 ?_
 refine cl 2 [1] (st_sqf _ _ hv h0 hf F hC1) fun _ _=>go 11 ?_
 refine kf O3<|go 8 ?_
 refine cl 3 [2] (Ep _ _ hvq (fun i=>by by_cases hi:i<xs.length;exact hC2 i hi;rw [Yj O];simp [Lj])) fun _ _=>go 11 ?_
 refine kt O3<|go 5 ?_
 refine cl 80 [3] (Nq _ _ hvqd) fun _ _=>go 11 ?_
 refine kf O3<|go 6 ?_
 refine Zrq (Mp 2 J Zo) (fun ss hss=>?_)
 subst hss
 refine Ze (Oc qZ 71)<|Ze (Xt (q:=qZ) (z:=(ss,sqf F xs)) 71 2 71 J J J J J)<|Zrq (Mp 80 J Zo) (fun sd0 hsd=>?_)
 subst hsd
 refine go 2 ?_
 refine tt (Qd (i:=70) (ivs:=[(0,_)]) (enc:=Kk) [(ss,sqf F xs)] J J K2 Zlq ti39 J J J J J pS.cells J J hw.h) J fun v _=>go 5 ?_
 refine lp (G:=List (SL×List Int)×SL×List Int×SL×List Int×Nat×Value) [] [0,1,999,2,3] (fun q=>[(7,q.2.2.2.2.2.2),(6,Qo q.2.2.2.1)]) (fun q=>[(70,Ma 1 39 Kk q.2.2.2.2.2.2 (q.1 ++ [(q.2.1,q.2.2.1)])),(71,De qZ (q.1 ++ [(q.2.1,q.2.2.1)])),(80,Ym 2 wv (Qo q.2.2.2.1) q.2.2.2.2.1)]) (fun q=>(Vp q.2.2.1)∧(Vp q.2.2.2.2.1)∧(cok q.2.2.2.2.2.1 q.2.2.1 q.2.2.2.2.1)∧(q.1.map Prod.snd ++ Nx q.2.2.2.2.2.1 q.2.2.1 q.2.2.2.2.1=chn F xs)∧(q.1.length+q.2.2.2.2.1.length≤25)) (fun q=>q.2.2.2.2.1.length) ([],ss,sqf F xs,sd0,Zu (Yo (sqf F xs)),F,_) ⟨hvq,Kf hvqd,hC3,J,by rw [Zt];simp;have:=hvqd.len;omega⟩ K2 K3 ?_
 rintro⟨ws,sx,x,sd,y,f,vo⟩ ⟨hvx,hvy,hck,hch,hwl⟩
 dsimp only at hvx hvy hck hch hwl
 dsimp only
 refine go 8 ?_
 refine Zc J (fun h114=>?_) (fun h114=>?_)
 ·have hy0:y≠[]:=fun e=>by rw [e]at h114;simp at h114
  obtain⟨f0,rfl,hd,hle,hck2,hsc2⟩:=Zkr hck hy0
  refine go 7 ?_
  refine tt (Qd (i:=4) (ivs:=[(0,_)]) (enc:=Kk) [(sd,y)] J J K2 Zlq ti39 J J J J J pS.cells J J hw.h) J (fun v_2 _=>?_)
  refine tt (Kq (i:=70) (j:=4) (by_:=24) J J J J J J O3 J (Xa pS) Zlq ti39 J pS J J J O8 O3 J hw.h) J fun v_3 _=>go 4 ?_
  have hll:(ws ++ [(sx,x)] ++ [(sd,y)]).length=ws.length+2:=O5
  refine Ze (Xt (q:=qZ) (z:=(sd,y)) 71 80 71 J J J J J)<|Ze (Zdj (q:=qZ) 71 92 (sx,x) J J O5 J)<|go 5 ⟨O,?_⟩
  refine dt (Yf (ii:=70) (i:=ws.length) J J J J (Xa pS) Zlq sizeOf39)<|dt (Zj (r':=Qo sx) (Pj (ii:=70) Z0 J J J (Xa pS) pS) (by simp [List.getD_eq_getElem?_getD])) ?_
  refine go 1 ?_
  refine cl 80 [92,80] (Yhb _ _ _ _ hvx hvy hy0 hd hle) fun _ _=>?_
  refine Yiv (Mp 80 J Zo) (fun sn hsn=>?_)
  subst hsn
  refine go 10 ?_
  refine kf O3<|go 5 ?_
  exact Xb (ws ++ [(sx,x)],sd,y,sn,Ou x y,f0,_) ⟨hvy,Zpv hvx hd,hck2,by rw [←hch,hsc2];simp,by have h7:=Pi x hy0;have h8:=Zaj (y:=y) hvx.tr;simp;omega⟩ (by have h7:=Pi x hy0;have h8:=Zaj (y:=y) hvx.tr;dsimp only;omega) K2 K3
 ·refine go 6 ?_
  obtain rfl:y=[]:=List.eq_nil_of_length_eq_zero O
  refine Ze (Pf 70 J J pS)<|Ze (Hi 70 71 72 J J J J)<|go 7 ?_
  exact Nz hsc (_,ws ++ [(sx,x)]) results204 J (by rw [←hch,Ce];simp) (Mm 72 Za)
theorem Yhj(v:Value)(m:Nat)(xs:List Int)(hv:Vp xs)(hm:m≤1000):Oo prog 222 #[v,.int .i64 (m:Int)] [Ym 2 wv v xs] (.bool (decide (Zba xs m))):=by
 refine Zd func222 ntmps222 fun w0 sc hw hsc=>?_
 have hlen:=hv.len
 have hmz:=Qz hv.sz
 have q1:(xs.length+2)*(xs.length+2)≤27*27:=Nat.mul_le_mul O O
 have q2:(xs.length+2)*(xs.length+2)*(Qh xs+m+2*(xs.length-1)+32)≤27*27*70000:=Nat.mul_le_mul q1 O
 have q3:((xs.length:Int)-1+3)*((xs.length:Int)-1+3)=(((xs.length+2)*(xs.length+2):Nat):Int):=by rw [show(xs.length:Int)-1+3=((xs.length+2:Nat):Int) by omega];push_cast;rfl
 have q4:xs.length≠0→((xs.length:Int)-1+3)*((xs.length:Int)-1+3)*((Qh xs:Int)+(m:Int)+2*((xs.length:Int)-1)+32)=(((xs.length+2)*(xs.length+2)*(Qh xs+m+2*(xs.length-1)+32):Nat):Int):=fun h=>by rw [q3,show(Qh xs:Int)+(m:Int)+2*((xs.length:Int)-1)+32=((Qh xs+m+2*(xs.length-1)+32:Nat):Int) by omega];push_cast;rfl
 refine go 8 ?_
 refine cl 1 [1] (Zg5 _ _ hv) fun _ _=>go 10 ?_
 refine cl 1 [1] (Zmc _ _ hv) fun _ _=>go 13 ?_
 refine Yu (d:=22) J (fun s24=>?_) (fun s24=>?_)
 ·refine go 19 ?_
  exact Xj hsc () results222 (by first | exact sgf_t O | exact sgf_i O (q4 O)) trivial Za
 ·refine go 19 ⟨O,O,by rw [q3];exact⟨O,O⟩,O,O,O,O,by rw [q4 O];exact⟨O,O⟩,?_⟩
  exact Xj hsc () results222 (by first | exact sgf_t O | exact sgf_i O (q4 O)) trivial Za
theorem Ybw(v:Value)(xs:List Int)(hv:Vp xs):Oo prog 200 #[v] [Ym 2 wv v xs] (.bool (decide (Zba xs 0))):=by
 refine Zd func200 ntmps200 fun w0 sc hw hsc=>go 8 ?_
 refine cl 1 [1] (Xc _ _ ‹_›) fun _ _=>go 2 ?_
 refine Fl 1 [1] (Yhj _ 0 xs hv O) fun _ _=>go 5 ?_
 exact Xj hsc () results200 J trivial Za
theorem Ziz(x y:Int)(hx:bl x.natAbs≤65536)(hy:bl y.natAbs≤65536):Oo prog 201 #[rX x y] [] (.bool (efit (x,y))):=by
 refine Zd func201 ntmps201 fun w0 sc hw hsc=>go 2 ?_
 refine Yd (Yg 1) fun bx _=>go 4 ?_
 refine Xw (fun _=>False) [(0,0),(1,0),(3,0),(4,0),(2,1),(5,1),(6,0),(7,0),(8,3)]<|go 4 ?_
 refine Yx (Zh 1 [] (Zih _ hx)) fun _ _=>Yx (Zh 1 [] (Zih _ hy)) fun _ _=>?_
 refine Qe J J (Qa (Zkm J J J))<|go 5 ?_
 exact Xj hsc () results201 (by unfold efit;exact vB (decide_eq_decide.2 O9)) trivial Za
theorem Zi0(x y x2 y2:Int)(hx:bl x.natAbs≤65536)(hy:bl y.natAbs≤65536)(hx2:bl x2.natAbs≤65536)(hy2:bl y2.natAbs≤65536)(hp:0<y)(hp2:0<y2):Oo prog 202 #[rX x y,rX x2 y2] [] (.int .i64 (cmp (x,y) (x2,y2))):=by
 refine Zd func202 ntmps202 fun w0 sc hw hsc=>go 2 ?_
 refine Yd (Yg 1) fun bx _=>Yd (Yg 2) fun bx_2 _=>go 7 ?_
 refine cl 2 [] (Zd8 _ _ _ _ hx hy hx2 hy2 hp hp2) fun _ _=>go 14 ?_
 exact Xj hsc () results202 J trivial Za
theorem Zvu(bs:Nat)(v:Value)(xs:List Int)(x y:Int)(hx:bl x.natAbs≤65536)(hy:bl y.natAbs≤65536)(hp:0<y)(hv:Vp xs)(hE:¬Lg xs x y):Oo prog 207 #[.pointer (some ⟨bs,0,none⟩),v,rX x y] [Kr bs 236 #[.int .i64 0],Ym 2 wv v xs] (.int .i64 (fat x y xs)):=by
 refine Zd func207 ntmps207 fun w0 sc hw hsc=>go 2 ?_
 refine Yd (Yg 3) fun bx _=>go 7 ?_
 refine cl 3 [2] (Zqs _ _ _ _ hv hx hy hp) fun _ _=>go 2 ?_
 refine dt (Zj (r':= .int .i64 0) (Zap J J J) (congrArg (Value.int .i64) (if_neg hE)))<|go 11 ?_
 refine kt O3<|go 8 ?_
 refine tt (Zlr (i:=1) J J J J J J sizeOf31 J J (by simp [Value.oneCell']) J) J fun _ _=>go 9 ?_
 exact Xj hsc () results207 (by unfold fat;rw [show evv xs x y=pev xs x y from if_neg hE]<;>rfl) trivial Za
theorem Zix(v1 v2:Value)(bs:Nat)(ls cs:List (SL×List Int))(x y:Int)(hx:bl x.natAbs≤65536)(hy:bl y.natAbs≤65536)(hp:0<y)(hlsv:∀z∈ls,Vp z.2)(hlsE:∀z∈ls,¬Lg z.2 x y):Oo prog 179 #[.agg #[v1,v2],.pointer (some ⟨bs,0,none⟩),rX x y] [Pq 1 Kk qZ v1 ls,Pq 1 Kk qZ v2 cs,Kr bs 236 #[.int .i64 0]] (.int .i64 (vlu (ls.map Prod.snd) (x,y))):=by
 refine Zd func179 ntmps179 fun w0 sc hw hsc=>?_
 refine Nd (Hq (i:=1) J Zi) fun hlen=>go 2 ?_
 refine Yd (Yg 4) fun bx _=>Yd (Yg 5) fun bx_2 _=>go 12 ?_
 refine Zc J (fun h160=>?_) (fun h160=>?_)
 ·refine go 7 ?_
  exact Xj hsc () results179 (by unfold vlu;rw [List.length_map,if_pos O]<;>rfl) trivial Za
 ·refine go 3 ?_
  refine Xw (fun _=>False) [(0,0),(1,0),(2,0),(3,0),(4,0),(5,0),(6,1),(7,3)]<|go 4 ⟨O,?_⟩
  refine Qe J J (Qa (Pj (ii:=1) Z0 J J J Zi pS))<|go 1 ?_
  refine Fm J (Pk (n:=5) (Zvu _ (Qo (ls.getD 0 Z0).1) (ls.getD 0 Z0).2 _ _ hx hy hp (hlsv (ls.getD 0 Z0) (Zf)) (hlsE (ls.getD 0 Z0) (Zf))) J J J K3 call207 (Zk 3 J J J (Ycm 1 J J (Zf (i:=0) (zs:=ls) (d:=Z0)) Zw)) J hw.h) fun _ _=>go 4 ?_
  exact Xj hsc () results179 (by unfold vlu;rw [List.length_map,if_neg O,Zf6 _ O]<;>rfl) trivial Za
theorem Ybx(v1 v2:Value)(bs:Nat)(ls cs:List (SL×List Int))(x y:Int)(hx:bl x.natAbs≤65536)(hy:bl y.natAbs≤65536)(hp:0<y)(hlsv:∀z∈ls,Vp z.2)(hlsE:∀z∈ls,¬Lg z.2 x y):Oo prog 205 #[.agg #[v1,v2],.pointer (some ⟨bs,0,none⟩),rX x y] [Pq 1 Kk qZ v1 ls,Pq 1 Kk qZ v2 cs,Kr bs 236 #[.int .i64 0]] (.int .i64 (aft (ls.map Prod.snd) (x,y))):=by
 refine Zd func205 ntmps205 fun w0 sc hw hsc=>?_
 refine Nd (Hq (i:=1) J Zi) (fun hlen=>?_)
 have hLl:=Zj3 ls (fat x y)
 have hLg:=fun i (h:i<ls.length)=>Zqb ls (fat x y) h
 refine go 2 ?_
 refine Yd (Yg 4) fun bx _=>Yd (Yg 5) fun bx_2 _=>go 13 ?_
 refine lp (G:=Nat) [1,5,11,12] [0,1,2,3,4,5] (fun i=>[(13,.int .i64 (i:Int))]) (fun i=>[]) (fun i=>(i≤ls.length)∧(∀k,k<i→(sgx ls (fat x y)).getD k 0=0)) (fun i=>ls.length-i) 0 ⟨O1,fun k hk=>absurd hk (Nat.not_lt_zero k)⟩ K1 trivial ?_
 rintro i ⟨hi,hz⟩
 refine go 6 ?_
 refine Zc J (fun h168=>?_) (fun h168=>?_)
 ·refine go 7 ⟨O2,?_⟩
  refine dt (Pj (ii:=1) Z0 J J J Zi pS O2)<|go 4 ?_
  refine Ze (Znc 1 91 (ls.getD i Z0) J J (Zf) J)<|go 4 ?_
  refine cl 5 [3,91] (Zvu _ (Qo (ls.getD i Z0).1) (ls.getD i Z0).2 _ _ hx hy hp (hlsv (ls.getD i Z0) (Zf)) (hlsE (ls.getD i Z0) (Zf))) fun _ _=>go 9 ?_
  refine Zc J (fun h169=>?_) (fun h169=>?_)
  ·refine go 12 ?_
   exact Xj hsc () results205 (by rw [Zyk,Zrk ‹_› O hz (hLg i O)]<;>rfl) trivial Za
  ·refine go 7 ⟨O,?_⟩
   exact Xb (i+1) ⟨O1,fun k hk2=>by rcases Nat.lt_succ_iff_lt_or_eq.1 hk2 with h9 | h9;exact hz k h9;subst h9;rw [hLg _ O];exact Decidable.byContradiction ‹_›⟩ O1 K1 trivial
 ·refine go 11 ?_
  exact Xj hsc () results205 (by rw [Zyk,Zmp (fun k hk=>hz k O)]<;>rfl) trivial Za
theorem Zi1(v1 v2:Value)(bs:Nat)(ls cs:List (SL×List Int))(x y:Int)(hx:bl x.natAbs≤65536)(hy:bl y.natAbs≤65536)(hp:0<y)(hcsv:∀z∈cs,Vp z.2)(hcsE:∀z∈cs,¬Lg z.2 x y):Oo prog 229 #[.agg #[v1,v2],.pointer (some ⟨bs,0,none⟩),rX x y] [Pq 1 Kk qZ v1 ls,Pq 1 Kk qZ v2 cs,Kr bs 236 #[.int .i64 0]] (.int .i64 (chv (cs.map Prod.snd) (x,y))):=by
 refine Zd func229 ntmps229 fun w0 sc hw hsc=>?_
 refine Nd (Hq (i:=2) J Zi) (fun hlen=>?_)
 have hLl:=Zj3 cs (fat x y)
 have hLg:=fun i (h:i<cs.length)=>Zqb cs (fat x y) h
 refine go 2 ?_
 refine Yd (Yg 4) fun bx _=>Yd (Yg 5) fun bx_2 _=>go 19 ?_
 refine lp (G:=Nat×Int×Int) [1,5,13,14] [0,1,2,3,4,5] (fun q=>[(15,.int .i64 (q.1:Int)),(7,.int .i64 q.2.1),(8,.int .i64 q.2.2)]) (fun q=>[]) (fun q=>(q.1≤cs.length)∧((q.2.1,q.2.2)=((sgx cs (fat x y)).take q.1).foldl Nu (0,0))∧(0≤q.2.1)∧(q.2.1≤(q.1:Int))∧(-1≤q.2.2∧q.2.2≤1)) (fun q=>cs.length-q.1) (0,0,0) ⟨O1,O5,O1,O1,O1⟩ K3 trivial ?_
 rintro⟨i,n,l⟩ ⟨hi,hc,hn0,hn1,hl⟩
 dsimp only at hi hc hn0 hn1 hl
 dsimp only
 have hfr:=fat_r x y (cs.getD i Z0).2
 refine go 6 ?_
 refine Zc J (fun h179=>?_) (fun h179=>?_)
 ·refine go 7 ⟨O2,?_⟩
  refine dt (Pj (ii:=2) Z0 J J J Zi pS O2)<|go 4 ?_
  refine Ze (Znc 2 91 (cs.getD i Z0) J J (Zf) J)<|go 4 ?_
  refine cl 5 [3,91] (Zvu _ (Qo (cs.getD i Z0).1) (cs.getD i Z0).2 _ _ hx hy hp (hcsv (cs.getD i Z0) (Zf)) (hcsE (cs.getD i Z0) (Zf))) fun _ _=>go 12 ⟨sgm_i hfr hl,?_⟩
  refine Zc J (fun h181=>?_) (fun h181=>?_)
  ·refine go 12 ⟨O,?_⟩
   refine Zc J (fun h184=>?_) (fun h184=>?_)
   ·refine go 10 ⟨O,?_⟩
    exact Xb (i+1,_,_) ⟨O1,by first | exact Zxz O hc (hLg i O) (Decidable.byContradiction ‹_›) | exact Zxy O hc (hLg i O) ‹_› (Zvs hfr O ‹_›) | exact Zxx O hc (hLg i O) ‹_› (Zvr hfr O ‹_› ‹_›) | exact absurd ‹_› (Zvt (Decidable.byContradiction ‹_›)),by first | exact hn0 | (dsimp only;omega),O9,by first | exact hl | exact hfr⟩ O1 K3 trivial
   ·refine go 7 ⟨O,?_⟩
    exact Xb (i+1,_,_) ⟨O1,by first | exact Zxz O hc (hLg i O) (Decidable.byContradiction ‹_›) | exact Zxy O hc (hLg i O) ‹_› (Zvs hfr O ‹_›) | exact Zxx O hc (hLg i O) ‹_› (Zvr hfr O ‹_› ‹_›) | exact absurd ‹_› (Zvt (Decidable.byContradiction ‹_›)),by first | exact hn0 | (dsimp only;omega),O9,by first | exact hl | exact hfr⟩ O1 K3 trivial
  ·refine go 8 ?_
   refine Zc J (fun h184_2=>?_) (fun h184_2=>?_)
   ·refine go 10 ⟨O,?_⟩
    exact Xb (i+1,_,_) ⟨O1,by first | exact Zxz O hc (hLg i O) (Decidable.byContradiction ‹_›) | exact Zxy O hc (hLg i O) ‹_› (Zvs hfr O ‹_›) | exact Zxx O hc (hLg i O) ‹_› (Zvr hfr O ‹_› ‹_›) | exact absurd ‹_› (Zvt (Decidable.byContradiction ‹_›)),by first | exact hn0 | (dsimp only;omega),O9,by first | exact hl | exact hfr⟩ O1 K3 trivial
   ·refine go 7 ⟨O,?_⟩
    exact Xb (i+1,_,_) ⟨O1,by first | exact Zxz O hc (hLg i O) (Decidable.byContradiction ‹_›) | exact Zxy O hc (hLg i O) ‹_› (Zvs hfr O ‹_›) | exact Zxx O hc (hLg i O) ‹_› (Zvr hfr O ‹_› ‹_›) | exact absurd ‹_› (Zvt (Decidable.byContradiction ‹_›)),by first | exact hn0 | (dsimp only;omega),O9,by first | exact hl | exact hfr⟩ O1 K3 trivial
 ·refine go 12 ?_
  exact Xj hsc () results229 (by rw [Yjy,Yj2 O hc]<;>rfl) trivial Za
theorem Zs7(v1 v2:Value)(bs:Nat)(ls cs:List (SL×List Int))(x y x2 y2:Int)(hx:bl x.natAbs≤65536)(hy:bl y.natAbs≤65536)(hx2:bl x2.natAbs≤65536)(hy2:bl y2.natAbs≤65536)(hp:0<y)(hp2:0<y2)(hcsv:∀z∈cs,Vp z.2)(hcsE:∀z∈cs,¬Lg z.2 x y)(hcsF:∀z∈cs,¬Lg z.2 x2 y2)(hlc:cs.length≤1000):Oo prog 206 #[.agg #[v1,v2],.pointer (some ⟨bs,0,none⟩),rX x y,rX x2 y2] [Pq 1 Kk qZ v1 ls,Pq 1 Kk qZ v2 cs,Kr bs 236 #[.int .i64 0]] (.bool (crb (cs.map Prod.snd) (x,y) (x2,y2))):=by
 refine Zd func206 ntmps206 fun w0 sc hw hsc=>?_
 refine Nd (Hq (i:=2) J Zi) (fun hlen=>?_)
 have hr1:=chv_r (cs.map Prod.snd) (x,y)
 have hr2:=chv_r (cs.map Prod.snd) (x2,y2)
 rw [List.length_map]at hr1 hr2
 refine go 2 ?_
 refine Yd (Yg 4) fun bx _=>Yd (Yg 5) fun bx_2 _=>Yd (Yg 6) fun bx_3 _=>go 12 ?_
 refine Zc J (fun h193=>?_) (fun h193=>?_)
 ·refine go 7 ?_
  exact Xj hsc () results206 (by unfold crb;rw [List.length_map,if_pos O]<;>rfl) trivial Za
 ·refine go 3 ?_
  refine Xw (fun _=>False) [(0,0),(1,0),(2,0),(4,0),(5,0),(6,0),(3,1),(7,1),(8,0),(9,3)]<|go 6 ?_
  refine Yx (Zh 6 [1,2,3] (Zi1 _ _ _ _ _ _ _ hx hy hp hcsv hcsE)) fun _ _=>Yx (Zh 6 [1,2,3] (Zi1 _ _ _ _ _ _ _ hx2 hy2 hp2 hcsv hcsF)) fun _ _=>go 6 ⟨O,?_⟩
  refine Xw (fun _=>False) [(0,0),(1,0),(2,0),(3,0),(4,0),(5,0),(6,1),(7,0)]<|go 4 ⟨O,?_⟩
  refine Qe J J (Qa (Pj (ii:=2) Z0 J J J Zi pS))<|go 1 ?_
  refine Fm J (Pk (n:=6) (Zvu _ (Qo (cs.getD 0 Z0).1) (cs.getD 0 Z0).2 _ _ hx2 hy2 hp2 (hcsv (cs.getD 0 Z0) (Zf)) (hcsF (cs.getD 0 Z0) (Zf))) J J J K3 call207 (Zk 3 J J J (Ycm 2 J J (Zf (i:=0) (zs:=cs) (d:=Z0)) Zw)) J hw.h) fun _ _=>go 3 ?_
  refine Zc J (fun h197=>?_) (fun h197=>?_)
  ·refine go 14 ⟨O,?_⟩
   exact Xj hsc () results206 (by first | exact crb_t O ‹_› | exact crb_f O ‹_›) trivial Za
  ·refine go 10 ?_
   exact Xj hsc () results206 (by first | exact crb_t O ‹_› | exact crb_f O ‹_›) trivial Za
theorem Zbb(v1 v2:Value)(bs:Nat)(ls cs:List (SL×List Int))(x y x2 y2:Int)(hp:0<y)(hp2:0<y2)(hlsv:∀z∈ls,Vp z.2)(hlsE:∀z∈ls,¬Lg z.2 x y)(hcsv:∀z∈cs,Vp z.2)(hcsE:∀z∈cs,¬Lg z.2 x y)(hcsF:∀z∈cs,¬Lg z.2 x2 y2)(hlc:cs.length≤1000)(hx:bl x.natAbs≤65536:=by omega)(hy:bl y.natAbs≤65536:=by omega)(hx2:bl x2.natAbs≤65536:=by omega)(hy2:bl y2.natAbs≤65536:=by omega):Oo prog 178 #[.agg #[v1,v2],.pointer (some ⟨bs,0,none⟩),rX x y,rX x2 y2] [Pq 1 Kk qZ v1 ls,Pq 1 Kk qZ v2 cs,Kr bs 236 #[.int .i64 0]] (.bool (ngb (ls.map Prod.snd) (cs.map Prod.snd) (x,y) (x2,y2))):=by
 refine Zd func178 ntmps178 fun w0 sc hw hsc=>go 2 ?_
 refine Yd (Yg 4) fun bx _=>Yd (Yg 5) fun bx_2 _=>Yd (Yg 6) fun bx_3 _=>go 8 ?_
 refine cl 6 [] (Zi0 _ _ _ _ hx hy hx2 hy2 hp hp2) fun _ _=>go 3 ?_
 refine Zc J (fun h205=>?_) (fun h205=>?_)
 ·refine go 5 ?_
  refine cl 6 [1,2,3] (Zix _ _ _ _ _ _ _ hx hy hp hlsv hlsE) fun _ _=>go 6 ?_
  exact Xj hsc () results178 (by unfold ngb;rw [if_pos ‹_›]) trivial Za
 ·refine go 7 ?_
  refine cl 6 [1,2,3] (Ybx _ _ _ _ _ _ _ hx hy hp hlsv hlsE) fun _ _=>go 2 ?_
  refine Yu (d:=23) J (fun s208=>?_) (fun s208=>?_)
  ·refine go 10 ?_
   exact Xj hsc () results178 (by first | exact ngb_t ‹_› ‹_› | exact ngb_f ‹_› ‹_›) trivial Za
  ·refine go 4 ?_
   refine Fl 6 [1,2,3] (Zs7 _ _ _ _ _ _ _ _ _ hx hy hx2 hy2 hp hp2 hcsv hcsE hcsF hlc) fun _ _=>go 5 ?_
   exact Xj hsc () results178 (by first | exact ngb_t ‹_› ‹_› | exact ngb_f ‹_› ‹_›) trivial Za
theorem Zyy(bs:Nat)(x y x2 y2:Int)(hx:bl x.natAbs≤65536)(hy:bl y.natAbs≤65536)(hx2:bl x2.natAbs≤65536)(hy2:bl y2.natAbs≤65536)(hp:0<y)(hp2:0<y2)(hm:Zc8 (x,y) (x2,y2)):Oo prog 208 #[.pointer (some ⟨bs,0,none⟩),rX x y,rX x2 y2] [Kr bs 236 #[.int .i64 0]] (.agg #[.bool (decide ((Qy (x,y) (x2,y2)).1<0)),.string (Xp (Qy (x,y) (x2,y2)).1.natAbs),.bool (decide ((Qy (x,y) (x2,y2)).2<0)),.string (Xp (Qy (x,y) (x2,y2)).2.natAbs)]):=by
 refine Zd func208 ntmps208 fun w0 sc hw hsc=>?_
 have hq:¬Mz (x*y2+x2*y) (y*y2):=hm.1
 obtain⟨hn1,hn2,hn3⟩:=Ci hq
 obtain⟨hb1,hb2⟩:=nr_bl hq
 have hdp:=Ztp hq (Int.mul_pos hp hp2)
 have hm2:=Zzn hm
 refine go 2 ?_
 refine Yd (Yg 2) fun bx _=>Yd (Yg 3) fun bx_2 _=>Yd (Zs 4) fun bx_3 _=>go 6 ?_
 refine cl 4 [] (Zk6 _ _ _ _ hx hy hx2 hy2 hp hp2) fun _ _=>go 2 ?_
 refine dt (Zj (r':= .int .i64 0) (Zap J J J) (congrArg (Value.int .i64) hn3))<|Yd (Zs 5) fun bx_4 _=>go 11 ?_
 refine kt O3<|go 8 ?_
 refine tt (Zlr (i:=1) J J J J J J sizeOf31 J J (by simp [Value.oneCell']) J) J fun _ _=>go 3 ?_
 refine Mq [5] [10]<|Zm (n:=10) [(0,0)]<|go 2 ?_
 refine Qq (n:=9) 1 8 ?_ ?_
 ·refine Ny (Zh 5 [] (Zp _ ⟨O3,O3⟩)) fun _ _=>?_
  refine Qq (n:=8) 2 8 ?_ ?_
  ·refine Ny (Zh 5 [] (Zp _ ⟨O3,O3⟩)) fun _ _=>?_
   refine Zm (n:=7) [(3,0)]<|Qe J J (stf (Xl (ivs:=[(0,_),(1,_)]) J K4 (fun a w hs=>Zfr)) K1)<|go 1 ?_
   refine Qq (n:=6) 4 8 ?_ ?_
   ·refine Ny (Zh 5 [] (Fy _ _ 1 2 hb1 hb2 O7 O7 hdp)) fun _ _=>?_
    refine Zm (n:=0) [(5,0),(6,0),(7,0),(8,1),(9,1),(10,3)]<|go 2 ?_
    refine Qe J J (stf (Zj (r':= .int .i64 0) (Zap J J J) (congrArg (Value.int .i64) hm2)) K1)<|Yx (Oj 6) fun bx_5 ho=>go 3 ?_
    refine Zy<|go 8 ?_
    refine kt O3<|go 8 ?_
    refine tt (Zlr (i:=1) J J J J J J sizeOf31 J J (by simp [Value.oneCell']) J) J fun _ _=>go 9 ?_
    exact Xj hsc () results208 J trivial Za
   ·refine Ny (Oj 7) fun bx_6 ho2=>?_
    refine Zm (n:=0) [(4,1),(5,0),(6,0),(7,0),(9,1),(10,3)]<|Yx (Zh 7 [] (Fy _ _ 1 2 hb1 hb2 O7 O7 hdp)) fun _ _=>go 2 ?_
    refine Qe J J (stf (Zj (r':= .int .i64 0) (Zap J J J) (congrArg (Value.int .i64) hm2)) K1)<|go 3 ?_
    refine Zy<|go 8 ?_
    refine kt O3<|go 8 ?_
    refine tt (Zlr (i:=1) J J J J J J sizeOf31 J J (by simp [Value.oneCell']) J) J fun _ _=>go 9 ?_
    exact Xj hsc () results208 J trivial Za
  ·refine Ny (Oj 8) fun bx_7 ho3=>?_
   refine Zm (n:=0) [(2,1),(3,0),(4,1),(5,0),(6,0),(7,0),(9,1),(10,3)]<|Yx (Zh 8 [] (Zp _ ⟨O3,O3⟩)) fun _ _=>?_
   refine Qe J J (stf (Xl (ivs:=[(0,_),(1,_)]) J K4 (fun a w hs=>Zfr)) K1)<|Yx (Zh 8 [] (Fy _ _ 1 2 hb1 hb2 O7 O7 hdp)) fun _ _=>go 2 ?_
   refine Qe J J (stf (Zj (r':= .int .i64 0) (Zap J J J) (congrArg (Value.int .i64) hm2)) K1)<|go 3 ?_
   refine Zy<|go 8 ?_
   refine kt O3<|go 8 ?_
   refine tt (Zlr (i:=1) J J J J J J sizeOf31 J J (by simp [Value.oneCell']) J) J fun _ _=>go 9 ?_
   exact Xj hsc () results208 J trivial Za
 ·refine Ny (Oj 9) fun bx_8 ho4=>?_
  refine Zm (n:=0) [(1,1),(2,1),(3,0),(4,1),(5,0),(6,0),(7,0),(9,1),(10,3)]<|Yx (Zh 9 [] (Zp _ ⟨O3,O3⟩)) fun _ _=>Yx (Zh 9 [] (Zp _ ⟨O3,O3⟩)) fun _ _=>?_
  refine Qe J J (stf (Xl (ivs:=[(0,_),(1,_)]) J K4 (fun a w hs=>Zfr)) K1)<|Yx (Zh 9 [] (Fy _ _ 1 2 hb1 hb2 O7 O7 hdp)) fun _ _=>go 2 ?_
  refine Qe J J (stf (Zj (r':= .int .i64 0) (Zap J J J) (congrArg (Value.int .i64) hm2)) K1)<|go 3 ?_
  refine Zy<|go 8 ?_
  refine kt O3<|go 8 ?_
  refine tt (Zlr (i:=1) J J J J J J sizeOf31 J J (by simp [Value.oneCell']) J) J fun _ _=>go 9 ?_
  exact Xj hsc () results208 J trivial Za
abbrev RZ:=(Bool×ByteArray)×(Bool×ByteArray)
abbrev Q0:RZ:=((false,⟨#[]⟩),(false,⟨#[]⟩))
def qOK(z:RZ):Bool:=okR z.1.1 z.1.2 z.2.1 z.2.2
noncomputable def qx (z:RZ):Int:=if h:okR z.1.1 z.1.2 z.2.1 z.2.2=true then(Yda h).choose else 0
noncomputable def qy (z:RZ):Int:=if h:okR z.1.1 z.1.2 z.2.1 z.2.2=true then(Yda h).choose_spec.choose else 0
theorem Zlx(x y x2 y2:Int)(hp:0<y)(hp2:0<y2)(hx:bl x.natAbs≤65536:=by omega)(hy:bl y.natAbs≤65536:=by omega)(hx2:bl x2.natAbs≤65536:=by omega)(hy2:bl y2.natAbs≤65536:=by omega):Oo prog 177 #[rX x y,rX x2 y2] [] (.agg #[.bool (decide ((slow (x,y)).1<0)),.string (Xp (slow (x,y)).1.natAbs),.bool (decide ((slow (x,y)).2<0)),.string (Xp (slow (x,y)).2.natAbs),.bool (decide ((slow (x2,y2)).1<0)),.string (Xp (slow (x2,y2)).1.natAbs),.bool (decide ((slow (x2,y2)).2<0)),.string (Xp (slow (x2,y2)).2.natAbs)]):=by
 refine Zd func177 ntmps177 fun w0 sc hw hsc=>go 2 ?_
 refine Yd (Yg 1) fun bx _=>Yd (Yg 2) fun bx_2 _=>Yd (Zs 3) fun bx_3 _=>go 8 ?_
 refine cl 3 [] (Dw _ _ hx hy) fun _ _=>go 3 ?_
 refine Yd (Zs 4) fun bx_4 _=>go 10 ?_
 refine cl 4 [] (Dw _ _ hx2 hy2) fun _ _=>go 3 ?_
 refine Yd (Zs 5) fun bx_5 _=>go 8 ?_
 refine dt (Xl (ivs:=[(0,_),(1,_)]) J K4 (fun a w hs=>Ykf))<|go 4 ?_
 exact Xj hsc () results177 J trivial Za
theorem Zqc(v:Value)(xs:List Int)(hv:Vp xs)(h0:xs≠[]):Cal prog 224 #[v] [Ym 2 wv v xs] true (G:=Value) (fun r=>True) (fun r=> .tuple #[r,.int .i64 0]) (fun r=>[Ym 2 wv r (Yt xs)]):=by
 refine Zd func224 ntmps224 fun w0 sc hw hsc=>?_
 have hvp:=Kf hv
 have hl0:=List.length_pos_iff.2 h0
 have hlp:=Zt xs
 have hlen:=hv.len
 refine go 9 ?_
 refine cl 2 [1] (Nq _ _ hv) fun _ _=>go 11 ?_
 refine kt O3<|go 3 ?_
 refine ktg (decide_eq_true O)<|go 6 ⟨O,?_⟩
 refine Ly (Yf (ii:=2) (i:=((Zu xs).length-1)) J J J J Zo Nn Ke) J J<|go 1 ⟨O2,?_⟩
 refine Fl 2 [] (Kl _ (hvp.sz _)) fun _ _=>go 4 ?_
 refine Zc J (fun h63=>?_) (fun h63=>?_)
 ·refine go 3 ?_
  refine cl 2 [] (Zp _ ⟨O3,O3⟩) fun _ _=>cl 3 [2] (Ic _ _ _ hvp O7 (fun i=>Zau hvp.sz i)) fun _ _=>go 8 ?_
  exact Nz hsc _ results224 J trivial (Mm 3 Za (by rw [Zn5 O ((Pm _).1 ‹_›)]<;>rfl))
 ·refine go 11 ?_
  exact Nz hsc _ results224 J trivial (Mm 2 Za (by rw [Zn4 (fun h=>by have h2:=(Pm _).2 h;exact absurd h2 ‹_›)]<;>rfl))
theorem sg_odd(v:Value)(xs:List Int)(hd:Cvd xs)(h0:xs≠[]):Cal prog 203 #[v] [Ym 2 wv v xs] true (G:=Value) (fun r=>True) (fun r=> .tuple #[r,.int .i64 0]) (fun r=>[Ym 2 wv r (Ix xs)]):=by
 refine Zd func203 ntmps203 fun w0 sc hw hsc=>?_
 refine Ze (Np 999 2 93 wv)<|Ze (Pf 999 J J pV)<|go 9 ?_
 refine cl 2 [1] (Zqc _ _ hd.v h0) fun _ _=>go 11 ?_
 refine kf O3<|go 7 ?_
 refine tt (Qd (i:=3) (ivs:=[(0,_)]) (enc:=Yl) ([1]:List Int) J J K2 Et ti3 J J J J J pZ.cells J J hw.h) J (fun v _=>?_)
 refine Qn (Pf 3 J J pZ)<|cl 4 [3] (Zh3 _ _ (fun x h=>by rw [List.mem_singleton.1 h];exact⟨O3,O3⟩)) fun _ _=>go 18 ?_
 refine Ze (Pb 2 80 J J J)<|Ze (Pb 4 81 J J J)<|Ze (Pb 999 82 J J J)<|lp (G:=Value×Value×Value×List Int×List Int×List Int×Nat) [] [0,1,999,2,3,4] (fun q=>[(4,q.1),(6,q.2.1),(8,q.2.2.1),(9,.int .i64 (q.2.2.2.2.2.2:Int))]) (fun q=>[(80,Ym 2 wv q.1 q.2.2.2.1),(81,Ym 2 wv q.2.1 q.2.2.2.2.1),(82,Ym 2 wv q.2.2.1 q.2.2.2.2.2.1)]) (fun q=>(OddI xs q.2.2.2.2.2.2 q.2.2.2.1 q.2.2.2.2.1 q.2.2.2.2.2.1)∧(1≤q.2.2.2.2.2.2)∧(q.2.2.2.2.2.2+q.2.2.2.1.length≤12)) (fun q=>q.2.2.2.1.length) (_,_,_,Yt xs,[1],[],1) ⟨OddI.start hd h0,O1,by have:=Qr hd.v.tr;have:=hd.l;dsimp only;omega⟩ K4 K3 ?_
 rintro⟨vr,vo,vb,rest,out,bef,t⟩ ⟨hI,ht1,ht2⟩
 dsimp only at hI ht1 ht2
 dsimp only
 obtain⟨a1,a2,a3,a4,a5,a6,a7,a8,a9,a10,a11,a12,a13,a14,a15,a16,a17,a18⟩:=Zce hd h0 (hI.dp hd h0)
 obtain⟨o1,o2,o3⟩:=hI.out hd h0
 refine go 5 ?_
 refine cl 5 [80] (Ep _ _ a1 a3) fun _ _=>go 11 ?_
 refine kf O3<|go 9 ?_
 refine cl 6 [80,5] (Zqt _ _ _ _ a1 a4 13 a5 a6) fun _ _=>?_
 refine Qn (Mt 6 (q:=Ym 2 wv _ (Pd 13 rest)) (congrArg (Ym 2 wv _) a7) J J)<|go 11 ?_
 refine kf O3<|go 9 ?_
 refine cl 7 [80,6] (Zbg _ _ _ _ a1 a8 a9) fun _ _=>?_
 refine Qn (Mt 7 (q:=Ym 2 wv _ (sqf 13 rest)) (congrArg (Ym 2 wv _) ((if_pos a10).trans a11)) J J)<|go 11 ?_
 refine kf (decide_eq_false (fun h=>h (if_pos a10)))<|go 9 ?_
 refine dt (Zkk J J J)<|go 3 ?_
 refine Zc J (fun h91=>?_) (fun h91=>?_)
 ·have ht:t%2=0:=O
  obtain⟨e1,e2,e3,e4,e5,e6,e7,e8⟩:=hI.even hd h0 ht
  refine go 4 ?_
  refine cl 8 [82,7] (Zbg _ _ _ _ e1 a12 e2) fun _ _=>?_
  refine Qn (Mt 8 (q:=Ym 2 wv _ (Ll bef (sqf 13 rest))) (congrArg (Ym 2 wv _) (if_pos e3)) J J)<|go 11 ?_
  refine kf (decide_eq_false (fun h=>h (if_pos e3)))<|go 9 ?_
  refine cl 9 [81,8] (Zjh _ _ _ _ o1 e4 e5) fun _ _=>go 10 ?_
  refine kf O3<|go 13 ?_
  refine Zc J (fun h101=>?_) (fun h101=>?_)
  ·refine go 13 ?_
   exact Nz hsc _ results203 J trivial (Mm 9 Za (by first | (rw [hI.odd_end hd h0 O O]<;>rfl) | (rw [e6 O]<;>rfl)))
  ·refine go 15 ⟨O,?_⟩
   exact Yn (Pb 6 80 J J J)<|Yn (Pb 9 81 J J J)<|Yn (Pb 7 82 J J J)<|Xb (_,_,_,Pd 13 rest,_,sqf 13 rest,t+1) ⟨by first | exact hI.odd_next O O | exact e7 O,O1,by have:=a17 O;dsimp only;omega⟩ (a17 O) K4 K3
 ·have ht:t%2=1:=O
  refine go 10 ?_
  refine Zc J (fun h101_2=>?_) (fun h101_2=>?_)
  ·refine go 13 ?_
   exact Nz hsc _ results203 J trivial (Mm 81 Za (by first | (rw [hI.odd_end hd h0 O O]<;>rfl) | (rw [e6 O]<;>rfl)))
  ·refine go 15 ⟨O,?_⟩
   exact Yn (Pb 6 80 J J J)<|Yn (Pb 7 82 J J J)<|Xb (_,_,_,Pd 13 rest,_,sqf 13 rest,t+1) ⟨by first | exact hI.odd_next O O | exact e7 O,O1,by have:=a17 O;dsimp only;omega⟩ (a17 O) K4 K3
theorem sg_of(v:Value)(xs:List Int)(hd:Cvd xs):Cal prog 176 #[v] [Ym 2 wv v xs] true (G:=Value×List (SL×List Int)×Value×List (SL×List Int)) (fun r=>r.2.1.map Prod.snd=Py xs∧r.2.2.2.map Prod.snd=chx xs) (fun r=> .tuple #[.agg #[r.1,r.2.2.1],.int .i64 0]) (fun r=>[Pq 1 Kk qZ r.1 r.2.1,Pq 1 Kk qZ r.2.2.1 r.2.2.2]):=by
 refine Zd func176 ntmps176 fun w0 sc hw hsc=>?_
 refine Zrq (Mp 1 J Zo) (fun sv hsv=>?_)
 subst hsv
 have hv:=hd.v
 refine Ze (Np 999 2 93 wv)<|Ze (Pf 999 J J pV)<|go 2 ?_
 refine Yd (Zs 2) fun bx _=>go 5 ?_
 refine Yd (Zs 3) fun bx_2 _=>go 10 ?_
 refine Zc J (fun h129=>?_) (fun h129=>?_)
 ·refine go 9 ?_
  exact Yn (Np 70 1 39 (Kk (α:=List Int)))<|Yn (Oc qZ 71)<|Yn (Pf 70 J J pS)<|Yn (Hi 70 71 72 J J J J)<|Nz hsc (.slice none 0 0,[],.slice none 0 0,[]) results176 J ⟨(Zms O).symm,(Yjw O).symm⟩ (Mm 72 (Mm 72 Za))
 ·have h0:xs≠[]:=fun e=>by rw [e]at h129;simp at h129
  obtain⟨q1,q2,q3,q4,q5⟩:=Ze0 hd h0
  refine go 11 ?_
  refine Ze (Np 70 1 39 (Kk (α:=List Int)))<|Ze (Oc qZ 71)<|Ze (Pb 1 80 J J J)<|lp (G:=List (SL×List Int)×SL×List Int×Value×Nat) [0,2,4] [0,1,999,2] (fun q=>[(5,Qo q.2.1)]) (fun q=>[(70,Ma 1 39 Kk q.2.2.2.1 q.1),(71,De qZ q.1),(80,Ym 2 wv (Qo q.2.1) q.2.2.1),(3,box bx_2 232 #[q.2.2.2.1,.slice none 0 0])]) (fun q=>(Vp q.2.2.1)∧(Sz q.2.2.2.2 q.2.2.1)∧(q.2.2.2.2+5*q.2.2.1.length≤230)∧(q.1.length+q.2.2.1.length≤9)∧(q.1.map Prod.snd ++ Py q.2.2.1=Py xs)) (fun q=>q.2.2.1.length) ([],sv,xs,_,185) ⟨hv,hd.s,by have:=hd.l;dsimp only;omega,by have:=hd.l;simp;omega,rfl⟩ K1 K4 ?_
  rintro⟨ws,sd,y,vo,k⟩ ⟨hy,hys,hk,hyl,hws⟩
  dsimp only at hy hys hk hyl hws
  dsimp only
  refine go 8 ?_
  refine Zc J (fun h132=>?_) (fun h132=>?_)
  ·refine go 4 ?_
   have hpl:=Oi y
   have hdz:∀i,bl (cf y (i+1)*((i:Int)+1)).natAbs≤65536:=fun i=>by have h:=Ca hys O i;rw [Aj]at h;omega
   refine go 4 ?_
   refine tt (Qd (i:=4) (ivs:=[(0,_)]) (enc:=Kk) [(sd,y)] J J K2 Zlq ti39 J J J J J pS.cells J J hw.h) J (fun v _=>?_)
   refine tt (Kq (i:=70) (j:=4) (by_:=24) J J J J J J O3 J (Xa pS) Zlq ti39 J pS J J J O8 O3 J hw.h) J fun v_2 _=>go 7 ?_
   refine cl 84 [80] (Ep _ _ hy hdz) fun _ _=>?_
   refine Yiv (Mp 84 J Zo) (fun sn hsn=>?_)
   subst hsn
   refine go 10 ?_
   refine kf O3<|go 5 ?_
   exact Yn (Xt (q:=qZ) (z:=(sd,y)) 71 80 71 J J J J J)<|Yn (Pb 84 80 J J J)<|Xb (ws ++ [(sd,y)],sn,Yo y,_,k+5) ⟨Zea hy (fun i _=>hdz i),Ca hys O,O9,by dsimp only;simp;omega,by dsimp only;rw [List.map_append,List.append_assoc,←hws,Zz7 (p:=y) O];rfl⟩ O9 K1 K4
  ·refine go 6 ?_
   have hy0:y.length=0:=O
   have hw2:ws.map Prod.snd=Py xs:=by rw [←hws,Zms hy0,List.append_nil]
   refine Ze (Pf 70 J J pS)<|Ze (Hi 70 71 72 J J J J)<|go 2 ?_
   refine cl 5 [1] (sg_odd _ _ hd h0) fun _ _=>go 11 ?_
   refine kf O3<|go 8 ?_
   refine cl 6 [5] (Ybc _ _ q2 q1.one q5 13 q1.ok) fun g hg=>go 17 ?_
   exact Nz hsc (_,ws,_,g.2) results176 J ⟨hw2,(hg).trans (chx_ne O).symm⟩ (Mm 72 (Mm 6 Za))
theorem Zqe(v:Value)(xs:List Int)(x y x2 y2:Int)(hp:0<y)(hp2:0<y2)(hv:Vp xs)(hf:Zba xs 0)(he1:efit (x,y)=true)(he2:efit (x2,y2)=true)(hx:bl x.natAbs≤65536:=by omega)(hy:bl y.natAbs≤65536:=by omega)(hx2:bl x2.natAbs≤65536:=by omega)(hy2:bl y2.natAbs≤65536:=by omega):Oo prog 175 #[v,rX x y,rX x2 y2,.slice none 0 0] [Ym 2 wv v xs] (.int .i64 (if 0<cmp (x,y) (x2,y2)then 3 else 0)):=by
 refine Zd func175 ntmps175 fun w0 sc hw hsc=>?_
 refine Ze (Np 999 2 93 wv)<|Ze (Pf 999 J J pV)<|go 2 ?_
 refine Yd (Yg 2) fun bx _=>Yd (Yg 3) fun bx_2 _=>go 7 ?_
 refine cl 3 [1] (Xc _ _ ‹_›) fun _ _=>?_
 refine dt (dF (Yp J J) (vB O3))<|go 2 ?_
 refine Fl 3 [] (Mn _ _ hx hy hp) fun _ _=>?_
 refine Ly (dF (Yp J J) (vB O3)) J J<|go 3 ?_
 refine Fl 3 [] (Mn _ _ hx2 hy2 hp2) fun _ _=>?_
 refine Ly (dF (Yp J J) (vB O3)) J J<|go 4 ?_
 refine kfg O3<|go 9 ?_
 refine cl 3 [1] (Ybw _ _ hv) fun _ _=>?_
 refine dt (dF (d_not J J) (vB (decide_eq_false (fun h=>h hf))))<|go 2 ?_
 refine Fl 3 [] (Ziz _ _ hx hy) fun _ _=>?_
 refine Ly (dF (Yp J J) (vB (by rw [he1];rfl))) J J<|go 3 ?_
 refine Fl 3 [] (Ziz _ _ hx2 hy2) fun _ _=>?_
 refine Ly (dF (Yp J J) (vB (by rw [he2];rfl))) J J<|go 13 ?_
 refine lp (G:=Unit) [5,6,43,44] [0,1,999,2,3] (fun _=>[(45,.int .i64 0),(9,.bool false)]) (fun _=>[]) (fun _=>True) (fun _=>0) () trivial K2 trivial ?_
 rintro _ -
 refine go 2 ?_
 refine kf O3<|go 14 ?_
 refine cl 3 [] (Zi0 _ _ _ _ hx hy hx2 hy2 hp hp2) fun _ _=>go 3 ?_
 refine Zc J (fun h45=>?_) (fun h45=>?_)
 ·refine go 7 ?_
  exact Xj hsc () results175 (by rw [if_pos ‹_›]) trivial Za
 ·refine go 17 ?_
  exact Xj hsc () results175 (by rw [if_neg ‹_›]) trivial Za
theorem Yhh(bf bc bs:Nat)(v1 v2 c0 c1 c2 c3:Value)(ls cs:List (SL×List Int))(a b m:R2)(hx:bl m.1.natAbs≤65536)(hy:bl m.2.natAbs≤65536)(hp:0<m.2)(hlsv:∀z∈ls,Vp z.2)(hlsE:∀z∈ls,¬Lg z.2 m.1 m.2):Ykj prog 181 #[.agg #[.bool (decide (a.1<0)),.string (Xp a.1.natAbs),.bool (decide (a.2<0)),.string (Xp a.2.natAbs),.bool (decide (b.1<0)),.string (Xp b.1.natAbs),.bool (decide (b.2<0)),.string (Xp b.2.natAbs)],rX m.1 m.2,.pointer (some ⟨bf,0,none⟩),.pointer (some ⟨bc,0,none⟩),.pointer (some ⟨bs,0,none⟩)] [Kr bs 236 #[.int .i64 0],Kr bc 232 #[v1,v2],Pq 1 Kk qZ v1 ls,Pq 1 Kk qZ v2 cs] (box bf 129 #[c0,c1,c2,c3]) (G:=Unit) (fun _=>True) (fun _=> .bool (decide (vlu (ls.map Prod.snd) (m.1,m.2)<0))) (fun _=>box bf 129 #[.bool (decide (m.1<0)),.string (Xp m.1.natAbs),.bool (decide (m.2<0)),.string (Xp m.2.natAbs)]):=by
 refine Zx2 func181 J ntmps181 J K4 ?_
 intro w0 sc hw hsc;have hw:=Hw.mk hw
 simp only [Po,Xx]
 refine go 2 ?_
 refine Yd (Yg 6) fun bx _=>Yd (Yg 7) fun bx_2 _=>go 13 ?_
 refine cl 7 [4,5,2] (Zix _ _ _ _ _ _ _ hx hy hp hlsv hlsE) fun _ _=>go 5 ?_
 exact Yak (.inl J) hsc () _ (fun a w hs=>Zep hs results181 J) J trivial 1 J J J J (Zk 2 J J J (Zk 3 J J J (Zk 4 J J J (Zk 5 J J J Zw))))
theorem Zlb(bf bc bs:Nat)(v1 v2:Value)(ls cs:List (SL×List Int))(xs:List Int)(a0 b0:R2)(s t:Rat)(c0 c1 c2 c3:Value)(hd:Cvd xs)(h0:xs≠[])(hgl:ls.map Prod.snd=Py xs)(hgc:cs.map Prod.snd=chx xs)(hI0:NIn xs s t 0 a0 b0):Ykj prog 180 #[.agg #[v1,v2],.pointer (some ⟨bs,0,none⟩),.agg #[.bool (decide (a0.1<0)),.string (Xp a0.1.natAbs),.bool (decide (a0.2<0)),.string (Xp a0.2.natAbs),.bool (decide (b0.1<0)),.string (Xp b0.1.natAbs),.bool (decide (b0.2<0)),.string (Xp b0.2.natAbs)],.func (.func 181) #[] #[.pointer (some ⟨bf,0,none⟩),.pointer (some ⟨bc,0,none⟩),.pointer (some ⟨bs,0,none⟩)]] [Kr bs 236 #[.int .i64 0],Kr bc 232 #[v1,v2],Pq 1 Kk qZ v1 ls,Pq 1 Kk qZ v2 cs] (box bf 129 #[c0,c1,c2,c3]) (G:=R2×R2×R2) (fun r=>Fnd xs s t r.1) (fun r=> .agg #[.bool (decide (r.2.1.1<0)),.string (Xp r.2.1.1.natAbs),.bool (decide (r.2.1.2<0)),.string (Xp r.2.1.2.natAbs),.bool (decide (r.2.2.1<0)),.string (Xp r.2.2.1.natAbs),.bool (decide (r.2.2.2<0)),.string (Xp r.2.2.2.natAbs)]) (fun r=>box bf 129 #[.bool (decide (r.1.1<0)),.string (Xp r.1.1.natAbs),.bool (decide (r.1.2<0)),.string (Xp r.1.2.natAbs)]):=by
 refine Zx2 func180 J ntmps180 J K4 ?_
 intro w0 sc hw hsc;have hw:=Hw.mk hw
 simp only [Po,Xx]
 refine go 2 ?_
 refine Yd (Yg 6) fun bx _=>Yd (Yg 7) fun bx_2 _=>Yd (Zs 8) fun bx_3 _=>go 4 ?_
 refine lp (G:=R2×R2×Nat×Value×Value×Value×Value) [1,3,4,6,8] [0,2,3,4,5,6,8] (fun q=>[]) (fun q=>[(7,box bx_2 238 #[.bool (decide (q.1.1<0)),.string (Xp q.1.1.natAbs),.bool (decide (q.1.2<0)),.string (Xp q.1.2.natAbs),.bool (decide (q.2.1.1<0)),.string (Xp q.2.1.1.natAbs),.bool (decide (q.2.1.2<0)),.string (Xp q.2.1.2.natAbs)]),(1,box bf 129 #[q.2.2.2.1,q.2.2.2.2.1,q.2.2.2.2.2.1,q.2.2.2.2.2.2])]) (fun q=>NIn xs s t q.2.2.1 q.1 q.2.1) (fun q=>5436-q.2.2.1) (a0,b0,0,c0,c1,c2,c3) (hI0) trivial K2 ?_
 rintro⟨a,b,j,c0,c1,c2,c3⟩ hI
 dsimp only at hI
 dsimp only
 obtain⟨r1,r2,r3,r4,r5,r6,r7⟩:=hI.round hd h0
 rw [←hgl]at r5 r6 r7
 rw [←hgc]at r6 r7
 refine go 7 ?_
 refine kt O3<|go 13 ?_
 refine cl 8 [2] (Zyy _ a.1 a.2 b.1 b.2 O O O O r3.2.2 r4.2.2 r1) fun _ _=>Yd (Zs 9) fun bx_4 _=>go 9 ?_
 refine tt (Zvi (i:=1) (fs:=[]) (vs:=[_,_]) (us:=[_,_,_]) (Yhh _ _ _ _ _ _ _ _ _ _ _ a b (Qy a b) O O r2.2.2 (Mb hgl (fun q hq=>(Fv hd q hq).1)) (Mb hgl (Zby hd (m:=(Qy a b)) O O).1)) J J J J K2 call181 J J O3 (Zk 2 J J J (Zk 3 J J J (Zk 4 J J J (Zk 5 J J J Zw)))) J hw.h (fun _ _=>trivial)) J fun _ _=>go 2 ?_
 refine Zc J (fun h228=>?_) (fun h228=>?_)
 ·refine go 13 ?_
  exact Yak (.inl J) hsc (Qy a b,a,b) _ (fun a w hs=>Zep hs results180 (Kb (i:=8) J J isAgg238 sizeOf238 J)) J (r5 ‹_›) 1 J J J J (Zk 2 J J J (Zk 3 J J J (Zk 4 J J J (Zk 5 J J J Zw))))
 ·refine go 9 ?_
  refine cl 9 [4,5,2] (Zbb _ _ _ _ _ a.1 a.2 (Qy a b).1 (Qy a b).2 r3.2.2 r2.2.2 (Mb hgl (fun q hq=>(Fv hd q hq).1)) (Mb hgl (Zby hd (m:=a) O O).1) (Mb hgc (fun q hq=>(Zfp hd q hq).1)) (Mb hgc (Zby hd (m:=a) O O).2) (Mb hgc (Zby hd (m:=(Qy a b)) O O).2) (by have h7:=congrArg List.length hgc;rw [List.length_map]at h7;have:=Zpa xs;omega)) fun _ _=>go 2 ?_
  refine Nw J (fun h231=>?_) (fun h231=>?_)
  ·refine go 6 ?_
   exact Xb (a,Qy a b,j+1,_,_,_,_) (r6 ‹_› ‹_›) (by have:=hI.j hd h0;dsimp only;omega) trivial K2
  ·refine go 6 ?_
   exact Xb (Qy a b,b,j+1,_,_,_,_) (r7 ‹_› ‹_›) (by have:=hI.j hd h0;dsimp only;omega) trivial K2
theorem Zhi(v:Value)(xs:List Int)(a b:R2)(hd:Cvd xs)(ha:E32 a)(hb:E32 b)(hc:¬0<cmp a b)(hn:ngb (Py xs) (chx xs) a b=true):Cal prog 140 #[v,rX a.1 a.2,rX b.1 b.2] [Ym 2 wv v xs] false (G:=R2) (fun r=>Fnd xs (qv a) (qv b) r) (fun r=> .tuple #[rX r.1 r.2,.bool true,.int .i64 0]) (fun r=>[]):=by
 refine Zd func140 ntmps140 fun w0 sc hw hsc=>?_
 have ha1:=ha.b1
 have ha2:=ha.b2
 have hap:=ha.p
 have hb1:=hb.b1
 have hb2:=hb.b2
 have hbp:=hb.p
 have hle:=Yjs ha hb hc
 have h0:=ngb_ne hn
 have hE2:=Yjb ha hb
 have hLl:([slow a,slow b]:List R2).length=2:=rfl
 refine Ze (Np 999 2 93 wv)<|Ze (Pf 999 J J pV)<|go 2 ?_
 refine Yd (Yg 2) fun bx _=>Yd (Yg 3) fun bx_2 _=>Yd (Zs 4) fun bx_3 _=>go 10 ?_
 refine cl 4 [1] (Zqe _ _ a.1 a.2 b.1 b.2 hap hbp hd.v (Zr5 hd O) ha.efit hb.efit) fun _ _=>go 6 ?_
 refine kf (decide_eq_false (fun h=>h (if_neg hc)))<|go 8 ?_
 refine cl 5 [1] (sg_of _ _ hd) fun g hg=>?_
 obtain⟨hgl,hgc⟩:=hg
 refine go 3 ?_
 refine Yd (Zs 7) fun bx_4 _=>go 8 ?_
 refine kf O3<|go 7 ?_
 refine Yd (Zs 8) fun bx_5 _=>go 6 ?_
 refine cl 8 [] (Zlx a.1 a.2 b.1 b.2 hap hbp) fun _ _=>Yd (Zs 9) fun bx_6 _=>go 8 ?_
 refine cl 9 [5,6,8] (Zbb _ _ _ _ _ a.1 a.2 b.1 b.2 hap hbp (Mb hgl (fun q hq=>(Fv hd q hq).1)) (Mb hgl (Zby hd (m:=a) O O).1) (Mb hgc (fun q hq=>(Zfp hd q hq).1)) (Mb hgc (Zby hd (m:=a) O O).2) (Mb hgc (Zby hd (m:=b) O O).2) (by have h7:=congrArg List.length hgc;rw [List.length_map]at h7;have:=Zpa xs;omega)) fun _ _=>go 8 ?_
 refine kf O3<|go 2 ?_
 refine Ly (dF (Yp J J) (vB (by rw [hgl,hgc];show(!ngb (Py xs) (chx xs) a b)=false;rw [hn];rfl))) J J<|go 13 ?_
 refine tt (Qd (i:=10) (ivs:=[(0,_),(1,_)]) (enc:=rq) ([slow a,slow b]:List R2) J J K4 underlying242 ti129 J J (fill24 _ _ _ _ _ _ _ _ _ _ _ _) J J pQ.cells J J hw.h) J fun v _=>go 5 ?_
 refine lp (G:=Nat) [6,10,12,13,56,57] [0,1,999,2,3,4,5,6,7,8,9,10] (fun i=>[(58,.int .i64 (i:Int))]) (fun i=>[]) (fun i=>(i≤2)∧(∀k,k<i→¬vlu (g.2.1.map Prod.snd) ([slow a,slow b].getD k (0,0))<0)) (fun i=>2-i) 0 ⟨O1,fun k hk=>absurd hk (Nat.not_lt_zero k)⟩ K1 trivial ?_
 rintro i ⟨hi,hz⟩
 refine go 6 ?_
 refine Zc J (fun h262=>?_) (fun h262=>?_)
 ·refine go 7 ⟨O2,?_⟩
  refine dt (Pj (ii:=10) (0,0) J J J (Xa pQ) pQ O2)<|Yd (Zs 11) fun bx_7 _=>go 4 ?_
  have hEi:=hE2 i O
  have hEb1:=hEi.b1
  have hEb2:=hEi.b2
  refine go 3 ?_
  refine cl 11 [5,6,8] (Zix _ _ _ _ _ ([slow a,slow b].getD i (0,0)).1 ([slow a,slow b].getD i (0,0)).2 O O hEi.p (Mb hgl (fun q hq=>(Fv hd q hq).1)) (Mb hgl (Zby hd (m:=([slow a,slow b].getD i (0,0))) O O).1)) fun _ _=>go 3 ?_
  refine Zc J (fun h263=>?_) (fun h263=>?_)
  ·refine go 1 ?_
   refine Mq [8,11] [5]<|Zm (n:=0) [(0,0),(1,0),(2,0),(3,1),(4,0),(5,3)]<|go 7 ?_
   refine Zy<|go 7 ?_
   exact xe3 hsc ([slow a,slow b].getD i (0,0)) results140 J (Yid ha hb hle O (by rw [←hgl];assumption)) Za
  ·refine go 7 ⟨O,?_⟩
   exact Xb (i+1) ⟨O1,fun k hk2=>by rcases Nat.lt_succ_iff_lt_or_eq.1 hk2 with h9 | h9;exact hz k h9;subst h9;assumption⟩ O1 K1 trivial
 ·refine go 6 ?_
  have hI0:=Zzi hd ha hb hle (by have h9:=hz 0 O;rw [hgl]at h9;exact h9) (by have h9:=hz 1 O;rw [hgl]at h9;exact h9) hn
  refine go 1 ?_
  refine Yd (Zs 12) fun bx_8 _=>go 6 ?_
  refine dt (Yfg (vs:=[]) (us:=[_,_,_]) J trivial K3)<|tt (Zvi (i:=12) (fs:=[]) (vs:=[_,_,_,_]) (us:=[]) (Zlb _ _ _ _ _ _ _ xs (slow a) (slow b) (qv a) (qv b) _ _ _ _ hd h0 hgl hgc hI0) J J J J K4 call180 J J O3 (Zgc 8 J J (Zgc 7 J J (Zk 5 J J J (Zk 6 J J J Zw)))) J hw.h (fun _ _=>trivial)) J fun g_2 hg_2=>go 7 ?_
  refine kf O3<|go 14 ?_
  exact xe3 hsc (g_2.1) results140 J hg_2 Za
theorem Ziy(v:Value)(xs:List Int)(a b:R2)(hd:Cvd xs)(ha:E32 a)(hb:E32 b)(hc:¬0<cmp a b)(hn:ngb (Py xs) (chx xs) a b=false):Oo prog 140 #[v,rX a.1 a.2,rX b.1 b.2] [Ym 2 wv v xs] (.tuple #[.agg #[.bool false,.string ⟨#[]⟩,.bool false,.string ⟨#[]⟩],.bool false,.int .i64 0]):=by
 refine Zd func140 ntmps140 fun w0 sc hw hsc=>?_
 have ha1:=ha.b1
 have ha2:=ha.b2
 have hap:=ha.p
 have hb1:=hb.b1
 have hb2:=hb.b2
 have hbp:=hb.p
 refine Ze (Np 999 2 93 wv)<|Ze (Pf 999 J J pV)<|go 2 ?_
 refine Yd (Yg 2) fun bx _=>Yd (Yg 3) fun bx_2 _=>Yd (Zs 4) fun bx_3 _=>go 10 ?_
 refine cl 4 [1] (Zqe _ _ a.1 a.2 b.1 b.2 hap hbp hd.v (Zr5 hd O) ha.efit hb.efit) fun _ _=>go 6 ?_
 refine kf (decide_eq_false (fun h=>h (if_neg hc)))<|go 8 ?_
 refine cl 5 [1] (sg_of _ _ hd) fun g hg=>?_
 obtain⟨hgl,hgc⟩:=hg
 refine go 3 ?_
 refine Yd (Zs 7) fun bx_4 _=>go 8 ?_
 refine kf O3<|go 7 ?_
 refine Yd (Zs 8) fun bx_5 _=>go 6 ?_
 refine cl 8 [] (Zlx a.1 a.2 b.1 b.2 hap hbp) fun _ _=>Yd (Zs 9) fun bx_6 _=>go 8 ?_
 refine cl 9 [5,6,8] (Zbb _ _ _ _ _ a.1 a.2 b.1 b.2 hap hbp (Mb hgl (fun q hq=>(Fv hd q hq).1)) (Mb hgl (Zby hd (m:=a) O O).1) (Mb hgc (fun q hq=>(Zfp hd q hq).1)) (Mb hgc (Zby hd (m:=a) O O).2) (Mb hgc (Zby hd (m:=b) O O).2) (by have h7:=congrArg List.length hgc;rw [List.length_map]at h7;have:=Zpa xs;omega)) fun _ _=>go 8 ?_
 refine kf O3<|go 2 ?_
 refine Ly (dT (Yp J J) (vB (by rw [hgl,hgc];show(!ngb (Py xs) (chx xs) a b)=true;rw [hn];rfl))) J J<|go 5 ?_
 refine Mq [8] [5]<|Zm (n:=0) [(0,0),(1,0),(2,0),(3,1),(4,0),(5,3)]<|Qe J J (stf (Xl (ivs:=[]) J trivial (fun a w hs=>Zsk)) K1)<|go 6 ?_
 refine Zy<|go 3 ?_
 exact xe3 hsc () results140 J trivial Za
theorem Zwr(fr to ov:Int)(vx vy vz:Value)(x y z:List Int):Cal Tryz.prog 119 #[.agg #[.int .i64 fr,.int .i64 to,.int .i64 ov,vx,vy,vz]] [Ym 1 Yl vx x,Ym 1 Yl vy y,Ym 1 Yl vz z] false (G:=Unit) (fun _=>True) (fun _=> .agg #[vx,vy,vz]) (fun _=>[]):=by
 refine Zd Tryz.func119 Tryz.ntmps119 fun w0 sc hw hsc=>?_
 refine go 2 ?_
 refine Yd (Yg 4) fun bx _=>?_
 refine Yd (Zs 5) fun bx_2 _=>?_
 refine go 10 ?_
 refine dt (Xl (ivs:=[(0,_),(1,_),(2,_)]) rfl ⟨rfl,rfl,rfl,rfl,rfl,rfl,trivial⟩ (fun a w hs=>Zsl ((Pt (i:=1) rfl Zo) a w hs) ((Pt (i:=2) rfl Zo) a w hs) ((Pt (i:=3) rfl Zo) a w hs))) ?_
 refine go 4 ?_
 exact Xj hsc () Tryz.results119 rfl trivial Za
theorem Ze7:Cal Tryz.prog 47 #[] [] false (G:=Unit) (fun _=>True) (fun _=> .agg #[.int .i64 1,.int .i64 10000,.int .i64 2]) (fun _=>[]):=by
 refine Zd Tryz.func47 Tryz.ntmps47 fun w0 sc hw hsc=>?_
 refine go 2 ?_
 refine Yd (Zs 1) fun bx _=>?_
 refine go 4 ?_
 refine dt (Xl (ivs:=[(0,_),(1,_),(2,_)]) rfl ⟨rfl,rfl,rfl,rfl,rfl,rfl,trivial⟩ (fun a w hs=>Zyd ((Zn rfl) a w hs) ((Zn rfl) a w hs) ((Zn rfl) a w hs))) ?_
 refine go 4 ?_
 exact Xj hsc () Tryz.results47 rfl trivial Za
theorem Hu:Cal Tryz.prog 49 #[] [] false (G:=Unit) (fun _=>True) (fun _=> .agg #[.int .i64 2,.int .i64 10000,.int .i64 3]) (fun _=>[]):=by
 refine Zd Tryz.func49 Tryz.ntmps49 fun w0 sc hw hsc=>?_
 refine go 2 ?_
 refine Yd (Zs 1) fun bx _=>?_
 refine go 4 ?_
 refine dt (Xl (ivs:=[(0,_),(1,_),(2,_)]) rfl ⟨rfl,rfl,rfl,rfl,rfl,rfl,trivial⟩ (fun a w hs=>Zyd ((Zn rfl) a w hs) ((Zn rfl) a w hs) ((Zn rfl) a w hs))) ?_
 refine go 4 ?_
 exact Xj hsc () Tryz.results49 rfl trivial Za
theorem Zco(o:Nat)(mm kd fr to ov m:Int)(vx vy vz:Value)(x y z:List Int)(ho:o=1∨o=2)(hS:Sgo fr to ov x y z)(h0:0≤m)(h1:m≤10000):Cal Tryz.prog 85 #[.agg #[.int .i64 (o:Int),.int .i64 mm,.int .i64 kd],.agg #[.int .i64 fr,.int .i64 to,.int .i64 ov,vx,vy,vz],.int .i64 m] [Ym 1 Yl vx x,Ym 1 Yl vy y,Ym 1 Yl vz z] true (G:=Value) (fun r=>True) (fun r=>r) (fun r=>[Ym 2 wv r (Ey o m ov (to-fr) x y z)]):=by
 refine Zd Tryz.func85 Tryz.ntmps85 fun w0 sc hw hsc=>?_
 have hfr:=hS.t1
 have hlt:=hS.t2
 have hto:=hS.t3
 have ho1:=hS.o1
 have ho2:=hS.o2
 obtain⟨q1,q2,q3,q4,q5,q6,q7⟩:=Zwg hS h0 h1 ho
 obtain⟨r1,r2,r3⟩:=Cl hS h0 h1 ho
 refine Ze (Np 999 2 93 wv) ?_
 refine Ze (Pf 999 rfl rfl pV) ?_
 refine go 2 ?_
 refine Yd (Yg 4) fun bx _=>?_
 refine Yd (Yg 5) fun bx_2 _=>?_
 refine go 10 ?_
 refine tt (Qd (i:=6) (ivs:=[(0,_)]) (enc:=Yl) ([1000]:List Int) rfl rfl ⟨rfl,rfl,trivial⟩ Tryz.underlying22 Tryz.ti3 rfl rfl rfl rfl rfl pZ.cells rfl rfl hw.h) rfl (fun v _=>?_)
 refine Qn (Pf 6 rfl rfl pZ) ?_
 refine cl 6 [6] (Pv _ _ (Zbr (by simp<;>omega)) O5) fun _ _=>?_
 refine Yd (Zs 7) fun bx_3 _=>?_
 refine go 13 ⟨O,?_⟩
 refine tt (Qd (i:=8) (ivs:=[(0,_),(1,_),(2,_)]) (enc:=Yl) ([m,ov,to-fr]:List Int) rfl rfl ⟨rfl,rfl,rfl,rfl,rfl,rfl,trivial⟩ Tryz.underlying22 Tryz.ti3 rfl rfl rfl rfl rfl pZ.cells rfl rfl hw.h) rfl (fun v_2 _=>?_)
 refine Qn (Pf 8 rfl rfl pZ) ?_
 refine cl 8 [8] (Pv _ _ (Zbr (by simp<;>omega)) O5) fun _ _=>?_
 refine Yd (Zs 9) fun bx_4 _=>?_
 refine go 3 ?_
 refine jn (G:=Unit) [3,4,7,8,9] [0,1,2,3,999,4,5,6,8] (fun _=>[]) (fun _=>[(7,box bx_3 93 (wc (Zho o))),(9,box bx_4 93 (wc (Zc0 o m ov (to-fr))))]) (fun _=>True) ?_ ?_
 ·refine go 7 ?_
  refine Zc rfl (fun h66=>?_) (fun h66=>?_)
  ·refine Mq [5] [18] ?_
   refine Zm (n:=6) [(2,0),(3,0),(4,0),(5,0),(6,0),(7,0),(8,0),(9,0),(10,0),(11,0),(12,0),(13,0),(14,0)] ?_
   refine go 14 ⟨O,O,?_⟩
   refine Qq (n:=5) 0 15 ?_ ?_
   ·refine Hd rfl (Qd (i:=10) (ivs:=[(0,_),(1,_)]) (enc:=Yl) ([1000,1000]:List Int) rfl rfl ⟨rfl,rfl,rfl,rfl,trivial⟩ Tryz.underlying22 Tryz.ti3 rfl rfl rfl rfl rfl pZ.cells rfl rfl hw.h) (fun v_3 _=>?_)
    refine Qq (n:=4) 1 15 ?_ ?_
    ·refine Ny (Zh 10 [10] (Pv _ _ (Zbr (by simp<;>omega)) O5)) fun _ _=>?_
     refine Zm (n:=0) [(15,1),(16,1),(17,1),(18,3)] ?_
     refine Fm rfl (Qd (i:=11) (ivs:=[(0,_),(1,_),(2,_),(3,_)]) (enc:=Yl) ([m,ov,to-fr,to-fr]:List Int) rfl rfl ⟨rfl,rfl,rfl,rfl,rfl,rfl,rfl,rfl,trivial⟩ Tryz.underlying22 Tryz.ti3 rfl rfl rfl rfl rfl pZ.cells rfl rfl hw.h) (fun v_4 _=>?_)
     refine Yx (Zh 11 [11] (Pv _ _ (Zbr (by simp<;>omega)) O5)) fun _ _=>?_
     refine go 3 ?_
     refine Zy ?_
     exact Qu () trivial trivial ⟨by rw [Zt5 O];rfl,by rw [Zsz O];rfl,trivial⟩
    ·refine Hd rfl (Qd (i:=12) (ivs:=[(0,_),(1,_),(2,_),(3,_)]) (enc:=Yl) ([m,ov,to-fr,to-fr]:List Int) rfl rfl ⟨rfl,rfl,rfl,rfl,rfl,rfl,rfl,rfl,trivial⟩ Tryz.underlying22 Tryz.ti3 rfl rfl rfl rfl rfl pZ.cells rfl rfl hw.h) (fun v_5 _=>?_)
     refine Zm (n:=0) [(1,1),(16,1),(17,1),(18,3)] ?_
     refine Yx (Zh 12 [10] (Pv _ _ (Zbr (by simp<;>omega)) O5)) fun _ _=>?_
     refine Yx (Zh 12 [12] (Pv _ _ (Zbr (by simp<;>omega)) O5)) fun _ _=>?_
     refine go 3 ?_
     refine Zy ?_
     exact Qu () trivial trivial ⟨by rw [Zt5 O];rfl,by rw [Zsz O];rfl,trivial⟩
   ·refine Hd rfl (Qd (i:=13) (ivs:=[(0,_),(1,_),(2,_),(3,_)]) (enc:=Yl) ([m,ov,to-fr,to-fr]:List Int) rfl rfl ⟨rfl,rfl,rfl,rfl,rfl,rfl,rfl,rfl,trivial⟩ Tryz.underlying22 Tryz.ti3 rfl rfl rfl rfl rfl pZ.cells rfl rfl hw.h) (fun v_6 _=>?_)
    refine Zm (n:=0) [(0,1),(1,1),(16,1),(17,1),(18,3)] ?_
    refine Fm rfl (Qd (i:=14) (ivs:=[(0,_),(1,_)]) (enc:=Yl) ([1000,1000]:List Int) rfl rfl ⟨rfl,rfl,rfl,rfl,trivial⟩ Tryz.underlying22 Tryz.ti3 rfl rfl rfl rfl rfl pZ.cells rfl rfl hw.h) (fun v_7 _=>?_)
    refine Yx (Zh 14 [14] (Pv _ _ (Zbr (by simp<;>omega)) O5)) fun _ _=>?_
    refine Yx (Zh 14 [13] (Pv _ _ (Zbr (by simp<;>omega)) O5)) fun _ _=>?_
    refine go 3 ?_
    refine Zy ?_
    exact Qu () trivial trivial ⟨by rw [Zt5 O];rfl,by rw [Zsz O];rfl,trivial⟩
  ·refine go 1 ?_
   exact Qu () trivial trivial ⟨by rw [kilo_1 O];rfl,by rw [timC_1 O];rfl,trivial⟩
 ·rintro _ -
  refine go 4 ?_
  refine cl 14 [1,2,3] (Zwr _ _ _ _ _ _ _ _ _) fun _ _=>?_
  refine go 4 ?_
  refine Ze (Pb 999 80 rfl rfl rfl) ?_
  refine lp (G:=Nat×Value) [3,8,9,51] [0,7,9,1,2,3,999,4,5,6,8] (fun q=>[(52,.int .i64 (q.1:Int)),(7,q.2)]) (fun q=>[(80,Ym 2 wv q.2 (Cc o x y z q.1))]) (fun q=>q.1≤3) (fun q=>3-q.1) (0,.slice none 0 0) O1 ⟨rfl,rfl,trivial⟩ ⟨rfl,trivial⟩ ?_
  rintro⟨i,vs⟩ hi
  dsimp only at hi
  dsimp only
  refine go 6 ?_
  refine Zc rfl (fun h69=>?_) (fun h69=>?_)
  ·refine go 5 ?_
   refine Ze (Zdh i 1 2 3 50 rfl rfl rfl rfl rfl rfl) ?_
   refine go 1 ?_
   refine dt (Zkn (i:=i) rfl rfl rfl Tryz.underlying124 Tryz.sizeOf22 Tryz.isAgg22 rfl) ?_
   refine go 6 ?_
   refine cl 15 [50] (Zh3 _ _ (hS.hc i) (Nat.le_trans (hS.lc i).2 O3)) fun _ _=>?_
   refine Qn (Mt 15 (q:=Ym 2 wv _ (tzl (Zr i x y z))) (congrArg (Ym 2 wv _) (if_neg (Zvb (hS.lc i).2))) rfl rfl) ?_
   refine go 16 ?_
   refine Ze (Pb 15 81 rfl rfl rfl) ?_
   refine lp (G:=Nat×Value) [3,7,8,9,51,52,61] [0,80,7,9,1,2,3,999,4,5,6,8,50,15] (fun q=>[(62,.int .i64 (q.1:Int)),(12,q.2)]) (fun q=>[(81,Ym 2 wv q.2 (dN q.1 (tzl (Zr i x y z))))]) (fun q=>q.1≤o) (fun q=>o-q.1) (0,_) O1 ⟨rfl,rfl,trivial⟩ ⟨rfl,trivial⟩ ?_
   rintro⟨k,vd⟩ hk
   dsimp only at hk
   dsimp only
   refine go 6 ?_
   refine Zc rfl (fun h71=>?_) (fun h71=>?_)
   ·refine go 6 ?_
    refine cl 16 [81] (Ep _ _ (Yfn (hS.hc i) (hS.lc i).2 O).1 (Yfn (hS.hc i) (hS.lc i).2 O).2) fun _ _=>?_
    refine go 11 ⟨O,?_⟩
    refine Yn (Pb 16 81 rfl rfl rfl) ?_
    exact Xb (k+1,_) O1 O1 ⟨rfl,rfl,trivial⟩ ⟨rfl,trivial⟩
   ·obtain rfl:o=k:=O
    refine go 9 ?_
    refine cl 17 [81] (Ic _ _ (Zho o) (Yfn (hS.hc i) (hS.lc i).2 O).1 (Zd3 (hS.hc i) (hS.lc i).2 ho).1 (Zd3 (hS.hc i) (hS.lc i).2 ho).2.1) fun _ _=>?_
    refine Qn (Mt 17 (q:=Ym 2 wv _ (axQ o (Zr i x y z))) (congrArg (Ym 2 wv _) (by rw [Zww];rfl)) rfl rfl) ?_
    refine go 10 ?_
    refine cl 18 [17,17] (Zjh _ _ (axQ o (Zr i x y z)) (axQ o (Zr i x y z)) (Zd3 (hS.hc i) (hS.lc i).2 ho).2.2.1 (Zd3 (hS.hc i) (hS.lc i).2 ho).2.2.1 (Zd3 (hS.hc i) (hS.lc i).2 ho).2.2.2.1) fun _ _=>?_
    refine Qn (Mt 18 (q:=Ym 2 wv _ (sqQ o (Zr i x y z))) (congrArg (Ym 2 wv _) rfl) rfl rfl) ?_
    refine go 9 ?_
    refine cl 19 [80,18] (Ycs _ _ (Cc o x y z i) (sqQ o (Zr i x y z)) (Zhw hS ho i O).2.2.2.2 (Zd3 (hS.hc i) (hS.lc i).2 ho).2.2.2.2.1 (Yg8 hS ho O)) fun _ _=>?_
    refine go 11 ⟨O,?_⟩
    refine Yn (Pb 19 80 rfl rfl rfl) ?_
    exact Xb (i+1,_) O1 O1 ⟨rfl,rfl,trivial⟩ ⟨rfl,trivial⟩
  ·obtain rfl:i=3:=O
   refine go 7 ?_
   refine tt (Qd (i:=20) (ivs:=[(0,_)]) (enc:=Yl) ([1]:List Int) rfl rfl ⟨rfl,rfl,trivial⟩ Tryz.underlying22 Tryz.ti3 rfl rfl rfl rfl rfl pZ.cells rfl rfl hw.h) rfl (fun v_8 _=>?_)
   refine Qn (Pf 20 rfl rfl pZ) ?_
   refine cl 21 [20] (Zh3 _ _ (fun a ha=>by rw [List.mem_singleton.1 ha];exact⟨O3,O3⟩)) fun _ _=>?_
   refine Qn (Mt 21 (q:=Ym 2 wv _ [1]) (congrArg (Ym 2 wv _) tzl1) rfl rfl) ?_
   refine go 11 ?_
   refine cl 22 [21] (Ic _ [1] (Zc0 o m ov (to-fr)) vp1 (Nat.le_trans q1 O3) q3) fun _ _=>?_
   refine Qn (Mt 22 (q:=Ym 2 wv _ (Ig o m ov (to-fr))) (congrArg (Ym 2 wv _) rfl) rfl rfl) ?_
   refine go 10 ?_
   refine cl 23 [22,22] (Zjh _ _ (Ig o m ov (to-fr)) (Ig o m ov (to-fr)) q2 q2 q4) fun _ _=>?_
   refine go 10 ?_
   refine cl 24 [23,80] (Ycr _ _ (Xm (Ig o m ov (to-fr)) (Ig o m ov (to-fr))) (Cc o x y z 3) q5 (Zhw hS ho 3 O).2.2.2.2 r1) fun _ _=>?_
   refine go 10 ?_
   refine cl 25 [24] (Nq _ _ r2) fun _ _=>?_
   refine go 13 ?_
   exact Xj hsc _ Tryz.results85 rfl trivial (Mm 25 Za)
theorem Zwq:Cal Tryz.prog 139 #[] [] false (G:=Unit) (fun _=>True) (fun _=> .tuple #[.agg #[.bool (decide ((0:Int)<0)),.string (Xp (0:Int).natAbs),.bool (decide ((1:Int)<0)),.string (Xp (1:Int).natAbs)],.agg #[.bool (decide ((1:Int)<0)),.string (Xp (1:Int).natAbs),.bool (decide ((1:Int)<0)),.string (Xp (1:Int).natAbs)]]) (fun _=>[]):=by
 refine Zd Tryz.func139 Tryz.ntmps139 fun w0 sc hw hsc=>?_
 refine go 2 ?_
 refine Yd (Zs 1) fun bx _=>?_
 refine Yd (Zs 2) fun bx_2 _=>?_
 refine go 4 ?_
 refine cl 2 [] (Zd5 0 1 ⟨O3,O3⟩ ⟨O3,O3⟩ O3) fun _ _=>?_
 refine go 8 ?_
 refine cl 2 [] (Zd5 1 1 ⟨O3,O3⟩ ⟨O3,O3⟩ O3) fun _ _=>?_
 refine go 7 ?_
 refine Mq [2] [3] ?_
 refine Zm (n:=0) [(1,0),(0,1),(2,1),(3,3)] ?_
 refine go 5 ?_
 refine Zy ?_
 refine go 2 ?_
 exact Nz hsc () Tryz.results139 (by rw [rn01.1,rn01.2,rn11.1,rn11.2]) trivial Za
theorem Ztw(v:Value)(xs:List Int)(hd:Cvd xs)(hn:ngb (Py xs) (chx xs) (0,1) (1,1)=true):Cal Tryz.prog 97 #[v] [Ym 2 wv v xs] false (G:=Unit) (fun _=>True) (fun _=> .bool true) (fun _=>[]):=by
 refine Zd Tryz.func97 Tryz.ntmps97 fun w0 sc hw hsc=>?_
 refine go 7 ?_
 refine cl 1 [] (Zwq) fun _ _=>?_
 refine go 3 ?_
 refine Yd (Zs 2) fun bx _=>?_
 refine Yd (Zs 3) fun bx_2 _=>?_
 refine go 9 ?_
 refine cl 3 [1] (Zhi _ _ (0,1) (1,1) hd e32_0 e32_1 cmp01 hn) fun g hg=>?_
 refine go 4 ?_
 refine Yd (Zs 4) fun bx_3 _=>?_
 refine go 12 ?_
 exact Xj hsc () Tryz.results97 rfl trivial Za
theorem Zzt(v:Value)(xs:List Int)(hd:Cvd xs)(hn:ngb (Py xs) (chx xs) (0,1) (1,1)=false):Cal Tryz.prog 97 #[v] [Ym 2 wv v xs] false (G:=Unit) (fun _=>True) (fun _=> .bool false) (fun _=>[]):=by
 refine Zd Tryz.func97 Tryz.ntmps97 fun w0 sc hw hsc=>?_
 refine go 7 ?_
 refine cl 1 [] (Zwq) fun _ _=>?_
 refine go 3 ?_
 refine Yd (Zs 2) fun bx _=>?_
 refine Yd (Zs 3) fun bx_2 _=>?_
 refine go 9 ?_
 refine cl 3 [1] (Ziy _ _ (0,1) (1,1) hd e32_0 e32_1 cmp01 hn) fun _ _=>?_
 refine go 4 ?_
 refine Yd (Zs 4) fun bx_3 _=>?_
 refine go 12 ?_
 exact Xj hsc () Tryz.results97 rfl trivial Za
theorem li_of(o:Nat)(kd fr to ov m:Int)(vx vy vz:Value)(x y z:List Int)(ho:o=1∨o=2)(hfr:Qx fr)(hto:Qx to)(hov:Qx ov)(hx:∀a∈x,Qx a)(hy:∀a∈y,Qx a)(hz:∀a∈z,Qx a)(hb:El fr to ov x y z=true)(h0:0≤m)(h1:m≤10000):Cal Tryz.prog 48 #[.agg #[.int .i64 (o:Int),.int .i64 10000,.int .i64 kd],.agg #[.int .i64 fr,.int .i64 to,.int .i64 ov,vx,vy,vz],.int .i64 m] [Ym 1 Yl vx x,Ym 1 Yl vy y,Ym 1 Yl vz z] true (G:=Value) (fun r=>True) (fun r=> .tuple #[r,.int .i64 0]) (fun r=>[Ym 2 wv r (Ey o m ov (to-fr) x y z)]):=by
 refine Zd Tryz.func48 Tryz.ntmps48 fun w0 sc hw hsc=>?_
 refine go 2 ?_
 refine Yd (Yg 4) fun bx _=>?_
 refine Yd (Yg 5) fun bx_2 _=>?_
 refine go 8 ?_
 refine cl 5 [1,2,3] (Bp _ _ _ _ _ _ _ _ _ hfr hto hov hx hy hz) fun _ _=>?_
 refine dt (Zj (r':= .bool false) (Yp rfl rfl) (congrArg Value.bool (by rw [hb];rfl))) ?_
 refine go 2 ?_
 refine kfg (decide_eq_false O) ?_
 refine kf O3 ?_
 refine go 4 ?_
 refine kfg (decide_eq_false O) ?_
 refine kf O3 ?_
 refine go 10 ?_
 refine cl 6 [1,2,3] (Zco _ _ _ _ _ _ _ _ _ _ _ _ _ ho (Sgo.of hx hy hz hb) h0 h1) fun v _=>?_
 refine go 5 ?_
 exact Nz hsc _ Tryz.results48 rfl trivial (Mm 6 Za)
theorem Zjy(v:Value)(xs:List Int)(hd:Cvd xs):Cal Tryz.prog 97 #[v] [Ym 2 wv v xs] false (G:=Unit) (fun _=>True) (fun _=> .bool (Hm xs)) (fun _=>[]):=by
 unfold Hm
 cases hn:ngb (Py xs) (chx xs) (0,1) (1,1)with
 | true=>exact Ztw v xs hd hn
 | false=>exact Zzt v xs hd hn
theorem Zbm(fr to ov m:Int)(vx vy vz:Value)(x y z:List Int)(hfr:Qx fr)(hto:Qx to)(hov:Qx ov)(hx:∀a∈x,Qx a)(hy:∀a∈y,Qx a)(hz:∀a∈z,Qx a)(hb:El fr to ov x y z=true)(h0:0≤m)(h1:m≤10000):Cal Tryz.prog 16 #[.agg #[.int .i64 fr,.int .i64 to,.int .i64 ov,vx,vy,vz],.int .i64 m] [Ym 1 Yl vx x,Ym 1 Yl vy y,Ym 1 Yl vz z] true (G:=Value) (fun r=>True) (fun r=> .tuple #[r,.int .i64 0]) (fun r=>[Ym 2 wv r (Ey 1 m ov (to-fr) x y z)]):=by
 refine Zd Tryz.func16 Tryz.ntmps16 fun w0 sc hw hsc=>?_
 refine go 2 ?_
 refine Yd (Yg 4) fun bx _=>?_
 refine go 5 ?_
 refine Xw (fun _=>False) [(1,0),(2,0),(0,1),(3,1),(4,0),(5,0),(6,3),(7,3)] ?_
 refine go 2 ?_
 refine Yx (Zh 4 [] (Ze7)) fun _ _=>?_
 refine Yx (Zh 5 [1,2,3] (li_of 1 2 _ _ _ _ _ _ _ _ _ _ O hfr hto hov hx hy hz hb h0 h1)) fun _ _=>?_
 refine go 7 ?_
 exact Nz hsc _ Tryz.results16 rfl trivial (Mm 5 Za)
theorem Zdp(fr to ov m:Int)(vx vy vz:Value)(x y z:List Int)(hfr:Qx fr)(hto:Qx to)(hov:Qx ov)(hx:∀a∈x,Qx a)(hy:∀a∈y,Qx a)(hz:∀a∈z,Qx a)(hb:El fr to ov x y z=true)(h0:0≤m)(h1:m≤10000):Cal Tryz.prog 17 #[.agg #[.int .i64 fr,.int .i64 to,.int .i64 ov,vx,vy,vz],.int .i64 m] [Ym 1 Yl vx x,Ym 1 Yl vy y,Ym 1 Yl vz z] true (G:=Value) (fun r=>True) (fun r=> .tuple #[r,.int .i64 0]) (fun r=>[Ym 2 wv r (Ey 2 m ov (to-fr) x y z)]):=by
 refine Zd Tryz.func17 Tryz.ntmps17 fun w0 sc hw hsc=>?_
 refine go 2 ?_
 refine Yd (Yg 4) fun bx _=>?_
 refine go 5 ?_
 refine Xw (fun _=>False) [(1,0),(2,0),(0,1),(3,1),(4,0),(5,0),(6,3),(7,3)] ?_
 refine go 2 ?_
 refine Yx (Zh 4 [] (Hu)) fun _ _=>?_
 refine Yx (Zh 5 [1,2,3] (li_of 2 3 _ _ _ _ _ _ _ _ _ _ O hfr hto hov hx hy hz hb h0 h1)) fun _ _=>?_
 refine go 7 ?_
 exact Nz hsc _ Tryz.results17 rfl trivial (Mm 5 Za)
theorem Yd9(sp ac:Int):Cal Tryz.prog 12 #[.agg #[.int .i64 sp,.int .i64 ac]] [] false (G:=Unit) (fun _=>True) (fun _=> .bool (decide (1≤sp∧sp≤10000∧1≤ac∧ac≤10000))) (fun _=>[]):=by
 refine Zd Tryz.func12 Tryz.ntmps12 fun w0 sc hw hsc=>?_
 refine go 2 ?_
 refine Yd (Yg 1) fun bx _=>?_
 refine go 9 ?_
 refine Yu (d:=6) rfl (fun s23=>?_) (fun s23=>?_)
 ·refine go 5 ?_
  refine Yu (d:=11) rfl (fun s23_2=>?_) (fun s23_2=>?_)
  ·refine go 5 ?_
   refine Yu (d:=16) rfl (fun s23_3=>?_) (fun s23_3=>?_)
   ·refine go 8 ?_
    exact Xj hsc () Tryz.results12 O10 trivial Za
   ·refine go 8 ?_
    exact Xj hsc () Tryz.results12 O10 trivial Za
  ·refine go 13 ?_
   exact Xj hsc () Tryz.results12 O10 trivial Za
 ·refine go 18 ?_
  exact Xj hsc () Tryz.results12 O10 trivial Za
theorem eg130:Tryz.prog.eqGuardType Tryz.prog.depth 130=false:=O6
theorem eqlA(w:World)(p q r p' q' r':R2):(binOp .eql 130 (.agg (cellsOf rq [p,q,r]).toArray) (.agg (cellsOf rq [p',q',r']).toArray)).run Tryz.prog w= .ok (.bool (decide (p=p'∧q=q'∧r=r'))) w:=by
 rw [run_eql_struct,run_equalIn_array w 9999 _ _ Tryz.underlying130 Tryz.ti129]
 have hc:Tryz.prog.cellsOf 129=4:=O6
 rw [hc]
 have e3:List.range 3=[0,1,2]:=rfl
 rw [e3]
 obtain⟨p1,p2⟩:=p;obtain⟨q1,q2⟩:=q;obtain⟨r1,r2⟩:=r
 obtain⟨u1,u2⟩:=p';obtain⟨v1,v2⟩:=q';obtain⟨w1,w2⟩:=r'
 have hp:∀(a b c:R2),(cellsOf rq [a,b,c]).toArray=#[.bool (decide (a.1<0)),.string (Xp a.1.natAbs),.bool (decide (a.2<0)),.string (Xp a.2.natAbs),.bool (decide (b.1<0)),.string (Xp b.1.natAbs),.bool (decide (b.2<0)),.string (Xp b.2.natAbs),.bool (decide (c.1<0)),.string (Xp c.1.natAbs),.bool (decide (c.2<0)),.string (Xp c.2.natAbs)]:=fun a b c=>rfl
 rw [hp,hp]
 simp [Op.eqItems,part,Tryz.isAgg129,Tryz.sizeOf129,in129,Zug]
 by_cases h1:p1=u1<;>by_cases h2:p2=u2<;>by_cases h3:q1=v1<;>by_cases h4:q2=v2<;>by_cases h5:r1=w1<;>by_cases h6:r2=w2<;>simp_all
theorem Zml(fr to ov:Int)(vx vy vz:Value)(x y z:List Int)(hS:Sgo fr to ov x y z):Cal Tryz.prog 75 #[.agg #[.int .i64 fr,.int .i64 to,.int .i64 ov,vx,vy,vz]] [Ym 1 Yl vx x,Ym 1 Yl vy y,Ym 1 Yl vz z] false (G:=Unit) (fun _=>True) (fun _=> .tuple #[.agg (cellsOf rq (bS ov (to-fr) x y z 3)).toArray,.agg (cellsOf rq (eS ov (to-fr) x y z 3)).toArray]) (fun _=>[]):=by
 refine Zd Tryz.func75 Tryz.ntmps75 fun w0 sc hw hsc=>?_
 have hfr:=hS.t1
 have hlt:=hS.t2
 have hto:=hS.t3
 have ho1:=hS.o1
 have ho2:=hS.o2
 obtain⟨p1,p2,p3⟩:=Ztj hS
 refine go 2 ?_
 refine Yd (Yg 4) fun bx _=>?_
 refine tt (Fz (i:=5) rfl rfl Tryz.zeroValue130 rfl rfl hw.h) rfl (fun bx_2 _=>?_)
 refine tt (Fz (i:=6) rfl rfl Tryz.zeroValue130 rfl rfl hw.h) rfl (fun bx_3 _=>?_)
 refine go 6 ?_
 refine cl 6 [1,2,3] (Zwr _ _ _ _ _ _ _ _ _) fun _ _=>?_
 refine go 4 ?_
 refine Ze (Mt 5 (q:=box bx_2 130 (cellsOf rq (List.replicate 3 ((0:Int),(0:Int)))).toArray) (congrArg (box bx_2 130) (show _=(cellsOf rq (List.replicate 3 ((0:Int),(0:Int)))).toArray from rfl)) rfl rfl) ?_
 refine Ze (Mt 6 (q:=box bx_3 130 (cellsOf rq (List.replicate 3 ((0:Int),(0:Int)))).toArray) (congrArg (box bx_3 130) (show _=(cellsOf rq (List.replicate 3 ((0:Int),(0:Int)))).toArray from rfl)) rfl rfl) ?_
 refine lp (G:=Nat) [1,2,3,12] [0,1,2,3,4] (fun i=>[(13,.int .i64 (i:Int))]) (fun i=>[(5,box bx_2 130 (cellsOf rq (bS ov (to-fr) x y z i)).toArray),(6,box bx_3 130 (cellsOf rq (eS ov (to-fr) x y z i)).toArray)]) (fun i=>i≤3) (fun i=>3-i) 0 O1 ⟨rfl,trivial⟩ ⟨rfl,rfl,trivial⟩ ?_
 rintro i hi
 have hc:=hS.hc i
 have hlc:=hS.lc i
 have hdl:((Zr i x y z).drop 1).length=(Zr i x y z).length-1:=List.length_drop
 refine go 6 ?_
 refine Zc rfl (fun h104=>?_) (fun h104=>?_)
 ·refine go 5 ?_
  refine Ze (Zdh i 1 2 3 50 rfl rfl rfl rfl rfl rfl) ?_
  refine go 2 ?_
  refine dt (Zkn (i:=i) rfl rfl rfl Tryz.underlying124 Tryz.sizeOf22 Tryz.isAgg22 rfl) ?_
  refine go 6 ?_
  refine Yd (Zs 7) fun bx_4 _=>?_
  refine Yd (Zs 8) fun bx_5 _=>?_
  refine go 6 ?_
  refine dt (d_suf (ii:=50) (i:=1) rfl rfl rfl rfl Zo Tryz.underlying22 Tryz.sizeOf3 rfl) ?_
  refine Qn (s_suf 50 9 (1) rfl rfl) ?_
  refine go 5 ?_
  refine lp (G:=Nat) [1,2,3,4,6,7,12,13,18,19] [0,5,6,1,2,3,4,50,9] (fun k=>[(20,.int .i64 (k:Int))]) (fun k=>[(7,box bx_4 93 (wc (fsS ((Zr i x y z).drop 1) k))),(8,box bx_5 93 (wc (slS ((Zr i x y z).drop 1) k)))]) (fun k=>k≤((Zr i x y z).drop 1).length) (fun k=>((Zr i x y z).drop 1).length-k) 0 O1 ⟨rfl,trivial⟩ ⟨rfl,rfl,trivial⟩ ?_
  rintro k hk
  refine go 6 ?_
  refine Zc rfl (fun h106=>?_) (fun h106=>?_)
  ·refine go 20 ⟨O2,O2,?_⟩
   refine Zc rfl (fun h107=>?_) (fun h107=>?_)
   ·refine go 2 ?_
    refine cl 9 [] (Zp (((Zr i x y z).drop 1).getD k 0) (Qv (Qw hc) k)) fun _ _=>?_
    refine go 3 ?_
    refine Mq [] [] ?_
    refine Zm (n:=8) [(1,0),(2,0),(3,0)] ?_
    refine go 4 ⟨O,?_⟩
    refine Qq (n:=7) 0 4 ?_ ?_
    ·refine Hd rfl (Zav (Zr4 (i:=8) rfl rfl rfl Tryz.isAgg93 Tryz.sizeOf93 rfl rfl) rfl) (fun _ _=>?_)
     refine Zm (n:=0) [(4,1),(5,1),(6,1),(7,0),(8,0),(9,0),(10,1)] ?_
     refine Fm rfl (Qd (i:=10) (ivs:=[(0,_),(1,_)]) (enc:=Yl) ([((Zr i x y z).drop 1).getD k 0,(k:Int)+1]:List Int) rfl rfl ⟨rfl,rfl,rfl,rfl,trivial⟩ Tryz.underlying22 Tryz.ti3 rfl rfl rfl rfl rfl pZ.cells rfl rfl hw.h) (fun v _=>?_)
     refine Yx (Zh 10 [10] (Pv _ _ (fun a ha=>by simp only [List.mem_cons,List.not_mem_nil,or_false]at ha;rcases ha with rfl | rfl;exact Qv (Qw hc) k;exact⟨O,O⟩) O5)) fun _ _=>?_
     refine Yx (Zh 10 [] (Ek (slS ((Zr i x y z).drop 1) k) (Xn [((Zr i x y z).drop 1).getD k 0,(k:Int)+1]) (Nat.le_trans (Zat (Qw hc) O) O3) (Zgp (Qw hc) O))) fun _ _=>?_
     refine go 3 ?_
     refine Fm rfl (Zgu (i:=8) rfl rfl rfl rfl rfl rfl Tryz.sizeOf93 rfl rfl ⟨Zn rfl,Zn rfl,trivial⟩ rfl hw.h (fun _ h=>nomatch h)) (fun _ _=>?_)
     refine go 1 ?_
     refine Zy ?_
     refine go 6 ⟨O,?_⟩
     exact Xb (k+1) O1 O1 ⟨rfl,trivial⟩ ⟨by first | (obtain rfl:k=0:=O;rfl) | (rw [Zcu (show k≠0 by omega)];rfl),by rw [Zmv (Qw hc) O];rfl,trivial⟩
    ·refine Hd rfl (Qd (i:=11) (ivs:=[(0,_),(1,_)]) (enc:=Yl) ([((Zr i x y z).drop 1).getD k 0,(k:Int)+1]:List Int) rfl rfl ⟨rfl,rfl,rfl,rfl,trivial⟩ Tryz.underlying22 Tryz.ti3 rfl rfl rfl rfl rfl pZ.cells rfl rfl hw.h) (fun v_2 _=>?_)
     refine Qq (n:=6) 0 5 ?_ ?_
     ·refine Hd rfl (Zav (Zr4 (i:=8) rfl rfl rfl Tryz.isAgg93 Tryz.sizeOf93 rfl rfl) rfl) (fun _ _=>?_)
      refine Zm (n:=0) [(5,1),(6,1),(7,0),(8,0),(9,0),(10,1)] ?_
      refine Yx (Zh 11 [11] (Pv _ _ (fun a ha=>by simp only [List.mem_cons,List.not_mem_nil,or_false]at ha;rcases ha with rfl | rfl;exact Qv (Qw hc) k;exact⟨O,O⟩) O5)) fun _ _=>?_
      refine Yx (Zh 11 [] (Ek (slS ((Zr i x y z).drop 1) k) (Xn [((Zr i x y z).drop 1).getD k 0,(k:Int)+1]) (Nat.le_trans (Zat (Qw hc) O) O3) (Zgp (Qw hc) O))) fun _ _=>?_
      refine go 3 ?_
      refine Fm rfl (Zgu (i:=8) rfl rfl rfl rfl rfl rfl Tryz.sizeOf93 rfl rfl ⟨Zn rfl,Zn rfl,trivial⟩ rfl hw.h (fun _ h=>nomatch h)) (fun _ _=>?_)
      refine go 1 ?_
      refine Zy ?_
      refine go 6 ⟨O,?_⟩
      exact Xb (k+1) O1 O1 ⟨rfl,trivial⟩ ⟨by first | (obtain rfl:k=0:=O;rfl) | (rw [Zcu (show k≠0 by omega)];rfl),by rw [Zmv (Qw hc) O];rfl,trivial⟩
     ·refine Ny (Zh 11 [11] (Pv _ _ (fun a ha=>by simp only [List.mem_cons,List.not_mem_nil,or_false]at ha;rcases ha with rfl | rfl;exact Qv (Qw hc) k;exact⟨O,O⟩) O5)) fun _ _=>?_
      refine Zm (n:=0) [(0,1),(6,1),(7,0),(8,0),(9,0),(10,1)] ?_
      refine go 1 ?_
      refine Yx (Zh 11 [] (Ek (slS ((Zr i x y z).drop 1) k) (Xn [((Zr i x y z).drop 1).getD k 0,(k:Int)+1]) (Nat.le_trans (Zat (Qw hc) O) O3) (Zgp (Qw hc) O))) fun _ _=>?_
      refine go 3 ?_
      refine Fm rfl (Zgu (i:=8) rfl rfl rfl rfl rfl rfl Tryz.sizeOf93 rfl rfl ⟨Zn rfl,Zn rfl,trivial⟩ rfl hw.h (fun _ h=>nomatch h)) (fun _ _=>?_)
      refine go 1 ?_
      refine Zy ?_
      refine go 6 ⟨O,?_⟩
      exact Xb (k+1) O1 O1 ⟨rfl,trivial⟩ ⟨by first | (obtain rfl:k=0:=O;rfl) | (rw [Zcu (show k≠0 by omega)];rfl),by rw [Zmv (Qw hc) O];rfl,trivial⟩
   ·refine go 2 ?_
    refine Mq [] [] ?_
    refine Zm (n:=8) [(1,0),(2,0),(3,0)] ?_
    refine go 4 ⟨O,?_⟩
    refine Qq (n:=7) 0 4 ?_ ?_
    ·refine Hd rfl (Zav (Zr4 (i:=8) rfl rfl rfl Tryz.isAgg93 Tryz.sizeOf93 rfl rfl) rfl) (fun _ _=>?_)
     refine Zm (n:=0) [(4,1),(5,1),(6,1),(7,0),(8,0),(9,0),(10,1)] ?_
     refine Fm rfl (Qd (i:=12) (ivs:=[(0,_),(1,_)]) (enc:=Yl) ([((Zr i x y z).drop 1).getD k 0,(k:Int)+1]:List Int) rfl rfl ⟨rfl,rfl,rfl,rfl,trivial⟩ Tryz.underlying22 Tryz.ti3 rfl rfl rfl rfl rfl pZ.cells rfl rfl hw.h) (fun v_3 _=>?_)
     refine Yx (Zh 12 [12] (Pv _ _ (fun a ha=>by simp only [List.mem_cons,List.not_mem_nil,or_false]at ha;rcases ha with rfl | rfl;exact Qv (Qw hc) k;exact⟨O,O⟩) O5)) fun _ _=>?_
     refine Yx (Zh 12 [] (Ek (slS ((Zr i x y z).drop 1) k) (Xn [((Zr i x y z).drop 1).getD k 0,(k:Int)+1]) (Nat.le_trans (Zat (Qw hc) O) O3) (Zgp (Qw hc) O))) fun _ _=>?_
     refine go 3 ?_
     refine Fm rfl (Zgu (i:=8) rfl rfl rfl rfl rfl rfl Tryz.sizeOf93 rfl rfl ⟨Zn rfl,Zn rfl,trivial⟩ rfl hw.h (fun _ h=>nomatch h)) (fun _ _=>?_)
     refine go 1 ?_
     refine Zy ?_
     refine go 6 ⟨O,?_⟩
     exact Xb (k+1) O1 O1 ⟨rfl,trivial⟩ ⟨by first | (obtain rfl:k=0:=O;rfl) | (rw [Zcu (show k≠0 by omega)];rfl),by rw [Zmv (Qw hc) O];rfl,trivial⟩
    ·refine Hd rfl (Qd (i:=13) (ivs:=[(0,_),(1,_)]) (enc:=Yl) ([((Zr i x y z).drop 1).getD k 0,(k:Int)+1]:List Int) rfl rfl ⟨rfl,rfl,rfl,rfl,trivial⟩ Tryz.underlying22 Tryz.ti3 rfl rfl rfl rfl rfl pZ.cells rfl rfl hw.h) (fun v_4 _=>?_)
     refine Qq (n:=6) 0 5 ?_ ?_
     ·refine Hd rfl (Zav (Zr4 (i:=8) rfl rfl rfl Tryz.isAgg93 Tryz.sizeOf93 rfl rfl) rfl) (fun _ _=>?_)
      refine Zm (n:=0) [(5,1),(6,1),(7,0),(8,0),(9,0),(10,1)] ?_
      refine Yx (Zh 13 [13] (Pv _ _ (fun a ha=>by simp only [List.mem_cons,List.not_mem_nil,or_false]at ha;rcases ha with rfl | rfl;exact Qv (Qw hc) k;exact⟨O,O⟩) O5)) fun _ _=>?_
      refine Yx (Zh 13 [] (Ek (slS ((Zr i x y z).drop 1) k) (Xn [((Zr i x y z).drop 1).getD k 0,(k:Int)+1]) (Nat.le_trans (Zat (Qw hc) O) O3) (Zgp (Qw hc) O))) fun _ _=>?_
      refine go 3 ?_
      refine Fm rfl (Zgu (i:=8) rfl rfl rfl rfl rfl rfl Tryz.sizeOf93 rfl rfl ⟨Zn rfl,Zn rfl,trivial⟩ rfl hw.h (fun _ h=>nomatch h)) (fun _ _=>?_)
      refine go 1 ?_
      refine Zy ?_
      refine go 6 ⟨O,?_⟩
      exact Xb (k+1) O1 O1 ⟨rfl,trivial⟩ ⟨by first | (obtain rfl:k=0:=O;rfl) | (rw [Zcu (show k≠0 by omega)];rfl),by rw [Zmv (Qw hc) O];rfl,trivial⟩
     ·refine Ny (Zh 13 [13] (Pv _ _ (fun a ha=>by simp only [List.mem_cons,List.not_mem_nil,or_false]at ha;rcases ha with rfl | rfl;exact Qv (Qw hc) k;exact⟨O,O⟩) O5)) fun _ _=>?_
      refine Zm (n:=0) [(0,1),(6,1),(7,0),(8,0),(9,0),(10,1)] ?_
      refine go 1 ?_
      refine Yx (Zh 13 [] (Ek (slS ((Zr i x y z).drop 1) k) (Xn [((Zr i x y z).drop 1).getD k 0,(k:Int)+1]) (Nat.le_trans (Zat (Qw hc) O) O3) (Zgp (Qw hc) O))) fun _ _=>?_
      refine go 3 ?_
      refine Fm rfl (Zgu (i:=8) rfl rfl rfl rfl rfl rfl Tryz.sizeOf93 rfl rfl ⟨Zn rfl,Zn rfl,trivial⟩ rfl hw.h (fun _ h=>nomatch h)) (fun _ _=>?_)
      refine go 1 ?_
      refine Zy ?_
      refine go 6 ⟨O,?_⟩
      exact Xb (k+1) O1 O1 ⟨rfl,trivial⟩ ⟨by first | (obtain rfl:k=0:=O;rfl) | (rw [Zcu (show k≠0 by omega)];rfl),by rw [Zmv (Qw hc) O];rfl,trivial⟩
  ·obtain rfl:k=((Zr i x y z).drop 1).length:=O
   refine go 14 ⟨O,?_⟩
   refine tt (Qd (i:=14) (ivs:=[(0,_),(1,_)]) (enc:=Yl) ([ov,to-fr]:List Int) rfl rfl ⟨rfl,rfl,rfl,rfl,trivial⟩ Tryz.underlying22 Tryz.ti3 rfl rfl rfl rfl rfl pZ.cells rfl rfl hw.h) rfl (fun v_5 _=>?_)
   refine cl 14 [14] (Pv _ _ (in_pr hS) O5) fun _ _=>?_
   refine Yd (Zs 15) fun bx_6 _=>?_
   refine go 8 ?_
   refine cl 15 [] (Dw (bgS (Zr i x y z)) (Xn [ov,to-fr]) (Nat.le_trans (Yf4 (Qw hc) _) O3) (Nat.le_trans p1 O3) p2) fun _ _=>?_
   refine go 3 ?_
   refine dt (Iq (i:=i) rfl rfl rfl Tryz.underlying130 Tryz.sizeOf129 rfl) ?_
   refine tt (Zvh (i:=5) (j:=i) (k:=4) (enc:=rq) (qr (bgS (Zr i x y z)) (Xn [ov,to-fr])) rfl rfl rfl rfl rfl pQ (by rw [Zam];omega) rfl hw.h trivial) rfl (fun _ _=>?_)
   refine go 6 ?_
   refine cl 15 [] (Dw (enS (Zr i x y z)) (Xn [ov,to-fr]) (Nat.le_trans (Zat (Qw hc) O) O3) (Nat.le_trans p1 O3) p2) fun _ _=>?_
   refine go 3 ?_
   refine dt (Iq (i:=i) rfl rfl rfl Tryz.underlying130 Tryz.sizeOf129 rfl) ?_
   refine tt (Zvh (i:=6) (j:=i) (k:=4) (enc:=rq) (qr (enS (Zr i x y z)) (Xn [ov,to-fr])) rfl rfl rfl rfl rfl pQ (by rw [Zal];omega) rfl hw.h trivial) rfl (fun _ _=>?_)
   refine go 7 ⟨O,?_⟩
   exact Xb (i+1) O1 O1 ⟨rfl,trivial⟩ ⟨rfl,rfl,trivial⟩
 ·obtain rfl:i=3:=O
  refine go 6 ?_
  refine Mq [6] [3] ?_
  refine Zm (n:=0) [(1,0),(0,1),(2,1),(3,3)] ?_
  refine Qe rfl rfl (stf (Zr1 (i:=6) (enc:=rq) (l:=(eS ov (to-fr) x y z 3)) rfl rfl rfl pQ Tryz.isAgg130 Tryz.sizeOf130 (by rw [Zal])) ⟨rfl,trivial⟩) ?_
  refine Fm rfl (Zav (Zr1 (i:=5) (enc:=rq) (l:=(bS ov (to-fr) x y z 3)) rfl rfl rfl pQ Tryz.isAgg130 Tryz.sizeOf130 (by rw [Zam])) rfl) (fun _ _=>?_)
  refine Fm rfl (t_off 5 rfl rfl ⟨rfl,trivial⟩ (fun ob=>(Zir (i:=5) (enc:=rq) (l:=(bS ov (to-fr) x y z 3)) rfl rfl rfl rfl rfl pQ Tryz.sizeOf130 (by rw [Zam]) (by simp [Yr pQ.cells,Zam]) rfl hw.h ob))) (fun _ _=>?_)
  refine r3' rfl (Zir (i:=6) (enc:=rq) (l:=(eS ov (to-fr) x y z 3)) rfl rfl rfl rfl rfl pQ Tryz.sizeOf130 (by rw [Zal]) (by simp [Yr pQ.cells,Zal]) rfl hw.h trivial) (fun _ _=>?_)
  refine go 1 ?_
  refine Zy ?_
  refine go 2 ?_
  exact Zli (.inl rfl) hsc () _ (fun a w hs=>Zte hs Tryz.results75 (Kb (i:=5) (vs:=cellsOf rq (bS ov (to-fr) x y z 3)) rfl rfl Tryz.isAgg130 Tryz.sizeOf130 (by simp [Yr pQ.cells,Zam])) (Kb (i:=6) (vs:=cellsOf rq (eS ov (to-fr) x y z 3)) rfl rfl Tryz.isAgg130 Tryz.sizeOf130 (by simp [Yr pQ.cells,Zal]))) rfl trivial rfl Za
theorem Ze8(fr to ov fr2 to2 ov2:Int)(vx vy vz vx2 vy2 vz2:Value)(x y z x2 y2 z2:List Int)(hS:Sgo fr to ov x y z)(hS2:Sgo fr2 to2 ov2 x2 y2 z2):Cal Tryz.prog 37 #[.agg #[.int .i64 fr,.int .i64 to,.int .i64 ov,vx,vy,vz],.agg #[.int .i64 fr2,.int .i64 to2,.int .i64 ov2,vx2,vy2,vz2]] [Ym 1 Yl vx x,Ym 1 Yl vy y,Ym 1 Yl vz z,Ym 1 Yl vx2 x2,Ym 1 Yl vy2 y2,Ym 1 Yl vz2 z2] false (G:=Unit) (fun _=>True) (fun _=> .bool (Zhb fr to ov x y z fr2 to2 ov2 x2 y2 z2)) (fun _=>[]):=by
 refine Zd Tryz.func37 Tryz.ntmps37 fun w0 sc hw hsc=>?_
 refine go 2 ?_
 refine Yd (Yg 7) fun bx _=>?_
 refine Yd (Yg 8) fun bx_2 _=>?_
 refine go 6 ?_
 refine cl 8 [1,2,3] (Zml _ _ _ _ _ _ _ _ _ hS) fun _ _=>?_
 refine go 3 ?_
 refine tt (Fz (i:=9) rfl rfl Tryz.zeroValue130 rfl rfl hw.h) rfl (fun bx_3 _=>?_)
 refine tt (Fz (i:=10) rfl rfl Tryz.zeroValue130 rfl rfl hw.h) rfl (fun bx_4 _=>?_)
 refine tt (Zir (i:=9) (enc:=rq) (l:=(bS ov (to-fr) x y z 3)) rfl rfl rfl rfl rfl pQ Tryz.sizeOf130 (by rw [Zam]) rfl rfl hw.h trivial) rfl (fun _ _=>?_)
 refine tt (Zir (i:=10) (enc:=rq) (l:=(eS ov (to-fr) x y z 3)) rfl rfl rfl rfl rfl pQ Tryz.sizeOf130 (by rw [Zal]) rfl rfl hw.h trivial) rfl (fun _ _=>?_)
 refine go 5 ?_
 refine cl 10 [4,5,6] (Zml _ _ _ _ _ _ _ _ _ hS2) fun _ _=>?_
 refine go 3 ?_
 refine tt (Fz (i:=11) rfl rfl Tryz.zeroValue130 rfl rfl hw.h) rfl (fun bx_5 _=>?_)
 refine tt (Fz (i:=12) rfl rfl Tryz.zeroValue130 rfl rfl hw.h) rfl (fun bx_6 _=>?_)
 refine tt (Zir (i:=11) (enc:=rq) (l:=(bS ov2 (to2-fr2) x2 y2 z2 3)) rfl rfl rfl rfl rfl pQ Tryz.sizeOf130 (by rw [Zam]) rfl rfl hw.h trivial) rfl (fun _ _=>?_)
 refine tt (Zir (i:=12) (enc:=rq) (l:=(eS ov2 (to2-fr2) x2 y2 z2 3)) rfl rfl rfl rfl rfl pQ Tryz.sizeOf130 (by rw [Zal]) rfl rfl hw.h trivial) rfl (fun _ _=>?_)
 refine go 4 ?_
 refine dt (Zr1 (i:=11) (enc:=rq) (l:=(bS ov2 (to2-fr2) x2 y2 z2 3)) rfl rfl rfl pQ Tryz.isAgg130 Tryz.sizeOf130 (by rw [Zam])) ?_
 refine dt (Zr1 (i:=10) (enc:=rq) (l:=(eS ov (to-fr) x y z 3)) rfl rfl rfl pQ Tryz.isAgg130 Tryz.sizeOf130 (by rw [Zal])) ?_
 refine dt (Zhf (xs:=(cellsOf rq [qr (bgS x2) (Xn [ov2,to2-fr2]),qr (bgS y2) (Xn [ov2,to2-fr2]),qr (bgS z2) (Xn [ov2,to2-fr2])]).toArray) (ys:=(cellsOf rq [qr (enS x) (Xn [ov,to-fr]),qr (enS y) (Xn [ov,to-fr]),qr (enS z) (Xn [ov,to-fr])]).toArray) rfl rfl rfl eg130 (fun w=>eqlA w _ _ _ _ _ _)) ?_
 refine go 4 ?_
 exact Xj hsc () Tryz.results37 rfl trivial Za
theorem Zha(fr to ov fr2 to2 ov2:Int)(vx vy vz vx2 vy2 vz2:Value)(x y z x2 y2 z2:List Int)(hfr:Qx fr)(hto:Qx to)(hov:Qx ov)(hx:∀a∈x,Qx a)(hy:∀a∈y,Qx a)(hz:∀a∈z,Qx a)(hfr2:Qx fr2)(hto2:Qx to2)(hov2:Qx ov2)(hx2:∀a∈x2,Qx a)(hy2:∀a∈y2,Qx a)(hz2:∀a∈z2,Qx a)(hb:El fr to ov x y z=true)(hb2:El fr2 to2 ov2 x2 y2 z2=true)(hm:to=fr2):Cal Tryz.prog 11 #[.agg #[.int .i64 fr,.int .i64 to,.int .i64 ov,vx,vy,vz],.agg #[.int .i64 fr2,.int .i64 to2,.int .i64 ov2,vx2,vy2,vz2]] [Ym 1 Yl vx x,Ym 1 Yl vy y,Ym 1 Yl vz z,Ym 1 Yl vx2 x2,Ym 1 Yl vy2 y2,Ym 1 Yl vz2 z2] false (G:=Unit) (fun _=>True) (fun _=> .tuple #[.bool (Zhb fr to ov x y z fr2 to2 ov2 x2 y2 z2),.int .i64 0]) (fun _=>[]):=by
 refine Zd Tryz.func11 Tryz.ntmps11 fun w0 sc hw hsc=>?_
 refine go 2 ?_
 refine Yd (Yg 7) fun bx _=>?_
 refine Yd (Yg 8) fun bx_2 _=>?_
 refine go 9 ?_
 refine cl 8 [1,2,3] (Bp _ _ _ _ _ _ _ _ _ hfr hto hov hx hy hz) fun _ _=>?_
 refine dt (Zj (r':= .bool false) (Yp rfl rfl) (congrArg Value.bool (by rw [hb];rfl))) ?_
 refine go 2 ?_
 refine Fl 8 [4,5,6] (Bp _ _ _ _ _ _ _ _ _ hfr2 hto2 hov2 hx2 hy2 hz2) fun _ _=>?_
 refine Ly (Zj (r':= .bool false) (Yp rfl rfl) (congrArg Value.bool (by rw [hb2];rfl))) rfl rfl ?_
 refine kf O3 ?_
 refine go 10 ?_
 refine kf (decide_eq_false (fun h=>h hm)) ?_
 refine go 11 ?_
 refine cl 8 [1,2,3,4,5,6] (Ze8 _ _ _ _ _ _ _ _ _ _ _ _ _ _ _ _ _ _ (Sgo.of hx hy hz hb) (Sgo.of hx2 hy2 hz2 hb2)) fun _ _=>?_
 refine go 5 ?_
 exact Nz hsc () Tryz.results11 rfl trivial Za
theorem pG:Enc Tryz.prog 24 6 Mj:=Enc.agg O3 Tryz.sizeOf24 Tryz.isAgg24 (fun x=>⟨[.int .i64 x.1.1,.int .i64 x.1.2.1,.int .i64 x.1.2.2,Qo x.2.1.1,Qo x.2.2.1.1,Qo x.2.2.2.1],rfl,rfl,by simp [Value.oneCell']⟩)
theorem Gg(n k:Int)(hn:bl n.natAbs≤60)(h0:0≤k)(hk:k≤10):Cal Tryz.prog 150 #[.int .i64 n,.int .i64 k] [] false (G:=Unit) (fun _=>True) (fun _=>wv (n^k.toNat)) (fun _=>[]):=by
 have h:=Ybj n k.toNat hn O
 rw [Int.toNat_of_nonneg h0]at h
 exact h
theorem Zp9(fr to ov:Int)(vx vy vz:Value)(x y z:List Int)(a d:Int)(hS:Sgo fr to ov x y z)(ha:0≤a∧a≤3600000)(hd:1≤d∧d≤3600000):Cal Tryz.prog 138 #[.agg #[.int .i64 fr,.int .i64 to,.int .i64 ov,vx,vy,vz],.int .i64 a,.int .i64 d] [Ym 1 Yl vx x,Ym 1 Yl vy y,Ym 1 Yl vz z] false (G:=Unit) (fun _=>True) (fun _=>plV (pl x a d/(gS ov a d x y z 3)) (pl y a d/(gS ov a d x y z 3)) (pl z a d/(gS ov a d x y z 3)) (ov*d^5/(gS ov a d x y z 3))) (fun _=>[]):=by
 refine Zd Tryz.func138 Tryz.ntmps138 fun w0 sc hw hsc=>?_
 have hba:bl a.natAbs≤60:=(Xo 60 _).2 O
 have hbd:bl d.natAbs≤60:=(Xo 60 _).2 O
 have ho1:=hS.o1
 have ho2:=hS.o2
 obtain⟨k1,k2⟩:=Zmo hS ha hd 0
 refine go 2 ?_
 refine Yd (Yg 4) fun bx _=>?_
 refine Yd (Zs 5) fun bx_2 _=>?_
 refine go 4 ?_
 refine Yd (Zs 6) fun bx_3 _=>?_
 refine go 6 ?_
 refine cl 6 [] (Zp ov) fun _ _=>?_
 refine go 1 ?_
 refine cl 6 [] (Gg d 5 hbd O3 O3) fun _ _=>?_
 refine cl 6 [] (Cd ov (d^5) (Nat.le_trans ((Xo 40 _).2 O) (by decide:40≤30000)) (Nat.le_trans (Zgo (a:=d) ⟨O,O⟩ (k:=5) O3) O3)) fun _ _=>?_
 refine Yd (Zs 7) fun bx_4 _=>?_
 refine go 6 ?_
 refine Yd (Zs 8) fun bx_5 _=>?_
 refine go 7 ?_
 refine cl 8 [1,2,3] (Znb _ _ _ _ _ _ _ _ _) fun _ _=>?_
 refine go 4 ?_
 refine Ze (Mt 6 (q:=box bx_3 227 (cellsOf wv (List.replicate 3 (0:Int))).toArray) (congrArg (box bx_3 227) (show _=(cellsOf wv (List.replicate 3 (0:Int))).toArray from rfl)) rfl rfl) ?_
 refine lp (G:=Nat) [1,2,6,7,8,9,22] [0,1,2,3,4,5,7] (fun i=>[(23,.int .i64 (i:Int))]) (fun i=>[(6,box bx_3 227 (cellsOf wv (atS a d x y z i)).toArray),(8,box bx_5 93 (wc (gS ov a d x y z i)))]) (fun i=>i≤3) (fun i=>3-i) 0 O1 ⟨rfl,trivial⟩ ⟨rfl,rfl,trivial⟩ ?_
 rintro i hi
 have hc:=hS.hc i
 have hlc:=hS.lc i
 obtain⟨g1,g2⟩:=Zmo hS ha hd i
 refine go 6 ?_
 refine Zc rfl (fun h103=>?_) (fun h103=>?_)
 ·refine go 5 ?_
  refine Ze (Zdh i 1 2 3 50 rfl rfl rfl rfl rfl rfl) ?_
  refine go 2 ?_
  refine dt (Zkn (i:=i) rfl rfl rfl Tryz.underlying124 Tryz.sizeOf22 Tryz.isAgg22 rfl) ?_
  refine go 13 ?_
  refine lp (G:=Nat) [1,2,6,7,8,9,10,22,23,27,28] [0,8,1,2,3,4,5,7,50] (fun k=>[(29,.int .i64 (k:Int))]) (fun k=>[(6,box bx_3 227 (cellsOf wv ((atS a d x y z i).set i (plS (Zr i x y z) a d k))).toArray)]) (fun k=>k≤(Zr i x y z).length) (fun k=>(Zr i x y z).length-k) 0 O1 ⟨rfl,trivial⟩ ⟨by rw [show((atS a d x y z i).set i (plS (Zr i x y z) a d 0))=(atS a d x y z i)from(Ygd a d x y z O).symm];rfl,trivial⟩ ?_
  rintro k hk
  refine go 6 ?_
  refine Zc rfl (fun h104=>?_) (fun h104=>?_)
  ·refine go 13 ⟨O2,O2,?_⟩
   refine Xw (fun _=>False) [(0,0),(1,0),(2,0),(3,0),(4,0),(6,0),(7,0),(9,0),(10,0),(11,0),(5,1),(8,1),(12,1),(13,1),(14,1),(15,1),(16,0),(17,3)] ?_
   refine go 2 ?_
   refine Qe rfl rfl (Qa (Iq (i:=i) rfl rfl rfl Tryz.underlying227 Tryz.sizeOf93 rfl)) ?_
   refine Qe rfl rfl (Qa (Zj (r':=wv (plS (Zr i x y z) a d k)) (Zr2 (i:=6) (enc:=wv) (j:=i) (l:=((atS a d x y z i).set i (plS (Zr i x y z) a d k))) 0 rfl rfl rfl pV (by rw [List.length_set,Di];omega)) (congrArg wv (Zqf _ (by rw [Di];omega))))) ?_
   refine go 6 ⟨O,?_⟩
   refine Yx (Zh 8 [] (Zp ((Zr i x y z).getD k 0) (Qv hc k))) fun _ _=>?_
   refine Yx (Zh 8 [] (Gg a (k:Int) hba O O)) fun _ _=>?_
   refine Yx (Zh 8 [] (Gg d (5-(k:Int)) hbd O O)) fun _ _=>?_
   refine Yx (Zh 8 [] (Cd (a^k) (d^(5-(k:Int)).toNat) (Nat.le_trans (Zgo ha O) O3) (Nat.le_trans (Zgo (a:=d) ⟨O,O⟩ O) O3))) fun _ _=>?_
   refine Yx (Zh 8 [] (Cd ((Zr i x y z).getD k 0) (a^k*d^(5-(k:Int)).toNat) (Nat.le_trans (Lu (Qv hc k)) O3) (Nat.le_trans (Zph hc ha hd (k:=k) O).1 O3))) fun _ _=>?_
   refine Yx (Zh 8 [] (Ybm (plS (Zr i x y z) a d k) (plT (Zr i x y z) a d k) (Nat.le_trans (Zb2 hc ha hd O) O3) (Nat.le_trans (Zph hc ha hd O).2 O3))) fun _ _=>?_
   refine Qe rfl rfl (Qa (Iq (i:=i) rfl rfl rfl Tryz.underlying227 Tryz.sizeOf93 rfl)) ?_
   refine r3' rfl (Zvh (i:=6) (j:=i) (k:=2) (enc:=wv) ((plS (Zr i x y z) a d k)+plT (Zr i x y z) a d k) rfl rfl rfl rfl rfl pV (by rw [List.length_set,Di];omega) rfl hw.h trivial) (fun _ _=>?_)
   refine go 7 ⟨O,?_⟩
   exact Xb (k+1) O1 O1 ⟨rfl,trivial⟩ ⟨by rw [List.set_set];rfl,trivial⟩
  ·obtain rfl:k=(Zr i x y z).length:=O
   refine go 5 ?_
   refine Xw (fun _=>False) [(0,0),(1,0),(2,0),(3,0),(4,1),(5,3)] ?_
   refine go 2 ?_
   refine Qe rfl rfl (Qa (Iq (i:=i) rfl rfl rfl Tryz.underlying227 Tryz.sizeOf93 rfl)) ?_
   refine Qe rfl rfl (Qa (Zj (r':=wv (pl (Zr i x y z) a d)) (Zr2 (i:=6) (enc:=wv) (j:=i) (l:=((atS a d x y z i).set i (pl (Zr i x y z) a d))) 0 rfl rfl rfl pV (by rw [List.length_set,Di];omega)) (congrArg wv (Zqf _ (by rw [Di];omega))))) ?_
   refine Yx (Zh 8 [] (Zna (gS ov a d x y z i) (pl (Zr i x y z) a d) (Nat.le_trans g2 O3) (Nat.le_trans (Zb2 hc ha hd hlc.2) O3))) fun _ _=>?_
   refine go 8 ⟨O,?_⟩
   exact Xb (i+1) O1 O1 ⟨rfl,trivial⟩ ⟨rfl,rfl,trivial⟩
 ·obtain rfl:i=3:=O
  refine go 6 ?_
  refine Xw (fun _=>False) [(0,0),(1,0),(2,0),(4,0),(5,0),(6,0),(8,0),(9,0),(10,0),(12,0),(13,0),(3,1),(7,1),(11,1),(14,1),(15,0),(16,3)] ?_
  refine Qe rfl rfl (Qa (Iq (i:=0) rfl rfl rfl Tryz.underlying227 Tryz.sizeOf93 rfl)) ?_
  refine Qe rfl rfl (Qa (Zj (r':=wv (pl x a d)) (Zr2 (i:=6) (enc:=wv) (j:=0) (l:=(atS a d x y z 3)) 0 rfl rfl rfl pV (by rw [Di];decide)) (congrArg wv rfl))) ?_
  refine go 1 ?_
  refine Qe rfl rfl (Qa (Iq (i:=1) rfl rfl rfl Tryz.underlying227 Tryz.sizeOf93 rfl)) ?_
  refine Qe rfl rfl (Qa (Zj (r':=wv (pl y a d)) (Zr2 (i:=6) (enc:=wv) (j:=1) (l:=(atS a d x y z 3)) 0 rfl rfl rfl pV (by rw [Di];decide)) (congrArg wv rfl))) ?_
  refine go 1 ?_
  refine Qe rfl rfl (Qa (Iq (i:=2) rfl rfl rfl Tryz.underlying227 Tryz.sizeOf93 rfl)) ?_
  refine Qe rfl rfl (Qa (Zj (r':=wv (pl z a d)) (Zr2 (i:=6) (enc:=wv) (j:=2) (l:=(atS a d x y z 3)) 0 rfl rfl rfl pV (by rw [Di];decide)) (congrArg wv rfl))) ?_
  refine go 3 ?_
  refine Yx (Zh 8 [] (Zf7 (pl x a d) (gS ov a d x y z 3) (Nat.le_trans (Zb2 hS.hx ha hd hS.lx.2) O3) (Nat.le_trans g2 O3) O)) fun _ _=>?_
  refine Yx (Zh 8 [] (Zf7 (pl y a d) (gS ov a d x y z 3) (Nat.le_trans (Zb2 hS.hy ha hd hS.ly.2) O3) (Nat.le_trans g2 O3) O)) fun _ _=>?_
  refine Yx (Zh 8 [] (Zf7 (pl z a d) (gS ov a d x y z 3) (Nat.le_trans (Zb2 hS.hz ha hd hS.lz.2) O3) (Nat.le_trans g2 O3) O)) fun _ _=>?_
  refine Yx (Zh 8 [] (Zf7 (ov*d^5) (gS ov a d x y z 3) (Nat.le_trans k2 O3) (Nat.le_trans g2 O3) O)) fun _ _=>?_
  refine Qe rfl rfl (Qa (Xl (ivs:=[(0,_),(1,_),(2,_),(3,_)]) rfl ⟨rfl,rfl,rfl,rfl,rfl,rfl,rfl,rfl,trivial⟩ (fun a w hs=>Zm1))) ?_
  refine go 4 ?_
  exact Xj hsc () Tryz.results138 rfl trivial Za
theorem eg151:Tryz.prog.eqGuardType Tryz.prog.depth 151=false:=O6
theorem eqlP(w:World)(p q r o p' q' r' o':Int):(binOp .eql 151 (plV p q r o) (plV p' q' r' o')).run Tryz.prog w= .ok (.bool (decide (p=p'∧q=q'∧r=r'∧o=o'))) w:=by
 have sh:Tryz.prog.stoodInHeld 151=false:=O6
 have hu:Tryz.prog.underlying 151=some (.struct (Tryz.prog.fieldsOf 151)):=by unfold Program.fieldsOf;rw [Tryz.underlying151]
 rw [run_eql_struct,run_equalIn_agg w 9999 151 _ _ hu sh]
 unfold Program.fieldsOf
 rw [Tryz.underlying151]
 simp [Op.eqFields,part,Tryz.isAgg93,Tryz.sizeOf93,Yiz,Zug]
 by_cases h1:p=p'<;>by_cases h2:q=q'<;>by_cases h3:r=r'<;>by_cases h4:o=o'<;>simp_all
def litb(l:List Int):Bool:=(l.all fun x=>decide (-1000000≤x) && decide (x≤1000000)) && (decide (tzl l=l) && decide (l.length≤25))
instance eokDec:∀f a b,Decidable (eok f a b)
 | 0,_,b=>inferInstanceAs (Decidable (b=[]))
 | f+1,a,b=>@instDecidableOr _ _ _ (@instDecidableAnd _ _ _ (eokDec f b (Zu (Xy a b))))
def lessx(xs:List Int)(m:Int):List Int:=Cr xs (tzl [m])
def Zss(xs:List Int)(m:Int):Prop:=∃x:Rat,0≤x∧x≤1∧Zb xs x<(m:Rat)
theorem Zzo{xs:List Int}{m n:Int}(h:Zss xs m)(hmn:m≤n):Zss xs n:=by
 obtain⟨x,a,b,c⟩:=h
 have:(m:Rat)≤(n:Rat):=by exact_mod_cast hmn
 exact⟨x,a,b,O4⟩
def lws:List Int→Int
 | []=>0
 | c :: p=>-(c.natAbs:Int)+lws p
theorem Ydw{n:Nat} : ∀p:List Int,(∀c∈p,c.natAbs≤n)→-((p.length*n:Nat):Int)≤lws p∧lws p≤0
 | [],_=>by show -((0*n:Nat):Int)≤0∧(0:Int)≤0;omega
 | c :: p,h=>by
  have h1:=Ydw p fun d hd=>h d (List.mem_cons_of_mem _ hd)
  have h2:=h c List.mem_cons_self
  show -(((p.length+1)*n:Nat):Int)≤-(c.natAbs:Int)+lws p∧-(c.natAbs:Int)+lws p≤0
  rw [Nat.succ_mul];omega
theorem Zwm{x:Rat}(h0:0≤x)(h1:x≤1):∀p:List Int,((lws p:Int):Rat)≤Zb p x
 | []=>by show((0:Int):Rat)≤0;exact Rat.le_refl
 | c :: p=>by
  have ih:=Zwm h0 h1 p
  have hb:=(Ydw (n:=p.foldl (fun m c=>max m c.natAbs) 0) p (fun c hc=>by
   have:∀(l:List Int) (a:Nat),(a≤l.foldl (fun m c=>max m c.natAbs) a)∧∀c∈l,c.natAbs≤l.foldl (fun m c=>max m c.natAbs) a:=fun l=>by
    induction l with
    | nil=>intro a;exact⟨Nat.le_refl _,fun c hc=>absurd hc O5⟩
    | cons d l ih=>
     intro a
     obtain⟨i1,i2⟩:=ih (max a d.natAbs)
     refine⟨Nat.le_trans (Nat.le_max_left _ _) i1,fun c hc=>?_⟩
     rcases List.mem_cons.1 hc with rfl | hc
     ·exact Nat.le_trans (Nat.le_max_right _ _) i1
     ·exact i2 c hc
   exact(this p 0).2 c hc)).2
  have hb':((lws p:Int):Rat)≤0:=by exact_mod_cast hb
  have hc:((-(c.natAbs:Int):Int):Rat)≤(c:Rat):=by exact_mod_cast (show -(c.natAbs:Int)≤c by omega)
  have hm:=Rat.mul_nonneg (show 0≤1-x by grind) (show 0≤-((lws p:Int):Rat) by grind)
  have hm2:=Rat.mul_nonneg h0 (show 0≤Zb p x-((lws p:Int):Rat) by grind)
  show((-(c.natAbs:Int)+lws p:Int):Rat)≤(c:Rat)+x*Zb p x
  push_cast at hc ⊢
  grind
theorem Ydz(xs:List Int):¬Zss xs (lws xs):=by
 rintro⟨x,a,b,c⟩
 have:=Zwm a b xs;grind
theorem Yhu(xs:List Int):Zb xs 0=((cf xs 0:Int):Rat):=by
 cases xs with
 | nil=>rfl
 | cons c p=>show(c:Rat)+0*Zb p 0=(c:Rat);grind
theorem Zzp(xs:List Int):Zss xs (cf xs 0+1):=by
 refine⟨0,O4,O3,?_⟩
 rw [Yhu]
 push_cast;grind
theorem Yii{xs:List Int}{l h:Int}(h1:¬Zss xs l)(h2:Zss xs h):l<h:=by
 rcases Int.lt_or_le l h with q | q
 ·exact q
 ·exact absurd (Zzo h2 q) h1
theorem Zp3{xs:List Int}(hs:Sz 40 xs)(i:Nat):(cf xs i).natAbs<1099511627776:=(Xo 40 _).1 (hs i)
theorem Ydv{xs:List Int}(hs:Sz 40 xs)(hl:xs.length≤9)(i:Nat):-9895604649984≤lws (xs.take i)∧lws (xs.take i)≤0:=by
 obtain⟨h1,h2⟩:=Ydw (n:=1099511627776) (xs.take i) fun c hc=>by
  obtain⟨k,hk,rfl⟩:=List.mem_iff_getElem.1 hc
  have h9:=Zp3 hs k
  rw [List.length_take]at hk
  have e:(xs.take i)[k]=cf xs k:=by rw [List.getElem_take];unfold cf;rw [List.getD_eq_getElem?_getD,List.getElem?_eq_getElem O];rfl
  rw [e];omega
 have h3:(xs.take i).length*1099511627776≤9*1099511627776:=Nat.mul_le_mul_right _ (by rw [List.length_take];omega)
 exact⟨O,h2⟩
structure FlI (xs:List Int) (lo hi:Int):Prop where
 l:¬Zss xs lo
 h:Zss xs hi
 b1:-17592186044416≤lo
 b2:hi≤17592186044416
theorem FlI.lt{xs:List Int}{lo hi:Int}(h:FlI xs lo hi):lo<hi:=Yii h.l h.h
theorem FlI.start{xs:List Int}(hs:Sz 40 xs)(hl:xs.length≤9){i:Nat}(hi:xs.length≤i):FlI xs (lws (xs.take i)) (cf xs 0+1):=by
 have h1:=Ydv hs hl i
 have h2:=Zp3 hs 0
 refine⟨by rw [List.take_of_length_le hi];exact Ydz xs,Zzp xs,O,O⟩
structure Ef (a:R2):Prop where
 p:0<a.2
 b1:bl a.1.natAbs≤512
 b2:bl a.2.natAbs≤512
theorem E32.ef{a:R2}(h:E32 a):Ef a:=⟨h.p,Nat.le_trans h.b1 O3,Nat.le_trans h.b2 O3⟩
def plx(a b:R2):Int:=a.1*b.2
def ply(a b:R2):Int:=b.1*a.2
def pld(a b:R2):Int:=a.2*b.2
def plc(xs:List Int)(a b:R2):List Int:=Lm xs (plx a b) (ply a b-plx a b) (pld a b)
def psum(c:List Int)(d j:Nat)(i:Nat):Int:=Ye (fun i=>cf c i*(On (d-i) (j-i):Int)) i
def plainB(xs:List Int)(a b:R2):Bool:=if xs.length=0 then true else(List.range xs.length).all fun j=>decide (0≤psum (plc xs a b) (xs.length-1) j (min (j+1) (plc xs a b).length))
abbrev PTs:=Int×R2×R2
abbrev P0:PTs:=(0,(0,0),(0,0))
abbrev encP9 (z:PTs):Value:= .agg #[.int .i64 z.1,.bool (decide (z.2.1.1<0)),.string (Xp z.2.1.1.natAbs),.bool (decide (z.2.1.2<0)),.string (Xp z.2.1.2.natAbs),.bool (decide (z.2.2.1<0)),.string (Xp z.2.2.1.natAbs),.bool (decide (z.2.2.2<0)),.string (Xp z.2.2.2.natAbs)]
def shw(xs:List Int)(z:PTs):Bool:=if z.1=1 then plainB xs z.2.1 z.2.2 else if xs.length=0∨cmp z.2.1 z.2.2=0 then decide (0≤vlu (Py xs) z.2.1)else decide (0<aft (Py xs) z.2.1) && !crb (chx xs) z.2.1 z.2.2
def okpB(xs:List Int)(l:R2)(z:PTs):Bool:=decide (cmp l z.2.1=0) && decide (¬0<cmp z.2.1 z.2.2) && shw xs z
def lst(a:R2)(ps:List PTs)(i:Nat):R2:=if i=0 then a else(ps.getD (i-1) P0).2.2
def chkP(xs:List Int)(ps:List PTs)(a b:R2):Bool:=decide (0<ps.length) && (List.range ps.length).all (fun k=>okpB xs (lst a ps k) (ps.getD k P0)) && decide (cmp (lst a ps ps.length) b=0)
def ValP(ps:List PTs):Prop:=∀z∈ps,(z.1=1∨z.1=2)∧Ef z.2.1∧Ef z.2.2
theorem Ef.efit{a:R2}(h:Ef a):Go.Sky.efit a=true:=by
 have:=h.b1
 have:=h.b2
 unfold Go.Sky.efit;exact decide_eq_true O
theorem Zpe{b:Bool}(h:(!b)=true):b=false:=by cases b<;>simp_all
theorem Zpf{b:Bool}(h:(!b)=false):b=true:=by cases b<;>simp_all
theorem Dr {P:Program} {N:Nat} {sc:Nat→Prop} {env:Qt} {H:Hp} {M:Nat→Prop} {ops:Array Oper} {F:Qt→Hp→Prop} {rest:List (Nat×Nat)} {o:Oper} {i d j e:Nat} {b:Bool} (ho:ops[i]? = some o) (hg:o.guard=some (j,b)) (hj:(ops[j]?).bind (·.dst)=some e) (he:lk env e=some undef) (hd:o.dst=some d) 
  (h:LD P N sc M ops F rest ((d,undef) :: env) H) (hN:Nat.blt d N=true:=by rfl):LD P N sc M ops F ((i,2) :: rest) env H:=⟨o,d,ho,hd,hN,fun a w hsat=>by simp [Region.wanted,hg,hsat.yieldedu hj he],h⟩
end Go.Sky

