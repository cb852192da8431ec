/- rules, arithmetic and contracts: part 19
   Proved without conditions of its own: each theorem bears its own. -/
import Derived.Test.YtcmiiammekgooaaGreatSd03
import Derived.Test.YtcmiiammekgooaaGreatSd02
import Derived.Test.YtcmiiammekgooaaGreatSd01
import Derived.Test.YtcmiiammekgooaaGreatSd13
import Derived.Test.YtcmiiammekgooaaGreatSd04
import Derived.Test.YtcmiiammekgooaaGreatSd07
import Derived.Test.YtcmiiammekgooaaGreatSd06
import Derived.Test.YtcmiiammekgooaaGreatSd17
set_option linter.all false
namespace Go.Sky
open Go.Proofs.Tryz
open Go.Proofs
set_option maxRecDepth 20000
set_option maxHeartbeats 4000000
set_option linter.unusedSimpArgs false
theorem Ep(v:Value)(r:List (Bool×ByteArray))(hok:okP r=true):Cal Tryz.prog 16 #[v] [slp 2 Zeg v r] true (G:=Value×List (Int×SL)) (fun q=>Oz q.2=dec r) (fun q=>q.1) (fun q=>[pp q.1 q.2]):=
 Cal.imp (Zj3 v (dec r) ((Znm hok).1.sz.mono (by omega)) (by have:=(Znm hok).1.len;omega)) (Zju hok v) (fun _ h=>h)
set_option maxRecDepth 100000
theorem pPR:Enc Tryz.prog 79 9 Aa:=Enc.agg (by decide) Tryz.sizeOf79 Tryz.isAgg79 (fun x=>⟨[.int .i64 x.1,.bool x.2.1.1.1,.string x.2.1.1.2,.bool x.2.1.2.1,.string x.2.1.2.2,.bool x.2.2.1.1,.string x.2.2.1.2,.bool x.2.2.2.1,.string x.2.2.2.2],rfl,rfl,by simp [Value.oneCell']⟩)
theorem Iv(z:RZ)(h:qOK z=true):Cal Tryz.prog 95 #[.agg #[.bool z.1.1,.string z.1.2,.bool z.2.1,.string z.2.2]] [] false (G:=Unit) (fun _=>True) (fun _=> .bool (efit (qxy z))) (fun _=>[]):=by
 obtain⟨h1,h2,h3,h4⟩:=q_ok h
 have h5:=Mj (qx z) (qy z) h1 h2
 have e:(Value.agg #[.bool z.1.1,.string z.1.2,.bool z.2.1,.string z.2.2])= .agg #[.bool (decide (qx z<0)),.string (Qc (qx z).natAbs),.bool (decide (qy z<0)),.string (Qc (qy z).natAbs)]:=by
  conv=>lhs;rw [h4]
 rw [e];exact h5
theorem Zic(v u:Value)(xs:List Int)(ls:List PRw)(a b:R2)(hd:Cvd xs)(ha:E32 a)(hb:E32 b)(hb9:¬((ls.length≤200∧∀z∈ls,vpz z)∧∀z∈ls,fpz z)):Cal prog 58 #[v,rX a.1 a.2,rX b.1 b.2,u] [slp 2 wv v xs,slp 9 Aa u ls] false (G:=Int) (fun e=>BadE ls e) (fun e=> .int .i64 e) (fun e=>[]):=by
 refine Yd func58 J ntmps58 J K2 ?_
 intro w0 sc hw hsc
 simp only [Zq,Zp]
 have hv0:=hd.v
 have ha1:=ha.b1
 have ha2:=ha.b2
 have hap:=ha.p
 have hb1:=hb.b1
 have hb2:=hb.b2
 have hbp:=hb.p
 refine Oe (Lu (i:=2) J Zi) fun hlen=>Xc (Nt 999 2 31 wv)<|Xc (Pt 999 J J pV)<|Zc<|Zg<|tt (Xa (i:=3) J J J J J hw) J fun bx _=>tt (Xa (i:=4) J J J J J hw) J fun bx_2 _=>as_ J<|Zf<|Za<|Zc<|Zc<|Zg<|mv J<|tt (Zh (n:=4) (Xm _ _ ‹_›) J J J K1 Zes (Zd 1 J J J Ze) J hw) J fun _ _=>dt (Zs (r':= .bool false) (Yr J J) (congrArg Value.bool (by decide)))<|mv J<|gdt (Yg (i:=3) J J J Xt Yq J J J J) J J<|gtt (Zh (n:=4) (Xv a.1 a.2 hap) J J J K1 Cj Ze J hw) J J J fun _ _=>gdt (Zs (r':= .bool false) (Yr J J) (congrArg Value.bool (by decide))) J J<|dt (Zo J J J)<|mv J<|gdt (Yg (i:=4) J J J Xt Yq J J J J) J J<|gtt (Zh (n:=4) (Xv b.1 b.2 hbp) J J J K1 Cj Ze J hw) J J J fun _ _=>gdt (Zs (r':= .bool false) (Yr J J) (congrArg Value.bool (by decide))) J J<|dt (Zo J J J)<|mv J<|gdt (Yf J J) J J<|gdt (Yc J J (i:=2) J Zi Zji) J J<|gdt (Qr J J J) J J<|dt (Zo J J J)<|Zf<|Za<|Zr J (fun h35=>?_) (fun h35=>?_)
 ·exact Zc<|Zg<|as_ J<|Zf<|Za<|Zt<|Ys<|Yl (.inl J) hsc 2 _ (fun a w hs=>Np hs results58 J) J ⟨fun _=>J,fun _=>by decide⟩ J Zk
 ·refine Zj<|Za<|Zc<|Zg<|mv J<|tt (Zh (n:=4) (Zgo _ xs hv0) J J J K1 call14 (Zd 1 J J J Ze) J hw) J fun _ _=>dt (Zs (r':= .bool false) (Zel J J) (congrArg Value.bool (decide_eq_false (fun h=>h (Gy hd (by omega))))))<|mv J<|gdt (Yg (i:=3) J J J Xt Yq J J J J) J J<|gtt (Zh (n:=4) (Mj a.1 a.2) J J J K1 call95 Ze J hw) J J J fun _ _=>gdt (Zs (r':= .bool false) (Yr J J) (congrArg Value.bool (by rw [ha.efit];rfl))) J J<|dt (Zo J J J)<|mv J<|gdt (Yg (i:=4) J J J Xt Yq J J J J) J J<|gtt (Zh (n:=4) (Mj b.1 b.2) J J J K1 call95 Ze J hw) J J J fun _ _=>gdt (Zs (r':= .bool false) (Yr J J) (congrArg Value.bool (by rw [hb.efit];rfl))) J J<|dt (Zo J J J)<|as_ J<|Zf<|Za<|Zc<|Zc<|Zg<|mv J<|dt (Yc J J (i:=2) J Zi Zji)<|mv J<|Zf<|Za<|Zm ?_
  refine Mm [(5,_),(6,_),(43,_),(44,_)] [(0,_),(1,_),(2,_),(999,_),(3,_),(4,_)] (fun(q:Nat×Bool)=>[(45,.int .i64 (q.1:Int)),(9,.bool q.2)]) (fun(q:Nat×Bool)=>[]) (fun(q:Nat×Bool)=>(q.1≤ls.length)∧(∀k,k<q.1→vpz (ls.getD k P0r))∧(q.2=true∨∀k,k<q.1→fpz (ls.getD k P0r))) (fun(q:Nat×Bool)=>ls.length-q.1) (0,false) ⟨by first | omega | (dsimp only<;>omega),fun k hk=>absurd hk (Nat.not_lt_zero k),.inr fun k hk=>absurd hk (Nat.not_lt_zero k)⟩ K6 K6 ?_
  rintro⟨i,fl⟩ ⟨hi,hv,hfl⟩
  dsimp only at hi hv hfl
  simp only [CA,NA]
  refine Zc<|Zg<|dt (Qd J J J)<|Zf<|Za<|Zc<|Zr J (fun h39=>?_) (fun h39=>?_)
  ·refine Zj<|Za<|Zc<|Zm<|Zc<|Zg<|dt (Xf (ii:=2) J J J J Zi Zji sizeOf79 J (by first | omega | (simp only [List.length_set];omega)))<|dt (Xx (ii:=2) P0r J J J Zi pPR (by first | omega | (simp only [List.length_set];omega)))<|tt (Zl (i:=5) J J zeroValue79 J J hw) J fun bx_3 _=>tt (Zn (i:=5) J J J J J (by decide) J sizeOf79 J J ⟨Zb J,Zb J,Zb J,Zb J,Zb J,Zb J,Zb J,Zb J,Zb J,trivial⟩ J hw trivial) J fun _ _=>Zf<|Za<|Zc<|Zc<|Zg<|dt (Xk J J Bm J sizeOf77 J J)<|dt (Pr (i:=5) J J J isAgg77 J)<|dt (Xo J J J)<|mv J<|Qp (d:=52) J (fun s40=>?_) (fun s40=>?_)
   ·refine gdt (Xk J J Bm J sizeOf77 J J) J J<|gdt (Pr (i:=5) J J J isAgg77 J) J J<|gdt (Xo J J J) J J<|dt (Yi J J J)<|mv J<|Qp (d:=57) J (fun s40_2=>?_) (fun s40_2=>?_)
    ·exact gsk J J J<|gsk J J J<|gsk J J J<|gsk J J J<|dt (Yi J J J)<|mv J<|gsk J J J<|gsk J J J<|gsk J J J<|gsk J J J<|dt (Yi J J J)<|Zf<|Za<|Pd J<|Zc<|Zg<|as_ J<|Zf<|Za<|Zt<|Ys<|Lx<|Ys<|Ys<|Lx<|Ys<|Yl (.inl J) hsc 2 _ (fun a w hs=>Np hs results58 J) J ⟨fun _=>J,fun _=>by decide⟩ J Zk
    ·refine gdt (Xk J J Bm J Yq J J) J J<|gdt (Yg (i:=5) J J J Xt Yq J J J J) J J<|gtt (Zh (n:=5) (Li _ _ _ _) J J J K1 Cj Ze J hw) J J J fun _ _=>gdt (Yr J J) J J<|dt (Zo J J J)<|mv J<|Oj (d:=63) J (fun s40_3=>?_) (fun s40_3=>?_)
     ·exact gsk J J J<|gsk J J J<|gsk J J J<|gsk J J J<|dt (Yi J J J)<|Zf<|Za<|Pd J<|Zc<|Zg<|as_ J<|Zf<|Za<|Zt<|Ys<|Lx<|Ys<|Ys<|Lx<|Ys<|Yl (.inl J) hsc 2 _ (fun a w hs=>Np hs results58 J) J ⟨fun _=>J,fun _=>by decide⟩ J Zk
     ·refine gdt (Xk J J Bm J Yq J J) J J<|gdt (Yg (i:=5) J J J Xt Yq J J J J) J J<|gtt (Zh (n:=5) (Li _ _ _ _) J J J K1 Cj Ze J hw) J J J fun _ _=>gdt (Yr J J) J J<|dt (Zo J J J)<|Zf<|Za<|Nn J (fun h40=>?_) (fun h40=>?_)
      ·exact Zc<|Zg<|as_ J<|Zf<|Za<|Zt<|Ys<|Lx<|Ys<|Ys<|Lx<|Ys<|Yl (.inl J) hsc 2 _ (fun a w hs=>Np hs results58 J) J ⟨fun _=>J,fun _=>by decide⟩ J Zk
      ·refine Zj<|Za ?_
       have hvz:vpz (ls.getD i P0r):=⟨by omega,by simp_all [qOK],by simp_all [qOK]⟩
       refine Zg<|mv J<|mv J<|Oj (d:=70) J (fun s43=>?_) (fun s43=>?_)
       ·exact gsk J J J<|gsk J J J<|gsk J J J<|gsk J J J<|dt (Yi J J J)<|mv J<|gsk J J J<|gsk J J J<|gsk J J J<|gsk J J J<|dt (Yi J J J)<|as_ J<|Zf<|Og<|Za<|Zg<|dt (Yu J J J ⟨by omega,by omega⟩)<|mv J<|Zf<|Xq (i+1,_) ⟨by first | omega | (dsimp only<;>omega),fun k hk2=>by rcases Nat.lt_succ_iff_lt_or_eq.1 hk2 with h9 | h9;exact hv k h9;subst h9;exact hvz,by first | exact .inl rfl | exact Zbi hfl ‹_› ‹_›⟩ (by first | omega | (dsimp only<;>omega)) K6 K6
       ·refine gdt (Xk J J Bm J Yq J J) J J<|gdt (Yg (i:=5) J J J Xt Yq J J J J) J J<|gtt (Zh (n:=5) (Iv (ls.getD i P0r).2.1 hvz.2.1) J J J K1 call95 Ze J hw) J J J fun _ _=>gdt (Yr J J) J J<|dt (Zo J J J)<|mv J<|Oj (d:=76) J (fun s43_2=>?_) (fun s43_2=>?_)
        ·exact gsk J J J<|gsk J J J<|gsk J J J<|gsk J J J<|dt (Yi J J J)<|as_ J<|Zf<|Og<|Za<|Zg<|dt (Yu J J J ⟨by omega,by omega⟩)<|mv J<|Zf<|Xq (i+1,_) ⟨by first | omega | (dsimp only<;>omega),fun k hk2=>by rcases Nat.lt_succ_iff_lt_or_eq.1 hk2 with h9 | h9;exact hv k h9;subst h9;exact hvz,by first | exact .inl rfl | exact Zbi hfl ‹_› ‹_›⟩ (by first | omega | (dsimp only<;>omega)) K6 K6
        ·exact gdt (Xk J J Bm J Yq J J) J J<|gdt (Yg (i:=5) J J J Xt Yq J J J J) J J<|gtt (Zh (n:=5) (Iv (ls.getD i P0r).2.2 hvz.2.2) J J J K1 call95 Ze J hw) J J J fun _ _=>gdt (Yr J J) J J<|dt (Zo J J J)<|as_ J<|Zf<|Og<|Za<|Zg<|dt (Yu J J J ⟨by omega,by omega⟩)<|mv J<|Zf<|Xq (i+1,_) ⟨by first | omega | (dsimp only<;>omega),fun k hk2=>by rcases Nat.lt_succ_iff_lt_or_eq.1 hk2 with h9 | h9;exact hv k h9;subst h9;exact hvz,by first | exact .inl rfl | exact Zbi hfl ‹_› ‹_›⟩ (by first | omega | (dsimp only<;>omega)) K6 K6
   ·refine gsk J J J<|gsk J J J<|gsk J J J<|dt (Zo J J J)<|mv J<|gdt (Xk J J Bm J Yq J J) J J<|gdt (Yg (i:=5) J J J Xt Yq J J J J) J J<|gtt (Zh (n:=5) (Li _ _ _ _) J J J K1 Cj Ze J hw) J J J fun _ _=>gdt (Yr J J) J J<|dt (Zo J J J)<|mv J<|Oj (d:=63) J (fun s40_4=>?_) (fun s40_4=>?_)
    ·exact gsk J J J<|gsk J J J<|gsk J J J<|gsk J J J<|dt (Yi J J J)<|Zf<|Za<|Pd J<|Zc<|Zg<|as_ J<|Zf<|Za<|Zt<|Ys<|Lx<|Ys<|Ys<|Lx<|Ys<|Yl (.inl J) hsc 2 _ (fun a w hs=>Np hs results58 J) J ⟨fun _=>J,fun _=>by decide⟩ J Zk
    ·refine gdt (Xk J J Bm J Yq J J) J J<|gdt (Yg (i:=5) J J J Xt Yq J J J J) J J<|gtt (Zh (n:=5) (Li _ _ _ _) J J J K1 Cj Ze J hw) J J J fun _ _=>gdt (Yr J J) J J<|dt (Zo J J J)<|Zf<|Za<|Nn J (fun h40_2=>?_) (fun h40_2=>?_)
     ·exact Zc<|Zg<|as_ J<|Zf<|Za<|Zt<|Ys<|Lx<|Ys<|Ys<|Lx<|Ys<|Yl (.inl J) hsc 2 _ (fun a w hs=>Np hs results58 J) J ⟨fun _=>J,fun _=>by decide⟩ J Zk
     ·refine Zj<|Za ?_
      have hvz:vpz (ls.getD i P0r):=⟨by omega,by simp_all [qOK],by simp_all [qOK]⟩
      refine Zg<|mv J<|mv J<|Oj (d:=70) J (fun s43_3=>?_) (fun s43_3=>?_)
      ·exact gsk J J J<|gsk J J J<|gsk J J J<|gsk J J J<|dt (Yi J J J)<|mv J<|gsk J J J<|gsk J J J<|gsk J J J<|gsk J J J<|dt (Yi J J J)<|as_ J<|Zf<|Og<|Za<|Zg<|dt (Yu J J J ⟨by omega,by omega⟩)<|mv J<|Zf<|Xq (i+1,_) ⟨by first | omega | (dsimp only<;>omega),fun k hk2=>by rcases Nat.lt_succ_iff_lt_or_eq.1 hk2 with h9 | h9;exact hv k h9;subst h9;exact hvz,by first | exact .inl rfl | exact Zbi hfl ‹_› ‹_›⟩ (by first | omega | (dsimp only<;>omega)) K6 K6
      ·refine gdt (Xk J J Bm J Yq J J) J J<|gdt (Yg (i:=5) J J J Xt Yq J J J J) J J<|gtt (Zh (n:=5) (Iv (ls.getD i P0r).2.1 hvz.2.1) J J J K1 call95 Ze J hw) J J J fun _ _=>gdt (Yr J J) J J<|dt (Zo J J J)<|mv J<|Oj (d:=76) J (fun s43_4=>?_) (fun s43_4=>?_)
       ·exact gsk J J J<|gsk J J J<|gsk J J J<|gsk J J J<|dt (Yi J J J)<|as_ J<|Zf<|Og<|Za<|Zg<|dt (Yu J J J ⟨by omega,by omega⟩)<|mv J<|Zf<|Xq (i+1,_) ⟨by first | omega | (dsimp only<;>omega),fun k hk2=>by rcases Nat.lt_succ_iff_lt_or_eq.1 hk2 with h9 | h9;exact hv k h9;subst h9;exact hvz,by first | exact .inl rfl | exact Zbi hfl ‹_› ‹_›⟩ (by first | omega | (dsimp only<;>omega)) K6 K6
       ·exact gdt (Xk J J Bm J Yq J J) J J<|gdt (Yg (i:=5) J J J Xt Yq J J J J) J J<|gtt (Zh (n:=5) (Iv (ls.getD i P0r).2.2 hvz.2.2) J J J K1 call95 Ze J hw) J J J fun _ _=>gdt (Yr J J) J J<|dt (Zo J J J)<|as_ J<|Zf<|Og<|Za<|Zg<|dt (Yu J J J ⟨by omega,by omega⟩)<|mv J<|Zf<|Xq (i+1,_) ⟨by first | omega | (dsimp only<;>omega),fun k hk2=>by rcases Nat.lt_succ_iff_lt_or_eq.1 hk2 with h9 | h9;exact hv k h9;subst h9;exact hvz,by first | exact .inl rfl | exact Zbi hfl ‹_› ‹_›⟩ (by first | omega | (dsimp only<;>omega)) K6 K6
  ·refine Yx<|Zu<|Zu<|Nc<|Za<|Zc<|Zc<|Zg<|dt (Yg (i:=3) J J J Xt Yq J J J J)<|dt (Yg (i:=4) J J J Xt Yq J J J J)<|tt (Zh (n:=5) (Ii a.1 a.2 b.1 b.2 hap hbp) J J J K2 call96 Ze J hw) J fun _ _=>dt (Qr J J J)<|Zf<|Za<|Zr J (fun h45=>?_) (fun h45=>?_)
   ·exact Zc<|Zg<|as_ J<|Zf<|Za<|Zt<|Ys<|Yl (.inl J) hsc 3 _ (fun a w hs=>Np hs results58 J) J (Ztn (i:=i) (by omega) (by omega) hv (by decide)) J Zk
   ·refine Zj<|Za<|Zc<|Zc<|Zg<|mv J<|Zf<|Za<|Nn J (fun h48=>?_) (fun h48=>?_)
    ·exact Zc<|Zg<|as_ J<|Zf<|Za<|Zt<|Ys<|Yl (.inl J) hsc 7 _ (fun a w hs=>Np hs results58 J) J (Ztn (i:=i) (by omega) (by omega) hv (by decide)) J Zk
    ·exact Zj<|Za<|Zc<|Zg<|as_ J<|Zf<|Za<|Zt<|Yl (.inl J) hsc 0 _ (fun a w hs=>Np hs results58 J) J (absurd ⟨⟨by omega,Zhe (i:=i) (by omega) hv⟩,Zhe (i:=i) (by omega) (hfl.resolve_left (by rw [show fl=false from by assumption];decide))⟩ hb9) J Zk
set_option maxHeartbeats 4000000 in
theorem Zid(v u:Value)(xs:List Int)(ls:List PRw)(a b:R2)(hd:Cvd xs)(ha:E32 a)(hb:E32 b)(hb9:¬((ls.length≤200∧∀z∈ls,vpz z)∧∀z∈ls,fpz z)):Cal prog 41 #[v,rX a.1 a.2,rX b.1 b.2,u] [slp 2 wv v xs,slp 9 Aa u ls] false (G:=Int) (fun e=>BadE ls e) (fun e=> .int .i64 e) (fun e=>[]):=by
 refine Yd func41 J ntmps41 J K2 ?_
 intro w0 sc hw hsc
 simp only [Zq,Zp]
 have hv0:=hd.v
 have ha1:=ha.b1
 have ha2:=ha.b2
 have hap:=ha.p
 have hb1:=hb.b1
 have hb2:=hb.b2
 have hbp:=hb.p
 exact Oe (Lu (i:=2) J Zi) fun hlen=>Zc<|Zg<|tt (Xa (i:=3) J J J J J hw) J fun bx _=>tt (Xa (i:=4) J J J J J hw) J fun bx_2 _=>as_ J<|Zf<|Za<|Zsk<|Zc<|Zc<|Zg<|mv J<|dt (Yg (i:=3) J J J Xt Yq J J J J)<|dt (Yg (i:=4) J J J Xt Yq J J J J)<|mv J<|tt (Zh (n:=4) (Zic _ _ xs ls a b hd ha hb hb9) J J J K4 call58 (Zd 1 J J J (Zd 2 J J J Ze)) J hw) J fun g hg=>as_ J<|Zf<|Za<|Zc<|Zg<|mv J<|dt (Zs (r':= .bool true) (Xo J J J) (congrArg Value.bool (decide_eq_true (hg.ne hb9))))<|Zf<|Za<|Pd J<|Zc<|Zg<|mv J<|as_ J<|Zf<|Za<|Zt<|Ys<|Zt0<|Yl (.inl J) hsc g _ (fun a w hs=>Np hs results41 J) J hg J Zk
def Za8(f:Nat→Rat):Nat→Rat
 | 0=>0
 | n+1=>Za8 f n+f n
theorem Mk(f:Nat→Rat)(n:Nat):Za8 f (n+1)=Za8 f n+f n:=rfl
theorem Fw{f g:Nat→Rat} : ∀n,(∀i,i<n→f i=g i)→Za8 f n=Za8 g n
 | 0,_=>rfl
 | n+1,h=>by rw [Mk,Mk,Fw n fun i hi=>h i (by omega),h n (by omega)]
theorem Ht(f:Nat→Rat):∀n,Za8 f (n+1)=f 0+Za8 (fun i=>f (i+1)) n
 | 0=>by show 0+f 0=f 0+0;grind
 | n+1=>by rw [Mk,Ht f n,Mk];grind
theorem Zg2(f g:Nat→Rat):∀n,Za8 (fun i=>f i+g i) n=Za8 f n+Za8 g n
 | 0=>by show(0:Rat)=0+0;grind
 | n+1=>by rw [Mk,Mk,Mk,Zg2 f g n];grind
theorem Av(c:Rat)(f:Nat→Rat):∀n,Za8 (fun i=>c*f i) n=c*Za8 f n
 | 0=>by show(0:Rat)=c*0;grind
 | n+1=>by rw [Mk,Mk,Av c f n];grind
theorem Zd0(f:Nat→Rat):∀n,(∀i,i<n→0≤f i)→0≤Za8 f n
 | 0,_=>Rat.le_refl
 | n+1,h=>by
  have h1:=Zd0 f n fun i hi=>h i (by omega)
  have h2:=h n (by omega)
  rw [Mk];grind
theorem Zta(n:Nat):chz n 0=1:=by cases n<;>rfl
theorem chz_s(n k:Nat):chz (n+1) (k+1)=chz n k+chz n (k+1):=rfl
theorem binom{u w:Rat}(h:u+w=1):∀n,Za8 (fun j=>(chz n j:Rat)*(u^j*w^(n-j))) (n+1)=1
 | 0=>by
  rw [Ht]
  show((chz 0 0:Nat):Rat)*(u^0*w^0)+0=1
  rw [Zta,Rat.pow_zero,Rat.pow_zero];push_cast;grind
 | n+1=>by
  have ih:=binom h n
  rw [Ht]
  have e1:Za8 (fun i=>(chz (n+1) (i+1):Rat)*(u^(i+1)*w^(n+1-(i+1)))) (n+1)=Za8 (fun i=>u*((chz n i:Rat)*(u^i*w^(n-i)))) (n+1)+Za8 (fun i=>(chz n (i+1):Rat)*(u^(i+1)*w^(n-i))) (n+1):=by
   rw [←Zg2]
   refine Fw _ fun i hi=>?_
   rw [chz_s,show n+1-(i+1)=n-i by omega,Rat.pow_succ]
   push_cast;grind
  have e2:Za8 (fun i=>(chz n (i+1):Rat)*(u^(i+1)*w^(n-i))) (n+1)=Za8 (fun i=>(chz n (i+1):Rat)*(u^(i+1)*w^(n-i))) n:=by
   rw [Mk,Znr n (n+1) (by omega)]
   push_cast;grind
  have e3:w*Za8 (fun j=>(chz n j:Rat)*(u^j*w^(n-j))) (n+1)=w^(n+1)+Za8 (fun i=>(chz n (i+1):Rat)*(u^(i+1)*w^(n-i))) n:=by
   rw [←Av,Ht,Zta]
   congr 1
   ·rw [Nat.sub_zero,Rat.pow_zero,Rat.pow_succ];push_cast;grind
   ·refine Fw _ fun i hi=>?_
    rw [show n-i=(n-(i+1))+1 by omega,Rat.pow_succ w]
    grind
  rw [e1,e2,Av,ih]
  rw [ih]at e3
  rw [Zta,Rat.pow_zero,Nat.sub_zero]
  push_cast;grind
def bS(d:Nat)(c:List Int)(j:Nat):Int:=Qa (fun i=>cf c i*(chz (d-i) (j-i):Int)) (j+1)
theorem bS_0(d:Nat)(a:Int)(c:List Int):bS d (a :: c) 0=a:=by
 unfold bS
 rw [Xj,Kl]
 show 0+a*((chz (d-0) (0-0):Nat):Int)=a
 rw [show 0-0=0 from rfl,Zta];omega
theorem bS_s(d:Nat)(a:Int)(c:List Int)(j:Nat):bS (d+1) (a :: c) (j+1)=a*(chz (d+1) (j+1):Int)+bS d c j:=by
 unfold bS
 rw [Kh]
 congr 1
 refine Xe fun i hi=>?_
 rw [show d+1-(i+1)=d-i by omega,show j+1-(i+1)=j-i by omega]
 rfl
theorem bS_nil(d j:Nat):bS d [] j=0:=by
 unfold bS
 exact(Fq (m:=0) (Nat.zero_le _) fun i _ _=>by rw [show cf [] i=0 from rfl,Int.zero_mul]).trans (Kl _)
theorem bern{u w:Rat}(h:u+w=1):∀(d:Nat) (c:List Int),c.length≤d+1→Za8 (fun j=>(bS d c j:Rat)*(u^j*w^(d-j))) (d+1)=rev c u
 | d,[],_=>by
  rw [Fw (g:=fun _=>0) (d+1) fun i hi=>by rw [bS_nil];push_cast;grind]
  show Za8 (fun _=>0) (d+1)=0
  have:∀n,Za8 (fun _=>0) n=0:=fun n=>by
   induction n with
   | zero=>rfl
   | succ n ih=>rw [Mk,ih];grind
  exact this _
 | 0,[a],_=>by
  rw [Mk,bS_0]
  show 0+(a:Rat)*(u^0*w^0)=(a:Rat)+u*0
  rw [Rat.pow_zero,Rat.pow_zero];grind
 | 0,a :: b :: c,hl=>by simp at hl
 | d+1,a :: c,hl=>by
  have ih:=bern h d c (by simpa using hl)
  have hb:=binom h (d+1)
  rw [Ht]at hb
  rw [Ht,bS_0]
  have e1:Za8 (fun i=>(bS (d+1) (a :: c) (i+1):Rat)*(u^(i+1)*w^(d+1-(i+1)))) (d+1)=(a:Rat)*Za8 (fun i=>(chz (d+1) (i+1):Rat)*(u^(i+1)*w^(d+1-(i+1)))) (d+1)+u*Za8 (fun j=>(bS d c j:Rat)*(u^j*w^(d-j))) (d+1):=by
   rw [←Av,←Av,←Zg2]
   refine Fw _ fun i hi=>?_
   rw [bS_s,show d+1-(i+1)=d-i by omega,Rat.pow_succ]
   push_cast;grind
  rw [e1,ih]
  show _=(a:Rat)+u*rev c u
  rw [Zta]at hb
  push_cast at hb ⊢
  grind
theorem psum_bS(c:List Int)(d j:Nat):Ze3 c d j (min (j+1) c.length)=bS d c j:=by
 unfold Ze3 bS
 refine(Fq (Nat.min_le_left _ _) fun i h1 h2=>?_).symm
 rw [Qe (by omega),Int.zero_mul]
theorem Zwp{c:List Int}{d:Nat}(hl:c.length≤d+1)(hs:∀j,j<d+1→0≤Ze3 c d j (min (j+1) c.length)){u:Rat}(h0:0≤u)(h1:u≤1):0≤rev c u:=by
 rw [←bern (u:=u) (w:=1-u) (by grind) d c hl]
 refine Zd0 _ _ fun i hi=>?_
 have h2:=hs i hi
 rw [psum_bS]at h2
 have h3:(0:Rat)≤((bS d c i:Int):Rat):=by exact_mod_cast h2
 have h4:(0:Rat)≤u^i:=Rat.pow_nonneg h0
 have h5:(0:Rat)≤(1-u)^(d-i):=Rat.pow_nonneg (by grind)
 exact Rat.mul_nonneg h3 (Rat.mul_nonneg h4 h5)
theorem Zli(a:Int):∀(c:List Int) (i:Nat),cf (c.map fun x=>a*x) i=a*cf c i
 | [],i=>by rw [List.map_nil,show cf [] i=0 from rfl,Int.mul_zero]
 | x :: c,0=>rfl
 | x :: c,i+1=>Zli a c i
theorem Zof(c:List Int)(a b e:Int)(u:Rat):rev (mk (c.length+1) fun t=>cf c t*a+(if t=0 then e else cf c (t-1)*b)) u=rev c u*((a:Rat)+(b:Rat)*u)+(e:Rat):=by
 have h:rev (mk (c.length+1) fun t=>cf c t*a+(if t=0 then e else cf c (t-1)*b)) u=rev (Hn (c.map fun x=>a*x) (e :: c.map fun x=>b*x)) u:=Nk u _ _ fun i=>by
  rw [Le,Zli,Ib]
  match i with
  | 0=>rw [if_pos (by omega),if_pos rfl];show cf c 0*a+e=a*cf c 0+e;rw [Int.mul_comm]
  | i+1=>
   show _=a*cf c (i+1)+cf (c.map fun x=>b*x) i
   rw [Zli]
   by_cases hi:i<c.length
   ·rw [if_pos (by omega),if_neg (by omega),Nat.add_sub_cancel,Int.mul_comm,Int.mul_comm (cf c i)]
   ·rw [if_neg (by omega),Qe (p:=c) (i:=i+1) (by omega),Qe (p:=c) (i:=i) (by omega)];omega
 rw [h,Xu,Zy]
 show _+((e:Rat)+u*rev (c.map fun x=>b*x) u)=_
 rw [Zy];grind
theorem Zmd(p:List Int)(a b d:Int){t u:Rat}(ht:t*(d:Rat)=(a:Rat)+(b:Rat)*u):∀j,j+1≤p.length→rev (Ho p a b d j) u=(d:Rat)^j*rev (p.drop (p.length-1-j)) t
 | 0,h=>by
  have e:p.drop (p.length-1-0)=[cf p (p.length-1)]:=by
   rw [Nat.sub_zero,List.drop_eq_getElem_cons (by omega),List.drop_of_length_le (by omega)]
   congr 1
   unfold cf;rw [List.getD_eq_getElem?_getD,List.getElem?_eq_getElem (by omega)];rfl
  rw [Gf,e,Rat.pow_zero,Pv,Pv];grind
 | j+1,h=>by
  have ih:=Zmd p a b d ht j (by omega)
  have e:p.drop (p.length-1-(j+1))=cf p (p.length-2-j) :: p.drop (p.length-1-j):=by
   rw [List.drop_eq_getElem_cons (by omega),show p.length-1-(j+1)+1=p.length-1-j by omega]
   congr 1
   unfold cf;rw [List.getD_eq_getElem?_getD,List.getElem?_eq_getElem (by omega)]
   show p[p.length-1-(j+1)]=p[p.length-2-j]
   congr 1;omega
  rw [Ztb,Zof,ih,e,←ht]
  show _=(d:Rat)^(j+1)*((cf p (p.length-2-j):Rat)+t*rev (p.drop (p.length-1-j)) t)
  rw [Rat.pow_succ];push_cast
  rw [Rat.pow_succ]
  generalize (d:Rat)^j=D
  grind
theorem Zoe{p:List Int}(a b d:Int){t u:Rat}(ht:t*(d:Rat)=(a:Rat)+(b:Rat)*u)(h0:p.length≠0):rev (Az p a b d) u=(d:Rat)^(p.length-1)*rev p t:=by
 unfold Az
 rw [if_neg h0,Nk u (tzl _) _ (fun i=>Kq _ i),Zmd p a b d ht (p.length-1) (by omega),Nat.sub_self,List.drop_zero]
theorem Zqx{xs:List Int}{a b:R2}(hd:Cvd xs)(ha:Ef a)(hb:Ef b)(hab:qv a≤qv b)(h:Ds xs a b=true){t:Rat}(h1:qv a≤t)(h2:t≤qv b):0≤rev xs t:=by
 by_cases h0:xs.length=0
 ·obtain rfl:=List.eq_nil_of_length_eq_zero h0
  exact Rat.le_refl
 unfold Ds at h
 rw [if_neg h0,List.all_eq_true]at h
 obtain⟨-,-,-,-,p5,-,-,p8⟩:=pl_sz hd ha hb
 have hpos:∀u:Rat,0≤u→u≤1→0≤rev (plc xs a b) u:=fun u u0 u1=>
  Zwp (d:=xs.length-1) (by omega) (fun j hj=>of_decide_eq_true (h j (List.mem_range.2 (by omega)))) u0 u1
 have hap:(0:Rat)<(a.2:Rat):=by exact_mod_cast ha.p
 have hbp:(0:Rat)<(b.2:Rat):=by exact_mod_cast hb.p
 have hDp:(0:Rat)<(pld a b:Rat):=by exact_mod_cast p5
 have ea:qv a*(a.2:Rat)=(a.1:Rat):=by unfold qv;exact Rat.div_mul_cancel (by grind)
 have eb:qv b*(b.2:Rat)=(b.1:Rat):=by unfold qv;exact Rat.div_mul_cancel (by grind)
 have key:∀u:Rat,t=qv a+u*(qv b-qv a)→0≤u→u≤1→0≤rev xs t:=fun u hu u0 u1=>by
  have ht:t*(pld a b:Rat)=(plx a b:Rat)+((ply a b-plx a b:Int):Rat)*u:=by
   unfold pld ply plx
   push_cast
   rw [hu,←ea,←eb]
   generalize qv a=A
   generalize qv b=B
   generalize (a.2:Rat)=x
   generalize (b.2:Rat)=y
   grind
  have h3:=hpos u u0 u1
  unfold plc at h3
  rw [Zoe _ _ _ ht h0]at h3
  have hp:(0:Rat)<(pld a b:Rat)^(xs.length-1):=Rat.pow_pos hDp
  rcases(show 0≤rev xs t∨rev xs t≤0 by grind)with q | q
  ·exact q
  ·by_cases e:rev xs t=0
   ·rw [e];exact Rat.le_refl
   ·have hn:0 < -rev xs t:=by grind
    have:=Rat.mul_pos hp hn
    grind
 by_cases e:qv a=qv b
 ·exact key 0 (by grind) Rat.le_refl (by decide)
 ·have hlt:0<qv b-qv a:=by grind
  obtain⟨u,hu⟩:∃u:Rat,u*(qv b-qv a)=t-qv a:=⟨(t-qv a)/(qv b-qv a),Rat.div_mul_cancel (by grind)⟩
  refine key u (by grind) ?_ ?_
  ·rcases(show 0≤u∨0 < -u by grind)with q | q
   ·exact q
   ·have:=Rat.mul_pos q hlt
    grind
  ·rcases(show u≤1∨0<u-1 by grind)with q | q
   ·exact q
   ·have:=Rat.mul_pos q hlt
    grind
theorem Zr7{xs:List Int}{s t:Rat}(h:¬Zfb xs s t){x:Rat}(h1:s≤x)(h2:x≤t):0≤rev xs x:=by
 rcases(show 0≤rev xs x∨rev xs x<0 by grind)with q | q
 ·exact q
 ·exact absurd ⟨x,h1,h2,q⟩ h
theorem Zmp{xs:List Int}{l:R2}{z:PTs}(hd:Cvd xs)(h1:Ef z.2.1)(h2:Ef z.2.2)(h:Zop xs l z=true):cmp l z.2.1=0∧qv z.2.1≤qv z.2.2∧∀t,qv z.2.1≤t→t≤qv z.2.2→0≤rev xs t:=by
 unfold Zop at h
 rw [Bool.and_eq_true,Bool.and_eq_true]at h
 have c1:=of_decide_eq_true h.1.1
 have c2:=of_decide_eq_true h.1.2
 have hs:=h.2
 have hle:=(Zlf h1.p h2.p).1 (by omega)
 refine⟨c1,hle,fun t t1 t2=>?_⟩
 by_cases hk:z.1=1
 ·rw [Ze1 hk]at hs
  exact Zqx hd h1 h2 hle hs t1 t2
 ·by_cases hc:xs.length=0∨cmp z.2.1 z.2.2=0
  ·rw [Zez hk hc]at hs
   have hv:=of_decide_eq_true hs
   rcases hc with hc | hc
   ·obtain rfl:=List.eq_nil_of_length_eq_zero hc
    exact Rat.le_refl
   ·have e:=(Ad h1.p h2.p).1 hc
    have et:t=qv z.2.1:=by grind
    rw [Zci h1.p]at hv
    rw [et]
    rcases Pe (rev xs (qv z.2.1))with⟨h5,h6⟩ | ⟨h5,h6⟩ | ⟨h5,h6⟩
    ·grind
    ·rw [h6]at hv;exact absurd hv (by decide)
    ·rw [h5];exact Rat.le_refl
  ·have hc1:¬xs.length=0:=fun e=>hc (.inl e)
   have hc2:¬cmp z.2.1 z.2.2=0:=fun e=>hc (.inr e)
   rw [Ze0 hk hc1 hc2,Bool.and_eq_true]at hs
   have a1:=of_decide_eq_true hs.1
   refine Zr7 (fun hN=>?_) t1 t2
   have h9:=(Ew hd h1.p h2.p hle).2 hN
   unfold ngb at h9
   rw [if_neg hc2,decide_eq_false (by omega),Bool.false_or]at h9
   have h8:=hs.2
   rw [h9]at h8;exact absurd h8 (by decide)
theorem chk_pos{xs:List Int}{ps:List PTs}{a b:R2}(hd:Cvd xs)(ha:0<a.2)(hb:0<b.2)(hp:ValP ps)(h:Zjj xs ps a b=true):∀t,qv a≤t→t≤qv b→0≤rev xs t:=by
 unfold Zjj at h
 rw [Bool.and_eq_true,Bool.and_eq_true]at h
 have h0:=of_decide_eq_true h.1.1
 have hA:=List.all_eq_true.1 h.1.2
 have hE:=of_decide_eq_true h.2
 have hP:∀k,k<ps.length→Ef (ps.getD k P0).2.1∧Ef (ps.getD k P0).2.2:=fun k hk=>(hp _ (Pu hk)).2
 have key:∀k,k<ps.length→0<(lst a ps k).2∧∀t,qv a≤t→t≤qv (lst a ps (k+1))→0≤rev xs t:=by
  intro k
  induction k with
  | zero=>
   intro hk
   obtain⟨e1,e2⟩:=hP 0 hk
   obtain⟨c1,c2,c3⟩:=Zmp hd e1 e2 (hA 0 (List.mem_range.2 hk))
   have e:qv a=qv (ps.getD 0 P0).2.1:=(Ad ha e1.p).1 c1
   exact⟨ha,fun t t1 t2=>c3 t (by rw [←e];exact t1) t2⟩
  | succ k ih=>
   intro hk
   obtain⟨-,i2⟩:=ih (by omega)
   obtain⟨e1,e2⟩:=hP (k+1) hk
   obtain⟨c1,c2,c3⟩:=Zmp hd e1 e2 (hA (k+1) (List.mem_range.2 hk))
   have hl:0<(lst a ps (k+1)).2:=(hP k (by omega)).2.p
   have e:qv (lst a ps (k+1))=qv (ps.getD (k+1) P0).2.1:=(Ad hl e1.p).1 c1
   refine⟨hl,fun t t1 t2=>?_⟩
   rcases(show t≤qv (lst a ps (k+1))∨qv (lst a ps (k+1))≤t by grind)with q | q
   ·exact i2 t t1 q
   ·exact c3 t (by rw [←e];exact q) t2
 intro t t1 t2
 obtain⟨k,hk⟩:∃k,ps.length=k+1:=⟨ps.length-1,by omega⟩
 rw [hk]at hE
 have e:=(Ad (hP k (by omega)).2.p hb).1 hE
 exact(key k (by omega)).2 t t1 (by rw [show lst a ps (k+1)=(ps.getD k P0).2.2 from rfl,e];exact t2)
theorem Zu0(p q:List Int)(x:Rat):rev (Zon p q) x=rev p x+rev q x:=by
 rw [←Xu];exact Nk x _ _ fun i=>by rw [Zlh,Le]
theorem Zpo{f:Nat→Int}{M:Nat}(h:∀k,(f k).natAbs≤M)(h4:∀k,4≤k→f k=0):∀n,(Qa f n).natAbs≤min n 4*M
 | 0=>by show(0:Int).natAbs≤_;simp
 | n+1=>by
  have ih:=Zpo h h4 n
  rw [Xj]
  rcases Nat.lt_or_ge n 4 with q | q
  ·have:=h n
   rw [show min (n+1) 4=min n 4+1 by omega,Nat.succ_mul];omega
  ·rw [h4 n q,Int.add_zero,show min (n+1) 4=min n 4 by omega];exact ih
theorem bl32{x:Int}(h:bl x.natAbs≤32):x.natAbs≤4294967295:=by have:=(Md 32 _).1 h;omega
theorem Zs0{p q:List Int}(hp:Sz 32 p)(hq:Sz 32 q)(tp:Tr p)(tq:Tr q)(lp:p.length≤4)(lq:q.length≤4):Cvd (Nr p q):=by
 have hs:Sz 70 (Nr p q):=fun i=>by
  rw [Kz,PS.mul_c]
  have h1:∀n,(Qa (fun k=>(ps p).c k*(ps q).c (i-k)) n).natAbs≤min n 4*(4294967295*4294967295):=Zpo (fun k=>by
   rw [Int.natAbs_mul];exact Nat.mul_le_mul (bl32 (hp k)) (bl32 (hq (i-k)))) (fun k hk=>by
   show cf p k*_=0
   rw [Qe (by omega),Int.zero_mul])
  refine(Md 70 _).2 (Nat.lt_of_le_of_lt (Nat.le_trans (h1 _) (Nat.mul_le_mul_right _ (Nat.min_le_right _ _))) (by decide))
 have hl:(Nr p q).length≤7:=by
  by_cases e1:p=[]
  ·rw [e1,Km];exact Nat.zero_le _
  ·by_cases e2:q=[]
   ·rw [e2,Cw];exact Nat.zero_le _
   ·have:=Pw tp tq e1 e2;omega
 exact⟨⟨hs.mono (by omega),Qv _ _,by omega⟩,hs,hl⟩
theorem cvd_add{p q:List Int}(hp:Sz 32 p)(hq:Sz 32 q)(lp:p.length≤4)(lq:q.length≤4):Cvd (Zon p q):=by
 have hs:Sz 70 (Zon p q):=fun i=>by
  rw [Zlh]
  have h1:=hp i
  have h2:=hq i
  have:=Lv (cf p i) (cf q i)
  omega
 have hl:(Zon p q).length≤7:=by
  unfold Zon
  refine Nat.le_trans (Gp _) ?_
  rw [Xi];omega
 exact⟨⟨hs.mono (by omega),Om _,by omega⟩,hs,hl⟩
theorem negi_or{p:List Int}{s t u:Rat}(h1:s≤t)(h2:t≤u):Zfb p s u↔Zfb p s t∨Zfb p t u:=by
 constructor
 ·rintro⟨x,a,b,c⟩
  rcases(show x≤t∨t≤x by grind)with q | q
  ·exact .inl ⟨x,a,q,c⟩
  ·exact .inr ⟨x,q,b,c⟩
 ·rintro(⟨x,a,b,c⟩ | ⟨x,a,b,c⟩)
  ·exact⟨x,a,by grind,c⟩
  ·exact⟨x,by grind,b,c⟩
theorem Du{p:List Int}{s t:Rat} : ¬Zfb (Nr p p) s t:=by
 rintro⟨x,a,b,c⟩
 rw [Yw]at c
 rcases(show 0≤rev p x∨0≤-rev p x by grind)with q | q
 ·have:=Rat.mul_nonneg q q;grind
 ·have:=Rat.mul_nonneg q q;grind
theorem Gv{p q:List Int}{s t:Rat}(h1:¬Zfb p s t)(h2:¬Zfb q s t):¬Zfb (Zon p q) s t:=by
 rintro⟨x,a,b,c⟩
 rw [Zu0]at c
 have:=Zr7 h1 a b
 have:=Zr7 h2 a b
 grind
theorem Gu{p q:List Int}{s t:Rat}(h1:¬Zfb p s t)(h2:¬Zfb q s t):¬Zfb (Nr p q) s t:=by
 rintro⟨x,a,b,c⟩
 rw [Yw]at c
 have:=Rat.mul_nonneg (Zr7 h1 a b) (Zr7 h2 a b)
 grind
def gdz(z:RZ):Prop:=qOK z=true∧z.1.2.size≤2∧z.2.2.size≤2
theorem Zr1{z:RZ}(h:gdz z):enR z=true:=enR_3 (by have:=h.2.1;omega) (by have:=h.2.2;omega)
def Ztw(xs:List Int)(ls:List PRw)(a b:R2):Prop:=∃ps:List PTs,ls=ps.map Zu2∧ValP ps∧ls.length≤200∧Zjj xs ps a b=true
theorem Zky{xs:List Int}{ls:List PRw}{a b:R2}(hd:Cvd xs)(ha:E32 a)(hb:E32 b)(h:Ztw xs ls a b):¬Zfb xs (qv a) (qv b):=by
 obtain⟨ps,-,hv,-,hc⟩:=h
 rintro⟨x,h1,h2,h3⟩
 have:=chk_pos hd ha.p hb.p hv hc x h1 h2
 grind
theorem Mp{xs:List Int}{a b:R2}(hd:Cvd xs)(ha:E32 a)(hb:E32 b)(hc:¬0<cmp a b)(h:¬Zfb xs (qv a) (qv b)):ngb (Pj xs) (chx xs) a b=false:=by
 cases e:ngb (Pj xs) (chx xs) a b with
 | false=>rfl
 | true=>exact absurd ((Ew hd ha.p hb.p (Gd ha hb hc)).1 e) h
theorem Ng{xs:List Int}{a b:R2}(hd:Cvd xs)(ha:E32 a)(hb:E32 b)(hc:¬0<cmp a b)(h:ngb (Pj xs) (chx xs) a b=false):¬Zfb xs (qv a) (qv b):=fun hN=>by
 rw [(Ew hd ha.p hb.p (Gd ha hb hc)).2 hN]at h;exact absurd h (by decide)
theorem cmp_tr{a b c:R2}(ha:E32 a)(hb:E32 b)(hc:E32 c)(h1:¬0<cmp a b)(h2:¬0<cmp b c):¬0<cmp a c:=by
 have l1:=Gd ha hb h1
 have l2:=Gd hb hc h2
 have:=(Zlf ha.p hc.p).2 (by grind)
 omega
theorem ngb_or{xs:List Int}{a b c:R2}(hd:Cvd xs)(ha:E32 a)(hb:E32 b)(hc:E32 c)(h1:¬0<cmp a b)(h2:¬0<cmp b c):ngb (Pj xs) (chx xs) a c=(ngb (Pj xs) (chx xs) a b || ngb (Pj xs) (chx xs) b c):=by
 have l1:=Gd ha hb h1
 have l2:=Gd hb hc h2
 have s1:=Ew hd ha.p hb.p l1
 have s2:=Ew hd hb.p hc.p l2
 have s3:=Ew hd ha.p hc.p (Gd ha hc (cmp_tr ha hb hc h1 h2))
 have s4:=negi_or (p:=xs) l1 l2
 cases e1:ngb (Pj xs) (chx xs) a c<;>cases e2:ngb (Pj xs) (chx xs) a b<;>cases e3:ngb (Pj xs) (chx xs) b c<;>simp_all
theorem Zm4{xs:List Int}{ls:List PRw}{a b c:R2}(hd:Cvd xs)(ha:E32 a)(hb:E32 b)(hc:E32 c)(h1:¬0<cmp a b)(h2:¬0<cmp b c)(h:Ztw xs ls a c):¬fat b.1 b.2 xs<0:=fun hf=>by
 have:=Zky hd ha hc h
 exact this ⟨qv b,Gd ha hb h1,Gd hb hc h2,(Zr4 hb.p).1 hf⟩
theorem Zj1{a b:R2}(h:rqz a=rqz b):a=b:=by
 have h1:=congrArg (fun z:RZ=>z.1.1) h
 have h2:=congrArg (fun z:RZ=>z.1.2) h
 have h3:=congrArg (fun z:RZ=>z.2.1) h
 have h4:=congrArg (fun z:RZ=>z.2.2) h
 exact Prod.ext (Zo9 h1 h2) (Zo9 h3 h4)
theorem Zu1{z y:PTs}(h:Zu2 z=Zu2 y):z=y:=by
 have h1:=congrArg (fun z:PRw=>z.1) h
 have h2:=Zj1 (congrArg (fun z:PRw=>z.2.1) h)
 have h3:=Zj1 (congrArg (fun z:PRw=>z.2.2) h)
 exact Prod.ext h1 (Prod.ext h2 h3)
theorem ef_q{a:R2}(h:Ef a):qOK (rqz a)=true∧qxy (rqz a)=a:=by
 have hq:qOK (rqz a)=true:=okR_wv (Nat.le_trans h.b1 (by decide)) (Nat.le_trans h.b2 (by decide)) h.p
 exact⟨hq,(Zj1 (Zqn hq)).symm⟩
theorem raw_ok{ls:List PRw}{ps:List PTs}(h:ls=ps.map Zu2)(hv:ValP ps):∀z∈ls,vpz z∧fpz z:=fun z hz=>by
 rw [h]at hz
 obtain⟨y,hy,rfl⟩:=List.mem_map.1 hz
 obtain⟨v1,v2,v3⟩:=hv y hy
 obtain⟨q1,q2⟩:=ef_q v2
 obtain⟨q3,q4⟩:=ef_q v3
 refine⟨⟨v1,q1,q3⟩,?_,?_⟩
 ·show efit (qxy (rqz y.2.1))=true;rw [q2];exact v2.efit
 ·show efit (qxy (rqz y.2.2))=true;rw [q4];exact v3.efit
theorem Fs(v:Value)(xs:List Int)(a b:R2)(hd:Cvd xs)(ha:E32 a)(hb:E32 b)(hc:¬0<cmp a b):Cal Tryz.prog 21 #[v,.agg #[.bool (decide (a.1<0)),.string (Qc a.1.natAbs),.bool (decide (a.2<0)),.string (Qc a.2.natAbs)],.agg #[.bool (decide (b.1<0)),.string (Qc b.1.natAbs),.bool (decide (b.2<0)),.string (Qc b.2.natAbs)]] [slp 2 wv v xs] false (G:=RZ) (fun _=>True) (fun z=> .tuple #[.agg #[.bool z.1.1,.string z.1.2,.bool z.2.1,.string z.2.2],.bool (ngb (Pj xs) (chx xs) a b),.int .i64 0]) (fun _=>[]):=by
 cases hn:ngb (Pj xs) (chx xs) a b with
 | false=>exact fun w hp=>(Yv v xs a b hd ha hb hc hn w hp).mono fun e w' ⟨_,he,_,hb,hi⟩=>⟨Q0,he,trivial,hb,hi⟩
 | true=>exact fun w hp=>(Hx v xs a b hd ha hb hc hn w hp).mono fun e w' ⟨r,he,_,hb,hi⟩=>⟨rqz r,he,trivial,hb,hi⟩
theorem Cr(c:Bool)(v u:Value)(xs:List Int)(ls:List PRw)(a b:R2)(hd:Cvd xs)(ha:E32 a)(hb:E32 b)(hc:¬0<cmp a b)(hck:c=true↔Ztw xs ls a b):Cal Tryz.prog 41 #[v,.agg #[.bool (decide (a.1<0)),.string (Qc a.1.natAbs),.bool (decide (a.2<0)),.string (Qc a.2.natAbs)],.agg #[.bool (decide (b.1<0)),.string (Qc b.1.natAbs),.bool (decide (b.2<0)),.string (Qc b.2.natAbs)],u] [slp 2 wv v xs,slp 9 Aa u ls] false (G:=Int) (fun e=>c=false→e≠0) (fun e=> .int .i64 (bif c then 0 else e)) (fun _=>[]):=by
 by_cases hg:(ls.length≤200∧∀z∈ls,vpz z)∧∀z∈ls,fpz z
 ·obtain⟨ps,hl,hv⟩:=Zvh hg.1.2 hg.2
  have hlen:ps.length≤200:=by have:=hg.1.1;rw [hl,List.length_map]at this;exact this
  have h:=Hy v u xs ps a b hd ha hb hv hc hlen
  intro w hp
  have hp2:∀p∈[slp 2 wv v xs,slp 9 Zeh u ps],p.holds w:=fun p hp3=>by
   rcases List.mem_cons.1 hp3 with rfl | hp3
   ·exact hp _ (List.mem_cons_self ..)
   ·rw [List.mem_singleton.1 hp3]
    refine Zuk u ps w ?_
    rw [←hl]
    exact hp _ (List.mem_cons_of_mem _ (List.mem_cons_self ..))
  refine(h w hp2).mono fun e w' ⟨_,he,_,hb,hi⟩=>⟨if Zjj xs ps a b=true then 0 else 10,?_,?_,hb,fun p hp=>by cases hp⟩
  ·cases c with
   | true=>
    obtain⟨ps2,e1,e2,e3,e4⟩:=hck.1 rfl
    have e5:Zjj xs ps a b=true:=by
     have hinj:ps2=ps:=by
      have h9:=e1.symm.trans hl
      have hl2:ps2.length=ps.length:=by have:=congrArg List.length h9;simpa using this
      refine List.ext_getElem hl2 fun i h1 h2=>?_
      have h8:(ps2.map Zu2)[i]'(by simpa using h1)=(ps.map Zu2)[i]'(by simpa using h2):=by simp only [h9]
      rw [List.getElem_map,List.getElem_map]at h8
      have v2:=e2 _ (List.getElem_mem h1)
      have v1:=hv _ (List.getElem_mem h2)
      exact Zu1 h8
     rw [←hinj];exact e4
    rw [he,if_pos e5];rfl
   | false=>exact he
  ·intro hcf
   have e5:¬Zjj xs ps a b=true:=fun e=>by
    have:=hck.2 ⟨ps,hl,hv,hg.1.1,e⟩
    rw [hcf]at this;exact absurd this (by decide)
   rw [if_neg e5];decide
 ·have h:=Zid v u xs ls a b hd ha hb hg
  have hcf:c=false:=by
   cases c with
   | false=>rfl
   | true=>
    obtain⟨ps,e1,e2,e3,-⟩:=hck.1 rfl
    exact absurd ⟨⟨e3,fun z hz=>(raw_ok e1 e2 z hz).1⟩,fun z hz=>(raw_ok e1 e2 z hz).2⟩ hg
  subst hcf
  exact fun w hp=>(h w hp).mono fun e w' ⟨g,he,hg2,hb,hi⟩=>⟨g,he,fun _=>hg2.ne hg,hb,hi⟩
theorem Zu4(v w u:Value)(zs:List (Int×SL))(x y:Int)(hx:bl x.natAbs≤1000000)(hy:bl y.natAbs≤1000000)(hs:Sz 1000000 (Oz zs))(hl:zs.length≤30:=by omega):Mv prog 65 #[v,.agg #[.bool (decide (x<0)),w,.bool (decide (y<0)),u]] [pp v zs,d9p w x.natAbs,d9p u y.natAbs] (.int .i64 (fat x y (Oz zs))):=by
 refine Yd func65 J ntmps65 J K3 ?_
 intro w0 sc hw hsc
 simp only [Zq,Zp]
 have hli:=Yz zs
 exact Zc<|Zg<|tt (Xa (i:=4) J J J J J hw) J fun bx _=>as_ J<|Zf<|Za<|Zc<|Zg<|mv J<|dt (Yg (i:=4) J J J iA50 zT50 J J J J)<|tt (Zh (n:=5) (rp_eval _ _ _ _ x y hs hx hy) J J J K2 call121 (Zd 1 J J J (Zd 2 J J J (Zd 3 J J J Ze))) J hw) J fun v _=>tt (Zh (n:=5) (Zqi _ _ (by have:=ev_b hs (by omega) hx hy;omega)) J J J K1 call72 (Zd 5 J J J Ze) J hw) J fun _ _=>as_ J<|Zf<|Za<|Zt<|xU hsc results65 J J J
theorem Zmf(v w u:Value)(zs:List (Int×SL))(x y:Int)(hs:Sz 1000000 (Oz zs))(hl:zs.length≤30)(hx:bl x.natAbs≤1000000:=by omega)(hy:bl y.natAbs≤1000000:=by omega):Mv prog 26 #[v,.agg #[.bool (decide (x<0)),w,.bool (decide (y<0)),u]] [pp v zs,d9p w x.natAbs,d9p u y.natAbs] (.bool (decide (fat x y (Oz zs)<0))):=by
 refine Yd func26 J ntmps26 J K3 ?_
 intro w0 sc hw hsc
 simp only [Zq,Zp]
 have hli:=Yz zs
 exact Zc<|Zg<|tt (Xa (i:=4) J J J J J hw) J fun bx _=>as_ J<|Zf<|Za<|Zc<|Zg<|mv J<|dt (Yg (i:=4) J J J iA50 zT50 J J J J)<|tt (Zh (n:=4) (Zu4 _ _ _ _ x y hx hy hs hl) J J J K2 call65 (Zd 1 J J J (Zd 2 J J J (Zd 3 J J J Ze))) J hw) J fun _ _=>dt (Qd J J J)<|as_ J<|Zf<|Za<|Zt<|xU hsc results26 J J J
end Go.Sky

