/- rules, arithmetic and contracts: part 20
   Proved without conditions of its own: each theorem bears its own. -/
import Derived.Test.YtcmiiammekgooaaGreatSd03
import Derived.Test.YtcmiiammekgooaaGreatSd02
import Derived.Test.YtcmiiammekgooaaGreatSd01
import Derived.Test.YtcmiiammekgooaaGreatSd18
import Derived.Test.YtcmiiammekgooaaGreatSd17
set_option linter.all false
namespace Go.Sky
open Go.Proofs.Tryz
open Go.Proofs
set_option maxRecDepth 20000
set_option maxHeartbeats 4000000
set_option linter.unusedSimpArgs false
set_option maxHeartbeats 4000000 in
theorem Zkx(v v2 u:Value)(r s:List (Bool×ByteArray))(ls:List PRw)(z1 z2 z3:RZ)(hn:¬((smR r=true∧smR s=true∧r.length≤4∧s.length≤4∧okP r=true∧okP s=true∧ls.length≤8)∧∀i,i<3→gdz ([z1,z2,z3].getD i ((false,⟨#[]⟩),(false,⟨#[]⟩))))):Mv prog 9 #[v,v2,.agg #[.bool z1.1.1,.string z1.1.2,.bool z1.2.1,.string z1.2.2],.agg #[.bool z2.1.1,.string z2.1.2,.bool z2.2.1,.string z2.2.2],.agg #[.bool z3.1.1,.string z3.1.2,.bool z3.2.1,.string z3.2.2],u] [slp 2 Zeg v r,slp 2 Zeg v2 s,slp 9 Aa u ls] (.bool true):=by
 refine Yd func9 J ntmps9 J K3 ?_
 intro w0 sc hw hsc
 simp only [Zq,Zp]
 refine Oe (Lu (i:=1) J Zi) fun hn1=>Oe (Lu (i:=2) J Zi) fun hn2=>Oe (Lu (i:=3) J Zi) (fun hn3=>?_)
 have hLl:([z1,z2,z3]:List RZ).length=3:=rfl
 refine Xc (Nt 999 2 31 wv)<|Xc (Pt 999 J J pV)<|Zc<|Zg<|tt (Xa (i:=4) J J J J J hw) J fun bx _=>tt (Xa (i:=5) J J J J J hw) J fun bx_2 _=>tt (Xa (i:=6) J J J J J hw) J fun bx_3 _=>as_ J<|Zf<|Za<|Zc<|Zc<|Zg<|mv J<|tt (Zh (n:=6) (Kp _ _) J J J K1 call10 (Zd 1 J J J Ze) J hw) J fun _ _=>dt (Yr J J)<|mv J<|Oj (d:=39) J (fun s299=>?_) (fun s299=>?_)
 ·exact gsk J J J<|gsk J J J<|gsk J J J<|dt (Yi J J J)<|mv J<|gsk J J J<|gsk J J J<|gsk J J J<|dt (Yi J J J)<|mv J<|gsk J J J<|gsk J J J<|gsk J J J<|dt (Yi J J J)<|mv J<|gsk J J J<|gsk J J J<|gsk J J J<|dt (Yi J J J)<|mv J<|gsk J J J<|gsk J J J<|gsk J J J<|dt (Yi J J J)<|mv J<|gsk J J J<|gsk J J J<|gsk J J J<|dt (Yi J J J)<|Zf<|Za<|Pd J<|Zc<|Zg<|tt (Zh (n:=6) (Pm) J J J trivial call11 Ze J hw) J fun _ _=>as_ J<|Zf<|Za<|Zt<|Ys<|xU hsc results9 J J J
 ·refine gdt (Yf J J) J J<|gtt (Zh (n:=6) (Kp _ _) J J J K1 call10 (Zd 2 J J J Ze) J hw) J J J fun _ _=>gdt (Yr J J) J J<|dt (Zo J J J)<|mv J<|Oj (d:=44) J (fun s299_2=>?_) (fun s299_2=>?_)
  ·exact gsk J J J<|gsk J J J<|gsk J J J<|dt (Yi J J J)<|mv J<|gsk J J J<|gsk J J J<|gsk J J J<|dt (Yi J J J)<|mv J<|gsk J J J<|gsk J J J<|gsk J J J<|dt (Yi J J J)<|mv J<|gsk J J J<|gsk J J J<|gsk J J J<|dt (Yi J J J)<|mv J<|gsk J J J<|gsk J J J<|gsk J J J<|dt (Yi J J J)<|Zf<|Za<|Pd J<|Zc<|Zg<|tt (Zh (n:=6) (Pm) J J J trivial call11 Ze J hw) J fun _ _=>as_ J<|Zf<|Za<|Zt<|Ys<|xU hsc results9 J J J
  ·refine gdt (Yf J J) J J<|gdt (Yc J J (i:=1) J Zi Qi) J J<|gdt (Qr J J J) J J<|dt (Zo J J J)<|mv J<|Qp (d:=49) J (fun s299_3=>?_) (fun s299_3=>?_)
   ·exact gsk J J J<|gsk J J J<|gsk J J J<|dt (Yi J J J)<|mv J<|gsk J J J<|gsk J J J<|gsk J J J<|dt (Yi J J J)<|mv J<|gsk J J J<|gsk J J J<|gsk J J J<|dt (Yi J J J)<|mv J<|gsk J J J<|gsk J J J<|gsk J J J<|dt (Yi J J J)<|Zf<|Za<|Pd J<|Zc<|Zg<|tt (Zh (n:=6) (Pm) J J J trivial call11 Ze J hw) J fun _ _=>as_ J<|Zf<|Za<|Zt<|Ys<|xU hsc results9 J J J
   ·refine gdt (Yf J J) J J<|gdt (Yc J J (i:=2) J Zi Qi) J J<|gdt (Qr J J J) J J<|dt (Zo J J J)<|mv J<|Qp (d:=54) J (fun s299_4=>?_) (fun s299_4=>?_)
    ·exact gsk J J J<|gsk J J J<|gsk J J J<|dt (Yi J J J)<|mv J<|gsk J J J<|gsk J J J<|gsk J J J<|dt (Yi J J J)<|mv J<|gsk J J J<|gsk J J J<|gsk J J J<|dt (Yi J J J)<|Zf<|Za<|Pd J<|Zc<|Zg<|tt (Zh (n:=6) (Pm) J J J trivial call11 Ze J hw) J fun _ _=>as_ J<|Zf<|Za<|Zt<|Ys<|xU hsc results9 J J J
    ·refine gdt (Yf J J) J J<|gtt (Zh (n:=6) (Gr _ _) J J J K1 call13 (Zd 1 J J J Ze) J hw) J J J fun _ _=>gdt (Yr J J) J J<|dt (Zo J J J)<|mv J<|Oj (d:=59) J (fun s299_5=>?_) (fun s299_5=>?_)
     ·exact gsk J J J<|gsk J J J<|gsk J J J<|dt (Yi J J J)<|mv J<|gsk J J J<|gsk J J J<|gsk J J J<|dt (Yi J J J)<|Zf<|Za<|Pd J<|Zc<|Zg<|tt (Zh (n:=6) (Pm) J J J trivial call11 Ze J hw) J fun _ _=>as_ J<|Zf<|Za<|Zt<|Ys<|xU hsc results9 J J J
     ·refine gdt (Yf J J) J J<|gtt (Zh (n:=6) (Gr _ _) J J J K1 call13 (Zd 2 J J J Ze) J hw) J J J fun _ _=>gdt (Yr J J) J J<|dt (Zo J J J)<|mv J<|Oj (d:=64) J (fun s299_6=>?_) (fun s299_6=>?_)
      ·exact gsk J J J<|gsk J J J<|gsk J J J<|dt (Yi J J J)<|Zf<|Za<|Pd J<|Zc<|Zg<|tt (Zh (n:=6) (Pm) J J J trivial call11 Ze J hw) J fun _ _=>as_ J<|Zf<|Za<|Zt<|Ys<|xU hsc results9 J J J
      ·refine gdt (Yf J J) J J<|gdt (Yc J J (i:=3) J Zi Zji) J J<|gdt (Qr J J J) J J<|dt (Zo J J J)<|Zf<|Za<|Zr J (fun h299=>?_) (fun h299=>?_)
       ·exact Zc<|Zg<|tt (Zh (n:=6) (Pm) J J J trivial call11 Ze J hw) J fun _ _=>as_ J<|Zf<|Za<|Zt<|Ys<|xU hsc results9 J J J
       ·refine Zj<|Za<|Zc<|Zc ?_
        have hGA:smR r=true∧smR s=true∧r.length≤4∧s.length≤4∧okP r=true∧okP s=true∧ls.length≤8:=by refine⟨by simp_all,by simp_all,by omega,by omega,by simp_all,by simp_all,by omega⟩
        refine Zg<|dt (Yg (i:=4) J J J Xt Yq J J J J)<|dt (Yg (i:=5) J J J Xt Yq J J J J)<|dt (Yg (i:=6) J J J Xt Yq J J J J)<|tt (Ps (i:=7) (ivs:=[(0,_),(1,_),(2,_)]) (enc:=encQ) ([z1,z2,z3]:List RZ) J J K6 Zh5 ti41 J J (Zm8 _ _ _ _ _ _ _ _ _ _ _ _ _ _ _ _) J J pR.cells J J hw) J fun v _=>dt (Yc J J (i:=7) J (Yk pR) Zh5)<|mv J<|Zf<|Za<|Zm<|Mm [(0,_),(1,_),(5,_),(8,_),(9,_),(10,_),(73,_),(74,_)] [(0,_),(1,_),(2,_),(3,_),(999,_),(4,_),(5,_),(6,_),(7,_)] (fun(i:Nat)=>[(75,.int .i64 (i:Int))]) (fun(i:Nat)=>[]) (fun(i:Nat)=>(i≤3)∧(∀k,k<i→gdz ([z1,z2,z3].getD k ((false,⟨#[]⟩),(false,⟨#[]⟩))))) (fun(i:Nat)=>3-i) 0 ⟨by first | omega | (dsimp only<;>omega),fun k hk=>absurd hk (Nat.not_lt_zero k)⟩ K9 K9 ?_
        rintro i ⟨hi,hz⟩
        simp only [CA,NA]
        refine Zc<|Zg<|dt (Qd J J J)<|Zf<|Za<|Zc<|Zr J (fun h302=>?_) (fun h302=>?_)
        ·refine Zj<|Za<|Zc<|Zm<|Zc<|Zg<|dt (Xf (ii:=7) J J J J (Yk pR) Zh5 Yq J (by first | omega | (simp only [List.length_set];omega)))<|dt (Xx (ii:=7) ((false,⟨#[]⟩),(false,⟨#[]⟩)) J J J (Yk pR) pR (by first | omega | (simp only [List.length_set];omega)))<|tt (Zl (i:=8) J J zeroValue41 J J hw) J fun bx_4 _=>tt (Zn (i:=8) J J J J J (by decide) J Yq J J ⟨Zb J,Zb J,Zb J,Zb J,trivial⟩ J hw trivial) J fun _ _=>Zf<|Za<|Zc<|Zg<|dt (Yg (i:=8) J J J Xt Yq J J J J)<|tt (Zh (n:=8) (Gt _ _ _ _) J J J K1 call25 Ze J hw) J fun _ _=>dt (Yr J J)<|mv J<|Oj (d:=82) J (fun s303=>?_) (fun s303=>?_)
         ·exact gsk J J J<|gsk J J J<|gsk J J J<|gsk J J J<|gsk J J J<|dt (Yi J J J)<|mv J<|gsk J J J<|gsk J J J<|gsk J J J<|gsk J J J<|gsk J J J<|dt (Yi J J J)<|Zf<|Za<|Pd J<|Zc<|Zg<|tt (Zh (n:=8) (Pm) J J J trivial call11 Ze J hw) J fun _ _=>as_ J<|Zf<|Za<|Zt<|Lx<|Ys<|Ys<|Lx<|Ys<|xU hsc results9 J J J
         ·refine gdt (Xk J J Fb J Ye J J) J J<|gdt (Xk J J Cm J zT9 J J) J J<|gdt (Pr (i:=8) J J J iA9 J) J J<|gdt (Ie J J uT9) J J<|gdt (Qr J J J) J J<|dt (Zo J J J)<|mv J<|Qp (d:=89) J (fun s303_2=>?_) (fun s303_2=>?_)
          ·exact gsk J J J<|gsk J J J<|gsk J J J<|gsk J J J<|gsk J J J<|dt (Yi J J J)<|Zf<|Za<|Pd J<|Zc<|Zg<|tt (Zh (n:=8) (Pm) J J J trivial call11 Ze J hw) J fun _ _=>as_ J<|Zf<|Za<|Zt<|Lx<|Ys<|Ys<|Lx<|Ys<|xU hsc results9 J J J
          ·refine gdt (Xk J J Fb J Ye J J) J J<|gdt (Xk J J Cm J zT9 J J) J J<|gdt (Pr (i:=8) J J J iA9 J) J J<|gdt (Ie J J uT9) J J<|gdt (Qr J J J) J J<|dt (Zo J J J)<|Zf<|Za<|Zr J (fun h303=>?_) (fun h303=>?_)
           ·exact Zc<|Zg<|tt (Zh (n:=8) (Pm) J J J trivial call11 Ze J hw) J fun _ _=>as_ J<|Zf<|Za<|Zt<|Lx<|Ys<|Ys<|Lx<|Ys<|xU hsc results9 J J J
           ·exact Zj<|Og<|Za<|Zg<|dt (Yu J J J ⟨by omega,by omega⟩)<|mv J<|Zf<|Xq (i+1) ⟨by first | omega | (dsimp only<;>omega),fun k hk2=>by rcases Nat.lt_succ_iff_lt_or_eq.1 hk2 with h9 | h9;exact hz k h9;subst h9;exact⟨by simp_all [qOK],by omega,by omega⟩⟩ (by first | omega | (dsimp only<;>omega)) K9 K9
        ·refine Yx<|Zu<|Zu<|Nc<|Za<|Zc<|Zc ?_
         exfalso;exact hn ⟨hGA,fun i hi=>hz i (by omega)⟩
set_option maxHeartbeats 4000000 in
theorem Zkw(v v2 u:Value)(r s:List (Bool×ByteArray))(ls:List PRw)(hs1:smR r=true)(hs2:smR s=true)(hl1:r.length≤4)(hl2:s.length≤4)(ok1:okP r=true)(ok2:okP s=true)(hl3:ls.length≤8)(a b c:R2)(ha:E32 a)(hb:E32 b)(hc:E32 c)(hL:∀i,i<3→gdz ([rqz a,rqz b,rqz c].getD i ((false,⟨#[]⟩),(false,⟨#[]⟩))))(o1:0<cmp a b):Mv prog 9 #[v,v2,rX a.1 a.2,rX b.1 b.2,rX c.1 c.2,u] [slp 2 Zeg v r,slp 2 Zeg v2 s,slp 9 Aa u ls] (.bool true):=by
 refine Yd func9 J ntmps9 J K3 ?_
 intro w0 sc hw hsc
 simp only [Zq,Zp]
 refine Oe (Lu (i:=1) J Zi) fun hn1=>Oe (Lu (i:=2) J Zi) fun hn2=>Oe (Lu (i:=3) J Zi) (fun hn3=>?_)
 have hb11:=ha.b1
 have hb12:=ha.b2
 have hb21:=hb.b1
 have hb22:=hb.b2
 have hb31:=hc.b1
 have hb32:=hc.b2
 have hp1:=ha.p
 have hp2:=hb.p
 have hp3:=hc.p
 have hLl:([rqz a,rqz b,rqz c]:List RZ).length=3:=rfl
 refine Xc (Nt 999 2 31 wv)<|Xc (Pt 999 J J pV)<|Zc<|Zg<|tt (Xa (i:=4) J J J J J hw) J fun bx _=>tt (Xa (i:=5) J J J J J hw) J fun bx_2 _=>tt (Xa (i:=6) J J J J J hw) J fun bx_3 _=>as_ J<|Zf<|Za<|Zc<|Zc<|Zg<|mv J<|tt (Zh (n:=6) (Kp _ _) J J J K1 call10 (Zd 1 J J J Ze) J hw) J fun _ _=>dt (Zs (r':= .bool false) (Yr J J) (congrArg Value.bool (by rw [hs1];rfl)))<|mv J<|gdt (Yf J J) J J<|gtt (Zh (n:=6) (Kp _ _) J J J K1 call10 (Zd 2 J J J Ze) J hw) J J J fun _ _=>gdt (Zs (r':= .bool false) (Yr J J) (congrArg Value.bool (by rw [hs2];rfl))) J J<|dt (Zo J J J)<|mv J<|gdt (Yf J J) J J<|gdt (Yc J J (i:=1) J Zi Qi) J J<|gdt (Zs (r':= .bool false) (Qr J J J) (congrArg Value.bool (decide_eq_false (by omega)))) J J<|dt (Zo J J J)<|mv J<|gdt (Yf J J) J J<|gdt (Yc J J (i:=2) J Zi Qi) J J<|gdt (Zs (r':= .bool false) (Qr J J J) (congrArg Value.bool (decide_eq_false (by omega)))) J J<|dt (Zo J J J)<|mv J<|gdt (Yf J J) J J<|gtt (Zh (n:=6) (Gr _ _) J J J K1 call13 (Zd 1 J J J Ze) J hw) J J J fun _ _=>gdt (Zs (r':= .bool false) (Yr J J) (congrArg Value.bool (by rw [ok1];rfl))) J J<|dt (Zo J J J)<|mv J ?_
 refine gdt (Yf J J) J J<|gtt (Zh (n:=6) (Gr _ _) J J J K1 call13 (Zd 2 J J J Ze) J hw) J J J fun _ _=>gdt (Zs (r':= .bool false) (Yr J J) (congrArg Value.bool (by rw [ok2];rfl))) J J<|dt (Zo J J J)<|mv J<|gdt (Yf J J) J J<|gdt (Yc J J (i:=3) J Zi Zji) J J<|gdt (Zs (r':= .bool false) (Qr J J J) (congrArg Value.bool (decide_eq_false (by omega)))) J J<|dt (Zo J J J)<|Zf<|Za<|Zw J<|Zj<|Za<|Zc<|Zc<|Zg<|dt (Yg (i:=4) J J J Xt Yq J J J J)<|dt (Yg (i:=5) J J J Xt Yq J J J J)<|dt (Yg (i:=6) J J J Xt Yq J J J J)<|tt (Ps (i:=7) (ivs:=[(0,_),(1,_),(2,_)]) (enc:=encQ) ([rqz a,rqz b,rqz c]:List RZ) J J K6 Zh5 ti41 J J (Zm8 _ _ _ _ _ _ _ _ _ _ _ _ _ _ _ _) J J pR.cells J J hw) J fun v _=>dt (Yc J J (i:=7) J (Yk pR) Zh5)<|mv J<|Zf<|Za<|Zm<|Mm [(0,_),(1,_),(5,_),(8,_),(9,_),(10,_),(73,_),(74,_)] [(0,_),(1,_),(2,_),(3,_),(999,_),(4,_),(5,_),(6,_),(7,_)] (fun(i:Nat)=>[(75,.int .i64 (i:Int))]) (fun(i:Nat)=>[]) (fun(i:Nat)=>i≤3) (fun(i:Nat)=>3-i) 0 (by first | omega | (dsimp only<;>omega)) K9 K9 ?_
 rintro i hi
 simp only [CA,NA]
 refine Zc<|Zg<|dt (Qd J J J)<|Zf<|Za<|Zc<|Zr J (fun h302=>?_) (fun h302=>?_)
 ·refine Zj<|Za<|Zc<|Zm<|Zc<|Zg<|dt (Xf (ii:=7) J J J J (Yk pR) Zh5 Yq J (by first | omega | (simp only [List.length_set];omega)))<|dt (Xx (ii:=7) ((false,⟨#[]⟩),(false,⟨#[]⟩)) J J J (Yk pR) pR (by first | omega | (simp only [List.length_set];omega)))<|tt (Zl (i:=8) J J zeroValue41 J J hw) J fun bx_4 _=>tt (Zn (i:=8) J J J J J (by decide) J Yq J J ⟨Zb J,Zb J,Zb J,Zb J,trivial⟩ J hw trivial) J fun _ _=>Zf<|Za<|Zc<|Zg<|dt (Yg (i:=8) J J J Xt Yq J J J J)<|tt (Zh (n:=8) (Gt _ _ _ _) J J J K1 call25 Ze J hw) J fun _ _=>dt (Zs (r':= .bool false) (Yr J J) (congrArg Value.bool (by rw [show okR ([rqz a,rqz b,rqz c].getD i ((false,⟨#[]⟩),(false,⟨#[]⟩))).1.1 ([rqz a,rqz b,rqz c].getD i ((false,⟨#[]⟩),(false,⟨#[]⟩))).1.2 ([rqz a,rqz b,rqz c].getD i ((false,⟨#[]⟩),(false,⟨#[]⟩))).2.1 ([rqz a,rqz b,rqz c].getD i ((false,⟨#[]⟩),(false,⟨#[]⟩))).2.2=true from(hL i (by omega)).1];rfl)))<|mv J<|gdt (Xk J J Fb J Ye J J) J J<|gdt (Xk J J Cm J zT9 J J) J J<|gdt (Pr (i:=8) J J J iA9 J) J J<|gdt (Ie J J uT9) J J<|gdt (Zs (r':= .bool false) (Qr J J J) (congrArg Value.bool (decide_eq_false (by have:=(hL i (by omega)).2.1;omega)))) J J<|dt (Zo J J J)<|mv J ?_
  exact gdt (Xk J J Fb J Ye J J) J J<|gdt (Xk J J Cm J zT9 J J) J J<|gdt (Pr (i:=8) J J J iA9 J) J J<|gdt (Ie J J uT9) J J<|gdt (Zs (r':= .bool false) (Qr J J J) (congrArg Value.bool (decide_eq_false (by have:=(hL i (by omega)).2.2;omega)))) J J<|dt (Zo J J J)<|Zf<|Za<|Zw J<|Zj<|Og<|Za<|Zg<|dt (Yu J J J ⟨by omega,by omega⟩)<|mv J<|Zf<|Xq (i+1) (by first | omega | (dsimp only<;>omega)) (by first | omega | (dsimp only<;>omega)) K9 K9
 ·refine Yx<|Zu<|Zu<|Nc<|Za<|Zc<|Zc<|Qf (fun _=>False) [(0,0),(2,0),(1,1),(3,1),(4,1),(5,0),(6,0),(7,2),(9,2),(8,2),(10,2),(11,2),(12,2),(13,0)] ?_ ?_
  ·kernel_rfl
  exact r0' J J (st0 (Yg (i:=4) J J J Xt Yq J J J J))<|r0' J J (st0 (Yg (i:=5) J J J Xt Yq J J J J))<|r1' J (Zh (n:=9) (Ov a.1 a.2) J J J K1 call23 Ze J hw) fun g _=>r1' J (Zh (n:=11) (Ov b.1 b.2) J J J K1 call23 Ze J hw) fun g_2 _=>r1' J (Zh (n:=12) (Fv _ _ _ _ a.1 a.2 b.1 b.2) J J J K2 call27 (Zd 9 J J J (Zd 10 J J J (Zd 11 J J J (Zd 12 J J J Ze)))) J hw) fun _ _=>r0' J J (st0 (Zs (r':= .bool true) (Qr J J J) (congrArg Value.bool (decide_eq_true o1))))<|r0' J J (st0 (Yf J J))<|r2 J J J J J J J J<|r2 J J J J J J J J<|r2 J J J J J J J J<|r2 J J J J J J J J<|r2 J J J J J J J J<|r2 J J J J J J J J<|r0' J J (st0 (Yi J J J))<|Py<|Za<|Pd J<|Zc<|Zg<|tt (Zh (n:=12) (Pm) J J J trivial call11 Ze J hw) J fun _ _=>as_ J<|Zf<|Za<|Zt<|Ys<|xU hsc results9 J J J
set_option maxHeartbeats 4000000 in
theorem Zkv(v v2 u:Value)(r s:List (Bool×ByteArray))(ls:List PRw)(hs1:smR r=true)(hs2:smR s=true)(hl1:r.length≤4)(hl2:s.length≤4)(ok1:okP r=true)(ok2:okP s=true)(hl3:ls.length≤8)(a b c:R2)(ha:E32 a)(hb:E32 b)(hc:E32 c)(hL:∀i,i<3→gdz ([rqz a,rqz b,rqz c].getD i ((false,⟨#[]⟩),(false,⟨#[]⟩))))(o1:¬0<cmp a b)(o2:0<cmp b c):Mv prog 9 #[v,v2,rX a.1 a.2,rX b.1 b.2,rX c.1 c.2,u] [slp 2 Zeg v r,slp 2 Zeg v2 s,slp 9 Aa u ls] (.bool true):=by
 refine Yd func9 J ntmps9 J K3 ?_
 intro w0 sc hw hsc
 simp only [Zq,Zp]
 refine Oe (Lu (i:=1) J Zi) fun hn1=>Oe (Lu (i:=2) J Zi) fun hn2=>Oe (Lu (i:=3) J Zi) (fun hn3=>?_)
 have hb11:=ha.b1
 have hb12:=ha.b2
 have hb21:=hb.b1
 have hb22:=hb.b2
 have hb31:=hc.b1
 have hb32:=hc.b2
 have hp1:=ha.p
 have hp2:=hb.p
 have hp3:=hc.p
 have hLl:([rqz a,rqz b,rqz c]:List RZ).length=3:=rfl
 refine Xc (Nt 999 2 31 wv)<|Xc (Pt 999 J J pV)<|Zc<|Zg<|tt (Xa (i:=4) J J J J J hw) J fun bx _=>tt (Xa (i:=5) J J J J J hw) J fun bx_2 _=>tt (Xa (i:=6) J J J J J hw) J fun bx_3 _=>as_ J<|Zf<|Za<|Zc<|Zc<|Zg<|mv J<|tt (Zh (n:=6) (Kp _ _) J J J K1 call10 (Zd 1 J J J Ze) J hw) J fun _ _=>dt (Zs (r':= .bool false) (Yr J J) (congrArg Value.bool (by rw [hs1];rfl)))<|mv J<|gdt (Yf J J) J J<|gtt (Zh (n:=6) (Kp _ _) J J J K1 call10 (Zd 2 J J J Ze) J hw) J J J fun _ _=>gdt (Zs (r':= .bool false) (Yr J J) (congrArg Value.bool (by rw [hs2];rfl))) J J<|dt (Zo J J J)<|mv J<|gdt (Yf J J) J J<|gdt (Yc J J (i:=1) J Zi Qi) J J<|gdt (Zs (r':= .bool false) (Qr J J J) (congrArg Value.bool (decide_eq_false (by omega)))) J J<|dt (Zo J J J)<|mv J<|gdt (Yf J J) J J<|gdt (Yc J J (i:=2) J Zi Qi) J J<|gdt (Zs (r':= .bool false) (Qr J J J) (congrArg Value.bool (decide_eq_false (by omega)))) J J<|dt (Zo J J J)<|mv J<|gdt (Yf J J) J J<|gtt (Zh (n:=6) (Gr _ _) J J J K1 call13 (Zd 1 J J J Ze) J hw) J J J fun _ _=>gdt (Zs (r':= .bool false) (Yr J J) (congrArg Value.bool (by rw [ok1];rfl))) J J<|dt (Zo J J J)<|mv J ?_
 refine gdt (Yf J J) J J<|gtt (Zh (n:=6) (Gr _ _) J J J K1 call13 (Zd 2 J J J Ze) J hw) J J J fun _ _=>gdt (Zs (r':= .bool false) (Yr J J) (congrArg Value.bool (by rw [ok2];rfl))) J J<|dt (Zo J J J)<|mv J<|gdt (Yf J J) J J<|gdt (Yc J J (i:=3) J Zi Zji) J J<|gdt (Zs (r':= .bool false) (Qr J J J) (congrArg Value.bool (decide_eq_false (by omega)))) J J<|dt (Zo J J J)<|Zf<|Za<|Zw J<|Zj<|Za<|Zc<|Zc<|Zg<|dt (Yg (i:=4) J J J Xt Yq J J J J)<|dt (Yg (i:=5) J J J Xt Yq J J J J)<|dt (Yg (i:=6) J J J Xt Yq J J J J)<|tt (Ps (i:=7) (ivs:=[(0,_),(1,_),(2,_)]) (enc:=encQ) ([rqz a,rqz b,rqz c]:List RZ) J J K6 Zh5 ti41 J J (Zm8 _ _ _ _ _ _ _ _ _ _ _ _ _ _ _ _) J J pR.cells J J hw) J fun v _=>dt (Yc J J (i:=7) J (Yk pR) Zh5)<|mv J<|Zf<|Za<|Zm<|Mm [(0,_),(1,_),(5,_),(8,_),(9,_),(10,_),(73,_),(74,_)] [(0,_),(1,_),(2,_),(3,_),(999,_),(4,_),(5,_),(6,_),(7,_)] (fun(i:Nat)=>[(75,.int .i64 (i:Int))]) (fun(i:Nat)=>[]) (fun(i:Nat)=>i≤3) (fun(i:Nat)=>3-i) 0 (by first | omega | (dsimp only<;>omega)) K9 K9 ?_
 rintro i hi
 simp only [CA,NA]
 refine Zc<|Zg<|dt (Qd J J J)<|Zf<|Za<|Zc<|Zr J (fun h302=>?_) (fun h302=>?_)
 ·refine Zj<|Za<|Zc<|Zm<|Zc<|Zg<|dt (Xf (ii:=7) J J J J (Yk pR) Zh5 Yq J (by first | omega | (simp only [List.length_set];omega)))<|dt (Xx (ii:=7) ((false,⟨#[]⟩),(false,⟨#[]⟩)) J J J (Yk pR) pR (by first | omega | (simp only [List.length_set];omega)))<|tt (Zl (i:=8) J J zeroValue41 J J hw) J fun bx_4 _=>tt (Zn (i:=8) J J J J J (by decide) J Yq J J ⟨Zb J,Zb J,Zb J,Zb J,trivial⟩ J hw trivial) J fun _ _=>Zf<|Za<|Zc<|Zg<|dt (Yg (i:=8) J J J Xt Yq J J J J)<|tt (Zh (n:=8) (Gt _ _ _ _) J J J K1 call25 Ze J hw) J fun _ _=>dt (Zs (r':= .bool false) (Yr J J) (congrArg Value.bool (by rw [show okR ([rqz a,rqz b,rqz c].getD i ((false,⟨#[]⟩),(false,⟨#[]⟩))).1.1 ([rqz a,rqz b,rqz c].getD i ((false,⟨#[]⟩),(false,⟨#[]⟩))).1.2 ([rqz a,rqz b,rqz c].getD i ((false,⟨#[]⟩),(false,⟨#[]⟩))).2.1 ([rqz a,rqz b,rqz c].getD i ((false,⟨#[]⟩),(false,⟨#[]⟩))).2.2=true from(hL i (by omega)).1];rfl)))<|mv J<|gdt (Xk J J Fb J Ye J J) J J<|gdt (Xk J J Cm J zT9 J J) J J<|gdt (Pr (i:=8) J J J iA9 J) J J<|gdt (Ie J J uT9) J J<|gdt (Zs (r':= .bool false) (Qr J J J) (congrArg Value.bool (decide_eq_false (by have:=(hL i (by omega)).2.1;omega)))) J J<|dt (Zo J J J)<|mv J ?_
  exact gdt (Xk J J Fb J Ye J J) J J<|gdt (Xk J J Cm J zT9 J J) J J<|gdt (Pr (i:=8) J J J iA9 J) J J<|gdt (Ie J J uT9) J J<|gdt (Zs (r':= .bool false) (Qr J J J) (congrArg Value.bool (decide_eq_false (by have:=(hL i (by omega)).2.2;omega)))) J J<|dt (Zo J J J)<|Zf<|Za<|Zw J<|Zj<|Og<|Za<|Zg<|dt (Yu J J J ⟨by omega,by omega⟩)<|mv J<|Zf<|Xq (i+1) (by first | omega | (dsimp only<;>omega)) (by first | omega | (dsimp only<;>omega)) K9 K9
 ·refine Yx<|Zu<|Zu<|Nc<|Za<|Zc<|Zc<|Qf (fun _=>False) [(0,0),(2,0),(1,1),(3,1),(4,1),(5,0),(6,0),(7,0),(9,0),(8,1),(10,1),(11,1),(12,0),(13,0)] ?_ ?_
  ·kernel_rfl
  refine r0' J J (st0 (Yg (i:=4) J J J Xt Yq J J J J))<|r0' J J (st0 (Yg (i:=5) J J J Xt Yq J J J J))<|r1' J (Zh (n:=9) (Ov a.1 a.2) J J J K1 call23 Ze J hw) fun g _=>r1' J (Zh (n:=11) (Ov b.1 b.2) J J J K1 call23 Ze J hw) fun g_2 _=>r1' J (Zh (n:=12) (Fv _ _ _ _ a.1 a.2 b.1 b.2) J J J K2 call27 (Zd 9 J J J (Zd 10 J J J (Zd 11 J J J (Zd 12 J J J Ze)))) J hw) fun _ _=>r0' J J (st0 (Zs (r':= .bool false) (Qr J J J) (congrArg Value.bool (decide_eq_false o1))))<|r0' J J (st0 (Yf J J))<|r0g (st0 (Yg (i:=5) J J J Xt Yq J J J J)) J J J J J<|r0g (st0 (Yg (i:=6) J J J Xt Yq J J J J)) J J J J J<|Zj6 J J J J J (Zh (n:=13) (Ov b.1 b.2) J J J K1 call23 Ze J hw) fun g_3 _=>Zj6 J J J J J (Zh (n:=15) (Ov c.1 c.2) J J J K1 call23 Ze J hw) fun g_4 _=>Zj6 J J J J J (Zh (n:=16) (Fv _ _ _ _ b.1 b.2 c.1 c.2) J J J K2 call27 (Zd 13 J J J (Zd 14 J J J (Zd 15 J J J (Zd 16 J J J Ze)))) J hw) fun _ _=>r0g (st0 (Zs (r':= .bool true) (Qr J J J) (congrArg Value.bool (decide_eq_true o2)))) J J J J J<|r0' J J (st0 (Zo J J J))<|Py<|Za<|Pd J<|Zc<|Zg ?_
  exact tt (Zh (n:=16) (Pm) J J J trivial call11 Ze J hw) J fun _ _=>as_ J<|Zf<|Za<|Zt<|Ys<|xU hsc results9 J J J
end Go.Sky

