/- Rules, arithmetic and contracts: part 11. No conditions but those that each theorem names. -/
import Derived.Test.YteikicbnfbgpnaaGreatDb09
set_option linter.all false
set_option maxHeartbeats 4000000
namespace Go.Sky
open Go.Proofs.Tryz
open Go.Proofs
set_option synthInstance.maxHeartbeats 0
set_option synthInstance.maxSize 100000
set_option maxRecDepth 20000
set_option maxHeartbeats 4000000
set_option linter.unusedSimpArgs false
theorem Zcf(v u:Value)(xs ys:List Int)(hv:Vp xs)(hu:Vp ys):Om prog 304 #[v,u] [Yh 2 wv v xs,Yh 2 wv u ys] (.tuple #[.bool (Yhy xs ys),.int .i64 (Dc xs ys)]):=by
 refine Zd func304 ntmps304 fun w0 sc hw hsc=>?_
 have hlen:=hv.len
 have hlen2:=hu.len
 have hm1:=Pd hv.sz
 have hm2:=Pd hu.sz
 refine go 11 ?_
 refine cl 2 [1] (Xg _ _ ‹_›) fun _ _=>go 3 ?_
 refine Gy 2 [2] (Xg _ _ ‹_›) fun _ _=>go 14 ?_
 refine Zc J (fun h297=>?_) (fun h297=>?_)
 ·refine go 9 ?_
  exact Mi hsc () results304 (by unfold Dc Yhy;rw [if_pos O,List.eq_nil_of_length_eq_zero (l:=ys) O];rfl) trivial Za
 ·refine go 10 ?_
  refine Zc J (fun h299=>?_) (fun h299=>?_)
  ·refine go 9 ?_
   exact Mi hsc () results304 (by rw [Zem O,decide_eq_true O];unfold Dc;rw [if_neg O,if_pos O]) trivial Za
  ·have hp3:(xs.length-ys.length+1)*(Qk ys+1)≤26*65537:=Nat.mul_le_mul O O
   have hp4:((xs.length:Int)-(ys.length:Int)+1)*((Qk ys:Int)+1)=(((xs.length-ys.length+1)*(Qk ys+1):Nat):Int):=by rw [Int.natCast_mul];congr 1;omega
   refine go 3 ?_
   refine cl 2 [1] (Ox _ _ (by first | exact hv.sz | exact hu.sz)) fun _ _=>go 7 ⟨O,O,?_⟩
   refine cl 2 [2] (Ox _ _ (by first | exact hv.sz | exact hu.sz)) fun _ _=>go 7 ⟨O,by rw [hp4];exact⟨O,O⟩,by rw [hp4];exact⟨O,O⟩,?_⟩
   refine Zc J (fun h301=>?_) (fun h301=>?_)
   ·refine go 9 ?_
    exact Mi hsc () results304 (by rw [hp4]at h301;rw [Zem O,decide_eq_false O];unfold Dc;rw [if_neg O,if_neg O,if_pos O]) trivial Za
   ·refine go 10 ?_
    exact Mi hsc () results304 (by rw [hp4]at h301;rw [Zem O,decide_eq_false O];unfold Dc;rw [if_neg O,if_neg O,if_neg O]) trivial Za
theorem Zky(v u:Value)(xs ys:List Int)(hv:Vp xs)(hu:Vp ys)(hd:Dc xs ys=0):Cal prog 303 #[v,u] [Yh 2 wv v xs,Yh 2 wv u ys] true (G:=Value) (fun r=>True) (fun r=> .tuple #[r,.int .i64 0]) (fun r=>[Yh 2 wv r (Xy xs ys)]):=by
 refine Zd func303 ntmps303 fun w0 sc hw hsc=>?_
 have hlen:=hv.len
 have hlen2:=hu.len
 have hm1:=Pd hv.sz
 have hm2:=Pd hu.sz
 obtain⟨hm0,hF0⟩:=Zb2 hd
 have hdl:=Zem (p:=xs) hm0
 refine go 10 ?_
 refine cl 2 [1,2] (Zcf _ _ _ _ hv hu) fun _ _=>go 14 ?_
 refine Zc J (fun h310=>?_) (fun h310=>?_)
 ·exfalso;exact h310 hd
 ·refine go 5 ?_
  refine tt (Zln (n:=3) (Zwf _ _) J J J K1 call305 (Yd 1 J J J Ya) J hw.h) fun v _=>go 9 ?_
  refine Lb J (fun h314=>?_) (fun h314=>?_)
  ·have hlt:xs.length<ys.length:=by rw [hdl]at h314;simpa using h314
   refine go 9 ?_
   exact Mi hsc _ results303 J trivial (gow 3 Za (by unfold Xy;rw [if_pos hlt]))
  ·have hge:ys.length≤xs.length:=by rw [hdl]at h314;simpa using h314
   have hF:=hF0 hge
   refine go 4 ?_
   refine Yk (Zz 4) fun b _=>go 8 ⟨O,?_⟩
   refine dt (Yn (ii:=2) (i:=(ys.length-1)) J J J J Zk Nf Ki)<|go 1 ⟨O,?_⟩
   refine Yk (Zz 5) fun b_2 _=>go 13 ⟨O,?_⟩
   refine lp (G:=Nat) [1,8,9,10] [0,1,2,4,5] (fun j=>[(11,.int .i64 ((xs.length:Int)-1-(j:Int)))]) (fun j=>[(3,Oa 2 80 wv v (Qj xs ys j))]) (fun j=>j≤xs.length-ys.length+1) (fun j=>xs.length-ys.length+1-j) 0 O1 ⟨by rw [show(xs.length:Int)-1-((0:Nat):Int)=(xs.length:Int)-1 by omega];rfl,trivial⟩ K1 ?_
   rintro j hj
   refine go 10 ⟨O,?_⟩
   refine Zc J (fun h319=>?_) (fun h319=>?_)
   ·obtain⟨hb1,hb2,hb3⟩:=rest_b hF (j:=j) O
    have hRl:=Mg xs ys j
    refine go 8 ?_
    refine dt (Yn (ii:=3) (i:=(xs.length-1-j)) J J J J (Ys pV) Nf Ki)<|go 1 ⟨O,?_⟩
    refine Yk (Zz 6) fun b_3 _=>go 12 ?_
    refine lp (G:=Nat) [1,8,9,10,11,12,51] [0,1,2,4,5,6] (fun i=>[(52,.int .i64 (i:Int))]) (fun i=>[(3,Oa 2 80 wv v (Zge (Qj xs ys j) (cf ys (ys.length-1)) i))]) (fun i=>i≤xs.length) (fun i=>xs.length-i) 0 O1 K1 ⟨by rw [Zx1];rfl,trivial⟩ ?_
    rintro i hi
    have hg1:i<xs.length→(Zge (Qj xs ys j) (cf ys (ys.length-1)) i).getD i 0=cf (Qj xs ys j) i:=fun h=>Ybz O
    have hl1:=Zp2 (Qj xs ys j) (cf ys (ys.length-1)) i
    refine go 6 ?_
    refine Zc J (fun h322=>?_) (fun h322=>?_)
    ·refine go 10 ?_
     refine Qe (fun x=>x=b) [(0,0),(1,0),(2,0),(3,0),(4,0),(5,0),(6,0),(7,1),(8,0),(9,3)]<|go 4 ?_
     refine Qc J J (st1 4 J (Yn (ii:=3) (i:=i) J J J J (Ys pV) Nf Ki J))<|go 2 ⟨O,?_⟩
     refine Ev J (Qa (n:=6) (i:=4) (Fm _ _ _ (by rw [hg1 O];exact hb1 _) (hu.sz _) (by rw [hg1 O];exact hb2 _ _)) J J J K3 call191 J O3 Ya J hw.h J) (fun _ _=>?_)
     refine Qc J J (st1 4 J (Yn (ii:=3) (i:=i) J J J J (Ys pV) Nf Ki J))<|r3' J (Mw (i:=3) (enc:=wv) _ J J J J J J pV J hw.h) fun _ _=>go 7 ⟨O,?_⟩
     exact Xf (i+1) O1 O1 K1 ⟨by rw [←Yby O,←hg1 O];rfl,trivial⟩
    ·refine go 6 ?_
     obtain rfl:i=xs.length:=O
     refine go 7 ?_
     refine lp (G:=Nat) [1,8,9,10,11,12,65,66] [0,1,2,4,5,6] (fun i=>[(67,.int .i64 (i:Int))]) (fun i=>[(3,Oa 2 80 wv v (Zjz ys (Qj xs ys j) (cf ys (ys.length-1)) (cf (Qj xs ys j) (xs.length-1-j)) (xs.length-1-j-(ys.length-1)) i))]) (fun i=>i≤ys.length) (fun i=>ys.length-i) 0 O1 K1 ⟨by rw [←Zxb,hRl];rfl,trivial⟩ ?_
     rintro i hi
     have hg2:i<ys.length→(Zjz ys (Qj xs ys j) (cf ys (ys.length-1)) (cf (Qj xs ys j) (xs.length-1-j)) (xs.length-1-j-(ys.length-1)) i).getD ((xs.length-1-j-(ys.length-1))+i) 0=cf (Qj xs ys j) ((xs.length-1-j-(ys.length-1))+i)*(cf ys (ys.length-1)):=fun h=>Zzq O
     have hl2:=Zp1 ys (Qj xs ys j) (cf ys (ys.length-1)) (cf (Qj xs ys j) (xs.length-1-j)) (xs.length-1-j-(ys.length-1)) i
     refine go 6 ?_
     refine Zc J (fun h325=>?_) (fun h325=>?_)
     ·refine go 9 ⟨O2,O2,?_⟩
      refine Yk (Zz 7) fun b_4 _=>go 16 ⟨O,O,O,?_⟩
      refine Qe (fun x=>x=b) [(0,0),(1,0),(2,0),(3,0),(4,0),(5,0),(6,0),(7,0),(8,1),(9,1),(10,0),(11,3)]<|go 4 ?_
      refine Qc J J (st1 4 J (Yn (ii:=3) (i:=((xs.length-1-j-(ys.length-1))+i)) J J J J (Ys pV) Nf Ki))<|go 3 ⟨O,?_⟩
      refine Ev J (Qa (n:=7) (i:=4) (Fm _ _ _ (hb1 _) (hu.sz _) (hb2 _ _)) J J J K3 call191 J O3 Ya J hw.h J) (fun _ _=>?_)
      refine Ev J (Qa (n:=7) (i:=4) (Zs4 _ _ _ (by rw [hg2 O];exact hb2 _ _) (hb2 _ _) (by rw [hg2 O];exact hb3 _ _ _ _)) J J J K3 call194 J O3 Ya J hw.h J) (fun _ _=>?_)
      refine Qc J J (st1 4 J (Yn (ii:=3) (i:=((xs.length-1-j-(ys.length-1))+i)) J J J J (Ys pV) Nf Ki))<|r3' J (Mw (i:=3) (enc:=wv) _ J J J J J J pV J hw.h) fun _ _=>go 7 ⟨O,?_⟩
      exact Xf (i+1) O1 O1 K1 ⟨by rw [←Zzp O,←hg2 O];rfl,trivial⟩
     ·refine go 11 ⟨O,?_⟩
      obtain rfl:i=ys.length:=O
      exact Xf (j+1) O1 O1 ⟨by rw [show(xs.length:Int)-1-((j+1:Nat):Int)=(xs.length:Int)-1-(j:Int)-1 by omega];rfl,trivial⟩ ⟨by rfl,trivial⟩
   ·refine go 6 ?_
    obtain rfl:j=xs.length-ys.length+1:=O
    refine Zf (Qd 3 J J pV)<|go 2 ?_
    refine tt (Qa (n:=8) (i:=4) (Bu _ _ _ (Zom hF)) J J J K2 call192 J O3 (Yd 3 J J J Ya) J hw.h trivial) fun _ _=>go 7 ?_
    exact Mi hsc _ results303 J trivial (Ot 8 Za (by unfold Xy;rw [if_neg O]<;>rfl))
theorem Zar(v u:Value)(xs ys:List Int)(hv:Vp xs)(hu:Vp ys)(hd:Dc xs ys=0):Cal prog 287 #[v,u] [Yh 2 wv v xs,Yh 2 wv u ys] true (G:=Value) (fun r=>True) (fun r=> .tuple #[r,.int .i64 (if pdv xs ys then 0 else 10)]) (fun r=>[Yh 2 wv r (if pdv xs ys then Lr xs ys else [])]):=by
 refine Zd func287 ntmps287 fun w0 sc hw hsc=>?_
 have hlen:=hv.len
 have hlen2:=hu.len
 have hm1:=Pd hv.sz
 have hm2:=Pd hu.sz
 obtain⟨hm0,hF0⟩:=Zb2 hd
 have hdl:=Zem (p:=xs) hm0
 have hyz:cf ys (ys.length-1)≠0:=hu.tr.mem (fun e=>hm0 (by rw [e];rfl))
 refine go 10 ?_
 refine cl 2 [1,2] (Zcf _ _ _ _ hv hu) fun _ _=>go 16 ?_
 refine Zc J (fun h337=>?_) (fun h337=>?_)
 ·exfalso;exact h337 hd
 ·refine go 8 ?_
  refine Zc J (fun h339=>?_) (fun h339=>?_)
  ·refine go 9 ?_
   have hx0:xs=[]:=List.eq_nil_of_length_eq_zero O
   have hp:pdv xs ys:= .inl hx0
   exact Mi hsc _ results287 (by rw [if_pos hp]) trivial (Ns (by rw [if_pos hp,hx0];rfl) Za)
  ·have hnx:xs≠[]:=fun e=>by rw [e]at h339;simp at h339
   refine go 6 ?_
   refine Lb J (fun h341=>?_) (fun h341=>?_)
   ·have hlt:xs.length<ys.length:=by rw [hdl]at h341;simpa using h341
    refine go 9 ?_
    have hp:¬pdv xs ys:=fun h=>by rcases h with h | h;(exact hnx h);(have:=h.1;omega)
    exact Mi hsc _ results287 (by rw [if_neg hp]) trivial (Ns (if_neg hp) Za)
   ·have hge:ys.length≤xs.length:=by rw [hdl]at h341;simpa using h341
    have hF:=hF0 hge
    refine go 5 ?_
    refine Yk (Zz 3) fun b _=>go 5 ?_
    refine tt (Zln (n:=4) (Zwf _ _) J J J K1 call305 (Yd 1 J J J Ya) J hw.h) fun v _=>go 11 ⟨O,O,?_⟩
    refine tt (Hm (i:=5) (n:=(xs.length-ys.length+1)) (by_:=24) (enc:=wv) 0 J J J J Nf ti80 J pV.cells pV.pos J J J hw.h) fun v_2 _=>go 13 ⟨⟨by simp only [List.length_replicate];omega,by simp only [List.length_replicate];omega⟩,?_⟩
    refine lp (G:=Nat) [1,8,9,10] [0,1,2,3] (fun j=>[(11,.int .i64 ((xs.length:Int)-(ys.length:Int)-(j:Int)))]) (fun j=>[(4,Oa 2 80 wv v (Qm xs ys j)),(5,Oa 2 80 wv v_2 (Zfm xs ys j))]) (fun j=>(j≤xs.length-ys.length+1)∧(∀k,xs.length-ys.length<k+j→k≤xs.length-ys.length→Kp xs ys k)) (fun j=>xs.length-ys.length+1-j) 0 ⟨O1,fun k h1 h2=>O⟩ ⟨by simp only [List.length_replicate];exact congrArg some (Za0 O),trivial⟩ ⟨J,by rw [Zyn];rfl,trivial⟩ ?_
    rintro j ⟨hj,hx⟩
    have hol:=Zax xs ys j
    refine go 7 ?_
    refine Zc J (fun h347=>?_) (fun h347=>?_)
    ·obtain⟨hb1,hb5⟩:=div_b hF (j:=j) O hx
     have hRl:=Bc xs ys j
     have hi1:xs.length-ys.length-j+ys.length-1<xs.length:=O
     refine go 4 ?_
     refine jn (G:=Nat×Nat) [1,8,9,10,11] [0,4,5,1,2,3] (fun q=>[(12,.pointer (some ⟨q.1,0,none⟩)),(13,.pointer (some ⟨q.2,0,none⟩)),(14,.int .i64 0)]) (fun q=>[(97,box q.1 80 (wc (Bw (dq ys (Qm xs ys j) (xs.length-ys.length-j))))),(98,box q.2 80 (wc (Bw (cf (Qm xs ys j) ((xs.length-ys.length-j)+ys.length-1)%cf ys (ys.length-1)))))]) (fun q=>True) ?_ ?_
     ·refine Ln [2,4] [23]<|Zh (n:=10) [(0,0),(1,0),(2,0),(3,0),(4,0),(5,0),(6,0),(7,0),(8,0),(9,0),(10,0),(11,0),(12,0),(13,0)]<|go 6 ⟨O,O,?_⟩
      refine Qc J J (stf (Yn (ii:=4) (i:=((xs.length-ys.length-j)+ys.length-1)) J J J J (Ys pV) Nf Ki) K2)<|go 5 ⟨O,O,?_⟩
      refine Qc J J (stf (Yn (ii:=2) (i:=(ys.length-1)) J J J J Zk Nf Ki) K2)<|go 2 ⟨O,?_⟩
      refine Zey (n:=9) 14 19 20 ?_ ?_ ?_
      ·refine Ol (Zg 5 [] (Dl _ _ (hb1 _) (hu.sz _) hyz)) fun _ _=>?_
       refine Zh (n:=5) [(15,0),(16,0),(17,0),(18,0)]<|go 5 ?_
       refine Qp (n:=4) 19 20 ?_ ?_
       ·refine Ol (Qr 97) fun b_2 ho=>?_
        refine Zh (n:=0) [(20,1),(21,1),(22,1),(23,3)]<|Yz (Qr 98) fun b_3 ho2=>go 4 ?_
        exact Zs<|Pr (_,_) trivial K3 K2
       ·refine Ol (Qr 98) fun b_4 ho3=>?_
        refine Zh (n:=0) [(19,1),(21,1),(22,1),(23,3)]<|Yz (Qr 97) fun b_5 ho4=>go 4 ?_
        exact Zs<|Pr (_,_) trivial K3 K2
      ·refine Ol (Qr 97) fun b_6 ho5=>?_
       refine Qp (n:=8) 14 20 ?_ ?_
       ·refine Ol (Zg 5 [] (Dl _ _ (hb1 _) (hu.sz _) hyz)) fun _ _=>?_
        refine Zh (n:=0) [(15,0),(16,0),(17,0),(18,0),(20,1),(21,1),(22,1),(23,3)]<|go 4 ?_
        refine Yz (Qr 98) fun b_7 ho6=>go 4 ?_
        exact Zs<|Pr (_,_) trivial K3 K2
       ·refine Ol (Qr 98) fun b_8 ho7=>?_
        refine Zh (n:=0) [(14,1),(15,0),(16,0),(17,0),(18,0),(21,1),(22,1),(23,3)]<|Yz (Zg 5 [] (Dl _ _ (hb1 _) (hu.sz _) hyz)) fun _ _=>go 8 ?_
        exact Zs<|Pr (_,_) trivial K3 K2
      ·refine Ol (Qr 98) fun b_9 ho8=>?_
       refine Qp (n:=8) 14 19 ?_ ?_
       ·refine Ol (Zg 5 [] (Dl _ _ (hb1 _) (hu.sz _) hyz)) fun _ _=>?_
        refine Zh (n:=0) [(15,0),(16,0),(17,0),(18,0),(19,1),(21,1),(22,1),(23,3)]<|go 4 ?_
        refine Yz (Qr 97) fun b_10 ho9=>go 4 ?_
        exact Zs<|Pr (_,_) trivial K3 K2
       ·refine Ol (Qr 97) fun b_11 ho10=>?_
        refine Zh (n:=0) [(14,1),(15,0),(16,0),(17,0),(18,0),(21,1),(22,1),(23,3)]<|Yz (Zg 5 [] (Dl _ _ (hb1 _) (hu.sz _) hyz)) fun _ _=>go 8 ?_
        exact Zs<|Pr (_,_) trivial K3 K2
     ·rintro⟨b7,b8⟩ -
      dsimp only
      refine go 7 ?_
      refine Zc J (fun h349=>?_) (fun h349=>?_)
      ·exfalso;exact h349 rfl
      ·refine go 6 ?_
       refine cl 5 [] (Km _ (Yih _)) fun _ _=>go 3 ?_
       refine Zc J (fun h352=>?_) (fun h352=>?_)
       ·have hne:¬Kp xs ys (xs.length-ys.length-j):=fun he=>h352 (by rw [Zq5 hyz (hu.sz _),(Zqq O).1 he];rfl)
        refine go 13 ?_
        have hp:¬pdv xs ys:=fun h=>by rcases h with h | h;(exact hnx h);(exact hne (h.2.1 _ O))
        exact Mi hsc _ results287 (by rw [if_neg hp]) trivial (Ns (if_neg hp) Za)
       ·have hde:Kp xs ys (xs.length-ys.length-j):=(Zqq O).2 (by have h0:=Decidable.byContradiction h352;rw [Zq5 hyz (hu.sz _)]at h0;exact Int.sign_eq_zero_iff_zero.1 h0)
        obtain⟨hb2,hb3,hb4⟩:=hb5 hde
        refine Zf (Me 97 (q:=box b7 80 (wc (dq ys (Qm xs ys j) (xs.length-ys.length-j)))) (by rw [Kh hb2]) J J)<|go 7 ?_
        refine dt (Yn (ii:=5) (i:=(xs.length-ys.length-j)) J J J J (Ys pV) Nf Ki)<|tt (Mw (i:=5) (enc:=wv) _ J J J J J J pV J hw.h) fun _ _=>go 10 ?_
        refine lp (G:=Nat) [1,8,9,10,11,12,78,79] [0,97,98,5,1,2,3] (fun i=>[(80,.int .i64 (i:Int))]) (fun i=>[(4,Oa 2 80 wv v (Zj8 ys (Qm xs ys j) (dq ys (Qm xs ys j) (xs.length-ys.length-j)) (xs.length-ys.length-j) i))]) (fun i=>i≤ys.length) (fun i=>ys.length-i) 0 O1 K1 ⟨by rw [←Zyk];rfl,trivial⟩ ?_
        rintro i hi
        have hg2:i<ys.length→(Zj8 ys (Qm xs ys j) (dq ys (Qm xs ys j) (xs.length-ys.length-j)) (xs.length-ys.length-j) i).getD ((xs.length-ys.length-j)+i) 0=cf (Qm xs ys j) ((xs.length-ys.length-j)+i):=fun h=>Ydg O
        have hl2:=Zp3 ys (Qm xs ys j) (dq ys (Qm xs ys j) (xs.length-ys.length-j)) (xs.length-ys.length-j) i
        refine go 6 ?_
        refine Zc J (fun h356=>?_) (fun h356=>?_)
        ·refine go 9 ⟨O2,O2,?_⟩
         refine Yk (Zz 6) fun b_12 _=>go 4 ?_
         refine Qe (fun x=>x=b) [(0,0),(1,0),(2,0),(3,0),(4,0),(5,0),(6,0),(7,0),(8,0),(9,0),(10,0),(11,0),(12,1),(13,1),(14,0),(15,3)]<|go 8 ⟨O,O,?_⟩
         refine Qc J J (st1 3 J (Yn (ii:=4) (i:=((xs.length-ys.length-j)+i)) J J J J (Ys pV) Nf Ki))<|go 3 ⟨O,?_⟩
         refine Ev J (Qa (n:=6) (i:=3) (Fm _ _ _ hb2 (hu.sz _) (hb3 _)) J J J K3 call191 J O3 Ya J hw.h J) (fun _ _=>?_)
         refine Ev J (Qa (n:=6) (i:=3) (Zs4 _ _ _ (by rw [hg2 O];exact hb1 _) (hb3 _) (by rw [hg2 O];exact hb4 _ _)) J J J K3 call194 J O3 Ya J hw.h J) (fun _ _=>?_)
         refine Qc J J (st1 3 J (Yn (ii:=4) (i:=((xs.length-ys.length-j)+i)) J J J J (Ys pV) Nf Ki))<|r3' J (Mw (i:=4) (enc:=wv) _ J J J J J J pV J hw.h) fun _ _=>go 7 ⟨O,?_⟩
         exact Xf (i+1) O1 O1 K1 ⟨by rw [←Ydf O,←hg2 O];rfl,trivial⟩
        ·refine go 11 ⟨O,?_⟩
         obtain rfl:i=ys.length:=O
         exact Xf (j+1) ⟨O1,fun k h1 h2=>by rcases Nat.lt_or_ge (xs.length-ys.length) (k+j)with h3 | h3;(exact hx k h3 h2);(rw [show k=xs.length-ys.length-j by omega];exact hde)⟩ O1 ⟨by rw [show(xs.length:Int)-(ys.length:Int)-((j+1:Nat):Int)=(xs.length:Int)-(ys.length:Int)-(j:Int)-1 by omega];rfl,trivial⟩ ⟨by rfl,by rw [←Ydj O];rfl,trivial⟩
    ·refine go 7 ?_
     obtain rfl:j=xs.length-ys.length+1:=O
     have hall:∀k,k≤xs.length-ys.length→Kp xs ys k:=fun k hk=>hx k O hk
     refine Zf (Qd 4 J J pV)<|go 6 ?_
     refine Yt (d:=105) J (fun s360=>?_) (fun s360=>?_)
     ·refine go 1 ?_
      refine Gy 7 [4] (Zbp _ _ (Zzn hF hall)) fun _ _=>go 5 ?_
      refine Zc J (fun h360=>?_) (fun h360=>?_)
      ·refine go 8 ?_
       have hp:¬pdv xs ys:=fun h=>by rcases h with h | h;(exact hnx h);(rw [h.2.2]at h360;simp at h360)
       exact Mi hsc _ results287 (by rw [if_neg hp]) trivial (Ns (if_neg hp) Za)
      ·refine go 3 ?_
       refine Zf (Qd 5 J J pV)<|go 2 ?_
       refine tt (Qa (n:=8) (i:=3) (Bu _ _ _ (Zt6 hF hall _)) J J J K2 call192 J O3 (Yd 5 J J J Ya) J hw.h trivial) fun _ _=>go 7 ?_
       have hp:pdv xs ys:= .inr ⟨hge,hall,List.eq_nil_of_length_eq_zero O⟩
       exact Mi hsc _ results287 (by rw [if_pos hp]<;>rfl) trivial (Ot 8 Za (by rw [if_pos hp,Zpg hnx,←Zel]<;>rfl))
     ·exfalso;exact s360 rfl
theorem Zmb(v:Value)(xs:List Int)(x y z:Int)(hv:Vp xs)(hx:bl x.natAbs≤65536)(hy:bl y.natAbs≤65536)(hz:bl z.natAbs≤65536)(hz0:0<z)(hE:¬Zjb xs x y z):Cal prog 271 #[v,wv x,wv y,wv z] [Yh 2 wv v xs] true (G:=Value) (fun r=>True) (fun r=> .tuple #[r,.int .i64 0]) (fun r=>[Yh 2 wv r (Lt xs x y z)]):=by
 refine Zd func271 ntmps271 fun w0 sc hw hsc=>?_
 have hlen:=hv.len
 refine go 2 ?_
 refine Yk (Yj 2) fun b _=>Yk (Yj 3) fun b_2 _=>Yk (Yj 4) fun b_3 _=>go 8 ?_
 refine cl 4 [1] (Xg _ _ ‹_›) fun _ _=>go 3 ?_
 refine Gy 4 [] (Ld _ ‹_›) fun _ _=>go 4 ?_
 refine Gy 4 [] (Ld _ ‹_›) fun _ _=>go 4 ?_
 refine Gy 4 [] (Ld _ ‹_›) fun _ _=>go 11 ?_
 refine cl 4 [] (Km _ hz) fun _ _=>go 3 ?_
 refine Zc J (fun h232=>?_) (fun h232=>?_)
 ·exfalso;have h2:=decide_eq_decide.1 (Ge z);omega
 ·refine go 10 ?_
  refine Zc J (fun h235=>?_) (fun h235=>?_)
  ·refine go 8 ?_
   exact Mi hsc _ results271 J trivial (Ns (by unfold Lt;rw [if_pos O]) Za)
  ·have hne:xs≠[]:=fun e=>by rw [e]at h235;simp at h235
   have hm1:=Pd hv.sz
   have hsxy:Sz 65536 [x,y,z]:=Sz.of_mem (by intro q hq;simp at hq;rcases hq with rfl | rfl | rfl<;>assumption)
   have hm2:=Pd hsxy
   have hm3:(xs.length-1)*(Qk [x,y,z]+1)≤24*65537:=Nat.mul_le_mul O O
   have hm4:((xs.length:Int)-1)*((Qk [x,y,z]:Int)+1)=(((xs.length-1)*(Qk [x,y,z]+1):Nat):Int):=by rw [Int.natCast_mul];congr 1;omega
   refine go 3 ?_
   refine jn (G:=Unit) [0,5,6,7] [0,1,2,3,4] (fun _=>[(55,.bool (decide ((65536:Int)<(Qk xs:Int)+((xs.length:Int)-1)*((Qk [x,y,z]:Int)+1)+8)))]) (fun _=>[]) (fun _=>True) ?_ ?_
   ·refine Kg (fun _=>False) []<|Zh (n:=8) [(0,0),(2,0),(3,0),(4,0),(5,0),(6,0),(7,0)]<|go 8 ⟨O,?_⟩
    refine Qp (n:=7) 1 8 ?_ ?_
    ·refine Ol (Zg 4 [1] (Ox _ _ (by first | exact hv.sz | exact hsxy))) fun _ _=>?_
     refine Zh (n:=0) [(8,1),(9,1),(10,0),(11,0),(12,0),(13,0),(14,0)]<|Ev J (Qh (i:=90) (ivs:=[(0,_),(1,_),(2,_)]) (enc:=wv) [x,y,z] J J K6 Yfm ti80 J J (fill3 _ _ _ _ _ _ _ _) J J pV.cells J J hw.h) fun v _=>Yz (Zg 4 [90] (Ox _ _ (by first | exact hv.sz | exact hsxy))) fun _ _=>go 6 ⟨O,by rw [hm4];exact⟨O,O⟩,by rw [hm4];exact⟨O,O⟩,by rw [hm4];exact⟨O,O⟩,?_⟩
     exact Zs<|Pr () trivial K1 trivial
    ·refine Cw J (Qh (i:=90) (ivs:=[(0,_),(1,_),(2,_)]) (enc:=wv) [x,y,z] J J K6 Yfm ti80 J J (fill3 _ _ _ _ _ _ _ _) J J pV.cells J J hw.h) (fun v_2 _=>?_)
     refine Zh (n:=0) [(1,1),(9,1),(10,0),(11,0),(12,0),(13,0),(14,0)]<|Yz (Zg 4 [1] (Ox _ _ (by first | exact hv.sz | exact hsxy))) fun _ _=>Yz (Zg 4 [90] (Ox _ _ (by first | exact hv.sz | exact hsxy))) fun _ _=>go 6 ⟨O,by rw [hm4];exact⟨O,O⟩,by rw [hm4];exact⟨O,O⟩,by rw [hm4];exact⟨O,O⟩,?_⟩
     exact Zs<|Pr () trivial K1 trivial
   ·rintro _ -
    refine Zc J (fun h238=>?_) (fun h238=>?_)
    ·exfalso;exact hE ⟨hne,by rw [hm4]at h238;omega⟩
    ·have hF:Qk xs+(xs.length-1)*(Qk [x,y,z]+1)+8≤65536:=by rw [hm4]at h238;omega
     refine go 4 ?_
     refine Yk (Zz 5) fun b_4 _=>go 2 ?_
     refine jn (G:=Value×Nat) [0,5,6,7,10] [0,1,2,3,4,5] (fun q=>[(11,q.1),(12,.pointer (some ⟨q.2,0,none⟩))]) (fun q=>[(70,Oa 2 80 wv q.1 (Mc xs x y z 0)),(98,box q.2 80 (wc 1))]) (fun q=>True) ?_ ?_
     ·refine Kg (fun _=>False) [9,10]<|Zh (n:=5) [(0,0),(1,0),(2,0),(3,0),(4,0),(5,0)]<|go 4 ⟨O,?_⟩
      refine Qc J J (Qy (Yn (ii:=1) (i:=(xs.length-1)) J J J J Zk Nf Ki))<|go 2 ⟨O,?_⟩
      refine Zey (n:=4) 6 7 8 ?_ ?_ ?_
      ·refine Cw J (Qh (i:=70) (ivs:=[(0,_)]) (enc:=wv) [cf xs (xs.length-1)] J J K2 Nf ti80 J J J J J pV.cells J J hw.h) (fun v_3 _=>?_)
       refine Qp (n:=3) 7 8 ?_ ?_
       ·refine Ol (Zg 5 [] (Zo _ (by first | assumption | exact⟨O,O⟩))) fun _ _=>?_
        refine Zh (n:=0) [(8,1),(9,3),(10,3)]<|Yz (Zz 98) fun b_5 _=>go 3 ?_
        exact Zs<|Pr (_,_) trivial K2 ⟨by rw [Fo];rfl,rfl,trivial⟩
       ·refine Ol (Zz 98) fun b_6 _=>?_
        refine Zh (n:=0) [(7,1),(9,3),(10,3)]<|Yz (Zg 5 [] (Zo _ (by first | assumption | exact⟨O,O⟩))) fun _ _=>go 3 ?_
        exact Zs<|Pr (_,_) trivial K2 ⟨by rw [Fo];rfl,rfl,trivial⟩
      ·refine Ol (Zg 5 [] (Zo _ (by first | assumption | exact⟨O,O⟩))) fun _ _=>?_
       refine Qp (n:=3) 6 8 ?_ ?_
       ·refine Cw J (Qh (i:=70) (ivs:=[(0,_)]) (enc:=wv) [cf xs (xs.length-1)] J J K2 Nf ti80 J J J J J pV.cells J J hw.h) (fun v_4 _=>?_)
        refine Zh (n:=0) [(8,1),(9,3),(10,3)]<|Yz (Zz 98) fun b_7 _=>go 3 ?_
        exact Zs<|Pr (_,_) trivial K2 ⟨by rw [Fo];rfl,rfl,trivial⟩
       ·refine Ol (Zz 98) fun b_8 _=>?_
        refine Zh (n:=0) [(6,1),(9,3),(10,3)]<|Ev J (Qh (i:=70) (ivs:=[(0,_)]) (enc:=wv) [cf xs (xs.length-1)] J J K2 Nf ti80 J J J J J pV.cells J J hw.h) fun v_5 _=>go 3 ?_
        exact Zs<|Pr (_,_) trivial K2 ⟨by rw [Fo];rfl,rfl,trivial⟩
      ·refine Ol (Zz 98) fun b_9 _=>?_
       refine Qp (n:=3) 6 7 ?_ ?_
       ·refine Cw J (Qh (i:=70) (ivs:=[(0,_)]) (enc:=wv) [cf xs (xs.length-1)] J J K2 Nf ti80 J J J J J pV.cells J J hw.h) (fun v_6 _=>?_)
        refine Zh (n:=0) [(7,1),(9,3),(10,3)]<|Yz (Zg 5 [] (Zo _ (by first | assumption | exact⟨O,O⟩))) fun _ _=>go 3 ?_
        exact Zs<|Pr (_,_) trivial K2 ⟨by rw [Fo];rfl,rfl,trivial⟩
       ·refine Ol (Zg 5 [] (Zo _ (by first | assumption | exact⟨O,O⟩))) fun _ _=>?_
        refine Zh (n:=0) [(6,1),(9,3),(10,3)]<|Ev J (Qh (i:=70) (ivs:=[(0,_)]) (enc:=wv) [cf xs (xs.length-1)] J J K2 Nf ti80 J J J J J pV.cells J J hw.h) fun v_7 _=>go 3 ?_
        exact Zs<|Pr (_,_) trivial K2 ⟨by rw [Fo];rfl,rfl,trivial⟩
     ·rintro⟨vo,b8⟩ -
      dsimp only
      refine go 10 ⟨O,?_⟩
      refine lp (G:=Nat×Value) [0,5,6,7,10,12] [0,1,2,3,4,5] (fun q=>[(13,.int .i64 ((xs.length:Int)-2-(q.1:Int))),(11,q.2)]) (fun q=>[(70,Oa 2 80 wv q.2 (Mc xs x y z q.1)),(98,box b8 80 (wc (z^q.1)))]) (fun q=>q.1≤xs.length-1) (fun q=>xs.length-1-q.1) (0,vo) O1 ⟨by rw [show(xs.length:Int)-2-((0:Nat):Int)=(xs.length:Int)-2 by omega];rfl,rfl,trivial⟩ ⟨J,by rw [Int.pow_zero];rfl,trivial⟩ ?_
      rintro⟨j,vo⟩ hj
      dsimp only at hj
      dsimp only
      refine go 7 ?_
      refine Zc J (fun h243=>?_) (fun h243=>?_)
      ·obtain⟨c1,c2,c3,c4,c5,c6,c7,c8,c9⟩:=cp_all hF (j:=j) O
       have hcl:=Zay xs x y z j
       refine go 8 ?_
       refine tt (Qa (n:=5) (i:=5) (Fm _ _ _ c1 hz (by rw [←Int.pow_succ];exact c2)) J J J K3 call191 J O3 Ya J hw.h trivial) fun _ _=>go 8 ⟨O,?_⟩
       refine tt (Hm (i:=71) (n:=((Mc xs x y z j).length+1)) (by_:=24) (enc:=wv) 0 J J J J Nf ti80 J pV.cells pV.pos J J J hw.h) fun v_8 _=>go 12 ?_
       refine lp (G:=Nat) [0,5,6,7,10,12,13,14,78,79] [0,70,98,1,2,3,4,5] (fun i=>[(80,.int .i64 (i:Int))]) (fun i=>[(71,Oa 2 80 wv v_8 (cnx (Mc xs x y z j) x y i))]) (fun i=>i≤(Mc xs x y z j).length) (fun i=>(Mc xs x y z j).length-i) 0 O1 K1 ⟨by rw [Yd7];rfl,trivial⟩ ?_
       rintro i hi
       have hg1:i<(Mc xs x y z j).length→(cnx (Mc xs x y z j) x y i).getD i 0=if i=0 then 0 else cf (Mc xs x y z j) (i-1)*y:=fun h=>Zwc h
       have hl1:=Ib (Mc xs x y z j) x y i
       refine go 6 ?_
       refine Zc J (fun h247=>?_) (fun h247=>?_)
       ·refine go 9 ⟨O2,O2,?_⟩
        refine Yk (Zz 6) fun b_10 _=>go 5 ?_
        refine Qe (fun x=>x=b_4) [(0,0),(1,0),(2,0),(3,0),(4,0),(5,0),(6,0),(7,0),(8,1),(9,1),(10,0),(11,3)]<|go 4 ?_
        refine Qc J J (st1 5 J (Yn (ii:=71) (i:=i) J J J J (Ys pV) Nf Ki J))<|go 3 ⟨O,?_⟩
        refine Ev J (Qa (n:=6) (i:=5) (Fm _ _ _ (c3 _) hx (c4 _)) J J J K3 call191 J O3 Ya J hw.h J) (fun _ _=>?_)
        refine Ev J (Qa (n:=6) (i:=5) (Zi7 _ _ _ (by rw [hg1 O];exact c6 i) (c4 _) (by rw [hg1 O];exact c7 i)) J J J K3 call196 J O3 Ya J hw.h J) (fun _ _=>?_)
        refine Qc J J (st1 5 J (Yn (ii:=71) (i:=i) J J J J (Ys pV) Nf Ki J))<|r3' J (Mw (i:=71) (enc:=wv) _ J J J J J J pV J hw.h) fun _ _=>go 8 ⟨O,?_⟩
        refine tt (Qa (n:=6) (i:=5) (Fm _ _ _ (c3 _) hy (c5 _)) J J J K3 call191 J O3 Ya J hw.h trivial) (fun _ _=>?_)
        refine dt (Yn (ii:=71) (i:=(i+1)) J J J J (Ys pV) Nf Ki O (by rw [List.length_set];omega))<|tt (Mw (i:=71) (enc:=wv) _ J J J J J J pV J hw.h O3 (by rw [List.length_set];omega)) fun _ _=>go 7 ⟨O,?_⟩
        exact Xf (i+1) O1 O1 K1 ⟨by rw [←Yh8 O];rfl,trivial⟩
       ·refine go 6 ?_
        obtain rfl:i=(Mc xs x y z j).length:=O
        have hg0:(cnx (Mc xs x y z j) x y (Mc xs x y z j).length).getD 0 0=cf (Mc xs x y z j) 0*x:=Zq2 O
        refine Qe (fun x=>x=b_4) [(0,0),(1,0),(2,0),(3,0),(4,0),(5,0),(6,0),(7,0),(8,0),(9,1),(10,1),(11,0),(12,3)]<|go 6 ⟨O,O,?_⟩
        refine Qc J J (st1 5 J (Yn (ii:=1) (i:=(xs.length-2-j)) J J J J Zk Nf Ki))<|go 2 ⟨O,?_⟩
        refine Ev J (Qa (n:=6) (i:=5) (Fm _ _ _ (hv.sz _) (by rw [←Int.pow_succ];exact c2) (by rw [←Int.pow_succ];exact c8)) J J J K3 call191 J O3 Ya J hw.h J) (fun _ _=>?_)
        refine Ev J (Qa (n:=6) (i:=5) (Zi7 _ _ _ (by rw [hg0];exact c4 0) (by rw [←Int.pow_succ];exact c8) (by rw [hg0,←Int.pow_succ];exact c9)) J J J K3 call196 J O3 Ya J hw.h J) fun _ _=>go 1 ⟨O,?_⟩
        refine r3' J (Mw (i:=71) (enc:=wv) _ J J J J J J pV J hw.h) fun _ _=>go 13 ⟨O,?_⟩
        exact Yg (s_move 71 70 J J J J)<|Xf (j+1,_) O1 O1 ⟨by rw [show(xs.length:Int)-2-((j+1:Nat):Int)=(xs.length:Int)-2-(j:Int)-1 by omega];rfl,rfl,trivial⟩ ⟨by rw [Yh9 O];simp only [←Int.pow_succ];rfl,by rw [Int.pow_succ];rfl,trivial⟩
      ·refine go 6 ?_
       obtain rfl:j=xs.length-1:=O
       refine Zf (Qd 70 J J pV)<|go 2 ?_
       refine tt (Qa (n:=7) (i:=5) (Bu _ _ _ (Yh6 hF)) J J J K2 call192 J O3 (Yd 70 J J J Ya) J hw.h trivial) fun _ _=>go 7 ?_
       exact Mi hsc _ results271 J trivial (Ot 7 Za (by unfold Lt;rw [if_neg O]<;>rfl))
theorem Zpk(v u:Value)(xs ys:List Int)(hv:Vp xs)(hu:Vp ys)(F:Nat)(hg:¬Zk6 xs ys)(hok:eok F (gA xs ys) (gB xs ys)):Cal prog 286 #[v,u] [Yh 2 wv v xs,Yh 2 wv u ys] true (G:=Value) (fun r=>True) (fun r=> .tuple #[r,.int .i64 0]) (fun r=>[Yh 2 wv r (Ni F xs ys)]):=by
 refine Zd func286 ntmps286 fun w0 sc hw hsc=>?_
 have hlen:=hv.len
 have hlen2:=hu.len
 have hm1:=Pd hv.sz
 have hm2:=Pd hu.sz
 have hpx:=Zr xs
 have hpy:=Zr ys
 have hN2:(max xs.length ys.length+2)*(max xs.length ys.length+2)≤27*27:=Nat.mul_le_mul O O
 have hN3:(max xs.length ys.length+2)*(max xs.length ys.length+2)*(max (Qk xs) (Qk ys)+8)≤27*27*65544:=Nat.mul_le_mul hN2 O
 have hN4:(max (xs.length:Int) (ys.length:Int)+2)*(max (xs.length:Int) (ys.length:Int)+2)=(((max xs.length ys.length+2)*(max xs.length ys.length+2):Nat):Int):=by rw [Int.natCast_mul,show(((max xs.length ys.length+2):Nat):Int)=(max (xs.length:Int) (ys.length:Int)+2) by omega]
 have hN5:(max (xs.length:Int) (ys.length:Int)+2)*(max (xs.length:Int) (ys.length:Int)+2)*(max (Qk xs:Int) (Qk ys:Int)+8)=(((max xs.length ys.length+2)*(max xs.length ys.length+2)*(max (Qk xs) (Qk ys)+8):Nat):Int):=by rw [hN4,Int.natCast_mul ((max xs.length ys.length+2)*(max xs.length ys.length+2)),show((max (Qk xs) (Qk ys)+8:Nat):Int)=max (Qk xs:Int) (Qk ys:Int)+8 by omega]
 refine go 10 ?_
 refine cl 2 [1] (Xg _ _ ‹_›) fun _ _=>go 3 ?_
 refine Gy 2 [2] (Xg _ _ ‹_›) fun _ _=>go 14 ?_
 refine dt (Zf8 J J J)<|go 4 ⟨O,?_⟩
 refine jn (G:=Unit) [0,1] [0,1,2] (fun _=>[(46,.bool (decide (Zk6 xs ys)))]) (fun _=>[]) (fun _=>True) ?_ ?_
 ·refine go 5 ?_
  refine Yt (d:=29) J (fun s371=>?_) (fun s371=>?_)
  ·refine go 5 ?_
   refine Yt (d:=34) J (fun s371_2=>?_) (fun s371_2=>?_)
   ·refine go 4 ⟨by rw [hN4];exact⟨O,O⟩,?_⟩
    refine Gy 2 [1] (Ox _ _ (by first | exact hv.sz | exact hu.sz)) fun _ _=>go 1 ?_
    refine Gy 2 [2] (Ox _ _ (by first | exact hv.sz | exact hu.sz)) fun _ _=>?_
    refine Ej (Zf8 J J J) J J<|go 5 ⟨O,by rw [hN5];exact⟨O,O⟩,?_⟩
    exact Pr () trivial ⟨by first | (rw [hN5];exact congrArg some (vB (decide_eq_decide.2 ⟨fun h=>⟨O,O,O⟩,fun h=>by have:=h.2.2;omega⟩))) | exact congrArg some (vB (decide_eq_false (fun h=>by have h1:=h.1;have h2:=h.2.1;omega)).symm),trivial⟩ trivial
   ·refine go 13 ?_
    exact Pr () trivial ⟨by first | (rw [hN5];exact congrArg some (vB (decide_eq_decide.2 ⟨fun h=>⟨O,O,O⟩,fun h=>by have:=h.2.2;omega⟩))) | exact congrArg some (vB (decide_eq_false (fun h=>by have h1:=h.1;have h2:=h.2.1;omega)).symm),trivial⟩ trivial
  ·refine go 18 ?_
   exact Pr () trivial ⟨by first | (rw [hN5];exact congrArg some (vB (decide_eq_decide.2 ⟨fun h=>⟨O,O,O⟩,fun h=>by have:=h.2.2;omega⟩))) | exact congrArg some (vB (decide_eq_false (fun h=>by have h1:=h.1;have h2:=h.2.1;omega)).symm),trivial⟩ trivial
 ·rintro _ -
  refine Zc J (fun h371=>?_) (fun h371=>?_)
  ·exfalso;exact hg h371
  ·refine go 5 ?_
   refine cl 3 [1] (Nh _ _ hv) fun _ _=>go 14 ?_
   refine Zc J (fun h375=>?_) (fun h375=>?_)
   ·exfalso;exact h375 rfl
   ·refine go 5 ?_
    refine cl 4 [2] (Nh _ _ hu) fun _ _=>go 14 ?_
    refine Zc J (fun h379=>?_) (fun h379=>?_)
    ·exfalso;exact h379 rfl
    ·refine go 2 ?_
     refine jn (G:=Value×Value) [] [0,1,2,3,4] (fun q=>[(7,q.1),(9,q.2)]) (fun q=>[(80,Yh 2 wv q.1 (gA xs ys)),(81,Yh 2 wv q.2 (gB xs ys))]) (fun q=>True) ?_ ?_
     ·refine go 9 ?_
      refine Zc J (fun h382=>?_) (fun h382=>?_)
      ·refine go 6 ?_
       exact Yg (Pj 4 80 J J J)<|Yg (Pj 3 81 J J J)<|Pr (_,_) trivial K2 ⟨by unfold gA;first | rw [if_pos O];rfl | rw [if_neg O];rfl,by unfold gB;first | rw [if_pos O];rfl | rw [if_neg O];rfl,trivial⟩
      ·refine go 1 ?_
       exact Yg (Pj 3 80 J J J)<|Yg (Pj 4 81 J J J)<|Pr (_,_) trivial K2 ⟨by unfold gA;first | rw [if_pos O];rfl | rw [if_neg O];rfl,by unfold gB;first | rw [if_pos O];rfl | rw [if_neg O];rfl,trivial⟩
     ·rintro⟨va,vb⟩ -
      dsimp only
      refine go 2 ?_
      refine lp (G:=Value×Value×List Int×List Int×Nat) [] [0,1,2,3,4] (fun q=>[(7,q.1),(9,q.2.1)]) (fun q=>[(80,Yh 2 wv q.1 q.2.2.1),(81,Yh 2 wv q.2.1 q.2.2.2.1)]) (fun q=>(Vp q.2.2.1)∧(Vp q.2.2.2.1)∧(eok q.2.2.2.2 q.2.2.1 q.2.2.2.1)∧(eu q.2.2.2.2 q.2.2.1 q.2.2.2.1=eu F (gA xs ys) (gB xs ys))) (fun q=>q.2.2.2.2) (va,vb,gA xs ys,gB xs ys,F) ⟨vp_gA hv hu,vp_gB hv hu,hok,J⟩ K2 K2 ?_
      rintro⟨va,vb,a,b,f⟩ ⟨hva,hvb,hok0,heu⟩
      dsimp only at hva hvb hok0 heu
      dsimp only
      refine go 8 ?_
      refine Zc J (fun h385=>?_) (fun h385=>?_)
      ·have hbn:b≠[]:=fun e=>by rw [e]at h385;simp at h385
       obtain⟨f1,rfl,hde,hok1,heu1⟩:=Ydb hok0 hbn
       refine go 7 ?_
       refine cl 5 [80,81] (Zky _ _ _ _ hva hvb hde) fun _ _=>go 14 ?_
       refine Zc J (fun h387=>?_) (fun h387=>?_)
       ·exfalso;exact h387 rfl
       ·refine go 6 ?_
        refine cl 6 [5] (Nh _ _ (Zai hva hde)) fun _ _=>go 13 ?_
        refine Zc J (fun h390=>?_) (fun h390=>?_)
        ·exfalso;exact h390 rfl
        ·refine go 9 ?_
         exact Yg (Pj 81 80 J J J)<|Yg (Pj 6 81 J J J)<|Xf (_,_,b,Zt (Xy a b),f1) ⟨hvb,Kj (Zai hva hde),hok1,by rw [←heu1];exact heu⟩ (Nat.lt_succ_self f1) K2 K2
      ·obtain rfl:b=[]:=List.eq_nil_of_length_eq_zero O
       rw [Zfl]at heu
       have hal:=hva.len
       refine go 12 ?_
       refine Yt (d:=95) J (fun s395=>?_) (fun s395=>?_)
       ·refine go 4 ⟨O,?_⟩
        refine Ej (Yn (ii:=80) (i:=(a.length-1)) J J J J Zk Nf Ki) J J<|go 1 ⟨O,?_⟩
        refine Gy 6 [] (Km _ (hva.sz _)) fun _ _=>go 4 ?_
        refine Zc J (fun h395=>?_) (fun h395=>?_)
        ·have hneg:a.length≠0∧cf a (a.length-1)<0:=⟨O,(Pg _).1 h395⟩
         refine go 3 ?_
         refine cl 6 [] (Zo (-1) (by first | assumption | exact⟨O,O⟩)) fun _ _=>cl 7 [80] (Mm _ _ (-1) hva O3 (Zaa hva.sz)) fun _ _=>go 8 ?_
         exact Mi hsc _ results286 J trivial (Ot 7 Za (by unfold Ni Ic;rw [←heu,if_pos hneg]<;>rfl))
        ·refine go 10 ?_
         have hneg:¬(a.length≠0∧cf a (a.length-1)<0):=fun h=>by first | omega | exact absurd ((Pg (cf a (a.length-1))).2 h.2) ‹_›
         exact Mi hsc _ results286 J trivial (Ot 80 Za (by unfold Ni Ic;rw [←heu,if_neg hneg]<;>rfl))
       ·refine go 22 ?_
        have hneg:¬(a.length≠0∧cf a (a.length-1)<0):=fun h=>by first | omega | exact absurd ((Pg (cf a (a.length-1))).2 h.2) ‹_›
        exact Mi hsc _ results286 J trivial (Ot 80 Za (by unfold Ni Ic;rw [←heu,if_neg hneg]<;>rfl))
theorem Zd1(v:Value)(l:List Int)(hl:∀x∈l,Xx x)(hlen:l.length≤1000:=by decide):Cal prog 135 #[v] [Yh 1 Zx v l] true (G:=Value) (fun r=>True) (fun r=> .tuple #[r,.int .i64 (if 25<(tzl l).length then 7 else 0)]) (fun r=>[Yh 2 wv r (if 25<(tzl l).length then []else tzl l)]):=by
 refine Zd func135 ntmps135 fun w0 sc hw hsc=>?_
 have hsz:=Zgo hl
 refine go 20 ?_
 refine Zf (Pm 70 2 80 wv)<|lp (G:=Nat×Value) [7,8] [0,1] (fun q=>[(9,.int .i64 (q.1:Int)),(4,q.2)]) (fun q=>[(70,Oa 2 80 wv q.2 (l.take q.1))]) (fun q=>q.1≤l.length) (fun q=>l.length-q.1) (0,.slice none 0 0) O1 K2 K1 ?_
 rintro⟨k,vo⟩ hk
 dsimp only at hk
 dsimp only
 have hlk:(l.take k).length=k:=by rw [List.length_take];omega
 refine go 6 ?_
 refine Zc J (fun h62=>?_) (fun h62=>?_)
 ·refine go 14 ⟨O2,O2,?_⟩
  refine cl 1 [] (Zo _ (hl _ (Zj))) fun _ _=>?_
  refine tt (Qh (i:=2) (ivs:=[(0,_)]) (enc:=wv) [l.getD k 0] J J K2 Nf ti80 J J J J J pV.cells J J hw.h) (fun v _=>?_)
  refine tt (Nz (i:=70) (j:=2) (by_:=24) J J J J J J O3 J (Ys pV) Nf ti80 J pV J J J O8 O3 J hw.h) fun v_2 _=>go 8 ⟨O,?_⟩
  exact Xf (k+1,_) O1 O1 K2 ⟨by rw [Po 0 _ _ O];rfl,trivial⟩
 ·refine go 6 ?_
  obtain rfl:k=l.length:=O
  rw [List.take_length]
  refine Zf (Qd 70 J J pV)<|go 2 ?_
  refine cl 3 [70] (Zbp _ _ hsz) fun _ _=>go 11 ?_
  refine Zc J (fun h66=>?_) (fun h66=>?_)
  ·refine go 8 ?_
   have h25:25<(tzl l).length:=O
   exact Mi hsc _ results135 (by rw [if_pos h25]) trivial (Ns (if_pos h25) Za)
  ·refine go 10 ?_
   have h25:¬25<(tzl l).length:=O
   exact Mi hsc _ results135 (by rw [if_neg h25]<;>rfl) trivial (Ot 3 Za (by rw [if_neg h25]<;>rfl))
theorem r_trim(v:Value)(xs:List Nat):Cal prog 118 #[v] [Yh 1 Ks v xs] true (G:=Unit) (fun _=>True) (fun _=>Le v (tz xs).length) (fun _=>[Yh 1 Ks (Le v (tz xs).length) (tz xs)]):=by
 refine Zd func118 ntmps118 fun w0 sc hw hsc=>?_
 refine Nw (Zsx (i:=1) J Zk) (fun hself=>?_)
 refine Nw (Gp (i:=1) J Zk) fun hlen=>go 7 ?_
 refine lp (G:=Nat) [] [0] (fun k=>[(0,Le v k)]) (fun k=>[(1,Yh 1 Ks (Le v k) (xs.take k))]) (fun k=>(k≤xs.length)∧(tz (xs.take k)=tz xs)) (fun k=>k) xs.length ⟨Nat.le_refl _,by rw [List.take_length]⟩ ⟨by rw [hself];rfl,trivial⟩ ⟨by rw [hself,List.take_length];rfl,trivial⟩ ?_
 rintro k ⟨hk,ht⟩
 have hl:(xs.take k).length=k:=by rw [List.length_take];omega
 refine go 7 ?_
 refine Yt (d:=6) J (fun s33=>?_) (fun s33=>?_)
 ·refine go 4 ⟨O,?_⟩
  refine Ej (Yn (ii:=1) (i:=k-1) J J J J Zk Ec zT3) J J<|go 5 ⟨O,?_⟩
  refine Zc J (fun h33=>?_) (fun h33=>?_)
  ·have hstep:=Zt2 hk O (by omega:(xs.take k).getD (k-1) 0=0)
   refine go 8 ⟨O,?_⟩
   refine dt (Zv2 (ii:=1) (i:=k-1) J J J J Zk Ec zT3)<|go 3 ?_
   exact Yg (Yal 1 1 (k-1) J J)<|Xf (k-1) ⟨O1,by rw [←ht,←hstep]⟩ O1 ⟨by rw [←Hr v k (k-1)];rfl,trivial⟩ ⟨by rw [Hr,List.take_take,Nat.min_eq_left O];rfl,trivial⟩
  ·refine go 12 ?_
   have hx:tz xs=xs.take k:=by rw [←ht];exact Zdi hk O
   exact Xn hsc () results118 (by rw [hx,hl]) trivial (Ot 1 Za (by rw [hx,hl]))
 ·refine go 23 ?_
  have hx:tz xs=xs.take k:=by rw [←ht];exact Zdi hk O
  exact Xn hsc () results118 (by rw [hx,hl]) trivial (Ot 1 Za (by rw [hx,hl]))
theorem Hh(v:Value)(xs:List Nat):Cal prog 118 #[v] [Yh 1 Ks v xs] false (G:=Unit) (fun _=>True) (fun _=>Le v (tz xs).length) (fun _=>[]):=(r_trim v xs).bare
theorem Zl1(v w:Value)(x y:Nat)(hx:bl x≤4294967296:=by omega)(hy:bl y≤4294967296:=by omega):Om prog 128 #[v,w] [Iu v x,Iu w y] (.int .i64 (Zgj x y)):=by
 refine Zd func128 ntmps128 fun w0 sc hw hsc=>?_
 have hX:=Kf x
 have hY:=Kf y
 refine go 15 ?_
 refine Zc J (fun h41=>?_) (fun h41=>?_)
 ·refine go 10 ?_
  refine Zc J (fun h42=>?_) (fun h42=>?_)
  ·have hlt:x<y:=Bt Qo O
   refine go 8 ?_
   exact Xn hsc () results128 (by unfold Zgj;rw [if_pos hlt]) trivial Za
  ·have hlt:y<x:=Bt Qo O
   refine go 9 ?_
   exact Xn hsc () results128 (by unfold Zgj;rw [if_neg O,if_pos hlt]) trivial Za
 ·have hlen:(dg 1000000000 x).length=(dg 1000000000 y).length:=O
  refine go 12 ⟨O,?_⟩
  refine lp (G:=Nat) [0,1] [0,1,2] (fun k=>[(5,.int .i64 ((k:Int)-1))]) (fun k=>[]) (fun k=>(k≤(dg 1000000000 x).length)∧((dg 1000000000 x).drop k=(dg 1000000000 y).drop k)) (fun k=>k) (dg 1000000000 x).length ⟨O1,by rw [List.drop_length,hlen,List.drop_length]⟩ K1 trivial ?_
  rintro k ⟨hk,hd⟩
  refine go 7 ?_
  refine Zc J (fun h47=>?_) (fun h47=>?_)
  ·refine go 6 ?_
   refine Qe (fun _=>False) [(0,0),(1,0),(2,0),(3,0),(4,0),(5,0),(6,0),(7,0),(8,0)]<|go 2 ?_
   refine Qc J J (Qy (Yn (ii:=1) (i:=k-1) J J J J Zk Ec zT3))<|go 3 ⟨O2,?_⟩
   refine Qc J J (Qy (Yn (ii:=2) (i:=k-1) J J J J Zk Ec zT3))<|go 4 ⟨O2,?_⟩
   refine Zc J (fun h48=>?_) (fun h48=>?_)
   ·have hlt:=Znq Kb (xs:=(dg 1000000000 x)) (ys:=(dg 1000000000 y)) (Ok Qo x) (k:=k-1) O O (by rw [show k-1+1=k by omega];exact hd) O
    rw [Nd Qo,Nd Qo]at hlt
    refine go 12 ?_
    exact Xn hsc () results128 (by unfold Zgj;rw [if_pos hlt]) trivial Za
   ·refine go 3 ?_
    refine Qe (fun _=>False) [(0,0),(1,0),(2,0),(3,0),(4,0),(5,0),(6,0),(7,0),(8,0)]<|go 2 ?_
    refine Qc J J (Qy (Yn (ii:=1) (i:=k-1) J J J J Zk Ec zT3))<|go 3 ⟨O2,?_⟩
    refine Qc J J (Qy (Yn (ii:=2) (i:=k-1) J J J J Zk Ec zT3))<|go 4 ⟨O2,?_⟩
    refine Zc J (fun h51=>?_) (fun h51=>?_)
    ·have hlt:=Znq Kb (xs:=(dg 1000000000 y)) (ys:=(dg 1000000000 x)) (Ok Qo y) (k:=k-1) O O (by rw [show k-1+1=k by omega];exact hd.symm) O
     rw [Nd Qo,Nd Qo]at hlt
     refine go 11 ?_
     exact Xn hsc () results128 (by unfold Zgj;rw [if_neg O,if_pos hlt]) trivial Za
    ·refine go 8 ⟨O,?_⟩
     exact Xf (k-1) ⟨O1,by have:=Zej (xs:=(dg 1000000000 x)) (ys:=(dg 1000000000 y)) (k:=k-1) O O (by rw [show k-1+1=k by omega];exact hd) O;exact this⟩ O1 ⟨by rw [show(((k-1:Nat):Int)-1)=(k:Int)-1-1 by omega];rfl,trivial⟩ trivial
  ·refine go 11 ?_
   obtain rfl:k=0:=O
   have heq:x=y:=(Zfn Qo).1 (by simpa using hd)
   exact Xn hsc () results128 (by unfold Zgj;rw [if_neg O,if_neg O]) trivial Za
theorem r_plus(v w:Value)(x y:Nat)(hx:bl x≤4294967296)(hy:bl y≤4294967296):Cal prog 127 #[v,w] [Iu v x,Iu w y] false (G:=Value) (fun r=>True) (fun r=>r) (fun r=>[Iu r (x+y)]):=by
 refine Zd func127 ntmps127 fun w0 sc hw hsc=>?_
 have hX:=Kf x
 have hY:=Kf y
 refine go 22 ?_
 refine Zf (Pm 70 1 3 Ks)<|lp (G:=Nat×List Nat×Nat×Value) [0,1] [0,1,2] (fun q=>[(7,.int .i64 (q.1:Int)),(6,.int .i64 (q.2.2.1:Int)),(5,q.2.2.2)]) (fun q=>[(70,Oa 1 3 Ks q.2.2.2 q.2.1)]) (fun q=>(q.1≤max (dg 1000000000 x).length (dg 1000000000 y).length+1∧(q.1=max (dg 1000000000 x).length (dg 1000000000 y).length+1→q.2.2.1=0))∧(q.2.1.length=q.1)∧(∀d∈q.2.1,d<1000000000)∧(q.2.2.1≤1)∧(Ye 1000000000 q.2.1+q.2.2.1*1000000000^q.1=Ye 1000000000 ((dg 1000000000 x).take q.1)+Ye 1000000000 ((dg 1000000000 y).take q.1))∧(q.1=0∨1000000000^(q.1-1)≤x+y)) (fun q=>max (dg 1000000000 x).length (dg 1000000000 y).length+1-q.1) (0,[],0,.slice none 0 0) ⟨⟨O,O⟩,J,O7,O1,by simp [Ye],.inl rfl⟩ K3 K1 ?_
 rintro⟨i,o,c,vo⟩ ⟨hi,hol,hoa,hc,hv,hge⟩
 dsimp only at hi hol hoa hc hv hge
 dsimp only
 refine go 1 ?_
 refine jn (G:=Unit) [0,1,5,6,7] [0,70,1,2] (fun _=>[(21,.bool (decide (i<(dg 1000000000 x).length∨i<(dg 1000000000 y).length∨0<c)))]) (fun _=>[]) (fun _=>True) ?_ ?_
 ·refine go 6 ?_
  refine Yt (d:=12) J (fun s62=>?_) (fun s62=>?_)
  ·refine go 10 ?_
   exact Pr () trivial ⟨by first | exact congrArg some (vB (decide_eq_decide.2 O)) | exact congrArg some (vB (decide_eq_true O).symm),trivial⟩ trivial
  ·refine go 6 ?_
   refine Yt (d:=18) J (fun s62_2=>?_) (fun s62_2=>?_)
   ·refine go 4 ?_
    exact Pr () trivial ⟨by first | exact congrArg some (vB (decide_eq_decide.2 O)) | exact congrArg some (vB (decide_eq_true O).symm),trivial⟩ trivial
   ·refine go 4 ?_
    exact Pr () trivial ⟨by first | exact congrArg some (vB (decide_eq_decide.2 O)) | exact congrArg some (vB (decide_eq_true O).symm),trivial⟩ trivial
 ·rintro _ -
  refine Zc J (fun h62=>?_) (fun h62=>?_)
  ·have hgn:1000000000^i≤x+y:=by
    rcases h62 with h1 | h1 | h1
    ·have:=Bl Qo h1;omega
    ·have:=Bl Qo h1;omega
    ·by_cases h2:i<(dg 1000000000 x).length
     ·have:=Bl Qo h2;omega
     ·by_cases h3:i<(dg 1000000000 y).length
      ·have:=Bl Qo h3;omega
      ·rw [Hl Qo O,Hl Qo O]at hv
       have:1000000000^i≤c*1000000000^i:=Nat.le_mul_of_pos_left _ h1
       omega
   refine go 4 ?_
   refine jn (G:=Unit) [0,1,5,7] [0,70,1,2] (fun _=>[(6,.int .i64 ((c+(dg 1000000000 x).getD i 0:Nat):Int))]) (fun _=>[]) (fun _=>True) ?_ ?_
   ·refine go 8 ?_
    refine Zc J (fun h63=>?_) (fun h63=>?_)
    ·refine go 6 ⟨O2,O2,?_⟩
     refine dt (Zea J J J (by have h1:=(Xh Kb (Ok Qo x) i);omega))<|go 2 ?_
     try (have hz:(dg 1000000000 x).getD i 0=0:=by simp [List.getD,List.getElem?_eq_none (by omega:(dg 1000000000 x).length≤i)])
     exact Pr () trivial ⟨by first | rfl | (rw [hz];rfl),trivial⟩ trivial
    ·refine go 1 ?_
     try (have hz:(dg 1000000000 x).getD i 0=0:=by simp [List.getD,List.getElem?_eq_none (by omega:(dg 1000000000 x).length≤i)])
     exact Pr () trivial ⟨by first | rfl | (rw [hz];rfl),trivial⟩ trivial
   ·rintro _ -
    refine jn (G:=Unit) [0,1,5,7] [0,70,1,2] (fun _=>[(6,.int .i64 ((c+(dg 1000000000 x).getD i 0+(dg 1000000000 y).getD i 0:Nat):Int))]) (fun _=>[]) (fun _=>True) ?_ ?_
    ·refine go 8 ?_
     refine Zc J (fun h66=>?_) (fun h66=>?_)
     ·refine go 6 ⟨O2,O2,?_⟩
      refine dt (Zea J J J (by have h1:=(Xh Kb (Ok Qo x) i);have h2:=(Xh Kb (Ok Qo y) i);omega))<|go 2 ?_
      try (have hz:(dg 1000000000 y).getD i 0=0:=by simp [List.getD,List.getElem?_eq_none (by omega:(dg 1000000000 y).length≤i)])
      exact Pr () trivial ⟨by first | rfl | (rw [hz];rfl),trivial⟩ trivial
     ·refine go 1 ?_
      try (have hz:(dg 1000000000 y).getD i 0=0:=by simp [List.getD,List.getElem?_eq_none (by omega:(dg 1000000000 y).length≤i)])
      exact Pr () trivial ⟨by first | rfl | (rw [hz];rfl),trivial⟩ trivial
    ·rintro _ -
     refine go 4 ?_
     refine dt (Zpu (n:=1000000000) J J J O)<|tt (Qh (i:=3) (ivs:=[(0,_)]) (enc:=Ks) [(c+(dg 1000000000 x).getD i 0+(dg 1000000000 y).getD i 0)%1000000000] J J K2 Ec ti3 J J J J J pN.cells J J hw.h) (fun v _=>?_)
     refine tt (Nz (i:=70) (j:=3) (by_:=8) J J J J J J O3 J (Ys pN) Ec ti3 J pN J J J O8 O3 J hw.h) fun v_2 _=>go 5 ?_
     refine dt (Zie (n:=1000000000) J J J (by have h1:=(Xh Kb (Ok Qo x) i);have h2:=(Xh Kb (Ok Qo y) i);omega) O)<|go 9 ⟨O,?_⟩
     exact Xf (i+1,o ++ [(c+(dg 1000000000 x).getD i 0+(dg 1000000000 y).getD i 0)%1000000000],(c+(dg 1000000000 x).getD i 0+(dg 1000000000 y).getD i 0)/1000000000,_) ⟨⟨O11,fun h=>by dsimp only at h ⊢;rw [Za5 (by omega:(dg 1000000000 x).length≤i),Za5 (by omega:(dg 1000000000 y).length≤i)];omega⟩,by simp [hol],Zjt hoa (Nat.mod_lt _ Kb),by have h1:=(Xh Kb (Ok Qo x) i);have h2:=(Xh Kb (Ok Qo y) i);dsimp only;omega,Zxv hol hv,.inr hgn⟩ O1 K3 K1
  ·refine go 12 ?_
   have hc0:c=0:=O
   have hv2:Ye 1000000000 o=x+y:=by
    rw [Hl Qo O,Hl Qo O,hc0,Nat.zero_mul,Nat.add_zero]at hv
    exact hv
   have hx:o=dg 1000000000 (x+y):=Zt3 Qo hoa hv2 (by rw [hol];exact hge)
   exact Xn hsc _ results127 J trivial (gow 70 Za (by rw [←hx]<;>rfl))
theorem Zl2(v w:Value)(x y:Nat)(hxy:y≤x)(hx:bl x≤4294967296:=by omega):Cal prog 129 #[v,w] [Iu v x,Iu w y] false (G:=Value) (fun r=>True) (fun r=>r) (fun r=>[Iu r (x-y)]):=by
 refine Zd func129 ntmps129 fun w0 sc hw hsc=>?_
 have hX:=Kf x
 have hm:=Pn hxy
 have hY:=Kf y
 have hly:(dg 1000000000 y).length≤(dg 1000000000 x).length:=Zqp Qo hxy
 refine go 22 ?_
 refine Zf (Pm 70 1 3 Ks)<|lp (G:=Nat×List Nat×Nat×Value) [0,1] [0,1,2] (fun q=>[(7,.int .i64 (q.1:Int)),(6,.int .i64 (q.2.2.1:Int)),(5,q.2.2.2)]) (fun q=>[(70,Oa 1 3 Ks q.2.2.2 q.2.1)]) (fun q=>(q.1≤(dg 1000000000 x).length)∧(q.2.1.length=q.1)∧(∀d∈q.2.1,d<1000000000)∧(q.2.2.1≤1)∧(Ye 1000000000 q.2.1+Ye 1000000000 ((dg 1000000000 y).take q.1)=Ye 1000000000 ((dg 1000000000 x).take q.1)+q.2.2.1*1000000000^q.1)) (fun q=>(dg 1000000000 x).length-q.1) (0,[],0,.slice none 0 0) ⟨O1,rfl,O7,O1,by simp [Ye]⟩ K3 K1 ?_
 rintro⟨i,o,c,vo⟩ ⟨hi,hol,hoa,hc,hv⟩
 dsimp only at hi hol hoa hc hv
 dsimp only
 have hda:=(Xh Kb (Ok Qo x) i)
 have hdb:=(Xh Kb (Ok Qo y) i)
 refine go 9 ?_
 refine Zc J (fun h79=>?_) (fun h79=>?_)
 ·refine go 15 ⟨O2,O2,O,?_⟩
  refine jn (G:=Unit) [0,1,5,7] [0,70,1,2] (fun _=>[(8,.int .i64 (((dg 1000000000 x).getD i 0:Int)-(c:Int)-((dg 1000000000 y).getD i 0:Int)))]) (fun _=>[]) (fun _=>True) ?_ ?_
  ·refine go 8 ?_
   refine Zc J (fun h81=>?_) (fun h81=>?_)
   ·refine go 9 ⟨O2,O2,O,?_⟩
    try (have hz:(dg 1000000000 y).getD i 0=0:=by simp [List.getD,List.getElem?_eq_none (by omega:(dg 1000000000 y).length≤i)])
    exact Pr () trivial ⟨by first | rfl | (rw [hz];exact congrArg some (Za0 O)),trivial⟩ trivial
   ·refine go 1 ?_
    try (have hz:(dg 1000000000 y).getD i 0=0:=by simp [List.getD,List.getElem?_eq_none (by omega:(dg 1000000000 y).length≤i)])
    exact Pr () trivial ⟨by first | rfl | (rw [hz];exact congrArg some (Za0 O)),trivial⟩ trivial
  ·rintro _ -
   refine go 5 ?_
   refine jn (G:=Unit) [0,1,5,7] [0,70,1,2] (fun _=>[(8,.int .i64 ((d9s ((dg 1000000000 x).getD i 0) ((dg 1000000000 y).getD i 0) c:Nat):Int)),(6,.int .i64 ((brw ((dg 1000000000 x).getD i 0) ((dg 1000000000 y).getD i 0) c:Nat):Int))]) (fun _=>[]) (fun _=>True) ?_ ?_
   ·refine go 6 ?_
    refine Zc J (fun h85=>?_) (fun h85=>?_)
    ·refine go 6 ⟨O,?_⟩
     exact Pr () trivial ⟨by exact congrArg some (Za0 (by unfold d9s;split<;>omega)),by exact congrArg some (Za0 (by unfold brw;split<;>omega)),trivial⟩ trivial
    ·refine go 1 ?_
     exact Pr () trivial ⟨by exact congrArg some (Za0 (by unfold d9s;split<;>omega)),by exact congrArg some (Za0 (by unfold brw;split<;>omega)),trivial⟩ trivial
   ·rintro _ -
    refine go 3 ?_
    refine tt (Qh (i:=3) (ivs:=[(0,_)]) (enc:=Ks) [d9s ((dg 1000000000 x).getD i 0) ((dg 1000000000 y).getD i 0) c] J J K2 Ec ti3 J J J J J pN.cells J J hw.h) (fun v _=>?_)
    refine tt (Nz (i:=70) (j:=3) (by_:=8) J J J J J J O3 J (Ys pN) Ec ti3 J pN J J J O8 O3 J hw.h) fun v_2 _=>go 9 ⟨O,?_⟩
    exact Xf (i+1,o ++ [d9s ((dg 1000000000 x).getD i 0) ((dg 1000000000 y).getD i 0) c],brw ((dg 1000000000 x).getD i 0) ((dg 1000000000 y).getD i 0) c,_) ⟨O1,by simp [hol],Zjt hoa (Zv5 hda hdb hc).1,Yei _ _ _,Zsl hc hda hdb hol hv⟩ O1 K3 K1
 ·refine go 8 ?_
  refine cl 3 [70] (Hh _ _) fun _ _=>?_
  refine Yp (Zaf 70 J J pN)<|go 4 ?_
  obtain rfl:i=(dg 1000000000 x).length:=O
  have hx:tz o=dg 1000000000 (x-y):=by
   rw [←Ly Qo _ hoa]
   congr 1
   rw [Na _ (dg 1000000000 y) _ hly,Na _ (dg 1000000000 x) _ (Nat.le_refl _),Nd Qo,Nd Qo]at hv
   have h1:=Ze0 Kb o hoa
   rw [hol]at h1
   have h0:c=0∨c=1:=O
   rcases h0 with rfl | rfl<;>omega
  exact Xn hsc _ results129 J trivial (gow 70 Za (by rw [hx]<;>rfl))
theorem Zup(v w:Value)(x y:Nat)(hx:bl x≤4294967296)(hy:bl y≤4294967296):Cal prog 126 #[v,w] [Iu v x,Iu w y] false (G:=Value) (fun r=>True) (fun r=>r) (fun r=>[Iu r (x*y)]):=by
 refine Zd func126 ntmps126 fun w0 sc hw hsc=>?_
 have hX:=Kf x
 have hY:=Kf y
 refine go 12 ⟨O,?_⟩
 refine tt (Hm (i:=3) (n:=((dg 1000000000 x).length+(dg 1000000000 y).length)) (by_:=8) (enc:=Ks) 0 J J J J Ec ti3 J pN.cells pN.pos J J J hw.h) fun v _=>go 10 ?_
 refine lp (G:=Nat×List Nat) [0,1,5] [0,1,2] (fun q=>[(6,.int .i64 (q.1:Int))]) (fun q=>[(3,Oa 1 3 Ks v q.2)]) (fun q=>(q.1≤(dg 1000000000 x).length)∧(q.2.length=((dg 1000000000 x).length+(dg 1000000000 y).length))∧(∀d∈q.2,d<1000000000)∧(∀j,q.1+(dg 1000000000 y).length≤j→q.2.getD j 0=0)∧(Ye 1000000000 q.2=Ye 1000000000 ((dg 1000000000 x).take q.1)*y)) (fun q=>(dg 1000000000 x).length-q.1) (0,List.replicate ((dg 1000000000 x).length+(dg 1000000000 y).length) 0) ⟨O1,O7,Ob _ Kb,fun j _=>Lx _ j,by simp [Ye,Iv]⟩ K1 K1 ?_
 rintro⟨i,o⟩ ⟨hi,hol,hoa,hz0,hv⟩
 dsimp only at hi hol hoa hz0 hv
 dsimp only
 refine go 9 ?_
 refine Zc J (fun h96=>?_) (fun h96=>?_)
 ·refine go 15 ?_
  refine lp (G:=Nat×List Nat×Nat) [0,1,5,6] [0,1,2] (fun q=>[(8,.int .i64 (q.1:Int)),(7,.int .i64 (q.2.2:Int))]) (fun q=>[(3,Oa 1 3 Ks v q.2.1)]) (fun q=>(q.1≤(dg 1000000000 y).length+1∧(q.1=(dg 1000000000 y).length+1→q.2.2=0))∧(q.2.1.length=((dg 1000000000 x).length+(dg 1000000000 y).length))∧(∀d∈q.2.1,d<1000000000)∧(∀j,i+q.1≤j→i+(dg 1000000000 y).length≤j→q.2.1.getD j 0=0)∧(q.2.2<1000000000)∧(Ye 1000000000 q.2.1+q.2.2*1000000000^(i+q.1)=Ye 1000000000 ((dg 1000000000 x).take i)*y+(dg 1000000000 x).getD i 0*1000000000^i*Ye 1000000000 ((dg 1000000000 y).take q.1))) (fun q=>(dg 1000000000 y).length+1-q.1) (0,o,0) ⟨⟨O,O⟩,hol,hoa,fun j _ h=>hz0 j h,O1,by rw [hv];simp [Ye]⟩ K2 K1 ?_
  rintro⟨k,p,c⟩ ⟨hk,hpl,hpa,hpz,hcU,hpv⟩
  dsimp only at hk hpl hpa hpz hcU hpv
  dsimp only
  have hdig:=Zoj (Xh Kb (Ok Qo x) i) (Xh Kb (Ok Qo y) k) (Xh Kb hpa (i+k)) hcU
  refine go 1 ?_
  refine jn (G:=Unit) [0,1,5,6,7,8] [0,3,1,2] (fun _=>[(29,.bool (decide (k<(dg 1000000000 y).length∨0<c)))]) (fun _=>[]) (fun _=>True) ?_ ?_
  ·refine go 6 ?_
   refine Yt (d:=26) J (fun s98=>?_) (fun s98=>?_)
   ·refine go 4 ?_
    exact Pr () trivial ⟨by first | exact congrArg some (vB (decide_eq_decide.2 O)) | exact congrArg some (vB (decide_eq_true O).symm),trivial⟩ trivial
   ·refine go 4 ?_
    exact Pr () trivial ⟨by first | exact congrArg some (vB (decide_eq_decide.2 O)) | exact congrArg some (vB (decide_eq_true O).symm),trivial⟩ trivial
  ·rintro _ -
   refine Zc J (fun h98=>?_) (fun h98=>?_)
   ·refine go 9 ?_
    refine dt (Zea J J J O)<|dt (Yn (ii:=3) (i:=(i+k)) J J J J (Ys pN) Ec zT3)<|go 2 ⟨O,?_⟩
    refine dt (Zea J J J (by have h1:=Xh Kb hpa (i+k);omega))<|go 3 ?_
    refine jn (G:=Unit) [0,1,5,6,8] [0,3,1,2] (fun _=>[(9,.int .i64 ((p.getD (i+k) 0+c+(dg 1000000000 x).getD i 0*(dg 1000000000 y).getD k 0:Nat):Int))]) (fun _=>[]) (fun _=>True) ?_ ?_
    ·refine go 8 ?_
     refine Zc J (fun h100=>?_) (fun h100=>?_)
     ·refine Qe (fun _=>False) [(0,0),(1,0),(2,0),(3,0),(4,0),(5,0),(6,0),(7,0),(8,0),(9,0),(10,0),(11,3)]<|go 9 ⟨O2,O2,O2,O2,?_⟩
      refine Qc J J (Qy (n_mul J J J (by have h1:=hdig.2;omega)))<|Qc J J (Qy (Zea J J J hdig.2))<|go 2 ?_
      try (have hz:(dg 1000000000 y).getD k 0=0:=Za5 O)
      exact Pr () trivial ⟨by first | rfl | (rw [hz,Nat.mul_zero];rfl),trivial⟩ trivial
     ·refine go 1 ?_
      try (have hz:(dg 1000000000 y).getD k 0=0:=Za5 O)
      exact Pr () trivial ⟨by first | rfl | (rw [hz,Nat.mul_zero];rfl),trivial⟩ trivial
    ·rintro _ -
     refine go 5 ?_
     refine dt (Zea J J J O)<|go 1 ?_
     refine dt (Zpu (n:=1000000000) J J J O)<|dt (Yn (ii:=3) (i:=(i+k)) J J J J (Ys pN) Ec zT3)<|tt (Mw (i:=3) (enc:=Ks) _ J J J J J J pN J hw.h) fun _ _=>go 4 ?_
     refine dt (Zie (n:=1000000000) J J J hdig.2 O)<|go 9 ⟨O,?_⟩
     exact Xf (k+1,_,_) ⟨⟨O11,fun h=>by dsimp only at h ⊢;rw [Za5 (by omega:(dg 1000000000 y).length≤k),hpz (i+k) O O,Nat.mul_zero];omega⟩,O8,Mr hpa _ _ (Nat.mod_lt _ Kb),fun j hj hj2=>by dsimp only at hj ⊢;rw [Pv _ _ _ _ _ O,if_neg O];exact hpz j O hj2,hdig.1,Zrp hpv O⟩ O1 K2 K1
   ·refine go 11 ⟨O,?_⟩
    have hc0:c=0:=O
    have hvf:=hpv
    rw [hc0,Nat.zero_mul,Nat.add_zero,Hl (x:=y) (k:=k) Qo O]at hvf
    exact Xf (i+1,_) ⟨O1,hpl,hpa,fun j hj=>hpz j (by dsimp only at hj;omega) (by dsimp only at hj;omega),by dsimp only;rw [hvf,Xr,Nat.add_mul]⟩ O1 K1 K1
 ·refine go 8 ?_
  refine cl 3 [3] (Hh _ _) fun _ _=>?_
  refine Yp (Zaf 3 J J pN)<|go 4 ?_
  obtain rfl:i=(dg 1000000000 x).length:=O
  have hx:tz o=dg 1000000000 (x*y):=by
   rw [←Ly Qo _ hoa,hv,Hl Qo (Nat.le_refl _)]
  exact Xn hsc _ results126 J trivial (gow 3 Za (by rw [hx]<;>rfl))
theorem Zuq(v:Value)(x n:Nat)(hx:bl x≤4294967296:=by omega)(hn:n<1000000000:=by omega):Cal prog 173 #[v,.int .i64 (n:Int)] [Iu v x] true (G:=Value) (fun r=>True) (fun r=>r) (fun r=>[Iu r (x*n)]):=by
 refine Zd func173 ntmps173 fun w0 sc hw hsc=>go 12 ?_
 refine Zc J (fun h112=>?_) (fun h112=>?_)
 ·refine go 7 ?_
  exact Yg (Pm 9 1 3 Ks)<|Xn hsc (.slice none 0 0) results173 J trivial (gow 9 Za (by rw [show n=0 by omega,Nat.mul_zero]<;>rfl))
 ·have hn0:n≠0:=O
  refine go 6 ?_
  refine tt (Qh (i:=70) (ivs:=[(0,_)]) (enc:=Ks) [n] J J K2 Ec ti3 J J J J J pN.cells J J hw.h) (fun v _=>?_)
  refine Yp (Zf0 70 (Ydm Qo hn hn0).symm J J)<|cl 2 [1,70] (Zup _ _ _ n hx (by have:=(Xw 30 n).2 O;omega)) fun v_2 _=>go 4 ?_
  exact Xn hsc _ results173 J trivial (Ot 2 Za)
theorem Yay(v w:Value)(x y:Nat)(hy0:0<y)(hx:bl x≤4000000000:=by omega)(hy:bl y≤4000000000:=by omega):Cal prog 200 #[v,w] [Iu v x,Iu w y] true (G:=Value×Value) (fun r=>True) (fun r=> .tuple #[r.1,r.2]) (fun r=>[Iu r.1 (x/y),Iu r.2 (x%y)]):=by
 refine Zd func200 ntmps200 fun w0 sc hw hsc=>?_
 have hX:=Kf x
 have hY:=Kf y
 refine go 10 ?_
 refine tt (Hm (i:=3) (n:=(dg 1000000000 x).length) (by_:=8) (enc:=Ks) 0 J J J J Ec ti3 J pN.cells pN.pos J J J hw.h) fun v _=>go 18 ⟨O,?_⟩
 refine Zf (Pm 71 1 3 Ks)<|Zf (Qd 71 J J pN)<|lp (G:=Nat×List Nat×Nat×Value) [0,1,6] [0,1,2] (fun q=>[(8,.int .i64 ((q.1:Int)-1)),(7,q.2.2.2)]) (fun q=>[(3,Oa 1 3 Ks v q.2.1),(71,Iu q.2.2.2 q.2.2.1)]) (fun q=>(q.1≤(dg 1000000000 x).length)∧(q.2.1.length=(dg 1000000000 x).length)∧(∀d∈q.2.1,d<1000000000)∧(∀j,j<q.1→q.2.1.getD j 0=0)∧(Ye 1000000000 (q.2.1.drop q.1)*y+q.2.2.1=x/1000000000^q.1)∧(q.2.2.1<y)) (fun q=>q.1) ((dg 1000000000 x).length,List.replicate (dg 1000000000 x).length 0,0,.slice none 0 0) ⟨Nat.le_refl _,O7,Ob _ Kb,fun j _=>Lx _ j,by dsimp only;rw [Nat.div_eq_of_lt ((Xj Qo _ x).1 (Nat.le_refl _))];simp [Ye],hy0⟩ K2 K2 ?_
 rintro⟨k,q,r,vr⟩ ⟨hk,hql,hqa,hqz,hv,hr⟩
 dsimp only at hk hql hqa hqz hv hr
 dsimp only
 refine go 7 ?_
 refine Zc J (fun h122=>?_) (fun h122=>?_)
 ·have hk0:0<k:=O
  have ha9:=Xh Kb (Ok Qo x) (k-1)
  have hdig:x/1000000000^(k-1)=x/1000000000^k*1000000000+(dg 1000000000 x).getD (k-1) 0:=by rw [Ir Qo];exact(Zsb hk0).symm
  rw [←hv,Nat.add_mul]at hdig
  have hrb:=Yi1 hr ha9
  have hQ9:=over_Q hr ha9
  refine go 8 ?_
  refine dt (Yn (ii:=1) (i:=(k-1)) J J J J Zk Ec zT3)<|go 1 ⟨O,?_⟩
  refine tt (Qh (i:=72) (ivs:=[(0,_)]) (enc:=Ks) [(dg 1000000000 x).getD (k-1) 0] J J K2 Ec ti3 J J J J J pN.cells J J hw.h) fun v_2 _=>go 1 ?_
  refine tt (Nz (i:=72) (j:=71) (by_:=8) J J J J J J O3 J Zk Ec ti3 J pN J J J (by have h8:=Kf r;have h9:=Pn (Nat.le_of_lt hr);simp;omega) O3 J hw.h) fun v_3 _=>cl 3 [72] (Hh _ _) fun _ _=>?_
  refine Yp (Zaf 72 J J pN)<|Yp (Zf0 72 (Yfo Qo ha9) J J)<|Yp (Qd 72 J J pN)<|go 8 ?_
  refine cl 3 [72,2] (Zl1 _ _ _ _) fun _ _=>go 3 ?_
  refine Zc J (fun h124=>?_) (fun h124=>?_)
  ·have hlt:(r*1000000000+(dg 1000000000 x).getD (k-1) 0)<y:=Zq4.1 h124
   refine go 9 ⟨O,?_⟩
   refine Yg (Pj 72 71 J J J) ?_
   have h2:=Zyl hk0 (by omega:k≤q.length) (hqz (k-1) O)
   exact Xf (k-1,q,r*1000000000+(dg 1000000000 x).getD (k-1) 0,_) ⟨O1,O1,O1,fun j hj=>hqz j (by dsimp only at hj;omega),by have h9:1000000000*Ye 1000000000 (q.drop k)*y=Ye 1000000000 (q.drop k)*y*1000000000:=(by rw [Nat.mul_assoc,Nat.mul_comm]);dsimp only;rw [h2,hdig,h9];omega,hlt⟩ O1 ⟨by rw [show(((k-1:Nat):Int)-1)=(k:Int)-1-1 by omega];rfl,rfl,trivial⟩ K2
  ·have hge:y≤(r*1000000000+(dg 1000000000 x).getD (k-1) 0):=by have:=mt Zq4.2 h124;omega
   refine go 10 ?_
   refine lp (G:=Nat×Nat) [0,1,6,7,8] [0,3,71,1,2,72] (fun q=>[(9,.int .i64 (q.1:Int)),(10,.int .i64 (q.2:Int))]) (fun q=>[]) (fun q=>(q.1≤(r*1000000000+(dg 1000000000 x).getD (k-1) 0)/y)∧((r*1000000000+(dg 1000000000 x).getD (k-1) 0)/y≤q.2)∧(q.2<1000000000)) (fun q=>q.2-q.1) (0,999999999) ⟨Nat.zero_le _,O,O1⟩ K2 trivial ?_
   rintro⟨lo,hi⟩ ⟨hlo,hhi,hh9⟩
   dsimp only at hlo hhi hh9
   dsimp only
   have hmid:(lo+hi+1)/2<1000000000:=O
   refine go 8 ?_
   refine Zc J (fun h128=>?_) (fun h128=>?_)
   ·refine go 7 ?_
    refine dt (Zea J J J O)<|dt (Zea (n:=1) J J J O)<|dt (Zie (n:=2) J J J O O)<|go 7 ?_
    refine cl 4 [2] (Zuq _ _ _) fun v_4 _=>go 1 ?_
    refine cl 4 [4,72] (Zl1 _ _ _ _ (by have:=Yel (y:=y) hmid;omega)) fun _ _=>go 3 ?_
    refine Zc J (fun h130=>?_) (fun h130=>?_)
    ·have hcm:y*((lo+hi+1)/2)≤(r*1000000000+(dg 1000000000 x).getD (k-1) 0):=Zwd.1 h130
     refine go 5 ?_
     exact Xf ((lo+hi+1)/2,hi) ⟨(Nat.le_div_iff_mul_le hy0).2 (by rw [Nat.mul_comm];exact hcm),O1,O1⟩ O1 K2 trivial
    ·have hcm:(r*1000000000+(dg 1000000000 x).getD (k-1) 0)<y*((lo+hi+1)/2):=by have:=mt Zwd.2 h130;omega
     refine go 6 ⟨O,?_⟩
     exact Xf (lo,(lo+hi+1)/2-1) ⟨O1,by have h7:=(Nat.div_lt_iff_lt_mul hy0).2 (show(r*1000000000+(dg 1000000000 x).getD (k-1) 0)<(lo+hi+1)/2*y by have h6:=Nat.mul_comm ((lo+hi+1)/2) y;omega);dsimp only;omega,O1⟩ O1 ⟨J,by rw [show(((lo+hi+1)/2-1:Nat):Int)=(((lo+hi+1)/2:Nat):Int)-1 by omega];rfl,trivial⟩ trivial
   ·have hloQ:lo=(r*1000000000+(dg 1000000000 x).getD (k-1) 0)/y:=O
    refine go 10 ?_
    refine dt (Yn (ii:=3) (i:=(k-1)) J J J J (Ys pN) Ec zT3)<|tt (Mw (i:=3) (enc:=Ks) _ J J J J J J pN J hw.h) fun _ _=>go 6 ?_
    refine cl 5 [2] (Zuq _ _ _) fun v_5 _=>cl 6 [72,5] (Zl2 _ _ _ _ (by rw [hloQ];exact Nat.mul_div_le _ _)) fun v_6 _=>go 9 ⟨O,?_⟩
    refine Yg (Pj 6 71 J J J) ?_
    have h2:=Zei (d:=lo) hk0 (by omega:k≤q.length)
    have h16:y*lo≤(r*1000000000+(dg 1000000000 x).getD (k-1) 0):=by rw [hloQ];exact Nat.mul_div_le _ _
    exact Xf (k-1,_,(r*1000000000+(dg 1000000000 x).getD (k-1) 0)-y*lo,_) ⟨O1,by simp [hql],Mr hqa _ _ O,fun j hj=>by dsimp only at hj ⊢;rw [Pv _ _ _ _ _ O,if_neg O];exact hqz j O,by have h9:1000000000*Ye 1000000000 (q.drop k)*y=Ye 1000000000 (q.drop k)*y*1000000000:=(by rw [Nat.mul_assoc,Nat.mul_comm]);dsimp only;rw [h2,hdig,Nat.add_mul,h9];have h5:lo*y=y*lo:=Nat.mul_comm _ _;omega,by dsimp only;rw [hloQ];have h5:=Nat.div_add_mod (r*1000000000+(dg 1000000000 x).getD (k-1) 0) y;have h6:=Nat.mod_lt (r*1000000000+(dg 1000000000 x).getD (k-1) 0) hy0;omega⟩ O1 ⟨by rw [show(((k-1:Nat):Int)-1)=(k:Int)-1-1 by omega];rfl,rfl,trivial⟩ K2
 ·refine go 8 ?_
  refine cl 6 [3] (Hh _ _) fun _ _=>?_
  refine Yp (Zaf 3 J J pN)<|go 6 ?_
  obtain rfl:k=0:=O
  rw [List.drop_zero,Nat.pow_zero,Nat.div_one]at hv
  have hq:Ye 1000000000 q=x/y:=by rw [←hv,Nat.mul_comm,Nat.mul_add_div hy0,Nat.div_eq_of_lt hr,Nat.add_zero]
  have hr2:r=x%y:=by rw [←hv,Nat.mul_comm,Nat.mul_add_mod,Nat.mod_eq_of_lt hr]
  have hx:tz q=dg 1000000000 (x/y):=by rw [←Ly Qo _ hqa,hq]
  exact Mi hsc (_,_) results200 J trivial (gow 3 (Ot 71 Za (by rw [hr2]<;>rfl)) (by rw [hx]<;>rfl))
theorem Ap(s:Bool)(v:Value)(n:Nat)(z:Int)(hn:n=z.natAbs)(hs:sg s z)(hb:bl n≤4294967296):Om prog 117 #[.bool s,v] [Iu v n] (.agg #[.bool (decide (z<0)),v]):=by
 refine Zd func117 ntmps117 fun w0 sc hw hsc=>?_
 have hl9:=Kf n
 refine go 2 ?_
 refine Yk (Zz 2) fun b _=>go 6 ?_
 refine Bo (d:=6) J (fun s143=>?_) (fun s143=>?_)
 ·refine go 5 ?_
  refine dt (Qi (ivs:=[(0,_),(1,_)]) J K4 (fun a w hs=>Yer ((Yo J) a w hs) ((Pl (i:=1) J Zk) a w hs)))<|go 4 ?_
  exact Xn hsc () results117 (by rw [←Yb5 hn hs,←Zp6];simp_all) trivial Za
 ·refine go 5 ?_
  refine dt (Qi (ivs:=[(0,_),(1,_)]) J K4 (fun a w hs=>Yer ((Yo J) a w hs) ((Pl (i:=1) J Zk) a w hs)))<|go 4 ?_
  exact Xn hsc () results117 (by rw [←Yb5 hn hs,←Zp6];simp_all) trivial Za
theorem Yaz(v:Value)(x:Int)(hx:bl x.natAbs≤3000000000):Cal prog 144 #[.agg #[.bool (decide (x<0)),v]] [Iu v x.natAbs] true (G:=Value) (fun r=>True) (fun r=> .agg #[.bool (decide (-x<0)),r]) (fun r=>[Iu r (-x).natAbs]):=by
 refine Zd func144 ntmps144 fun w0 sc hw hsc=>go 2 ?_
 refine Yk (Yj 2) fun b _=>Yk (Zz 3) fun b_2 _=>go 6 ?_
 refine dt (Qf J J)<|go 2 ?_
 refine cl 3 [1] (Ap _ _ _ (-x) (Int.natAbs_neg x).symm (Yad (Xc x)) O) fun _ _=>go 4 ?_
 exact Xn hsc _ results144 J trivial (Ot 1 Za (by rw [Int.natAbs_neg]<;>rfl))
theorem Zpb(v w:Value)(x y:Int)(hx:bl x.natAbs≤3000000000:=by omega)(hy:bl y.natAbs≤3000000000:=by omega):Cal prog 70 #[.agg #[.bool (decide (x<0)),v],.agg #[.bool (decide (y<0)),w]] [Iu v x.natAbs,Iu w y.natAbs] true (G:=Value) (fun r=>True) (fun r=> .agg #[.bool (decide (x+y<0)),r]) (fun r=>[Iu r (x+y).natAbs]):=by
 refine Zd func70 ntmps70 fun w0 sc hw hsc=>?_
 have hb:=It x y
 refine go 2 ?_
 refine Yk (Yj 3) fun b _=>Yk (Yj 4) fun b_2 _=>Yk (Zz 5) fun b_3 _=>go 12 ?_
 refine Lb J (fun h189=>?_) (fun h189=>?_)
 ·replace h189:=Yi4 h189
  refine go 1 ?_
  refine Qe (fun _=>False) [(0,0),(1,0),(2,0),(3,0),(4,0),(5,0),(6,1),(7,1),(8,3)]<|go 6 ?_
  refine Yz (Zg 6 [1,2] (r_plus _ _ _ _ O O)) fun v _=>Yz (Zg 6 [6] (Ap _ _ _ (x+y) (Zex (Xc x) (h189▸Xc y)).symm (Zug (Xc x) (h189▸Xc y)) (by rw [←Zex (Xc x) (h189▸Xc y)];omega))) fun _ _=>go 5 ?_
  exact Xn hsc _ results70 J trivial (Ot 6 Za (by rw [Zex (Xc x) (h189▸Xc y)]<;>rfl))
 ·have hne:decide (x<0)≠decide (y<0):=by simpa using h189
  refine go 9 ?_
  refine cl 6 [1,2] (Zl1 _ _ _ _) fun _ _=>go 3 ?_
  refine Zc J (fun h192=>?_) (fun h192=>?_)
  ·have hge:y.natAbs≤x.natAbs:=Zwe.1 h192
   refine go 1 ?_
   refine Qe (fun _=>False) [(0,0),(1,0),(2,0),(3,0),(4,0),(5,0),(6,1),(7,1),(8,3)]<|go 6 ?_
   refine Yz (Zg 7 [1,2] (Zl2 _ _ _ _ hge)) fun v_2 _=>Yz (Zg 7 [7] (Ap _ _ _ (x+y) (Ac (Xc x) (Xc y) hne hge).symm (Zgr (Xc x) (Xc y) hne hge) (by have:=Pn (Nat.sub_le x.natAbs y.natAbs);omega))) fun _ _=>go 5 ?_
   exact Xn hsc _ results70 J trivial (Ot 7 Za (by rw [Ac (Xc x) (Xc y) hne hge]<;>rfl))
  ·have hge:x.natAbs≤y.natAbs:=by have:=mt Zwe.2 h192;omega
   refine go 3 ?_
   refine Qe (fun _=>False) [(0,0),(1,0),(2,0),(3,0),(4,0),(5,0),(6,1),(7,1),(8,3)]<|go 6 ?_
   refine Yz (Zg 8 [2,1] (Zl2 _ _ _ _ hge)) fun v_3 _=>Yz (Zg 8 [8] (Ap _ _ _ (x+y) (by rw [Int.add_comm x];exact(Ac (Xc y) (Xc x) (Ne.symm hne) hge).symm) (by rw [Int.add_comm x];exact Zgr (Xc y) (Xc x) (Ne.symm hne) hge) (by have:=Pn (Nat.sub_le y.natAbs x.natAbs);omega))) fun _ _=>go 4 ?_
   exact Xn hsc _ results70 J trivial (Ot 8 Za (by rw [Int.add_comm x,Ac (Xc y) (Xc x) (Ne.symm hne) hge]<;>rfl))
theorem Zf3(v w:Value)(x y:Int)(hx:bl x.natAbs≤3000000000:=by omega)(hy:bl y.natAbs≤3000000000:=by omega):Cal prog 119 #[.agg #[.bool (decide (x<0)),v],.agg #[.bool (decide (y<0)),w]] [Iu v x.natAbs,Iu w y.natAbs] true (G:=Value) (fun r=>True) (fun r=> .agg #[.bool (decide (x-y<0)),r]) (fun r=>[Iu r (x-y).natAbs]):=by
 refine Zd func119 ntmps119 fun w0 sc hw hsc=>?_
 have hb:=Cv x y
 have hn:=Zjm y
 refine go 2 ?_
 refine Yk (Yj 3) fun b _=>Yk (Yj 4) fun b_2 _=>Yk (Zz 5) fun b_3 _=>go 3 ?_
 refine Qe (fun _=>False) [(0,0),(1,0),(2,1),(3,1),(4,3)]<|go 2 ?_
 refine Yz (Zg 6 [2] (Yaz _ _ O)) fun v _=>Yz (Zg 7 [1,6] (Zpb _ _ _ _)) fun v_2 _=>go 4 ?_
 exact Xn hsc _ results119 (by rw [Int.sub_eq_add_neg]<;>rfl) trivial (Ot 7 Za (by rw [Int.sub_eq_add_neg]<;>rfl))
theorem El(v w:Value)(x y:Int)(hx:bl x.natAbs≤1000000000:=by omega)(hy:bl y.natAbs≤1000000000:=by omega):Cal prog 69 #[.agg #[.bool (decide (x<0)),v],.agg #[.bool (decide (y<0)),w]] [Iu v x.natAbs,Iu w y.natAbs] true (G:=Value) (fun r=>True) (fun r=> .agg #[.bool (decide (x*y<0)),r]) (fun r=>[Iu r (x*y).natAbs]):=by
 refine Zd func69 ntmps69 fun w0 sc hw hsc=>?_
 have hb:=Xa x y
 refine go 2 ?_
 refine Yk (Yj 3) fun b _=>Yk (Yj 4) fun b_2 _=>Yk (Zz 5) fun b_3 _=>go 3 ?_
 refine Qe (fun _=>False) [(0,0),(1,0),(2,0),(3,0),(4,0),(5,0),(6,0),(7,0),(8,0),(9,1),(10,1),(11,3)]<|go 9 ?_
 refine Yz (Zg 6 [1,2] (Zup _ _ _ _ O O)) fun v _=>Yz (Zg 6 [6] (Ap _ _ _ (x*y) (Int.natAbs_mul x y).symm (Yae (Xc x) (Xc y)) (by rw [←Int.natAbs_mul];omega))) fun _ _=>go 4 ?_
 exact Xn hsc _ results69 J trivial (Ot 6 Za (by rw [Int.natAbs_mul]<;>rfl))
theorem Zl0(v:Value)(x:Int)(hx:bl x.natAbs≤3000000000:=by omega):Om prog 130 #[.agg #[.bool (decide (x<0)),v]] [Iu v x.natAbs] (.int .i64 x.sign):=by
 refine Zd func130 ntmps130 fun w0 sc hw hsc=>?_
 have hl9:=Kf x.natAbs
 refine go 2 ?_
 refine Yk (Yj 2) fun b _=>go 12 ?_
 refine Zc J (fun h206=>?_) (fun h206=>?_)
 ·refine go 7 ?_
  exact Xn hsc () results130 (sign9 h206) trivial Za
 ·refine go 9 ?_
  refine Lb J (fun h209=>?_) (fun h209=>?_)
  ·refine go 7 ?_
   exact Xn hsc () results130 (by rw [Int.sign_eq_neg_one_of_neg (by simpa using h209)]) trivial Za
  ·refine go 8 ?_
   exact Xn hsc () results130 (by have h3:=Zis h206;have h4:¬x<0:=(by simpa using h209);rw [Int.sign_eq_one_of_pos O]) trivial Za
theorem Dh(v w:Value)(x y:Int)(hx:bl x.natAbs≤2000000000)(hy:bl y.natAbs≤2000000000):Om prog 72 #[.agg #[.bool (decide (x<0)),v],.agg #[.bool (decide (y<0)),w]] [Iu v x.natAbs,Iu w y.natAbs] (.int .i64 (x-y).sign):=by
 refine Zd func72 ntmps72 fun w0 sc hw hsc=>?_
 have hb:=Cv x y
 refine go 2 ?_
 refine Yk (Yj 3) fun b _=>Yk (Yj 4) fun b_2 _=>go 7 ?_
 refine cl 5 [1,2] (Zf3 _ _ _ _) fun v _=>cl 5 [5] (Zl0 _ _) fun _ _=>go 4 ?_
 exact Xn hsc () results72 J trivial Za
theorem Ny(x:Int)(hx:Xx x:=by exact⟨O,O⟩):Cal prog 57 #[.int .i64 x] [] true (G:=Value) (fun r=>True) (fun r=> .agg #[.bool (decide (x<0)),r]) (fun r=>[Iu r (x).natAbs]):=by
 refine Zd func57 ntmps57 fun w0 sc hw hsc=>?_
 have hxa:=hx.1
 have hxb:=hx.2
 refine Zf (Pm 60 1 3 Ks)<|Zf (Qd 60 J J pN)<|go 2 ?_
 refine Yk (Zz 1) fun b _=>go 9 ?_
 refine Zc J (fun h147=>?_) (fun h147=>?_)
 ·obtain⟨m,rfl⟩:∃m:Nat,x=(m:Int):=⟨x.natAbs,O⟩
  have hbm:bl m≤64:=(Xw 64 m).2 O
  refine go 3 ?_
  refine dt (Zpu (n:=1000000000) J J J O)<|go 1 ?_
  refine dt (Zie (n:=1000000000) J J J O O)<|dt (Zpu (n:=1000000000) J J J O)<|go 1 ?_
  refine dt (Zie (n:=1000000000) J J J O O)<|dt (Zie (n:=1000000000) J J J O O)<|tt (Qh (i:=70) (ivs:=[(0,_),(1,_),(2,_)]) (enc:=Ks) [m%1000000000,m/1000000000%1000000000,m/1000000000/1000000000] J J K6 Ec ti3 J J J J J pN.cells J J hw.h) fun v _=>cl 1 [70] (Hh _ _) fun _ _=>?_
  refine Yp (Zaf 70 J J pN)<|Yp (Zf0 70 (Zoi O) J J)<|cl 1 [70] (Ap _ _ _ ((m:Int)) O (by simp [sg]) O) fun _ _=>go 5 ?_
  exact Xn hsc _ results57 J trivial (gow 70 Za (by rw [Int.natAbs_natCast]<;>rfl))
 ·obtain⟨m,rfl⟩:∃m:Nat,x=-(m:Int):=⟨x.natAbs,O⟩
  have hbm:bl m≤64:=(Xw 64 m).2 O
  refine go 5 ?_
  refine dt (Ybs (n:=1000000000) J J J O)<|dt (Ybv J J O)<|go 1 ?_
  refine dt (Zsj (n:=1000000000) J J J O O)<|dt (Ybs (n:=1000000000) J J J O)<|dt (Ybv J J O)<|go 1 ?_
  refine dt (Zsj (n:=1000000000) J J J O O)<|dt (Zsj (n:=1000000000) J J J O O)<|dt (Ybv J J O)<|tt (Qh (i:=70) (ivs:=[(0,_),(1,_),(2,_)]) (enc:=Ks) [m%1000000000,m/1000000000%1000000000,m/1000000000/1000000000] J J K6 Ec ti3 J J J J J pN.cells J J hw.h) fun v_2 _=>cl 1 [70] (Hh _ _) fun _ _=>?_
  refine Yp (Zaf 70 J J pN)<|Yp (Zf0 70 (Zoi O) J J)<|Yp (Zf0 70 (ys:=dg 1000000000 (-(m:Int)).natAbs) (by rw [Int.natAbs_neg,Int.natAbs_natCast]) J J)<|Yp (Qd 70 J J pN)<|cl 1 [70] (Ap _ _ _ ((-(m:Int))) J (by simp [sg]) (by rw [Int.natAbs_neg,Int.natAbs_natCast];omega)) fun _ _=>?_
  refine dt (Qi (ivs:=[]) J trivial (fun a w hs=>Yes))<|cl 2 [70,60] (Zf3 _ _ (-(m:Int)) 0 (by rw [Int.natAbs_neg,Int.natAbs_natCast];omega) O3) fun v_3 _=>go 4 ?_
  exact Xn hsc _ results57 (by rw [Int.sub_zero]<;>rfl) trivial (Ot 2 Za (by rw [Int.sub_zero]<;>rfl))
theorem r_to(v:Value)(x:Int)(hx:bl x.natAbs≤4000000000):Om prog 76 #[.agg #[.bool (decide (x<0)),v]] [Iu v x.natAbs] (wv x):=by
 refine Zd func76 ntmps76 fun w0 sc hw hsc=>?_
 obtain⟨n,hn⟩:∃n,n=x.natAbs:=⟨_,rfl⟩
 have hxn:bl n≤4000000000:=by rw [hn];exact hx
 have hlx:=Kf x.natAbs
 refine go 2 ?_
 refine Yk (Yj 2) fun b _=>Yk (Zz 3) fun b_2 _=>go 11 ?_
 refine Yp (Pm 81 1 3 Ks)<|tt (Nz (i:=81) (j:=1) (by_:=8) J J J J J J O3 J Zk Ec ti3 J pN J J J O8 O3 J hw.h) fun v _=>go 5 ?_
 refine Zf (Pm 80 1 5 Zgh)<|lp (G:=Nat×List Nat×Value×Value) [1,2] [0,1,2,3] (fun q=>[(3,q.2.2.1),(4,q.2.2.2)]) (fun q=>[(80,Oa 1 5 Zgh q.2.2.1 q.2.1),(81,Oa 1 3 Ks q.2.2.2 (dg 1000000000 q.1))]) (fun q=>(Ye 256 q.2.1+256^q.2.1.length*q.1=n)∧(∀d∈q.2.1,d<256)∧(q.2.1.length=0∨256^(q.2.1.length-1)≤n)∧(bl q.1≤bl n)) (fun q=>q.1) (n,[],.slice none 0 0,_) ⟨by simp [Ye],O7,.inl rfl,Nat.le_refl _⟩ K2 ⟨J,by rw [hn];rfl,trivial⟩ ?_
 rintro⟨m,bs,vb,vd⟩ ⟨hv,hba,hge,hmn⟩
 dsimp only at hv hba hge hmn
 dsimp only
 have hlm:=Kf m
 refine go 8 ?_
 refine Zc J (fun h167=>?_) (fun h167=>?_)
 ·have hm0:0<m:=Zis O
  have hgn:=to_ge hv hm0
  have hbl:=to_len hgn
  refine go 18 ⟨O,?_⟩
  refine lp (G:=Nat×List Nat×Nat) [1,2,3,4] [0,80,1,2,3] (fun q=>[(6,.int .i64 ((q.1:Int)-1)),(5,.int .i64 (q.2.2:Int))]) (fun q=>[(81,Oa 1 3 Ks vd q.2.1)]) (fun q=>(q.1≤(dg 1000000000 m).length)∧(q.2.1.length=(dg 1000000000 m).length)∧(∀d∈q.2.1,d<1000000000)∧(∀j,j<q.1→q.2.1.getD j 0=(dg 1000000000 m).getD j 0)∧(q.2.2<256)∧(Ye 1000000000 (q.2.1.drop q.1)*256+q.2.2=Ye 1000000000 ((dg 1000000000 m).drop q.1))) (fun q=>q.1) ((dg 1000000000 m).length,dg 1000000000 m,0) ⟨Nat.le_refl _,J,Ok Qo m,fun j _=>J,O1,by simp [List.drop_length,Ye]⟩ K2 K1 ?_
  rintro⟨k,p,r⟩ ⟨hk,hpl,hpa,hpk,hr,hpv⟩
  dsimp only at hk hpl hpa hpk hr hpv
  dsimp only
  have hda:=Xh Kb (Ok Qo m) (k-1)
  refine go 7 ?_
  refine Zc J (fun h169=>?_) (fun h169=>?_)
  ·refine go 7 ?_
   refine dt (n_mul (n:=1000000000) J J J O)<|go 2 ?_
   refine dt (Yn (ii:=81) (i:=(k-1)) J J J J (Ys pN) Ec zT3)<|go 1 ⟨O,?_⟩
   refine dt (Zea J J J (by have:=Xh Kb hpa (k-1);omega))<|go 8 ?_
   refine dt (Zie (n:=256) J J J (by have:=Xh Kb hpa (k-1);omega) O)<|dt (Yn (ii:=81) (i:=(k-1)) J J J J (Ys pN) Ec zT3)<|tt (Mw (i:=81) (enc:=Ks) _ J J J J J J pN J hw.h) fun _ _=>go 4 ?_
   refine dt (Zpu (n:=256) J J J O)<|go 9 ⟨O,?_⟩
   exact Xf (k-1,_,_) ⟨O1,by simp [hpl],Mr hpa _ _ (Zze hr (Xh Kb hpa _)),fun j hj=>by dsimp only at hj ⊢;rw [Pv _ _ _ _ _ O,if_neg O];exact hpk j O,Nat.mod_lt _ O,by dsimp only;rw [hpk (k-1) O];exact Yfs O O O hpv⟩ O1 ⟨by rw [show(((k-1:Nat):Int)-1)=(k:Int)-1-1 by omega];rfl,rfl,trivial⟩ K1
  ·refine go 6 ?_
   obtain rfl:k=0:=O
   rw [List.drop_zero,List.drop_zero,Nd Qo]at hpv
   have hmr:m%256=r%256:=O
   have hdm:dg 1000000000 (m/256)=tz p:=by rw [←Ly Qo p hpa];congr 1;omega
   refine go 3 ?_
   refine dt (Zck J J uT3 uT5)<|tt (Qh (i:=4) (ivs:=[(0,_)]) (enc:=Zgh) [r%256] J J K2 Zfu ti5 J J J J J pB.cells J J hw.h) (fun v_2 _=>?_)
   refine tt (Nz (i:=80) (j:=4) (by_:=1) J J J J J J O3 J (Ys pB) Zfu ti5 J pB J J J O8 O3 J hw.h) fun v_3 _=>go 5 ?_
   refine cl 4 [81] (Hh _ _) fun _ _=>?_
   refine Yp (Zaf 81 J J pN)<|go 3 ?_
   exact Xf (m/256,bs ++ [m%256],_,_) ⟨Yft hv,Zjt hba (Nat.mod_lt _ O),.inr (by simpa using hgn),Nat.le_trans (Pn (Nat.div_le_self _ _)) hmn⟩ (Nat.div_lt_self hm0 O) K2 ⟨by rw [hmr];rfl,by rw [hdm];rfl,trivial⟩
 ·have hm0:m=0:=(Pe Qo m).1 O
  have hbs:bs=dg 256 n:=Zt3 O hba (by rw [hm0,Nat.mul_zero,Nat.add_zero]at hv;exact hv) hge
  have hlb:bs.length≤4000000000:=by rw [hbs,Zit];omega
  refine go 20 ⟨O,?_⟩
  refine Zf (Pm 82 1 5 Zgh)<|lp (G:=Nat×Value) [1,2,3] [0,80,81,1,2,3] (fun q=>[(8,.int .i64 ((q.1:Int)-1)),(7,q.2)]) (fun q=>[(82,Oa 1 5 Zgh q.2 (bs.drop q.1).reverse)]) (fun q=>q.1≤bs.length) (fun q=>q.1) (bs.length,.slice none 0 0) (Nat.le_refl _) K2 ⟨by rw [List.drop_length];rfl,trivial⟩ ?_
  rintro⟨k,vo⟩ hk
  dsimp only at hk
  dsimp only
  have hdl:(bs.drop k).length=bs.length-k:=List.length_drop
  refine go 7 ?_
  refine Zc J (fun h178=>?_) (fun h178=>?_)
  ·refine go 8 ?_
   refine dt (Yn (ii:=80) (i:=(k-1)) J J J J (Ys pB) Zfu sizeOf5)<|go 1 ⟨O,?_⟩
   refine tt (Qh (i:=5) (ivs:=[(0,_)]) (enc:=Zgh) [bs.getD (k-1) 0] J J K2 Zfu ti5 J J J J J pB.cells J J hw.h) (fun v_4 _=>?_)
   refine tt (Nz (i:=82) (j:=5) (by_:=1) J J J J J J O3 J (Ys pB) Zfu ti5 J pB J J J O8 O3 J hw.h) fun v_5 _=>go 9 ⟨O,?_⟩
   exact Xf (k-1,_) O1 O1 ⟨by rw [show(((k-1:Nat):Int)-1)=(k:Int)-1-1 by omega];rfl,rfl,trivial⟩ ⟨by rw [←Ydi O hk];rfl,trivial⟩
  ·refine go 10 ?_
   refine dt (d_b2s J J (i:=82) J (Ys pB) Zfu uT9 uT5)<|dt (Qi (ivs:=[(0,_),(1,_)]) J K4 (fun a w hs=>Ztr ((Yo J) a w hs) ((Yo J) a w hs)))<|go 4 ?_
   obtain rfl:k=0:=O
   exact Xn hsc () results76 (by rw [Yiu hbs,hn]<;>rfl) trivial Za
theorem r_gcd(v w:Value)(x y:Int)(hy:bl y.natAbs≤3000000000)(hx:bl x.natAbs≤3000000000:=by omega):Cal prog 143 #[.agg #[.bool (decide (x<0)),v],.agg #[.bool (decide (y<0)),w]] [Iu v x.natAbs,Iu w y.natAbs] true (G:=Value) (fun r=>True) (fun r=> .agg #[.bool (decide ((Int.gcd x y:Int)<0)),r]) (fun r=>[Iu r ((Int.gcd x y:Int)).natAbs]):=by
 refine Zd func143 ntmps143 fun w0 sc hw hsc=>go 2 ?_
 refine Yk (Yj 3) fun b _=>Yk (Yj 4) fun b_2 _=>Yk (Zz 5) fun b_3 _=>go 3 ?_
 refine Qe (fun _=>False) [(0,0),(1,0),(2,0),(3,0),(4,0),(5,3)]<|go 10 ?_
 refine Zf (Pj 1 91 J J J)<|Zf (Pj 2 92 J J J)<|lp (G:=Value×Value×Nat×Nat) [4] [0,1,2,3,4,5] (fun q=>[(5,q.1),(6,q.2.1)]) (fun q=>[(91,Iu q.1 q.2.2.1),(92,Iu q.2.1 q.2.2.2)]) (fun q=>(Nat.gcd q.2.2.1 q.2.2.2=Nat.gcd x.natAbs y.natAbs)∧(bl q.2.2.1≤3000000000)∧(bl q.2.2.2≤3000000000)) (fun q=>q.2.2.2) (v,w,x.natAbs,y.natAbs) ⟨J,hx,hy⟩ K2 K2 ?_
 rintro⟨va,vb,a,b⟩ ⟨hg,ha,hb⟩
 dsimp only at hg ha hb
 dsimp only
 refine go 8 ?_
 refine Zc J (fun h238=>?_) (fun h238=>?_)
 ·have hb0:0<b:=Zis O
  refine go 7 ?_
  refine cl 6 [91,92] (Yay _ _ _ _ hb0) fun g _=>go 14 ?_
  have hlt:a%b<b:=Nat.mod_lt _ hb0
  exact Yg (Pj 92 91 J J J)<|Yg (Pj 7 92 J J J)<|Xf (_,_,b,a%b) ⟨by dsimp only;rw [←hg,Nat.gcd_comm b,←Nat.gcd_rec,Nat.gcd_comm],hb,Nat.le_trans (Pn (Nat.le_of_lt hlt)) hb⟩ hlt K2 K2
 ·have hb0:b=0:=(Pe Qo b).1 O
  have ha0:a=Nat.gcd x.natAbs y.natAbs:=by rw [←hg,hb0,Nat.gcd_zero_right]
  refine go 8 ?_
  refine cl 7 [91] (Ap _ _ _ ((Int.gcd x y:Int)) (by rw [ha0]<;>rfl) (by simp [sg]) O) fun _ _=>go 4 ?_
  exact Xn hsc _ results143 J trivial (Ot 91 Za (by rw [ha0]<;>rfl))
theorem Zpa(v w:Value)(x y:Int)(hx:bl x.natAbs≤500000000)(hy0:y≠0)(hy:bl y.natAbs≤500000000:=by omega):Cal prog 202 #[.agg #[.bool (decide (x<0)),v],.agg #[.bool (decide (y<0)),w]] [Iu v x.natAbs,Iu w y.natAbs] true (G:=Value×Value) (fun r=>True) (fun r=> .tuple #[.agg #[.bool (decide (x/y<0)),r.1],.agg #[.bool (decide (x%y<0)),r.2]]) (fun r=>[Iu r.1 (x/y).natAbs,Iu r.2 (x%y).natAbs]):=by
 refine Zd func202 ntmps202 fun w0 sc hw hsc=>?_
 have hyp:0<y.natAbs:=O
 have hb1:=Yiz x y
 have hb2:=Ztm x y
 have hb3:=Cv x (x.tdiv y*y)
 have hsf:=Yfv (x:=x) hy0
 have hb4:=Cv (x.tdiv y) 1
 have hb5:=It (x.tdiv y) 1
 have hb6:bl (1:Int).natAbs≤1:=O3
 have hb7:=Xa (x.tdiv y-1) y
 have hb8:=Xa (x.tdiv y+1) y
 refine go 2 ?_
 refine Yk (Yj 3) fun b _=>Yk (Yj 4) fun b_2 _=>Yk (Zz 5) fun b_3 _=>Yk (Zz 6) fun b_4 _=>go 8 ?_
 refine cl 70 [1,2] (Yay _ _ _ _ hyp) fun g _=>go 15 ?_
 refine cl 6 [70] (Ap _ _ _ (x.tdiv y) (Zhj x y) (Yf4 x y) (by rw [Zhj];omega)) fun _ _=>?_
 refine Yp (Me 70 (congrArg (Iu _) (Zhj x y)) J J)<|Yk (Zz 97) fun b_5 _=>go 3 ?_
 refine jn (G:=Value×Nat) [2,3,4,5,7,8] [0,1,2,3,4,5,6,70,71,97] (fun q=>[(9,.pointer (some ⟨q.2,0,none⟩))]) (fun q=>[(72,Iu q.1 (x-x.tdiv y*y).natAbs),(98,box q.2 89 #[.bool (decide ((x-x.tdiv y*y)<0)),q.1])]) (fun q=>True) ?_ ?_
 ·refine Kg (fun _=>False) [6]<|Zh (n:=4) [(0,0),(1,0),(2,0)]<|go 4 ?_
  refine Qp (n:=3) 3 5 ?_ ?_
  ·refine Ol (Zg 73 [70,2] (El _ _ _ _)) fun v _=>?_
   refine Qp (n:=2) 4 5 ?_ ?_
   ·refine Ol (Zg 72 [1,73] (Zf3 _ _ _ _)) fun v_2 _=>?_
    refine Zh (n:=0) [(5,1),(6,3)]<|Yz (Zz 98) fun b_6 _=>go 2 ?_
    exact Zs<|Pr (_,_) trivial K1 K2
   ·refine Ol (Zz 98) fun b_7 _=>?_
    refine Zh (n:=0) [(4,1),(6,3)]<|Yz (Zg 72 [1,73] (Zf3 _ _ _ _)) fun v_3 _=>go 2 ?_
    exact Zs<|Pr (_,_) trivial K1 K2
  ·refine Ol (Zz 98) fun b_8 _=>?_
   refine Zh (n:=0) [(3,1),(4,1),(6,3)]<|Yz (Zg 73 [70,2] (El _ _ _ _)) fun v_4 _=>Yz (Zg 72 [1,73] (Zf3 _ _ _ _)) fun v_5 _=>go 2 ?_
   exact Zs<|Pr (_,_) trivial K1 K2
 ·rintro⟨vr,b9⟩ -
  dsimp only
  refine jn (G:=Value×Value) [4,5,7,8,9] [0,72,1,2,3,4,5,6,70,71] (fun q=>[]) (fun q=>[(75,Iu q.1 (x/y).natAbs),(76,Iu q.2 (x%y).natAbs),(97,box b_5 89 #[.bool (decide (x/y<0)),q.1]),(98,box b9 89 #[.bool (decide (x%y<0)),q.2])]) (fun q=>True) ?_ ?_
  ·refine go 3 ?_
   refine cl 6 [72] (Zl0 _ _) fun _ _=>go 3 ?_
   refine Zc J (fun h223=>?_) (fun h223=>?_)
   ·have hrn:x.tmod y<0:=by rw [←hsf];exact(Pg _).1 h223
    refine go 4 ?_
    refine cl 6 [2] (Zl0 _ _) fun _ _=>go 3 ?_
    refine Zc J (fun h224=>?_) (fun h224=>?_)
    ·have hyp0:0<y:=by have h2:=decide_eq_decide.1 (Ge y);omega
     obtain⟨hq,hr⟩:=Ygm hyp0 hrn
     refine Qe (fun _=>False) [(0,0),(1,1),(2,3),(3,3)]<|go 1 ?_
     refine Yz (Zg 7 [] (Ny 1)) fun v_6 _=>r3x (Zg 8 [70,7] (Zf3 _ _ _ _)) fun v_7 _=>go 3 ?_
     refine Qe (fun _=>False) [(0,0),(1,0),(2,0),(3,1),(4,1),(5,3)]<|go 3 ?_
     refine Yz (Zg 9 [8,2] (El _ _ _ _)) fun v_8 _=>Yz (Zg 10 [1,9] (Zf3 _ _ _ _)) fun v_9 _=>go 2 ?_
     exact Yg (Pj 8 75 J J J)<|Yg (Pj 10 76 J J J)<|Pr (v_7,v_9) trivial trivial ⟨by rw [hq];rfl,by rw [hr];rfl,by rw [hq];rfl,by rw [hr];rfl,trivial⟩
    ·have hyn0:y<0:=by have h2:=decide_eq_decide.1 (Ge y);omega
     obtain⟨hq,hr⟩:=Ygn hyn0 hrn
     refine Qe (fun _=>False) [(0,0),(1,1),(2,3),(3,3)]<|go 1 ?_
     refine Yz (Zg 11 [] (Ny 1)) fun v_10 _=>r3x (Zg 12 [70,11] (Zpb _ _ _ _)) fun v_11 _=>go 3 ?_
     refine Qe (fun _=>False) [(0,0),(1,0),(2,0),(3,1),(4,1),(5,3)]<|go 3 ?_
     refine Yz (Zg 13 [12,2] (El _ _ _ _)) fun v_12 _=>Yz (Zg 14 [1,13] (Zf3 _ _ _ _)) fun v_13 _=>go 2 ?_
     exact Yg (Pj 12 75 J J J)<|Yg (Pj 14 76 J J J)<|Pr (v_11,v_13) trivial trivial ⟨by rw [hq];rfl,by rw [hr];rfl,by rw [hq];rfl,by rw [hr];rfl,trivial⟩
   ·have hrn:¬x.tmod y<0:=by rw [←hsf];exact fun h=>h223 ((Pg _).2 h)
    obtain⟨hq,hr⟩:=Ya3 hy0 hrn
    rw [←hsf]at hr
    refine go 1 ?_
    exact Yg (Pj 70 75 J J J)<|Yg (Pj 72 76 J J J)<|Pr (g.1,vr) trivial trivial ⟨by rw [hq];rfl,by rw [hr];rfl,by rw [hq];rfl,by rw [hr];rfl,trivial⟩
  ·rintro⟨v8,v9⟩ -
   dsimp only
   refine go 6 ?_
   refine Ln [97,98] [3]<|Zh (n:=0) [(0,0),(1,0),(2,1),(3,3)]<|go 5 ?_
   refine Zs<|go 2 ?_
   exact Mi hsc (_,_) results202 J trivial (Ot 75 (Ot 76 Za))
end Go.Sky

