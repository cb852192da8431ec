/- Rules, arithmetic and contracts: part 11. No conditions but those that each theorem names. -/
import Derived.Test.YteikicbnfbgpnaaGreatDa09
set_option linter.all false
set_option maxHeartbeats 4000000
namespace Go.Sky
open Go.Proofs.Tryz
open Go.Proofs
set_option synthInstance.maxHeartbeats 0
set_option synthInstance.maxSize 100000
set_option maxRecDepth 20000
set_option maxHeartbeats 4000000
set_option linter.unusedSimpArgs false
theorem Zbo(v u:Value)(xs ys:List Int)(hv:Vp xs)(hu:Vp ys):Pn prog 304 #[v,u] [Yk 2 wv v xs,Yk 2 wv u ys] (.tuple #[.bool (Yfo xs ys),.int .i64 (Fx xs ys)]):=by
 refine Zd func304 ntmps304 fun w0 sc hw hsc=>?_
 have hlen:=hv.len
 have hlen2:=hu.len
 have hm1:=Qu hv.sz
 have hm2:=Qu hu.sz
 refine go 11 ?_
 refine cl 2 [1] (Ys _ _ ‹_›) fun _ _=>go 3 ?_
 refine Hs 2 [2] (Ys _ _ ‹_›) fun _ _=>go 14 ?_
 refine Zc J (fun h297=>?_) (fun h297=>?_)
 ·refine go 9 ?_
  exact Nu hsc () results304 (by unfold Fx Yfo;rw [if_pos O,List.eq_nil_of_length_eq_zero (l:=ys) O];rfl) trivial Za
 ·refine go 10 ?_
  refine Zc J (fun h299=>?_) (fun h299=>?_)
  ·refine go 9 ?_
   exact Nu hsc () results304 (by rw [Zds O,decide_eq_true O];unfold Fx;rw [if_neg O,if_pos O]) trivial Za
  ·have hp3:(xs.length-ys.length+1)*(Xz ys+1)≤26*65537:=Nat.mul_le_mul O O
   have hp4:((xs.length:Int)-(ys.length:Int)+1)*((Xz ys:Int)+1)=(((xs.length-ys.length+1)*(Xz ys+1):Nat):Int):=by rw [Int.natCast_mul];congr 1;omega
   refine go 3 ?_
   refine cl 2 [1] (Py _ _ (by first | exact hv.sz | exact hu.sz)) fun _ _=>go 7 ⟨O,O,?_⟩
   refine cl 2 [2] (Py _ _ (by first | exact hv.sz | exact hu.sz)) fun _ _=>go 7 ⟨O,by rw [hp4];exact⟨O,O⟩,by rw [hp4];exact⟨O,O⟩,?_⟩
   refine Zc J (fun h301=>?_) (fun h301=>?_)
   ·refine go 9 ?_
    exact Nu hsc () results304 (by rw [hp4]at h301;rw [Zds O,decide_eq_false O];unfold Fx;rw [if_neg O,if_neg O,if_pos O]) trivial Za
   ·refine go 10 ?_
    exact Nu hsc () results304 (by rw [hp4]at h301;rw [Zds O,decide_eq_false O];unfold Fx;rw [if_neg O,if_neg O,if_neg O]) trivial Za
theorem Zjn(v u:Value)(xs ys:List Int)(hv:Vp xs)(hu:Vp ys)(hd:Fx xs ys=0):Cal prog 303 #[v,u] [Yk 2 wv v xs,Yk 2 wv u ys] true (G:=Value) (fun r=>True) (fun r=> .tuple #[r,.int .i64 0]) (fun r=>[Yk 2 wv r (Xm xs ys)]):=by
 refine Zd func303 ntmps303 fun w0 sc hw hsc=>?_
 have hlen:=hv.len
 have hlen2:=hu.len
 have hm1:=Qu hv.sz
 have hm2:=Qu hu.sz
 obtain⟨hm0,hF0⟩:=Zbc hd
 have hdl:=Zds (p:=xs) hm0
 refine go 10 ?_
 refine cl 2 [1,2] (Zbo _ _ _ _ hv hu) fun _ _=>go 14 ?_
 refine Zc J (fun h310=>?_) (fun h310=>?_)
 ·exfalso;exact h310 hd
 ·refine go 5 ?_
  refine tt (Zkg (n:=3) (Zul _ _) J J J K1 call305 (Yi 1 J J J Yf) J hw.h) fun v _=>go 9 ?_
  refine My J (fun h314=>?_) (fun h314=>?_)
  ·have hlt:xs.length<ys.length:=by rw [hdl]at h314;simpa using h314
   refine go 9 ?_
   exact Nu hsc _ results303 J trivial (gow 3 Za (by unfold Xm;rw [if_pos hlt]))
  ·have hge:ys.length≤xs.length:=by rw [hdl]at h314;simpa using h314
   have hF:=hF0 hge
   refine go 4 ?_
   refine Yc (Zr 4) fun b _=>go 8 ⟨O,?_⟩
   refine dt (Ym (ii:=2) (i:=(ys.length-1)) J J J J Zk Oh Ln)<|go 1 ⟨O,?_⟩
   refine Yc (Zr 5) fun b_2 _=>go 13 ⟨O,?_⟩
   refine lp (G:=Nat) [1,8,9,10] [0,1,2,4,5] (fun j=>[(11,.int .i64 ((xs.length:Int)-1-(j:Int)))]) (fun j=>[(3,Pu 2 80 wv v (Xy xs ys j))]) (fun j=>j≤xs.length-ys.length+1) (fun j=>xs.length-ys.length+1-j) 0 O1 ⟨by rw [show(xs.length:Int)-1-((0:Nat):Int)=(xs.length:Int)-1 by omega];rfl,trivial⟩ K1 ?_
   rintro j hj
   refine go 10 ⟨O,?_⟩
   refine Zc J (fun h319=>?_) (fun h319=>?_)
   ·obtain⟨hb1,hb2,hb3⟩:=rest_b hF (j:=j) O
    have hRl:=Nl xs ys j
    refine go 8 ?_
    refine dt (Ym (ii:=3) (i:=(xs.length-1-j)) J J J J (Yj pV) Oh Ln)<|go 1 ⟨O,?_⟩
    refine Yc (Zr 6) fun b_3 _=>go 12 ?_
    refine lp (G:=Nat) [1,8,9,10,11,12,51] [0,1,2,4,5,6] (fun i=>[(52,.int .i64 (i:Int))]) (fun i=>[(3,Pu 2 80 wv v (Zfg (Xy xs ys j) (cf ys (ys.length-1)) i))]) (fun i=>i≤xs.length) (fun i=>xs.length-i) 0 O1 K1 ⟨by rw [Zv5];rfl,trivial⟩ ?_
    rintro i hi
    have hg1:i<xs.length→(Zfg (Xy xs ys j) (cf ys (ys.length-1)) i).getD i 0=cf (Xy xs ys j) i:=fun h=>Zzr O
    have hl1:=Zof (Xy xs ys j) (cf ys (ys.length-1)) i
    refine go 6 ?_
    refine Zc J (fun h322=>?_) (fun h322=>?_)
    ·refine go 10 ?_
     refine Qe (fun x=>x=b) [(0,0),(1,0),(2,0),(3,0),(4,0),(5,0),(6,0),(7,1),(8,0),(9,3)]<|go 4 ?_
     refine Qb J J (st1 4 J (Ym (ii:=3) (i:=i) J J J J (Yj pV) Oh Ln J))<|go 2 ⟨O,?_⟩
     refine Bk J (Xp (n:=6) (i:=4) (Gr _ _ _ (by rw [hg1 O];exact hb1 _) (hu.sz _) (by rw [hg1 O];exact hb2 _ _)) J J J K3 call191 J O3 Yf J hw.h J) (fun _ _=>?_)
     refine Qb J J (st1 4 J (Ym (ii:=3) (i:=i) J J J J (Yj pV) Oh Ln J))<|r3' J (Mt (i:=3) (enc:=wv) _ J J J J J J pV J hw.h) fun _ _=>go 7 ⟨O,?_⟩
     exact Xg (i+1) O1 O1 K1 ⟨by rw [←Zzq O,←hg1 O];rfl,trivial⟩
    ·refine go 6 ?_
     obtain rfl:i=xs.length:=O
     refine go 7 ?_
     refine lp (G:=Nat) [1,8,9,10,11,12,65,66] [0,1,2,4,5,6] (fun i=>[(67,.int .i64 (i:Int))]) (fun i=>[(3,Pu 2 80 wv v (Zis ys (Xy xs ys j) (cf ys (ys.length-1)) (cf (Xy xs ys j) (xs.length-1-j)) (xs.length-1-j-(ys.length-1)) i))]) (fun i=>i≤ys.length) (fun i=>ys.length-i) 0 O1 K1 ⟨by rw [←Zvf,hRl];rfl,trivial⟩ ?_
     rintro i hi
     have hg2:i<ys.length→(Zis ys (Xy xs ys j) (cf ys (ys.length-1)) (cf (Xy xs ys j) (xs.length-1-j)) (xs.length-1-j-(ys.length-1)) i).getD ((xs.length-1-j-(ys.length-1))+i) 0=cf (Xy xs ys j) ((xs.length-1-j-(ys.length-1))+i)*(cf ys (ys.length-1)):=fun h=>Zxs O
     have hl2:=Zoe ys (Xy xs ys j) (cf ys (ys.length-1)) (cf (Xy xs ys j) (xs.length-1-j)) (xs.length-1-j-(ys.length-1)) i
     refine go 6 ?_
     refine Zc J (fun h325=>?_) (fun h325=>?_)
     ·refine go 9 ⟨O2,O2,?_⟩
      refine Yc (Zr 7) fun b_4 _=>go 16 ⟨O,O,O,?_⟩
      refine Qe (fun x=>x=b) [(0,0),(1,0),(2,0),(3,0),(4,0),(5,0),(6,0),(7,0),(8,1),(9,1),(10,0),(11,3)]<|go 4 ?_
      refine Qb J J (st1 4 J (Ym (ii:=3) (i:=((xs.length-1-j-(ys.length-1))+i)) J J J J (Yj pV) Oh Ln))<|go 3 ⟨O,?_⟩
      refine Bk J (Xp (n:=7) (i:=4) (Gr _ _ _ (hb1 _) (hu.sz _) (hb2 _ _)) J J J K3 call191 J O3 Yf J hw.h J) (fun _ _=>?_)
      refine Bk J (Xp (n:=7) (i:=4) (Zrb _ _ _ (by rw [hg2 O];exact hb2 _ _) (hb2 _ _) (by rw [hg2 O];exact hb3 _ _ _ _)) J J J K3 call194 J O3 Yf J hw.h J) (fun _ _=>?_)
      refine Qb J J (st1 4 J (Ym (ii:=3) (i:=((xs.length-1-j-(ys.length-1))+i)) J J J J (Yj pV) Oh Ln))<|r3' J (Mt (i:=3) (enc:=wv) _ J J J J J J pV J hw.h) fun _ _=>go 7 ⟨O,?_⟩
      exact Xg (i+1) O1 O1 K1 ⟨by rw [←Zxr O,←hg2 O];rfl,trivial⟩
     ·refine go 11 ⟨O,?_⟩
      obtain rfl:i=ys.length:=O
      exact Xg (j+1) O1 O1 ⟨by rw [show(xs.length:Int)-1-((j+1:Nat):Int)=(xs.length:Int)-1-(j:Int)-1 by omega];rfl,trivial⟩ ⟨by rfl,trivial⟩
   ·refine go 6 ?_
    obtain rfl:j=xs.length-ys.length+1:=O
    refine Zi (Pg 3 J J pV)<|go 2 ?_
    refine tt (Xp (n:=8) (i:=4) (Cp _ _ _ (Zm3 hF)) J J J K2 call192 J O3 (Yi 3 J J J Yf) J hw.h trivial) fun _ _=>go 7 ?_
    exact Nu hsc _ results303 J trivial (Nz 8 Za (by unfold Xm;rw [if_neg O]<;>rfl))
theorem Ap(v u:Value)(xs ys:List Int)(hv:Vp xs)(hu:Vp ys)(hd:Fx xs ys=0):Cal prog 287 #[v,u] [Yk 2 wv v xs,Yk 2 wv u ys] true (G:=Value) (fun r=>True) (fun r=> .tuple #[r,.int .i64 (if pdv xs ys then 0 else 10)]) (fun r=>[Yk 2 wv r (if pdv xs ys then Ly xs ys else [])]):=by
 refine Zd func287 ntmps287 fun w0 sc hw hsc=>?_
 have hlen:=hv.len
 have hlen2:=hu.len
 have hm1:=Qu hv.sz
 have hm2:=Qu hu.sz
 obtain⟨hm0,hF0⟩:=Zbc hd
 have hdl:=Zds (p:=xs) hm0
 have hyz:cf ys (ys.length-1)≠0:=hu.tr.mem (fun e=>hm0 (by rw [e];rfl))
 refine go 10 ?_
 refine cl 2 [1,2] (Zbo _ _ _ _ hv hu) fun _ _=>go 16 ?_
 refine Zc J (fun h337=>?_) (fun h337=>?_)
 ·exfalso;exact h337 hd
 ·refine go 8 ?_
  refine Zc J (fun h339=>?_) (fun h339=>?_)
  ·refine go 9 ?_
   have hx0:xs=[]:=List.eq_nil_of_length_eq_zero O
   have hp:pdv xs ys:= .inl hx0
   exact Nu hsc _ results287 (by rw [if_pos hp]) trivial (Nn (by rw [if_pos hp,hx0];rfl) Za)
  ·have hnx:xs≠[]:=fun e=>by rw [e]at h339;simp at h339
   refine go 6 ?_
   refine My J (fun h341=>?_) (fun h341=>?_)
   ·have hlt:xs.length<ys.length:=by rw [hdl]at h341;simpa using h341
    refine go 9 ?_
    have hp:¬pdv xs ys:=fun h=>by rcases h with h | h;(exact hnx h);(have:=h.1;omega)
    exact Nu hsc _ results287 (by rw [if_neg hp]) trivial (Nn (if_neg hp) Za)
   ·have hge:ys.length≤xs.length:=by rw [hdl]at h341;simpa using h341
    have hF:=hF0 hge
    refine go 5 ?_
    refine Yc (Zr 3) fun b _=>go 5 ?_
    refine tt (Zkg (n:=4) (Zul _ _) J J J K1 call305 (Yi 1 J J J Yf) J hw.h) fun v _=>go 11 ⟨O,O,?_⟩
    refine tt (He (i:=5) (n:=(xs.length-ys.length+1)) (by_:=24) (enc:=wv) 0 J J J J Oh ti80 J pV.cells pV.pos J J J hw.h) fun v_2 _=>go 13 ⟨⟨by simp only [List.length_replicate];omega,by simp only [List.length_replicate];omega⟩,?_⟩
    refine lp (G:=Nat) [1,8,9,10] [0,1,2,3] (fun j=>[(11,.int .i64 ((xs.length:Int)-(ys.length:Int)-(j:Int)))]) (fun j=>[(4,Pu 2 80 wv v (Qc xs ys j)),(5,Pu 2 80 wv v_2 (Zep xs ys j))]) (fun j=>(j≤xs.length-ys.length+1)∧(∀k,xs.length-ys.length<k+j→k≤xs.length-ys.length→Lx xs ys k)) (fun j=>xs.length-ys.length+1-j) 0 ⟨O1,fun k h1 h2=>O⟩ ⟨by simp only [List.length_replicate];exact congrArg some (Zac O),trivial⟩ ⟨J,by rw [Zwq];rfl,trivial⟩ ?_
    rintro j ⟨hj,hx⟩
    have hol:=Az xs ys j
    refine go 7 ?_
    refine Zc J (fun h347=>?_) (fun h347=>?_)
    ·obtain⟨hb1,hb5⟩:=div_b hF (j:=j) O hx
     have hRl:=Dw xs ys j
     have hi1:xs.length-ys.length-j+ys.length-1<xs.length:=O
     refine go 4 ?_
     refine jn (G:=Nat×Nat) [1,8,9,10,11] [0,4,5,1,2,3] (fun q=>[(12,.pointer (some ⟨q.1,0,none⟩)),(13,.pointer (some ⟨q.2,0,none⟩)),(14,.int .i64 0)]) (fun q=>[(97,box q.1 80 (wc (Cr (dq ys (Qc xs ys j) (xs.length-ys.length-j))))),(98,box q.2 80 (wc (Cr (cf (Qc xs ys j) ((xs.length-ys.length-j)+ys.length-1)%cf ys (ys.length-1)))))]) (fun q=>True) ?_ ?_
     ·refine Il [2,4] [23]<|Zl (n:=10) [(0,0),(1,0),(2,0),(3,0),(4,0),(5,0),(6,0),(7,0),(8,0),(9,0),(10,0),(11,0),(12,0),(13,0)]<|go 6 ⟨O,O,?_⟩
      refine Qb J J (Ai (Ym (ii:=4) (i:=((xs.length-ys.length-j)+ys.length-1)) J J J J (Yj pV) Oh Ln) K2)<|go 5 ⟨O,O,?_⟩
      refine Qb J J (Ai (Ym (ii:=2) (i:=(ys.length-1)) J J J J Zk Oh Ln) K2)<|go 2 ⟨O,?_⟩
      refine Zj7 (n:=9) 14 19 20 ?_ ?_ ?_
      ·refine Np (Zf 5 [] (Ec _ _ (hb1 _) (hu.sz _) hyz)) fun _ _=>?_
       refine Zl (n:=5) [(15,0),(16,0),(17,0),(18,0)]<|go 5 ?_
       refine Qw (n:=4) 19 20 ?_ ?_
       ·refine Np (Nm 97) fun b_2 ho=>?_
        refine Zl (n:=0) [(20,1),(21,1),(22,1),(23,3)]<|Yz (Nm 98) fun b_3 ho2=>go 4 ?_
        exact Zw<|On (_,_) trivial K3 K2
       ·refine Np (Nm 98) fun b_4 ho3=>?_
        refine Zl (n:=0) [(19,1),(21,1),(22,1),(23,3)]<|Yz (Nm 97) fun b_5 ho4=>go 4 ?_
        exact Zw<|On (_,_) trivial K3 K2
      ·refine Np (Nm 97) fun b_6 ho5=>?_
       refine Qw (n:=8) 14 20 ?_ ?_
       ·refine Np (Zf 5 [] (Ec _ _ (hb1 _) (hu.sz _) hyz)) fun _ _=>?_
        refine Zl (n:=0) [(15,0),(16,0),(17,0),(18,0),(20,1),(21,1),(22,1),(23,3)]<|go 4 ?_
        refine Yz (Nm 98) fun b_7 ho6=>go 4 ?_
        exact Zw<|On (_,_) trivial K3 K2
       ·refine Np (Nm 98) fun b_8 ho7=>?_
        refine Zl (n:=0) [(14,1),(15,0),(16,0),(17,0),(18,0),(21,1),(22,1),(23,3)]<|Yz (Zf 5 [] (Ec _ _ (hb1 _) (hu.sz _) hyz)) fun _ _=>go 8 ?_
        exact Zw<|On (_,_) trivial K3 K2
      ·refine Np (Nm 98) fun b_9 ho8=>?_
       refine Qw (n:=8) 14 19 ?_ ?_
       ·refine Np (Zf 5 [] (Ec _ _ (hb1 _) (hu.sz _) hyz)) fun _ _=>?_
        refine Zl (n:=0) [(15,0),(16,0),(17,0),(18,0),(19,1),(21,1),(22,1),(23,3)]<|go 4 ?_
        refine Yz (Nm 97) fun b_10 ho9=>go 4 ?_
        exact Zw<|On (_,_) trivial K3 K2
       ·refine Np (Nm 97) fun b_11 ho10=>?_
        refine Zl (n:=0) [(14,1),(15,0),(16,0),(17,0),(18,0),(21,1),(22,1),(23,3)]<|Yz (Zf 5 [] (Ec _ _ (hb1 _) (hu.sz _) hyz)) fun _ _=>go 8 ?_
        exact Zw<|On (_,_) trivial K3 K2
     ·rintro⟨b7,b8⟩ -
      dsimp only
      refine go 7 ?_
      refine Zc J (fun h349=>?_) (fun h349=>?_)
      ·exfalso;exact h349 rfl
      ·refine go 6 ?_
       refine cl 5 [] (Lt _ (Yf6 _)) fun _ _=>go 3 ?_
       refine Zc J (fun h352=>?_) (fun h352=>?_)
       ·have hne:¬Lx xs ys (xs.length-ys.length-j):=fun he=>h352 (by rw [Zpj hyz (hu.sz _),(Zo3 O).1 he];rfl)
        refine go 13 ?_
        have hp:¬pdv xs ys:=fun h=>by rcases h with h | h;(exact hnx h);(exact hne (h.2.1 _ O))
        exact Nu hsc _ results287 (by rw [if_neg hp]) trivial (Nn (if_neg hp) Za)
       ·have hde:Lx xs ys (xs.length-ys.length-j):=(Zo3 O).2 (by have h0:=Decidable.byContradiction h352;rw [Zpj hyz (hu.sz _)]at h0;exact Int.sign_eq_zero_iff_zero.1 h0)
        obtain⟨hb2,hb3,hb4⟩:=hb5 hde
        refine Zi (Mv 97 (q:=box b7 80 (wc (dq ys (Qc xs ys j) (xs.length-ys.length-j)))) (by rw [Ll hb2]) J J)<|go 7 ?_
        refine dt (Ym (ii:=5) (i:=(xs.length-ys.length-j)) J J J J (Yj pV) Oh Ln)<|tt (Mt (i:=5) (enc:=wv) _ J J J J J J pV J hw.h) fun _ _=>go 10 ?_
        refine lp (G:=Nat) [1,8,9,10,11,12,78,79] [0,97,98,5,1,2,3] (fun i=>[(80,.int .i64 (i:Int))]) (fun i=>[(4,Pu 2 80 wv v (Zi0 ys (Qc xs ys j) (dq ys (Qc xs ys j) (xs.length-ys.length-j)) (xs.length-ys.length-j) i))]) (fun i=>i≤ys.length) (fun i=>ys.length-i) 0 O1 K1 ⟨by rw [←Zwo];rfl,trivial⟩ ?_
        rintro i hi
        have hg2:i<ys.length→(Zi0 ys (Qc xs ys j) (dq ys (Qc xs ys j) (xs.length-ys.length-j)) (xs.length-ys.length-j) i).getD ((xs.length-ys.length-j)+i) 0=cf (Qc xs ys j) ((xs.length-ys.length-j)+i):=fun h=>Ya8 O
        have hl2:=Zog ys (Qc xs ys j) (dq ys (Qc xs ys j) (xs.length-ys.length-j)) (xs.length-ys.length-j) i
        refine go 6 ?_
        refine Zc J (fun h356=>?_) (fun h356=>?_)
        ·refine go 9 ⟨O2,O2,?_⟩
         refine Yc (Zr 6) fun b_12 _=>go 4 ?_
         refine Qe (fun x=>x=b) [(0,0),(1,0),(2,0),(3,0),(4,0),(5,0),(6,0),(7,0),(8,0),(9,0),(10,0),(11,0),(12,1),(13,1),(14,0),(15,3)]<|go 8 ⟨O,O,?_⟩
         refine Qb J J (st1 3 J (Ym (ii:=4) (i:=((xs.length-ys.length-j)+i)) J J J J (Yj pV) Oh Ln))<|go 3 ⟨O,?_⟩
         refine Bk J (Xp (n:=6) (i:=3) (Gr _ _ _ hb2 (hu.sz _) (hb3 _)) J J J K3 call191 J O3 Yf J hw.h J) (fun _ _=>?_)
         refine Bk J (Xp (n:=6) (i:=3) (Zrb _ _ _ (by rw [hg2 O];exact hb1 _) (hb3 _) (by rw [hg2 O];exact hb4 _ _)) J J J K3 call194 J O3 Yf J hw.h J) (fun _ _=>?_)
         refine Qb J J (st1 3 J (Ym (ii:=4) (i:=((xs.length-ys.length-j)+i)) J J J J (Yj pV) Oh Ln))<|r3' J (Mt (i:=4) (enc:=wv) _ J J J J J J pV J hw.h) fun _ _=>go 7 ⟨O,?_⟩
         exact Xg (i+1) O1 O1 K1 ⟨by rw [←Ya7 O,←hg2 O];rfl,trivial⟩
        ·refine go 11 ⟨O,?_⟩
         obtain rfl:i=ys.length:=O
         exact Xg (j+1) ⟨O1,fun k h1 h2=>by rcases Nat.lt_or_ge (xs.length-ys.length) (k+j)with h3 | h3;(exact hx k h3 h2);(rw [show k=xs.length-ys.length-j by omega];exact hde)⟩ O1 ⟨by rw [show(xs.length:Int)-(ys.length:Int)-((j+1:Nat):Int)=(xs.length:Int)-(ys.length:Int)-(j:Int)-1 by omega];rfl,trivial⟩ ⟨by rfl,by rw [←Ybb O];rfl,trivial⟩
    ·refine go 7 ?_
     obtain rfl:j=xs.length-ys.length+1:=O
     have hall:∀k,k≤xs.length-ys.length→Lx xs ys k:=fun k hk=>hx k O hk
     refine Zi (Pg 4 J J pV)<|go 6 ?_
     refine Yv (d:=105) J (fun s360=>?_) (fun s360=>?_)
     ·refine go 1 ?_
      refine Hs 7 [4] (Za1 _ _ (Zxp hF hall)) fun _ _=>go 5 ?_
      refine Zc J (fun h360=>?_) (fun h360=>?_)
      ·refine go 8 ?_
       have hp:¬pdv xs ys:=fun h=>by rcases h with h | h;(exact hnx h);(rw [h.2.2]at h360;simp at h360)
       exact Nu hsc _ results287 (by rw [if_neg hp]) trivial (Nn (if_neg hp) Za)
      ·refine go 3 ?_
       refine Zi (Pg 5 J J pV)<|go 2 ?_
       refine tt (Xp (n:=8) (i:=3) (Cp _ _ _ (Zsb hF hall _)) J J J K2 call192 J O3 (Yi 5 J J J Yf) J hw.h trivial) fun _ _=>go 7 ?_
       have hp:pdv xs ys:= .inr ⟨hge,hall,List.eq_nil_of_length_eq_zero O⟩
       exact Nu hsc _ results287 (by rw [if_pos hp]<;>rfl) trivial (Nz 8 Za (by rw [if_pos hp,Znu hnx,←Zdr]<;>rfl))
     ·exfalso;exact s360 rfl
theorem Zky(v:Value)(xs:List Int)(x y z:Int)(hv:Vp xs)(hx:bl x.natAbs≤65536)(hy:bl y.natAbs≤65536)(hz:bl z.natAbs≤65536)(hz0:0<z)(hE:¬Zh8 xs x y z):Cal prog 271 #[v,wv x,wv y,wv z] [Yk 2 wv v xs] true (G:=Value) (fun r=>True) (fun r=> .tuple #[r,.int .i64 0]) (fun r=>[Yk 2 wv r (Lc xs x y z)]):=by
 refine Zd func271 ntmps271 fun w0 sc hw hsc=>?_
 have hlen:=hv.len
 refine go 2 ?_
 refine Yc (Yb 2) fun b _=>Yc (Yb 3) fun b_2 _=>Yc (Yb 4) fun b_3 _=>go 8 ?_
 refine cl 4 [1] (Ys _ _ ‹_›) fun _ _=>go 3 ?_
 refine Hs 4 [] (Mi _ ‹_›) fun _ _=>go 4 ?_
 refine Hs 4 [] (Mi _ ‹_›) fun _ _=>go 4 ?_
 refine Hs 4 [] (Mi _ ‹_›) fun _ _=>go 11 ?_
 refine cl 4 [] (Lt _ hz) fun _ _=>go 3 ?_
 refine Zc J (fun h232=>?_) (fun h232=>?_)
 ·exfalso;have h2:=decide_eq_decide.1 (Bg z);omega
 ·refine go 10 ?_
  refine Zc J (fun h235=>?_) (fun h235=>?_)
  ·refine go 8 ?_
   exact Nu hsc _ results271 J trivial (Nn (by unfold Lc;rw [if_pos O]) Za)
  ·have hne:xs≠[]:=fun e=>by rw [e]at h235;simp at h235
   have hm1:=Qu hv.sz
   have hsxy:Sz 65536 [x,y,z]:=Sz.of_mem (by intro q hq;simp at hq;rcases hq with rfl | rfl | rfl<;>assumption)
   have hm2:=Qu hsxy
   have hm3:(xs.length-1)*(Xz [x,y,z]+1)≤24*65537:=Nat.mul_le_mul O O
   have hm4:((xs.length:Int)-1)*((Xz [x,y,z]:Int)+1)=(((xs.length-1)*(Xz [x,y,z]+1):Nat):Int):=by rw [Int.natCast_mul];congr 1;omega
   refine go 3 ?_
   refine jn (G:=Unit) [0,5,6,7] [0,1,2,3,4] (fun _=>[(55,.bool (decide ((65536:Int)<(Xz xs:Int)+((xs.length:Int)-1)*((Xz [x,y,z]:Int)+1)+8)))]) (fun _=>[]) (fun _=>True) ?_ ?_
   ·refine Im (fun _=>False) []<|Zl (n:=8) [(0,0),(2,0),(3,0),(4,0),(5,0),(6,0),(7,0)]<|go 8 ⟨O,?_⟩
    refine Qw (n:=7) 1 8 ?_ ?_
    ·refine Np (Zf 4 [1] (Py _ _ (by first | exact hv.sz | exact hsxy))) fun _ _=>?_
     refine Zl (n:=0) [(8,1),(9,1),(10,0),(11,0),(12,0),(13,0),(14,0)]<|Bk J (Qz (i:=90) (ivs:=[(0,_),(1,_),(2,_)]) (enc:=wv) [x,y,z] J J K6 Ydd ti80 J J (fill3 _ _ _ _ _ _ _ _) J J pV.cells J J hw.h) fun v _=>Yz (Zf 4 [90] (Py _ _ (by first | exact hv.sz | exact hsxy))) fun _ _=>go 6 ⟨O,by rw [hm4];exact⟨O,O⟩,by rw [hm4];exact⟨O,O⟩,by rw [hm4];exact⟨O,O⟩,?_⟩
     exact Zw<|On () trivial K1 trivial
    ·refine Zar J (Qz (i:=90) (ivs:=[(0,_),(1,_),(2,_)]) (enc:=wv) [x,y,z] J J K6 Ydd ti80 J J (fill3 _ _ _ _ _ _ _ _) J J pV.cells J J hw.h) (fun v_2 _=>?_)
     refine Zl (n:=0) [(1,1),(9,1),(10,0),(11,0),(12,0),(13,0),(14,0)]<|Yz (Zf 4 [1] (Py _ _ (by first | exact hv.sz | exact hsxy))) fun _ _=>Yz (Zf 4 [90] (Py _ _ (by first | exact hv.sz | exact hsxy))) fun _ _=>go 6 ⟨O,by rw [hm4];exact⟨O,O⟩,by rw [hm4];exact⟨O,O⟩,by rw [hm4];exact⟨O,O⟩,?_⟩
     exact Zw<|On () trivial K1 trivial
   ·rintro _ -
    refine Zc J (fun h238=>?_) (fun h238=>?_)
    ·exfalso;exact hE ⟨hne,by rw [hm4]at h238;omega⟩
    ·have hF:Xz xs+(xs.length-1)*(Xz [x,y,z]+1)+8≤65536:=by rw [hm4]at h238;omega
     refine go 4 ?_
     refine Yc (Zr 5) fun b_4 _=>go 2 ?_
     refine jn (G:=Value×Nat) [0,5,6,7,10] [0,1,2,3,4,5] (fun q=>[(11,q.1),(12,.pointer (some ⟨q.2,0,none⟩))]) (fun q=>[(70,Pu 2 80 wv q.1 (Ni xs x y z 0)),(98,box q.2 80 (wc 1))]) (fun q=>True) ?_ ?_
     ·refine Im (fun _=>False) [9,10]<|Zl (n:=5) [(0,0),(1,0),(2,0),(3,0),(4,0),(5,0)]<|go 4 ⟨O,?_⟩
      refine Qb J J (Ph (Ym (ii:=1) (i:=(xs.length-1)) J J J J Zk Oh Ln))<|go 2 ⟨O,?_⟩
      refine Zj7 (n:=4) 6 7 8 ?_ ?_ ?_
      ·refine Zar J (Qz (i:=70) (ivs:=[(0,_)]) (enc:=wv) [cf xs (xs.length-1)] J J K2 Oh ti80 J J J J J pV.cells J J hw.h) (fun v_3 _=>?_)
       refine Qw (n:=3) 7 8 ?_ ?_
       ·refine Np (Zf 5 [] (Zh _ (by first | assumption | exact⟨O,O⟩))) fun _ _=>?_
        refine Zl (n:=0) [(8,1),(9,3),(10,3)]<|Yz (Zr 98) fun b_5 _=>go 3 ?_
        exact Zw<|On (_,_) trivial K2 ⟨by rw [Gt];rfl,rfl,trivial⟩
       ·refine Np (Zr 98) fun b_6 _=>?_
        refine Zl (n:=0) [(7,1),(9,3),(10,3)]<|Yz (Zf 5 [] (Zh _ (by first | assumption | exact⟨O,O⟩))) fun _ _=>go 3 ?_
        exact Zw<|On (_,_) trivial K2 ⟨by rw [Gt];rfl,rfl,trivial⟩
      ·refine Np (Zf 5 [] (Zh _ (by first | assumption | exact⟨O,O⟩))) fun _ _=>?_
       refine Qw (n:=3) 6 8 ?_ ?_
       ·refine Zar J (Qz (i:=70) (ivs:=[(0,_)]) (enc:=wv) [cf xs (xs.length-1)] J J K2 Oh ti80 J J J J J pV.cells J J hw.h) (fun v_4 _=>?_)
        refine Zl (n:=0) [(8,1),(9,3),(10,3)]<|Yz (Zr 98) fun b_7 _=>go 3 ?_
        exact Zw<|On (_,_) trivial K2 ⟨by rw [Gt];rfl,rfl,trivial⟩
       ·refine Np (Zr 98) fun b_8 _=>?_
        refine Zl (n:=0) [(6,1),(9,3),(10,3)]<|Bk J (Qz (i:=70) (ivs:=[(0,_)]) (enc:=wv) [cf xs (xs.length-1)] J J K2 Oh ti80 J J J J J pV.cells J J hw.h) fun v_5 _=>go 3 ?_
        exact Zw<|On (_,_) trivial K2 ⟨by rw [Gt];rfl,rfl,trivial⟩
      ·refine Np (Zr 98) fun b_9 _=>?_
       refine Qw (n:=3) 6 7 ?_ ?_
       ·refine Zar J (Qz (i:=70) (ivs:=[(0,_)]) (enc:=wv) [cf xs (xs.length-1)] J J K2 Oh ti80 J J J J J pV.cells J J hw.h) (fun v_6 _=>?_)
        refine Zl (n:=0) [(7,1),(9,3),(10,3)]<|Yz (Zf 5 [] (Zh _ (by first | assumption | exact⟨O,O⟩))) fun _ _=>go 3 ?_
        exact Zw<|On (_,_) trivial K2 ⟨by rw [Gt];rfl,rfl,trivial⟩
       ·refine Np (Zf 5 [] (Zh _ (by first | assumption | exact⟨O,O⟩))) fun _ _=>?_
        refine Zl (n:=0) [(6,1),(9,3),(10,3)]<|Bk J (Qz (i:=70) (ivs:=[(0,_)]) (enc:=wv) [cf xs (xs.length-1)] J J K2 Oh ti80 J J J J J pV.cells J J hw.h) fun v_7 _=>go 3 ?_
        exact Zw<|On (_,_) trivial K2 ⟨by rw [Gt];rfl,rfl,trivial⟩
     ·rintro⟨vo,b8⟩ -
      dsimp only
      refine go 10 ⟨O,?_⟩
      refine lp (G:=Nat×Value) [0,5,6,7,10,12] [0,1,2,3,4,5] (fun q=>[(13,.int .i64 ((xs.length:Int)-2-(q.1:Int))),(11,q.2)]) (fun q=>[(70,Pu 2 80 wv q.2 (Ni xs x y z q.1)),(98,box b8 80 (wc (z^q.1)))]) (fun q=>q.1≤xs.length-1) (fun q=>xs.length-1-q.1) (0,vo) O1 ⟨by rw [show(xs.length:Int)-2-((0:Nat):Int)=(xs.length:Int)-2 by omega];rfl,rfl,trivial⟩ ⟨J,by rw [Int.pow_zero];rfl,trivial⟩ ?_
      rintro⟨j,vo⟩ hj
      dsimp only at hj
      dsimp only
      refine go 7 ?_
      refine Zc J (fun h243=>?_) (fun h243=>?_)
      ·obtain⟨c1,c2,c3,c4,c5,c6,c7,c8,c9⟩:=cp_all hF (j:=j) O
       have hcl:=Zaa xs x y z j
       refine go 8 ?_
       refine tt (Xp (n:=5) (i:=5) (Gr _ _ _ c1 hz (by rw [←Int.pow_succ];exact c2)) J J J K3 call191 J O3 Yf J hw.h trivial) fun _ _=>go 8 ⟨O,?_⟩
       refine tt (He (i:=71) (n:=((Ni xs x y z j).length+1)) (by_:=24) (enc:=wv) 0 J J J J Oh ti80 J pV.cells pV.pos J J J hw.h) fun v_8 _=>go 12 ?_
       refine lp (G:=Nat) [0,5,6,7,10,12,13,14,78,79] [0,70,98,1,2,3,4,5] (fun i=>[(80,.int .i64 (i:Int))]) (fun i=>[(71,Pu 2 80 wv v_8 (cnx (Ni xs x y z j) x y i))]) (fun i=>i≤(Ni xs x y z j).length) (fun i=>(Ni xs x y z j).length-i) 0 O1 K1 ⟨by rw [Ybx];rfl,trivial⟩ ?_
       rintro i hi
       have hg1:i<(Ni xs x y z j).length→(cnx (Ni xs x y z j) x y i).getD i 0=if i=0 then 0 else cf (Ni xs x y z j) (i-1)*y:=fun h=>Zuj h
       have hl1:=Km (Ni xs x y z j) x y i
       refine go 6 ?_
       refine Zc J (fun h247=>?_) (fun h247=>?_)
       ·refine go 9 ⟨O2,O2,?_⟩
        refine Yc (Zr 6) fun b_10 _=>go 5 ?_
        refine Qe (fun x=>x=b_4) [(0,0),(1,0),(2,0),(3,0),(4,0),(5,0),(6,0),(7,0),(8,1),(9,1),(10,0),(11,3)]<|go 4 ?_
        refine Qb J J (st1 5 J (Ym (ii:=71) (i:=i) J J J J (Yj pV) Oh Ln J))<|go 3 ⟨O,?_⟩
        refine Bk J (Xp (n:=6) (i:=5) (Gr _ _ _ (c3 _) hx (c4 _)) J J J K3 call191 J O3 Yf J hw.h J) (fun _ _=>?_)
        refine Bk J (Xp (n:=6) (i:=5) (Zh4 _ _ _ (by rw [hg1 O];exact c6 i) (c4 _) (by rw [hg1 O];exact c7 i)) J J J K3 call196 J O3 Yf J hw.h J) (fun _ _=>?_)
        refine Qb J J (st1 5 J (Ym (ii:=71) (i:=i) J J J J (Yj pV) Oh Ln J))<|r3' J (Mt (i:=71) (enc:=wv) _ J J J J J J pV J hw.h) fun _ _=>go 8 ⟨O,?_⟩
        refine tt (Xp (n:=6) (i:=5) (Gr _ _ _ (c3 _) hy (c5 _)) J J J K3 call191 J O3 Yf J hw.h trivial) (fun _ _=>?_)
        refine dt (Ym (ii:=71) (i:=(i+1)) J J J J (Yj pV) Oh Ln O (by rw [List.length_set];omega))<|tt (Mt (i:=71) (enc:=wv) _ J J J J J J pV J hw.h O3 (by rw [List.length_set];omega)) fun _ _=>go 7 ⟨O,?_⟩
        exact Xg (i+1) O1 O1 K1 ⟨by rw [←Yfx O];rfl,trivial⟩
       ·refine go 6 ?_
        obtain rfl:i=(Ni xs x y z j).length:=O
        have hg0:(cnx (Ni xs x y z j) x y (Ni xs x y z j).length).getD 0 0=cf (Ni xs x y z j) 0*x:=Zpg O
        refine Qe (fun x=>x=b_4) [(0,0),(1,0),(2,0),(3,0),(4,0),(5,0),(6,0),(7,0),(8,0),(9,1),(10,1),(11,0),(12,3)]<|go 6 ⟨O,O,?_⟩
        refine Qb J J (st1 5 J (Ym (ii:=1) (i:=(xs.length-2-j)) J J J J Zk Oh Ln))<|go 2 ⟨O,?_⟩
        refine Bk J (Xp (n:=6) (i:=5) (Gr _ _ _ (hv.sz _) (by rw [←Int.pow_succ];exact c2) (by rw [←Int.pow_succ];exact c8)) J J J K3 call191 J O3 Yf J hw.h J) (fun _ _=>?_)
        refine Bk J (Xp (n:=6) (i:=5) (Zh4 _ _ _ (by rw [hg0];exact c4 0) (by rw [←Int.pow_succ];exact c8) (by rw [hg0,←Int.pow_succ];exact c9)) J J J K3 call196 J O3 Yf J hw.h J) fun _ _=>go 1 ⟨O,?_⟩
        refine r3' J (Mt (i:=71) (enc:=wv) _ J J J J J J pV J hw.h) fun _ _=>go 13 ⟨O,?_⟩
        exact Yw (s_move 71 70 J J J J)<|Xg (j+1,_) O1 O1 ⟨by rw [show(xs.length:Int)-2-((j+1:Nat):Int)=(xs.length:Int)-2-(j:Int)-1 by omega];rfl,rfl,trivial⟩ ⟨by rw [Yfy O];simp only [←Int.pow_succ];rfl,by rw [Int.pow_succ];rfl,trivial⟩
      ·refine go 6 ?_
       obtain rfl:j=xs.length-1:=O
       refine Zi (Pg 70 J J pV)<|go 2 ?_
       refine tt (Xp (n:=7) (i:=5) (Cp _ _ _ (Yfv hF)) J J J K2 call192 J O3 (Yi 70 J J J Yf) J hw.h trivial) fun _ _=>go 7 ?_
       exact Nu hsc _ results271 J trivial (Nz 7 Za (by unfold Lc;rw [if_neg O]<;>rfl))
theorem Zny(v u:Value)(xs ys:List Int)(hv:Vp xs)(hu:Vp ys)(F:Nat)(hg:¬Zjx xs ys)(hok:eok F (gA xs ys) (gB xs ys)):Cal prog 286 #[v,u] [Yk 2 wv v xs,Yk 2 wv u ys] true (G:=Value) (fun r=>True) (fun r=> .tuple #[r,.int .i64 0]) (fun r=>[Yk 2 wv r (Ok F xs ys)]):=by
 refine Zd func286 ntmps286 fun w0 sc hw hsc=>?_
 have hlen:=hv.len
 have hlen2:=hu.len
 have hm1:=Qu hv.sz
 have hm2:=Qu hu.sz
 have hpx:=Zo xs
 have hpy:=Zo ys
 have hN2:(max xs.length ys.length+2)*(max xs.length ys.length+2)≤27*27:=Nat.mul_le_mul O O
 have hN3:(max xs.length ys.length+2)*(max xs.length ys.length+2)*(max (Xz xs) (Xz ys)+8)≤27*27*65544:=Nat.mul_le_mul hN2 O
 have hN4:(max (xs.length:Int) (ys.length:Int)+2)*(max (xs.length:Int) (ys.length:Int)+2)=(((max xs.length ys.length+2)*(max xs.length ys.length+2):Nat):Int):=by rw [Int.natCast_mul,show(((max xs.length ys.length+2):Nat):Int)=(max (xs.length:Int) (ys.length:Int)+2) by omega]
 have hN5:(max (xs.length:Int) (ys.length:Int)+2)*(max (xs.length:Int) (ys.length:Int)+2)*(max (Xz xs:Int) (Xz ys:Int)+8)=(((max xs.length ys.length+2)*(max xs.length ys.length+2)*(max (Xz xs) (Xz ys)+8):Nat):Int):=by rw [hN4,Int.natCast_mul ((max xs.length ys.length+2)*(max xs.length ys.length+2)),show((max (Xz xs) (Xz ys)+8:Nat):Int)=max (Xz xs:Int) (Xz ys:Int)+8 by omega]
 refine go 10 ?_
 refine cl 2 [1] (Ys _ _ ‹_›) fun _ _=>go 3 ?_
 refine Hs 2 [2] (Ys _ _ ‹_›) fun _ _=>go 14 ?_
 refine dt (Zfb J J J)<|go 4 ⟨O,?_⟩
 refine jn (G:=Unit) [0,1] [0,1,2] (fun _=>[(46,.bool (decide (Zjx xs ys)))]) (fun _=>[]) (fun _=>True) ?_ ?_
 ·refine go 5 ?_
  refine Yv (d:=29) J (fun s371=>?_) (fun s371=>?_)
  ·refine go 5 ?_
   refine Yv (d:=34) J (fun s371_2=>?_) (fun s371_2=>?_)
   ·refine go 4 ⟨by rw [hN4];exact⟨O,O⟩,?_⟩
    refine Hs 2 [1] (Py _ _ (by first | exact hv.sz | exact hu.sz)) fun _ _=>go 1 ?_
    refine Hs 2 [2] (Py _ _ (by first | exact hv.sz | exact hu.sz)) fun _ _=>?_
    refine Da (Zfb J J J) J J<|go 5 ⟨O,by rw [hN5];exact⟨O,O⟩,?_⟩
    exact On () trivial ⟨by first | (rw [hN5];exact congrArg some (vB (decide_eq_decide.2 ⟨fun h=>⟨O,O,O⟩,fun h=>by have:=h.2.2;omega⟩))) | exact congrArg some (vB (decide_eq_false (fun h=>by have h1:=h.1;have h2:=h.2.1;omega)).symm),trivial⟩ trivial
   ·refine go 13 ?_
    exact On () trivial ⟨by first | (rw [hN5];exact congrArg some (vB (decide_eq_decide.2 ⟨fun h=>⟨O,O,O⟩,fun h=>by have:=h.2.2;omega⟩))) | exact congrArg some (vB (decide_eq_false (fun h=>by have h1:=h.1;have h2:=h.2.1;omega)).symm),trivial⟩ trivial
  ·refine go 18 ?_
   exact On () trivial ⟨by first | (rw [hN5];exact congrArg some (vB (decide_eq_decide.2 ⟨fun h=>⟨O,O,O⟩,fun h=>by have:=h.2.2;omega⟩))) | exact congrArg some (vB (decide_eq_false (fun h=>by have h1:=h.1;have h2:=h.2.1;omega)).symm),trivial⟩ trivial
 ·rintro _ -
  refine Zc J (fun h371=>?_) (fun h371=>?_)
  ·exfalso;exact hg h371
  ·refine go 5 ?_
   refine cl 3 [1] (Oj _ _ hv) fun _ _=>go 14 ?_
   refine Zc J (fun h375=>?_) (fun h375=>?_)
   ·exfalso;exact h375 rfl
   ·refine go 5 ?_
    refine cl 4 [2] (Oj _ _ hu) fun _ _=>go 14 ?_
    refine Zc J (fun h379=>?_) (fun h379=>?_)
    ·exfalso;exact h379 rfl
    ·refine go 2 ?_
     refine jn (G:=Value×Value) [] [0,1,2,3,4] (fun q=>[(7,q.1),(9,q.2)]) (fun q=>[(80,Yk 2 wv q.1 (gA xs ys)),(81,Yk 2 wv q.2 (gB xs ys))]) (fun q=>True) ?_ ?_
     ·refine go 9 ?_
      refine Zc J (fun h382=>?_) (fun h382=>?_)
      ·refine go 6 ?_
       exact Yw (Mw 4 80 J J J)<|Yw (Mw 3 81 J J J)<|On (_,_) trivial K2 ⟨by unfold gA;first | rw [if_pos O];rfl | rw [if_neg O];rfl,by unfold gB;first | rw [if_pos O];rfl | rw [if_neg O];rfl,trivial⟩
      ·refine go 1 ?_
       exact Yw (Mw 3 80 J J J)<|Yw (Mw 4 81 J J J)<|On (_,_) trivial K2 ⟨by unfold gA;first | rw [if_pos O];rfl | rw [if_neg O];rfl,by unfold gB;first | rw [if_pos O];rfl | rw [if_neg O];rfl,trivial⟩
     ·rintro⟨va,vb⟩ -
      dsimp only
      refine go 2 ?_
      refine lp (G:=Value×Value×List Int×List Int×Nat) [] [0,1,2,3,4] (fun q=>[(7,q.1),(9,q.2.1)]) (fun q=>[(80,Yk 2 wv q.1 q.2.2.1),(81,Yk 2 wv q.2.1 q.2.2.2.1)]) (fun q=>(Vp q.2.2.1)∧(Vp q.2.2.2.1)∧(eok q.2.2.2.2 q.2.2.1 q.2.2.2.1)∧(eu q.2.2.2.2 q.2.2.1 q.2.2.2.1=eu F (gA xs ys) (gB xs ys))) (fun q=>q.2.2.2.2) (va,vb,gA xs ys,gB xs ys,F) ⟨vp_gA hv hu,vp_gB hv hu,hok,J⟩ K2 K2 ?_
      rintro⟨va,vb,a,b,f⟩ ⟨hva,hvb,hok0,heu⟩
      dsimp only at hva hvb hok0 heu
      dsimp only
      refine go 8 ?_
      refine Zc J (fun h385=>?_) (fun h385=>?_)
      ·have hbn:b≠[]:=fun e=>by rw [e]at h385;simp at h385
       obtain⟨f1,rfl,hde,hok1,heu1⟩:=Ya2 hok0 hbn
       refine go 7 ?_
       refine cl 5 [80,81] (Zjn _ _ _ _ hva hvb hde) fun _ _=>go 14 ?_
       refine Zc J (fun h387=>?_) (fun h387=>?_)
       ·exfalso;exact h387 rfl
       ·refine go 6 ?_
        refine cl 6 [5] (Oj _ _ (Af hva hde)) fun _ _=>go 13 ?_
        refine Zc J (fun h390=>?_) (fun h390=>?_)
        ·exfalso;exact h390 rfl
        ·refine go 9 ?_
         exact Yw (Mw 81 80 J J J)<|Yw (Mw 6 81 J J J)<|Xg (_,_,b,Zx (Xm a b),f1) ⟨hvb,Lo (Af hva hde),hok1,by rw [←heu1];exact heu⟩ (Nat.lt_succ_self f1) K2 K2
      ·obtain rfl:b=[]:=List.eq_nil_of_length_eq_zero O
       rw [Zeo]at heu
       have hal:=hva.len
       refine go 12 ?_
       refine Yv (d:=95) J (fun s395=>?_) (fun s395=>?_)
       ·refine go 4 ⟨O,?_⟩
        refine Da (Ym (ii:=80) (i:=(a.length-1)) J J J J Zk Oh Ln) J J<|go 1 ⟨O,?_⟩
        refine Hs 6 [] (Lt _ (hva.sz _)) fun _ _=>go 4 ?_
        refine Zc J (fun h395=>?_) (fun h395=>?_)
        ·have hneg:a.length≠0∧cf a (a.length-1)<0:=⟨O,(Od _).1 h395⟩
         refine go 3 ?_
         refine cl 6 [] (Zh (-1) (by first | assumption | exact⟨O,O⟩)) fun _ _=>cl 7 [80] (Nr _ _ (-1) hva O3 (Br hva.sz)) fun _ _=>go 8 ?_
         exact Nu hsc _ results286 J trivial (Nz 7 Za (by unfold Ok Kn;rw [←heu,if_pos hneg]<;>rfl))
        ·refine go 10 ?_
         have hneg:¬(a.length≠0∧cf a (a.length-1)<0):=fun h=>by first | omega | exact absurd ((Od (cf a (a.length-1))).2 h.2) ‹_›
         exact Nu hsc _ results286 J trivial (Nz 80 Za (by unfold Ok Kn;rw [←heu,if_neg hneg]<;>rfl))
       ·refine go 22 ?_
        have hneg:¬(a.length≠0∧cf a (a.length-1)<0):=fun h=>by first | omega | exact absurd ((Od (cf a (a.length-1))).2 h.2) ‹_›
        exact Nu hsc _ results286 J trivial (Nz 80 Za (by unfold Ok Kn;rw [←heu,if_neg hneg]<;>rfl))
theorem Zc8(v:Value)(l:List Int)(hl:∀x∈l,Nc x)(hlen:l.length≤1000:=by decide):Cal prog 135 #[v] [Yk 1 Yu v l] true (G:=Value) (fun r=>True) (fun r=> .tuple #[r,.int .i64 (if 25<(tzl l).length then 7 else 0)]) (fun r=>[Yk 2 wv r (if 25<(tzl l).length then []else tzl l)]):=by
 refine Zd func135 ntmps135 fun w0 sc hw hsc=>?_
 have hsz:=Zkh hl
 refine go 20 ?_
 refine Zi (Nw 70 2 80 wv)<|lp (G:=Nat×Value) [7,8] [0,1] (fun q=>[(9,.int .i64 (q.1:Int)),(4,q.2)]) (fun q=>[(70,Pu 2 80 wv q.2 (l.take q.1))]) (fun q=>q.1≤l.length) (fun q=>l.length-q.1) (0,.slice none 0 0) O1 K2 K1 ?_
 rintro⟨k,vo⟩ hk
 dsimp only at hk
 dsimp only
 have hlk:(l.take k).length=k:=by rw [List.length_take];omega
 refine go 6 ?_
 refine Zc J (fun h62=>?_) (fun h62=>?_)
 ·refine go 14 ⟨O2,O2,?_⟩
  refine cl 1 [] (Zh _ (hl _ (Zu))) fun _ _=>?_
  refine tt (Qz (i:=2) (ivs:=[(0,_)]) (enc:=wv) [l.getD k 0] J J K2 Oh ti80 J J J J J pV.cells J J hw.h) (fun v _=>?_)
  refine tt (Kg (i:=70) (j:=2) (by_:=24) J J J J J J O3 J (Yj pV) Oh ti80 J pV J J J O8 O3 J hw.h) fun v_2 _=>go 8 ⟨O,?_⟩
  exact Xg (k+1,_) O1 O1 K2 ⟨by rw [Qx 0 _ _ O];rfl,trivial⟩
 ·refine go 6 ?_
  obtain rfl:k=l.length:=O
  rw [List.take_length]
  refine Zi (Pg 70 J J pV)<|go 2 ?_
  refine cl 3 [70] (Za1 _ _ hsz) fun _ _=>go 11 ?_
  refine Zc J (fun h66=>?_) (fun h66=>?_)
  ·refine go 8 ?_
   have h25:25<(tzl l).length:=O
   exact Nu hsc _ results135 (by rw [if_pos h25]) trivial (Nn (if_pos h25) Za)
  ·refine go 10 ?_
   have h25:¬25<(tzl l).length:=O
   exact Nu hsc _ results135 (by rw [if_neg h25]<;>rfl) trivial (Nz 3 Za (by rw [if_neg h25]<;>rfl))
theorem r_trim(v:Value)(xs:List Nat):Cal prog 118 #[v] [Yk 1 Fk v xs] true (G:=Unit) (fun _=>True) (fun _=>Ml v (tz xs).length) (fun _=>[Yk 1 Fk (Ml v (tz xs).length) (tz xs)]):=by
 refine Zd func118 ntmps118 fun w0 sc hw hsc=>?_
 refine Mr (Zq2 (i:=1) J Zk) (fun hself=>?_)
 refine Mr (Er (i:=1) J Zk) fun hlen=>go 7 ?_
 refine lp (G:=Nat) [] [0] (fun k=>[(0,Ml v k)]) (fun k=>[(1,Yk 1 Fk (Ml v k) (xs.take k))]) (fun k=>(k≤xs.length)∧(tz (xs.take k)=tz xs)) (fun k=>k) xs.length ⟨Nat.le_refl _,by rw [List.take_length]⟩ ⟨by rw [hself];rfl,trivial⟩ ⟨by rw [hself,List.take_length];rfl,trivial⟩ ?_
 rintro k ⟨hk,ht⟩
 have hl:(xs.take k).length=k:=by rw [List.length_take];omega
 refine go 7 ?_
 refine Yv (d:=6) J (fun s33=>?_) (fun s33=>?_)
 ·refine go 4 ⟨O,?_⟩
  refine Da (Ym (ii:=1) (i:=k-1) J J J J Zk Bb zT3) J J<|go 5 ⟨O,?_⟩
  refine Zc J (fun h33=>?_) (fun h33=>?_)
  ·have hstep:=Zr7 hk O (by omega:(xs.take k).getD (k-1) 0=0)
   refine go 8 ⟨O,?_⟩
   refine dt (Zt9 (ii:=1) (i:=k-1) J J J J Zk Bb zT3)<|go 3 ?_
   exact Yw (Zyj 1 1 (k-1) J J)<|Xg (k-1) ⟨O1,by rw [←ht,←hstep]⟩ O1 ⟨by rw [←Ix v k (k-1)];rfl,trivial⟩ ⟨by rw [Ix,List.take_take,Nat.min_eq_left O];rfl,trivial⟩
  ·refine go 12 ?_
   have hx:tz xs=xs.take k:=by rw [←ht];exact Zcr hk O
   exact Xo hsc () results118 (by rw [hx,hl]) trivial (Nz 1 Za (by rw [hx,hl]))
 ·refine go 23 ?_
  have hx:tz xs=xs.take k:=by rw [←ht];exact Zcr hk O
  exact Xo hsc () results118 (by rw [hx,hl]) trivial (Nz 1 Za (by rw [hx,hl]))
theorem El(v:Value)(xs:List Nat):Cal prog 118 #[v] [Yk 1 Fk v xs] false (G:=Unit) (fun _=>True) (fun _=>Ml v (tz xs).length) (fun _=>[]):=(r_trim v xs).bare
theorem Yea(v w:Value)(x y:Nat)(hx:bl x≤4294967296:=by omega)(hy:bl y≤4294967296:=by omega):Pn prog 128 #[v,w] [d9p v x,d9p w y] (.int .i64 (Zpi x y)):=by
 refine Zd func128 ntmps128 fun w0 sc hw hsc=>?_
 have hX:=Ii x
 have hY:=Ii y
 refine go 15 ?_
 refine Zc J (fun h41=>?_) (fun h41=>?_)
 ·refine go 10 ?_
  refine Zc J (fun h42=>?_) (fun h42=>?_)
  ·have hlt:x<y:=Co Qs O
   refine go 8 ?_
   exact Xo hsc () results128 (by unfold Zpi;rw [if_pos hlt]) trivial Za
  ·have hlt:y<x:=Co Qs O
   refine go 9 ?_
   exact Xo hsc () results128 (by unfold Zpi;rw [if_neg O,if_pos hlt]) trivial Za
 ·have hlen:(dg 1000000000 x).length=(dg 1000000000 y).length:=O
  refine go 12 ⟨O,?_⟩
  refine lp (G:=Nat) [0,1] [0,1,2] (fun k=>[(5,.int .i64 ((k:Int)-1))]) (fun k=>[]) (fun k=>(k≤(dg 1000000000 x).length)∧((dg 1000000000 x).drop k=(dg 1000000000 y).drop k)) (fun k=>k) (dg 1000000000 x).length ⟨O1,by rw [List.drop_length,hlen,List.drop_length]⟩ K1 trivial ?_
  rintro k ⟨hk,hd⟩
  refine go 7 ?_
  refine Zc J (fun h47=>?_) (fun h47=>?_)
  ·refine go 6 ?_
   refine Qe (fun _=>False) [(0,0),(1,0),(2,0),(3,0),(4,0),(5,0),(6,0),(7,0),(8,0)]<|go 2 ?_
   refine Qb J J (Ph (Ym (ii:=1) (i:=k-1) J J J J Zk Bb zT3))<|go 3 ⟨O2,?_⟩
   refine Qb J J (Ph (Ym (ii:=2) (i:=k-1) J J J J Zk Bb zT3))<|go 4 ⟨O2,?_⟩
   refine Zc J (fun h48=>?_) (fun h48=>?_)
   ·have hlt:=Zl7 Kb (xs:=(dg 1000000000 x)) (ys:=(dg 1000000000 y)) (Ob Qs x) (k:=k-1) O O (by rw [show k-1+1=k by omega];exact hd) O
    rw [Oz Qs,Oz Qs]at hlt
    refine go 12 ?_
    exact Xo hsc () results128 (by unfold Zpi;rw [if_pos hlt]) trivial Za
   ·refine go 3 ?_
    refine Qe (fun _=>False) [(0,0),(1,0),(2,0),(3,0),(4,0),(5,0),(6,0),(7,0),(8,0)]<|go 2 ?_
    refine Qb J J (Ph (Ym (ii:=1) (i:=k-1) J J J J Zk Bb zT3))<|go 3 ⟨O2,?_⟩
    refine Qb J J (Ph (Ym (ii:=2) (i:=k-1) J J J J Zk Bb zT3))<|go 4 ⟨O2,?_⟩
    refine Zc J (fun h51=>?_) (fun h51=>?_)
    ·have hlt:=Zl7 Kb (xs:=(dg 1000000000 y)) (ys:=(dg 1000000000 x)) (Ob Qs y) (k:=k-1) O O (by rw [show k-1+1=k by omega];exact hd.symm) O
     rw [Oz Qs,Oz Qs]at hlt
     refine go 11 ?_
     exact Xo hsc () results128 (by unfold Zpi;rw [if_neg O,if_pos hlt]) trivial Za
    ·refine go 8 ⟨O,?_⟩
     exact Xg (k-1) ⟨O1,by have:=Zdq (xs:=(dg 1000000000 x)) (ys:=(dg 1000000000 y)) (k:=k-1) O O (by rw [show k-1+1=k by omega];exact hd) O;exact this⟩ O1 ⟨by rw [show(((k-1:Nat):Int)-1)=(k:Int)-1-1 by omega];rfl,trivial⟩ trivial
  ·refine go 11 ?_
   obtain rfl:k=0:=O
   have heq:x=y:=(Zeq Qs).1 (by simpa using hd)
   exact Xo hsc () results128 (by unfold Zpi;rw [if_neg O,if_neg O]) trivial Za
theorem r_plus(v w:Value)(x y:Nat)(hx:bl x≤4294967296)(hy:bl y≤4294967296):Cal prog 127 #[v,w] [d9p v x,d9p w y] false (G:=Value) (fun r=>True) (fun r=>r) (fun r=>[d9p r (x+y)]):=by
 refine Zd func127 ntmps127 fun w0 sc hw hsc=>?_
 have hX:=Ii x
 have hY:=Ii y
 refine go 22 ?_
 refine Zi (Nw 70 1 3 Fk)<|lp (G:=Nat×List Nat×Nat×Value) [0,1] [0,1,2] (fun q=>[(7,.int .i64 (q.1:Int)),(6,.int .i64 (q.2.2.1:Int)),(5,q.2.2.2)]) (fun q=>[(70,Pu 1 3 Fk q.2.2.2 q.2.1)]) (fun q=>(q.1≤max (dg 1000000000 x).length (dg 1000000000 y).length+1∧(q.1=max (dg 1000000000 x).length (dg 1000000000 y).length+1→q.2.2.1=0))∧(q.2.1.length=q.1)∧(∀d∈q.2.1,d<1000000000)∧(q.2.2.1≤1)∧(Zv 1000000000 q.2.1+q.2.2.1*1000000000^q.1=Zv 1000000000 ((dg 1000000000 x).take q.1)+Zv 1000000000 ((dg 1000000000 y).take q.1))∧(q.1=0∨1000000000^(q.1-1)≤x+y)) (fun q=>max (dg 1000000000 x).length (dg 1000000000 y).length+1-q.1) (0,[],0,.slice none 0 0) ⟨⟨O,O⟩,J,O6,O1,by simp [Zv],.inl rfl⟩ K3 K1 ?_
 rintro⟨i,o,c,vo⟩ ⟨hi,hol,hoa,hc,hv,hge⟩
 dsimp only at hi hol hoa hc hv hge
 dsimp only
 refine go 1 ?_
 refine jn (G:=Unit) [0,1,5,6,7] [0,70,1,2] (fun _=>[(21,.bool (decide (i<(dg 1000000000 x).length∨i<(dg 1000000000 y).length∨0<c)))]) (fun _=>[]) (fun _=>True) ?_ ?_
 ·refine go 6 ?_
  refine Yv (d:=12) J (fun s62=>?_) (fun s62=>?_)
  ·refine go 10 ?_
   exact On () trivial ⟨by first | exact congrArg some (vB (decide_eq_decide.2 O)) | exact congrArg some (vB (decide_eq_true O).symm),trivial⟩ trivial
  ·refine go 6 ?_
   refine Yv (d:=18) J (fun s62_2=>?_) (fun s62_2=>?_)
   ·refine go 4 ?_
    exact On () trivial ⟨by first | exact congrArg some (vB (decide_eq_decide.2 O)) | exact congrArg some (vB (decide_eq_true O).symm),trivial⟩ trivial
   ·refine go 4 ?_
    exact On () trivial ⟨by first | exact congrArg some (vB (decide_eq_decide.2 O)) | exact congrArg some (vB (decide_eq_true O).symm),trivial⟩ trivial
 ·rintro _ -
  refine Zc J (fun h62=>?_) (fun h62=>?_)
  ·have hgn:1000000000^i≤x+y:=by
    rcases h62 with h1 | h1 | h1
    ·have:=Cf Qs h1;omega
    ·have:=Cf Qs h1;omega
    ·by_cases h2:i<(dg 1000000000 x).length
     ·have:=Cf Qs h2;omega
     ·by_cases h3:i<(dg 1000000000 y).length
      ·have:=Cf Qs h3;omega
      ·rw [Iv Qs O,Iv Qs O]at hv
       have:1000000000^i≤c*1000000000^i:=Nat.le_mul_of_pos_left _ h1
       omega
   refine go 4 ?_
   refine jn (G:=Unit) [0,1,5,7] [0,70,1,2] (fun _=>[(6,.int .i64 ((c+(dg 1000000000 x).getD i 0:Nat):Int))]) (fun _=>[]) (fun _=>True) ?_ ?_
   ·refine go 8 ?_
    refine Zc J (fun h63=>?_) (fun h63=>?_)
    ·refine go 6 ⟨O2,O2,?_⟩
     refine dt (Zhd J J J (by have h1:=(Xa Kb (Ob Qs x) i);omega))<|go 2 ?_
     try (have hz:(dg 1000000000 x).getD i 0=0:=by simp [List.getD,List.getElem?_eq_none (by omega:(dg 1000000000 x).length≤i)])
     exact On () trivial ⟨by first | rfl | (rw [hz];rfl),trivial⟩ trivial
    ·refine go 1 ?_
     try (have hz:(dg 1000000000 x).getD i 0=0:=by simp [List.getD,List.getElem?_eq_none (by omega:(dg 1000000000 x).length≤i)])
     exact On () trivial ⟨by first | rfl | (rw [hz];rfl),trivial⟩ trivial
   ·rintro _ -
    refine jn (G:=Unit) [0,1,5,7] [0,70,1,2] (fun _=>[(6,.int .i64 ((c+(dg 1000000000 x).getD i 0+(dg 1000000000 y).getD i 0:Nat):Int))]) (fun _=>[]) (fun _=>True) ?_ ?_
    ·refine go 8 ?_
     refine Zc J (fun h66=>?_) (fun h66=>?_)
     ·refine go 6 ⟨O2,O2,?_⟩
      refine dt (Zhd J J J (by have h1:=(Xa Kb (Ob Qs x) i);have h2:=(Xa Kb (Ob Qs y) i);omega))<|go 2 ?_
      try (have hz:(dg 1000000000 y).getD i 0=0:=by simp [List.getD,List.getElem?_eq_none (by omega:(dg 1000000000 y).length≤i)])
      exact On () trivial ⟨by first | rfl | (rw [hz];rfl),trivial⟩ trivial
     ·refine go 1 ?_
      try (have hz:(dg 1000000000 y).getD i 0=0:=by simp [List.getD,List.getElem?_eq_none (by omega:(dg 1000000000 y).length≤i)])
      exact On () trivial ⟨by first | rfl | (rw [hz];rfl),trivial⟩ trivial
    ·rintro _ -
     refine go 4 ?_
     refine dt (Zn7 (n:=1000000000) J J J O)<|tt (Qz (i:=3) (ivs:=[(0,_)]) (enc:=Fk) [(c+(dg 1000000000 x).getD i 0+(dg 1000000000 y).getD i 0)%1000000000] J J K2 Bb ti3 J J J J J pN.cells J J hw.h) (fun v _=>?_)
     refine tt (Kg (i:=70) (j:=3) (by_:=8) J J J J J J O3 J (Yj pN) Bb ti3 J pN J J J O8 O3 J hw.h) fun v_2 _=>go 5 ?_
     refine dt (Zjv (n:=1000000000) J J J (by have h1:=(Xa Kb (Ob Qs x) i);have h2:=(Xa Kb (Ob Qs y) i);omega) O)<|go 9 ⟨O,?_⟩
     exact Xg (i+1,o ++ [(c+(dg 1000000000 x).getD i 0+(dg 1000000000 y).getD i 0)%1000000000],(c+(dg 1000000000 x).getD i 0+(dg 1000000000 y).getD i 0)/1000000000,_) ⟨⟨O11,fun h=>by dsimp only at h ⊢;rw [Zah (by omega:(dg 1000000000 x).length≤i),Zah (by omega:(dg 1000000000 y).length≤i)];omega⟩,by simp [hol],Zim hoa (Nat.mod_lt _ Kb),by have h1:=(Xa Kb (Ob Qs x) i);have h2:=(Xa Kb (Ob Qs y) i);dsimp only;omega,Zv0 hol hv,.inr hgn⟩ O1 K3 K1
  ·refine go 12 ?_
   have hc0:c=0:=O
   have hv2:Zv 1000000000 o=x+y:=by
    rw [Iv Qs O,Iv Qs O,hc0,Nat.zero_mul,Nat.add_zero]at hv
    exact hv
   have hx:o=dg 1000000000 (x+y):=Zr8 Qs hoa hv2 (by rw [hol];exact hge)
   exact Xo hsc _ results127 J trivial (gow 70 Za (by rw [←hx]<;>rfl))
theorem Zst(v w:Value)(x y:Nat)(hxy:y≤x)(hx:bl x≤4294967296:=by omega):Cal prog 129 #[v,w] [d9p v x,d9p w y] false (G:=Value) (fun r=>True) (fun r=>r) (fun r=>[d9p r (x-y)]):=by
 refine Zd func129 ntmps129 fun w0 sc hw hsc=>?_
 have hX:=Ii x
 have hm:=Of hxy
 have hY:=Ii y
 have hly:(dg 1000000000 y).length≤(dg 1000000000 x).length:=Zo2 Qs hxy
 refine go 22 ?_
 refine Zi (Nw 70 1 3 Fk)<|lp (G:=Nat×List Nat×Nat×Value) [0,1] [0,1,2] (fun q=>[(7,.int .i64 (q.1:Int)),(6,.int .i64 (q.2.2.1:Int)),(5,q.2.2.2)]) (fun q=>[(70,Pu 1 3 Fk q.2.2.2 q.2.1)]) (fun q=>(q.1≤(dg 1000000000 x).length)∧(q.2.1.length=q.1)∧(∀d∈q.2.1,d<1000000000)∧(q.2.2.1≤1)∧(Zv 1000000000 q.2.1+Zv 1000000000 ((dg 1000000000 y).take q.1)=Zv 1000000000 ((dg 1000000000 x).take q.1)+q.2.2.1*1000000000^q.1)) (fun q=>(dg 1000000000 x).length-q.1) (0,[],0,.slice none 0 0) ⟨O1,rfl,O6,O1,by simp [Zv]⟩ K3 K1 ?_
 rintro⟨i,o,c,vo⟩ ⟨hi,hol,hoa,hc,hv⟩
 dsimp only at hi hol hoa hc hv
 dsimp only
 have hda:=(Xa Kb (Ob Qs x) i)
 have hdb:=(Xa Kb (Ob Qs y) i)
 refine go 9 ?_
 refine Zc J (fun h79=>?_) (fun h79=>?_)
 ·refine go 15 ⟨O2,O2,O,?_⟩
  refine jn (G:=Unit) [0,1,5,7] [0,70,1,2] (fun _=>[(8,.int .i64 (((dg 1000000000 x).getD i 0:Int)-(c:Int)-((dg 1000000000 y).getD i 0:Int)))]) (fun _=>[]) (fun _=>True) ?_ ?_
  ·refine go 8 ?_
   refine Zc J (fun h81=>?_) (fun h81=>?_)
   ·refine go 9 ⟨O2,O2,O,?_⟩
    try (have hz:(dg 1000000000 y).getD i 0=0:=by simp [List.getD,List.getElem?_eq_none (by omega:(dg 1000000000 y).length≤i)])
    exact On () trivial ⟨by first | rfl | (rw [hz];exact congrArg some (Zac O)),trivial⟩ trivial
   ·refine go 1 ?_
    try (have hz:(dg 1000000000 y).getD i 0=0:=by simp [List.getD,List.getElem?_eq_none (by omega:(dg 1000000000 y).length≤i)])
    exact On () trivial ⟨by first | rfl | (rw [hz];exact congrArg some (Zac O)),trivial⟩ trivial
  ·rintro _ -
   refine go 5 ?_
   refine jn (G:=Unit) [0,1,5,7] [0,70,1,2] (fun _=>[(8,.int .i64 ((d9s ((dg 1000000000 x).getD i 0) ((dg 1000000000 y).getD i 0) c:Nat):Int)),(6,.int .i64 ((brw ((dg 1000000000 x).getD i 0) ((dg 1000000000 y).getD i 0) c:Nat):Int))]) (fun _=>[]) (fun _=>True) ?_ ?_
   ·refine go 6 ?_
    refine Zc J (fun h85=>?_) (fun h85=>?_)
    ·refine go 6 ⟨O,?_⟩
     exact On () trivial ⟨by exact congrArg some (Zac (by unfold d9s;split<;>omega)),by exact congrArg some (Zac (by unfold brw;split<;>omega)),trivial⟩ trivial
    ·refine go 1 ?_
     exact On () trivial ⟨by exact congrArg some (Zac (by unfold d9s;split<;>omega)),by exact congrArg some (Zac (by unfold brw;split<;>omega)),trivial⟩ trivial
   ·rintro _ -
    refine go 3 ?_
    refine tt (Qz (i:=3) (ivs:=[(0,_)]) (enc:=Fk) [d9s ((dg 1000000000 x).getD i 0) ((dg 1000000000 y).getD i 0) c] J J K2 Bb ti3 J J J J J pN.cells J J hw.h) (fun v _=>?_)
    refine tt (Kg (i:=70) (j:=3) (by_:=8) J J J J J J O3 J (Yj pN) Bb ti3 J pN J J J O8 O3 J hw.h) fun v_2 _=>go 9 ⟨O,?_⟩
    exact Xg (i+1,o ++ [d9s ((dg 1000000000 x).getD i 0) ((dg 1000000000 y).getD i 0) c],brw ((dg 1000000000 x).getD i 0) ((dg 1000000000 y).getD i 0) c,_) ⟨O1,by simp [hol],Zim hoa (Zuc hda hdb hc).1,Yb8 _ _ _,Zqr hc hda hdb hol hv⟩ O1 K3 K1
 ·refine go 8 ?_
  refine cl 3 [70] (El _ _) fun _ _=>?_
  refine Xu (Zbh 70 J J pN)<|go 4 ?_
  obtain rfl:i=(dg 1000000000 x).length:=O
  have hx:tz o=dg 1000000000 (x-y):=by
   rw [←Lv Qs _ hoa]
   congr 1
   rw [Oc _ (dg 1000000000 y) _ hly,Oc _ (dg 1000000000 x) _ (Nat.le_refl _),Oz Qs,Oz Qs]at hv
   have h1:=Zd2 Kb o hoa
   rw [hol]at h1
   have h0:c=0∨c=1:=O
   rcases h0 with rfl | rfl<;>omega
  exact Xo hsc _ results129 J trivial (gow 70 Za (by rw [hx]<;>rfl))
theorem Yd9(v w:Value)(x y:Nat)(hx:bl x≤4294967296)(hy:bl y≤4294967296):Cal prog 126 #[v,w] [d9p v x,d9p w y] false (G:=Value) (fun r=>True) (fun r=>r) (fun r=>[d9p r (x*y)]):=by
 refine Zd func126 ntmps126 fun w0 sc hw hsc=>?_
 have hX:=Ii x
 have hY:=Ii y
 refine go 12 ⟨O,?_⟩
 refine tt (He (i:=3) (n:=((dg 1000000000 x).length+(dg 1000000000 y).length)) (by_:=8) (enc:=Fk) 0 J J J J Bb ti3 J pN.cells pN.pos J J J hw.h) fun v _=>go 10 ?_
 refine lp (G:=Nat×List Nat) [0,1,5] [0,1,2] (fun q=>[(6,.int .i64 (q.1:Int))]) (fun q=>[(3,Pu 1 3 Fk v q.2)]) (fun q=>(q.1≤(dg 1000000000 x).length)∧(q.2.length=((dg 1000000000 x).length+(dg 1000000000 y).length))∧(∀d∈q.2,d<1000000000)∧(∀j,q.1+(dg 1000000000 y).length≤j→q.2.getD j 0=0)∧(Zv 1000000000 q.2=Zv 1000000000 ((dg 1000000000 x).take q.1)*y)) (fun q=>(dg 1000000000 x).length-q.1) (0,List.replicate ((dg 1000000000 x).length+(dg 1000000000 y).length) 0) ⟨O1,O6,Og _ Kb,fun j _=>Kp _ j,by simp [Zv,Ky]⟩ K1 K1 ?_
 rintro⟨i,o⟩ ⟨hi,hol,hoa,hz0,hv⟩
 dsimp only at hi hol hoa hz0 hv
 dsimp only
 refine go 9 ?_
 refine Zc J (fun h96=>?_) (fun h96=>?_)
 ·refine go 15 ?_
  refine lp (G:=Nat×List Nat×Nat) [0,1,5,6] [0,1,2] (fun q=>[(8,.int .i64 (q.1:Int)),(7,.int .i64 (q.2.2:Int))]) (fun q=>[(3,Pu 1 3 Fk v q.2.1)]) (fun q=>(q.1≤(dg 1000000000 y).length+1∧(q.1=(dg 1000000000 y).length+1→q.2.2=0))∧(q.2.1.length=((dg 1000000000 x).length+(dg 1000000000 y).length))∧(∀d∈q.2.1,d<1000000000)∧(∀j,i+q.1≤j→i+(dg 1000000000 y).length≤j→q.2.1.getD j 0=0)∧(q.2.2<1000000000)∧(Zv 1000000000 q.2.1+q.2.2*1000000000^(i+q.1)=Zv 1000000000 ((dg 1000000000 x).take i)*y+(dg 1000000000 x).getD i 0*1000000000^i*Zv 1000000000 ((dg 1000000000 y).take q.1))) (fun q=>(dg 1000000000 y).length+1-q.1) (0,o,0) ⟨⟨O,O⟩,hol,hoa,fun j _ h=>hz0 j h,O1,by rw [hv];simp [Zv]⟩ K2 K1 ?_
  rintro⟨k,p,c⟩ ⟨hk,hpl,hpa,hpz,hcU,hpv⟩
  dsimp only at hk hpl hpa hpz hcU hpv
  dsimp only
  have hdig:=Zm0 (Xa Kb (Ob Qs x) i) (Xa Kb (Ob Qs y) k) (Xa Kb hpa (i+k)) hcU
  refine go 1 ?_
  refine jn (G:=Unit) [0,1,5,6,7,8] [0,3,1,2] (fun _=>[(29,.bool (decide (k<(dg 1000000000 y).length∨0<c)))]) (fun _=>[]) (fun _=>True) ?_ ?_
  ·refine go 6 ?_
   refine Yv (d:=26) J (fun s98=>?_) (fun s98=>?_)
   ·refine go 4 ?_
    exact On () trivial ⟨by first | exact congrArg some (vB (decide_eq_decide.2 O)) | exact congrArg some (vB (decide_eq_true O).symm),trivial⟩ trivial
   ·refine go 4 ?_
    exact On () trivial ⟨by first | exact congrArg some (vB (decide_eq_decide.2 O)) | exact congrArg some (vB (decide_eq_true O).symm),trivial⟩ trivial
  ·rintro _ -
   refine Zc J (fun h98=>?_) (fun h98=>?_)
   ·refine go 9 ?_
    refine dt (Zhd J J J O)<|dt (Ym (ii:=3) (i:=(i+k)) J J J J (Yj pN) Bb zT3)<|go 2 ⟨O,?_⟩
    refine dt (Zhd J J J (by have h1:=Xa Kb hpa (i+k);omega))<|go 3 ?_
    refine jn (G:=Unit) [0,1,5,6,8] [0,3,1,2] (fun _=>[(9,.int .i64 ((p.getD (i+k) 0+c+(dg 1000000000 x).getD i 0*(dg 1000000000 y).getD k 0:Nat):Int))]) (fun _=>[]) (fun _=>True) ?_ ?_
    ·refine go 8 ?_
     refine Zc J (fun h100=>?_) (fun h100=>?_)
     ·refine Qe (fun _=>False) [(0,0),(1,0),(2,0),(3,0),(4,0),(5,0),(6,0),(7,0),(8,0),(9,0),(10,0),(11,3)]<|go 9 ⟨O2,O2,O2,O2,?_⟩
      refine Qb J J (Ph (n_mul J J J (by have h1:=hdig.2;omega)))<|Qb J J (Ph (Zhd J J J hdig.2))<|go 2 ?_
      try (have hz:(dg 1000000000 y).getD k 0=0:=Zah O)
      exact On () trivial ⟨by first | rfl | (rw [hz,Nat.mul_zero];rfl),trivial⟩ trivial
     ·refine go 1 ?_
      try (have hz:(dg 1000000000 y).getD k 0=0:=Zah O)
      exact On () trivial ⟨by first | rfl | (rw [hz,Nat.mul_zero];rfl),trivial⟩ trivial
    ·rintro _ -
     refine go 5 ?_
     refine dt (Zhd J J J O)<|go 1 ?_
     refine dt (Zn7 (n:=1000000000) J J J O)<|dt (Ym (ii:=3) (i:=(i+k)) J J J J (Yj pN) Bb zT3)<|tt (Mt (i:=3) (enc:=Fk) _ J J J J J J pN J hw.h) fun _ _=>go 4 ?_
     refine dt (Zjv (n:=1000000000) J J J hdig.2 O)<|go 9 ⟨O,?_⟩
     exact Xg (k+1,_,_) ⟨⟨O11,fun h=>by dsimp only at h ⊢;rw [Zah (by omega:(dg 1000000000 y).length≤k),hpz (i+k) O O,Nat.mul_zero];omega⟩,O8,Mh hpa _ _ (Nat.mod_lt _ Kb),fun j hj hj2=>by dsimp only at hj ⊢;rw [Pk _ _ _ _ _ O,if_neg O];exact hpz j O hj2,hdig.1,Zp0 hpv O⟩ O1 K2 K1
   ·refine go 11 ⟨O,?_⟩
    have hc0:c=0:=O
    have hvf:=hpv
    rw [hc0,Nat.zero_mul,Nat.add_zero,Iv (x:=y) (k:=k) Qs O]at hvf
    exact Xg (i+1,_) ⟨O1,hpl,hpa,fun j hj=>hpz j (by dsimp only at hj;omega) (by dsimp only at hj;omega),by dsimp only;rw [hvf,Xh,Nat.add_mul]⟩ O1 K1 K1
 ·refine go 8 ?_
  refine cl 3 [3] (El _ _) fun _ _=>?_
  refine Xu (Zbh 3 J J pN)<|go 4 ?_
  obtain rfl:i=(dg 1000000000 x).length:=O
  have hx:tz o=dg 1000000000 (x*y):=by
   rw [←Lv Qs _ hoa,hv,Iv Qs (Nat.le_refl _)]
  exact Xo hsc _ results126 J trivial (gow 3 Za (by rw [hx]<;>rfl))
theorem Zb2(s:Bool)(v:Value)(n:Nat)(z:Int)(hn:n=z.natAbs)(hs:sg s z)(hb:bl n≤4294967296):Pn prog 117 #[.bool s,v] [d9p v n] (.agg #[.bool (decide (z<0)),v]):=by
 refine Zd func117 ntmps117 fun w0 sc hw hsc=>?_
 have hl9:=Ii n
 refine go 2 ?_
 refine Yc (Zr 2) fun b _=>go 6 ?_
 refine Cj (d:=6) J (fun s143=>?_) (fun s143=>?_)
 ·refine go 5 ?_
  refine dt (Qg (ivs:=[(0,_),(1,_)]) J K4 (fun a w hs=>Ycj ((Zz J) a w hs) ((Qt (i:=1) J Zk) a w hs)))<|go 4 ?_
  exact Xo hsc () results117 (by rw [←Zzy hn hs,←Zoj];simp_all) trivial Za
 ·refine go 5 ?_
  refine dt (Qg (ivs:=[(0,_),(1,_)]) J K4 (fun a w hs=>Ycj ((Zz J) a w hs) ((Qt (i:=1) J Zk) a w hs)))<|go 4 ?_
  exact Xo hsc () results117 (by rw [←Zzy hn hs,←Zoj];simp_all) trivial Za
theorem r_neg(v:Value)(x:Int)(hx:bl x.natAbs≤3000000000:=by omega):Cal prog 144 #[.agg #[.bool (decide (x<0)),v]] [d9p v x.natAbs] true (G:=Value) (fun r=>True) (fun r=> .agg #[.bool (decide (-x<0)),r]) (fun r=>[d9p r (-x).natAbs]):=by
 refine Zd func144 ntmps144 fun w0 sc hw hsc=>go 2 ?_
 refine Yc (Yb 2) fun b _=>Yc (Zr 3) fun b_2 _=>go 6 ?_
 refine dt (Xt J J)<|go 2 ?_
 refine cl 3 [1] (Zb2 _ _ _ (-x) (Int.natAbs_neg x).symm (Zyd (Yn x)) O) fun _ _=>go 4 ?_
 exact Xo hsc _ results144 J trivial (Nz 1 Za (by rw [Int.natAbs_neg]<;>rfl))
theorem Zjk(v w:Value)(x y:Int)(hx:bl x.natAbs≤3000000000:=by omega)(hy:bl y.natAbs≤3000000000:=by omega):Cal prog 70 #[.agg #[.bool (decide (x<0)),v],.agg #[.bool (decide (y<0)),w]] [d9p v x.natAbs,d9p w y.natAbs] true (G:=Value) (fun r=>True) (fun r=> .agg #[.bool (decide (x+y<0)),r]) (fun r=>[d9p r (x+y).natAbs]):=by
 refine Zd func70 ntmps70 fun w0 sc hw hsc=>?_
 have hb:=Hy x y
 refine go 2 ?_
 refine Yc (Yb 3) fun b _=>Yc (Yb 4) fun b_2 _=>Yc (Zr 5) fun b_3 _=>go 12 ?_
 refine My J (fun h189=>?_) (fun h189=>?_)
 ·replace h189:=Ygo h189
  refine go 1 ?_
  refine Qe (fun _=>False) [(0,0),(1,0),(2,0),(3,0),(4,0),(5,0),(6,1),(7,1),(8,3)]<|go 6 ?_
  refine Yz (Zf 6 [1,2] (r_plus _ _ _ _ O O)) fun v _=>Yz (Zf 6 [6] (Zb2 _ _ _ (x+y) (Zd0 (Yn x) (h189▸Yn y)).symm (Zsl (Yn x) (h189▸Yn y)) (by rw [←Zd0 (Yn x) (h189▸Yn y)];omega))) fun _ _=>go 5 ?_
  exact Xo hsc _ results70 J trivial (Nz 6 Za (by rw [Zd0 (Yn x) (h189▸Yn y)]<;>rfl))
 ·have hne:decide (x<0)≠decide (y<0):=by simpa using h189
  refine go 9 ?_
  refine cl 6 [1,2] (Yea _ _ _ _) fun _ _=>go 3 ?_
  refine Zc J (fun h192=>?_) (fun h192=>?_)
  ·have hge:y.natAbs≤x.natAbs:=Zuk.1 h192
   refine go 1 ?_
   refine Qe (fun _=>False) [(0,0),(1,0),(2,0),(3,0),(4,0),(5,0),(6,1),(7,1),(8,3)]<|go 6 ?_
   refine Yz (Zf 7 [1,2] (Zst _ _ _ _ hge)) fun v_2 _=>Yz (Zf 7 [7] (Zb2 _ _ _ (x+y) (Cw (Yn x) (Yn y) hne hge).symm (Zfs (Yn x) (Yn y) hne hge) (by have:=Of (Nat.sub_le x.natAbs y.natAbs);omega))) fun _ _=>go 5 ?_
   exact Xo hsc _ results70 J trivial (Nz 7 Za (by rw [Cw (Yn x) (Yn y) hne hge]<;>rfl))
  ·have hge:x.natAbs≤y.natAbs:=by have:=mt Zuk.2 h192;omega
   refine go 3 ?_
   refine Qe (fun _=>False) [(0,0),(1,0),(2,0),(3,0),(4,0),(5,0),(6,1),(7,1),(8,3)]<|go 6 ?_
   refine Yz (Zf 8 [2,1] (Zst _ _ _ _ hge)) fun v_3 _=>Yz (Zf 8 [8] (Zb2 _ _ _ (x+y) (by rw [Int.add_comm x];exact(Cw (Yn y) (Yn x) (Ne.symm hne) hge).symm) (by rw [Int.add_comm x];exact Zfs (Yn y) (Yn x) (Ne.symm hne) hge) (by have:=Of (Nat.sub_le y.natAbs x.natAbs);omega))) fun _ _=>go 4 ?_
   exact Xo hsc _ results70 J trivial (Nz 8 Za (by rw [Int.add_comm x,Cw (Yn y) (Yn x) (Ne.symm hne) hge]<;>rfl))
theorem r_sub(v w:Value)(x y:Int)(hx:bl x.natAbs≤3000000000:=by omega)(hy:bl y.natAbs≤3000000000:=by omega):Cal prog 119 #[.agg #[.bool (decide (x<0)),v],.agg #[.bool (decide (y<0)),w]] [d9p v x.natAbs,d9p w y.natAbs] true (G:=Value) (fun r=>True) (fun r=> .agg #[.bool (decide (x-y<0)),r]) (fun r=>[d9p r (x-y).natAbs]):=by
 refine Zd func119 ntmps119 fun w0 sc hw hsc=>?_
 have hb:=Zbg x y
 have hn:=Zme y
 refine go 2 ?_
 refine Yc (Yb 3) fun b _=>Yc (Yb 4) fun b_2 _=>Yc (Zr 5) fun b_3 _=>go 3 ?_
 refine Qe (fun _=>False) [(0,0),(1,0),(2,1),(3,1),(4,3)]<|go 2 ?_
 refine Yz (Zf 6 [2] (r_neg _ _)) fun v _=>Yz (Zf 7 [1,6] (Zjk _ _ _ _)) fun v_2 _=>go 4 ?_
 exact Xo hsc _ results119 (by rw [Int.sub_eq_add_neg]<;>rfl) trivial (Nz 7 Za (by rw [Int.sub_eq_add_neg]<;>rfl))
theorem Bt(v w:Value)(x y:Int)(hx:bl x.natAbs≤1000000000:=by omega)(hy:bl y.natAbs≤1000000000:=by omega):Cal prog 69 #[.agg #[.bool (decide (x<0)),v],.agg #[.bool (decide (y<0)),w]] [d9p v x.natAbs,d9p w y.natAbs] true (G:=Value) (fun r=>True) (fun r=> .agg #[.bool (decide (x*y<0)),r]) (fun r=>[d9p r (x*y).natAbs]):=by
 refine Zd func69 ntmps69 fun w0 sc hw hsc=>?_
 have hb:=Xb x y
 refine go 2 ?_
 refine Yc (Yb 3) fun b _=>Yc (Yb 4) fun b_2 _=>Yc (Zr 5) fun b_3 _=>go 3 ?_
 refine Qe (fun _=>False) [(0,0),(1,0),(2,0),(3,0),(4,0),(5,0),(6,0),(7,0),(8,0),(9,1),(10,1),(11,3)]<|go 9 ?_
 refine Yz (Zf 6 [1,2] (Yd9 _ _ _ _ O O)) fun v _=>Yz (Zf 6 [6] (Zb2 _ _ _ (x*y) (Int.natAbs_mul x y).symm (Zye (Yn x) (Yn y)) (by rw [←Int.natAbs_mul];omega))) fun _ _=>go 4 ?_
 exact Xo hsc _ results69 J trivial (Nz 6 Za (by rw [Int.natAbs_mul]<;>rfl))
theorem Zyv(v:Value)(x:Int)(hx:bl x.natAbs≤3000000000:=by omega):Pn prog 130 #[.agg #[.bool (decide (x<0)),v]] [d9p v x.natAbs] (.int .i64 x.sign):=by
 refine Zd func130 ntmps130 fun w0 sc hw hsc=>?_
 have hl9:=Ii x.natAbs
 refine go 2 ?_
 refine Yc (Yb 2) fun b _=>go 12 ?_
 refine Zc J (fun h206=>?_) (fun h206=>?_)
 ·refine go 7 ?_
  exact Xo hsc () results130 (sign9 h206) trivial Za
 ·refine go 9 ?_
  refine My J (fun h209=>?_) (fun h209=>?_)
  ·refine go 7 ?_
   exact Xo hsc () results130 (by rw [Int.sign_eq_neg_one_of_neg (by simpa using h209)]) trivial Za
  ·refine go 8 ?_
   exact Xo hsc () results130 (by have h3:=Zol h206;have h4:¬x<0:=(by simpa using h209);rw [Int.sign_eq_one_of_pos O]) trivial Za
theorem Zvu(v w:Value)(x y:Int)(hx:bl x.natAbs≤2000000000)(hy:bl y.natAbs≤2000000000):Pn prog 72 #[.agg #[.bool (decide (x<0)),v],.agg #[.bool (decide (y<0)),w]] [d9p v x.natAbs,d9p w y.natAbs] (.int .i64 (x-y).sign):=by
 refine Zd func72 ntmps72 fun w0 sc hw hsc=>?_
 have hb:=Zbg x y
 refine go 2 ?_
 refine Yc (Yb 3) fun b _=>Yc (Yb 4) fun b_2 _=>go 7 ?_
 refine cl 5 [1,2] (r_sub _ _ _ _) fun v _=>cl 5 [5] (Zyv _ _) fun _ _=>go 4 ?_
 exact Xo hsc () results72 J trivial Za
theorem Zyw(x:Int)(hx:Nc x:=by exact⟨O,O⟩):Cal prog 57 #[.int .i64 x] [] true (G:=Value) (fun r=>True) (fun r=> .agg #[.bool (decide (x<0)),r]) (fun r=>[d9p r (x).natAbs]):=by
 refine Zd func57 ntmps57 fun w0 sc hw hsc=>?_
 have hxa:=hx.1
 have hxb:=hx.2
 refine Zi (Nw 60 1 3 Fk)<|Zi (Pg 60 J J pN)<|go 2 ?_
 refine Yc (Zr 1) fun b _=>go 9 ?_
 refine Zc J (fun h147=>?_) (fun h147=>?_)
 ·obtain⟨m,rfl⟩:∃m:Nat,x=(m:Int):=⟨x.natAbs,O⟩
  have hbm:bl m≤64:=(Xs 64 m).2 O
  refine go 3 ?_
  refine dt (Zn7 (n:=1000000000) J J J O)<|go 1 ?_
  refine dt (Zjv (n:=1000000000) J J J O O)<|dt (Zn7 (n:=1000000000) J J J O)<|go 1 ?_
  refine dt (Zjv (n:=1000000000) J J J O O)<|dt (Zjv (n:=1000000000) J J J O O)<|tt (Qz (i:=70) (ivs:=[(0,_),(1,_),(2,_)]) (enc:=Fk) [m%1000000000,m/1000000000%1000000000,m/1000000000/1000000000] J J K6 Bb ti3 J J J J J pN.cells J J hw.h) fun v _=>cl 1 [70] (El _ _) fun _ _=>?_
  refine Xu (Zbh 70 J J pN)<|Xu (Zjf 70 (Zmz O) J J)<|cl 1 [70] (Zb2 _ _ _ ((m:Int)) O (by simp [sg]) O) fun _ _=>go 5 ?_
  exact Xo hsc _ results57 J trivial (gow 70 Za (by rw [Int.natAbs_natCast]<;>rfl))
 ·obtain⟨m,rfl⟩:∃m:Nat,x=-(m:Int):=⟨x.natAbs,O⟩
  have hbm:bl m≤64:=(Xs 64 m).2 O
  refine go 5 ?_
  refine dt (Zzk (n:=1000000000) J J J O)<|dt (Zzn J J O)<|go 1 ?_
  refine dt (Zqp (n:=1000000000) J J J O O)<|dt (Zzk (n:=1000000000) J J J O)<|dt (Zzn J J O)<|go 1 ?_
  refine dt (Zqp (n:=1000000000) J J J O O)<|dt (Zqp (n:=1000000000) J J J O O)<|dt (Zzn J J O)<|tt (Qz (i:=70) (ivs:=[(0,_),(1,_),(2,_)]) (enc:=Fk) [m%1000000000,m/1000000000%1000000000,m/1000000000/1000000000] J J K6 Bb ti3 J J J J J pN.cells J J hw.h) fun v_2 _=>cl 1 [70] (El _ _) fun _ _=>?_
  refine Xu (Zbh 70 J J pN)<|Xu (Zjf 70 (Zmz O) J J)<|Xu (Zjf 70 (ys:=dg 1000000000 (-(m:Int)).natAbs) (by rw [Int.natAbs_neg,Int.natAbs_natCast]) J J)<|Xu (Pg 70 J J pN)<|cl 1 [70] (Zb2 _ _ _ ((-(m:Int))) J (by simp [sg]) (by rw [Int.natAbs_neg,Int.natAbs_natCast];omega)) fun _ _=>?_
  refine dt (Qg (ivs:=[]) J trivial (fun a w hs=>b89_))<|cl 2 [70,60] (r_sub _ _ (-(m:Int)) 0 (by rw [Int.natAbs_neg,Int.natAbs_natCast];omega) O3) fun v_3 _=>go 4 ?_
  exact Xo hsc _ results57 (by rw [Int.sub_zero]<;>rfl) trivial (Nz 2 Za (by rw [Int.sub_zero]<;>rfl))
theorem r_to(v:Value)(x:Int)(hx:bl x.natAbs≤4000000000):Pn prog 76 #[.agg #[.bool (decide (x<0)),v]] [d9p v x.natAbs] (wv x):=by
 refine Zd func76 ntmps76 fun w0 sc hw hsc=>?_
 obtain⟨n,hn⟩:∃n,n=x.natAbs:=⟨_,rfl⟩
 have hxn:bl n≤4000000000:=by rw [hn];exact hx
 have hlx:=Ii x.natAbs
 refine go 2 ?_
 refine Yc (Yb 2) fun b _=>Yc (Zr 3) fun b_2 _=>go 11 ?_
 refine Xu (Nw 81 1 3 Fk)<|tt (Kg (i:=81) (j:=1) (by_:=8) J J J J J J O3 J Zk Bb ti3 J pN J J J O8 O3 J hw.h) fun v _=>go 5 ?_
 refine Zi (Nw 80 1 5 Zfj)<|lp (G:=Nat×List Nat×Value×Value) [1,2] [0,1,2,3] (fun q=>[(3,q.2.2.1),(4,q.2.2.2)]) (fun q=>[(80,Pu 1 5 Zfj q.2.2.1 q.2.1),(81,Pu 1 3 Fk q.2.2.2 (dg 1000000000 q.1))]) (fun q=>(Zv 256 q.2.1+256^q.2.1.length*q.1=n)∧(∀d∈q.2.1,d<256)∧(q.2.1.length=0∨256^(q.2.1.length-1)≤n)∧(bl q.1≤bl n)) (fun q=>q.1) (n,[],.slice none 0 0,_) ⟨by simp [Zv],O6,.inl rfl,Nat.le_refl _⟩ K2 ⟨J,by rw [hn];rfl,trivial⟩ ?_
 rintro⟨m,bs,vb,vd⟩ ⟨hv,hba,hge,hmn⟩
 dsimp only at hv hba hge hmn
 dsimp only
 have hlm:=Ii m
 refine go 8 ?_
 refine Zc J (fun h167=>?_) (fun h167=>?_)
 ·have hm0:0<m:=Zol O
  have hgn:=to_ge hv hm0
  have hbl:=to_len hgn
  refine go 18 ⟨O,?_⟩
  refine lp (G:=Nat×List Nat×Nat) [1,2,3,4] [0,80,1,2,3] (fun q=>[(6,.int .i64 ((q.1:Int)-1)),(5,.int .i64 (q.2.2:Int))]) (fun q=>[(81,Pu 1 3 Fk vd q.2.1)]) (fun q=>(q.1≤(dg 1000000000 m).length)∧(q.2.1.length=(dg 1000000000 m).length)∧(∀d∈q.2.1,d<1000000000)∧(∀j,j<q.1→q.2.1.getD j 0=(dg 1000000000 m).getD j 0)∧(q.2.2<256)∧(Zv 1000000000 (q.2.1.drop q.1)*256+q.2.2=Zv 1000000000 ((dg 1000000000 m).drop q.1))) (fun q=>q.1) ((dg 1000000000 m).length,dg 1000000000 m,0) ⟨Nat.le_refl _,J,Ob Qs m,fun j _=>J,O1,by simp [List.drop_length,Zv]⟩ K2 K1 ?_
  rintro⟨k,p,r⟩ ⟨hk,hpl,hpa,hpk,hr,hpv⟩
  dsimp only at hk hpl hpa hpk hr hpv
  dsimp only
  have hda:=Xa Kb (Ob Qs m) (k-1)
  refine go 7 ?_
  refine Zc J (fun h169=>?_) (fun h169=>?_)
  ·refine go 7 ?_
   refine dt (n_mul (n:=1000000000) J J J O)<|go 2 ?_
   refine dt (Ym (ii:=81) (i:=(k-1)) J J J J (Yj pN) Bb zT3)<|go 1 ⟨O,?_⟩
   refine dt (Zhd J J J (by have:=Xa Kb hpa (k-1);omega))<|go 8 ?_
   refine dt (Zjv (n:=256) J J J (by have:=Xa Kb hpa (k-1);omega) O)<|dt (Ym (ii:=81) (i:=(k-1)) J J J J (Yj pN) Bb zT3)<|tt (Mt (i:=81) (enc:=Fk) _ J J J J J J pN J hw.h) fun _ _=>go 4 ?_
   refine dt (Zn7 (n:=256) J J J O)<|go 9 ⟨O,?_⟩
   exact Xg (k-1,_,_) ⟨O1,by simp [hpl],Mh hpa _ _ (Zxi hr (Xa Kb hpa _)),fun j hj=>by dsimp only at hj ⊢;rw [Pk _ _ _ _ _ O,if_neg O];exact hpk j O,Nat.mod_lt _ O,by dsimp only;rw [hpk (k-1) O];exact Ydh O O O hpv⟩ O1 ⟨by rw [show(((k-1:Nat):Int)-1)=(k:Int)-1-1 by omega];rfl,rfl,trivial⟩ K1
  ·refine go 6 ?_
   obtain rfl:k=0:=O
   rw [List.drop_zero,List.drop_zero,Oz Qs]at hpv
   have hmr:m%256=r%256:=O
   have hdm:dg 1000000000 (m/256)=tz p:=by rw [←Lv Qs p hpa];congr 1;omega
   refine go 3 ?_
   refine dt (Zbt J J uT3 uT5)<|tt (Qz (i:=4) (ivs:=[(0,_)]) (enc:=Zfj) [r%256] J J K2 Zey ti5 J J J J J pB.cells J J hw.h) (fun v_2 _=>?_)
   refine tt (Kg (i:=80) (j:=4) (by_:=1) J J J J J J O3 J (Yj pB) Zey ti5 J pB J J J O8 O3 J hw.h) fun v_3 _=>go 5 ?_
   refine cl 4 [81] (El _ _) fun _ _=>?_
   refine Xu (Zbh 81 J J pN)<|go 3 ?_
   exact Xg (m/256,bs ++ [m%256],_,_) ⟨Ydi hv,Zim hba (Nat.mod_lt _ O),.inr (by simpa using hgn),Nat.le_trans (Of (Nat.div_le_self _ _)) hmn⟩ (Nat.div_lt_self hm0 O) K2 ⟨by rw [hmr];rfl,by rw [hdm];rfl,trivial⟩
 ·have hm0:m=0:=(Qv Qs m).1 O
  have hbs:bs=dg 256 n:=Zr8 O hba (by rw [hm0,Nat.mul_zero,Nat.add_zero]at hv;exact hv) hge
  have hlb:bs.length≤4000000000:=by rw [hbs,Zhr];omega
  refine go 20 ⟨O,?_⟩
  refine Zi (Nw 82 1 5 Zfj)<|lp (G:=Nat×Value) [1,2,3] [0,80,81,1,2,3] (fun q=>[(8,.int .i64 ((q.1:Int)-1)),(7,q.2)]) (fun q=>[(82,Pu 1 5 Zfj q.2 (bs.drop q.1).reverse)]) (fun q=>q.1≤bs.length) (fun q=>q.1) (bs.length,.slice none 0 0) (Nat.le_refl _) K2 ⟨by rw [List.drop_length];rfl,trivial⟩ ?_
  rintro⟨k,vo⟩ hk
  dsimp only at hk
  dsimp only
  have hdl:(bs.drop k).length=bs.length-k:=List.length_drop
  refine go 7 ?_
  refine Zc J (fun h178=>?_) (fun h178=>?_)
  ·refine go 8 ?_
   refine dt (Ym (ii:=80) (i:=(k-1)) J J J J (Yj pB) Zey sizeOf5)<|go 1 ⟨O,?_⟩
   refine tt (Qz (i:=5) (ivs:=[(0,_)]) (enc:=Zfj) [bs.getD (k-1) 0] J J K2 Zey ti5 J J J J J pB.cells J J hw.h) (fun v_4 _=>?_)
   refine tt (Kg (i:=82) (j:=5) (by_:=1) J J J J J J O3 J (Yj pB) Zey ti5 J pB J J J O8 O3 J hw.h) fun v_5 _=>go 9 ⟨O,?_⟩
   exact Xg (k-1,_) O1 O1 ⟨by rw [show(((k-1:Nat):Int)-1)=(k:Int)-1-1 by omega];rfl,rfl,trivial⟩ ⟨by rw [←Yba O hk];rfl,trivial⟩
  ·refine go 10 ?_
   refine dt (d_b2s J J (i:=82) J (Yj pB) Zey uT9 uT5)<|dt (Qg (ivs:=[(0,_),(1,_)]) J K4 (fun a w hs=>Zrx ((Zz J) a w hs) ((Zz J) a w hs)))<|go 4 ?_
   obtain rfl:k=0:=O
   exact Xo hsc () results76 (by rw [Ygi hbs,hn]<;>rfl) trivial Za
end Go.Sky

