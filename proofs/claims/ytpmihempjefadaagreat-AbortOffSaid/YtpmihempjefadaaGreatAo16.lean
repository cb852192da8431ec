/- Rules, arithmetic and contracts: part 17. No conditions but those that each theorem names. -/
import Derived.Test.YtpmihempjefadaaGreatAo15
set_option linter.all false
set_option maxHeartbeats 4000000
namespace Go.Sky
open Go.Proofs.Tryz
open Go.Proofs
set_option synthInstance.maxHeartbeats 0
set_option synthInstance.maxSize 100000
set_option maxRecDepth 20000
set_option linter.unusedSimpArgs false
variable{v u:Value}{xs ys:List Int}
theorem Zed(g:Vp xs)(f:Vp ys):Xk prog 399 #[v,u] [Yt 2 wv v xs,Yt 2 wv u ys] (.tuple #[.bool (Ym2 xs ys),.int .i64 (Ba xs ys)]):=by
 refine Zd func399 ntmps399 λp o n c=>?_;have i:=g.len;have h:=f.len;have j:=Pz g.sz;have k:=Pz f.sz;refine go 11 ?_;refine cl 2 [1] (Xi ‹_›) λ_ _=>go 3 ?_;refine Lh 2 [2] (Xi ‹_›) λ_ _=>go 14<|Zc J (λd=>?_) (λd=>?_)
 .refine go 9 ?_;exact Oy c () results399 (by unfold Ba Ym2;rw [aF O,aG (l:=ys) O];rfl) aA Za
 .refine go 10<|Zc J (λe=>?_) (λe=>?_)
  .refine go 9 ?_;exact Oy c () results399 (by rw [Zge O,aJ O];unfold Ba;rw [aD O,aF O]) aA Za
  .have m:(xs.length-ys.length+1)*(Qz ys+1)<=26*65537:=aY O O;have b:((xs.length:Int)-(ys.length:Int)+1)*((Qz ys:Int)+1)=(((xs.length-ys.length+1)*(Qz ys+1):Nat):Int):=by rw [fU];congr 1;omega
   refine go 3 ?_;refine cl 2 [1] (Ns (by first|exact g.sz|exact f.sz)) λ_ _=>?_;refine go 7 ⟨O,O,?_⟩;refine cl 2 [2] (Ns (by first|exact g.sz|exact f.sz)) λ_ _=>?_;refine go 7 ⟨O,by rw [b];exact⟨O,O⟩,by rw [b];exact⟨O,O⟩,?_⟩;refine Zc J (λa=>?_) (λa=>?_)
   .refine go 9 ?_;exact Oy c () results399 (by rw [b]at a;rw [Zge O,aK O];unfold Ba;rw [aD O,aD O,aF O]) aA Za
   .refine go 10 ?_;exact Oy c () results399 (by rw [b]at a;rw [Zge O,aK O];unfold Ba;rw [aD O,aD O,aD O]) aA Za
theorem Zm1(H:Vp xs)(s:Vp ys)(M:Ba xs ys=0):Cal prog 398 #[v,u] [Yt 2 wv v xs,Yt 2 wv u ys] true (G:=Value) (λr=>True) (λr=> .tuple #[r,.int .i64 0]) (λr=>[Yt 2 wv r (Qk xs ys)]):=by
 refine Zd func398 ntmps398 λw0 sc g q=>?_;have N:=H.len;have B:=s.len;have W:=Pz H.sz;have Y:=Pz s.sz;obtain⟨F,t⟩:=Zdx M;have o:=Zge (p:=xs) F;refine go 10 ?_;refine cl 2 [1,2] (Zed H s) λ_ _=>go 14<|Zc J (λd=>?_) (λd=>?_)
 .exfalso;exact d M
 .refine go 5 ?_;refine tt (Zik 3 Zz1 J J J K1 call400 (Yd 1 J J J Zs) J g.h) λv _=>go 9 ?_;refine Yq J (λa=>?_) (λa=>?_)
  .have D:xs.length<ys.length:=by rw [o]at a;simpa using a
   refine go 9 ?_;exact Oy q _ results398 J aA (gow 3 Za (by unfold Qk;rw [aF D]))
  .have z:ys.length<=xs.length:=by rw [o]at a;simpa using a
   have I:=t z;refine go 4<|Zz (Zw 4) λb _=>?_;refine go 8 ⟨O,?_⟩;refine dt (Yn 2 (ys.length-1) J J J J Zk Pe Oa)<|go 1 ⟨O,?_⟩;refine Zz (Zw 5) λP _=>?_;refine go 13 ⟨O,?_⟩;refine lp (G:=Nat) [1,8,9,10] [0,1,2,4,5] (λj=>[(11,.int .i64 ((xs.length:Int)-1-(j:Int)))]) (λj=>[(3,On 2 176 wv v (Qx xs ys j))]) (λj=>j<=xs.length-ys.length+1) (λj=>xs.length-ys.length+1-j) 0 O1 ⟨by rw [show(xs.length:Int)-1-((0:Nat):Int)=(xs.length:Int)-1 by omega];rfl,aA⟩ K1 ?_;rintro j Z;refine go 10 ⟨O,?_⟩;refine Zc J (λk=>?_) (λk=>?_)
   .obtain⟨n,c,y⟩:=rest_b I (j:=j) O;have w:=Lb xs ys j;refine go 8 ?_;refine dt (Yn 3 (xs.length-1-j) J J J J (Yp pV) Pe Oa)<|go 1 ⟨O,?_⟩;refine Zz (Zw 6) λQ _=>go 12 ?_;refine lp (G:=Nat) [1,8,9,10,11,12,51] [0,1,2,4,5,6] (λi=>[(52,.int .i64 (i:Int))]) (λi=>[(3,On 2 176 wv v (Zid (Qx xs ys j) (cf ys (ys.length-1)) i))]) (λi=>i<=xs.length) (λi=>xs.length-i) 0 O1 K1 ⟨by rw [Ybi];rfl,aA⟩ ?_;rintro i hi;have e:i<xs.length->(Zid (Qx xs ys j) (cf ys (ys.length-1)) i).getD i 0=cf (Qx xs ys j) i:=λh=>Yfk O;have S:=Zsp (Qx xs ys j) (cf ys (ys.length-1)) i;refine go 6<|Zc J (λl=>?_) (λl=>?_)
    .refine go 10<|Ph (λx=>x=b) [(0,0),(1,0),(2,0),(3,0),(4,0),(5,0),(6,0),(7,1),(8,0),(9,3)]<|go 4 ?_;refine Qd J J (st1 4 J (Yn 3 i J J J J (Yp pV) Pe Oa J))<|go 2 ⟨O,?_⟩;refine Bp J (Qm 6 4 (Dk (by rw [e O];exact n _) (s.sz _) (by rw [e O];exact c _ _)) J J J K3 call237 J O3 Zs J g.h J) (λ_ _=>?_);refine Qd J J (st1 4 J (Yn 3 i J J J J (Yp pV) Pe Oa J))<|r3' J (Lo 3 (enc:=wv) J J J J J J pV J g.h) (λ_ _=>?_);refine go 7 ⟨O,?_⟩;exact Ym (i+1) O1 O1 K1 ⟨by rw [<-Yfj O,<-e O];rfl,aA⟩
    .refine go 6 ?_;obtain rfl:i=xs.length:=O;refine go 7 ?_;refine lp (G:=Nat) [1,8,9,10,11,12,65,66] [0,1,2,4,5,6] (λi=>[(67,.int .i64 (i:Int))]) (λi=>[(3,On 2 176 wv v (Zl6 ys (Qx xs ys j) (cf ys (ys.length-1)) (cf (Qx xs ys j) (xs.length-1-j)) (xs.length-1-j-(ys.length-1)) i))]) (λi=>i<=ys.length) (λi=>ys.length-i) 0 O1 K1 ⟨by rw [<-Yau,w];rfl,aA⟩ ?_;rintro i hi;have f:i<ys.length->(Zl6 ys (Qx xs ys j) (cf ys (ys.length-1)) (cf (Qx xs ys j) (xs.length-1-j)) (xs.length-1-j-(ys.length-1)) i).getD ((xs.length-1-j-(ys.length-1))+i) 0=cf (Qx xs ys j) ((xs.length-1-j-(ys.length-1))+i)*(cf ys (ys.length-1)):=λh=>Yde O;have V:=Zso ys (Qx xs ys j) (cf ys (ys.length-1)) (cf (Qx xs ys j) (xs.length-1-j)) (xs.length-1-j-(ys.length-1)) i;refine go 6<|Zc J (λm=>?_) (λm=>?_)
     .refine go 9 ⟨O2,O2,?_⟩;refine Zz (Zw 7) λR _=>?_;refine go 16 ⟨O,O,O,?_⟩;refine Ph (λx=>x=b) [(0,0),(1,0),(2,0),(3,0),(4,0),(5,0),(6,0),(7,0),(8,1),(9,1),(10,0),(11,3)]<|go 4 ?_;refine Qd J J (st1 4 J (Yn 3 ((xs.length-1-j-(ys.length-1))+i) J J J J (Yp pV) Pe Oa))<|go 3 ⟨O,?_⟩;refine Bp J (Qm 7 4 (Dk (n _) (s.sz _) (c _ _)) J J J K3 call237 J O3 Zs J g.h J) (λ_ _=>?_);refine Bp J (Qm 7 4 (Zv8 (by rw [f O];exact c _ _) (c _ _) (by rw [f O];exact y _ _ _ _)) J J J K3 call330 J O3 Zs J g.h J) (λ_ _=>?_);refine Qd J J (st1 4 J (Yn 3 ((xs.length-1-j-(ys.length-1))+i) J J J J (Yp pV) Pe Oa))<|r3' J (Lo 3 (enc:=wv) J J J J J J pV J g.h) (λ_ _=>?_);refine go 7 ⟨O,?_⟩;exact Ym (i+1) O1 O1 K1 ⟨by rw [<-Ydd O,<-f O];rfl,aA⟩
     .refine go 11 ⟨O,?_⟩;obtain rfl:i=ys.length:=O;exact Ym (j+1) O1 O1 ⟨by rw [show(xs.length:Int)-1-((j+1:Nat):Int)=(xs.length:Int)-1-(j:Int)-1 by omega];rfl,aA⟩ ⟨by rfl,aA⟩
   .refine go 6 ?_;obtain rfl:j=xs.length-ys.length+1:=O;refine Zr (Nc 3 J J pV)<|go 2 ?_;refine tt (Qm 8 4 (Za6 (Zra I)) J J J K2 call239 J O3 (Yd 3 J J J Zs) J g.h aA) λ_ _=>go 7 ?_;exact Oy q _ results398 J aA (Kf 8 Za (by unfold Qk;rw [aD O]<;>rfl))
theorem Zcj(hv:Vp xs)(g:Vp ys)(hd:Ba xs ys=0):Cal prog 374 #[v,u] [Yt 2 wv v xs,Yt 2 wv u ys] true (G:=Value) (λr=>True) (λr=> .tuple #[r,.int .i64 (if pdv xs ys then 0 else 10)]) (λr=>[Yt 2 wv r (if pdv xs ys then Hc xs ys else [])]):=by
 refine Zd func374 ntmps374 λw0 sc D s=>?_;have a6:=hv.len;have a0:=g.len;have c2:=Pz hv.sz;have c3:=Pz g.sz;obtain⟨R,W⟩:=Zdx hd;have P:=Zge (p:=xs) R;have c:cf ys (ys.length-1)≠0:=g.tr.mem (λe=>R (by rw [e];rfl));refine go 10 ?_;refine cl 2 [1,2] (Zed hv g) λ_ _=>go 16<|Zc J (λw=>?_) (λw=>?_)
 .exfalso;exact w hd
 .refine go 8<|Zc J (λl=>?_) (λl=>?_)
  .refine go 9 ?_;have S:xs=[]:=aG O;have d:pdv xs ys:= .inl S;exact Oy s _ results374 (by rw [aF d]) aA (Lg (by rw [aF d,S];rfl) Za)
  .have t:xs≠[]:=λe=>by rw [e]at l;simp at l
   refine go 6<|Yq J (λa=>?_) (λa=>?_)
   .have c1:xs.length<ys.length:=by rw [P]at a;simpa using a
    refine go 9 ?_;have d:¬pdv xs ys:=λh=>by rcases h with h|h;(exact t h);(have:=h.1;omega)
    exact Oy s _ results374 (by rw [aD d]) aA (Lg (aD d) Za)
   .have Q:ys.length<=xs.length:=by rw [P]at a;simpa using a
    have V:=W Q;refine go 5<|Zz (Zw 3) λb _=>go 5 ?_;refine tt (Zik 4 Zz1 J J J K1 call400 (Yd 1 J J J Zs) J D.h) (λv _=>?_);refine go 11 ⟨O,O,?_⟩;refine tt (Ew 5 (xs.length-ys.length+1) 24 (enc:=wv) 0 J J J J Pe ti176 J pV.cells pV.pos J J J D.h) (λa2 _=>?_);refine go 13 ⟨⟨by simp only [aT];omega,by simp only [aT];omega⟩,?_⟩;refine lp (G:=Nat) [1,8,9,10] [0,1,2,3] (λj=>[(11,.int .i64 ((xs.length:Int)-(ys.length:Int)-(j:Int)))]) (λj=>[(4,On 2 176 wv v (Pd xs ys j)),(5,On 2 176 wv a2 (Zhl xs ys j))]) (λj=>(j<=xs.length-ys.length+1)/\(∀k,xs.length-ys.length<k+j->k<=xs.length-ys.length->Ha xs ys k)) (λj=>xs.length-ys.length+1-j) 0 ⟨O1,λk h1 h2=>O⟩ ⟨by simp only [aT];exact aL some (Yf6 O),aA⟩ ⟨J,by rw [Yb7];rfl,aA⟩ ?_;rintro j ⟨hj,hx⟩;have d2:=Zcp xs ys j;refine go 7<|Zc J (λF=>?_) (λF=>?_)
    .obtain⟨f,Z⟩:=div_b V (j:=j) O hx;have b6:=Zaq xs ys j;have b9:xs.length-ys.length-j+ys.length-1<xs.length:=O;refine go 4 ?_;refine jn (G:=Nat×Nat) [1,8,9,10,11] [0,4,5,1,2,3] (λq=>[(12,.pointer (some ⟨q.1,0,none⟩)),(13,.pointer (some ⟨q.2,0,none⟩)),(14,.int .i64 0)]) (λq=>[(97,box q.1 176 (wc (Bw (dq ys (Pd xs ys j) (xs.length-ys.length-j))))),(98,box q.2 176 (wc (Bw (cf (Pd xs ys j) ((xs.length-ys.length-j)+ys.length-1)%cf ys (ys.length-1)))))]) (λq=>True) ?_ ?_
     .refine Ni [2,4] [23]<|Zv 10 [(0,0),(1,0),(2,0),(3,0),(4,0),(5,0),(6,0),(7,0),(8,0),(9,0),(10,0),(11,0),(12,0),(13,0)]<|go 6 ⟨O,O,?_⟩;refine Qd J J (Fu (Yn 4 ((xs.length-ys.length-j)+ys.length-1) J J J J (Yp pV) Pe Oa) K2)<|go 5 ⟨O,O,?_⟩;refine Qd J J (Fu (Yn 2 (ys.length-1) J J J J Zk Pe Oa) K2)<|go 2 ⟨O,?_⟩;refine Yjd 9 14 19 20 ?_ ?_ ?_
      .refine Iz (Zx 5 [] (Bi (f _) (g.sz _) c)) λ_ _=>?_;refine Zv 5 [(15,0),(16,0),(17,0),(18,0)]<|go 5 ?_;refine Np 4 19 20 ?_ ?_
       .refine Iz (Nx 97) λa8 ho=>?_;refine Zv 0 [(20,1),(21,1),(22,1),(23,3)]<|Qn (Nx 98) λa9 c4=>go 4 ?_;exact Ys<|Gd (_,_) aA K3 K2
       .refine Iz (Nx 98) λb0 c5=>?_;refine Zv 0 [(19,1),(21,1),(22,1),(23,3)]<|Qn (Nx 97) λb1 c6=>go 4 ?_;exact Ys<|Gd (_,_) aA K3 K2
      .refine Iz (Nx 97) λb2 c7=>?_;refine Np 8 14 20 ?_ ?_
       .refine Iz (Zx 5 [] (Bi (f _) (g.sz _) c)) λ_ _=>?_;refine Zv 0 [(15,0),(16,0),(17,0),(18,0),(20,1),(21,1),(22,1),(23,3)]<|go 4 ?_;refine Qn (Nx 98) λb3 c8=>go 4<|Ys ?_;exact Gd (_,_) aA K3 K2
       .refine Iz (Nx 98) λb4 c9=>?_;refine Zv 0 [(14,1),(15,0),(16,0),(17,0),(18,0),(21,1),(22,1),(23,3)]<|Qn (Zx 5 [] (Bi (f _) (g.sz _) c)) λ_ _=>go 8 ?_;exact Ys<|Gd (_,_) aA K3 K2
      .refine Iz (Nx 98) λb5 d0=>?_;refine Np 8 14 19 ?_ ?_
       .refine Iz (Zx 5 [] (Bi (f _) (g.sz _) c)) λ_ _=>?_;refine Zv 0 [(15,0),(16,0),(17,0),(18,0),(19,1),(21,1),(22,1),(23,3)]<|go 4 ?_;refine Qn (Nx 97) λa3 d1=>go 4<|Ys ?_;exact Gd (_,_) aA K3 K2
       .refine Iz (Nx 97) λa4 a7=>?_;refine Zv 0 [(14,1),(15,0),(16,0),(17,0),(18,0),(21,1),(22,1),(23,3)]<|Qn (Zx 5 [] (Bi (f _) (g.sz _) c)) λ_ _=>go 8 ?_;exact Ys<|Gd (_,_) aA K3 K2
     .rintro⟨b7,b8⟩ -;dsimp only;refine go 7<|Zc J (λy=>?_) (λy=>?_)
      .exfalso;exact y rfl
      .refine go 6 ?_;refine cl 5 [] (Iw Zi7) λ_ _=>go 3<|Zc J (λm=>?_) (λm=>?_)
       .have a1:¬Ha xs ys (xs.length-ys.length-j):=λhe=>m (by rw [Zt7 c (g.sz _),(Ztl O).1 he];rfl);refine go 13 ?_;have d:¬pdv xs ys:=λh=>by rcases h with h|h;(exact t h);(exact a1 (h.2.1 _ O))
        exact Oy s _ results374 (by rw [aD d]) aA (Lg (aD d) Za)
       .have N:Ha xs ys (xs.length-ys.length-j):=(Ztl O).2 (by have h0:=cM m;rw [Zt7 c (g.sz _)]at h0;exact gT.1 h0);obtain⟨I,M,Y⟩:=Z N;refine Zr (Qb 97 (q:=box b7 176 (wc (dq ys (Pd xs ys j) (xs.length-ys.length-j)))) (by rw [Nj I]) J J)<|go 7 ?_;refine dt (Yn 5 (xs.length-ys.length-j) J J J J (Yp pV) Pe Oa)<|tt (Lo 5 (enc:=wv) J J J J J J pV J D.h) λ_ _=>go 10 ?_;refine lp (G:=Nat) [1,8,9,10,11,12,78,79] [0,97,98,5,1,2,3] (λi=>[(80,.int .i64 (i:Int))]) (λi=>[(4,On 2 176 wv v (Zmd ys (Pd xs ys j) (dq ys (Pd xs ys j) (xs.length-ys.length-j)) (xs.length-ys.length-j) i))]) (λi=>i<=ys.length) (λi=>ys.length-i) 0 O1 K1 ⟨by rw [<-Yb5];rfl,aA⟩ ?_;rintro i hi;have B:i<ys.length->(Zmd ys (Pd xs ys j) (dq ys (Pd xs ys j) (xs.length-ys.length-j)) (xs.length-ys.length-j) i).getD ((xs.length-ys.length-j)+i) 0=cf (Pd xs ys j) ((xs.length-ys.length-j)+i):=λh=>Yhm O;have c0:=Zsq ys (Pd xs ys j) (dq ys (Pd xs ys j) (xs.length-ys.length-j)) (xs.length-ys.length-j) i;refine go 6<|Zc J (λH=>?_) (λH=>?_)
        .refine go 9 ⟨O2,O2,?_⟩;refine Zz (Zw 6) λa5 _=>go 4<|Ph (λx=>x=b) [(0,0),(1,0),(2,0),(3,0),(4,0),(5,0),(6,0),(7,0),(8,0),(9,0),(10,0),(11,0),(12,1),(13,1),(14,0),(15,3)]<|go 8 ⟨O,O,?_⟩;refine Qd J J (st1 3 J (Yn 4 ((xs.length-ys.length-j)+i) J J J J (Yp pV) Pe Oa))<|go 3 ⟨O,?_⟩;refine Bp J (Qm 6 3 (Dk I (g.sz _) (M _)) J J J K3 call237 J O3 Zs J D.h J) (λ_ _=>?_);refine Bp J (Qm 6 3 (Zv8 (by rw [B O];exact f _) (M _) (by rw [B O];exact Y _ _)) J J J K3 call330 J O3 Zs J D.h J) (λ_ _=>?_);refine Qd J J (st1 3 J (Yn 4 ((xs.length-ys.length-j)+i) J J J J (Yp pV) Pe Oa))<|r3' J (Lo 4 (enc:=wv) J J J J J J pV J D.h) (λ_ _=>?_);refine go 7 ⟨O,?_⟩;exact Ym (i+1) O1 O1 K1 ⟨by rw [<-Yhl O,<-B O];rfl,aA⟩
        .refine go 11 ⟨O,?_⟩;obtain rfl:i=ys.length:=O;exact Ym (j+1) ⟨O1,λk h1 h2=>by rcases aX (xs.length-ys.length) (k+j)with h3|h3;(exact hx k h3 h2);(rw [show k=xs.length-ys.length-j by omega];exact N)⟩ O1 ⟨by rw [show(xs.length:Int)-(ys.length:Int)-((j+1:Nat):Int)=(xs.length:Int)-(ys.length:Int)-(j:Int)-1 by omega];rfl,aA⟩ ⟨by rfl,by rw [<-Yhp O];rfl,aA⟩
    .refine go 7 ?_;obtain rfl:j=xs.length-ys.length+1:=O;have o:∀k,k<=xs.length-ys.length->Ha xs ys k:=λk hk=>hx k O hk;refine Zr (Nc 4 J J pV)<|go 6<|Zj 105 J (λz=>?_) (λz=>?_)
     .refine go 1 ?_;refine Lh 7 [4] (Zdk (Ydb V o)) λ_ _=>go 5<|Zc J (λn=>?_) (λn=>?_)
      .refine go 8 ?_;have d:¬pdv xs ys:=λh=>by rcases h with h|h;(exact t h);(rw [h.2.2]at n;simp at n)
       exact Oy s _ results374 (by rw [aD d]) aA (Lg (aD d) Za)
      .refine go 3<|Zr (Nc 5 J J pV)<|go 2 ?_;refine tt (Qm 8 3 (Za6 (Zxe V o)) J J J K2 call239 J O3 (Yd 5 J J J Zs) J D.h aA) λ_ _=>go 7 ?_;have d:pdv xs ys:= .inr ⟨Q,o,aG O⟩;exact Oy s _ results374 (by rw [aF d]<;>rfl) aA (Kf 8 Za (by rw [aF d,Zr3 t,<-Zgd]<;>rfl))
     .exfalso;exact z rfl
theorem Zos(xs:List Int)(x y z:Int)(k:Vp xs)(hx:bl x.natAbs<=65536)(hy:bl y.natAbs<=65536)(R:bl z.natAbs<=65536)(a9:0<z)(hE:¬Zlp xs x y z):Cal prog 169 #[v,wv x,wv y,wv z] [Yt 2 wv v xs] true (G:=Value) (λr=>True) (λr=> .tuple #[r,.int .i64 0]) (λr=>[Yt 2 wv r (Ks xs x y z)]):=by
 refine Zd func169 ntmps169 λw0 sc a t=>?_;have P:=k.len;refine go 2<|Zz (Zu 2) λb _=>Zz (Zu 3) λW _=>Zz (Zu 4) λY _=>go 8 ?_;refine cl 4 [1] (Xi ‹_›) λ_ _=>go 3 ?_;refine Lh 4 [] (Lz ‹_›) λ_ _=>go 4 ?_;refine Lh 4 [] (Lz ‹_›) λ_ _=>go 4 ?_;refine Lh 4 [] (Lz ‹_›) λ_ _=>go 11 ?_;refine cl 4 [] (Iw R) λ_ _=>go 3<|Zc J (λm=>?_) (λm=>?_)
 .exfalso;have h2:=cF.1 (Zbj z);omega
 .refine go 10<|Zc J (λf=>?_) (λf=>?_)
  .refine go 8 ?_;exact Oy t _ results169 J aA (Lg (by unfold Ks;rw [aF O]) Za)
  .have B:xs≠[]:=λe=>by rw [e]at f;simp at f
   have a6:=Pz k.sz;have d:Sz 65536 [x,y,z]:=Sz.of_mem (by intro q Q;simp at Q;rcases Q with rfl|rfl|rfl<;>assumption);have a7:=Pz d;have a8:(xs.length-1)*(Qz [x,y,z]+1)<=24*65537:=aY O O;have c:((xs.length:Int)-1)*((Qz [x,y,z]:Int)+1)=(((xs.length-1)*(Qz [x,y,z]+1):Nat):Int):=by rw [fU];congr 1;omega
   refine go 3 ?_;refine jn (G:=Unit) [0,5,6,7] [0,1,2,3,4] (λ_=>[(55,.bool (decide ((65536:Int)<(Qz xs:Int)+((xs.length:Int)-1)*((Qz [x,y,z]:Int)+1)+8)))]) (λ_=>[]) (λ_=>True) ?_ ?_
   .refine Zad (λ_=>False) []<|Zv 8 [(0,0),(2,0),(3,0),(4,0),(5,0),(6,0),(7,0)]<|go 8 ⟨O,?_⟩;refine Np 7 1 8 ?_ ?_
    .refine Iz (Zx 4 [1] (Ns (by first|exact k.sz|exact d))) λ_ _=>?_;refine Zv 0 [(8,1),(9,1),(10,0),(11,0),(12,0),(13,0),(14,0)]<|Bp J (Oe [(0,_),(1,_),(2,_)] 90 (enc:=wv) [x,y,z] J J K6 Zxb ti176 J J Yg0 J J pV.cells J J a.h) λv _=>Qn (Zx 4 [90] (Ns (by first|exact k.sz|exact d))) λ_ _=>?_;refine go 6 ⟨O,by rw [c];exact⟨O,O⟩,by rw [c];exact⟨O,O⟩,by rw [c];exact⟨O,O⟩,?_⟩;exact Ys<|Gd () aA K1 aA
    .refine Zag J J (Oe [(0,_),(1,_),(2,_)] 90 (enc:=wv) [x,y,z] J J K6 Zxb ti176 J J Yg0 J J pV.cells J J a.h) (λb0 _=>?_);refine Zv 0 [(1,1),(9,1),(10,0),(11,0),(12,0),(13,0),(14,0)]<|Qn (Zx 4 [1] (Ns (by first|exact k.sz|exact d))) λ_ _=>Qn (Zx 4 [90] (Ns (by first|exact k.sz|exact d))) λ_ _=>?_;refine go 6 ⟨O,by rw [c];exact⟨O,O⟩,by rw [c];exact⟨O,O⟩,by rw [c];exact⟨O,O⟩,?_⟩;exact Ys<|Gd () aA K1 aA
   .rintro _ -;refine Zc J (λg=>?_) (λg=>?_)
    .exfalso;exact hE ⟨B,by rw [c]at g;omega⟩
    .have N:Qz xs+(xs.length-1)*(Qz [x,y,z]+1)+8<=65536:=by rw [c]at g;omega
     refine go 4<|Zz (Zw 5) λl _=>go 2 ?_;refine jn (G:=Value×Nat) [0,5,6,7,10] [0,1,2,3,4,5] (λq=>[(11,q.1),(12,.pointer (some ⟨q.2,0,none⟩))]) (λq=>[(70,On 2 176 wv q.1 (Mx xs x y z 0)),(98,box q.2 176 (wc 1))]) (λq=>True) ?_ ?_
     .refine Zad (λ_=>False) [9,10]<|Zv 5 [(0,0),(1,0),(2,0),(3,0),(4,0),(5,0)]<|go 4 ⟨O,?_⟩;refine Qd J J (Pt (Yn 1 (xs.length-1) J J J J Zk Pe Oa))<|go 2 ⟨O,?_⟩;refine Yjd 4 6 7 8 ?_ ?_ ?_
      .refine Zag J J (Oe [(0,_)] 70 (enc:=wv) [cf xs (xs.length-1)] J J K2 Pe ti176 J J J J J pV.cells J J a.h) (λb1 _=>?_);refine Np 3 7 8 ?_ ?_
       .refine Iz (Zx 5 [] (Zn _ (by first|assumption|exact⟨O,O⟩))) λ_ _=>?_;refine Zv 0 [(8,1),(9,3),(10,3)]<|Qn (Zw 98) λZ _=>go 3 ?_;exact Ys<|Gd (_,_) aA K2 ⟨by rw [Dn];rfl,rfl,aA⟩
       .refine Iz (Zw 98) λa0 _=>?_;refine Zv 0 [(7,1),(9,3),(10,3)]<|Qn (Zx 5 [] (Zn _ (by first|assumption|exact⟨O,O⟩))) λ_ _=>go 3 ?_;exact Ys<|Gd (_,_) aA K2 ⟨by rw [Dn];rfl,rfl,aA⟩
      .refine Iz (Zx 5 [] (Zn _ (by first|assumption|exact⟨O,O⟩))) λ_ _=>?_;refine Np 3 6 8 ?_ ?_
       .refine Zag J J (Oe [(0,_)] 70 (enc:=wv) [cf xs (xs.length-1)] J J K2 Pe ti176 J J J J J pV.cells J J a.h) (λb2 _=>?_);refine Zv 0 [(8,1),(9,3),(10,3)]<|Qn (Zw 98) λa1 _=>go 3 ?_;exact Ys<|Gd (_,_) aA K2 ⟨by rw [Dn];rfl,rfl,aA⟩
       .refine Iz (Zw 98) λa2 _=>?_;refine Zv 0 [(6,1),(9,3),(10,3)]<|Bp J (Oe [(0,_)] 70 (enc:=wv) [cf xs (xs.length-1)] J J K2 Pe ti176 J J J J J pV.cells J J a.h) λb3 _=>go 3 ?_;exact Ys<|Gd (_,_) aA K2 ⟨by rw [Dn];rfl,rfl,aA⟩
      .refine Iz (Zw 98) λa3 _=>?_;refine Np 3 6 7 ?_ ?_
       .refine Zag J J (Oe [(0,_)] 70 (enc:=wv) [cf xs (xs.length-1)] J J K2 Pe ti176 J J J J J pV.cells J J a.h) (λb4 _=>?_);refine Zv 0 [(7,1),(9,3),(10,3)]<|Qn (Zx 5 [] (Zn _ (by first|assumption|exact⟨O,O⟩))) λ_ _=>go 3 ?_;exact Ys<|Gd (_,_) aA K2 ⟨by rw [Dn];rfl,rfl,aA⟩
       .refine Iz (Zx 5 [] (Zn _ (by first|assumption|exact⟨O,O⟩))) λ_ _=>?_;refine Zv 0 [(6,1),(9,3),(10,3)]<|Bp J (Oe [(0,_)] 70 (enc:=wv) [cf xs (xs.length-1)] J J K2 Pe ti176 J J J J J pV.cells J J a.h) λb5 _=>go 3 ?_;exact Ys<|Gd (_,_) aA K2 ⟨by rw [Dn];rfl,rfl,aA⟩
     .rintro⟨S,V⟩ -;dsimp only;refine go 10 ⟨O,?_⟩;refine lp (G:=Nat×Value) [0,5,6,7,10,12] [0,1,2,3,4,5] (λq=>[(13,.int .i64 ((xs.length:Int)-2-(q.1:Int))),(11,q.2)]) (λq=>[(70,On 2 176 wv q.2 (Mx xs x y z q.1)),(98,box V 176 (wc (z^q.1)))]) (λq=>q.1<=xs.length-1) (λq=>xs.length-1-q.1) (0,S) O1 ⟨by rw [show(xs.length:Int)-2-((0:Nat):Int)=(xs.length:Int)-2 by omega];rfl,rfl,aA⟩ ⟨J,by rw [dD];rfl,aA⟩ ?_;rintro⟨j,S⟩ hj;dsimp only at hj;dsimp only;refine go 7<|Zc J (λn=>?_) (λn=>?_)
      .obtain⟨c1,H,I,w,c5,c6,c7,M,c9⟩:=cp_all N (j:=j) O;have a4:=Zcq xs x y z j;refine go 8 ?_;refine tt (Qm 5 5 (Dk c1 R (by rw [<-eF];exact H)) J J J K3 call237 J O3 Zs J a.h aA) (λ_ _=>?_);refine go 8 ⟨O,?_⟩;refine tt (Ew 71 ((Mx xs x y z j).length+1) 24 (enc:=wv) 0 J J J J Pe ti176 J pV.cells pV.pos J J J a.h) λD _=>go 12 ?_;refine lp (G:=Nat) [0,5,6,7,10,12,13,14,78,79] [0,70,98,1,2,3,4,5] (λi=>[(80,.int .i64 (i:Int))]) (λi=>[(71,On 2 176 wv D (cnx (Mx xs x y z j) x y i))]) (λi=>i<=(Mx xs x y z j).length) (λi=>(Mx xs x y z j).length-i) 0 O1 K1 ⟨by rw [Yh8];rfl,aA⟩ ?_;rintro i hi;have s:i<(Mx xs x y z j).length->(cnx (Mx xs x y z j) x y i).getD i 0=if i=0 then 0 else cf (Mx xs x y z j) (i-1)*y:=λh=>Zz0 h
       have a5:=Hy (Mx xs x y z j) x y i;refine go 6<|Zc J (λo=>?_) (λo=>?_)
       .refine go 9 ⟨O2,O2,?_⟩;refine Zz (Zw 6) λF _=>go 5<|Ph (λx=>x=l) [(0,0),(1,0),(2,0),(3,0),(4,0),(5,0),(6,0),(7,0),(8,1),(9,1),(10,0),(11,3)]<|go 4 ?_;refine Qd J J (st1 5 J (Yn 71 i J J J J (Yp pV) Pe Oa J))<|go 3 ⟨O,?_⟩;refine Bp J (Qm 6 5 (Dk (I _) hx (w _)) J J J K3 call237 J O3 Zs J a.h J) (λ_ _=>?_);refine Bp J (Qm 6 5 (Zll (by rw [s O];exact c6 i) (w _) (by rw [s O];exact c7 i)) J J J K3 call238 J O3 Zs J a.h J) (λ_ _=>?_);refine Qd J J (st1 5 J (Yn 71 i J J J J (Yp pV) Pe Oa J))<|r3' J (Lo 71 (enc:=wv) J J J J J J pV J a.h) (λ_ _=>?_);refine go 8 ⟨O,?_⟩;refine tt (Qm 6 5 (Dk (I _) hy (c5 _)) J J J K3 call237 J O3 Zs J a.h aA) (λ_ _=>?_);refine dt (Yn 71 (i+1) J J J J (Yp pV) Pe Oa O (by rw [bX];omega))<|tt (Lo 71 (enc:=wv) J J J J J J pV J a.h O3 (by rw [bX];omega)) (λ_ _=>?_);refine go 7 ⟨O,?_⟩;exact Ym (i+1) O1 O1 K1 ⟨by rw [<-Ync O];rfl,aA⟩
       .refine go 6 ?_;obtain rfl:i=(Mx xs x y z j).length:=O;have p:(cnx (Mx xs x y z j) x y (Mx xs x y z j).length).getD 0 0=cf (Mx xs x y z j) 0*x:=Zt5 O;refine Ph (λx=>x=l) [(0,0),(1,0),(2,0),(3,0),(4,0),(5,0),(6,0),(7,0),(8,0),(9,1),(10,1),(11,0),(12,3)]<|go 6 ⟨O,O,?_⟩;refine Qd J J (st1 5 J (Yn 1 (xs.length-2-j) J J J J Zk Pe Oa))<|go 2 ⟨O,?_⟩;refine Bp J (Qm 6 5 (Dk (k.sz _) (by rw [<-eF];exact H) (by rw [<-eF];exact M)) J J J K3 call237 J O3 Zs J a.h J) (λ_ _=>?_);refine Bp J (Qm 6 5 (Zll (by rw [p];exact w 0) (by rw [<-eF];exact M) (by rw [p,<-eF];exact c9)) J J J K3 call238 J O3 Zs J a.h J) (λ_ _=>?_);refine go 1 ⟨O,?_⟩;refine r3' J (Lo 71 (enc:=wv) J J J J J J pV J a.h) (λ_ _=>?_);refine go 13 ⟨O,?_⟩;exact Xg (s_move 71 70 J J J J)<|Ym (j+1,_) O1 O1 ⟨by rw [show(xs.length:Int)-2-((j+1:Nat):Int)=(xs.length:Int)-2-(j:Int)-1 by omega];rfl,rfl,aA⟩ ⟨by rw [Ynd O];simp only [<-eF];rfl,by rw [eF];rfl,aA⟩
      .refine go 6 ?_;obtain rfl:j=xs.length-1:=O;refine Zr (Nc 70 J J pV)<|go 2 ?_;refine tt (Qm 7 5 (Za6 (Ym9 N)) J J J K2 call239 J O3 (Yd 70 J J J Zs) J a.h aA) λ_ _=>go 7 ?_;exact Oy t _ results169 J aA (Kf 7 Za (by unfold Ks;rw [aD O]<;>rfl))
theorem Zr7(z:Vp xs)(y:Vp ys)(F:Nat)(hg:¬Znd xs ys)(V:eok F (gA xs ys) (gB xs ys)):Cal prog 373 #[v,u] [Yt 2 wv v xs,Yt 2 wv u ys] true (G:=Value) (λr=>True) (λr=> .tuple #[r,.int .i64 0]) (λr=>[Yt 2 wv r (Nz F xs ys)]):=by
 refine Zd func373 ntmps373 λw0 sc hw x=>?_;have Z:=z.len;have S:=y.len;have a2:=Pz z.sz;have a3:=Pz y.sz;have a4:=Zy xs;have a5:=Zy ys;have Q:(max xs.length ys.length+2)*(max xs.length ys.length+2)<=27*27:=aY O O;have a0:(max xs.length ys.length+2)*(max xs.length ys.length+2)*(max (Qz xs) (Qz ys)+8)<=27*27*65544:=aY Q O;have H:(max (xs.length:Int) (ys.length:Int)+2)*(max (xs.length:Int) (ys.length:Int)+2)=(((max xs.length ys.length+2)*(max xs.length ys.length+2):Nat):Int):=by rw [fU,show(((max xs.length ys.length+2):Nat):Int)=(max (xs.length:Int) (ys.length:Int)+2) by omega]
 have j:(max (xs.length:Int) (ys.length:Int)+2)*(max (xs.length:Int) (ys.length:Int)+2)*(max (Qz xs:Int) (Qz ys:Int)+8)=(((max xs.length ys.length+2)*(max xs.length ys.length+2)*(max (Qz xs) (Qz ys)+8):Nat):Int):=by rw [H,fU ((max xs.length ys.length+2)*(max xs.length ys.length+2)),show((max (Qz xs) (Qz ys)+8:Nat):Int)=max (Qz xs:Int) (Qz ys:Int)+8 by omega]
 refine go 10 ?_;refine cl 2 [1] (Xi ‹_›) λ_ _=>go 3 ?_;refine Lh 2 [2] (Xi ‹_›) λ_ _=>go 14 ?_;refine dt (Zb5 J J J)<|go 4 ⟨O,?_⟩;refine jn (G:=Unit) [0,1] [0,1,2] (λ_=>[(46,.bool (decide (Znd xs ys)))]) (λ_=>[]) (λ_=>True) ?_ ?_
 .refine go 5<|Zj 29 J (λN=>?_) (λN=>?_)
  .refine go 5<|Zj 34 J (λk=>?_) (λk=>?_)
   .refine go 4 ⟨by rw [H];exact⟨O,O⟩,?_⟩;refine Lh 2 [1] (Ns (by first|exact z.sz|exact y.sz)) λ_ _=>go 1 ?_;refine Lh 2 [2] (Ns (by first|exact z.sz|exact y.sz)) λ_ _=>?_;refine Gl (Zb5 J J J) J J<|go 5 ⟨O,by rw [j];exact⟨O,O⟩,?_⟩;exact Gd () aA ⟨by first|(rw [j];exact aL some (vB (cF.2 ⟨λh=>⟨O,O,O⟩,λh=>by have:=h.2.2;omega⟩)))|exact aL some (vB (aK (λh=>by have W:=h.1;have Y:=h.2.1;omega)).symm),aA⟩ aA
   .refine go 13 ?_;exact Gd () aA ⟨by first|(rw [j];exact aL some (vB (cF.2 ⟨λh=>⟨O,O,O⟩,λh=>by have:=h.2.2;omega⟩)))|exact aL some (vB (aK (λh=>by have W:=h.1;have Y:=h.2.1;omega)).symm),aA⟩ aA
  .refine go 18 ?_;exact Gd () aA ⟨by first|(rw [j];exact aL some (vB (cF.2 ⟨λh=>⟨O,O,O⟩,λh=>by have:=h.2.2;omega⟩)))|exact aL some (vB (aK (λh=>by have W:=h.1;have Y:=h.2.1;omega)).symm),aA⟩ aA
 .rintro _ -;refine Zc J (λl=>?_) (λl=>?_)
  .exfalso;exact hg l
  .refine go 5 ?_;refine cl 3 [1] (Ny z) λ_ _=>go 14<|Zc J (λm=>?_) (λm=>?_)
   .exfalso;exact m rfl
   .refine go 5 ?_;refine cl 4 [2] (Ny y) λ_ _=>go 14<|Zc J (λn=>?_) (λn=>?_)
    .exfalso;exact n rfl
    .refine go 2 ?_;refine jn (G:=Value×Value) [] [0,1,2,3,4] (λq=>[(7,q.1),(9,q.2)]) (λq=>[(80,Yt 2 wv q.1 (gA xs ys)),(81,Yt 2 wv q.2 (gB xs ys))]) (λq=>True) ?_ ?_
     .refine go 9<|Zc J (λD=>?_) (λD=>?_)
      .refine go 6<|Xg (Kj 4 80 J J J)<|Xg (Kj 3 81 J J J) ?_;exact Gd (_,_) aA K2 ⟨by unfold gA;first|rw [aF O];rfl|rw [aD O];rfl,by unfold gB;first|rw [aF O];rfl|rw [aD O];rfl,aA⟩
      .refine go 1<|Xg (Kj 3 80 J J J)<|Xg (Kj 4 81 J J J) ?_;exact Gd (_,_) aA K2 ⟨by unfold gA;first|rw [aF O];rfl|rw [aD O];rfl,by unfold gB;first|rw [aF O];rfl|rw [aD O];rfl,aA⟩
     .rintro⟨va,vb⟩ -;dsimp only;refine go 2 ?_;refine lp (G:=Value×Value×List Int×List Int×Nat) [] [0,1,2,3,4] (λq=>[(7,q.1),(9,q.2.1)]) (λq=>[(80,Yt 2 wv q.1 q.2.2.1),(81,Yt 2 wv q.2.1 q.2.2.2.1)]) (λq=>(Vp q.2.2.1)/\(Vp q.2.2.2.1)/\(eok q.2.2.2.2 q.2.2.1 q.2.2.2.1)/\(eu q.2.2.2.2 q.2.2.1 q.2.2.2.1=eu F (gA xs ys) (gB xs ys))) (λq=>q.2.2.2.2) (va,vb,gA xs ys,gB xs ys,F) ⟨vp_gA z y,vp_gB z y,V,J⟩ K2 K2 ?_;rintro⟨va,vb,a,b,f⟩ ⟨d,B,t,g⟩;dsimp only at d B t g;dsimp only;refine go 8<|Zc J (λi=>?_) (λi=>?_)
      .have R:b≠[]:=λe=>by rw [e]at i;simp at i
       obtain⟨f1,rfl,w,M,I⟩:=Yhg t R;refine go 7 ?_;refine cl 5 [80,81] (Zm1 d B w) λ_ _=>go 14<|Zc J (λo=>?_) (λo=>?_)
       .exfalso;exact o rfl
       .refine go 6 ?_;refine cl 6 [5] (Ny (Zca d w)) λ_ _=>go 13<|Zc J (λp=>?_) (λp=>?_)
        .exfalso;exact p rfl
        .refine go 9<|Xg (Kj 81 80 J J J)<|Xg (Kj 6 81 J J J) ?_;exact Ym (_,_,b,Yi (Qk a b),f1) ⟨B,Im (Zca d w),M,by rw [<-I];exact g⟩ (Nat.lt_succ_self f1) K2 K2
      .obtain rfl:b=[]:=aG O;rw [Zhk]at g;have a1:=d.len;refine go 12<|Zj 95 J (λP=>?_) (λP=>?_)
       .refine go 4 ⟨O,?_⟩;refine Gl (Yn 80 (a.length-1) J J J J Zk Pe Oa) J J<|go 1 ⟨O,?_⟩;refine Lh 6 [] (Iw (d.sz _)) λ_ _=>go 4<|Zc J (λs=>?_) (λs=>?_)
        .have c:a.length≠0/\cf a (a.length-1)<0:=⟨O,(sign_neg_iff _).1 s⟩;refine go 3 ?_;refine cl 6 [] (Zn (-1) (by first|assumption|exact⟨O,O⟩)) λ_ _=>cl 7 [80] (Kc (-1) d O3 (Zbz d.sz)) λ_ _=>go 8 ?_;exact Oy x _ results373 J aA (Kf 7 Za (by unfold Nz Hz;rw [<-g,aF c]<;>rfl))
        .refine go 10 ?_;have c:¬(a.length≠0/\cf a (a.length-1)<0):=λh=>by first|omega|exact absurd ((sign_neg_iff (cf a (a.length-1))).2 h.2) ‹_›
         exact Oy x _ results373 J aA (Kf 80 Za (by unfold Nz Hz;rw [<-g,aD c]<;>rfl))
       .refine go 22 ?_;have c:¬(a.length≠0/\cf a (a.length-1)<0):=λh=>by first|omega|exact absurd ((sign_neg_iff (cf a (a.length-1))).2 h.2) ‹_›
        exact Oy x _ results373 J aA (Kf 80 Za (by unfold Nz Hz;rw [<-g,aD c]<;>rfl))
theorem Zfr{l:List Int}(f:∀x∈l,Mw x)(g:l.length<=1000:=by decide):Cal prog 168 #[v] [Yt 1 Xf v l] true (G:=Value) (λr=>True) (λr=> .tuple #[r,.int .i64 (if 25<(tzl l).length then 7 else 0)]) (λr=>[Yt 2 wv r (if 25<(tzl l).length then []else tzl l)]):=by
 refine Zd func168 ntmps168 λp n h b=>?_;have e:=Yka f;refine go 20<|Zr (Hb 70 2 176 wv) ?_;refine lp (G:=Nat×Value) [7,8] [0,1] (λq=>[(9,.int .i64 (q.1:Int)),(4,q.2)]) (λq=>[(70,On 2 176 wv q.2 (l.take q.1))]) (λq=>q.1<=l.length) (λq=>l.length-q.1) (0,.slice none 0 0) O1 K2 K1 ?_;rintro⟨k,o⟩ i;dsimp only at i;dsimp only;have j:(l.take k).length=k:=by rw [aS];omega
 refine go 6<|Zc J (λc=>?_) (λc=>?_)
 .refine go 14 ⟨O2,O2,?_⟩;refine cl 1 [] (Zn _ (f _ Zi)) λ_ _=>?_;refine tt (Oe [(0,_)] 2 (enc:=wv) [l.getD k 0] J J K2 Pe ti176 J J J J J pV.cells J J h.h) (λv _=>?_);refine tt (Fs 70 2 24 J J J J J J O3 J (Yp pV) Pe ti176 J pV J J J O9 O3 J h.h) (λm _=>?_);refine go 8 ⟨O,?_⟩;exact Ym (k+1,_) O1 O1 K2 ⟨by rw [Ps 0 _ _ O];rfl,aA⟩
 .refine go 6 ?_;obtain rfl:k=l.length:=O;rw [bT];refine Zr (Nc 70 J J pV)<|go 2 ?_;refine cl 3 [70] (Zdk e) λ_ _=>go 11<|Zc J (λd=>?_) (λd=>?_)
  .refine go 8 ?_;have a:25<(tzl l).length:=O;exact Oy b _ results168 (by rw [aF a]) aA (Lg (aF a) Za)
  .refine go 10 ?_;have a:¬25<(tzl l).length:=O;exact Oy b _ results168 (by rw [aD a]<;>rfl) aA (Kf 3 Za (by rw [aD a]<;>rfl))
end Go.Sky

