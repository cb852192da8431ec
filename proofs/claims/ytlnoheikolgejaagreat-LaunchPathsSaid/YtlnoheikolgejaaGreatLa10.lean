/- Rules, arithmetic and contracts: part 11. No conditions but those that each theorem names. -/
import Derived.Test.YtlnoheikolgejaaGreatLa09
set_option linter.all false
set_option maxHeartbeats 4000000
namespace Go.Sky
open Go.Proofs.Tryz
open Go.Proofs
set_option synthInstance.maxHeartbeats 0
set_option synthInstance.maxSize 100000
set_option maxRecDepth 20000
set_option linter.unusedSimpArgs false
variable{v u:Value}{xs ys:List Int}
theorem Zcj(g:Vp xs)(f:Vp ys):Qp prog 391 #[v,u] [Yg 2 wv v xs,Yg 2 wv u ys] (.tuple #[.bool (Yiq xs ys),.int .i64 (Db xs ys)]):=by
 refine Zf func391 ntmps391 λp o n c=>?_;have i:=g.len;have h:=f.len;have j:=Pd g.sz;have k:=Pd f.sz;refine go 11 ?_;refine cl 2 [1] (Yz ‹_›) λ_ _=>go 3 ?_;refine It 2 [2] (Yz ‹_›) λ_ _=>go 14<|Zc J (λd=>?_) (λd=>?_)
 .refine go 9 ?_;exact Na c () results391 (by unfold Db Yiq;rw [aF O,aE (l:=ys) O];rfl) aA Za
 .refine go 10<|Zc J (λe=>?_) (λe=>?_)
  .refine go 9 ?_;exact Na c () results391 (by rw [Zev O,aN O];unfold Db;rw [aD O,aF O]) aA Za
  .have m:(xs.length-ys.length+1)*(Qk ys+1)<=26*65537:=aT O O;have b:((xs.length:Int)-(ys.length:Int)+1)*((Qk ys:Int)+1)=(((xs.length-ys.length+1)*(Qk ys+1):Nat):Int):=by rw [fP];congr 1;omega
   refine go 3 ?_;refine cl 2 [1] (Od (by first|exact g.sz|exact f.sz)) λ_ _=>?_;refine go 7 ⟨O,O,?_⟩;refine cl 2 [2] (Od (by first|exact g.sz|exact f.sz)) λ_ _=>?_;refine go 7 ⟨O,by rw [b];exact⟨O,O⟩,by rw [b];exact⟨O,O⟩,?_⟩;refine Zc J (λa=>?_) (λa=>?_)
   .refine go 9 ?_;exact Na c () results391 (by rw [b]at a;rw [Zev O,aJ O];unfold Db;rw [aD O,aD O,aF O]) aA Za
   .refine go 10 ?_;exact Na c () results391 (by rw [b]at a;rw [Zev O,aJ O];unfold Db;rw [aD O,aD O,aD O]) aA Za
theorem Zkw(H:Vp xs)(s:Vp ys)(M:Db xs ys=0):Cal prog 390 #[v,u] [Yg 2 wv v xs,Yg 2 wv u ys] true (G:=Value) (λr=>True) (λr=> .tuple #[r,.int .i64 0]) (λr=>[Yg 2 wv r (Xs xs ys)]):=by
 refine Zf func390 ntmps390 λw0 sc g q=>?_;have N:=H.len;have B:=s.len;have W:=Pd H.sz;have Y:=Pd s.sz;obtain⟨F,t⟩:=Zb9 M;have o:=Zev (p:=xs) F;refine go 10 ?_;refine cl 2 [1,2] (Zcj H s) λ_ _=>go 14<|Zc J (λd=>?_) (λd=>?_)
 .exfalso;exact d M
 .refine go 5 ?_;refine tt (Zlv 3 Zv1 J J J K1 call392 (Zx 1 J J J Zu) J g.h) λv _=>go 9 ?_;refine Pr J (λa=>?_) (λa=>?_)
  .have D:xs.length<ys.length:=by rw [o]at a;simpa using a
   refine go 9 ?_;exact Na q _ results390 J aA (gow 3 Za (by unfold Xs;rw [aF D]))
  .have z:ys.length<=xs.length:=by rw [o]at a;simpa using a
   have I:=t z;refine go 4<|Ym (Yd 4) λb _=>?_;refine go 8 ⟨O,?_⟩;refine dt (Yh 2 (ys.length-1) J J J J Zh Qo Pe)<|go 1 ⟨O,?_⟩;refine Ym (Yd 5) λP _=>?_;refine go 13 ⟨O,?_⟩;refine lp (G:=Nat) [1,8,9,10] [0,1,2,4,5] (λj=>[(11,.int .i64 ((xs.length:Int)-1-(j:Int)))]) (λj=>[(3,Pt 2 144 wv v (Qi xs ys j))]) (λj=>j<=xs.length-ys.length+1) (λj=>xs.length-ys.length+1-j) 0 O1 ⟨by rw [show(xs.length:Int)-1-((0:Nat):Int)=(xs.length:Int)-1 by omega];rfl,aA⟩ K1 ?_;rintro j Z;refine go 10 ⟨O,?_⟩;refine Zc J (λk=>?_) (λk=>?_)
   .obtain⟨n,c,y⟩:=rest_b I (j:=j) O;have w:=Np xs ys j;refine go 8 ?_;refine dt (Yh 3 (xs.length-1-j) J J J J (Yc pV) Qo Pe)<|go 1 ⟨O,?_⟩;refine Ym (Yd 6) λQ _=>go 12 ?_;refine lp (G:=Nat) [1,8,9,10,11,12,51] [0,1,2,4,5,6] (λi=>[(52,.int .i64 (i:Int))]) (λi=>[(3,Pt 2 144 wv v (Zgn (Qi xs ys j) (cf ys (ys.length-1)) i))]) (λi=>i<=xs.length) (λi=>xs.length-i) 0 O1 K1 ⟨by rw [Zxj];rfl,aA⟩ ?_;rintro i hi;have e:i<xs.length->(Zgn (Qi xs ys j) (cf ys (ys.length-1)) i).getD i 0=cf (Qi xs ys j) i:=λh=>Ybg O;have S:=Zpu (Qi xs ys j) (cf ys (ys.length-1)) i;refine go 6<|Zc J (λl=>?_) (λl=>?_)
    .refine go 10<|Qj (λx=>x=b) [(0,0),(1,0),(2,0),(3,0),(4,0),(5,0),(6,0),(7,1),(8,0),(9,3)]<|go 4 ?_;refine Xp J J (st1 4 J (Yh 3 i J J J J (Yc pV) Qo Pe J))<|go 2 ⟨O,?_⟩;refine Eh J (Xu 6 4 (Fc (by rw [e O];exact n _) (s.sz _) (by rw [e O];exact c _ _)) J J J K3 call218 J O3 Zu J g.h J) (λ_ _=>?_);refine Xp J J (st1 4 J (Yh 3 i J J J J (Yc pV) Qo Pe J))<|r3' J (Lk 3 (enc:=wv) J J J J J J pV J g.h) (λ_ _=>?_);refine go 7 ⟨O,?_⟩;exact Yv (i+1) O1 O1 K1 ⟨by rw [<-Ybf O,<-e O];rfl,aA⟩
    .refine go 6 ?_;obtain rfl:i=xs.length:=O;refine go 7 ?_;refine lp (G:=Nat) [1,8,9,10,11,12,65,66] [0,1,2,4,5,6] (λi=>[(67,.int .i64 (i:Int))]) (λi=>[(3,Pt 2 144 wv v (Zjw ys (Qi xs ys j) (cf ys (ys.length-1)) (cf (Qi xs ys j) (xs.length-1-j)) (xs.length-1-j-(ys.length-1)) i))]) (λi=>i<=ys.length) (λi=>ys.length-i) 0 O1 K1 ⟨by rw [<-Zwx,w];rfl,aA⟩ ?_;rintro i hi;have f:i<ys.length->(Zjw ys (Qi xs ys j) (cf ys (ys.length-1)) (cf (Qi xs ys j) (xs.length-1-j)) (xs.length-1-j-(ys.length-1)) i).getD ((xs.length-1-j-(ys.length-1))+i) 0=cf (Qi xs ys j) ((xs.length-1-j-(ys.length-1))+i)*(cf ys (ys.length-1)):=λh=>Zzd O;have V:=Zpt ys (Qi xs ys j) (cf ys (ys.length-1)) (cf (Qi xs ys j) (xs.length-1-j)) (xs.length-1-j-(ys.length-1)) i;refine go 6<|Zc J (λm=>?_) (λm=>?_)
     .refine go 9 ⟨O2,O2,?_⟩;refine Ym (Yd 7) λR _=>?_;refine go 16 ⟨O,O,O,?_⟩;refine Qj (λx=>x=b) [(0,0),(1,0),(2,0),(3,0),(4,0),(5,0),(6,0),(7,0),(8,1),(9,1),(10,0),(11,3)]<|go 4 ?_;refine Xp J J (st1 4 J (Yh 3 ((xs.length-1-j-(ys.length-1))+i) J J J J (Yc pV) Qo Pe))<|go 3 ⟨O,?_⟩;refine Eh J (Xu 7 4 (Fc (n _) (s.sz _) (c _ _)) J J J K3 call218 J O3 Zu J g.h J) (λ_ _=>?_);refine Eh J (Xu 7 4 (Zsn (by rw [f O];exact c _ _) (c _ _) (by rw [f O];exact y _ _ _ _)) J J J K3 call370 J O3 Zu J g.h J) (λ_ _=>?_);refine Xp J J (st1 4 J (Yh 3 ((xs.length-1-j-(ys.length-1))+i) J J J J (Yc pV) Qo Pe))<|r3' J (Lk 3 (enc:=wv) J J J J J J pV J g.h) (λ_ _=>?_);refine go 7 ⟨O,?_⟩;exact Yv (i+1) O1 O1 K1 ⟨by rw [<-Zzc O,<-f O];rfl,aA⟩
     .refine go 11 ⟨O,?_⟩;obtain rfl:i=ys.length:=O;exact Yv (j+1) O1 O1 ⟨by rw [show(xs.length:Int)-1-((j+1:Nat):Int)=(xs.length:Int)-1-(j:Int)-1 by omega];rfl,aA⟩ ⟨by rfl,aA⟩
   .refine go 6 ?_;obtain rfl:j=xs.length-ys.length+1:=O;refine Zl (Xj 3 J J pV)<|go 2 ?_;refine tt (Xu 8 4 (Bv (Zoe I)) J J J K2 call220 J O3 (Zx 3 J J J Zu) J g.h aA) λ_ _=>go 7 ?_;exact Na q _ results390 J aA (Oz 8 Za (by unfold Xs;rw [aD O]<;>rfl))
theorem Zaz(hv:Vp xs)(g:Vp ys)(hd:Db xs ys=0):Cal prog 362 #[v,u] [Yg 2 wv v xs,Yg 2 wv u ys] true (G:=Value) (λr=>True) (λr=> .tuple #[r,.int .i64 (if pdv xs ys then 0 else 10)]) (λr=>[Yg 2 wv r (if pdv xs ys then Kh xs ys else [])]):=by
 refine Zf func362 ntmps362 λw0 sc D s=>?_;have a6:=hv.len;have a0:=g.len;have c2:=Pd hv.sz;have c3:=Pd g.sz;obtain⟨R,W⟩:=Zb9 hd;have P:=Zev (p:=xs) R;have c:cf ys (ys.length-1)≠0:=g.tr.mem (λe=>R (by rw [e];rfl));refine go 10 ?_;refine cl 2 [1,2] (Zcj hv g) λ_ _=>go 16<|Zc J (λw=>?_) (λw=>?_)
 .exfalso;exact w hd
 .refine go 8<|Zc J (λl=>?_) (λl=>?_)
  .refine go 9 ?_;have S:xs=[]:=aE O;have d:pdv xs ys:= .inl S;exact Na s _ results362 (by rw [aF d]) aA (Pj (by rw [aF d,S];rfl) Za)
  .have t:xs≠[]:=λe=>by rw [e]at l;simp at l
   refine go 6<|Pr J (λa=>?_) (λa=>?_)
   .have c1:xs.length<ys.length:=by rw [P]at a;simpa using a
    refine go 9 ?_;have d:¬pdv xs ys:=λh=>by rcases h with h|h;(exact t h);(have:=h.1;omega)
    exact Na s _ results362 (by rw [aD d]) aA (Pj (aD d) Za)
   .have Q:ys.length<=xs.length:=by rw [P]at a;simpa using a
    have V:=W Q;refine go 5<|Ym (Yd 3) λb _=>go 5 ?_;refine tt (Zlv 4 Zv1 J J J K1 call392 (Zx 1 J J J Zu) J D.h) (λv _=>?_);refine go 11 ⟨O,O,?_⟩;refine tt (Gt 5 (xs.length-ys.length+1) 24 (enc:=wv) 0 J J J J Qo ti144 J pV.cells pV.pos J J J D.h) (λa2 _=>?_);refine go 13 ⟨⟨by simp only [aV];omega,by simp only [aV];omega⟩,?_⟩;refine lp (G:=Nat) [1,8,9,10] [0,1,2,3] (λj=>[(11,.int .i64 ((xs.length:Int)-(ys.length:Int)-(j:Int)))]) (λj=>[(4,Pt 2 144 wv v (Qn xs ys j)),(5,Pt 2 144 wv a2 (Zfu xs ys j))]) (λj=>(j<=xs.length-ys.length+1)/\(∀k,xs.length-ys.length<k+j->k<=xs.length-ys.length->Kf xs ys k)) (λj=>xs.length-ys.length+1-j) 0 ⟨O1,λk h1 h2=>O⟩ ⟨by simp only [aV];exact aL some (Ycc O),aA⟩ ⟨J,by rw [Zx6];rfl,aA⟩ ?_;rintro j ⟨hj,hx⟩;have d2:=Za7 xs ys j;refine go 7<|Zc J (λF=>?_) (λF=>?_)
    .obtain⟨f,Z⟩:=div_b V (j:=j) O hx;have b6:=Ba xs ys j;have b9:xs.length-ys.length-j+ys.length-1<xs.length:=O;refine go 4 ?_;refine jn (G:=Nat×Nat) [1,8,9,10,11] [0,4,5,1,2,3] (λq=>[(12,.pointer (some ⟨q.1,0,none⟩)),(13,.pointer (some ⟨q.2,0,none⟩)),(14,.int .i64 0)]) (λq=>[(97,box q.1 144 (wc (Bx (dq ys (Qn xs ys j) (xs.length-ys.length-j))))),(98,box q.2 144 (wc (Bx (cf (Qn xs ys j) ((xs.length-ys.length-j)+ys.length-1)%cf ys (ys.length-1)))))]) (λq=>True) ?_ ?_
     .refine Oj [2,4] [23]<|Ya 10 [(0,0),(1,0),(2,0),(3,0),(4,0),(5,0),(6,0),(7,0),(8,0),(9,0),(10,0),(11,0),(12,0),(13,0)]<|go 6 ⟨O,O,?_⟩;refine Xp J J (Eo (Yh 4 ((xs.length-ys.length-j)+ys.length-1) J J J J (Yc pV) Qo Pe) K2)<|go 5 ⟨O,O,?_⟩;refine Xp J J (Eo (Yh 2 (ys.length-1) J J J J Zh Qo Pe) K2)<|go 2 ⟨O,?_⟩;refine Ye6 9 14 19 20 ?_ ?_ ?_
      .refine Hh (Zs 5 [] (Dk (f _) (g.sz _) c)) λ_ _=>?_;refine Ya 5 [(15,0),(16,0),(17,0),(18,0)]<|go 5 ?_;refine Ml 4 19 20 ?_ ?_
       .refine Hh (Ii 97) λa8 ho=>?_;refine Ya 0 [(20,1),(21,1),(22,1),(23,3)]<|Xq (Ii 98) λa9 c4=>go 4 ?_;exact Yu<|Hd (_,_) aA K3 K2
       .refine Hh (Ii 98) λb0 c5=>?_;refine Ya 0 [(19,1),(21,1),(22,1),(23,3)]<|Xq (Ii 97) λb1 c6=>go 4 ?_;exact Yu<|Hd (_,_) aA K3 K2
      .refine Hh (Ii 97) λb2 c7=>?_;refine Ml 8 14 20 ?_ ?_
       .refine Hh (Zs 5 [] (Dk (f _) (g.sz _) c)) λ_ _=>?_;refine Ya 0 [(15,0),(16,0),(17,0),(18,0),(20,1),(21,1),(22,1),(23,3)]<|go 4 ?_;refine Xq (Ii 98) λb3 c8=>go 4<|Yu ?_;exact Hd (_,_) aA K3 K2
       .refine Hh (Ii 98) λb4 c9=>?_;refine Ya 0 [(14,1),(15,0),(16,0),(17,0),(18,0),(21,1),(22,1),(23,3)]<|Xq (Zs 5 [] (Dk (f _) (g.sz _) c)) λ_ _=>go 8 ?_;exact Yu<|Hd (_,_) aA K3 K2
      .refine Hh (Ii 98) λb5 d0=>?_;refine Ml 8 14 19 ?_ ?_
       .refine Hh (Zs 5 [] (Dk (f _) (g.sz _) c)) λ_ _=>?_;refine Ya 0 [(15,0),(16,0),(17,0),(18,0),(19,1),(21,1),(22,1),(23,3)]<|go 4 ?_;refine Xq (Ii 97) λa3 d1=>go 4<|Yu ?_;exact Hd (_,_) aA K3 K2
       .refine Hh (Ii 97) λa4 a7=>?_;refine Ya 0 [(14,1),(15,0),(16,0),(17,0),(18,0),(21,1),(22,1),(23,3)]<|Xq (Zs 5 [] (Dk (f _) (g.sz _) c)) λ_ _=>go 8 ?_;exact Yu<|Hd (_,_) aA K3 K2
     .rintro⟨b7,b8⟩ -;dsimp only;refine go 7<|Zc J (λy=>?_) (λy=>?_)
      .exfalso;exact y rfl
      .refine go 6 ?_;refine cl 5 [] (Kb Yi7) λ_ _=>go 3<|Zc J (λm=>?_) (λm=>?_)
       .have a1:¬Kf xs ys (xs.length-ys.length-j):=λhe=>m (by rw [Zq0 c (g.sz _),(Zql O).1 he];rfl);refine go 13 ?_;have d:¬pdv xs ys:=λh=>by rcases h with h|h;(exact t h);(exact a1 (h.2.1 _ O))
        exact Na s _ results362 (by rw [aD d]) aA (Pj (aD d) Za)
       .have N:Kf xs ys (xs.length-ys.length-j):=(Zql O).2 (by have h0:=cH m;rw [Zq0 c (g.sz _)]at h0;exact gN.1 h0);obtain⟨I,M,Y⟩:=Z N;refine Zl (Ol 97 (q:=box b7 144 (wc (dq ys (Qn xs ys j) (xs.length-ys.length-j)))) (by rw [Lr I]) J J)<|go 7 ?_;refine dt (Yh 5 (xs.length-ys.length-j) J J J J (Yc pV) Qo Pe)<|tt (Lk 5 (enc:=wv) J J J J J J pV J D.h) λ_ _=>go 10 ?_;refine lp (G:=Nat) [1,8,9,10,11,12,78,79] [0,97,98,5,1,2,3] (λi=>[(80,.int .i64 (i:Int))]) (λi=>[(4,Pt 2 144 wv v (Zj1 ys (Qn xs ys j) (dq ys (Qn xs ys j) (xs.length-ys.length-j)) (xs.length-ys.length-j) i))]) (λi=>i<=ys.length) (λi=>ys.length-i) 0 O1 K1 ⟨by rw [<-Zx4];rfl,aA⟩ ?_;rintro i hi;have B:i<ys.length->(Zj1 ys (Qn xs ys j) (dq ys (Qn xs ys j) (xs.length-ys.length-j)) (xs.length-ys.length-j) i).getD ((xs.length-ys.length-j)+i) 0=cf (Qn xs ys j) ((xs.length-ys.length-j)+i):=λh=>Ydg O;have c0:=Zpv ys (Qn xs ys j) (dq ys (Qn xs ys j) (xs.length-ys.length-j)) (xs.length-ys.length-j) i;refine go 6<|Zc J (λH=>?_) (λH=>?_)
        .refine go 9 ⟨O2,O2,?_⟩;refine Ym (Yd 6) λa5 _=>go 4<|Qj (λx=>x=b) [(0,0),(1,0),(2,0),(3,0),(4,0),(5,0),(6,0),(7,0),(8,0),(9,0),(10,0),(11,0),(12,1),(13,1),(14,0),(15,3)]<|go 8 ⟨O,O,?_⟩;refine Xp J J (st1 3 J (Yh 4 ((xs.length-ys.length-j)+i) J J J J (Yc pV) Qo Pe))<|go 3 ⟨O,?_⟩;refine Eh J (Xu 6 3 (Fc I (g.sz _) (M _)) J J J K3 call218 J O3 Zu J D.h J) (λ_ _=>?_);refine Eh J (Xu 6 3 (Zsn (by rw [B O];exact f _) (M _) (by rw [B O];exact Y _ _)) J J J K3 call370 J O3 Zu J D.h J) (λ_ _=>?_);refine Xp J J (st1 3 J (Yh 4 ((xs.length-ys.length-j)+i) J J J J (Yc pV) Qo Pe))<|r3' J (Lk 4 (enc:=wv) J J J J J J pV J D.h) (λ_ _=>?_);refine go 7 ⟨O,?_⟩;exact Yv (i+1) O1 O1 K1 ⟨by rw [<-Ydf O,<-B O];rfl,aA⟩
        .refine go 11 ⟨O,?_⟩;obtain rfl:i=ys.length:=O;exact Yv (j+1) ⟨O1,λk h1 h2=>by rcases bE (xs.length-ys.length) (k+j)with h3|h3;(exact hx k h3 h2);(rw [show k=xs.length-ys.length-j by omega];exact N)⟩ O1 ⟨by rw [show(xs.length:Int)-(ys.length:Int)-((j+1:Nat):Int)=(xs.length:Int)-(ys.length:Int)-(j:Int)-1 by omega];rfl,aA⟩ ⟨by rfl,by rw [<-Ydi O];rfl,aA⟩
    .refine go 7 ?_;obtain rfl:j=xs.length-ys.length+1:=O;have o:∀k,k<=xs.length-ys.length->Kf xs ys k:=λk hk=>hx k O hk;refine Zl (Xj 4 J J pV)<|go 6<|Yn 105 J (λz=>?_) (λz=>?_)
     .refine go 1 ?_;refine It 7 [4] (Zbx (Zza V o)) λ_ _=>go 5<|Zc J (λn=>?_) (λn=>?_)
      .refine go 8 ?_;have d:¬pdv xs ys:=λh=>by rcases h with h|h;(exact t h);(rw [h.2.2]at n;simp at n)
       exact Na s _ results362 (by rw [aD d]) aA (Pj (aD d) Za)
      .refine go 3<|Zl (Xj 5 J J pV)<|go 2 ?_;refine tt (Xu 8 3 (Bv (Zto V o _)) J J J K2 call220 J O3 (Zx 5 J J J Zu) J D.h aA) λ_ _=>go 7 ?_;have d:pdv xs ys:= .inr ⟨Q,o,aE O⟩;exact Na s _ results362 (by rw [aF d]<;>rfl) aA (Oz 8 Za (by rw [aF d,Zo7 t,<-Zeu]<;>rfl))
     .exfalso;exact z rfl
theorem Zmd(xs:List Int)(x y z:Int)(k:Vp xs)(hx:bl x.natAbs<=65536)(hy:bl y.natAbs<=65536)(R:bl z.natAbs<=65536)(a9:0<z)(hE:¬Zjd xs x y z):Cal prog 144 #[v,wv x,wv y,wv z] [Yg 2 wv v xs] true (G:=Value) (λr=>True) (λr=> .tuple #[r,.int .i64 0]) (λr=>[Yg 2 wv r (Le xs x y z)]):=by
 refine Zf func144 ntmps144 λw0 sc a t=>?_;have P:=k.len;refine go 2<|Ym (Yj 2) λb _=>Ym (Yj 3) λW _=>Ym (Yj 4) λY _=>go 8 ?_;refine cl 4 [1] (Yz ‹_›) λ_ _=>go 3 ?_;refine It 4 [] (Mn ‹_›) λ_ _=>go 4 ?_;refine It 4 [] (Mn ‹_›) λ_ _=>go 4 ?_;refine It 4 [] (Mn ‹_›) λ_ _=>go 11 ?_;refine cl 4 [] (Kb R) λ_ _=>go 3<|Zc J (λm=>?_) (λm=>?_)
 .exfalso;have h2:=dD.1 (Ak z);omega
 .refine go 10<|Zc J (λf=>?_) (λf=>?_)
  .refine go 8 ?_;exact Na t _ results144 J aA (Pj (by unfold Le;rw [aF O]) Za)
  .have B:xs≠[]:=λe=>by rw [e]at f;simp at f
   have a6:=Pd k.sz;have d:Sz 65536 [x,y,z]:=Sz.of_mem (by intro q Q;simp at Q;rcases Q with rfl|rfl|rfl<;>assumption);have a7:=Pd d;have a8:(xs.length-1)*(Qk [x,y,z]+1)<=24*65537:=aT O O;have c:((xs.length:Int)-1)*((Qk [x,y,z]:Int)+1)=(((xs.length-1)*(Qk [x,y,z]+1):Nat):Int):=by rw [fP];congr 1;omega
   refine go 3 ?_;refine jn (G:=Unit) [0,5,6,7] [0,1,2,3,4] (λ_=>[(55,.bool (decide ((65536:Int)<(Qk xs:Int)+((xs.length:Int)-1)*((Qk [x,y,z]:Int)+1)+8)))]) (λ_=>[]) (λ_=>True) ?_ ?_
   .refine Da (λ_=>False) []<|Ya 8 [(0,0),(2,0),(3,0),(4,0),(5,0),(6,0),(7,0)]<|go 8 ⟨O,?_⟩;refine Ml 7 1 8 ?_ ?_
    .refine Hh (Zs 4 [1] (Od (by first|exact k.sz|exact d))) λ_ _=>?_;refine Ya 0 [(8,1),(9,1),(10,0),(11,0),(12,0),(13,0),(14,0)]<|Eh J (Xm [(0,_),(1,_),(2,_)] 90 (enc:=wv) [x,y,z] J J K6 Ztm ti144 J J fill3 J J pV.cells J J a.h) λv _=>Xq (Zs 4 [90] (Od (by first|exact k.sz|exact d))) λ_ _=>?_;refine go 6 ⟨O,by rw [c];exact⟨O,O⟩,by rw [c];exact⟨O,O⟩,by rw [c];exact⟨O,O⟩,?_⟩;exact Yu<|Hd () aA K1 aA
    .refine Zaf J J (Xm [(0,_),(1,_),(2,_)] 90 (enc:=wv) [x,y,z] J J K6 Ztm ti144 J J fill3 J J pV.cells J J a.h) (λb0 _=>?_);refine Ya 0 [(1,1),(9,1),(10,0),(11,0),(12,0),(13,0),(14,0)]<|Xq (Zs 4 [1] (Od (by first|exact k.sz|exact d))) λ_ _=>Xq (Zs 4 [90] (Od (by first|exact k.sz|exact d))) λ_ _=>?_;refine go 6 ⟨O,by rw [c];exact⟨O,O⟩,by rw [c];exact⟨O,O⟩,by rw [c];exact⟨O,O⟩,?_⟩;exact Yu<|Hd () aA K1 aA
   .rintro _ -;refine Zc J (λg=>?_) (λg=>?_)
    .exfalso;exact hE ⟨B,by rw [c]at g;omega⟩
    .have N:Qk xs+(xs.length-1)*(Qk [x,y,z]+1)+8<=65536:=by rw [c]at g;omega
     refine go 4<|Ym (Yd 5) λl _=>go 2 ?_;refine jn (G:=Value×Nat) [0,5,6,7,10] [0,1,2,3,4,5] (λq=>[(11,q.1),(12,.pointer (some ⟨q.2,0,none⟩))]) (λq=>[(70,Pt 2 144 wv q.1 (Nk xs x y z 0)),(98,box q.2 144 (wc 1))]) (λq=>True) ?_ ?_
     .refine Da (λ_=>False) [9,10]<|Ya 5 [(0,0),(1,0),(2,0),(3,0),(4,0),(5,0)]<|go 4 ⟨O,?_⟩;refine Xp J J (Qv (Yh 1 (xs.length-1) J J J J Zh Qo Pe))<|go 2 ⟨O,?_⟩;refine Ye6 4 6 7 8 ?_ ?_ ?_
      .refine Zaf J J (Xm [(0,_)] 70 (enc:=wv) [cf xs (xs.length-1)] J J K2 Qo ti144 J J J J J pV.cells J J a.h) (λb1 _=>?_);refine Ml 3 7 8 ?_ ?_
       .refine Hh (Zs 5 [] (Zn _ (by first|assumption|exact⟨O,O⟩))) λ_ _=>?_;refine Ya 0 [(8,1),(9,3),(10,3)]<|Xq (Yd 98) λZ _=>go 3 ?_;exact Yu<|Hd (_,_) aA K2 ⟨by rw [Fe];rfl,rfl,aA⟩
       .refine Hh (Yd 98) λa0 _=>?_;refine Ya 0 [(7,1),(9,3),(10,3)]<|Xq (Zs 5 [] (Zn _ (by first|assumption|exact⟨O,O⟩))) λ_ _=>go 3 ?_;exact Yu<|Hd (_,_) aA K2 ⟨by rw [Fe];rfl,rfl,aA⟩
      .refine Hh (Zs 5 [] (Zn _ (by first|assumption|exact⟨O,O⟩))) λ_ _=>?_;refine Ml 3 6 8 ?_ ?_
       .refine Zaf J J (Xm [(0,_)] 70 (enc:=wv) [cf xs (xs.length-1)] J J K2 Qo ti144 J J J J J pV.cells J J a.h) (λb2 _=>?_);refine Ya 0 [(8,1),(9,3),(10,3)]<|Xq (Yd 98) λa1 _=>go 3 ?_;exact Yu<|Hd (_,_) aA K2 ⟨by rw [Fe];rfl,rfl,aA⟩
       .refine Hh (Yd 98) λa2 _=>?_;refine Ya 0 [(6,1),(9,3),(10,3)]<|Eh J (Xm [(0,_)] 70 (enc:=wv) [cf xs (xs.length-1)] J J K2 Qo ti144 J J J J J pV.cells J J a.h) λb3 _=>go 3 ?_;exact Yu<|Hd (_,_) aA K2 ⟨by rw [Fe];rfl,rfl,aA⟩
      .refine Hh (Yd 98) λa3 _=>?_;refine Ml 3 6 7 ?_ ?_
       .refine Zaf J J (Xm [(0,_)] 70 (enc:=wv) [cf xs (xs.length-1)] J J K2 Qo ti144 J J J J J pV.cells J J a.h) (λb4 _=>?_);refine Ya 0 [(7,1),(9,3),(10,3)]<|Xq (Zs 5 [] (Zn _ (by first|assumption|exact⟨O,O⟩))) λ_ _=>go 3 ?_;exact Yu<|Hd (_,_) aA K2 ⟨by rw [Fe];rfl,rfl,aA⟩
       .refine Hh (Zs 5 [] (Zn _ (by first|assumption|exact⟨O,O⟩))) λ_ _=>?_;refine Ya 0 [(6,1),(9,3),(10,3)]<|Eh J (Xm [(0,_)] 70 (enc:=wv) [cf xs (xs.length-1)] J J K2 Qo ti144 J J J J J pV.cells J J a.h) λb5 _=>go 3 ?_;exact Yu<|Hd (_,_) aA K2 ⟨by rw [Fe];rfl,rfl,aA⟩
     .rintro⟨S,V⟩ -;dsimp only;refine go 10 ⟨O,?_⟩;refine lp (G:=Nat×Value) [0,5,6,7,10,12] [0,1,2,3,4,5] (λq=>[(13,.int .i64 ((xs.length:Int)-2-(q.1:Int))),(11,q.2)]) (λq=>[(70,Pt 2 144 wv q.2 (Nk xs x y z q.1)),(98,box V 144 (wc (z^q.1)))]) (λq=>q.1<=xs.length-1) (λq=>xs.length-1-q.1) (0,S) O1 ⟨by rw [show(xs.length:Int)-2-((0:Nat):Int)=(xs.length:Int)-2 by omega];rfl,rfl,aA⟩ ⟨J,by rw [cW];rfl,aA⟩ ?_;rintro⟨j,S⟩ hj;dsimp only at hj;dsimp only;refine go 7<|Zc J (λn=>?_) (λn=>?_)
      .obtain⟨c1,H,I,w,c5,c6,c7,M,c9⟩:=cp_all N (j:=j) O;have a4:=Za8 xs x y z j;refine go 8 ?_;refine tt (Xu 5 5 (Fc c1 R (by rw [<-dX];exact H)) J J J K3 call218 J O3 Zu J a.h aA) (λ_ _=>?_);refine go 8 ⟨O,?_⟩;refine tt (Gt 71 ((Nk xs x y z j).length+1) 24 (enc:=wv) 0 J J J J Qo ti144 J pV.cells pV.pos J J J a.h) λD _=>go 12 ?_;refine lp (G:=Nat) [0,5,6,7,10,12,13,14,78,79] [0,70,98,1,2,3,4,5] (λi=>[(80,.int .i64 (i:Int))]) (λi=>[(71,Pt 2 144 wv D (cnx (Nk xs x y z j) x y i))]) (λi=>i<=(Nk xs x y z j).length) (λi=>(Nk xs x y z j).length-i) 0 O1 K1 ⟨by rw [Yd4];rfl,aA⟩ ?_;rintro i hi;have s:i<(Nk xs x y z j).length->(cnx (Nk xs x y z j) x y i).getD i 0=if i=0 then 0 else cf (Nk xs x y z j) (i-1)*y:=λh=>Zv0 h
       have a5:=Kt (Nk xs x y z j) x y i;refine go 6<|Zc J (λo=>?_) (λo=>?_)
       .refine go 9 ⟨O2,O2,?_⟩;refine Ym (Yd 6) λF _=>go 5<|Qj (λx=>x=l) [(0,0),(1,0),(2,0),(3,0),(4,0),(5,0),(6,0),(7,0),(8,1),(9,1),(10,0),(11,3)]<|go 4 ?_;refine Xp J J (st1 5 J (Yh 71 i J J J J (Yc pV) Qo Pe J))<|go 3 ⟨O,?_⟩;refine Eh J (Xu 6 5 (Fc (I _) hx (w _)) J J J K3 call218 J O3 Zu J a.h J) (λ_ _=>?_);refine Eh J (Xu 6 5 (Zja (by rw [s O];exact c6 i) (w _) (by rw [s O];exact c7 i)) J J J K3 call219 J O3 Zu J a.h J) (λ_ _=>?_);refine Xp J J (st1 5 J (Yh 71 i J J J J (Yc pV) Qo Pe J))<|r3' J (Lk 71 (enc:=wv) J J J J J J pV J a.h) (λ_ _=>?_);refine go 8 ⟨O,?_⟩;refine tt (Xu 6 5 (Fc (I _) hy (c5 _)) J J J K3 call218 J O3 Zu J a.h aA) (λ_ _=>?_);refine dt (Yh 71 (i+1) J J J J (Yc pV) Qo Pe O (by rw [cI];omega))<|tt (Lk 71 (enc:=wv) J J J J J J pV J a.h O3 (by rw [cI];omega)) (λ_ _=>?_);refine go 7 ⟨O,?_⟩;exact Yv (i+1) O1 O1 K1 ⟨by rw [<-Yiy O];rfl,aA⟩
       .refine go 6 ?_;obtain rfl:i=(Nk xs x y z j).length:=O;have p:(cnx (Nk xs x y z j) x y (Nk xs x y z j).length).getD 0 0=cf (Nk xs x y z j) 0*x:=Zqy O;refine Qj (λx=>x=l) [(0,0),(1,0),(2,0),(3,0),(4,0),(5,0),(6,0),(7,0),(8,0),(9,1),(10,1),(11,0),(12,3)]<|go 6 ⟨O,O,?_⟩;refine Xp J J (st1 5 J (Yh 1 (xs.length-2-j) J J J J Zh Qo Pe))<|go 2 ⟨O,?_⟩;refine Eh J (Xu 6 5 (Fc (k.sz _) (by rw [<-dX];exact H) (by rw [<-dX];exact M)) J J J K3 call218 J O3 Zu J a.h J) (λ_ _=>?_);refine Eh J (Xu 6 5 (Zja (by rw [p];exact w 0) (by rw [<-dX];exact M) (by rw [p,<-dX];exact c9)) J J J K3 call219 J O3 Zu J a.h J) (λ_ _=>?_);refine go 1 ⟨O,?_⟩;refine r3' J (Lk 71 (enc:=wv) J J J J J J pV J a.h) (λ_ _=>?_);refine go 13 ⟨O,?_⟩;exact Zr (s_move 71 70 J J J J)<|Yv (j+1,_) O1 O1 ⟨by rw [show(xs.length:Int)-2-((j+1:Nat):Int)=(xs.length:Int)-2-(j:Int)-1 by omega];rfl,rfl,aA⟩ ⟨by rw [Yiz O];simp only [<-dX];rfl,by rw [dX];rfl,aA⟩
      .refine go 6 ?_;obtain rfl:j=xs.length-1:=O;refine Zl (Xj 70 J J pV)<|go 2 ?_;refine tt (Xu 7 5 (Bv (Yiw N)) J J J K2 call220 J O3 (Zx 70 J J J Zu) J a.h aA) λ_ _=>go 7 ?_;exact Na t _ results144 J aA (Oz 7 Za (by unfold Le;rw [aD O]<;>rfl))
theorem Zpb(z:Vp xs)(y:Vp ys)(F:Nat)(hg:¬Zk6 xs ys)(V:eok F (gA xs ys) (gB xs ys)):Cal prog 361 #[v,u] [Yg 2 wv v xs,Yg 2 wv u ys] true (G:=Value) (λr=>True) (λr=> .tuple #[r,.int .i64 0]) (λr=>[Yg 2 wv r (Om F xs ys)]):=by
 refine Zf func361 ntmps361 λw0 sc hw x=>?_;have Z:=z.len;have S:=y.len;have a2:=Pd z.sz;have a3:=Pd y.sz;have a4:=Zw xs;have a5:=Zw ys;have Q:(max xs.length ys.length+2)*(max xs.length ys.length+2)<=27*27:=aT O O;have a0:(max xs.length ys.length+2)*(max xs.length ys.length+2)*(max (Qk xs) (Qk ys)+8)<=27*27*65544:=aT Q O;have H:(max (xs.length:Int) (ys.length:Int)+2)*(max (xs.length:Int) (ys.length:Int)+2)=(((max xs.length ys.length+2)*(max xs.length ys.length+2):Nat):Int):=by rw [fP,show(((max xs.length ys.length+2):Nat):Int)=(max (xs.length:Int) (ys.length:Int)+2) by omega]
 have j:(max (xs.length:Int) (ys.length:Int)+2)*(max (xs.length:Int) (ys.length:Int)+2)*(max (Qk xs:Int) (Qk ys:Int)+8)=(((max xs.length ys.length+2)*(max xs.length ys.length+2)*(max (Qk xs) (Qk ys)+8):Nat):Int):=by rw [H,fP ((max xs.length ys.length+2)*(max xs.length ys.length+2)),show((max (Qk xs) (Qk ys)+8:Nat):Int)=max (Qk xs:Int) (Qk ys:Int)+8 by omega]
 refine go 10 ?_;refine cl 2 [1] (Yz ‹_›) λ_ _=>go 3 ?_;refine It 2 [2] (Yz ‹_›) λ_ _=>go 14 ?_;refine dt (Zgh J J J)<|go 4 ⟨O,?_⟩;refine jn (G:=Unit) [0,1] [0,1,2] (λ_=>[(46,.bool (decide (Zk6 xs ys)))]) (λ_=>[]) (λ_=>True) ?_ ?_
 .refine go 5<|Yn 29 J (λN=>?_) (λN=>?_)
  .refine go 5<|Yn 34 J (λk=>?_) (λk=>?_)
   .refine go 4 ⟨by rw [H];exact⟨O,O⟩,?_⟩;refine It 2 [1] (Od (by first|exact z.sz|exact y.sz)) λ_ _=>go 1 ?_;refine It 2 [2] (Od (by first|exact z.sz|exact y.sz)) λ_ _=>?_;refine Bb (Zgh J J J) J J<|go 5 ⟨O,by rw [j];exact⟨O,O⟩,?_⟩;exact Hd () aA ⟨by first|(rw [j];exact aL some (vB (dD.2 ⟨λh=>⟨O,O,O⟩,λh=>by have:=h.2.2;omega⟩)))|exact aL some (vB (aJ (λh=>by have W:=h.1;have Y:=h.2.1;omega)).symm),aA⟩ aA
   .refine go 13 ?_;exact Hd () aA ⟨by first|(rw [j];exact aL some (vB (dD.2 ⟨λh=>⟨O,O,O⟩,λh=>by have:=h.2.2;omega⟩)))|exact aL some (vB (aJ (λh=>by have W:=h.1;have Y:=h.2.1;omega)).symm),aA⟩ aA
  .refine go 18 ?_;exact Hd () aA ⟨by first|(rw [j];exact aL some (vB (dD.2 ⟨λh=>⟨O,O,O⟩,λh=>by have:=h.2.2;omega⟩)))|exact aL some (vB (aJ (λh=>by have W:=h.1;have Y:=h.2.1;omega)).symm),aA⟩ aA
 .rintro _ -;refine Zc J (λl=>?_) (λl=>?_)
  .exfalso;exact hg l
  .refine go 5 ?_;refine cl 3 [1] (Pp z) λ_ _=>go 14<|Zc J (λm=>?_) (λm=>?_)
   .exfalso;exact m rfl
   .refine go 5 ?_;refine cl 4 [2] (Pp y) λ_ _=>go 14<|Zc J (λn=>?_) (λn=>?_)
    .exfalso;exact n rfl
    .refine go 2 ?_;refine jn (G:=Value×Value) [] [0,1,2,3,4] (λq=>[(7,q.1),(9,q.2)]) (λq=>[(80,Yg 2 wv q.1 (gA xs ys)),(81,Yg 2 wv q.2 (gB xs ys))]) (λq=>True) ?_ ?_
     .refine go 9<|Zc J (λD=>?_) (λD=>?_)
      .refine go 6<|Zr (Nt 4 80 J J J)<|Zr (Nt 3 81 J J J) ?_;exact Hd (_,_) aA K2 ⟨by unfold gA;first|rw [aF O];rfl|rw [aD O];rfl,by unfold gB;first|rw [aF O];rfl|rw [aD O];rfl,aA⟩
      .refine go 1<|Zr (Nt 3 80 J J J)<|Zr (Nt 4 81 J J J) ?_;exact Hd (_,_) aA K2 ⟨by unfold gA;first|rw [aF O];rfl|rw [aD O];rfl,by unfold gB;first|rw [aF O];rfl|rw [aD O];rfl,aA⟩
     .rintro⟨va,vb⟩ -;dsimp only;refine go 2 ?_;refine lp (G:=Value×Value×List Int×List Int×Nat) [] [0,1,2,3,4] (λq=>[(7,q.1),(9,q.2.1)]) (λq=>[(80,Yg 2 wv q.1 q.2.2.1),(81,Yg 2 wv q.2.1 q.2.2.2.1)]) (λq=>(Vp q.2.2.1)/\(Vp q.2.2.2.1)/\(eok q.2.2.2.2 q.2.2.1 q.2.2.2.1)/\(eu q.2.2.2.2 q.2.2.1 q.2.2.2.1=eu F (gA xs ys) (gB xs ys))) (λq=>q.2.2.2.2) (va,vb,gA xs ys,gB xs ys,F) ⟨vp_gA z y,vp_gB z y,V,J⟩ K2 K2 ?_;rintro⟨va,vb,a,b,f⟩ ⟨d,B,t,g⟩;dsimp only at d B t g;dsimp only;refine go 8<|Zc J (λi=>?_) (λi=>?_)
      .have R:b≠[]:=λe=>by rw [e]at i;simp at i
       obtain⟨f1,rfl,w,M,I⟩:=Yc8 t R;refine go 7 ?_;refine cl 5 [80,81] (Zkw d B w) λ_ _=>go 14<|Zc J (λo=>?_) (λo=>?_)
       .exfalso;exact o rfl
       .refine go 6 ?_;refine cl 6 [5] (Pp (Zan d w)) λ_ _=>go 13<|Zc J (λp=>?_) (λp=>?_)
        .exfalso;exact p rfl
        .refine go 9<|Zr (Nt 81 80 J J J)<|Zr (Nt 6 81 J J J) ?_;exact Yv (_,_,b,Yi (Xs a b),f1) ⟨B,Lv (Zan d w),M,by rw [<-I];exact g⟩ (Nat.lt_succ_self f1) K2 K2
      .obtain rfl:b=[]:=aE O;rw [Zft]at g;have a1:=d.len;refine go 12<|Yn 95 J (λP=>?_) (λP=>?_)
       .refine go 4 ⟨O,?_⟩;refine Bb (Yh 80 (a.length-1) J J J J Zh Qo Pe) J J<|go 1 ⟨O,?_⟩;refine It 6 [] (Kb (d.sz _)) λ_ _=>go 4<|Zc J (λs=>?_) (λs=>?_)
        .have c:a.length≠0/\cf a (a.length-1)<0:=⟨O,(Oh _).1 s⟩;refine go 3 ?_;refine cl 6 [] (Zn (-1) (by first|assumption|exact⟨O,O⟩)) λ_ _=>cl 7 [80] (Pi _ (-1) d O3 (Az d.sz)) λ_ _=>go 8 ?_;exact Na x _ results361 J aA (Oz 7 Za (by unfold Om Ku;rw [<-g,aF c]<;>rfl))
        .refine go 10 ?_;have c:¬(a.length≠0/\cf a (a.length-1)<0):=λh=>by first|omega|exact absurd ((Oh (cf a (a.length-1))).2 h.2) ‹_›
         exact Na x _ results361 J aA (Oz 80 Za (by unfold Om Ku;rw [<-g,aD c]<;>rfl))
       .refine go 22 ?_;have c:¬(a.length≠0/\cf a (a.length-1)<0):=λh=>by first|omega|exact absurd ((Oh (cf a (a.length-1))).2 h.2) ‹_›
        exact Na x _ results361 J aA (Oz 80 Za (by unfold Om Ku;rw [<-g,aD c]<;>rfl))
theorem Cl{l:List Int}(f:∀x∈l,Me x)(g:l.length<=1000:=by decide):Cal prog 143 #[v] [Yg 1 Zz v l] true (G:=Value) (λr=>True) (λr=> .tuple #[r,.int .i64 (if 25<(tzl l).length then 7 else 0)]) (λr=>[Yg 2 wv r (if 25<(tzl l).length then []else tzl l)]):=by
 refine Zf func143 ntmps143 λp n h b=>?_;have e:=Yfy f;refine go 20<|Zl (Nn 70 2 144 wv) ?_;refine lp (G:=Nat×Value) [7,8] [0,1] (λq=>[(9,.int .i64 (q.1:Int)),(4,q.2)]) (λq=>[(70,Pt 2 144 wv q.2 (l.take q.1))]) (λq=>q.1<=l.length) (λq=>l.length-q.1) (0,.slice none 0 0) O1 K2 K1 ?_;rintro⟨k,o⟩ i;dsimp only at i;dsimp only;have j:(l.take k).length=k:=by rw [aU];omega
 refine go 6<|Zc J (λc=>?_) (λc=>?_)
 .refine go 14 ⟨O2,O2,?_⟩;refine cl 1 [] (Zn _ (f _ Zk)) λ_ _=>?_;refine tt (Xm [(0,_)] 2 (enc:=wv) [l.getD k 0] J J K2 Qo ti144 J J J J J pV.cells J J h.h) (λv _=>?_);refine tt (Lc 70 2 24 J J J J J J O3 J (Yc pV) Qo ti144 J pV J J J O8 O3 J h.h) (λm _=>?_);refine go 8 ⟨O,?_⟩;exact Yv (k+1,_) O1 O1 K2 ⟨by rw [Qb 0 _ O];rfl,aA⟩
 .refine go 6 ?_;obtain rfl:k=l.length:=O;rw [bM];refine Zl (Xj 70 J J pV)<|go 2 ?_;refine cl 3 [70] (Zbx e) λ_ _=>go 11<|Zc J (λd=>?_) (λd=>?_)
  .refine go 8 ?_;have a:25<(tzl l).length:=O;exact Na b _ results143 (by rw [aF a]) aA (Pj (aF a) Za)
  .refine go 10 ?_;have a:¬25<(tzl l).length:=O;exact Na b _ results143 (by rw [aD a]<;>rfl) aA (Oz 3 Za (by rw [aD a]<;>rfl))
end Go.Sky

