/- Rules, arithmetic and contracts: part 11. No conditions but those that each theorem names. -/
import Derived.Test.YtpmihempjefadaaGreatGa09
set_option linter.all false
set_option maxHeartbeats 4000000
namespace Go.Sky
open Go.Proofs.Tryz
open Go.Proofs
set_option synthInstance.maxHeartbeats 0
set_option synthInstance.maxSize 100000
set_option maxRecDepth 20000
set_option linter.unusedSimpArgs false
variable{v u w:Value}{xs ys:List Int}{x:Int}{y:Nat}
theorem Za7(g:Vp xs)(f:Vp ys):Yx prog 399 #[v,u] [Ym 2 wv v xs,Ym 2 wv u ys] (.tuple #[.bool (Yeu xs ys),.int .i64 (Fc xs ys)]):=by
 refine Zd func399 ntmps399 λp o n c=>?_;have i:=g.len;have h:=f.len;have j:=Qv g.sz;have k:=Qv f.sz;refine go 11 ?_;refine cl 2 [1] (Yo ‹_›) λ_ _=>go 3 ?_;refine Fy 2 [2] (Yo ‹_›) λ_ _=>go 14<|Zc J (λd=>?_) (λd=>?_)
 .refine go 9 ?_;exact Na c () results399 (by unfold Fc Yeu;rw [aG O,aF (l:=ys) O];rfl) aA Za
 .refine go 10<|Zc J (λe=>?_) (λe=>?_)
  .refine go 9 ?_;exact Na c () results399 (by rw [Zdd O,aO O];unfold Fc;rw [aE O,aG O]) aA Za
  .have m:(xs.length-ys.length+1)*(Qs ys+1)<=26*65537:=aY O O;have b:((xs.length:Int)-(ys.length:Int)+1)*((Qs ys:Int)+1)=(((xs.length-ys.length+1)*(Qs ys+1):Nat):Int):=by rw [dM];congr 1;omega
   refine go 3 ?_;refine cl 2 [1] (Me (by first|exact g.sz|exact f.sz)) λ_ _=>?_;refine go 7 ⟨O,O,?_⟩;refine cl 2 [2] (Me (by first|exact g.sz|exact f.sz)) λ_ _=>?_;refine go 7 ⟨O,by rw [b];exact⟨O,O⟩,by rw [b];exact⟨O,O⟩,?_⟩;refine Zc J (λa=>?_) (λa=>?_)
   .refine go 9 ?_;exact Na c () results399 (by rw [b]at a;rw [Zdd O,aM O];unfold Fc;rw [aE O,aE O,aG O]) aA Za
   .refine go 10 ?_;exact Na c () results399 (by rw [b]at a;rw [Zdd O,aM O];unfold Fc;rw [aE O,aE O,aE O]) aA Za
theorem Zi5(M:Vp xs)(s:Vp ys)(P:Fc xs ys=0):Cal prog 398 #[v,u] [Ym 2 wv v xs,Ym 2 wv u ys] true (G:=Value) (λr=>True) (λr=> .tuple #[r,.int .i64 0]) (λr=>[Ym 2 wv r (Xj xs ys)]):=by
 refine Zd func398 ntmps398 λw0 sc g q=>?_;have Q:=M.len;have F:=s.len;have Z:=Qv M.sz;have a0:=Qv s.sz;obtain⟨I,t⟩:=Zax P;have o:=Zdd (p:=xs) I;refine go 10 ?_;refine cl 2 [1,2] (Za7 M s) λ_ _=>go 14<|Zc J (λd=>?_) (λd=>?_)
 .exfalso;exact d P
 .refine go 5 ?_;refine tt (Zjz 3 Zt8 J J J K1 call400 (Zn 1 J J J Yb) J g.h) λv _=>go 9 ?_;refine Ow J (λa=>?_) (λa=>?_)
  .have H:xs.length<ys.length:=by rw [o]at a;simpa using a
   refine go 9 ?_;exact Na q _ results398 J aA (gow 3 Za (by unfold Xj;rw [aG H]))
  .have D:ys.length<=xs.length:=by rw [o]at a;simpa using a
   have N:=t D;refine go 4<|Zw (Zr 4) λb _=>?_;refine go 8 ⟨O,?_⟩;refine dt (Yu 2 (ys.length-1) J J J J Zh Qt Xz)<|go 1 ⟨O,?_⟩;refine Zw (Zr 5) λR _=>?_;refine go 13 ⟨O,?_⟩;refine lp (G:=Nat) [1,8,9,10] [0,1,2,4,5] (λj=>[(11,.int .i64 ((xs.length:Int)-1-(j:Int)))]) (λj=>[(3,Nl 2 176 wv v (Xv xs ys j))]) (λj=>j<=xs.length-ys.length+1) (λj=>xs.length-ys.length+1-j) 0 O1 ⟨by rw [show(xs.length:Int)-1-((0:Nat):Int)=(xs.length:Int)-1 by omega];rfl,aA⟩ K1 ?_;rintro j hj;refine go 10 ⟨O,?_⟩;refine Zc J (λk=>?_) (λk=>?_)
   .obtain⟨n,c,B⟩:=rest_b N (j:=j) O;have z:=Oy xs ys j;refine go 8 ?_;refine dt (Yu 3 (xs.length-1-j) J J J J (Xc pV) Qt Xz)<|go 1 ⟨O,?_⟩;refine Zw (Zr 6) λS _=>go 12 ?_;refine lp (G:=Nat) [1,8,9,10,11,12,51] [0,1,2,4,5,6] (λi=>[(52,.int .i64 (i:Int))]) (λi=>[(3,Nl 2 176 wv v (Ze7 (Xv xs ys j) (cf ys (ys.length-1)) i))]) (λi=>i<=xs.length) (λi=>xs.length-i) 0 O1 K1 ⟨by rw [Zvq];rfl,aA⟩ ?_;rintro i hi;have e:i<xs.length->(Ze7 (Xv xs ys j) (cf ys (ys.length-1)) i).getD i 0=cf (Xv xs ys j) i:=λh=>Zzc O;have W:=Znw (Xv xs ys j) (cf ys (ys.length-1)) i;refine go 6<|Zc J (λl=>?_) (λl=>?_)
    .refine go 10<|Qg (λx=>x=b) [(0,0),(1,0),(2,0),(3,0),(4,0),(5,0),(6,0),(7,1),(8,0),(9,3)]<|go 4 ?_;refine Pe J J (st1 4 J (Yu 3 i J J J J (Xc pV) Qt Xz J))<|go 2 ⟨O,?_⟩;refine Ec J (Qr 6 4 (Ba (by rw [e O];exact n _) (s.sz _) (by rw [e O];exact c _ _)) J J J K3 call237 J O3 Yb J g.h J) (λ_ _=>?_);refine Pe J J (st1 4 J (Yu 3 i J J J J (Xc pV) Qt Xz J))<|r3' J (Lb 3 (enc:=wv) J J J J J J pV J g.h) (λ_ _=>?_);refine go 7 ⟨O,?_⟩;exact Xe (i+1) O1 O1 K1 ⟨by rw [<-Zzb O,<-e O];rfl,aA⟩
    .refine go 6 ?_;obtain rfl:i=xs.length:=O;refine go 7 ?_;refine lp (G:=Nat) [1,8,9,10,11,12,65,66] [0,1,2,4,5,6] (λi=>[(67,.int .i64 (i:Int))]) (λi=>[(3,Nl 2 176 wv v (Zh3 ys (Xv xs ys j) (cf ys (ys.length-1)) (cf (Xv xs ys j) (xs.length-1-j)) (xs.length-1-j-(ys.length-1)) i))]) (λi=>i<=ys.length) (λi=>ys.length-i) 0 O1 K1 ⟨by rw [<-Zuz,z];rfl,aA⟩ ?_;rintro i hi;have f:i<ys.length->(Zh3 ys (Xv xs ys j) (cf ys (ys.length-1)) (cf (Xv xs ys j) (xs.length-1-j)) (xs.length-1-j-(ys.length-1)) i).getD ((xs.length-1-j-(ys.length-1))+i) 0=cf (Xv xs ys j) ((xs.length-1-j-(ys.length-1))+i)*(cf ys (ys.length-1)):=λh=>Zxc O;have Y:=Znv ys (Xv xs ys j) (cf ys (ys.length-1)) (cf (Xv xs ys j) (xs.length-1-j)) (xs.length-1-j-(ys.length-1)) i;refine go 6<|Zc J (λm=>?_) (λm=>?_)
     .refine go 9 ⟨O2,O2,?_⟩;refine Zw (Zr 7) λV _=>?_;refine go 16 ⟨O,O,O,?_⟩;refine Qg (λx=>x=b) [(0,0),(1,0),(2,0),(3,0),(4,0),(5,0),(6,0),(7,0),(8,1),(9,1),(10,0),(11,3)]<|go 4 ?_;refine Pe J J (st1 4 J (Yu 3 ((xs.length-1-j-(ys.length-1))+i) J J J J (Xc pV) Qt Xz))<|go 3 ⟨O,?_⟩;refine Ec J (Qr 7 4 (Ba (n _) (s.sz _) (c _ _)) J J J K3 call237 J O3 Yb J g.h J) (λ_ _=>?_);refine Ec J (Qr 7 4 (Zqw (by rw [f O];exact c _ _) (c _ _) (by rw [f O];exact B _ _ _ _)) J J J K3 call330 J O3 Yb J g.h J) (λ_ _=>?_);refine Pe J J (st1 4 J (Yu 3 ((xs.length-1-j-(ys.length-1))+i) J J J J (Xc pV) Qt Xz))<|r3' J (Lb 3 (enc:=wv) J J J J J J pV J g.h) (λ_ _=>?_);refine go 7 ⟨O,?_⟩;exact Xe (i+1) O1 O1 K1 ⟨by rw [<-Zxb O,<-f O];rfl,aA⟩
     .refine go 11 ⟨O,?_⟩;obtain rfl:i=ys.length:=O;exact Xe (j+1) O1 O1 ⟨by rw [show(xs.length:Int)-1-((j+1:Nat):Int)=(xs.length:Int)-1-(j:Int)-1 by omega];rfl,aA⟩ ⟨by rfl,aA⟩
   .refine go 6 ?_;obtain rfl:j=xs.length-ys.length+1:=O;refine Zg (Pd 3 J J pV)<|go 2 ?_;refine tt (Qr 8 4 (Aw (Zmm N)) J J J K2 call239 J O3 (Zn 3 J J J Yb) J g.h aA) λ_ _=>go 7 ?_;exact Na q _ results398 J aA (Nz 8 Za (by unfold Xj;rw [aE O]<;>rfl))
theorem Ae(hv:Vp xs)(g:Vp ys)(hd:Fc xs ys=0):Cal prog 374 #[v,u] [Ym 2 wv v xs,Ym 2 wv u ys] true (G:=Value) (λr=>True) (λr=> .tuple #[r,.int .i64 (if pdv xs ys then 0 else 10)]) (λr=>[Ym 2 wv r (if pdv xs ys then Lc xs ys else [])]):=by
 refine Zd func374 ntmps374 λw0 sc H s=>?_;have a8:=hv.len;have a2:=g.len;have c4:=Qv hv.sz;have c5:=Qv g.sz;obtain⟨V,Z⟩:=Zax hd;have R:=Zdd (p:=xs) V;have c:cf ys (ys.length-1)≠0:=g.tr.mem (λe=>V (by rw [e];rfl));refine go 10 ?_;refine cl 2 [1,2] (Za7 hv g) λ_ _=>go 16<|Zc J (λz=>?_) (λz=>?_)
 .exfalso;exact z hd
 .refine go 8<|Zc J (λl=>?_) (λl=>?_)
  .refine go 9 ?_;have W:xs=[]:=aF O;have d:pdv xs ys:= .inl W;exact Na s _ results374 (by rw [aG d]) aA (Kg (by rw [aG d,W];rfl) Za)
  .have t:xs≠[]:=λe=>by rw [e]at l;simp at l
   refine go 6<|Ow J (λa=>?_) (λa=>?_)
   .have c3:xs.length<ys.length:=by rw [R]at a;simpa using a
    refine go 9 ?_;have d:¬pdv xs ys:=λh=>by rcases h with h|h;(exact t h);(have:=h.1;omega)
    exact Na s _ results374 (by rw [aE d]) aA (Kg (aE d) Za)
   .have S:ys.length<=xs.length:=by rw [R]at a;simpa using a
    have Y:=Z S;refine go 5<|Zw (Zr 3) λb _=>go 5 ?_;refine tt (Zjz 4 Zt8 J J J K1 call400 (Zn 1 J J J Yb) J H.h) (λv _=>?_);refine go 11 ⟨O,O,?_⟩;refine tt (Gd 5 (xs.length-ys.length+1) 24 (enc:=wv) 0 J J J J Qt ti176 J pV.cells pV.pos J J J H.h) (λa4 _=>?_);refine go 13 ⟨⟨by simp only [aW];omega,by simp only [aW];omega⟩,?_⟩;refine lp (G:=Nat) [1,8,9,10] [0,1,2,3] (λj=>[(11,.int .i64 ((xs.length:Int)-(ys.length:Int)-(j:Int)))]) (λj=>[(4,Nl 2 176 wv v (Xy xs ys j)),(5,Nl 2 176 wv a4 (Zec xs ys j))]) (λj=>(j<=xs.length-ys.length+1)/\(∀k,xs.length-ys.length<k+j->k<=xs.length-ys.length->La xs ys k)) (λj=>xs.length-ys.length+1-j) 0 ⟨O1,λk h1 h2=>O⟩ ⟨by simp only [aW];exact aP some (Ap O),aA⟩ ⟨J,by rw [Zwc];rfl,aA⟩ ?_;rintro j ⟨hj,hx⟩;have d4:=An xs ys j;refine go 7<|Zc J (λI=>?_) (λI=>?_)
    .obtain⟨f,a1⟩:=div_b Y (j:=j) O hx;have c0:=Ez xs ys j;have c1:xs.length-ys.length-j+ys.length-1<xs.length:=O;refine go 4 ?_;refine jn (G:=Nat×Nat) [1,8,9,10,11] [0,4,5,1,2,3] (λq=>[(12,.pointer (some ⟨q.1,0,none⟩)),(13,.pointer (some ⟨q.2,0,none⟩)),(14,.int .i64 0)]) (λq=>[(97,box q.1 176 (wc (Db (dq ys (Xy xs ys j) (xs.length-ys.length-j))))),(98,box q.2 176 (wc (Db (cf (Xy xs ys j) ((xs.length-ys.length-j)+ys.length-1)%cf ys (ys.length-1)))))]) (λq=>True) ?_ ?_
     .refine Mr [2,4] [23]<|Yn 10 [(0,0),(1,0),(2,0),(3,0),(4,0),(5,0),(6,0),(7,0),(8,0),(9,0),(10,0),(11,0),(12,0),(13,0)]<|go 6 ⟨O,O,?_⟩;refine Pe J J (stf (Yu 4 ((xs.length-ys.length-j)+ys.length-1) J J J J (Xc pV) Qt Xz) K2)<|go 5 ⟨O,O,?_⟩;refine Pe J J (stf (Yu 2 (ys.length-1) J J J J Zh Qt Xz) K2)<|go 2 ⟨O,?_⟩;refine a_br3 9 14 19 20 ?_ ?_ ?_
      .refine Bm (Zm 5 [] (Fi (f _) (g.sz _) c)) λ_ _=>?_;refine Yn 5 [(15,0),(16,0),(17,0),(18,0)]<|go 5 ?_;refine Ib 4 19 20 ?_ ?_
       .refine Bm (Za3 97) λb0 ho=>?_;refine Yn 0 [(20,1),(21,1),(22,1),(23,3)]<|Xs (Za3 98) λb1 c6=>go 4 ?_;exact Xp<|Kh (_,_) aA K3 K2
       .refine Bm (Za3 98) λb2 c7=>?_;refine Yn 0 [(19,1),(21,1),(22,1),(23,3)]<|Xs (Za3 97) λb3 c8=>go 4 ?_;exact Xp<|Kh (_,_) aA K3 K2
      .refine Bm (Za3 97) λb4 c9=>?_;refine Ib 8 14 20 ?_ ?_
       .refine Bm (Zm 5 [] (Fi (f _) (g.sz _) c)) λ_ _=>?_;refine Yn 0 [(15,0),(16,0),(17,0),(18,0),(20,1),(21,1),(22,1),(23,3)]<|go 4 ?_;refine Xs (Za3 98) λb5 d0=>go 4<|Xp ?_;exact Kh (_,_) aA K3 K2
       .refine Bm (Za3 98) λb6 d1=>?_;refine Yn 0 [(14,1),(15,0),(16,0),(17,0),(18,0),(21,1),(22,1),(23,3)]<|Xs (Zm 5 [] (Fi (f _) (g.sz _) c)) λ_ _=>go 8 ?_;exact Xp<|Kh (_,_) aA K3 K2
      .refine Bm (Za3 98) λb9 d2=>?_;refine Ib 8 14 19 ?_ ?_
       .refine Bm (Zm 5 [] (Fi (f _) (g.sz _) c)) λ_ _=>?_;refine Yn 0 [(15,0),(16,0),(17,0),(18,0),(19,1),(21,1),(22,1),(23,3)]<|go 4 ?_;refine Xs (Za3 97) λa5 d3=>go 4<|Xp ?_;exact Kh (_,_) aA K3 K2
       .refine Bm (Za3 97) λa6 a9=>?_;refine Yn 0 [(14,1),(15,0),(16,0),(17,0),(18,0),(21,1),(22,1),(23,3)]<|Xs (Zm 5 [] (Fi (f _) (g.sz _) c)) λ_ _=>go 8 ?_;exact Xp<|Kh (_,_) aA K3 K2
     .rintro⟨b7,b8⟩ -;dsimp only;refine go 7<|Zc J (λB=>?_) (λB=>?_)
      .exfalso;exact B rfl
      .refine go 6 ?_;refine cl 5 [] (Ly Ye8) λ_ _=>go 3<|Zc J (λm=>?_) (λm=>?_)
       .have a3:¬La xs ys (xs.length-ys.length-j):=λhe=>m (by rw [Zo2 c (g.sz _),(Zoo O).1 he];rfl);refine go 13 ?_;have d:¬pdv xs ys:=λh=>by rcases h with h|h;(exact t h);(exact a3 (h.2.1 _ O))
        exact Na s _ results374 (by rw [aE d]) aA (Kg (aE d) Za)
       .have Q:La xs ys (xs.length-ys.length-j):=(Zoo O).2 (by have h0:=bT m;rw [Zo2 c (g.sz _)]at h0;exact eY.1 h0);obtain⟨N,P,a0⟩:=a1 Q;refine Zg (Gf 97 (q:=box b7 176 (wc (dq ys (Xy xs ys j) (xs.length-ys.length-j)))) (by rw [Ng N]) J J)<|go 7 ?_;refine dt (Yu 5 (xs.length-ys.length-j) J J J J (Xc pV) Qt Xz)<|tt (Lb 5 (enc:=wv) J J J J J J pV J H.h) λ_ _=>go 10 ?_;refine lp (G:=Nat) [1,8,9,10,11,12,78,79] [0,97,98,5,1,2,3] (λi=>[(80,.int .i64 (i:Int))]) (λi=>[(4,Nl 2 176 wv v (Zib ys (Xy xs ys j) (dq ys (Xy xs ys j) (xs.length-ys.length-j)) (xs.length-ys.length-j) i))]) (λi=>i<=ys.length) (λi=>ys.length-i) 0 O1 K1 ⟨by rw [<-Zwa];rfl,aA⟩ ?_;rintro i hi;have F:i<ys.length->(Zib ys (Xy xs ys j) (dq ys (Xy xs ys j) (xs.length-ys.length-j)) (xs.length-ys.length-j) i).getD ((xs.length-ys.length-j)+i) 0=cf (Xy xs ys j) ((xs.length-ys.length-j)+i):=λh=>Ya0 O;have c2:=Znx ys (Xy xs ys j) (dq ys (Xy xs ys j) (xs.length-ys.length-j)) (xs.length-ys.length-j) i;refine go 6<|Zc J (λM=>?_) (λM=>?_)
        .refine go 9 ⟨O2,O2,?_⟩;refine Zw (Zr 6) λa7 _=>go 4<|Qg (λx=>x=b) [(0,0),(1,0),(2,0),(3,0),(4,0),(5,0),(6,0),(7,0),(8,0),(9,0),(10,0),(11,0),(12,1),(13,1),(14,0),(15,3)]<|go 8 ⟨O,O,?_⟩;refine Pe J J (st1 3 J (Yu 4 ((xs.length-ys.length-j)+i) J J J J (Xc pV) Qt Xz))<|go 3 ⟨O,?_⟩;refine Ec J (Qr 6 3 (Ba N (g.sz _) (P _)) J J J K3 call237 J O3 Yb J H.h J) (λ_ _=>?_);refine Ec J (Qr 6 3 (Zqw (by rw [F O];exact f _) (P _) (by rw [F O];exact a0 _ _)) J J J K3 call330 J O3 Yb J H.h J) (λ_ _=>?_);refine Pe J J (st1 3 J (Yu 4 ((xs.length-ys.length-j)+i) J J J J (Xc pV) Qt Xz))<|r3' J (Lb 4 (enc:=wv) J J J J J J pV J H.h) (λ_ _=>?_);refine go 7 ⟨O,?_⟩;exact Xe (i+1) O1 O1 K1 ⟨by rw [<-Yaz O,<-F O];rfl,aA⟩
        .refine go 11 ⟨O,?_⟩;obtain rfl:i=ys.length:=O;exact Xe (j+1) ⟨O1,λk h1 h2=>by rcases bJ (xs.length-ys.length) (k+j)with h3|h3;(exact hx k h3 h2);(rw [show k=xs.length-ys.length-j by omega];exact Q)⟩ O1 ⟨by rw [show(xs.length:Int)-(ys.length:Int)-((j+1:Nat):Int)=(xs.length:Int)-(ys.length:Int)-(j:Int)-1 by omega];rfl,aA⟩ ⟨by rfl,by rw [<-Ya3 O];rfl,aA⟩
    .refine go 7 ?_;obtain rfl:j=xs.length-ys.length+1:=O;have o:∀k,k<=xs.length-ys.length->La xs ys k:=λk hk=>hx k O hk;refine Zg (Pd 4 J J pV)<|go 6<|Yq 105 J (λD=>?_) (λD=>?_)
     .refine go 1 ?_;refine Fy 7 [4] (Zaj (Zw9 Y o)) λ_ _=>go 5<|Zc J (λn=>?_) (λn=>?_)
      .refine go 8 ?_;have d:¬pdv xs ys:=λh=>by rcases h with h|h;(exact t h);(rw [h.2.2]at n;simp at n)
       exact Na s _ results374 (by rw [aE d]) aA (Kg (aE d) Za)
      .refine go 3<|Zg (Pd 5 J J pV)<|go 2 ?_;refine tt (Qr 8 3 (Aw (Zro Y o)) J J J K2 call239 J O3 (Zn 5 J J J Yb) J H.h aA) λ_ _=>go 7 ?_;have d:pdv xs ys:= .inr ⟨S,o,aF O⟩;exact Na s _ results374 (by rw [aG d]<;>rfl) aA (Nz 8 Za (by rw [aG d,Znd t,<-Zdc]<;>rfl))
     .exfalso;exact D rfl
theorem Zng(H:Vp xs)(D:Vp ys)(F:Nat)(hg:¬Zjf xs ys)(Z:eok F (gA xs ys) (gB xs ys)):Cal prog 373 #[v,u] [Ym 2 wv v xs,Ym 2 wv u ys] true (G:=Value) (λr=>True) (λr=> .tuple #[r,.int .i64 0]) (λr=>[Ym 2 wv r (Od F xs ys)]):=by
 refine Zd func373 ntmps373 λw0 sc hw B=>?_;have a0:=H.len;have Y:=D.len;have a3:=Qv H.sz;have a4:=Qv D.sz;have a5:=Zk xs;have a6:=Zk ys;have V:(max xs.length ys.length+2)*(max xs.length ys.length+2)<=27*27:=aY O O;have a1:(max xs.length ys.length+2)*(max xs.length ys.length+2)*(max (Qs xs) (Qs ys)+8)<=27*27*65544:=aY V O;have N:(max (xs.length:Int) (ys.length:Int)+2)*(max (xs.length:Int) (ys.length:Int)+2)=(((max xs.length ys.length+2)*(max xs.length ys.length+2):Nat):Int):=by rw [dM,show(((max xs.length ys.length+2):Nat):Int)=(max (xs.length:Int) (ys.length:Int)+2) by omega]
 have j:(max (xs.length:Int) (ys.length:Int)+2)*(max (xs.length:Int) (ys.length:Int)+2)*(max (Qs xs:Int) (Qs ys:Int)+8)=(((max xs.length ys.length+2)*(max xs.length ys.length+2)*(max (Qs xs) (Qs ys)+8):Nat):Int):=by rw [N,dM ((max xs.length ys.length+2)*(max xs.length ys.length+2)),show((max (Qs xs) (Qs ys)+8:Nat):Int)=max (Qs xs:Int) (Qs ys:Int)+8 by omega]
 refine go 10 ?_;refine cl 2 [1] (Yo ‹_›) λ_ _=>go 3 ?_;refine Fy 2 [2] (Yo ‹_›) λ_ _=>go 14 ?_;refine dt (Zjl J J J)<|go 4 ⟨O,?_⟩;refine jn (G:=Unit) [0,1] [0,1,2] (λ_=>[(46,.bool (decide (Zjf xs ys)))]) (λ_=>[]) (λ_=>True) ?_ ?_
 .refine go 5<|Yq 29 J (λR=>?_) (λR=>?_)
  .refine go 5<|Yq 34 J (λk=>?_) (λk=>?_)
   .refine go 4 ⟨by rw [N];exact⟨O,O⟩,?_⟩;refine Fy 2 [1] (Me (by first|exact H.sz|exact D.sz)) λ_ _=>go 1 ?_;refine Fy 2 [2] (Me (by first|exact H.sz|exact D.sz)) λ_ _=>?_;refine Et (Zjl J J J) J J<|go 5 ⟨O,by rw [j];exact⟨O,O⟩,?_⟩;exact Kh () aA ⟨by first|(rw [j];exact aP some (vB (cE.2 ⟨λh=>⟨O,O,O⟩,λh=>by have:=h.2.2;omega⟩)))|exact aP some (vB (aM (λh=>by have h1:=h.1;have h2:=h.2.1;omega)).symm),aA⟩ aA
   .refine go 13 ?_;exact Kh () aA ⟨by first|(rw [j];exact aP some (vB (cE.2 ⟨λh=>⟨O,O,O⟩,λh=>by have:=h.2.2;omega⟩)))|exact aP some (vB (aM (λh=>by have h1:=h.1;have h2:=h.2.1;omega)).symm),aA⟩ aA
  .refine go 18 ?_;exact Kh () aA ⟨by first|(rw [j];exact aP some (vB (cE.2 ⟨λh=>⟨O,O,O⟩,λh=>by have:=h.2.2;omega⟩)))|exact aP some (vB (aM (λh=>by have h1:=h.1;have h2:=h.2.1;omega)).symm),aA⟩ aA
 .rintro _ -;refine Zc J (λl=>?_) (λl=>?_)
  .exfalso;exact hg l
  .refine go 5 ?_;refine cl 3 [1] (Oc H) λ_ _=>go 14<|Zc J (λm=>?_) (λm=>?_)
   .exfalso;exact m rfl
   .refine go 5 ?_;refine cl 4 [2] (Oc D) λ_ _=>go 14<|Zc J (λn=>?_) (λn=>?_)
    .exfalso;exact n rfl
    .refine go 2 ?_;refine jn (G:=Value×Value) [] [0,1,2,3,4] (λq=>[(7,q.1),(9,q.2)]) (λq=>[(80,Ym 2 wv q.1 (gA xs ys)),(81,Ym 2 wv q.2 (gB xs ys))]) (λq=>True) ?_ ?_
     .refine go 9<|Zc J (λM=>?_) (λM=>?_)
      .refine go 6<|Xh (Nq 4 80 J J J)<|Xh (Nq 3 81 J J J) ?_;exact Kh (_,_) aA K2 ⟨by unfold gA;first|rw [aG O];rfl|rw [aE O];rfl,by unfold gB;first|rw [aG O];rfl|rw [aE O];rfl,aA⟩
      .refine go 1<|Xh (Nq 3 80 J J J)<|Xh (Nq 4 81 J J J) ?_;exact Kh (_,_) aA K2 ⟨by unfold gA;first|rw [aG O];rfl|rw [aE O];rfl,by unfold gB;first|rw [aG O];rfl|rw [aE O];rfl,aA⟩
     .rintro⟨va,vb⟩ -;dsimp only;refine go 2 ?_;refine lp (G:=Value×Value×List Int×List Int×Nat) [] [0,1,2,3,4] (λq=>[(7,q.1),(9,q.2.1)]) (λq=>[(80,Ym 2 wv q.1 q.2.2.1),(81,Ym 2 wv q.2.1 q.2.2.2.1)]) (λq=>(Vp q.2.2.1)/\(Vp q.2.2.2.1)/\(eok q.2.2.2.2 q.2.2.1 q.2.2.2.1)/\(eu q.2.2.2.2 q.2.2.1 q.2.2.2.1=eu F (gA xs ys) (gB xs ys))) (λq=>q.2.2.2.2) (va,vb,gA xs ys,gB xs ys,F) ⟨vp_gA H D,vp_gB H D,Z,J⟩ K2 K2 ?_;rintro⟨va,vb,a,b,f⟩ ⟨d,I,t,g⟩;dsimp only at d I t g;dsimp only;refine go 8<|Zc J (λi=>?_) (λi=>?_)
      .have W:b≠[]:=λe=>by rw [e]at i;simp at i
       obtain⟨f1,rfl,z,Q,P⟩:=Yaw t W;refine go 7 ?_;refine cl 5 [80,81] (Zi5 d I z) λ_ _=>go 14<|Zc J (λo=>?_) (λo=>?_)
       .exfalso;exact o rfl
       .refine go 6 ?_;refine cl 6 [5] (Oc (Bt d z)) λ_ _=>go 13<|Zc J (λp=>?_) (λp=>?_)
        .exfalso;exact p rfl
        .refine go 9<|Xh (Nq 81 80 J J J)<|Xh (Nq 6 81 J J J) ?_;exact Xe (_,_,b,Zs (Xj a b),f1) ⟨I,Mt (Bt d z),Q,by rw [<-P];exact g⟩ (Nat.lt_succ_self f1) K2 K2
      .obtain rfl:b=[]:=aF O;rw [Zeb]at g;have a2:=d.len;refine go 12<|Yq 95 J (λS=>?_) (λS=>?_)
       .refine go 4 ⟨O,?_⟩;refine Et (Yu 80 (a.length-1) J J J J Zh Qt Xz) J J<|go 1 ⟨O,?_⟩;refine Fy 6 [] (Ly (d.sz _)) λ_ _=>go 4<|Zc J (λs=>?_) (λs=>?_)
        .have c:a.length≠0/\cf a (a.length-1)<0:=⟨O,(Pv _).1 s⟩;refine go 3 ?_;refine cl 6 [] (Zt (-1) (by first|assumption|exact⟨O,O⟩)) λ_ _=>cl 7 [80] (Kv (-1) d O3 (Bd d.sz)) λ_ _=>go 8 ?_;exact Na B _ results373 J aA (Nz 7 Za (by unfold Od Lo;rw [<-g,aG c]<;>rfl))
        .refine go 10 ?_;have c:¬(a.length≠0/\cf a (a.length-1)<0):=λh=>by first|omega|exact absurd ((Pv (cf a (a.length-1))).2 h.2) ‹_›
         exact Na B _ results373 J aA (Nz 80 Za (by unfold Od Lo;rw [<-g,aE c]<;>rfl))
       .refine go 22 ?_;have c:¬(a.length≠0/\cf a (a.length-1)<0):=λh=>by first|omega|exact absurd ((Pv (cf a (a.length-1))).2 h.2) ‹_›
        exact Na B _ results373 J aA (Nz 80 Za (by unfold Od Lo;rw [<-g,aE c]<;>rfl))
theorem Zkf{l:List Int}(f:∀x∈l,Qf x)(g:l.length<=1000:=by decide):Cal prog 168 #[v] [Ym 1 Ys v l] true (G:=Value) (λr=>True) (λr=> .tuple #[r,.int .i64 (if 25<(tzl l).length then 7 else 0)]) (λr=>[Ym 2 wv r (if 25<(tzl l).length then []else tzl l)]):=by
 refine Zd func168 ntmps168 λp n h b=>?_;have e:=Zj0 f;refine go 20<|Zg (Ml 70 2 176 wv) ?_;refine lp (G:=Nat×Value) [7,8] [0,1] (λq=>[(9,.int .i64 (q.1:Int)),(4,q.2)]) (λq=>[(70,Nl 2 176 wv q.2 (l.take q.1))]) (λq=>q.1<=l.length) (λq=>l.length-q.1) (0,.slice none 0 0) O1 K2 K1 ?_;rintro⟨k,o⟩ i;dsimp only at i;dsimp only;have j:(l.take k).length=k:=by rw [aN];omega
 refine go 6<|Zc J (λc=>?_) (λc=>?_)
 .refine go 14 ⟨O2,O2,?_⟩;refine cl 1 [] (Zt _ (f _ Zo)) λ_ _=>?_;refine tt (Xw [(0,_)] 2 (enc:=wv) [l.getD k 0] J J K2 Qt ti176 J J J J J pV.cells J J h.h) (λv _=>?_);refine tt (Ha 70 2 24 J J J J J J O3 J (Xc pV) Qt ti176 J pV J J J O9 O3 J h.h) (λm _=>?_);refine go 8 ⟨O,?_⟩;exact Xe (k+1,_) O1 O1 K2 ⟨by rw [Ql 0 _ _ O];rfl,aA⟩
 .refine go 6 ?_;obtain rfl:k=l.length:=O;rw [bN];refine Zg (Pd 70 J J pV)<|go 2 ?_;refine cl 3 [70] (Zaj e) λ_ _=>go 11<|Zc J (λd=>?_) (λd=>?_)
  .refine go 8 ?_;have a:25<(tzl l).length:=O;exact Na b _ results168 (by rw [aG a]) aA (Kg (aG a) Za)
  .refine go 10 ?_;have a:¬25<(tzl l).length:=O;exact Na b _ results168 (by rw [aE a]<;>rfl) aA (Nz 3 Za (by rw [aE a]<;>rfl))
theorem r_trim(v:Value)(xs:List Nat):Cal prog 283 #[v] [Ym 1 Da v xs] true (G:=Unit) (λ_=>True) (λ_=>Nr v (tz xs).length) (λ_=>[Ym 1 Da (Nr v (tz xs).length) (tz xs)]):=by
 refine Zd func283 ntmps283 λo n m c=>?_;refine Oo (Zqp (i:=1) J Zh) (λa=>?_);refine Oo (It (i:=1) J Zh) λl=>go 7 ?_;refine lp (G:=Nat) [] [0] (λk=>[(0,Nr v k)]) (λk=>[(1,Ym 1 Da (Nr v k) (xs.take k))]) (λk=>(k<=xs.length)/\(tz (xs.take k)=tz xs)) (λk=>k) xs.length ⟨aH _,by rw [bN]⟩ ⟨by rw [a];rfl,aA⟩ ⟨by rw [a,bN];rfl,aA⟩ ?_;rintro k ⟨g,h⟩;have e:(xs.take k).length=k:=by rw [aN];omega
 refine go 7<|Yq 6 J (λj=>?_) (λj=>?_)
 .refine go 4 ⟨O,?_⟩;refine Et (Yu 1 (k-1) J J J J Zh Oa zT3) J J<|go 5 ⟨O,?_⟩;refine Zc J (λf=>?_) (λf=>?_)
  .have b:=Zrk g O (by omega:(xs.take k).getD (k-1) 0=0);refine go 8 ⟨O,?_⟩;refine dt (Ztv 1 (k-1) J J J J Zh Oa zT3)<|go 3 ?_;exact Xh (Zxv 1 1 (k-1) J J)<|Xe (k-1) ⟨O1,by rw [<-h,<-b]⟩ O1 ⟨by rw [<-Kx v k (k-1)];rfl,aA⟩ ⟨by rw [Kx,gC,cW O];rfl,aA⟩
  .refine go 12 ?_;have d:tz xs=xs.take k:=by rw [<-h];exact Zb8 g O
   exact Xg c () results283 (by rw [d,e]) aA (Nz 1 Za (by rw [d,e]))
 .refine go 23 ?_;have d:tz xs=xs.take k:=by rw [<-h];exact Zb8 g O
  exact Xg c () results283 (by rw [d,e]) aA (Nz 1 Za (by rw [d,e]))
def Cn{xs:List Nat}:Cal prog 283 #[v] [Ym 1 Da v xs] false (G:=Unit) (λ_=>True) (λ_=>Nr v (tz xs).length) (λ_=>[]):=(r_trim v xs).bare
theorem Ydj{x:Nat}(p:bl x<=4294967296:=by omega)(q:bl y<=4294967296:=by omega):Yx prog 292 #[v,w] [d9p v x,d9p w y] (.int .i64 (Zo1 x y)):=by
 refine Zd func292 ntmps292 λs r o b=>?_;have l:=Ht x;have m:=Ht y;refine go 15<|Zc J (λe=>?_) (λe=>?_)
 .refine go 10<|Zc J (λf=>?_) (λf=>?_)
  .have a:x<y:=Dx Pb O;refine go 8 ?_;exact Xg b () results292 (by unfold Zo1;rw [aG a]) aA Za
  .have a:y<x:=Dx Pb O;refine go 9 ?_;exact Xg b () results292 (by unfold Zo1;rw [aE O,aG a]) aA Za
 .have c:(dg 1000000000 x).length=(dg 1000000000 y).length:=O;refine go 12 ⟨O,?_⟩;refine lp (G:=Nat) [0,1] [0,1,2] (λk=>[(5,.int .i64 ((k:Int)-1))]) (λk=>[]) (λk=>(k<=(dg 1000000000 x).length)/\((dg 1000000000 x).drop k=(dg 1000000000 y).drop k)) (λk=>k) (dg 1000000000 x).length ⟨O1,by rw [gF,c,gF]⟩ K1 aA ?_;rintro k ⟨n,d⟩;refine go 7<|Zc J (λg=>?_) (λg=>?_)
  .refine go 6<|Qg (λ_=>False) [(0,0),(1,0),(2,0),(3,0),(4,0),(5,0),(6,0),(7,0),(8,0)]<|go 2 ?_;refine Pe J J (Pz (Yu 1 (k-1) J J J J Zh Oa zT3))<|go 3 ⟨O2,?_⟩;refine Pe J J (Pz (Yu 2 (k-1) J J J J Zh Oa zT3))<|go 4 ⟨O2,?_⟩;refine Zc J (λh=>?_) (λh=>?_)
   .have a:=Zlp Gk (xs:=(dg 1000000000 x)) (ys:=(dg 1000000000 y)) (Ol Pb x) (k:=k-1) O O (by rw [show k-1+1=k by omega];exact d) O;rw [Om Pb,Om Pb]at a;refine go 12 ?_;exact Xg b () results292 (by unfold Zo1;rw [aG a]) aA Za
   .refine go 3<|Qg (λ_=>False) [(0,0),(1,0),(2,0),(3,0),(4,0),(5,0),(6,0),(7,0),(8,0)]<|go 2 ?_;refine Pe J J (Pz (Yu 1 (k-1) J J J J Zh Oa zT3))<|go 3 ⟨O2,?_⟩;refine Pe J J (Pz (Yu 2 (k-1) J J J J Zh Oa zT3))<|go 4 ⟨O2,?_⟩;refine Zc J (λi=>?_) (λi=>?_)
    .have a:=Zlp Gk (xs:=(dg 1000000000 y)) (ys:=(dg 1000000000 x)) (Ol Pb y) (k:=k-1) O O (by rw [show k-1+1=k by omega];exact d.symm) O;rw [Om Pb,Om Pb]at a;refine go 11 ?_;exact Xg b () results292 (by unfold Zo1;rw [aE O,aG a]) aA Za
    .refine go 8 ⟨O,?_⟩;exact Xe (k-1) ⟨O1,by have:=Zdb (dg 1000000000 x) (dg 1000000000 y) (k:=k-1) O O (by rw [show k-1+1=k by omega];exact d) O;exact this⟩ O1 ⟨by rw [show(((k-1:Nat):Int)-1)=(k:Int)-1-1 by omega];rfl,aA⟩ aA
  .refine go 11 ?_;obtain rfl:k=0:=O;have j:x=y:=(Zed Pb).1 (by simpa using d);exact Xg b () results292 (by unfold Zo1;rw [aE O,aE O]) aA Za
theorem r_plus{x:Nat}(I:bl x<=4294967296)(S:bl y<=4294967296):Cal prog 291 #[v,w] [d9p v x,d9p w y] false (G:=Value) (λr=>True) (λr=>r) (λr=>[d9p r (x+y)]):=by
 refine Zd func291 ntmps291 λY V H B=>?_;have Q:=Ht x;have R:=Ht y;refine go 22<|Zg (Ml 70 1 3 Da) ?_;refine lp (G:=Nat×List Nat×Nat×Value) [0,1] [0,1,2] (λq=>[(7,.int .i64 (q.1:Int)),(6,.int .i64 (q.2.2.1:Int)),(5,q.2.2.2)]) (λq=>[(70,Nl 1 3 Da q.2.2.2 q.2.1)]) (λq=>(q.1<=max (dg 1000000000 x).length (dg 1000000000 y).length+1/\(q.1=max (dg 1000000000 x).length (dg 1000000000 y).length+1->q.2.2.1=0))/\(q.2.1.length=q.1)/\(∀d∈q.2.1,d<1000000000)/\(q.2.2.1<=1)/\(val 1000000000 q.2.1+q.2.2.1*1000000000^q.1=val 1000000000 ((dg 1000000000 x).take q.1)+val 1000000000 ((dg 1000000000 y).take q.1))/\(q.1=0\/1000000000^(q.1-1)<=x+y)) (λq=>max (dg 1000000000 x).length (dg 1000000000 y).length+1-q.1) (0,[],0,.slice none 0 0) ⟨⟨O,O⟩,J,O7,O1,by simp [val],.inl rfl⟩ K3 K1 ?_;rintro⟨i,o,c,W⟩ ⟨hi,b,e,N,l,k⟩;dsimp only at hi b e N l k;dsimp only;refine go 1 ?_;refine jn (G:=Unit) [0,1,5,6,7] [0,70,1,2] (λ_=>[(21,.bool (decide (i<(dg 1000000000 x).length\/i<(dg 1000000000 y).length\/0<c)))]) (λ_=>[]) (λ_=>True) ?_ ?_
 .refine go 6<|Yq 12 J (λF=>?_) (λF=>?_)
  .refine go 10 ?_;exact Kh () aA ⟨by first|exact aP some (vB (cE.2 O))|exact aP some (vB (aO O).symm),aA⟩ aA
  .refine go 6<|Yq 18 J (λg=>?_) (λg=>?_)
   .refine go 4 ?_;exact Kh () aA ⟨by first|exact aP some (vB (cE.2 O))|exact aP some (vB (aO O).symm),aA⟩ aA
   .refine go 4 ?_;exact Kh () aA ⟨by first|exact aP some (vB (cE.2 O))|exact aP some (vB (aO O).symm),aA⟩ aA
 .rintro _ -;refine Zc J (λj=>?_) (λj=>?_)
  .have z:1000000000^i<=x+y:=by
    rcases j with a|a|a
    .have:=Dq Pb a;omega
    .have:=Dq Pb a;omega
    .by_cases m:i<(dg 1000000000 x).length
     .have:=Dq Pb m;omega
     .by_cases M:i<(dg 1000000000 y).length
      .have:=Dq Pb M;omega
      .rw [Eh Pb O,Eh Pb O]at l;have:1000000000^i<=c*1000000000^i:=kY _ a;omega
   refine go 4 ?_;refine jn (G:=Unit) [0,1,5,7] [0,70,1,2] (λ_=>[(6,.int .i64 ((c+(dg 1000000000 x).getD i 0:Nat):Int))]) (λ_=>[]) (λ_=>True) ?_ ?_
   .refine go 8<|Zc J (λp=>?_) (λp=>?_)
    .refine go 6 ⟨O2,O2,?_⟩;refine dt (Zy7 J J J (by have a:=(Yv Gk (Ol Pb x) i);omega))<|go 2 ?_
     try (have f:(dg 1000000000 x).getD i 0=0:=by simp [List.getD,bI (by omega:(dg 1000000000 x).length<=i)])
     exact Kh () aA ⟨by first|rfl|(rw [f];rfl),aA⟩ aA
    .refine go 1 ?_
     try (have f:(dg 1000000000 x).getD i 0=0:=by simp [List.getD,bI (by omega:(dg 1000000000 x).length<=i)])
     exact Kh () aA ⟨by first|rfl|(rw [f];rfl),aA⟩ aA
   .rintro _ -;refine jn (G:=Unit) [0,1,5,7] [0,70,1,2] (λ_=>[(6,.int .i64 ((c+(dg 1000000000 x).getD i 0+(dg 1000000000 y).getD i 0:Nat):Int))]) (λ_=>[]) (λ_=>True) ?_ ?_
    .refine go 8<|Zc J (λs=>?_) (λs=>?_)
     .refine go 6 ⟨O2,O2,?_⟩;refine dt (Zy7 J J J (by have a:=(Yv Gk (Ol Pb x) i);have m:=(Yv Gk (Ol Pb y) i);omega))<|go 2 ?_
      try (have f:(dg 1000000000 y).getD i 0=0:=by simp [List.getD,bI (by omega:(dg 1000000000 y).length<=i)])
      exact Kh () aA ⟨by first|rfl|(rw [f];rfl),aA⟩ aA
     .refine go 1 ?_
      try (have f:(dg 1000000000 y).getD i 0=0:=by simp [List.getD,bI (by omega:(dg 1000000000 y).length<=i)])
      exact Kh () aA ⟨by first|rfl|(rw [f];rfl),aA⟩ aA
    .rintro _ -;refine go 4 ?_;refine dt (Zsw (n:=1000000000) J J J O)<|tt (Xw [(0,_)] 3 (enc:=Da) [(c+(dg 1000000000 x).getD i 0+(dg 1000000000 y).getD i 0)%1000000000] J J K2 Oa ti3 J J J J J pN.cells J J H.h) (λv _=>?_);refine tt (Ha 70 3 8 J J J J J J O3 J (Xc pN) Oa ti3 J pN J J J O9 O3 J H.h) λP _=>go 5 ?_;refine dt (Zno (n:=1000000000) J J J (by have a:=(Yv Gk (Ol Pb x) i);have m:=(Yv Gk (Ol Pb y) i);omega) O)<|go 9 ⟨O,?_⟩;exact Xe (i+1,o ++ [(c+(dg 1000000000 x).getD i 0+(dg 1000000000 y).getD i 0)%1000000000],(c+(dg 1000000000 x).getD i 0+(dg 1000000000 y).getD i 0)/1000000000,_) ⟨⟨O8,λh=>by dsimp only at h ⊢;rw [Zon (by omega:(dg 1000000000 x).length<=i),Zon (by omega:(dg 1000000000 y).length<=i)];omega⟩,by simp [b],Zhx e (bG _ Gk),by have a:=(Yv Gk (Ol Pb x) i);have m:=(Yv Gk (Ol Pb y) i);dsimp only;omega,Zvj b l,.inr z⟩ O1 K3 K1
  .refine go 12 ?_;have t:c=0:=O;have D:val 1000000000 o=x+y:=by rw [Eh Pb O,Eh Pb O,t,gI,eO]at l;exact l
   have I:o=dg 1000000000 (x+y):=Zrl Pb e D (by rw [b];exact k);exact Xg B _ results291 J aA (gow 70 Za (by rw [<-I]<;>rfl))
theorem Zsb{x:Nat}(g:y<=x)(z:bl x<=4294967296:=by omega):Cal prog 293 #[v,w] [d9p v x,d9p w y] false (G:=Value) (λr=>True) (λr=>r) (λr=>[d9p r (x-y)]):=by
 refine Zd func293 ntmps293 λQ N t n=>?_;have H:=Ht x;have M:=Py g;have I:=Ht y;have m:(dg 1000000000 y).length<=(dg 1000000000 x).length:=Zom Pb g;refine go 22<|Zg (Ml 70 1 3 Da) ?_;refine lp (G:=Nat×List Nat×Nat×Value) [0,1] [0,1,2] (λq=>[(7,.int .i64 (q.1:Int)),(6,.int .i64 (q.2.2.1:Int)),(5,q.2.2.2)]) (λq=>[(70,Nl 1 3 Da q.2.2.2 q.2.1)]) (λq=>(q.1<=(dg 1000000000 x).length)/\(q.2.1.length=q.1)/\(∀d∈q.2.1,d<1000000000)/\(q.2.2.1<=1)/\(val 1000000000 q.2.1+val 1000000000 ((dg 1000000000 y).take q.1)=val 1000000000 ((dg 1000000000 x).take q.1)+q.2.2.1*1000000000^q.1)) (λq=>(dg 1000000000 x).length-q.1) (0,[],0,.slice none 0 0) ⟨O1,rfl,O7,O1,by simp [val]⟩ K3 K1 ?_;rintro⟨i,o,c,P⟩ ⟨hi,b,a,l,p⟩;dsimp only at hi b a l p;dsimp only;have e:=(Yv Gk (Ol Pb x) i);have f:=(Yv Gk (Ol Pb y) i);refine go 9<|Zc J (λh=>?_) (λh=>?_)
 .refine go 15 ⟨O2,O2,O,?_⟩;refine jn (G:=Unit) [0,1,5,7] [0,70,1,2] (λ_=>[(8,.int .i64 (((dg 1000000000 x).getD i 0:Int)-(c:Int)-((dg 1000000000 y).getD i 0:Int)))]) (λ_=>[]) (λ_=>True) ?_ ?_
  .refine go 8<|Zc J (λj=>?_) (λj=>?_)
   .refine go 9 ⟨O2,O2,O,?_⟩
    try (have s:(dg 1000000000 y).getD i 0=0:=by simp [List.getD,bI (by omega:(dg 1000000000 y).length<=i)])
    exact Kh () aA ⟨by first|rfl|(rw [s];exact aP some (Ap O)),aA⟩ aA
   .refine go 1 ?_
    try (have s:(dg 1000000000 y).getD i 0=0:=by simp [List.getD,bI (by omega:(dg 1000000000 y).length<=i)])
    exact Kh () aA ⟨by first|rfl|(rw [s];exact aP some (Ap O)),aA⟩ aA
  .rintro _ -;refine go 5 ?_;refine jn (G:=Unit) [0,1,5,7] [0,70,1,2] (λ_=>[(8,.int .i64 ((d9s ((dg 1000000000 x).getD i 0) ((dg 1000000000 y).getD i 0) c:Nat):Int)),(6,.int .i64 ((brw ((dg 1000000000 x).getD i 0) ((dg 1000000000 y).getD i 0) c:Nat):Int))]) (λ_=>[]) (λ_=>True) ?_ ?_
   .refine go 6<|Zc J (λk=>?_) (λk=>?_)
    .refine go 6 ⟨O,?_⟩;exact Kh () aA ⟨by exact aP some (Ap (by unfold d9s;split<;>omega)),by exact aP some (Ap (by unfold brw;split<;>omega)),aA⟩ aA
    .refine go 1 ?_;exact Kh () aA ⟨by exact aP some (Ap (by unfold d9s;split<;>omega)),by exact aP some (Ap (by unfold brw;split<;>omega)),aA⟩ aA
   .rintro _ -;refine go 3 ?_;refine tt (Xw [(0,_)] 3 (enc:=Da) [d9s ((dg 1000000000 x).getD i 0) ((dg 1000000000 y).getD i 0) c] J J K2 Oa ti3 J J J J J pN.cells J J t.h) (λv _=>?_);refine tt (Ha 70 3 8 J J J J J J O3 J (Xc pN) Oa ti3 J pN J J J O9 O3 J t.h) (λF _=>?_);refine go 9 ⟨O,?_⟩;exact Xe (i+1,o ++ [d9s ((dg 1000000000 x).getD i 0) ((dg 1000000000 y).getD i 0) c],brw ((dg 1000000000 x).getD i 0) ((dg 1000000000 y).getD i 0) c,_) ⟨O1,by simp [b],Zhx a (Zt3 e f l).1,Ybp,Zqa l e f b p⟩ O1 K3 K1
 .refine go 8 ?_;refine cl 3 [70] Cn λ_ _=>?_;refine Qy (Zbg 70 J J pN)<|go 4 ?_;obtain rfl:i=(dg 1000000000 x).length:=O;have z:tz o=dg 1000000000 (x-y):=by rw [<-Lr Pb _ a];congr 1;rw [Pu _ (dg 1000000000 y) m,Pu _ (dg 1000000000 x) (aH _),Om Pb,Om Pb]at p;have D:=Zdp Gk o a;rw [b]at D;have B:c=0\/c=1:=O;rcases B with rfl|rfl<;>omega
  exact Xg n _ results293 J aA (gow 70 Za (by rw [z]<;>rfl))
theorem Zd2{s:Bool}{n:Nat}(z:Int)(e:n=z.natAbs)(hs:sg s z)(g:bl n<=4294967296):Yx prog 284 #[.bool s,v] [d9p v n] (.agg #[.bool (decide (z<0)),v]):=by
 refine Zd func284 ntmps284 λj i h c=>?_;have f:=Ht n;refine go 2<|Zw (Zr 2) λb _=>go 6<|Gi 6 J (λd=>?_) (λd=>?_)
 .refine go 5 ?_;refine dt (Xd [(0,_),(1,_)] J K4 (λa w hs=>Zun ((Zf J) a w hs) ((Qm 1 J Zh) a w hs)))<|go 4 ?_;exact Xg c () results284 (by rw [<-Zzk e hs,<-Zny];simp_all) aA Za
 .refine go 5 ?_;refine dt (Xd [(0,_),(1,_)] J K4 (λa w hs=>Zun ((Zf J) a w hs) ((Qm 1 J Zh) a w hs)))<|go 4 ?_;exact Xg c () results284 (by rw [<-Zzk e hs,<-Zny];simp_all) aA Za
theorem r_neg(e:bl x.natAbs<=3000000000):Cal prog 224 #[.agg #[.bool (decide (x<0)),v]] [d9p v x.natAbs] true (G:=Value) (λr=>True) (λr=> .agg #[.bool (decide (-x<0)),r]) (λr=>[d9p r (-x).natAbs]):=by refine Zd func224 ntmps224 λg f d a=>go 2 ?_;refine Zw (Zu 2) λb _=>Zw (Zr 3) λc _=>go 6 ?_;refine dt (Xn J J)<|go 2 ?_;refine cl 3 [1] (Zd2 (-x) (eF x).symm (Zxr (Xl x)) O) λ_ _=>go 4 ?_;exact Xg a _ results224 J aA (Nz 1 Za (by rw [eF]<;>rfl))
theorem r_add{y:Int}(m:bl x.natAbs<=3000000000:=by omega)(n:bl y.natAbs<=3000000000:=by omega):Cal prog 226 #[.agg #[.bool (decide (x<0)),v],.agg #[.bool (decide (y<0)),w]] [d9p v x.natAbs,d9p w y.natAbs] true (G:=Value) (λr=>True) (λr=> .agg #[.bool (decide (x+y<0)),r]) (λr=>[d9p r (x+y).natAbs]):=by
 refine Zd func226 ntmps226 λp o l f=>?_;have k:=Bf x y;refine go 2<|Zw (Zu 3) λb _=>Zw (Zu 4) λg _=>Zw (Zr 5) λh _=>go 12<|Ow J (λa=>?_) (λa=>?_)
 .replace a:=Yfn a;refine go 1<|Qg (λ_=>False) [(0,0),(1,0),(2,0),(3,0),(4,0),(5,0),(6,1),(7,1),(8,3)]<|go 6<|Xs (Zm 6 [1,2] (r_plus O O)) λv _=>Xs (Zm 6 [6] (Zd2 (x+y) (Zdn (Xl x) (a▸Xl y)).symm (Zr0 (Xl x) (a▸Xl y)) (by rw [<-Zdn (Xl x) (a▸Xl y)];omega))) λ_ _=>go 5 ?_;exact Xg f _ results226 J aA (Nz 6 Za (by rw [Zdn (Xl x) (a▸Xl y)]<;>rfl))
 .have d:decide (x<0)≠decide (y<0):=by simpa using a
  refine go 9 ?_;refine cl 6 [1,2] Ydj λ_ _=>go 3<|Zc J (λe=>?_) (λe=>?_)
  .have c:y.natAbs<=x.natAbs:=Zt7.1 e;refine go 1<|Qg (λ_=>False) [(0,0),(1,0),(2,0),(3,0),(4,0),(5,0),(6,1),(7,1),(8,3)]<|go 6<|Xs (Zm 7 [1,2] (Zsb c)) λi _=>Xs (Zm 7 [7] (Zd2 (x+y) (Cb (Xl x) (Xl y) d c).symm (Zfh (Xl x) (Xl y) d c) (by have:=Py (Nat.sub_le x.natAbs y.natAbs);omega))) λ_ _=>go 5 ?_;exact Xg f _ results226 J aA (Nz 7 Za (by rw [Cb (Xl x) (Xl y) d c]<;>rfl))
  .have c:x.natAbs<=y.natAbs:=by have:=mt Zt7.2 e;omega
   refine go 3<|Qg (λ_=>False) [(0,0),(1,0),(2,0),(3,0),(4,0),(5,0),(6,1),(7,1),(8,3)]<|go 6<|Xs (Zm 8 [2,1] (Zsb c)) λj _=>Xs (Zm 8 [8] (Zd2 (x+y) (by rw [iD x];exact(Cb (Xl y) (Xl x) (fS d) c).symm) (by rw [iD x];exact Zfh (Xl y) (Xl x) (fS d) c) (by have:=Py (Nat.sub_le y.natAbs x.natAbs);omega))) λ_ _=>go 4 ?_;exact Xg f _ results226 J aA (Nz 8 Za (by rw [iD x,Cb (Xl y) (Xl x) (fS d) c]<;>rfl))
theorem r_sub(x y:Int)(i:bl x.natAbs<=3000000000:=by omega)(j:bl y.natAbs<=3000000000:=by omega):Cal prog 285 #[.agg #[.bool (decide (x<0)),v],.agg #[.bool (decide (y<0)),w]] [d9p v x.natAbs,d9p w y.natAbs] true (G:=Value) (λr=>True) (λr=> .agg #[.bool (decide (x-y<0)),r]) (λr=>[d9p r (x-y).natAbs]):=by refine Zd func285 ntmps285 λl k h a=>?_;have f:=Zdi x y;have g:=Zly y;refine go 2<|Zw (Zu 3) λb _=>Zw (Zu 4) λc _=>Zw (Zr 5) λd _=>go 3<|Qg (λ_=>False) [(0,0),(1,0),(2,1),(3,1),(4,3)]<|go 2<|Xs (Zm 6 [2] (r_neg O)) λv _=>Xs (Zm 7 [1,6] r_add) λe _=>go 4 ?_;exact Xg a _ results285 (by rw [eT]<;>rfl) aA (Nz 7 Za (by rw [eT]<;>rfl))
theorem r_sign(i:bl x.natAbs<=3000000000:=by omega):Yx prog 286 #[.agg #[.bool (decide (x<0)),v]] [d9p v x.natAbs] (.int .i64 x.sign):=by
 refine Zd func286 ntmps286 λk j h d=>?_;have e:=Ht x.natAbs;refine go 2<|Zw (Zu 2) λb _=>go 12<|Zc J (λa=>?_) (λa=>?_)
 .refine go 7 ?_;exact Xg d () results286 (sign9 a) aA Za
 .refine go 9<|Ow J (λc=>?_) (λc=>?_)
  .refine go 7 ?_;exact Xg d () results286 (by rw [eE (by simpa using c)]) aA Za
  .refine go 8 ?_;exact Xg d () results286 (by have f:=Znz a;have g:¬x<0:=(by simpa using c);rw [eW O]) aA Za
theorem r_num(g:Qf x:=by exact⟨O,O⟩):Cal prog 210 #[.int .i64 x] [] true (G:=Value) (λr=>True) (λr=> .agg #[.bool (decide (x<0)),r]) (λr=>[d9p r (x).natAbs]):=by
 refine Zd func210 ntmps210 λo l f d=>?_;have h:=g.1;have i:=g.2;refine Zg (Ml 60 1 3 Da)<|Zg (Pd 60 J J pN)<|go 2<|Zw (Zr 1) λb _=>go 9<|Zc J (λc=>?_) (λc=>?_)
 .obtain⟨m,rfl⟩:∃m:Nat,x=(m:Int):=⟨x.natAbs,O⟩;have e:bl m<=64:=(Xo 64 m).2 O;refine go 3 ?_;refine dt (Zsw (n:=1000000000) J J J O)<|go 1 ?_;refine dt (Zno (n:=1000000000) J J J O O)<|dt (Zsw (n:=1000000000) J J J O)<|go 1 ?_;refine dt (Zno (n:=1000000000) J J J O O)<|dt (Zno (n:=1000000000) J J J O O)<|tt (Xw [(0,_),(1,_),(2,_)] 70 (enc:=Da) [m%1000000000,m/1000000000%1000000000,m/1000000000/1000000000] J J K6 Oa ti3 J J J J J pN.cells J J f.h) λv _=>cl 1 [70] Cn λ_ _=>?_;refine Qy (Zbg 70 J J pN)<|Qy (Zix 70 (Zmk O) J J)<|cl 1 [70] (Zd2 ((m:Int)) O (by simp [sg]) O) λ_ _=>go 5 ?_;exact Xg d _ results210 J aA (gow 70 Za (by rw [cM]<;>rfl))
 .obtain⟨m,rfl⟩:∃m:Nat,x=-(m:Int):=⟨x.natAbs,O⟩;have e:bl m<=64:=(Xo 64 m).2 O;refine go 5 ?_;refine dt (Zy1 (n:=1000000000) J J J O)<|dt (Zy6 J J O)<|go 1 ?_;refine dt (Zp9 (n:=1000000000) J J J O O)<|dt (Zy1 (n:=1000000000) J J J O)<|dt (Zy6 J J O)<|go 1 ?_;refine dt (Zp9 (n:=1000000000) J J J O O)<|dt (Zp9 (n:=1000000000) J J J O O)<|dt (Zy6 J J O)<|tt (Xw [(0,_),(1,_),(2,_)] 70 (enc:=Da) [m%1000000000,m/1000000000%1000000000,m/1000000000/1000000000] J J K6 Oa ti3 J J J J J pN.cells J J f.h) λj _=>cl 1 [70] Cn λ_ _=>?_;refine Qy (Zbg 70 J J pN)<|Qy (Zix 70 (Zmk O) J J)<|Qy (Zix 70 (ys:=dg 1000000000 (-(m:Int)).natAbs) (by rw [eF,cM]) J J)<|Qy (Pd 70 J J pN)<|cl 1 [70] (Zd2 ((-(m:Int))) J (by simp [sg]) (by rw [eF,cM];omega)) λ_ _=>?_;refine dt (Xd [] J aA (λa w hs=>b245_))<|cl 2 [70,60] (r_sub (-(m:Int)) 0 (by rw [eF,cM];omega) O3) λk _=>go 4 ?_;exact Xg d _ results210 (by rw [eX]<;>rfl) aA (Nz 2 Za (by rw [eX]<;>rfl))
theorem r_to(hx:bl x.natAbs<=4000000000):Yx prog 209 #[.agg #[.bool (decide (x<0)),v]] [d9p v x.natAbs] (wv x):=by
 refine Zd func209 ntmps209 λw0 sc o S=>?_;obtain⟨n,R⟩:∃n,n=x.natAbs:=⟨_,rfl⟩;have a4:bl n<=4000000000:=by rw [R];exact hx
 have a3:=Ht x.natAbs;refine go 2<|Zw (Zu 2) λb _=>Zw (Zr 3) λW _=>go 11<|Qy (Ml 81 1 3 Da) ?_;refine tt (Ha 81 1 8 J J J J J J O3 J Zh Oa ti3 J pN J J J O9 O3 J o.h) λv _=>go 5 ?_;refine Zg (Ml 80 1 5 Zfb)<|lp (G:=Nat×List Nat×Value×Value) [1,2] [0,1,2,3] (λq=>[(3,q.2.2.1),(4,q.2.2.2)]) (λq=>[(80,Nl 1 5 Zfb q.2.2.1 q.2.1),(81,Nl 1 3 Da q.2.2.2 (dg 1000000000 q.1))]) (λq=>(val 256 q.2.1+256^q.2.1.length*q.1=n)/\(∀d∈q.2.1,d<256)/\(q.2.1.length=0\/256^(q.2.1.length-1)<=n)/\(bl q.1<=bl n)) (λq=>q.1) (n,[],.slice none 0 0,_) ⟨by simp [val],O7,.inl rfl,aH _⟩ ⟨J,J,aA⟩ ⟨J,by rw [R];rfl,aA⟩ ?_;rintro⟨m,e,vb,vd⟩ ⟨M,g,D,H⟩;dsimp only at M g D H;dsimp only;have a2:=Ht m;refine go 8<|Zc J (λs=>?_) (λs=>?_)
 .have f:0<m:=Znz O;have F:=to_ge M f;have Y:=to_len F;refine go 18 ⟨O,?_⟩;refine lp (G:=Nat×List Nat×Nat) [1,2,3,4] [0,80,1,2,3] (λq=>[(6,.int .i64 ((q.1:Int)-1)),(5,.int .i64 (q.2.2:Int))]) (λq=>[(81,Nl 1 3 Da vd q.2.1)]) (λq=>(q.1<=(dg 1000000000 m).length)/\(q.2.1.length=(dg 1000000000 m).length)/\(∀d∈q.2.1,d<1000000000)/\(∀j,j<q.1->q.2.1.getD j 0=(dg 1000000000 m).getD j 0)/\(q.2.2<256)/\(val 1000000000 (q.2.1.drop q.1)*256+q.2.2=val 1000000000 ((dg 1000000000 m).drop q.1))) (λq=>q.1) ((dg 1000000000 m).length,dg 1000000000 m,0) ⟨aH _,J,Ol Pb m,λj _=>J,O1,by simp [gF,val]⟩ K2 K1 ?_;rintro⟨k,p,r⟩ ⟨N,I,c,h,V,l⟩;dsimp only at N I c h V l;dsimp only;have Z:=Yv Gk (Ol Pb m) (k-1);refine go 7<|Zc J (λt=>?_) (λt=>?_)
  .refine go 7 ?_;refine dt (n_mul (n:=1000000000) J J J O)<|go 2 ?_;refine dt (Yu 81 (k-1) J J J J (Xc pN) Oa zT3)<|go 1 ⟨O,?_⟩;refine dt (Zy7 J J J (by have:=Yv Gk c (k-1);omega))<|go 8 ?_;refine dt (Zno (n:=256) J J J (by have:=Yv Gk c (k-1);omega) O)<|dt (Yu 81 (k-1) J J J J (Xc pN) Oa zT3)<|tt (Lb 81 (enc:=Da) J J J J J J pN J o.h) λ_ _=>go 4 ?_;refine dt (Zsw (n:=256) J J J O)<|go 9 ⟨O,?_⟩;exact Xe (k-1,_,_) ⟨O1,by simp [I],Mc c _ (Zw0 V (Yv Gk c _)),λj hj=>by dsimp only at hj ⊢;rw [Pr O,aE O];exact h j O,bG _ O,by dsimp only;rw [h (k-1) O];exact Yct O O O l⟩ O1 ⟨by rw [show(((k-1:Nat):Int)-1)=(k:Int)-1-1 by omega];rfl,rfl,aA⟩ K1
  .refine go 6 ?_;obtain rfl:k=0:=O;rw [iA,iA,Om Pb]at l;have Q:m%256=r%256:=O;have P:dg 1000000000 (m/256)=tz p:=by rw [<-Lr Pb p c];congr 1;omega
   refine go 3 ?_;refine dt (Zbb J J uT3 uT5)<|tt (Xw [(0,_)] 4 (enc:=Zfb) [r%256] J J K2 Zen ti5 J J J J J pB.cells J J o.h) (λa5 _=>?_);refine tt (Ha 80 4 1 J J J J J J O3 J (Xc pB) Zen ti5 J pB J J J O9 O3 J o.h) λa6 _=>go 5 ?_;refine cl 4 [81] Cn λ_ _=>?_;refine Qy (Zbg 81 J J pN)<|go 3 ?_;exact Xe (m/256,e ++ [m%256],_,_) ⟨Ycu M,Zhx g (bG _ O),.inr (by simpa using F),aB (Py (eP _ _)) H⟩ (iN f O) K2 ⟨by rw [Q];rfl,by rw [P];rfl,aA⟩
 .have f:m=0:=(Qp Pb m).1 O;have B:e=dg 256 n:=Zrl O g (by rw [f,jW,eO]at M;exact M) D;have a1:e.length<=4000000000:=by rw [B,Zg9];omega
  refine go 20 ⟨O,?_⟩;refine Zg (Ml 82 1 5 Zfb)<|lp (G:=Nat×Value) [1,2,3] [0,80,81,1,2,3] (λq=>[(8,.int .i64 ((q.1:Int)-1)),(7,q.2)]) (λq=>[(82,Nl 1 5 Zfb q.2 (e.drop q.1).reverse)]) (λq=>q.1<=e.length) (λq=>q.1) (e.length,.slice none 0 0) (aH _) K2 ⟨by rw [gF];rfl,aA⟩ ?_;rintro⟨k,vo⟩ N;dsimp only at N;dsimp only;have a0:(e.drop k).length=e.length-k:=dO;refine go 7<|Zc J (λz=>?_) (λz=>?_)
  .refine go 8 ?_;refine dt (Yu 80 (k-1) J J J J (Xc pB) Zen sizeOf5)<|go 1 ⟨O,?_⟩;refine tt (Xw [(0,_)] 5 (enc:=Zfb) [e.getD (k-1) 0] J J K2 Zen ti5 J J J J J pB.cells J J o.h) (λa7 _=>?_);refine tt (Ha 82 5 1 J J J J J J O3 J (Xc pB) Zen ti5 J pB J J J O9 O3 J o.h) (λa8 _=>?_);refine go 9 ⟨O,?_⟩;exact Xe (k-1,_) O1 O1 ⟨by rw [show(((k-1:Nat):Int)-1)=(k:Int)-1-1 by omega];rfl,rfl,aA⟩ ⟨by rw [<-Ya2 O N];rfl,aA⟩
  .refine go 10 ?_;refine dt (d_b2s J J (i:=82) J (Xc pB) Zen uT9 uT5)<|dt (Xd [(0,_),(1,_)] J K4 (λa w hs=>Zl4 ((Zf J) a w hs) ((Zf J) a w hs)))<|go 4 ?_;obtain rfl:k=0:=O;exact Xg S () results209 (by rw [Yfl B,R]<;>rfl) aA Za
end Go.Sky

