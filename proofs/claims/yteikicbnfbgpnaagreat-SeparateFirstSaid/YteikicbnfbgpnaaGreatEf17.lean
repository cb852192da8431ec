/- Rules, arithmetic and contracts: part 18. No conditions but those that each theorem names. -/
import Derived.Test.YteikicbnfbgpnaaGreatEf16
import Derived.RangeFuncNested
set_option linter.all false
set_option maxHeartbeats 4000000
namespace Go.Sky
open Go.Proofs.Tryz
open Go.Proofs
set_option synthInstance.maxHeartbeats 0
set_option synthInstance.maxSize 100000
set_option maxRecDepth 20000
set_option linter.unusedSimpArgs false
variable{x y:Int}{v w u w2 u2:Value}{zs:List (Int×SL)}{ls:List (SL×List (Int×SL))}{p:List Int}{k:Nat}{a b:R2}{M0:Nat->Prop}
theorem r17_sq{fr to e M Z c:Int}{sx sy sz n o s:SL}{x y z h j l:List Int}(t:Sgo fr to e x y z)(f:Sgo M Z c h j l)(hA:∀i,Ab KA (tzl (Zu i x y z)))(c0:∀i,Ab KA (tzl (Zu i h j l))):Cal prog 77 #[.agg #[.int .i64 fr,.int .i64 to,.int .i64 e,Xl sx,Xl sy,Xl sz],.agg #[.int .i64 M,.int .i64 Z,.int .i64 c,Xl n,Xl o,Xl s]] [Yy 1 Yk (Xl sx) x,Yy 1 Yk (Xl sy) y,Yy 1 Yk (Xl sz) z,Yy 1 Yk (Xl n) h,Yy 1 Yk (Xl o) j,Yy 1 Yk (Xl s) l] true (G:=Value×List TzT×Value) (λr=>r.2.1.map (λz=>Zb z.2)=sqR e c x y z h j l 3) (λr=> .tuple #[r.1,.agg #[.bool (decide (ovW e c<0)),r.2.2]]) (λr=>[Xv 1 (Nm (α:=List (Int×SL))) qT r.1 r.2.1,Oz r.2.2 (ovW e c).natAbs]):=by
 refine Zh func77 ntmps77 λw0 sc hw c8=>?_;have f9:=t.o1;have c4:=t.o2;have c5:=f.o1;have c6:=f.o2;have c7:bl e.natAbs<=1000000000:=aB ((Qo 40 _).2 O) O3;have V:bl c.natAbs<=1000000000:=aB ((Qo 40 _).2 O) O3;have W:=ov_b t f;refine go 2 ?_;refine Yg (Yp 7) λbx _=>Yg (Yp 8) λc9 _=>go 1 ?_;refine Yg (Zy 9) λd0 _=>go 2 ?_;refine jn (G:=Value×Value×Nat×Nat) [2,3,5] [0,1,2,3,4,5,6,7,8,9] (λq=>[(6,.pointer (some ⟨q.2.2.1,0,none⟩)),(7,.pointer (some ⟨q.2.2.2,0,none⟩))]) (λq=>[(83,Oz q.1 (e).natAbs),(84,Oz q.2.1 (c).natAbs),(95,box q.2.2.1 89 #[.bool (decide (e<0)),q.1]),(96,box q.2.2.2 89 #[.bool (decide (c<0)),q.2.1])]) (λq=>True) ?_ ?_
 .refine Pm [7,8] [9]<|Zj 6 [(0,0),(1,0),(3,0),(4,0)]<|go 5 ?_;refine Zd1 5 2 6 7 ?_ ?_ ?_
  .refine Ou (Zm 83 [] (Ps e)) λv _=>?_;refine Zd1 4 5 6 7 ?_ ?_ ?_
   .refine Ou (Zm 84 [] (Ps c)) λg5 _=>?_;refine Qy 3 6 7 ?_ ?_
    .refine Ou (Qe 95) λd1 ho=>?_;refine Zj 0 [(7,1),(8,1),(9,3)]<|Yv (Qe 96) λd2 c4=>go 3 ?_;exact Zt<|Oe (_,_,_,_) aA K2 K4
    .refine Ou (Qe 96) λd3 c5=>?_;refine Zj 0 [(6,1),(8,1),(9,3)]<|Yv (Qe 95) λd4 c6=>go 3 ?_;exact Zt<|Oe (_,_,_,_) aA K2 K4
   .refine Ou (Qe 95) λd5 g0=>?_;refine Qy 3 5 7 ?_ ?_
    .refine Ou (Zm 84 [] (Ps c)) λg6 _=>?_;refine Zj 0 [(7,1),(8,1),(9,3)]<|Yv (Qe 96) λd6 g1=>go 3 ?_;exact Zt<|Oe (_,_,_,_) aA K2 K4
    .refine Ou (Qe 96) λa0 g2=>?_;refine Zj 0 [(5,1),(8,1),(9,3)]<|Yv (Zm 84 [] (Ps c)) λg7 _=>go 3 ?_;exact Zt<|Oe (_,_,_,_) aA K2 K4
   .refine Ou (Qe 96) λa1 g3=>?_;refine Qy 3 5 6 ?_ ?_
    .refine Ou (Zm 84 [] (Ps c)) λg9 _=>?_;refine Zj 0 [(6,1),(8,1),(9,3)]<|Yv (Qe 95) λa2 g4=>go 3 ?_;exact Zt<|Oe (_,_,_,_) aA K2 K4
    .refine Ou (Qe 95) λa3 d7=>?_;refine Zj 0 [(5,1),(8,1),(9,3)]<|Yv (Zm 84 [] (Ps c)) λh0 _=>go 3 ?_;exact Zt<|Oe (_,_,_,_) aA K2 K4
  .refine Ou (Qe 95) λa4 d8=>?_;refine Qy 4 2 7 ?_ ?_
   .refine Ou (Zm 83 [] (Ps e)) λh1 _=>?_;refine Qy 3 5 7 ?_ ?_
    .refine Ou (Zm 84 [] (Ps c)) λh2 _=>?_;refine Zj 0 [(7,1),(8,1),(9,3)]<|Yv (Qe 96) λa5 d9=>go 3 ?_;exact Zt<|Oe (_,_,_,_) aA K2 K4
    .refine Ou (Qe 96) λa6 e0=>?_;refine Zj 0 [(5,1),(8,1),(9,3)]<|Yv (Zm 84 [] (Ps c)) λh3 _=>go 3 ?_;exact Zt<|Oe (_,_,_,_) aA K2 K4
   .refine Ou (Qe 96) λa7 e1=>?_;refine Zj 0 [(2,1),(5,1),(8,1),(9,3)]<|Yv (Zm 83 [] (Ps e)) λe6 _=>Yv (Zm 84 [] (Ps c)) λe7 _=>go 3 ?_;exact Zt<|Oe (_,_,_,_) aA K2 K4
  .refine Ou (Qe 96) λa8 e2=>?_;refine Qy 4 2 6 ?_ ?_
   .refine Ou (Zm 83 [] (Ps e)) λe8 _=>?_;refine Qy 3 5 6 ?_ ?_
    .refine Ou (Zm 84 [] (Ps c)) λe9 _=>?_;refine Zj 0 [(6,1),(8,1),(9,3)]<|Yv (Qe 95) λa9 e3=>go 3 ?_;exact Zt<|Oe (_,_,_,_) aA K2 K4
    .refine Ou (Qe 95) λb0 e4=>?_;refine Zj 0 [(5,1),(8,1),(9,3)]<|Yv (Zm 84 [] (Ps c)) λf0 _=>go 3 ?_;exact Zt<|Oe (_,_,_,_) aA K2 K4
   .refine Ou (Qe 95) λb1 e5=>?_;refine Zj 0 [(2,1),(5,1),(8,1),(9,3)]<|Yv (Zm 83 [] (Ps e)) λf1 _=>Yv (Zm 84 [] (Ps c)) λf2 _=>go 3 ?_;exact Zt<|Oe (_,_,_,_) aA K2 K4
 .rintro⟨qx,qy,b6,b7⟩ -;dsimp only;refine go 12 ?_;refine Zf (Qw 70 1 47 (Nm (α:=List (Int×SL))))<|Zf (Yh qT 71)<|lp (G:=Nat×Value×List TzT) [2,3,5,6,7] [0,83,84,95,96,1,2,3,4,5,6,7,8,9] (λq=>[(9,.int .i64 (q.1:Int)),(8,q.2.1)]) (λq=>[(70,Of 1 47 (Nm (α:=List (Int×SL))) q.2.1 q.2.2),(71,Nb qT q.2.2)]) (λq=>(q.1<=3)/\(q.2.2.map (λz=>Zb z.2)=sqR e c x y z h j l q.1)/\(q.2.2.length=q.1)) (λq=>3-q.1) (0,.slice none 0 0,[]) ⟨O1,rfl,rfl⟩ K2 K2 ?_;rintro⟨i,vo,ws⟩ ⟨hi,I,Y⟩;dsimp only at hi I Y;dsimp only;have hc:=t.hc i;have c1:=f.hc i;have c3:=t.lc i;have S:=f.lc i;have d:=fmX (k:=1) (hA i) (c0 i) c3.2 S.2 ⟨t.o1,t.o2⟩ ⟨f.o1,f.o2⟩ ⟨O3,O3⟩;refine go 7 ?_;refine Ze J (λb9=>?_) (λb9=>?_)
  .refine go 5 ?_;refine Kr (λ_=>False) [17]<|Zj 11 [(0,0),(2,0),(6,0),(8,0),(10,0),(14,0),(1,1)]<|go 6 ?_;refine Yv (Zm 60 [1,2,3] Dz) λf3 _=>go 1 ?_;refine Zd0 (Oa 60 40 ([(sx,x),(sy,y),(sz,z)].getD i C0) J J (Zd (show i<3 by omega)) J)<|Zd0 (Nq 40 (q:=Yy 1 Yk (Xl ([(sx,x),(sy,y),(sz,z)].getD i C0).1) (Zu i x y z)) (aE (Yy 1 Yk _) (Zh5 O)) J J)<|Zj 8 [(3,0),(4,0),(5,1)]<|Xh J J (Xm (Zv 60 i J J J J Zc Zag Zcy J (show i<3 by omega)))<|Xh J J (Xm (Ys 60 C0 J J J Zc pC (show i<3 by omega)))<|Yv (Zm 10 [40] (Zbk (Zu i x y z) hc O)) λg hg=>go 1 ?_;have B:Zb g.2=tzl (Zu i x y z):=hg;refine Zj 7 [(7,1)]<|Yv (Zm 11 [10,84] (Er c (Ze3 B d.v1) (aB d.b1 O3) (Bv B d.v1 O3))) λb3 N=>go 1 ?_;have F:Zb b3.2=Zr (tzl (Zu i x y z)) c:=N.trans (by rw [B]);refine Zj 6 [(9,1)]<|Yv (Zm 62 [4,5,6] Dz) λf4 _=>go 1 ?_;refine Zd0 (Oa 62 41 ([(n,h),(o,j),(s,l)].getD i C0) J J (Zd (show i<3 by omega)) J)<|Zd0 (Nq 41 (q:=Yy 1 Yk (Xl ([(n,h),(o,j),(s,l)].getD i C0).1) (Zu i h j l)) (aE (Yy 1 Yk _) (Zh5 O)) J J)<|Zj 3 [(11,0),(12,0),(13,1)]<|Xh J J (Xm (Zv 62 i J J J J Zc Zag Zcy J (show i<3 by omega)))<|Xh J J (Xm (Ys 62 C0 J J J Zc pC (show i<3 by omega)))<|Yv (Zm 12 [41] (Zbk (Zu i h j l) c1 O)) λb4 P=>go 1 ?_;have D:Zb b4.2=tzl (Zu i h j l):=P;refine Zj 2 [(15,1)]<|Yv (Zm 13 [12,83] (Er e (Ze3 D d.v2) (aB d.a1 O3) (Bv D d.v2 O3))) λb5 Q=>go 1 ?_;have H:Zb b5.2=Zr (tzl (Zu i h j l)) e:=Q.trans (by rw [D]);refine Zj 1 [(16,1)]<|Yv (Zm 14 [11,13] (Zil (Ze3 F d.v3) (Ze3 H d.v4) (Bv F d.v3 O3) (Bv H d.v4 O3))) λb8 R=>go 1 ?_;have m:Zb b8.2=dfP (Zu i x y z) (Zu i h j l) e c:=R.trans (by rw [F,H];rfl);refine Zj 0 [(17,3)]<|go 2 ?_;refine Zt<|go 5 ?_;refine cl 87 [14,14] (Yi0 (Ze3 m d.v5) (Bv m d.v5 O3) (Ze3 m d.v5) (Bv m d.v5 O3)) λgt c2=>?_;refine tt (Xs [(0,_)] 15 (enc:=Nm) ([gt]:List TzT) J J K2 Zbc ti47 J J J J J pT.cells J J hw.h) (λf5 _=>?_);refine tt (Pt 70 15 24 J J J J J J O3 J (Ya pT) Zbc ti47 J pT J J J O8 O3 J hw.h) (λf6 _=>?_);refine go 9 ⟨O,?_⟩;exact Zs (Zo (q:=qT) (z:=gt) 71 87 71 J J J J J)<|Yf (i+1,_,ws ++ [gt]) ⟨O1,sqR_s I (c2.trans (by rw [m];rfl)),by rw [bL,Y];rfl⟩ O1 K2 K2
  .obtain rfl:i=3:=O;refine go 9 ?_;refine cl 88 [83,84] (Lq e c c7 V) λf7 _=>Yg (Zy 16) λb2 _=>go 8 ?_;refine cl 89 [88,88] (Lq (e*c) (e*c) W W) λf8 _=>go 5 ?_;exact Zs (Xn 70 J J pT)<|Zs (Xq 70 71 72 J J J J)<|Mj c8 (_,ws,_) results77 J I (Pq 72 (Pq 89 Za))
theorem Yjk(hs:Sz 1000000 (Zb zs))(h:zs.length<=1000)(e:zs.length≠0->Yw (Zb zs)≠0):Cal prog 80 #[v] [pp v zs] true (G:=Value×List (Int×SL)) (λr=>Zb r.2=Zz (Zb zs)) (λr=>r.1) (λr=>[pp r.1 r.2]):=by
 refine Zh func80 ntmps80 λl j i c=>go 13 ?_;refine Ze J (λd=>?_) (λd=>?_)
 .refine go 7 ?_;exact Zs (Fn 62)<|Xj c (.slice none 0 0,[]) results80 J (by rw [show zs=[]from aC O];rfl) (Pq 62 Za)
 .refine go 5 ?_;refine cl 2 [1] (Iy hs e h) λg f=>go 4 ?_;exact Xj c _ results80 J f (Pq 2 Za)
theorem Yjh(hv:Vp (Zb zs))(h0:zs.length≠0)(hs:Sz 320 (Zb zs))(hl:zs.length<=11):Cal prog 299 #[v] [pp v zs] true (G:=Value×List (SL×List (Int×SL))) (λr=>Bk r.2=chn 13 (Zb zs)) (λr=>r.1) (λr=>[Xv 1 Nm qT r.1 r.2]):=by
 refine Zh func299 ntmps299 λw0 sc hw b1=>?_;have a8:=Zi zs;have N:Zb zs≠[]:=λe=>h0 (by rw [<-a8,e];rfl);obtain⟨hC,hq,c6⟩:=Ynk hv.tr N hs O;obtain⟨a5,c1,a6⟩:=hC;have P:=Zlh hv N a5;have c5:sqf 13 (Zb zs)≠[]:=(Zo1 hv N hs O).2.2.2.2.2.2.2.2.2.2.2.1;have Z:=Gx hq O;have b7:=Oc (sqf 13 (Zb zs));have a0:=Np P.tr;have F:Vp (Xf (sqf 13 (Zb zs))):=⟨Z.mono O,a0,O⟩;refine go 8 ?_;refine cl 2 [1] (Yje hv h0 hs hl) λg hg=>go 6 ?_;refine tt (Xs [(0,_)] 70 (enc:=Nm) [g] J J K2 Zbc ti47 J J J J J pT.cells J J hw.h) λv _=>go 4 ?_;have d:Zb g.2=sqf 13 (Zb zs):=hg;have b5:=aE List.length d;rw [Zi]at b5;refine Zf (Yh qT 71)<|Zf (Zo (q:=qT) (z:=g) 71 2 71 J J J J J)<|Zf (Xu 2 92 J J J)<|go 2 ?_;refine cl 3 [2] (Zim (by rw [d];exact P.sz.mono O)) λb8 j=>?_;have a7:=aE List.length j;rw [Zi,d,Oc]at a7;refine cl 4 [3] (Zc8 (by rw [j,d];exact Z.mono O) (λh=>by rw [j,d];exact F.ne (λe=>h (by have Q:=aE List.length j;rw [Zi,d,e]at Q;exact Q)))) λH V=>?_;have t:Zb H.2=Zz (Xf (sqf 13 (Zb zs))):=by rw [show Zb H.2=Zz _ from V,j,d]
 refine go 5 ?_;refine Zf (Xu 4 80 J J J)<|lp (G:=List (SL×List (Int×SL))×(SL×List (Int×SL))×(SL×List (Int×SL))×Nat×Value) [] [0,1,2,3,4] (λq=>[(4,q.2.2.2.2),(3,Xl q.2.1.1),(5,Xl q.2.2.1.1)]) (λq=>[(70,Of 1 47 Nm q.2.2.2.2 (q.1 ++ [q.2.1])),(71,Nb qT (q.1 ++ [q.2.1])),(92,pp (Xl q.2.1.1) q.2.1.2),(80,pp (Xl q.2.2.1.1) q.2.2.1.2)]) (λq=>(Vp (Zb q.2.1.2))/\(Vp (Zb q.2.2.1.2))/\(cok q.2.2.2.1 (Zb q.2.1.2) (Zb q.2.2.1.2))/\(Bk q.1 ++ Nz q.2.2.2.1 (Zb q.2.1.2) (Zb q.2.2.1.2)=chn 13 (Zb zs))/\(q.2.1.2.length<=11)/\(q.2.2.1.2.length<=11)/\(q.1.length+q.2.2.1.2.length<=25)) (λq=>q.2.2.1.2.length) ([],g,H,13,_) ⟨by dsimp only;rw [d];exact P,by dsimp only;rw [t];exact Lx F,by dsimp only;rw [d,t];exact a6,by dsimp only;rw [d,t];rfl,O9,by dsimp only;rw [<-Zi,t,Zw];omega,by dsimp only;rw [<-Zi,t,Zw];simp;omega⟩ ⟨J,J,J,aA⟩ ⟨J,J,J,J,aA⟩ ?_;rintro⟨ws,B,s,f,vo⟩ ⟨c,i,R,M,b4,a3,b3⟩;dsimp only at c i R M b4 a3 b3;dsimp only;have c3:=Zi B.2;have a9:=Zi s.2;refine go 8 ?_;refine Ze J (λa4=>?_) (λa4=>?_)
 .have n:Zb s.2≠[]:=λe=>by have Q:=aE List.length e;rw [a9]at Q;simp only [fQ]at Q;omega
  obtain⟨f0,rfl,hd,c2,S,a2⟩:=Zht R n;refine go 7 ?_;refine tt (Xs [(0,_)] 5 (enc:=Nm) [s] J J K2 Zbc ti47 J J J J J pT.cells J J hw.h) (λd1 _=>?_);refine tt (Pt 70 5 24 J J J J J J O3 J (Ya pT) Zbc ti47 J pT J J J O8 O3 J hw.h) λd2 _=>go 7 ?_;refine cl 6 [92,80] (r3_rem 11 O O O c.tr i.tr O (by have:=Qx c.sz;have:=Qx i.sz;omega)) λb9 l=>?_;have c7:(Gy 11 (Zb B.2) (Zb s.2)).length<(Zb s.2).length:=(Zcc i.tr n 11 (Zb B.2) c.tr O).2.1;have c8:=Zvu (Zb s.2) 11 (Zb B.2);have c9:=(Zcc i.tr n 11 (Zb B.2) c.tr O).1;have a1:=aE List.length l;rw [Zi]at a1;refine cl 7 [6] (Zqt (by rw [l];exact(Pd _).mono (by have:=Qx c.sz;have:=Qx i.sz;omega))) λc0 o=>?_;have b0:=aE List.length o;rw [Zi,l]at b0;have b6:=Oj (Gy 11 (Zb B.2) (Zb s.2)) (-1);refine cl 8 [7] (Zc8 (by rw [o,l];exact(Zb8 (Pd _) (m:=1) O3).mono (by have:=Qx c.sz;have:=Qx i.sz;omega)) (λh=>Cz (by rw [o];exact Qk _ _) (λe=>h (by rw [<-Zi,e];rfl)))) λI W=>go 4 ?_;have b2:=Zea 11 c.tr i.tr n O O;have D:Zb I.2=Mw (Zb B.2) (Zb s.2):=by rw [show Zb I.2=Zz _ from W,o,l];exact b2
  have d0:=Bs (y:=Zb s.2) c.tr;have c4:=Pe (Zb B.2) n;have Y:=aE List.length D;rw [Zi]at Y;exact Zs (Zo (q:=qT) (z:=s) 71 80 71 J J J J J)<|Zs (Xu 80 92 J J J)<|Zs (Xu 8 80 J J J)<|Yf (ws ++ [B],s,I,f0,_) ⟨i,by dsimp only;rw [D];exact Zli c hd,by dsimp only;rw [D];exact S,by dsimp only;rw [D,<-M,a2];simp [Bk],a3,O9,by dsimp only;simp;omega⟩ O9 K3 K4
 .refine go 6 ?_;have n:Zb s.2=[]:=aC O;refine Zf (Xn 70 J J pT)<|Zf (Xq 70 71 72 J J J J)<|go 6 ?_;exact Xj b1 (_,ws ++ [B]) results299 J (by rw [<-M,n,Dx];simp [Bk]) (Pq 72 Za)
theorem Yjf{l:List Int}(D:∀i,-1<=l.getD i 0/\l.getD i 0<=1)(B:l.length<=1000):Qa prog 313 #[v] [Yy 1 Yk v l] (.int .i64 (chg l)):=by
 refine Zh func313 ntmps313 λI H F z=>go 18 ?_;refine lp (G:=Nat×Int×Int) [0] [0,1] (λq=>[(5,.int .i64 (q.1:Int)),(3,.int .i64 q.2.1),(4,.int .i64 q.2.2)]) (λq=>[]) (λq=>(q.1<=l.length)/\((q.2.1,q.2.2)=(l.take q.1).foldl Ni (0,0))/\(0<=q.2.1)/\(q.2.1<=(q.1:Int))/\(-1<=q.2.2)/\(q.2.2<=1)) (λq=>l.length-q.1) (0,0,0) ⟨O1,O5,eN _,eN _,O3,O3⟩ K3 aA ?_;rintro⟨i,n,m⟩ ⟨hi,h,s,t,c,d⟩;dsimp only at hi h s t c d;dsimp only;have e:=D i;refine go 9 ?_;refine Ze J (λj=>?_) (λj=>?_)
 .refine go 16 ⟨O2,O2,mul_r e.1 e.2 c d,?_⟩;refine Ze J (λo=>?_) (λo=>?_)
  .refine go 15 ⟨O,O2,O2,?_⟩;refine Ze J (λr=>?_) (λr=>?_)
   .refine go 14 ⟨O2,O2,O,?_⟩;have f:=Zd8 l i O h;exact Yf (i+1,_,_) ⟨O1,by dsimp only;rw [f];first|exact(Ybi c d e.1 e.2 ‹_› ‹_›).symm|exact(Ybh c d e.1 e.2 ‹_› ‹_›).symm|exact(Ybg c d e.1 e.2 ‹_› ‹_›).symm|exact(Ybf c d e.1 e.2 ‹_› ‹_›).symm,O9,O9,by first|exact e.1|exact c,by first|exact e.2|exact d⟩ O1 K3 aA
   .refine go 8 ⟨O,?_⟩;have f:=Zd8 l i O h;exact Yf (i+1,_,_) ⟨O1,by dsimp only;rw [f];first|exact(Ybi c d e.1 e.2 ‹_› ‹_›).symm|exact(Ybh c d e.1 e.2 ‹_› ‹_›).symm|exact(Ybg c d e.1 e.2 ‹_› ‹_›).symm|exact(Ybf c d e.1 e.2 ‹_› ‹_›).symm,O9,O9,by first|exact e.1|exact c,by first|exact e.2|exact d⟩ O1 K3 aA
  .refine go 11 ⟨O2,O2,?_⟩;refine Ze J (λg=>?_) (λg=>?_)
   .refine go 14 ⟨O2,O2,O,?_⟩;have f:=Zd8 l i O h;exact Yf (i+1,_,_) ⟨O1,by dsimp only;rw [f];first|exact(Ybi c d e.1 e.2 ‹_› ‹_›).symm|exact(Ybh c d e.1 e.2 ‹_› ‹_›).symm|exact(Ybg c d e.1 e.2 ‹_› ‹_›).symm|exact(Ybf c d e.1 e.2 ‹_› ‹_›).symm,O9,O9,by first|exact e.1|exact c,by first|exact e.2|exact d⟩ O1 K3 aA
   .refine go 8 ⟨O,?_⟩;have f:=Zd8 l i O h;exact Yf (i+1,_,_) ⟨O1,by dsimp only;rw [f];first|exact(Ybi c d e.1 e.2 ‹_› ‹_›).symm|exact(Ybh c d e.1 e.2 ‹_› ‹_›).symm|exact(Ybg c d e.1 e.2 ‹_› ‹_›).symm|exact(Ybf c d e.1 e.2 ‹_› ‹_›).symm,O9,O9,by first|exact e.1|exact c,by first|exact e.2|exact d⟩ O1 K3 aA
 .refine go 12 ?_;exact Xj z () results313 (by unfold chg;rw [show l=l.take i by rw [cI O],<-h]<;>rfl) aA Za
theorem r3_at(x y:Int)(D:∀z∈ls,Vp (Zb z.2))(s:bl x.natAbs<=1000000)(t:bl y.natAbs<=1000000)(o:ls.length<=30:=by omega):Qa prog 300 #[v,.agg #[.bool (decide (x<0)),w,.bool (decide (y<0)),u]] [Xv 1 Nm qT v ls,Oz w x.natAbs,Oz u y.natAbs] (.int .i64 (chg ((Bk ls).map (Cl x y)))):=by
 refine Zh func300 ntmps300 λN I r l=>?_;have B:((Bk ls).map (Cl x y)).length=ls.length:=O5;have e:=λi (h:i<ls.length)=>Yf6 (z:=ls) rfl (Cl x y) h;refine go 2 ?_;refine Yg (Yp 4) λb _=>go 15 ?_;refine Zf (Qw 70 1 3 Yk)<|lp (G:=Nat×Value) [0,3] [0,1,2,3,4] (λq=>[(6,.int .i64 (q.1:Int)),(5,q.2)]) (λq=>[(70,Of 1 3 Yk q.2 (((Bk ls).map (Cl x y)).take q.1))]) (λq=>q.1<=ls.length) (λq=>ls.length-q.1) (0,.slice none 0 0) O1 K2 K1 ?_;rintro⟨i,M⟩ hi;dsimp only at hi;dsimp only;have m:(((Bk ls).map (Cl x y)).take i).length=i:=by rw [cD];omega
 refine go 9 ?_;refine Ze J (λg=>?_) (λg=>?_)
 .refine go 4 ?_;have c:=D (ls.getD i T0) (Zd O);have n:=c.len;rw [Zi]at n;refine Zf (Oa 1 91 (ls.getD i T0) J J (Zd O) J)<|Pm [1,4] [10]<|Zj 0 [(0,0),(1,0),(2,0),(3,0),(4,0),(5,0),(6,1),(7,1),(8,1),(9,1),(10,3)]<|go 4 ⟨O2,?_⟩;refine Xh J J (Eg (Ys 1 T0 J J J Zc pT O2) K2)<|go 1 ?_;refine Yv (Zm 5 [91,2,3] (Ya8 x y (c.sz.mono O) s t)) λv _=>Yv (Zm 5 [5] (Au (by have:=ev_b (c.sz.mono O:Sz 1000000 _) (by have:=c.len;omega) s t;omega))) λ_ _=>?_;refine Ko J (Xs [(0,_)] 6 (enc:=Yk) [(Cl x y (Zb (ls.getD i T0).2))] J J K2 Pn ti3 J J J J J pZ.cells J J r.h) (λF _=>?_);refine Ko J (Zb7 70 J J J K2 (λd=>(Bn 70 6 8 J J J J J J O3 J (Ya pZ) Pn ti3 J pZ J J J (by rw [m];simp;omega) O3 J r.h d))) λH _=>go 2 ?_;refine Zt<|go 7 ⟨O,?_⟩;exact Yf (i+1,_) O1 O1 K2 ⟨by rw [Po 0 _ _ O,e i O];rfl,aA⟩
 .refine go 6 ?_;refine Zf (Xn 70 J J pZ) ?_;have f:((Bk ls).map (Cl x y)).take i=((Bk ls).map (Cl x y)):=cI O;refine go 2 ?_;refine cl 6 [70] (Yjf (λi=>by rw [f];by_cases j:i<ls.length;(rw [e i j];exact fat_r _ _ _);(rw [show((Bk ls).map (Cl x y)).getD i 0=0 from Yn O];decide)) O) λ_ _=>go 4 ?_;exact Xj l () results300 (by rw [f]) aA Za
theorem Yjg(x y c d:Int)(q:Vp (Zb zs))(t:zs.length≠0)(hs:Sz 320 (Zb zs))(H:zs.length<=11)(N:bl x.natAbs<=1000000)(P:bl y.natAbs<=1000000)(r:bl c.natAbs<=1000000)(s:bl d.natAbs<=1000000):Qa prog 282 #[v,.agg #[.bool (decide (x<0)),w,.bool (decide (y<0)),u],.agg #[.bool (decide (c<0)),w2,.bool (decide (d<0)),u2]] [pp v zs,Oz w x.natAbs,Oz u y.natAbs,Oz w2 c.natAbs,Oz u2 d.natAbs] (.int .i64 (cnt 13 (Zb zs) x y-cnt 13 (Zb zs) c d)):=by refine Zh func282 ntmps282 λW V S o=>?_;have l:=Zi zs;have i:Zb zs≠[]:=λe=>t (by rw [<-l,e];rfl);obtain⟨D,R,M⟩:=Ynk q.tr i hs O;refine go 2 ?_;refine Yg (Yp 6) λb _=>Yg (Yp 7) λB _=>go 6 ?_;refine cl 8 [1] (Yjh q t hs H) λg G=>go 4 ?_;have j:Bk g.2=chn 13 (Zb zs):=G;have F:=Yf7 j;have I:(chn 13 (Zb zs)).length<=_:=Za7 13 _ _;have m:=Zbx ((Bk g.2).map (Cl x y));have n:=Zbx ((Bk g.2).map (Cl c d));simp only [aT]at m n;have h:∀z∈g.2,Vp (Zb z.2):=λz Q=>Yha q i D _ (by rw [<-j];exact mR (f:=λz=>Zb z.2) Q);refine Qd (λ_=>False) [(0,0),(1,0),(3,0),(4,0),(2,1),(5,1),(6,0),(7,3)]<|go 4 ?_;refine Yv (Zm 8 [8,2,3] (r3_at x y h N P)) λ_ _=>Yv (Zm 8 [8,4,5] (r3_at c d h r s)) λ_ _=>?_;refine go 5 ⟨O,?_⟩;exact Xj o () results282 (by rw [j]<;>rfl) aA Za
theorem Zu7(xs:List Int)(hd:Cvd xs)(b0:xs≠[])(f:Nat)(ih:∀(v:Value) (zs:List (Int×SL)) (s:RI xs (Zb zs)) (hf:zs.length<=f),Cal prog 281 #[v] [pp v zs] true (G:=Value×List (Int×SL)) (λr=>Zb r.2=Zc9 13 f (Zb zs)) (λr=>r.1) (λr=>[pp r.1 r.2]))(v:Value)(zs:List (Int×SL))(s:RI xs (Zb zs))(hf:zs.length<=f+1):Cal prog 281 #[v] [pp v zs] true (G:=Value×List (Int×SL)) (λr=>Zb r.2=Zc9 13 (f+1) (Zb zs)) (λr=>r.1) (λr=>[pp r.1 r.2]):=by
 refine Zh func281 ntmps281 λw0 sc hw a9=>?_;have e0:=Zi zs;have d9:=s.l;have d1:zs.length≠0:=λe=>s.ne (aC O);refine go 8 ?_;refine cl 2 [1] (Zye _ _ s.v d1 (s.s.mono O)) λg hg=>?_;have c:Zb g.2=(sqf 13 (Zb zs)):=hg;have I:=aE List.length c;rw [Zi]at I;refine go 11 ?_;refine Ze J (λd0=>?_) (λd0=>?_)
 .have h1:(sqf 13 (Zb zs)).length=1:=O;refine go 8 ?_;exact Xj a9 (_,g.2) results281 J (by rw [c,rodd_1 h1]) (Pq 2 Za)
 .have h1:(sqf 13 (Zb zs)).length≠1:=O;obtain⟨c1,c2,c3,c4,c5,c6,c7,c8,c9,S,b2,t,d3,b3,V,W,d4,d5,d6,b4,b5,d7,b6,Y,Z⟩:=RI.step hd b0 s;have m6:=Qx c6;have e1:=Qx t;have b1:=Zw (Zb zs);refine go 5 ?_;refine cl 3 [1] (Iy (s.s.mono O) (λ_=>c5)) λb7 a2=>?_;have n:Zb b7.2=Zz (Zb zs):=a2;have N:=aE List.length n;rw [Zi]at N;refine cl 4 [] (Ps 1 ⟨O3,O3⟩) λv _=>cl 5 [3,4] (Er _ (by rw [n];exact(Hz s.s).mono O) O7) λa0 a3=>?_;have l:Zb a0.2=Zr (Zz (Zb zs)) 1:=by rw [a3,n]
  have Q:=aE List.length l;rw [Zi]at Q;refine go 1 ?_;refine cl 6 [5,2] (Zed (by rw [l];exact c7) (by rw [c];exact c1) (λ_=>by rw [l,c];have h7:=aP (show a0.2.length-g.2.length+1<=12 by omega) (show Xz (sqf 13 (Zb zs))+1<=446 by omega);omega)) λb8 a4=>?_;have h:Zb b8.2=Nd 13 (Zb zs):=by have q:=a4 (by rw [l,c];exact c9);rw [l,c]at q;exact q
  have D:=aE List.length h;rw [Zi]at D;refine go 10 ?_;refine cl 7 [6] (Zye _ _ (by rw [h];exact S) (λe=>b2 (aC (by rw [<-h,Zi];exact e))) (by rw [h];exact t.mono O)) λz a5=>?_;have d:Zb z.2=(sqf 13 (Nd 13 (Zb zs))):=by rw [a5,h]
  have R:=aE List.length d;rw [Zi]at R;refine go 7 ?_;refine cl 8 [2,7] (Zed (by rw [c];exact c1) (by rw [d];exact W) (λ_=>by rw [c,d];have h7:=aP (show g.2.length-z.2.length+1<=12 by omega) (show Xz (sqf 13 (Nd 13 (Zb zs)))+1<=446 by omega);omega)) λb9 a6=>?_;have m:Zb b9.2=Ly (sqf 13 (Zb zs)) (sqf 13 (Nd 13 (Zb zs))):=by have q:=a6 (by rw [c,d];exact b4);rw [c,d]at q;exact q
  have H:=aE List.length m;rw [Zi]at H;refine go 10 ?_;refine cl 9 [6] (Iy (by rw [h];exact t.mono O) (λ_=>by rw [h];exact b3)) λa1 a7=>?_;have i:Zb a1.2=(Nd 13 (Zb zs)):=by rw [a7,h,V]
  have M:=aE List.length i;rw [Zi]at M;refine go 1 ?_;refine cl 10 [9,7] (Zed (by rw [i];exact S.tr) (by rw [d];exact W) (λ_=>by rw [i,d];have h7:=aP (show a1.2.length-z.2.length+1<=12 by omega) (show Xz (sqf 13 (Nd 13 (Zb zs)))+1<=446 by omega);omega)) λc0 a8=>?_;have j:Zb c0.2=Aq 13 (Zb zs):=by have q:=a8 (by rw [i,d];exact b6);rw [i,d]at q;exact q.trans (by unfold Aq;rw [V])
  have P:=aE List.length j;rw [Zi]at P;refine go 11 ?_;refine cl 11 [10] (ih _ _ (by rw [j];exact Y) (by have:=Z h1;omega)) λd8 o=>?_;have F:=aE List.length o;rw [Zi,j]at F;obtain⟨q1,q2,q3⟩:=RI.size hd b0 Y (f:=f) (by have:=Z h1;omega);refine cl 12 [8,11] (Zx6 _ _ _ _ (by rw [m];exact b5.mono O) (by rw [o,j];exact q2.mono O) O) λd2 B=>go 4 ?_;exact Xj a9 _ results281 J (by rw [B,m,o,j];exact(rodd_s h1).symm) (Pq 12 Za)
theorem Zmb(xs:List Int)(g:Cvd xs)(c:xs≠[]):∀(f:Nat) (v:Value) (zs:List (Int×SL)) (d:RI xs (Zb zs)) (e:zs.length<=f),Cal prog 281 #[v] [pp v zs] true (G:=Value×List (Int×SL)) (λr=>Zb r.2=Zc9 13 f (Zb zs)) (λr=>r.1) (λr=>[pp r.1 r.2])
 | 0,v,zs,d,e=>absurd (aC (by rw [Zi];omega)) d.ne
 | f+1,v,zs,d,e=>Zu7 xs g c f (Zmb xs g c f) v zs d e
theorem r4_odd(d:Cvd (Zb zs))(f:zs.length≠0):Cal prog 281 #[v] [pp v zs] true (G:=Value×List (Int×SL)) (λr=>Zb r.2=Ir (Zb zs)) (λr=>r.1) (λr=>[pp r.1 r.2]):=by have c:Zb zs≠[]:=λe=>f (by rw [<-Zi,e];rfl);have h:=Zmb (Zb zs) d c zs.length v zs (RI.start d c) (aI _);rw [<-Zi zs,Yfb d c]at h;exact h
theorem Ycv(x y:Int):Cl x y []=0:=by unfold Cl;rw [show pev [] x y=0 from rfl];rfl
theorem Znh(h:p.length=0):Pk p=[]:=by unfold Pk;rw [h];rfl
theorem Yep(p:List Int)(x y:Int):vlu (Pk p) (x,y)=Cl x y p:=by
 by_cases h:p.length=0
 .obtain rfl:=aC h;rw [Znh h,Ycv];rfl
 .rw [Zex h];rfl
theorem Zps(a:Int)(l:List Int):Zj9 (a::l)=if a≠0 then a else Zj9 l:=by
 by_cases h:a=0
 .rw [aG (λe=>e h)];subst h;rfl
 .rw [aM h];unfold Zj9;simp [h]
theorem Zxl(h:p.length=0\/Cl x y p≠0):aft (Pk p) (x,y)=Cl x y p:=by
 by_cases c:p.length=0
 .obtain rfl:=aC c;rw [Znh c,Ycv];rfl
 .have d:=h.resolve_left c;rw [Zex c];unfold aft;rw [bP,Zps,aM d]
theorem aft_go(c:p.length≠0)(d:Cl x y p=0):aft (Pk p) (x,y)=aft (Pk (Xf p)) (x,y):=by rw [Zex c];unfold aft;rw [bP,Zps,aG (λe=>e d)]
theorem Yeo(c:Vp p)(hs:Sz k p)(d:k<=60000):Vp (Xf p):=by have e:=c.len;have h:=Gx hs O;exact⟨h.mono O,Np c.tr,by have:=Oc p;omega⟩
theorem Ydp(h:p.length≠0)(x y:Int):cnt 13 (Ir p) x y=chv (Ah p) (x,y):=by rw [Zs8 h];rfl
theorem Ynj(j:Cvd p)(h:p.length≠0)(i:0<y):Cl x y ((Ah p).getD 0 [])=0↔Cl x y (Ir p)=0:=by
 have g:p≠[]:=λe=>h (by rw [e];rfl);obtain⟨l,-⟩:=Zch j g;rw [Zs8 h];have e:(chn 13 (Ir p)).getD 0 []=sqf 13 (Ir p):=by unfold chn Nz;split<;>rfl
 rw [e];have z:=l.zero ((x:Rat)/(y:Rat));rw [Zev i _,Zev i _];constructor
 .intro c;have:=z.1 (by
    rcases Ph (Zg (sqf 13 (Ir p)) ((x:Rat)/(y:Rat)))with⟨f,d⟩|⟨f,d⟩|⟨f,d⟩
    .rw [d]at c;exact absurd c O3
    .rw [d]at c;exact absurd c O3
    .exact f)
  rw [this];decide
 .intro c;have:=z.2 (by
    rcases Ph (Zg (Ir p) ((x:Rat)/(y:Rat)))with⟨f,d⟩|⟨f,d⟩|⟨f,d⟩
    .rw [d]at c;exact absurd c O3
    .rw [d]at c;exact absurd c O3
    .exact f)
  rw [this];decide
theorem Ydu(h:p.length≠0):(Ah p).length≠0:=by rw [Zs8 h];unfold chn Nz;split<;>simp
theorem Ysb(h:p.length=0)(a b:R2):crb (Ah p) a b=false:=by unfold Ah;rw [aM h];rfl
theorem crx_t(e:Cvd p)(h:p.length≠0){d c:Int}(f:0<c)(g:Cl d c (Ir p)=0):crb (Ah p) (x,y) (d,c)=decide (0<chv (Ah p) (x,y)-chv (Ah p) (d,c)-1):=by unfold crb;rw [aG (Ydu h),aM ((Ynj e h f).2 g)]
theorem crx_f(f:Cvd p)(h:p.length≠0){d c:Int}(g:0<c)(i:¬Cl d c (Ir p)=0):crb (Ah p) (x,y) (d,c)=decide (0<chv (Ah p) (x,y)-chv (Ah p) (d,c)):=by unfold crb;rw [aG (Ydu h),aG (λe=>i ((Ynj f h g).1 e)),fT]
theorem Ycw(e:0<a.2):Cl a.1 a.2 p<0↔Zg p (qv a)<0:=by
 rw [show Cl a.1 a.2 p=Ep (Zg p (qv a))from Zev e p];rcases Ph (Zg p (qv a))with⟨d,c⟩|⟨d,c⟩|⟨d,c⟩
 .rw [c];constructor
  .intro h;exact absurd h O3
  .intro h;grind
 .rw [c];exact⟨λ_=>d,λ_=>O3⟩
 .rw [c,d];constructor
  .intro h;exact absurd h O3
  .intro h;exact absurd h O3
theorem Yb3(f:Cvd p)(d:0<a.2)(e:0<b.2)(g:¬0<cmp a b)(h:Cl a.1 a.2 p<0):ngb (Pk p) (Ah p) a b=true:=by have c:=(Zs2 d e).1 O;exact(Zg5 f d e c).2 ⟨qv a,jP,c,(Ycw d).1 h⟩
theorem Yb2(f:Cvd p)(e:0<a.2)(d:0<b.2)(g:¬0<cmp a b)(h:Cl b.1 b.2 p<0):ngb (Pk p) (Ah p) a b=true:=by have c:=(Zs2 e d).1 O;exact(Zg5 f e d c).2 ⟨qv b,c,jP,(Ycw d).1 h⟩
theorem Yb1(c:¬cmp a b=0)(h:aft (Pk p) a<0):ngb (Pk p) (Ah p) a b=true:=by unfold ngb;rw [aG c,aJ h];rfl
theorem Yb0(c:¬cmp a b=0)(h:¬aft (Pk p) a<0):ngb (Pk p) (Ah p) a b=crb (Ah p) a b:=by unfold ngb;rw [aG c,aF h];rfl
theorem ngb_e(c:cmp a b=0):ngb (Pk p) (Ah p) a b=decide (Cl a.1 a.2 p<0):=by unfold ngb;rw [aM c,show vlu (Pk p) a=Cl a.1 a.2 p from Yep p a.1 a.2]
theorem Av(x y:Int)(d:bl x.natAbs<=1000000)(e:bl y.natAbs<=1000000)(hs:Sz 1000000 (Zb zs))(h:zs.length<=30:=by omega):Qa prog 254 #[v,.agg #[.bool (decide (x<0)),w,.bool (decide (y<0)),u]] [pp v zs,Oz w x.natAbs,Oz u y.natAbs] (.int .i64 (Cl x y (Zb zs))):=by refine Zh func254 ntmps254 λl j i c=>?_;have f:=Zi zs;refine go 2 ?_;refine Yg (Yp 4) λg _=>go 7 ?_;refine cl 5 [1,2,3] (Ya8 x y hs d e) λv _=>cl 5 [5] (Au (by have:=ev_b hs O d e;omega)) λ_ _=>go 4 ?_;exact Xj c () results254 J aA Za
theorem Zog(x y:Int)(o:bl x.natAbs<=1000000)(q:bl y.natAbs<=1000000)(n:Nat)(F:∀(v w u:Value) (zs:List (Int×SL)) (k:Nat) (d:Vp (Zb zs)) (h:Sz k (Zb zs)) (j:k+5*zs.length<=260) (t:zs.length<n),Cal prog 255 #[v,.agg #[.bool (decide (x<0)),w,.bool (decide (y<0)),u]] [pp v zs,Oz w x.natAbs,Oz u y.natAbs] false (G:=Unit) (λ_=>True) (λ_=> .int .i64 (aft (Pk (Zb zs)) (x,y))) (λ_=>[]))(v w u:Value)(zs:List (Int×SL))(k:Nat)(d:Vp (Zb zs))(h:Sz k (Zb zs))(j:k+5*zs.length<=260)(t:zs.length<n+1):Cal prog 255 #[v,.agg #[.bool (decide (x<0)),w,.bool (decide (y<0)),u]] [pp v zs,Oz w x.natAbs,Oz u y.natAbs] false (G:=Unit) (λ_=>True) (λ_=> .int .i64 (aft (Pk (Zb zs)) (x,y))) (λ_=>[]):=by
 refine Zh func255 ntmps255 λN M I c=>?_;have D:=Zi zs;have s:=d.len;have B:=Oc (Zb zs);have m:=Yeo d h O;have i:=Gx h O;refine go 2 ?_;refine Yg (Yp 4) λH _=>go 10 ?_;refine Xd 8 J (λr=>?_) (λr=>?_)
 .refine go 12 ?_;refine cl 4 [1,2,3] (Av x y o q (d.sz.mono O)) λ_ _=>go 5 ?_;exact Xj c () results255 (by rw [Zxl (by first|(left;omega)|(right;assumption))]) aA Za
 .refine go 2 ?_;refine Dm 4 [1,2,3] (Av x y o q (d.sz.mono O)) λ_ _=>go 4 ?_;refine Ze J (λf=>?_) (λf=>?_)
  .refine go 4 ?_;refine cl 4 [1,2,3] (Av x y o q (d.sz.mono O)) λ_ _=>go 5 ?_;exact Xj c () results255 (by rw [Zxl (by first|(left;omega)|(right;assumption))]) aA Za
  .refine go 3 ?_;refine Kr (λ_=>False) [4]<|Zj 2 [(0,0),(2,0),(1,1)]<|go 2 ?_;refine Yv (Zm 5 [1] (Zim (d.sz.mono O))) λg z=>go 1 ?_;have e:Zb g.2=Xf (Zb zs):=z;have l:=aE List.length e;rw [Zi]at l;refine Zj 0 [(3,1),(4,3)]<|Yv (Zm 5 [5,2,3] (F _ _ _ _ (k+5) (by rw [e];exact m) (by rw [e];exact i) O O)) λ_ _=>go 2 ?_;refine Zt<|go 2 ?_;exact Xj c () results255 (by rw [aft_go (p:=Zb zs) O (bR ‹_›),<-e]) aA Za
def Zu9(x y:Int)(g:bl x.natAbs<=1000000)(h:bl y.natAbs<=1000000):∀(n:Nat) (v w u:Value) (zs:List (Int×SL)) (k:Nat) (f:Vp (Zb zs)) (e:Sz k (Zb zs)) (c:k+5*zs.length<=260) (d:zs.length<n),Cal prog 255 #[v,.agg #[.bool (decide (x<0)),w,.bool (decide (y<0)),u]] [pp v zs,Oz w x.natAbs,Oz u y.natAbs] false (G:=Unit) (λ_=>True) (λ_=> .int .i64 (aft (Pk (Zb zs)) (x,y))) (λ_=>[])
 | 0,v,w,u,zs,k,f,e,c,d=>absurd d (bN _)
 | n+1,v,w,u,zs,k,f,e,c,d=>Zog x y g h n (Zu9 x y g h n) v w u zs k f e c d
theorem Zyd(x y h f:Int)(M:bl x.natAbs<=1000000)(N:bl y.natAbs<=1000000)(o:bl h.natAbs<=1000000)(q:bl f.natAbs<=1000000)(i:0<f)(m:Cvd (Zb zs)):Qa prog 256 #[v,.agg #[.bool (decide (x<0)),w,.bool (decide (y<0)),u],.agg #[.bool (decide (h<0)),w2,.bool (decide (f<0)),u2]] [pp v zs,Oz w x.natAbs,Oz u y.natAbs,Oz w2 h.natAbs,Oz u2 f.natAbs] (.bool (crb (Ah (Zb zs)) (x,y) (h,f))):=by
 refine Zh func256 ntmps256 λY W S n=>?_;have F:=Zi zs;have B:=m.l;have G:=Ydv (Ah (Zb zs)) (x,y);have H:=Ydv (Ah (Zb zs)) (h,f);have I:=Zk7 (Zb zs);refine go 2 ?_;refine Yg (Yp 6) λR _=>Yg (Yp 7) λt _=>go 11 ?_;refine Ze J (λr=>?_) (λr=>?_)
 .refine go 7 ?_;exact Xj n () results256 (by rw [Ysb O]) aA Za
 .have c:(Zb zs).length≠0:=O;obtain⟨P,z,Q,V,-⟩:=Zch m (λe=>c (by rw [e];rfl));refine go 5 ?_;refine cl 8 [1] (r4_odd m O) λg D=>?_;have j:Zb g.2=Ir (Zb zs):=D;have s:=aE List.length j;rw [Zi]at s;refine go 8 ?_;refine cl 8 [8,2,3,4,5] (Yjg x y h f (by rw [j];exact z) (λe=>P.one (aC (by rw [<-j,Zi];exact e))) (by rw [j];exact Q.mono O) O M N o q) λ_ _=>go 5 ?_;refine Zf (Kf 8 (v':= .int .i64 ((chv (Ah (Zb zs)) (x,y))-(chv (Ah (Zb zs)) (h,f)))) J (by rw [j,Ydp c,Ydp c]))<|go 3 ?_;refine cl 8 [8,4,5] (Av h f o q (by rw [j];exact z.sz.mono O)) λ_ _=>go 3 ?_;refine Ze J (λl=>?_) (λl=>?_)
  .have d:Cl h f (Ir (Zb zs))=0:=by rw [<-j];exact l
   refine go 14 ⟨O,?_⟩;exact Xj n () results256 (by first|rw [crx_t m c i d]|rw [crx_f m c i d]) aA Za
  .have d:¬Cl h f (Ir (Zb zs))=0:=by rw [<-j];exact l
   refine go 10 ?_;exact Xj n () results256 (by first|rw [crx_t m c i d]|rw [crx_f m c i d]) aA Za
theorem Zu8(x y e d:Int)(q:bl x.natAbs<=1000000)(r:bl y.natAbs<=1000000)(n:bl e.natAbs<=1000000)(o:bl d.natAbs<=1000000)(i:0<y)(c:0<d)(f:Cvd (Zb zs))(h:¬0<cmp (x,y) (e,d)):Qa prog 206 #[v,.agg #[.bool (decide (x<0)),w,.bool (decide (y<0)),u],.agg #[.bool (decide (e<0)),w2,.bool (decide (d<0)),u2]] [pp v zs,Oz w x.natAbs,Oz u y.natAbs,Oz w2 e.natAbs,Oz u2 d.natAbs] (.bool (ngb (Pk (Zb zs)) (Ah (Zb zs)) (x,y) (e,d))):=by
 refine Zh func206 ntmps206 λI H G g=>?_;have D:=Zi zs;have B:=f.l;have j:Sz 1000000 (Zb zs):=f.v.sz.mono O;refine go 2 ?_;refine Yg (Yp 6) λF _=>Yg (Yp 7) λz _=>go 8 ?_;refine cl 7 [2,3,4,5] (Zyc x y e d O O O O) λ_ _=>go 3 ?_;refine Ze J (λs=>?_) (λs=>?_)
 .refine go 4 ?_;refine cl 7 [1,2,3] (Av x y q r j) λ_ _=>go 6 ?_;exact Xj g () results206 (by rw [ngb_e (show cmp (x,y) (e,d)=0 by assumption)]) aA Za
 .refine go 6 ?_;refine cl 7 [1,2,3] (Av x y q r j) λ_ _=>go 2 ?_;refine Xd 19 J (λt=>?_) (λt=>?_)
  .refine go 21 ?_;exact Xj g () results206 (by first|rw [Yb3 f i c h ‹_›]|rw [Yb2 f i c h ‹_›]|rw [Yb1 (show ¬cmp (x,y) (e,d)=0 by assumption) ‹_›]|rw [Yb0 (show ¬cmp (x,y) (e,d)=0 by assumption) ‹_›]) aA Za
  .refine go 2 ?_;refine Dm 7 [1,4,5] (Av e d n o j) λ_ _=>go 3 ?_;refine Xd 25 J (λl=>?_) (λl=>?_)
   .refine go 15 ?_;exact Xj g () results206 (by first|rw [Yb3 f i c h ‹_›]|rw [Yb2 f i c h ‹_›]|rw [Yb1 (show ¬cmp (x,y) (e,d)=0 by assumption) ‹_›]|rw [Yb0 (show ¬cmp (x,y) (e,d)=0 by assumption) ‹_›]) aA Za
   .refine go 2 ?_;refine Dm 7 [1,2,3] (Zu9 x y q r _ _ _ _ _ 205 f.v f.s O (iY _)) λ_ _=>go 3 ?_;refine Xd 31 J (λm=>?_) (λm=>?_)
    .refine go 9 ?_;exact Xj g () results206 (by first|rw [Yb3 f i c h ‹_›]|rw [Yb2 f i c h ‹_›]|rw [Yb1 (show ¬cmp (x,y) (e,d)=0 by assumption) ‹_›]|rw [Yb0 (show ¬cmp (x,y) (e,d)=0 by assumption) ‹_›]) aA Za
    .refine go 3 ?_;refine Dm 7 [1,2,3,4,5] (Zyd x y e d q r n o c f) λ_ _=>go 5 ?_;exact Xj g () results206 (by first|rw [Yb3 f i c h ‹_›]|rw [Yb2 f i c h ‹_›]|rw [Yb1 (show ¬cmp (x,y) (e,d)=0 by assumption) ‹_›]|rw [Yb0 (show ¬cmp (x,y) (e,d)=0 by assumption) ‹_›]) aA Za
theorem Yjj{zs ys:List GpT}(g:zs.map Bc=ys.map Bc):Qa prog 31 #[v,u] [Xv 3 Gs qGp v zs,Xv 3 Gs qGp u ys] (.bool true):=by
 refine Zh func31 ntmps31 λn m j e=>?_;refine Qi (Od (i:=1) J Zc) (λf=>?_);obtain⟨l,c⟩:=gp_eq g;refine go 12 ?_;refine kf (aF O)<|go 12 ?_;refine lp (G:=Nat) [0,1] [0,1,2] (λi=>[(5,.int .i64 (i:Int))]) (λi=>[]) (λi=>i<=zs.length) (λi=>zs.length-i) 0 O1 K1 aA ?_;rintro i hi;refine go 9 ?_;refine Ze J (λd=>?_) (λd=>?_)
 .refine go 5 ?_;refine Zf (Oa 1 55 (zs.getD i Gp0) J J (Zd O) J)<|Zf (Oa 2 56 (ys.getD i Gp0) J J (Zd O) J)<|Qd (λ_=>False) [(0,0),(1,0),(2,0),(3,0),(4,0),(5,0),(6,0),(7,0),(8,0),(9,0),(10,0),(11,0),(12,0),(13,0),(14,0),(15,0),(16,0),(17,0),(18,0),(19,0),(20,0),(21,0),(22,0),(23,0),(24,0),(25,0),(26,0),(27,0),(28,0),(29,0),(30,0),(31,0),(32,0),(33,0),(34,0),(35,1),(36,0),(37,0)]<|go 2 ?_;refine Xh J J (Xm (Zv 1 i J J J J Zc Zfl sizeOf130 J))<|Xh J J (Xm (Ml 1 J J J Zc Zgf J Ki J))<|Xh J J (Xm (Lh 1 Gp0 J J J Zc iA3 J))<|go 2 ?_;refine Xh J J (Xm (Zv 2 i J J J J Zc Zfl sizeOf130 J))<|Xh J J (Xm (Ml 2 J J J Zc Zgf J Ki J))<|Xh J J (Xm (Lh 2 Gp0 J J J Zc iA3 J))<|Xh J J (Xm (dF (Znj J J J) (vB (aF (λh=>h (c i).1)))))<|go 3 ?_;refine Ej (Xm (Zv 1 i J J J J Zc Zfl sizeOf130 J)) J J J J J<|Ej (Xm (Ml 1 J J J Zc Zgf J Ki J)) J J J J J<|Ej (Xm (Lh 1 Gp0 J J J Zc iA3 J)) J J J J J<|go 2 ?_;refine Ej (Xm (Zv 2 i J J J J Zc Zfl sizeOf130 J)) J J J J J<|Ej (Xm (Ml 2 J J J Zc Zgf J Ki J)) J J J J J<|Ej (Xm (Lh 2 Gp0 J J J Zc iA3 J)) J J J J J<|Ej (Xm (dF (Znj J J J) (vB (aF (λh=>h (c i).2.1))))) J J J J J<|go 4 ?_;refine Ej (Xm (Zv 1 i J J J J Zc Zfl sizeOf130 J)) J J J J J<|Ej (Xm (Ml 1 J J J Zc Zgf J sizeOf40 J)) J J J J J<|Ej (Xm (Lh 1 Gp0 J J J Zc isAgg40 J)) J J J J J<|go 2 ?_;refine Ej (Xm (Zv 2 i J J J J Zc Zfl sizeOf130 J)) J J J J J<|Ej (Xm (Ml 2 J J J Zc Zgf J sizeOf40 J)) J J J J J<|Ej (Xm (Lh 2 Gp0 J J J Zc isAgg40 J)) J J J J J<|Zfu J J J J J (Xa 2 Zpc J J J K2 call23 (Zk 55 J J J (Zk 56 J J J Zn)) J j.h) (λ_ _=>?_);refine Ej (Xm (dF (Ymv J J) (vB (aF (λh=>h (c i).2.2))))) J J J J J<|go 12 ⟨O,?_⟩;exact Yf (i+1) O1 O1 K1 aA
 .refine go 11 ?_;exact Xj e () results31 J aA Za
theorem Yji:Cal prog 207 #[] [] true (G:=Value×Value) (λr=>True) (λr=> .agg #[.bool (decide ((0:Int)<0)),r.1,.bool (decide ((1:Int)<0)),r.2]) (λr=>[Oz r.1 ((0:Int)).natAbs,Oz r.2 ((1:Int)).natAbs]):=by refine Zh func207 ntmps207 λh g f c=>go 2 ?_;refine Yg (Zy 1) λe _=>go 4 ?_;refine cl 2 [] (Ps 0 ⟨O3,O3⟩) λv _=>cl 3 [] (Ps 1 ⟨O3,O3⟩) λd _=>?_;refine dt (Qf [(0,_),(1,_)] J K4 (λa w hs=>Yny))<|go 4 ?_;exact Xj c (_,_) results207 J aA (Pq 2 (Pq 3 Za))
theorem Yqa:Cal prog 208 #[] [] true (G:=Value×Value) (λr=>True) (λr=> .agg #[.bool (decide ((1:Int)<0)),r.1,.bool (decide ((1:Int)<0)),r.2]) (λr=>[Oz r.1 ((1:Int)).natAbs,Oz r.2 ((1:Int)).natAbs]):=by refine Zh func208 ntmps208 λh g f c=>go 2 ?_;refine Yg (Zy 1) λe _=>go 4 ?_;refine cl 2 [] (Ps 1 ⟨O3,O3⟩) λv _=>cl 3 [] (Ps 1 ⟨O3,O3⟩) λd _=>?_;refine dt (Qf [(0,_),(1,_)] J K4 (λa w hs=>Yny))<|go 4 ?_;exact Xj c (_,_) results208 J aA (Pq 2 (Pq 3 Za))
theorem Yfe(e:Cvd (Zb zs)):Qa prog 157 #[v] [pp v zs] (.bool (Ky (Zb zs))):=by refine Zh func157 ntmps157 λi h f c=>go 8 ?_;refine cl 2 [] Yji λg _=>cl 4 [] Yqa λd _=>cl 5 [1,2,3,4,5] (Zu8 0 1 1 1 O3 O3 O3 O3 O3 O3 e Zhu) λ_ _=>go 4 ?_;exact Xj c () results157 J aA Za
theorem Yqb{zs:List GpT}(d:∀k,k<zs.length->Cvd (zs.getD k Gp0).2.2):Qa prog 88 #[v] [Xv 3 Gs qGp v zs] (.int .i64 (bdI (zs.map Bc))):=by
 refine Zh func88 ntmps88 λs r q f=>?_;refine Qi (Od (i:=1) J Zc) λo=>go 12 ?_;refine lp (G:=Nat) [0] [0,1] (λi=>[(3,.int .i64 (i:Int))]) (λi=>[]) (λi=>(i<=zs.length)/\(∀k,k<i->Ky (zs.getD k Gp0).2.2=false)) (λi=>zs.length-i) 0 ⟨O1,λk m=>absurd m (bN k)⟩ K1 aA ?_;rintro i ⟨hi,n⟩;refine go 9 ?_;refine Ze J (λh=>?_) (λh=>?_)
 .refine go 5 ?_;refine Zf (Oa 1 55 (zs.getD i Gp0) J J (Zd O) J)<|go 3 ?_;refine dt (Zv 1 i J J J J Zc Zfl sizeOf130 J)<|dt (Ml 1 J J J Zc Zgf J sizeOf40 J)<|dt (Lh 1 Gp0 J J J Zc isAgg40 J)<|cl 2 [55] (Ypy ((d i O).v.sz.mono O3) (aB (d i O).v.len O3)) λg l=>cl 2 [2] (Yfe (by rw [l];exact d i O)) λ_ _=>go 2 ?_;refine Nu J (λc=>?_) (λc=>?_)
  .have e:Ky (zs.getD i Gp0).2.2=true:=by rw [<-l];exact c
   refine go 12 ?_;exact Xj f () results88 (by rw [bd_at O n e]) aA Za
  .have e:Ky (zs.getD i Gp0).2.2=false:=by rw [<-l];exact c
   refine go 8 ⟨O,?_⟩;exact Yf (i+1) ⟨O1,λk m=>by rcases aZ.1 m with j|j;exact n k j;subst j;exact e⟩ O1 K1 aA
 .obtain rfl:i=zs.length:=O;refine go 11 ?_;exact Xj f () results88 (by rw [bd_no n]) aA Za
def pPq:Enc Tryz.prog 38 1 Ft:=Enc.flat Tryz.sizeOf38 Tryz.isAgg38 (λ_=>rfl)
@[reducible,instance] def encPqI:EncT Tryz.prog 38 1 Ft:=⟨pPq⟩
def shCl:Tryz.prog.stoodInHeld 64=false:=O6
def Zok:Tryz.prog.eqGuardType Tryz.prog.depth 64=false:=O6
theorem inCl(m:Nat)(w:World)(a b c d:Int):(Op.equalIn (m+2) 64 (.agg #[.int .i64 a,.int .i64 b,.int .i64 c,.int .i64 d]) (.agg #[.int .i64 a,.int .i64 b,.int .i64 c,.int .i64 d])).run Tryz.prog w= .ok true w:=by
 have e:Tryz.prog.underlying 64=some (.struct (Tryz.prog.fieldsOf 64)):=by unfold Program.fieldsOf;rw [Tryz.underlying64]
 rw [run_equalIn_agg w (m+1) 64 _ _ e shCl];unfold Program.fieldsOf;rw [Tryz.underlying64];simp [Op.eqFields,part,Tryz.isAgg3,run_equalIn_int _ _ _ _ _ _ _ Tryz.underlying3]
theorem Ygi(w:World){a b c d:Int}:(binOp .eql 64 (.agg #[.int .i64 a,.int .i64 b,.int .i64 c,.int .i64 d]) (.agg #[.int .i64 a,.int .i64 b,.int .i64 c,.int .i64 d])).run Tryz.prog w= .ok (.bool true) w:=by rw [run_eql_struct,inCl];rfl
open Go.RowKit Below
variable {P:Program} {N:Nat} {sc:Nat->Prop} {env env':Pu} {H H':Hp} {Q Q':Exit->Act->World->Prop} {M:Nat->Prop}
theorem Yfn(h:u.oneCell'=true):u.cells=#[u]:=by cases u<;>simp_all [Value.cells,Value.oneCell']
theorem Zxe{α:Type}{enc:α->Value}{q j:Nat}(z d:α)(e:∀x,(enc x).cells.size=k)(xs:List α)(c:j<xs.length)(m:q<k)(n:(enc z).cells.toList=(enc (xs.getD j d)).cells.toList.set q u) :
  cellsOf enc (xs.set j z)=(cellsOf enc xs).set (j*k+q) u:=by
 have g:=Bb e xs j (xs.getD j d) c;have hs:xs.set j (xs.getD j d)=xs:=by rw [aK,aN c,eV];exact List.set_getElem_self ..
 rw [hs]at g;have l:(cellsOf enc xs).length=xs.length*k:=Xk e xs;have i:j*k+k<=xs.length*k:=by rw [<-cY];exact aL k c
 have f:((cellsOf enc xs).take (j*k)).length=j*k:=by rw [cD,l];omega
 have h:(enc (xs.getD j d)).cells.toList.length=k:=by rw [eR,e]
 rw [Bb e xs j z c,n]
 conv=>rhs;rw [g]
 rw [eJ,eJ,jZ _ _ (by rw [f];omega),f,Nat.add_sub_cancel_left,List.set_append_left _ _ (by rw [h];exact m)]
theorem t_stf (i:Nat) {α:Type} {o:Oper} {x y:Operand} {t ts e:TypeId} {j q:Nat}  {enc:α->Value} {xs:List α} (z R:α) {w0:World}  (ho:o.op= .store t x y) (hd:o.dst=none)
  (hx:ev env x=some (.pointer (some (eaf v j k q)))) (hy:ev env y=some u) (S:lk H i=some (Of k e enc v xs)) (D:i≠0) (V:Enc P ts k enc) (m:j<xs.length)
  (F:∀w,(sizeOf t).run P w= .ok 1 w) (Y:u.oneCell'=true) (hq:q<k) (hz:(enc z).cells.toList=(enc (xs.getD j R)).cells.toList.set q u)
  (h0:lk H 0=some (Yx w0 M0)) (hw:∀b,w0.heap.size<=b->sc b) :
  T P N sc (λ_=>True) o env H (G:=Unit) (λ_=>True) (λ_=>env) (λ_=>(i,Of k e enc v (xs.set j z))::H):=λa w hs K Q hK=>by
 have r:w.ownsRow 0 e k v xs.length (cellsOf enc xs):=hs.hold i _ S;rcases r.2 with⟨rfl,hn⟩|⟨g,d,c,rfl,hb,W,n,B,h,f⟩
 .omega
 .have a1:j*k+k<=xs.length*k:=by rw [<-cY];exact aL k m
  have a0:xs.length*k<=d*k:=aL k n;have s:=run_storeCells_at P g (j*k+q) e [u] 0 c w W (by rw [h,kB];omega) (λu' I=>by rw [bI.1 I];exact Y);simp only [eP,kB]at s;have hr:(execOp a.eval o).run P w= .ok .skip (w.setRow g (c.toList.take (j*k+q) ++ [u] ++ c.toList.drop (j*k+q+1)).toArray):=by simp [execOp,ho,hs.ev hx,hs.ev hy,Instr.storeAt,Instr.sureAddr,storeVar,Yfn Y,F,ead,eaf,Ol,s]
  unfold Oper.wp;rw [hr];show K (a.put o.dst _) _;rw [hd];have l:c.toList.length=d*k:=by rw [eR,h]
  refine hK () _ _ aA ((hs.upd S rfl D (q:=Of k e enc (.slice (some ⟨g,0,none⟩) xs.length d) (xs.set j z)) (Ku (M:=λk=>(Value.slice (some ⟨g,0,none⟩) xs.length d).ownBlock=some k) rfl) ?_ (λk F=> .inl F) h0 hw).put_none undef) (Ku aA);refine⟨by rw [Xk V.cells],.inr ⟨g,d,_,O5,hb,setRow_heap w g c _ e _ W,by simpa using n,B,?_,?_⟩⟩
  .simp only [lC,bL,cD,gQ,kB,l];omega
  .rw [Zxe z R V.cells xs m hq hz,<-f];simp only [bM];have Z:c.toList.take (j*k+q) ++ [u] ++ c.toList.drop (j*k+q+1)=c.toList.set (j*k+q) u:=by rw [fZ,aM O,eJ,List.singleton_append]
   rw [Z,List.take_set]
end Go.Sky
namespace Go.Sky
variable{p q x y z x2 y2 z2:List Int}{a b:List Zl}{D ov ov2:Int}{zs:List GpT}{t:TypeId}{kd:IntKind}
theorem Aw(h:Tr p):Zr p 1=p:=by
 unfold Zr;have:p.map (· * (1:Int))=p:=by rw [show(λx:Int=>x*1)=id from nS λx=>gK x,nO]
 rw [this,Al h]
def dk_one{a b:Int} : dfK p q a b 1=dfP p q a b:=Aw (Qj _)
theorem Ypc{a b:Int} : sqK p q a b 1=sqP p q a b:=by unfold sqK sqP;rw [dk_one]
theorem ng_one(D ov ov2:Int):ngC [D,1,ov,ov2] 4=ngC [D,ov,ov2] 3:=by
 have c:ngC [D,1,ov,ov2] 1=ngC [D,ov,ov2] 1:=rfl;have t1:Tr (ngC [D,ov,ov2] 1):=(Zrq _ 1).2.2;have d:ngC [D,1,ov,ov2] 2=ngC [D,ov,ov2] 1:=by show Zr (Zr (ngC [D,1,ov,ov2] 1) 1) 1=_;rw [c,Aw t1,Aw t1]
 have e:ngC [D,1,ov,ov2] 3=ngC [D,ov,ov2] 2:=by show Zr (Zr (ngC [D,1,ov,ov2] 2) ov) ov=Zr (Zr (ngC [D,ov,ov2] 1) ov) ov;rw [d]
 show Zr (Zr (ngC [D,1,ov,ov2] 3) ov2) ov2=Zr (Zr (ngC [D,ov,ov2] 2) ov2) ov2;rw [e]
def fqS(ov ov2:Int)(x y z x2 y2 z2:List Int)(i:Nat):List Int:=sqP (Zu i x y z) (Zu i x2 y2 z2) ov ov2
def smS(D ov ov2:Int)(x y z x2 y2 z2:List Int)(i:Nat):List Int:=smP (ngC [D,ov,ov2] 3) (fqS ov ov2 x y z x2 y2 z2) i
def Yio(i:Nat):Zu i (1:Int) 1 1=1:=Cu (p:=λk:Int=>k=1) rfl rfl rfl
theorem fsZ(D ov ov2:Int)(x y z x2 y2 z2:List Int):fmZ D 1 1 ov ov2 x y z x2 y2 z2=Zz (smS D ov ov2 x y z x2 y2 z2 3):=by
 have c:fqZ 1 1 ov ov2 x y z x2 y2 z2=fqS ov ov2 x y z x2 y2 z2:=nS λi=>by unfold fqZ fqS;rw [Yio,Ypc]
 unfold fmZ smZ smS cnZ;rw [c,ng_one]
def dsB(D:Int):Bool:=decide (0<=D) && decide (D<=4194304)
theorem ds_b(h:dsB D=true):0<=D/\D<=4194304:=by unfold dsB at h;rw [aR,dA,dA]at h;exact h
structure FsX (D ov ov2:Int) (x y z x2 y2 z2:List Int):Prop where
 X:∀i,FmX (Zu i x y z) (Zu i x2 y2 z2) ov ov2 1
 N:∀i,i<=3->NgX [D,ov,ov2] i
 Q:SmX (ngC [D,ov,ov2] 3) (fqS ov ov2 x y z x2 y2 z2)
theorem fsX{fr w d h:Int}(f:Sgo fr w ov x y z)(c:Sgo d h ov2 x2 y2 z2)(m:∀i,Ab KA (tzl (Zu i x y z)))(e:∀i,Ab KA (tzl (Zu i x2 y2 z2)))(o:dsB D=true):FsX D ov ov2 x y z x2 y2 z2:=by
 obtain⟨F,B⟩:=ds_b o;have r:=f.o1;have s:=f.o2;have u:=c.o1;have v:=c.o2;have g:∀i,FmX (Zu i x y z) (Zu i x2 y2 z2) ov ov2 1:=λi=>fmX (m i) (e i) (f.lc i).2 (c.lc i).2 ⟨r,s⟩ ⟨u,v⟩ ⟨O3,O3⟩;have n:∀i,([D,ov,ov2].getD i 0).natAbs<=4294967296:=λi=>by
  match i with
  | 0=>show D.natAbs<=_;omega
  | 1=>show ov.natAbs<=_;omega
  | 2=>show ov2.natAbs<=_;omega
  | i+3=>show(0:Int).natAbs<=_;decide
 refine⟨g,λi hi=>ngX n (aB hi O3),?_⟩;obtain⟨j,k,l⟩:=Zrq [D,ov,ov2] 3;refine smX (j.mono ?_) k l (λi=>(g i).ab8) (λi=>(g i).l8);show 1*D.natAbs*D.natAbs*ov.natAbs*ov.natAbs*ov2.natAbs*ov2.natAbs<=2^190;refine aB (aP (aP (aP (aP (aP (aP (aI 1) (show D.natAbs<=4194304 by omega)) (show D.natAbs<=4194304 by omega)) (show ov.natAbs<=4294967296 by omega)) (show ov.natAbs<=4294967296 by omega)) (show ov2.natAbs<=4294967296 by omega)) (show ov2.natAbs<=4294967296 by omega)) O7
theorem Ycq(h:FsX D ov ov2 x y z x2 y2 z2):Cvd (fmZ D 1 1 ov ov2 x y z x2 y2 z2):=by rw [fsZ];exact h.Q.d
theorem Ym1(i:∀g∈a,Gin g)(j:∀g∈b,Gin g)(c:Xy a=true)(d:Xy b=true)(I:dsB D=true){xs ys:List Zl}(o:xs.map Gr=Lu a b a)(s:ys.map Gr=Lu a b b):∀g∈Nl D 1 1 a b,Cvd g.2.2:=λg n=>by
 unfold Nl at n;obtain⟨k,F,e⟩:=cW.1 n;rw [List.getElem_zipWith]at e;subst e;rw [List.length_zipWith]at F;have f:k<(Lu a b a).length:=O;have h:k<(Lu a b b).length:=O;have M:(Lu a b a)[k]∈xs.map Gr:=by rw [o];exact iX f
 have N:(Lu a b b)[k]∈ys.map Gr:=by rw [s];exact iX h
 obtain⟨q,G,w⟩:=eH.1 M;obtain⟨r,H,B⟩:=eH.1 N;obtain⟨u,l⟩:=Zi7 i c o q G;obtain⟨v,m⟩:=Zi7 j d s r H;rw [<-w,<-B];simp only [gpZ,Gr];exact Ycq (fsX (Mx u l) (Mx v m) (Za4 l) (Za4 m) I)
theorem Ym2(e:∀g∈a,Gin g)(f:∀g∈b,Gin g)(c:Xy a=true)(d:Xy b=true)(l:dsB D=true)(h:zs.map Bc=Nl D 1 1 a b){k:Nat}(i:k<zs.length):Cvd (zs.getD k Gp0).2.2:=by
 have j:Bc (zs.getD k Gp0)∈Nl D 1 1 a b:=by rw [<-h];exact eH.2 ⟨_,Zd i,rfl⟩
 exact Ym1 e f c d l (Yaf (Lu a b a)) (Yaf (Lu a b b)) _ j
section
variable {P:Program} {N:Nat} {sc:Nat->Prop} {env:Pu} {H:Hp}
theorem d_ix3i {o:Oper} {x y:Operand} {e:TypeId} {i:Nat}  {m d f g:Int} (n:o.op= .index t x y) (s:ev env x=some (.agg #[.int .i64 d,.int .i64 f,.int .i64 g])) (u:ev env y=some (.int kd m))
  (r:P.underlying t=some (.array 3 e)) (k:∀w,(sizeOf e).run P w= .ok 1 w) (j:∀w,(isAgg e).run P w= .ok false w) (c:m=(i:Int)) (l:i<3):Li P N sc o env H (.int .i64 ([d,f,g].getD i 0)):=λa w hs=>by
 subst c;have h:i=0\/i=1\/i=2:=O;rcases h with rfl|rfl|rfl<;>simp [execOp,n,hs.ev s,hs.ev u,Instr.index,asIntOf,run_underlying r,k,j,asAgg,part]
end
theorem df_sel{X Y Z:List Int}(i:Nat)(c:X=dfP x x2 ov ov2)(d:Y=dfP y y2 ov ov2)(e:Z=dfP z z2 ov ov2):Zu i X Y Z=dfP (Zu i x y z) (Zu i x2 y2 z2) ov ov2:=by subst c d e;unfold Zu;split<;>rfl
end Go.Sky
namespace Go.Sky
open Go.RowKit Below
variable{ops:Array Oper}{o:Oper}{rest:List Oper}{d i:Nat}{x:Operand}{ops':List Operand}{tys:Array TypeId}{w0:World}{M:Nat->Prop}{Jx:World->Prop}{pre:List Pc}
variable {P:Program} {N:Nat} {sc:Nat->Prop} {env env':Pu} {H H':Hp} {Q Q':Exit->Act->World->Prop}
def fctP(p:Prop):Pc:={ own:=false,fp:=λ_=>False,holds:=λ_=>p,lt:=λ_ _ _ h=>h.elim,stable:=λ_ _ h _=>h }
theorem wtd{j e:Nat}{b:Bool}(h:o.guard=some (j,b))(k:(ops[j]?).bind (·.dst)=some e)(g:lk env e=some (.bool b))(c:Nat.blt e N=true):∀a w,Sat N sc env H a w->Region.wanted o (yielded ops a.tmps)=true:=λa w hs=>by have f:=hs.yielded k g c;simp [Region.wanted,h,f]
theorem Le{v:Value}(f:Li P N sc o env H v)(e:∀a w,Sat N sc env H a w->Region.wanted o (yielded ops a.tmps)=true)(c:o.dst=some d)(b:Nat.blt d N=true)(h:LI P N sc ops rest Q ((d,v)::env) H):LI P N sc ops (o::rest) Q env H:=λa w hs=>by unfold wpListIn;rw [aM (e a w hs)];refine⟨λ_ _=>trivial,?_⟩;show o.uponIn Fence.wide 0 P a _ Q ((execOp a.eval o).run P w);rw [f a w hs];show wpListIn Fence.wide 0 P ops Q rest (a.put o.dst v) w;rw [c];exact h _ w (hs.put d v b)
theorem Zep (vs:List Value)(pre:List Pc)    {l:Nat}     {W:World}  {J:Nat->World->Prop}  {α G:Type} {xs:List α} {ys:α->G->List Value} {D:α->G->List Pc} 
  {k:Nat} (y:α) (g:G) (hY:YJI P w0 l M J Jx xs ys D) (hy:xs[k]? = some y) (hJ:J k W) (hW:w0.heap.size<=W.heap.size) (m:∀p∈pre,∀b,p.fp b->b<w0.heap.size/\¬M b)
  (ho:o.op= .call { callee:= .value x,args:=ops'.toArray,argTypes:=tys }) (hg:∀a w,Sat N sc env H a w->Region.wanted o (yielded ops a.tmps)=true) (hd:o.dst=some d) (Z:Nat.blt d N=true) (hx:ev env x=some (.func (.yield l) #[] #[])) (r:EvL env ops' vs) (S:vs=ys y g)
  (h0:lk H 0=some (Yx W (λ_=>False))) (u:∀p∈D y g,p.own=false/\(∀b,p.fp b->W.heap.size<=b)/\∃i I,lk H i=some I/\∀w,I.holds w->p.holds w)
  (v:AllRo pre) (n:HSub (Yz 1 pre) H)
  (ht:∀c,J (k+1) c->w0.heap.size<=c.heap.size->LI P N sc ops rest Q ((d,.bool true)::env) ((0,Yx c (λ_=>False))::Yz 1 pre))
  (hf:∀c,Jx c->w0.heap.size<=c.heap.size->LI P N sc ops rest Q ((d,.bool false)::env) ((0,Yx c (λ_=>False))::Yz 1 pre)):LI P N sc ops (o::rest) Q env H:=λa w hs=>by
 subst S;have Y:=Ib (hs.hold 0 _ h0);obtain⟨fn,F,f,s,z,j⟩:=hY k y g hy W w hJ hW Y (λp hp=>by obtain⟨h1,h2,i,I,hi,hh⟩:=u p hp;exact⟨hh w (hs.hold i I hi),h1,h2⟩)
 have R:(o.semAt Fence.wide.round a.eval).run P w= .ok (.round l fn F f s) w:=by show(execOp a.eval o).run P w=_;have hm:=r.map hs;have V:=hs.ev hx;simp [execOp,ho,resolve,invoke,Deferred.ofValue,hm,V,z,Sem.run_bind]
 unfold wpListIn;rw [aM (hg a w hs)];refine⟨λ_ _=>trivial,?_⟩;rw [R];refine⟨λh=>(by cases h),j.mono ?_⟩;have B:w0.heap.size<=w.heap.size:=aB hW Y.size;rintro e c (⟨rfl,q,t⟩|⟨rfl,q,t⟩)
 .show wpListIn Fence.wide 0 P ops Q rest (a.put o.dst _) c;rw [hd];exact ht c q (aB B t.size) _ c ((hs.base m v n t).put d _ Z)
 .show wpListIn Fence.wide 0 P ops Q rest (a.put o.dst _) c;rw [hd];exact hf c q (aB B t.size) _ c ((hs.base m v n t).put d _ Z)
theorem Zk1{α:Type}{ps:List α}{p:α->Bool}{d:α}(hi:i<ps.length)(b:p (ps.getD i d)=true):(ps.filter p)[((ps.take i).filter p).length]? = some (ps.getD i d):=by
 have h:=fG i ps;have a:ps.drop i=ps.getD i d::ps.drop (i+1):=by rw [aK,aN hi,eV];exact eC hi
 conv=>lhs;arg 1;rw [<-h,a]
 rw [fY,eA b];simp
theorem Ycr{α:Type}{ps:List α}{p:α->Bool}{d:α}(hi:i<ps.length)(a:p (ps.getD i d)=true):((ps.take (i+1)).filter p).length=((ps.take i).filter p).length+1:=by rw [Po d _ _ hi,fY,eA a,bL];rfl
theorem Ycs{α:Type}{ps:List α}{p:α->Bool}{d:α}(hi:i<ps.length)(a:p (ps.getD i d)=false):((ps.take (i+1)).filter p).length=((ps.take i).filter p).length:=by rw [Po d _ _ hi,fY,fO (by rw [a];exact eI),bL];rfl
theorem Zhj{φ:Prop}{n:Nat}{H:Hp}{k:Pc}(h:φ)(c:lk H 0=some k):∀p∈[fctP φ],p.own=false/\(∀b,p.fp b->n<=b)/\∃i a,lk H i=some a/\∀w,a.holds w->p.holds w:=λp f=>by rw [bI.1 f];exact⟨rfl,λb e=>e.elim,0,k,c,λ_ _=>h⟩
theorem Yct{fn:Func}{al:Bool}{G:Type}{φ:G->Prop}{Yq:G->Value}{b:G->List Pc}(h:X N sc .ret (Zcx P fn w0 pre al φ Yq b) env H):X N sc .ret (Zf7 P fn w0 pre al φ Yq b) env H:=λa w hs=>by obtain⟨e,v,f,c⟩:=h a w hs;show LeavesInM Fence.wide 0 P fn a.tmps _ a.defers .returning w;rw [e];exact⟨v,f,c⟩
end Go.Sky
namespace Go.Sky
variable{D:Int}{a b:List Zl}{zs:List GpT}{Mf0 Mf:Nat->Prop}{body y:Code}{lbv:List Value}{pre:List Pc}{r id:Nat}{ops:List Oper}{c:Operand}{Hall:Hp}{Wb:World}
theorem Zsy(f:∀g∈a,Gin g)(i:∀g∈b,Gin g)(d:Xy a=true)(e:Xy b=true)(m:dsB D=true)(h:zs.map Bc=Nl D 1 1 a b):∀z∈zs,Cvd z.2.2:=λz l=>by obtain⟨k,j,rfl⟩:=jD l;have:=Ym2 f i d e m h j;rwa [aK,aN j]at this
def nbF(z:GpT):Bool:=Ky z.2.2
theorem Yea{n d:Int}(h:zs.map Bc=Nl D n d a b)(e:¬Lt a b≠0)(f:(zs.filter λz=>Ky z.2.2).length=0):Dn D n d a b=true:=by
 refine ap_no ?_ (fD.1 e);rw [fst_no h λi hi=>?_];cases hn:Ky (zs.getD i Gp0).2.2 with
 | false=>rfl
 | true=>
  have:zs.getD i Gp0∈zs.filter λz=>Ky z.2.2:=gE.2 ⟨Zd hi,hn⟩;rw [aC f]at this;cases this
theorem Zn0{n d:Int}{k:Nat}{x:GpT}(h:zs.map Bc=Nl D n d a b)(i:(zs.filter λz=>Ky z.2.2)[k]? = some x):Dn D n d a b=false:=by
 have f:=(gE.1 (gM i));refine ap_is ?_;cases hf:(Hu (Nl D n d a b)).2.2 with
 | true=>rfl
 | false=>
  exfalso;have e:Zfz (Nl D n d a b)=none:=by
   cases he:Zfz (Nl D n d a b)with
   | none=>rfl
   | some g=>unfold Hu at hf;rw [he]at hf;cases hf
  have:=jL.1 e (Bc x) (by rw [<-h];exact eH.2 ⟨x,f.1,rfl⟩);exact this f.2
open Go.RowKit Below
variable {P:Program} {N:Nat} {sc:Nat->Prop} {env env':Pu} {H H':Hp} {Q Q':Exit->Act->World->Prop}
theorem er_rfi {l0:Nat}  {b9:World} {g:Operand} {gf:Nat} {ps:List Nat} {assign:Code}   {α G:Type} {xs:List α} {ys:α->G->List Value} {u:α->G->List Pc} {w0:World}
  {GG GX:Type} (Y:Nat->GG->Hp) (b0:Nat->GG->Prop) (HX:GX->Hp) (b1:GX->Prop) (c0:GG) (f1:LpAt l0 Mf0 b9) (c1:lk H 92=some (Yx b9 Mf0))
  (hg:ev env g=some (.func (.func gf) #[] lbv.toArray)) (eg:∀args w,(callFunc gf args).run P w= .ok (.enter gf args) w) (hc:Ygz P gf lbv pre xs ys u)
  (hp:∀p∈pre,p.own=false/\∃i,lk H i=some p) (h7:∀x z,(ys x z).length=ps.length) (g0:(ps.all λp=>Nat.blt p N)=true)
  (hw:∀b,w0.heap.size<=b->sc b) (h0:lk H 0=some (Yx w0 (λ_=>False)))
  (c8:b0 0 c0) (a4:HSub (Y 0 c0) H) (hk:∀k m,lk (Y k m) 0=some (Yx w0 (λ_=>False))/\lk (Y k m) 93=none) (f8:∀Z,lk (HX Z) 0=some (Yx w0 (λ_=>False))/\lk (HX Z) 93=none)
  (b4:∀k x z m,xs[k]? = some x->b0 k m->∀l Mf I a W,Sat N sc (renv ps (ys x z) env) ((93,Yx I Mf)::adds 100 (u x z) (Y k m)) a W->
   assign.wpIn (Fence.wide.inRound l) 0 P (RAn 93 P N sc l Mf (adds 100 (u x z) (Y k m)) body (Y (k+1)) (b0 (k+1)) HX b1 I) a W)
  (hD:∀m,b0 xs.length m->X N sc .normal Q env (Y xs.length m))
  (hX:∀Z,b1 Z->X N sc .ret Q env (HX Z)) :
  ER P N sc l0 (.rangeFunc g ps.toArray assign body) Q env H:=λa w hs=>by
 have b2:∀i p,lk H i=some p->∀b,p.fp b->b<w.heap.size:=λi p hi b n=>p.lt w b (hs.hold i p hi) n;have g5:w0.heap.size<=w.heap.size:=(hs.hold 0 _ h0).size;have e2:Chg Mf0 b9 w:=hs.hold 92 _ c1;obtain⟨⟨r0,e6⟩,e5⟩:=f1;have g7:w.heap[l0]? = some (.loop r0):=(e2.block _ (aS.1 e6).1 e5).trans e6;refine wpIn_rangeFunc ?_;intro d4 f5;obtain⟨d,B⟩:∃d:LoopState->Option Code->Loop,d=λst pe=>{ state:=st,pending:=pe,fn:=d4,tmps:=a.tmps,params:=ps.toArray,assign,body,defers:=r0.defers }:=⟨_,rfl⟩;obtain⟨W1,d8⟩:∃W1,w.alloc (.loop (d .ready none))=W1:=⟨_,rfl⟩;have f2:W1.heap[w.heap.size]? = some (.loop (d .ready none)):=by grind [World.alloc_heap_new]
 have e1:Below w.heap.size w W1:=by rw [<-d8];exact(Below.refl _ w).alloc (aI _) _
 have h8:W1.heap.size=w.heap.size+1:=by rw [<-d8];simp
 have e0:(#[.func (.yield w.heap.size) #[] #[]] ++ lbv.toArray:Array Value)=(Value.func (.yield w.heap.size) #[] #[]::lbv).toArray:=O5;refine⟨w.heap.size,[],W1,{ target:= .fn (.func gf) lbv.toArray,args:=#[.func (.yield w.heap.size) #[] #[]] },W1,gf,
  (Value.func (.yield w.heap.size) #[] #[]::lbv).toArray,W1,?_,?_,λ_ _=>trivial,?_,λh=>(by cases h),?_⟩
 .simp_all [run_enterLoop_inner]
 .simp only [resolve,hs.ev hg];simp [go_sem]
 .simp [invoke,go_sem,eg]
 have a9:∀(F:Hp) (r:Loop),Zj1 λW=>W.heap[w.heap.size]? = some (.loop r)/\W1.heap.size<=W.heap.size/\Kps sc w (w.heap.size+1) (Mof (w.heap.size+1) H) F W:=λF r W W' ⟨h1,h3,h4⟩ hB=>
  ⟨(hB.block _ (aS.1 h1).1).trans h1,aB h3 hB.size,h4.stays hB⟩
 have f9:¬Mof (w.heap.size+1) H w.heap.size:=λh=>by
  rcases h with⟨i,q,hq,_,hf⟩|h
  all_goals grind
 have b3:∀(F:Hp) (W:World),Kps sc w (w.heap.size+1) (Mof (w.heap.size+1) H) F W->∀(o:Obj),Kps sc w (w.heap.size+1) (Mof (w.heap.size+1) H) F (W.putObj w.heap.size o):=λF W h o=>h.put b2 ⟨aI _,O5⟩;refine callsIn_wide.2 ((hc w.heap.size (λb=>(∃i q,lk H i=some q/\q.own=true/\q.fp b)\/b=w.heap.size)
  (λk W=>∃m,b0 k m/\(W.heap[w.heap.size]? = some (.loop (d .ready none))/\W1.heap.size<=W.heap.size/\Kps sc w (w.heap.size+1) (Mof (w.heap.size+1) H) (Y k m) W))
  (λW=>∃Z,b1 Z/\(W.heap[w.heap.size]? = some (.loop (d .done (some .ret)))/\W1.heap.size<=W.heap.size/\Kps sc w (w.heap.size+1) (Mof (w.heap.size+1) H) (HX Z) W)) W1
  ?_ ?_ ?_ ?_ ?_ ?_).mono ?_)
 .intro p s;obtain⟨ho,i,hi⟩:=hp p s;exact p.stable _ _ (hs.hold i p hi) (Chg.of_below e1)
 .rintro p s b n (⟨i,q,hq,g2,g1⟩|rfl)
  .obtain⟨ho,j,hj⟩:=hp p s;exact hs.sep i j q p (λe=>O4) hq hj g2 b g1 n
  grind
 .rintro k W W' ⟨m,c6,h⟩ hB;exact⟨m,c6,a9 _ _ W W' h hB⟩
 .rintro W W' ⟨Z,c6,h⟩ hB;exact⟨Z,c6,a9 _ _ W W' h hB⟩
 .refine⟨c0,c8,f2,aI _,λi it hi=>it.stable _ _ (hs.hold i it (a4.lk i it hi)) (Chg.of_below e1),λi j it jt d1 hi hj=>hs.sep i j it jt d1 (a4.lk i it hi) (a4.lk j jt hj),
   λi it c8 hi=>hs.scope i it c8 (a4.lk i it hi),λi it hi _ b n=> .inl (b2 i it (a4.lk i it hi) b n),λi it hi ho b n=> .inl ⟨i,it,a4.lk i it hi,ho,n⟩⟩
 .rintro k x z hx W I ⟨m,R,hl,e8,S⟩ h9 hB a7;have e4:I.heap[w.heap.size]? = some (.loop (d .ready none)):=(hB.block _ O).trans hl;have hy:=run_yield (P:=P) (args:=(ys x z).toArray) e4 O4;have f6:∀p∈u x z,∀b,p.fp b->w.heap.size+1<=b:=λp hp b n=>O4;have s1:Sat N sc env (Y k m) { tmps:=a.tmps,defers:=[] } I:=(S.stays hB).sat hs.size rfl hs.env;have s2:Sat N sc env (adds 100 (u x z) (Y k m)) { tmps:=a.tmps,defers:=[] } I:=s1.adds (w1:=I) _ _ λp s=>⟨(a7 p s).1,(a7 p s).2.1,λb n=>hw b O4,λj jt hj ho b n a6=>by have h1:=(a7 p s).2.2 b n;have h2:=jt.lt W b (S.hold j jt hj) a6;omega⟩
  have b5:∀j q,lk (adds 100 (u x z) (Y k m)) j=some q->(q∈u x z)\/lk (Y k m) j=some q:=λj q h=>Zrw _ _ _ j q h;have s:∀j q,lk (adds 100 (u x z) (Y k m)) j=some q->∀b,q.fp b->q.own=true->Mof (w.heap.size+1) H b:=λj q hj b n ho=>by
   rcases b5 j q hj with h|h
   .grind
   .exact S.mf j q h ho b n
  have b8:∀j q,lk (adds 100 (u x z) (Y k m)) j=some q->∀b,q.fp b->q.own=false->b<w.heap.size\/w.heap.size+1<=b:=λj q hj b n ho=>by
   rcases b5 j q hj with h|h
   .grind
   .exact S.off j q h ho b n
  have s3:=s2.rounds ps (ys x z) g0;have s4:Sat N sc (renv ps (ys x z) env) ((93,Yx I (Mfs sc (w.heap.size+1) H))::adds 100 (u x z) (Y k m)) _ I:=s3.add 93 (Yx I (Mfs sc (w.heap.size+1) H)) (Chg.refl _ _) (λj jt d1 hj Hf b n a6=>by
   rcases Hf with h|h
   .cases h
   .exact n.2 (.inl (s j jt hj b a6 h))) (λb n=>eT.1 λhn=>n.2 (.inr hn))
  have d0:¬Mfs sc (w.heap.size+1) H w.heap.size:=λh=>h.elim f9 (λhn=>hn (hw _ g5));rw [B]at hy;refine⟨d4,_,assign,body,hy,roundIn_of_wpIn f5 ?_⟩;have hr:=b4 k x z m hx R w.heap.size (Mfs sc (w.heap.size+1) H) I _ I s4;have e3:(ps.toArray.zip (ys x z).toArray).foldl (λt (p,v)=>t.setIfInBounds p v) a.tmps=(ps.zip (ys x z)).foldl (λt pv=>t.setIfInBounds pv.1 pv.2) a.tmps:=O5;have e7:w.heap.size+1<=I.heap.size:=O4;have f7:∀(F:Hp),lk F 0=some (Yx w0 (λ_=>False))/\lk F 93=none->∀q,lk F 0=some q->q.own=false:=λF h q hq=>by rw [h.1]at hq;cases hq;rfl
  rw [show(ps.toArray.zip (ys x z).toArray).foldl (λt (x:Nat×Value)=>t.setIfInBounds x.1 x.2) a.tmps=(ps.zip (ys x z)).foldl (λt pv=>t.setIfInBounds pv.1 pv.2) a.tmps from e3];refine wpIn_mono hr ?_;rintro e a1 W2 ⟨rfl,d3,H1,c1,d6,e9,V,c5⟩;have a0:Chg (Mfs sc (w.heap.size+1) H) I W2:=V.hold 93 _ (Yl _ _ _);have h6:W2.heap[w.heap.size]? = some (.loop (d .ready none)):=(a0.block _ O d0).trans e4;have p1:=V.ps c1 O d6 e7 e9 s b8 b2;have g9:I.heap.size<=W2.heap.size:=a0.size;obtain⟨f,M⟩:∃f,W2.putObj w.heap.size (.loop { d .ready none with state:= .busy })=f:=⟨_,rfl⟩;have g6:Sat N sc d3 ((93,Yx f (Mfs sc (w.heap.size+1) H))::H1) a1 f:=by
   have p2:=b3 _ _ p1 (.loop { d .ready none with state:= .busy });rw [M]at p2;refine(p2.sat V.size V.defers V.env).add 93 (Yx f (Mfs sc (w.heap.size+1) H)) (Chg.refl _ _) (λj jt d1 hj Hf b n a6=>?_) (λb n=>eT.1 λhn=>n.2 (.inr hn));rcases Hf with h|h
   .cases h
   .exact n.2 (.inl (p2.mf j jt hj h b a6))
  have g4:W2.heap.size=f.heap.size:=by rw [<-M];simp
  have b7:f.heap[w.heap.size]? = some (.loop { d .ready none with state:= .busy }):=by grind [World.putObj_heap_same]
  refine⟨f,by grind [run_beginRound],wpIn_mono (c5 f ⟨⟨_,b7⟩,d0⟩ a1 f g6) ?_⟩;have b6:∀(F:Hp) (env':Pu) (a3:Act) (W3:World),(lk F 0=some (Yx w0 (λ_=>False))/\lk F 93=none)->FpM F (adds 100 (u x z) (Y k m))->Sat N sc env' ((93,Yx f (Mfs sc (w.heap.size+1) H))::F) a3 W3->∀(r:Loop),
    W3.heap[w.heap.size]? = some (.loop { d .ready none with state:= .busy })/\(((W3.putObj w.heap.size (.loop r)).heap[w.heap.size]? = some (.loop r)/\
     W1.heap.size<=(W3.putObj w.heap.size (.loop r)).heap.size/\Kps sc w (w.heap.size+1) (Mof (w.heap.size+1) H) F (W3.putObj w.heap.size (.loop r)))/\
     Chg (λb=>((∃i q,lk H i=some q/\q.own=true/\q.fp b)\/b=w.heap.size)\/W1.heap.size<=b) I (W3.putObj w.heap.size (.loop r))):=by
   intro F env' a3 W3 c9 f0 a5 r;have a2:Chg (Mfs sc (w.heap.size+1) H) f W3:=a5.hold 93 _ (Yl _ _ _);have a8:=(a2.block _ O d0).trans b7;have h5:=a2.size;have p3:=a5.ps c9.2 O (f7 F c9) O f0 s b8 b2;refine⟨a8,⟨World.putObj_heap_same O,O8,b3 _ _ p3 _⟩,?_⟩;have k0:(Yx w0 (λ_=>False)).holds I:=S.stays hB |>.hold 0 _ (hk k m).1;have k3:(Yx w0 (λ_=>False)).holds W3:=p3.hold 0 _ c9.1;refine⟨?_,?_,?_,O8,λb n hn=>?_⟩
   .exact a2.os.trans ((by rw [<-M];rfl:f.os=W2.os).trans a0.os)
   .exact a2.tape.trans ((by rw [<-M];rfl:f.tape=W2.tape).trans a0.tape)
   .exact a2.output.trans ((by rw [<-M];rfl:f.output=W2.output).trans a0.output)
   .have f4:b≠w.heap.size:=λe=>hn (.inl (.inr e));have f3:¬Mof (w.heap.size+1) H b:=λh=>by
     rcases h with h|h
     all_goals grind
    refine(World.putObj_heap_other f4).trans ?_;by_cases g3:sc b
    .have d7:¬Mfs sc (w.heap.size+1) H b:=λh=>h.elim f3 (λh=>h g3);refine(a2.block b O d7).trans ?_;have:f.heap[b]? = W2.heap[b]?:=by grind [World.putObj_heap_other]
     exact this.trans (a0.block b n d7)
    .have d9:b<w0.heap.size:=by grind
     exact(k3.block b d9 (λh=>h)).trans (k0.block b d9 (λh=>h)).symm
  rintro e a3 W3 (⟨rfl,d5,c7,c3,env',a5⟩|⟨rfl,Z,c7,c3,env',a5⟩)
  .obtain⟨a8,c4,c2⟩:=b6 _ env' a3 W3 (hk (k+1) d5) c3 a5 (d .ready none);have:=run_endRound (P:=P) none a8;rw [show({ ({ d .ready none with state:= .busy } : Loop)with state:=if(none:Option Code).isNone then LoopState.ready else .done,pending:=none } : Loop)=d .ready none by grind]at this;exact⟨_,_,this,.inl ⟨rfl,⟨d5,c7,c4⟩,c2⟩⟩
  .obtain⟨a8,c4,c2⟩:=b6 _ env' a3 W3 (f8 Z) c3 a5 (d .done (some .ret));have:=run_endRound (P:=P) (some .ret) a8;rw [show({ ({ d .ready none with state:= .busy } : Loop)with state:=if(some Code.ret).isNone then LoopState.ready else .done,pending:=some .ret } : Loop)=d .done (some .ret) by rw [B];rfl]at this;exact⟨_,_,this,.inr ⟨rfl,⟨Z,c7,c4⟩,c2⟩⟩
 .rintro e W2 ⟨⟨v,rfl⟩,⟨m,R,hl,e8,d2⟩|⟨Z,R,hl,e8,d2⟩⟩
  .refine⟨none,_,by have:=run_endLoop (P:=P) hl O4;rw [B]at this;omega,?_⟩;have p3:=b3 _ _ d2 (.loop (d .exhausted none));rw [B]at p3;have s3:=p3.sat (a:=a) hs.size hs.defers hs.env;exact hD m R _ _ s3
  .refine⟨some .ret,_,by have:=run_endLoop (P:=P) hl O4;rw [B]at this;exact this,wpIn_ret ?_⟩;have p3:=b3 _ _ d2 (.loop { d .done (some .ret)with state:= .exhausted });rw [B]at p3;exact hX Z R _ _ (p3.sat (a:=a) hs.size hs.defers hs.env)
theorem Ztq{ops:Array Oper}{r:Nat}(f:Zkw ops.toList):∀(e:Nat) (d:Array Bool) (a:Act) (w:World),wpAny P .any ops (Fa Q) e d a w->wpAnyIn (Fence.wide.inRound r) 0 P .any ops Q e d a w
 | 0,_,_,_,h=>h
 | e+1,d,a,w,h=>by
  refine⟨h.1,λi hi=>?_⟩;have g:=h.2 i hi;unfold wpOp at g;unfold wpOpIn;split
  .rename_i j;simp only [j]at g;exact Ztq f _ _ a w g
  .rename_i o j;simp only [j]at g;split
   .rename_i k;simp only [k,lB]at g;exact Oper.wpIn_mono (λa w l=>Ztq f _ _ a w l) (Ybx (f o O4) (g.resolve_right λh=>Da h.2))
   .rename_i k;simp only [k]at g;exact⟨λ_ _=>trivial,Ztq f _ _ _ w g⟩
def Zle(h:ER P N sc r y Q env H):X N sc .normal (Exit.then (λa w=>y.wpIn (Fence.wide.inRound r) 0 P Q a w) Q) env H:=λa w hs=>h a w hs
def Zxp(h:X N sc .normal Q env H):X N sc .normal (Fa Q) env H:=λa w hs=>h a w hs
def Zcm(d:ops.all ndB=true)(h:L P N sc ops.toArray ops (Fa Q) env H):ER P N sc r (.region id ops.toArray false) Q env H:=Zso d h
def Ymc(h:X N sc .normal Q env H):ER P N sc r .skip Q env H:=Zsn h
def Yc0(h:X N sc .ret Q env H):ER P N sc r .ret Q env H:=Zzb h
def Yrr{x:Code}{p:Prop}[Decidable p](d:ev env c=some (.bool (decide p)))(f:p->ER P N sc r x Q env H)(e:¬p->ER P N sc r y Q env H):ER P N sc r (.cond c x y) Q env H:=
 Zwm d (λh=>f (cF h)) (λh=>e (iF h))
def xq_rn{n:Nat}{g i:Type}{h:g->Hp}{d:g->Prop}{j:i->Hp}{e:i->Prop}(f:g)(hi:d f)(k:FpM (h f) Hall)(l:HSub ((n,Yx Wb Mf)::h f) H):X N sc .normal (RBn n N sc Mf Hall h d j e Wb) env H:=
 λa w hs=>Or.inl ⟨rfl,f,hi,k,[],hs.weaken aA l⟩
def x_rr{n:Nat}{i f:Type}{j:i->Hp}{h:i->Prop}{g:f->Hp}{d:f->Prop}(e:f)(hi:d e)(k:FpM (g e) Hall)(l:HSub ((n,Yx Wb Mf)::g e) H):X N sc .ret (RBn n N sc Mf Hall j h g d Wb) env H:=
 λa w hs=>Or.inr ⟨rfl,e,hi,k,[],hs.weaken aA l⟩
def x_ra {n l:Nat}    {h i:Type} {j:h->Hp} {g:h->Prop} {k:i->Hp} {e:i->Prop} {m:World} (d:Pu) (f:Hp) (u:Sub d env) (v:HSub ((n,Yx m Mf)::f) H) (p:lk f n=none) (o:∀q,lk f 0=some q->q.own=false) (s:FpM f Hall)
  (t:∀Wb,LpAt l Mf Wb->ER P N sc l body (RBn n N sc Mf Hall j g k e Wb) d ((n,Yx Wb Mf)::f)):X N sc .normal (RAn n P N sc l Mf Hall body j g k e m) env H:=
 λa w hs=>⟨rfl,d,f,p,o,s,hs.weaken u v,t⟩
theorem Ymd  {l:List Oper} (M:Nat->Prop) (e:List Nat) (f:P.follows .mixedOrders=true) (d:l.all ndB=true)
  (h:A P N sc M l.toArray e Q l.length (Array.replicate l.length false) env H):ER P N sc r (.region id l.toArray true) Q env H:=λa w hs=>by
 refine wpIn_region_any f (Ztq (Ziv d) _ _ _ _ (Zb2 e (C:=Chg M) _ _ _ _ ?_));simpa using h a _ hs.drew
theorem Yrq  {l:List Oper} (M:Nat->Prop) (d:List (Nat×Nat)) (n:P.follows .mixedOrders=true) (e:l.all ndB=true)
  (g:(Region.noSelect l.toArray && Nat.beq d.length l.length && Fq l.toArray (Ax d) d (Array.replicate l.length false) &&
   (Region.ready .any l.toArray (Ev d (Array.replicate l.length false))).isEmpty)=true)
  (h:LD P N sc M l.toArray (X N sc .normal Q) d env H):ER P N sc r (.region id l.toArray true) Q env H:=by
 simp only [aR]at g;obtain⟨⟨⟨i,f⟩,j⟩,k⟩:=g;have f:=dU f;refine Ymd M (Ax d) n e ?_;have:=LD.sound i _ _ env H j h (λenv H m=>Zt m k);grind
end Go.Sky
namespace Go.Sky
open Go.RowKit Below
variable{i k:Nat}{x:Nat×Nat}{D:Int}{ls:List PT}{zs:List GpT}
section
variable {P:Program} {N:Nat} {sc:Nat->Prop} {env:Pu} {H:Hp}
end
abbrev wtM (z:GpT) (u:R2):R2:=(Dq (u.1*(z.1.2-z.1.1)) (u.2*1),Eh (u.1*(z.1.2-z.1.1)) (u.2*1))
abbrev wtT (z:GpT) (u:R2):R2:=(Dq ((wtM z u).1*1+z.1.1*(wtM z u).2) ((wtM z u).2*1),Eh ((wtM z u).1*1+z.1.1*(wtM z u).2) ((wtM z u).2*1))
abbrev wtV (g:R2×Int):Value:= .tuple #[.agg #[.bool (decide (g.1.1<0)),.string (Qq (g.1.1).natAbs),.bool (decide (g.1.2<0)),.string (Qq (g.1.2).natAbs)],.int .i64 g.2]
def WtP(D:Int)(a b:List Zl)(g:R2×Int):Prop:=
 (Lt a b≠0/\g=((0,0),Lt a b))\/(Lt a b=0/\Dn D 1 1 a b=true/\g=((0,0),9))\/
  (Lt a b=0/\Dn D 1 1 a b=false/\g.2=0/\∃z:GpT,Bc z∈Nl D 1 1 a b/\∃u,Fnd z.2.2 (qv (0,1)) (qv (1,1)) u/\g.1=wtT z u)
def Zyi(n i:Nat):List (Nat×Nat):=(List.range (n-(i+1))).map λj=>(i,i+1+j)
def prU(n:Nat):Nat->List (Nat×Nat)
 | 0=>[]
 | i+1=>prU n i ++ Zyi n i
abbrev prs (n:Nat):List (Nat×Nat):=prU n n
theorem prU_le{n m:Nat}(h:i<=m):∃r,prU n m=prU n i ++ r:=by
 obtain⟨d,rfl⟩:=Nat.exists_eq_add_of_le h;clear h
 induction d with
 | zero=>simp
 | succ d b=>
  obtain⟨r,a⟩:=b;exact⟨r ++ Zyi n _,by rw [<-eJ,<-a];rfl⟩
theorem pr_len{n:Nat} : (prU n (i+1)).length=(prU n i).length+(n-(i+1)):=by show(prU n i ++ Zyi n i).length=_;unfold Zyi;simp
theorem pr_at{n j:Nat}(hi:i<n)(b:j<n-(i+1)):(prs n)[(prU n i).length+j]? = some (i,i+1+j):=by obtain⟨r,a⟩:=prU_le (show i+1<=n from hi);unfold prs;rw [a,show prU n _=prU n i ++ Zyi n i from rfl,eJ];unfold Zyi;grind
theorem Yjw{n:Nat}(hi:i<n)(a:i+1<=k)(b:k<n):(prs n)[(prU n i).length+(k-(i+1))]? = some (i,k):=by rw [pr_at hi O];grind
theorem Zyj{n m:Nat}(h:(i,k)∈prU n m):i<m/\i<k/\k<n:=by
 induction m with
 | zero=>cases h
 | succ m b=>
  rcases cP.1 h with h|h
  .grind
  .obtain⟨j,a,e⟩:=eH.1 h;grind
def lx(p q:Nat×Nat):Prop:=p.1<q.1\/(p.1=q.1/\p.2<q.2)
theorem pr_pw(n:Nat):∀m,(prU n m).Pairwise lx
 | 0=>List.Pairwise.nil
 | m+1=>by
  refine List.pairwise_append.2 ⟨pr_pw n m,?_,λp d q e=>?_⟩
  .unfold Zyi;rw [List.pairwise_map];exact(List.pairwise_lt_range).imp λ{a b} h=> .inr ⟨rfl,O⟩
  .obtain⟨c,_⟩:=Zyj d;obtain⟨j,f,rfl⟩:=eH.1 e;exact .inl c
theorem Yjv (y:Nat×Nat){n:Nat}(l:(prs n)[k]? = some x)(m:y.1<y.2/\y.2<n)(h:lx y x):∃j,j<k/\(prs n)[j]? = some y:=by
 obtain⟨a,b⟩:=y;have c:=Yjw (i:=a) O O m.2;refine⟨_,?_,c⟩;obtain⟨p,f⟩:=fF.1 l;obtain⟨o,e⟩:=fF.1 c;rcases gN _ k with d|d|d
 .omega
 .subst d;rw [f]at e;subst e;rcases h with h|h<;>omega
 .have:=List.pairwise_iff_getElem.1 (pr_pw n n) k _ p o d;rw [f,e]at this;rcases h with h|h<;>rcases this with g|g<;>omega
def PrI(D:Int)(ls:List PT)(k:Nat):Prop:=∀j p,j<k->(prs ls.length)[j]? = some p->Dn D 1 1 (Ck ls p.1) (Ck ls p.2)=true
theorem prI_s(h:PrI D ls k)(e:(prs ls.length)[k]? = some x)(d:Dn D 1 1 (Ck ls x.1) (Ck ls x.2)=true):PrI D ls (k+1):=λj p b c=>by
 rcases aZ.1 b with a|a
 .exact h j p a c
 grind
theorem prI_A(h:PrI D ls k)(g:(prs ls.length)[k]? = some x):ClA D 1 1 ls x.1/\ClB D 1 1 ls x.1 x.2/\x.1<x.2/\x.2<ls.length:=by
 obtain⟨-,l,m⟩:=Zyj (gM g);refine⟨λa b d e n=>?_,λb d e=>?_,l,m⟩
 .obtain⟨j,f,c⟩:=Yjv (a,b) g ⟨d,e⟩ (.inl n);have:=h j _ f c;omega
 .obtain⟨j,f,c⟩:=Yjv (x.1,b) g ⟨d,show b<ls.length by omega⟩ (.inr ⟨rfl,e⟩);have:=h j _ f c;omega
theorem Yqj(h:PrI D ls (prs ls.length).length):ClR D 1 1 ls ((0,0,0,0),false,0):= .inl ⟨rfl,λa b d e f=>by have c:=Yjw f d e;have:=h _ _ (fF.1 c).1 c;omega⟩
theorem Yqi(h:PrI D ls k)(f:(prs ls.length)[k]? = some x)(a:Lt (Ck ls x.1) (Ck ls x.2)≠0):ClR D 1 1 ls ((0,0,0,0),false,Lt (Ck ls x.1) (Ck ls x.2)):=by obtain⟨b,c,d,e⟩:=prI_A h f;have:=Zs6 b c d e (ap_e a);have g:Nl D 1 1 (Ck ls x.1) (Ck ls x.2)=[]:=Zr9 λj=>a (by unfold Lt;omega);unfold clV at this;rw [g]at this;exact this
theorem Zy3{x:GpT}(a:(zs.filter λz=>Ky z.2.2)[0]? = some x):Hu (zs.map Bc)=(x.1.1,x.1.2,true):=by
 induction zs with
 | nil=>grind
 | cons z zs b=>
  cases hn:Ky _ with
  | true=>
   rw [eA O]at a;obtain rfl:z=x:=Option.some.inj a;have e:Zfz ((z::zs).map Bc)=some _:=jX (by exact hn);unfold Hu;rw [e];rfl
  | false=>
   rw [fO O4]at a;have e:Zfz _=Zfz (zs.map Bc):=jY (by rw [show Ky (Bc z).2.2=false from hn];simp);have:=b a;unfold Hu at this ⊢;grind
theorem Yqh{c:Nat}{y:GpT}(h:PrI D ls k)(l:(prs ls.length)[k]? = some x)(m:¬Lt (Ck ls x.1) (Ck ls x.2)≠0)(b:zs.map Bc=Nl D 1 1 (Ck ls x.1) (Ck ls x.2))(j:c=0)(a:(zs.filter λz=>Ky z.2.2)[c]? = some y) :
  ClR D 1 1 ls (((x.1:Int),(x.2:Int),y.1.1,y.1.2),true,0):=by
 subst j;obtain⟨d,e,f,g⟩:=prI_A h l;have:=Zs6 d e f g (Zn0 b a);unfold clV at this;rw [<-b,Zy3 a]at this;grind
def vidx_t(hi:i<ls.length)(h:Xy (Ck ls i)=false):Gv ls=false:=Yad (Zd hi) h
end Go.Sky

