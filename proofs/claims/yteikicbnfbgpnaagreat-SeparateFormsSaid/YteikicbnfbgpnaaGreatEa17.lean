/- Rules, arithmetic and contracts: part 18. No conditions but those that each theorem names. -/
import Derived.Test.YteikicbnfbgpnaaGreatEa16
set_option linter.all false
namespace Go.Sky
open Go.Proofs.Tryz
open Go.Proofs
set_option synthInstance.maxHeartbeats 0
set_option synthInstance.maxSize 100000
set_option maxRecDepth 20000
set_option maxHeartbeats 1000000
set_option linter.unusedSimpArgs false
def nxF(t c:Int)(ps:List Zo):Nat->Int
 | 0=>c
 | i+1=>if t<(ps.getD i G0).1.1 then min (nxF t c ps i) (ps.getD i G0).1.1 else nxF t c ps i
def gZ(o:Int)(l:List Int):Nat->Int
 | 0=>o
 | i+1=>(Int.gcd (gZ o l i) (cf l i):Int)
def plC(a d:Int)(x y z:List Int)(t:Nat):Int:=pl (Zv t x y z) a d
def lowL(o:Int)(l:List Int):List Int:=mk 3 λt=>cf l t/gZ o l 3
def Znu(fr o v b e f:Int)(H I M l m n:SL)(x y z B D F:List Int)(p:Qe fr)(r:Qe o)(q:Qe v)(N:∀a∈x,Qe a)(P:∀a∈y,Qe a)(Q:∀a∈z,Qe a)(i:Qe b)(k:Qe e)(j:Qe f)(s:∀a∈B,Qe a)(t:∀a∈D,Qe a)(u:∀a∈F,Qe a):Qi prog 22 #[.agg #[.int .i64 fr,.int .i64 o,.int .i64 v,Yy H,Yy I,Yy M],.agg #[.int .i64 b,.int .i64 e,.int .i64 f,Yy l,Yy m,Yy n]] [Yl 1 Zx (Yy H) x,Yl 1 Zx (Yy I) y,Yl 1 Zx (Yy M) z,Yl 1 Zx (Yy l) B,Yl 1 Zx (Yy m) D,Yl 1 Zx (Yy n) F] (.bool (decide (Hf fr o v x y z=true/\Hf b e f B D F=true/\fr=b/\o=e))):=by
 refine Zf func22 ntmps22 λW V S c=>go 2 ?_;refine Yp (Yt 7) λR _=>Yp (Yt 8) λG _=>go 6 ?_;refine cl 8 [1,2,3] (Zmf _ _ _ _ _ _ _ _ _ p r q N P Q) λ_ _=>go 1 ?_;refine Zak (d:=7) J (λw=>?_) (λw=>?_)
 .refine go 1 ?_;refine Eh 8 [4,5,6] (Zmf _ _ _ _ _ _ _ _ _ i k j s t u) λ_ _=>go 2 ?_;refine Zak (d:=11) J (λg=>?_) (λg=>?_)
  .refine go 7 ?_;refine Xi (d:=18) J (λh=>?_) (λh=>?_)
   .refine go 10 ?_;exact Xu c () results22 (by simp_all) trivial Za
   .refine go 10 ?_;exact Xu c () results22 (by simp_all) trivial Za
  .refine go 17 ?_;exact Xu c () results22 (by simp_all) trivial Za
 .refine go 21 ?_;exact Xu c () results22 (by simp_all) trivial Za
set_option maxHeartbeats 1000000 in
def r17_sq(fr to c F V a:Int)(W Y Z m o p:SL)(x y z e f h:List Int)(s:Sgo fr to c x y z)(d:Sgo F V a e f h)(hA:∀i,Ab KA (tzl (Zv i x y z)))(c0:∀i,Ab KA (tzl (Zv i e f h))):Cal prog 77 #[.agg #[.int .i64 fr,.int .i64 to,.int .i64 c,Yy W,Yy Y,Yy Z],.agg #[.int .i64 F,.int .i64 V,.int .i64 a,Yy m,Yy o,Yy p]] [Yl 1 Zx (Yy W) x,Yl 1 Zx (Yy Y) y,Yl 1 Zx (Yy Z) z,Yl 1 Zx (Yy m) e,Yl 1 Zx (Yy o) f,Yl 1 Zx (Yy p) h] true (G:=Value×List TzT×Value) (λr=>r.2.1.map (λz=>Yi z.2)=sqR c a x y z e f h 3) (λr=> .tuple #[r.1,.agg #[.bool (decide (ovW c a<0)),r.2.2]]) (λr=>[Qq 1 (Lx (α:=List (Int×SL))) qT r.1 r.2.1,Gj r.2.2 (ovW c a).natAbs]):=by
 refine Zf func77 ntmps77 λw0 sc hw c8=>?_;have f9:=s.o1;have c4:=s.o2;have c5:=d.o1;have c6:=d.o2;have c7:bl c.natAbs<=1000000000:=Nat.le_trans ((Qh 40 _).2 O) O3;have Q:bl a.natAbs<=1000000000:=Nat.le_trans ((Qh 40 _).2 O) O3;have R:=ov_b s d;refine go 2 ?_;refine Yp (Yt 7) λbx _=>Yp (Yt 8) λc9 _=>go 1 ?_;refine Yp (Zz 9) λd0 _=>go 2 ?_;refine jn (G:=Value×Value×Nat×Nat) [2,3,5] [0,1,2,3,4,5,6,7,8,9] (λq=>[(6,.pointer (some ⟨q.2.2.1,0,none⟩)),(7,.pointer (some ⟨q.2.2.2,0,none⟩))]) (λq=>[(83,Gj q.1 (c).natAbs),(84,Gj q.2.1 (a).natAbs),(95,box q.2.2.1 89 #[.bool (decide (c<0)),q.1]),(96,box q.2.2.2 89 #[.bool (decide (a<0)),q.2.1])]) (λq=>True) ?_ ?_
 .refine Ms [7,8] [9]<|Ze (n:=6) [(0,0),(1,0),(3,0),(4,0)]<|go 5 ?_;refine Zch (n:=5) 2 6 7 ?_ ?_ ?_
  .refine Oc (Zm 83 [] (Mw c)) λv _=>?_;refine Zch (n:=4) 5 6 7 ?_ ?_ ?_
   .refine Oc (Zm 84 [] (Mw a)) λg5 _=>?_;refine Xt (n:=3) 6 7 ?_ ?_
    .refine Oc (Qs 95) λd1 ho=>?_;refine Ze (n:=0) [(7,1),(8,1),(9,3)]<|Yz (Qs 96) λd2 c4=>go 3 ?_;exact Zp<|Pn (_,_,_,_) trivial K2 K4
    .refine Oc (Qs 96) λd3 c5=>?_;refine Ze (n:=0) [(6,1),(8,1),(9,3)]<|Yz (Qs 95) λd4 c6=>go 3 ?_;exact Zp<|Pn (_,_,_,_) trivial K2 K4
   .refine Oc (Qs 95) λd5 g0=>?_;refine Xt (n:=3) 5 7 ?_ ?_
    .refine Oc (Zm 84 [] (Mw a)) λg6 _=>?_;refine Ze (n:=0) [(7,1),(8,1),(9,3)]<|Yz (Qs 96) λd6 g1=>go 3 ?_;exact Zp<|Pn (_,_,_,_) trivial K2 K4
    .refine Oc (Qs 96) λa0 g2=>?_;refine Ze (n:=0) [(5,1),(8,1),(9,3)]<|Yz (Zm 84 [] (Mw a)) λg7 _=>go 3 ?_;exact Zp<|Pn (_,_,_,_) trivial K2 K4
   .refine Oc (Qs 96) λa1 g3=>?_;refine Xt (n:=3) 5 6 ?_ ?_
    .refine Oc (Zm 84 [] (Mw a)) λg9 _=>?_;refine Ze (n:=0) [(6,1),(8,1),(9,3)]<|Yz (Qs 95) λa2 g4=>go 3 ?_;exact Zp<|Pn (_,_,_,_) trivial K2 K4
    .refine Oc (Qs 95) λa3 d7=>?_;refine Ze (n:=0) [(5,1),(8,1),(9,3)]<|Yz (Zm 84 [] (Mw a)) λh0 _=>go 3 ?_;exact Zp<|Pn (_,_,_,_) trivial K2 K4
  .refine Oc (Qs 95) λa4 d8=>?_;refine Xt (n:=4) 2 7 ?_ ?_
   .refine Oc (Zm 83 [] (Mw c)) λh1 _=>?_;refine Xt (n:=3) 5 7 ?_ ?_
    .refine Oc (Zm 84 [] (Mw a)) λh2 _=>?_;refine Ze (n:=0) [(7,1),(8,1),(9,3)]<|Yz (Qs 96) λa5 d9=>go 3 ?_;exact Zp<|Pn (_,_,_,_) trivial K2 K4
    .refine Oc (Qs 96) λa6 e0=>?_;refine Ze (n:=0) [(5,1),(8,1),(9,3)]<|Yz (Zm 84 [] (Mw a)) λh3 _=>go 3 ?_;exact Zp<|Pn (_,_,_,_) trivial K2 K4
   .refine Oc (Qs 96) λa7 e1=>?_;refine Ze (n:=0) [(2,1),(5,1),(8,1),(9,3)]<|Yz (Zm 83 [] (Mw c)) λe6 _=>Yz (Zm 84 [] (Mw a)) λe7 _=>go 3 ?_;exact Zp<|Pn (_,_,_,_) trivial K2 K4
  .refine Oc (Qs 96) λa8 e2=>?_;refine Xt (n:=4) 2 6 ?_ ?_
   .refine Oc (Zm 83 [] (Mw c)) λe8 _=>?_;refine Xt (n:=3) 5 6 ?_ ?_
    .refine Oc (Zm 84 [] (Mw a)) λe9 _=>?_;refine Ze (n:=0) [(6,1),(8,1),(9,3)]<|Yz (Qs 95) λa9 e3=>go 3 ?_;exact Zp<|Pn (_,_,_,_) trivial K2 K4
    .refine Oc (Qs 95) λb0 e4=>?_;refine Ze (n:=0) [(5,1),(8,1),(9,3)]<|Yz (Zm 84 [] (Mw a)) λf0 _=>go 3 ?_;exact Zp<|Pn (_,_,_,_) trivial K2 K4
   .refine Oc (Qs 95) λb1 e5=>?_;refine Ze (n:=0) [(2,1),(5,1),(8,1),(9,3)]<|Yz (Zm 83 [] (Mw c)) λf1 _=>Yz (Zm 84 [] (Mw a)) λf2 _=>go 3 ?_;exact Zp<|Pn (_,_,_,_) trivial K2 K4
 .rintro⟨qx,qy,b6,b7⟩ -;dsimp only;refine go 12 ?_;refine Zi (Pu 70 1 47 (Lx (α:=List (Int×SL))))<|Zi (Yr qT 71)<|lp (G:=Nat×Value×List TzT) [2,3,5,6,7] [0,83,84,95,96,1,2,3,4,5,6,7,8,9] (λq=>[(9,.int .i64 (q.1:Int)),(8,q.2.1)]) (λq=>[(70,Oj 1 47 (Lx (α:=List (Int×SL))) q.2.1 q.2.2),(71,Ku qT q.2.2)]) (λq=>(q.1<=3)/\(q.2.2.map (λz=>Yi z.2)=sqR c a x y z e f h q.1)/\(q.2.2.length=q.1)) (λq=>3-q.1) (0,.slice none 0 0,[]) ⟨O1,rfl,rfl⟩ K2 K2 ?_;rintro⟨i,vo,ws⟩ ⟨hi,D,S⟩;dsimp only at hi D S;dsimp only;have hc:=s.hc i;have c1:=d.hc i;have c3:=s.lc i;have P:=d.lc i;have b:=fmX (k:=1) (hA i) (c0 i) c3.2 P.2 ⟨s.o1,s.o2⟩ ⟨d.o1,d.o2⟩ ⟨O3,O3⟩;refine go 7 ?_;refine Zc J (λb9=>?_) (λb9=>?_)
  .refine go 5 ?_;refine Gp (λ_=>False) [17]<|Ze (n:=11) [(0,0),(2,0),(6,0),(8,0),(10,0),(14,0),(1,1)]<|go 6 ?_;refine Yz (Zm 60 [1,2,3] (Zdx _ _ _ _ _ _ _ _ _)) λf3 _=>go 1 ?_;refine Od (Ie 60 40 ([(W,x),(Y,y),(Z,z)].getD i C0) J J (Zj (show i<3 by omega)) J)<|Od (Mm 40 (q:=Yl 1 Zx (Yy ([(W,x),(Y,y),(Z,z)].getD i C0).1) (Zv i x y z)) (congrArg (Yl 1 Zx _) (Zt5 O)) J J)<|Ze (n:=8) [(3,0),(4,0),(5,1)]<|Qd J J (Qj (Yh (ii:=60) (i:=i) J J J J Zg Zwq Nf J (show i<3 by omega)))<|Qd J J (Qj (Qt (ii:=60) C0 J J J Zg pC (show i<3 by omega)))<|Yz (Zm 10 [40] (Zrn _ (Zv i x y z) hc O)) λg hg=>go 1 ?_;have t:Yi g.2=tzl (Zv i x y z):=hg;refine Ze (n:=7) [(7,1)]<|Yz (Zm 11 [10,84] (Zjh _ _ _ a (Zfi t b.v1) (Nat.le_trans b.b1 O3) (Zfj t b.v1 O3))) λb3 H=>go 1 ?_;have w:Yi b3.2=Zq (tzl (Zv i x y z)) a:=H.trans (by rw [t]);refine Ze (n:=6) [(9,1)]<|Yz (Zm 62 [4,5,6] (Zdx _ _ _ _ _ _ _ _ _)) λf4 _=>go 1 ?_;refine Od (Ie 62 41 ([(m,e),(o,f),(p,h)].getD i C0) J J (Zj (show i<3 by omega)) J)<|Od (Mm 41 (q:=Yl 1 Zx (Yy ([(m,e),(o,f),(p,h)].getD i C0).1) (Zv i e f h)) (congrArg (Yl 1 Zx _) (Zt5 O)) J J)<|Ze (n:=3) [(11,0),(12,0),(13,1)]<|Qd J J (Qj (Yh (ii:=62) (i:=i) J J J J Zg Zwq Nf J (show i<3 by omega)))<|Qd J J (Qj (Qt (ii:=62) C0 J J J Zg pC (show i<3 by omega)))<|Yz (Zm 12 [41] (Zrn _ (Zv i e f h) c1 O)) λb4 I=>go 1 ?_;have u:Yi b4.2=tzl (Zv i e f h):=I;refine Ze (n:=2) [(15,1)]<|Yz (Zm 13 [12,83] (Zjh _ _ _ c (Zfi u b.v2) (Nat.le_trans b.a1 O3) (Zfj u b.v2 O3))) λb5 M=>go 1 ?_;have B:Yi b5.2=Zq (tzl (Zv i e f h)) c:=M.trans (by rw [u]);refine Ze (n:=1) [(16,1)]<|Yz (Zm 14 [11,13] (Ydy _ _ _ _ (Zfi w b.v3) (Zfi B b.v4) (Zfj w b.v3 O3) (Zfj B b.v4 O3))) λb8 N=>go 1 ?_;have l:Yi b8.2=dfP (Zv i x y z) (Zv i e f h) c a:=N.trans (by rw [w,B];rfl);refine Ze (n:=0) [(17,3)]<|go 2 ?_;refine Zp<|go 5 ?_;refine cl 87 [14,14] (Ydz _ _ _ _ (Zfi l b.v5) (Zfj l b.v5 O3) (Zfi l b.v5) (Zfj l b.v5 O3)) λgt c2=>?_;refine tt (Qn (i:=15) (ivs:=[(0,_)]) (enc:=Lx) ([gt]:List TzT) J J K2 uT121 ti47 J J J J J pT.cells J J hw.h) (λf5 _=>?_);refine tt (Ny (i:=70) (j:=15) (by_:=24) J J J J J J O3 J (Yj pT) uT121 ti47 J pT J J J O8 O3 J hw.h) (λf6 _=>?_);refine go 9 ⟨O,?_⟩;exact Yd (Zk (q:=qT) (z:=gt) 71 87 71 J J J J J)<|Xb (i+1,_,ws ++ [gt]) ⟨O1,sqR_s D (c2.trans (by rw [l];rfl)),by rw [List.length_append,S];rfl⟩ O1 K2 K2
  .obtain rfl:i=3:=O;refine go 9 ?_;refine cl 88 [83,84] (Bh _ _ c a c7 Q) λf7 _=>Yp (Zz 16) λb2 _=>go 8 ?_;refine cl 89 [88,88] (Bh _ _ (c*a) (c*a) R R) λf8 _=>go 5 ?_;exact Yd (Ys 70 J J pT)<|Yd (Qy 70 71 72 J J J J)<|Me c8 (_,ws,_) results77 J D (Nb 72 (Nb 89 Za))
def Yec(v:Value)(zs:List (Int×SL))(hs:Sz 1000000 (Yi zs))(e:zs.length<=1000)(c:zs.length≠0->Yo (Yi zs)≠0):Cal prog 80 #[v] [pp v zs] true (G:=Value×List (Int×SL)) (λr=>Yi r.2=Zu (Yi zs)) (λr=>r.1) (λr=>[pp r.1 r.2]):=by
 refine Zf func80 ntmps80 λi h f a=>go 13 ?_;refine Zc J (λb=>?_) (λb=>?_)
 .refine go 7 ?_;exact Yd (Zdw 62)<|Xu a (.slice none 0 0,[]) results80 J (by rw [show zs=[]from List.eq_nil_of_length_eq_zero O];rfl) (Nb 62 Za)
 .refine go 5 ?_;refine cl 2 [1] (Znj _ _ hs c e) λg d=>go 4 ?_;exact Xu a _ results80 J d (Nb 2 Za)
end Go.Sky

