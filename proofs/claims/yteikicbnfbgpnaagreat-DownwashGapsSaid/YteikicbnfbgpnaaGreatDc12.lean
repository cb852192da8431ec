/- Rules, arithmetic and contracts: part 13. No conditions but those that each theorem names. -/
import Derived.Test.YteikicbnfbgpnaaGreatDc11
import Derived.ChangeKeysEq
import Derived.RangeFuncFrom
import Derived.RangeFuncLeaves
import Derived.OrdersIn
set_option linter.all false
set_option maxHeartbeats 4000000
namespace Go.Sky
open Go.Proofs.Tryz
open Go.Proofs
set_option synthInstance.maxHeartbeats 0
set_option synthInstance.maxSize 100000
set_option maxRecDepth 20000
set_option maxHeartbeats 1000000
set_option linter.unusedSimpArgs false
variable{xs y z c p q l1 l2 l3:List Int}{m i:Nat}{a d x ov:Int}{b:Bool}{M M0:Nat->Prop}{ops:Array Oper}{F:Ob->Hp->Prop}{rest:List (Nat×Nat)}{o:Oper}{u v:Value}{zs:List (SL×List Int)}{s:SL}{f:Nat->Value}{d0:SL×List Int}
theorem Zsn(fr V ov:Int)(W Y Z:Value)(x y z:List Int)(a d:Int)(g:Sgo fr V ov x y z)(h:0<=a/\a<=3600000)(n:1<=d/\d<=3600000):Xs prog 177 #[.agg #[.int .i64 fr,.int .i64 V,.int .i64 ov,W,Y,Z],.int .i64 a,.int .i64 d] [Yw 1 Yk W x,Yw 1 Yk Y y,Yw 1 Yk Z z] (plV (pl x a d/(gS ov a d x y z 3)) (pl y a d/(gS ov a d x y z 3)) (pl z a d/(gS ov a d x y z 3)) (ov*d^5/(gS ov a d x y z 3))):=by
 refine Zh func177 ntmps177 λw0 sc hw Q=>?_;have N:bl a.natAbs<=60:=(Qm 60 _).2 O;have I:bl d.natAbs<=60:=(Qm 60 _).2 O;have a0:=g.o1;have a1:=g.o2;obtain⟨k1,k2⟩:=Zug g h n 0;refine go 2 ?_;refine Yg (Yh 4) λbx _=>Yg (Yb 5) λR _=>go 4 ?_;refine Yg (Yb 6) λe _=>go 6 ?_;refine cl 6 [] (Zz ov) λ_ _=>go 1 ?_;refine cl 6 [] (Fm d 5 I O3 O3) λ_ _=>cl 6 [] (Bz ov (d^5) (aB ((Qm 40 _).2 O) (by decide:40<=30000)) (aB (Zh9 (a:=d) ⟨O,O⟩ (k:=5) O3) O3)) λ_ _=>Yg (Yb 7) λS _=>go 6 ?_;refine Yg (Yb 8) λt _=>go 7 ?_;refine cl 8 [1,2,3] (Zo8 _ _ _ _ _ _ _ _ _) λ_ _=>go 4 ?_;refine Zg (Nw 6 (q:=box e 166 (cellsOf wv (List.replicate 3 (0:Int))).toArray) (aF (box e 166) (show _=(cellsOf wv (List.replicate 3 (0:Int))).toArray from J)) J J)<|lp (G:=Nat) [1,2,6,7,8,9,22] [0,1,2,3,4,5,7] (λi=>[(23,.int .i64 (i:Int))]) (λi=>[(6,box e 166 (cellsOf wv (atS a d x y z i)).toArray),(8,box t 80 (wc (gS ov a d x y z i)))]) (λi=>i<=3) (λi=>3-i) 0 O1 K1 K2 ?_;rintro i hi;have r:=g.hc i;have P:=g.lc i;obtain⟨g1,B⟩:=Zug g h n i;refine go 6 ?_;refine Zd J (λD=>?_) (λD=>?_)
 .refine go 5 ?_;refine Zg (Ze1 i 1 2 3 50 J J J J J J)<|go 2 ?_;refine dt (Zu1 (i:=i) J J J underlying182 Zcg isAgg33 J)<|go 13 ?_;refine lp (G:=Nat) [1,2,6,7,8,9,10,22,23,27,28] [0,8,1,2,3,4,5,7,50] (λk=>[(29,.int .i64 (k:Int))]) (λk=>[(6,box e 166 (cellsOf wv ((atS a d x y z i).set i (plS (Zp i x y z) a d k))).toArray)]) (λk=>k<=(Zp i x y z).length) (λk=>(Zp i x y z).length-k) 0 O1 K1 ⟨by rw [show((atS a d x y z i).set i (plS (Zp i x y z) a d 0))=(atS a d x y z i)from(Yk4 a d x y z O).symm];rfl,aA⟩ ?_;rintro k hk;refine go 6 ?_;refine Zd J (λH=>?_) (λH=>?_)
  .refine go 13 ⟨O2,O2,?_⟩;refine Qg (λ_=>False) [(0,0),(1,0),(2,0),(3,0),(4,0),(6,0),(7,0),(9,0),(10,0),(11,0),(5,1),(8,1),(12,1),(13,1),(14,1),(15,1),(16,0),(17,3)]<|go 2 ?_;refine Xe J J (Xt (Gu (i:=i) J J J Znn Kh J))<|Xe J J (Xt (Ql (r':=wv (plS (Zp i x y z) a d k)) (Zu0 (i:=6) (enc:=wv) (j:=i) (l:=((atS a d x y z i).set i (plS (Zp i x y z) a d k))) 0 J J J pV (by rw [cL,Bj];omega)) (aF wv (Zst _ (by rw [Bj];omega)))))<|go 6 ⟨O,?_⟩;refine Yn (Zk 8 [] (Zz ((Zp i x y z).getD k 0) (Lh r k))) λ_ _=>Yn (Zk 8 [] (Fm a (k:Int) N O O)) λ_ _=>Yn (Zk 8 [] (Fm d (5-(k:Int)) I O O)) λ_ _=>Yn (Zk 8 [] (Bz (a^k) (d^(5-(k:Int)).toNat) (aB (Zh9 h O) O3) (aB (Zh9 (a:=d) ⟨O,O⟩ O) O3))) λ_ _=>Yn (Zk 8 [] (Bz ((Zp i x y z).getD k 0) (a^k*d^(5-(k:Int)).toNat) (aB (Ga (Lh r k)) O3) (aB (Zrq r h n (k:=k) O).1 O3))) λ_ _=>Yn (Zk 8 [] (Yfl (plS (Zp i x y z) a d k) (plT (Zp i x y z) a d k) (aB (Zdf r h n O) O3) (aB (Zrq r h n O).2 O3))) λ_ _=>?_;refine Xe J J (Xt (Gu (i:=i) J J J Znn Kh J))<|r3' J (t_sbe (i:=6) (j:=i) (k:=2) (enc:=wv) ((plS (Zp i x y z) a d k)+plT (Zp i x y z) a d k) J J J J J pV (by rw [cL,Bj];omega) J hw.h aA) (λ_ _=>?_);refine go 7 ⟨O,?_⟩;exact Yp (k+1) O1 O1 K1 ⟨by rw [List.set_set];rfl,aA⟩
  .obtain rfl:k=(Zp i x y z).length:=O;refine go 5 ?_;refine Qg (λ_=>False) [(0,0),(1,0),(2,0),(3,0),(4,1),(5,3)]<|go 2 ?_;refine Xe J J (Xt (Gu (i:=i) J J J Znn Kh J))<|Xe J J (Xt (Ql (r':=wv (pl (Zp i x y z) a d)) (Zu0 (i:=6) (enc:=wv) (j:=i) (l:=((atS a d x y z i).set i (pl (Zp i x y z) a d))) 0 J J J pV (by rw [cL,Bj];omega)) (aF wv (Zst _ (by rw [Bj];omega)))))<|Yn (Zk 8 [] (Zo7 (gS ov a d x y z i) (pl (Zp i x y z) a d) (aB B O3) (aB (Zdf r h n P.2) O3))) λ_ _=>?_;refine go 8 ⟨O,?_⟩;exact Yp (i+1) O1 O1 K1 K2
 .obtain rfl:i=3:=O;refine go 6 ?_;refine Qg (λ_=>False) [(0,0),(1,0),(2,0),(4,0),(5,0),(6,0),(8,0),(9,0),(10,0),(12,0),(13,0),(3,1),(7,1),(11,1),(14,1),(15,0),(16,3)]<|Xe J J (Xt (Gu (i:=0) J J J Znn Kh J))<|Xe J J (Xt (Ql (r':=wv (pl x a d)) (Zu0 (i:=6) (enc:=wv) (j:=0) (l:=(atS a d x y z 3)) 0 J J J pV (by rw [Bj];decide)) (aF wv J)))<|go 1 ?_;refine Xe J J (Xt (Gu (i:=1) J J J Znn Kh J))<|Xe J J (Xt (Ql (r':=wv (pl y a d)) (Zu0 (i:=6) (enc:=wv) (j:=1) (l:=(atS a d x y z 3)) 0 J J J pV (by rw [Bj];decide)) (aF wv J)))<|go 1 ?_;refine Xe J J (Xt (Gu (i:=2) J J J Znn Kh J))<|Xe J J (Xt (Ql (r':=wv (pl z a d)) (Zu0 (i:=6) (enc:=wv) (j:=2) (l:=(atS a d x y z 3)) 0 J J J pV (by rw [Bj];decide)) (aF wv J)))<|go 3 ?_;refine Yn (Zk 8 [] (Zhl (pl x a d) (gS ov a d x y z 3) (aB (Zdf g.hx h n g.lx.2) O3) (aB B O3) O)) λ_ _=>Yn (Zk 8 [] (Zhl (pl y a d) (gS ov a d x y z 3) (aB (Zdf g.hy h n g.ly.2) O3) (aB B O3) O)) λ_ _=>Yn (Zk 8 [] (Zhl (pl z a d) (gS ov a d x y z 3) (aB (Zdf g.hz h n g.lz.2) O3) (aB B O3) O)) λ_ _=>Yn (Zk 8 [] (Zhl (ov*d^5) (gS ov a d x y z 3) (aB k2 O3) (aB B O3) O)) λ_ _=>?_;refine Xe J J (Xt (Qy (ivs:=[(0,_),(1,_),(2,_),(3,_)]) J K8 (λa w hs=>Zov)))<|go 4 ?_;exact Xd Q () results177 J aA Za
def eg162:Tryz.prog.eqGuardType Tryz.prog.depth 162=false:=O7
theorem eqlP(w:World)(p q r o g h r' e:Int):(binOp .eql 162 (plV p q r o) (plV g h r' e)).run Tryz.prog w= .ok (.bool (decide (p=g/\q=h/\r=r'/\o=e))) w:=by
 have k:Tryz.prog.stoodInHeld 162=false:=O7;have j:Tryz.prog.underlying 162=some (.struct (Tryz.prog.fieldsOf 162)):=by unfold Program.fieldsOf;rw [Tryz.underlying162]
 rw [run_eql_struct,run_equalIn_agg w 9999 162 _ _ j k];unfold Program.fieldsOf;rw [Tryz.underlying162];simp [Op.eqFields,part,Tryz.isAgg80,Tryz.sizeOf80,in80,Yje];by_cases l:p=g<;>by_cases n:q=h<;>by_cases t:r=r'<;>by_cases B:o=e<;>simp_all
def litb(l:List Int):Bool:=(l.all λx=>decide (-1000000<=x) && decide (x<=1000000)) && (decide (tzl l=l) && decide (l.length<=25))
instance eokDec:∀f a b,Decidable (eok f a b)
 | 0,_,b=>inferInstanceAs (Decidable (b=[]))
 | f+1,a,b=>@instDecidableOr _ _ _ (@instDecidableAnd _ _ _ (eokDec f b (Zx (Xx a b))))
def lessx(xs:List Int)(m:Int):List Int:=Di xs (tzl [m])
def Zvq(xs:List Int)(m:Int):Prop:=∃x:Rat,0<=x/\x<=1/\Zf xs x<(m:Rat)
theorem Ydk{m n:Int}(h:Zvq xs m)(e:m<=n):Zvq xs n:=by
 obtain⟨x,a,b,c⟩:=h;have:(m:Rat)<=(n:Rat):=by exact_mod_cast e
 exact⟨x,a,b,O4⟩
def lws:List Int->Int
 | []=>0
 | c::p=>-(c.natAbs:Int)+lws p
theorem Yh7{n:Nat} : ∀p:List Int,(∀c∈p,c.natAbs<=n)->-((p.length*n:Nat):Int)<=lws p/\lws p<=0
 | [],_=>by show -((0*n:Nat):Int)<=0/\(0:Int)<=0;omega
 | c::p,h=>by have g:=Yh7 p λd e=>h d (bG _ e);have j:=h c bR;show -(((p.length+1)*n:Nat):Int)<=-(c.natAbs:Int)+lws p/\-(c.natAbs:Int)+lws p<=0;rw [dA];omega
theorem Zz2{x:Rat}(g:0<=x)(k:x<=1):∀p:List Int,((lws p:Int):Rat)<=Zf p x
 | []=>by show((0:Int):Rat)<=0;exact gJ
 | c::p=>by
  have j:=Zz2 g k p;have r:=(Yh7 (n:=p.foldl (λm c=>max m c.natAbs) 0) p (λc e=>by
   have:∀(l:List Int) (a:Nat),(a<=l.foldl (λm c=>max m c.natAbs) a)/\∀c∈l,c.natAbs<=l.foldl (λm c=>max m c.natAbs) a:=λl=>by
    induction l with
    | nil=>intro a;exact⟨aH _,λc e=>absurd e O5⟩
    | cons d l j=>
     intro a;obtain⟨h,B⟩:=j (max a d.natAbs);refine⟨aB (Nat.le_max_left _ _) h,λc e=>?_⟩;rcases bQ.1 e with rfl|e
     .exact aB (Nat.le_max_right _ _) h
     .exact B c e
   exact(this p 0).2 c e)).2
  have t:((lws p:Int):Rat)<=0:=by exact_mod_cast r
  have e:((-(c.natAbs:Int):Int):Rat)<=(c:Rat):=by exact_mod_cast (show -(c.natAbs:Int)<=c by omega)
  have D:=aJ (show 0<=1-x by grind) (show 0<=-((lws p:Int):Rat) by grind);have w:=aJ g (show 0<=Zf p x-((lws p:Int):Rat) by grind);show((-(c.natAbs:Int)+lws p:Int):Rat)<=(c:Rat)+x*Zf p x;push_cast at e ⊢;grind
theorem Yia(xs:List Int):¬Zvq xs (lws xs):=by rintro⟨x,a,b,c⟩;have:=Zz2 a b xs;grind
theorem Ymp(xs:List Int):Zf xs 0=((cf xs 0:Int):Rat):=by
 cases xs with
 | nil=>rfl
 | cons c p=>show(c:Rat)+0*Zf p 0=(c:Rat);grind
theorem Ydl(xs:List Int):Zvq xs (cf xs 0+1):=by refine⟨0,O4,O3,?_⟩;rw [Ymp];push_cast;grind
theorem Yng{l h:Int}(e:¬Zvq xs l)(g:Zvq xs h):l<h:=by
 rcases gY l h with q|q
 .exact q
 .exact absurd (Ydk g q) e
def Zsg(hs:Sz 40 xs)(i:Nat):(cf xs i).natAbs<1099511627776:=(Qm 40 _).1 (hs i)
theorem Yh6(hs:Sz 40 xs)(w:xs.length<=9)(i:Nat):-9895604649984<=lws (xs.take i)/\lws (xs.take i)<=0:=by
 obtain⟨l,g⟩:=Yh7 (n:=1099511627776) (xs.take i) λc h=>by
  obtain⟨k,j,rfl⟩:=eN.1 h;have t:=Zsg hs k;rw [aR]at j;have e:(xs.take i)[k]=cf xs k:=by rw [List.getElem_take];unfold cf;rw [aI,aN O];rfl
  rw [e];omega
 have r:(xs.take i).length*1099511627776<=9*1099511627776:=aK _ (by rw [aR];omega);exact⟨O,g⟩
structure FlI (xs:List Int) (lo hi:Int):Prop where
 l:¬Zvq xs lo
 h:Zvq xs hi
 b1:-17592186044416<=lo
 b2:hi<=17592186044416
def FlI.lt{lo hi:Int}(h:FlI xs lo hi):lo<hi:=Yng h.l h.h
theorem FlI.start(hs:Sz 40 xs)(e:xs.length<=9)(hi:xs.length<=i):FlI xs (lws (xs.take i)) (cf xs 0+1):=by have g:=Yh6 hs e i;have h:=Zsg hs 0;refine⟨by rw [bK hi];exact Yia xs,Ydl xs,O,O⟩
structure Ef (a:R2):Prop where
 p:0<a.2
 b1:bl a.1.natAbs<=512
 b2:bl a.2.natAbs<=512
def E32.ef{a:R2}(h:E32 a):Ef a:=⟨h.p,aB h.b1 O3,aB h.b2 O3⟩
def plx(a b:R2):Int:=a.1*b.2
def ply(a b:R2):Int:=b.1*a.2
def pld(a b:R2):Int:=a.2*b.2
def plc(xs:List Int)(a b:R2):List Int:=Lc xs (plx a b) (ply a b-plx a b) (pld a b)
def psum(c:List Int)(d j:Nat)(i:Nat):Int:=Ye (λi=>cf c i*(Oq (d-i) (j-i):Int)) i
def plainB(xs:List Int)(a b:R2):Bool:=if xs.length=0 then true else(List.range xs.length).all λj=>decide (0<=psum (plc xs a b) (xs.length-1) j (min (j+1) (plc xs a b).length))
abbrev PTs:=Int×R2×R2
abbrev P0:PTs:=(0,(0,0),(0,0))
abbrev encP9 (z:PTs):Value:= .agg #[.int .i64 z.1,.bool (decide (z.2.1.1<0)),.string (Qv z.2.1.1.natAbs),.bool (decide (z.2.1.2<0)),.string (Qv z.2.1.2.natAbs),.bool (decide (z.2.2.1<0)),.string (Qv z.2.2.1.natAbs),.bool (decide (z.2.2.2<0)),.string (Qv z.2.2.2.natAbs)]
def shw(xs:List Int)(z:PTs):Bool:=if z.1=1 then plainB xs z.2.1 z.2.2 else if xs.length=0\/cmp z.2.1 z.2.2=0 then decide (0<=vlu (Pg xs) z.2.1)else decide (0<aft (Pg xs) z.2.1) && !crb (Ct xs) z.2.1 z.2.2
def okpB(xs:List Int)(l:R2)(z:PTs):Bool:=decide (cmp l z.2.1=0) && decide (¬0<cmp z.2.1 z.2.2) && shw xs z
def lst(a:R2)(ps:List PTs)(i:Nat):R2:=if i=0 then a else(ps.getD (i-1) P0).2.2
def chkP(xs:List Int)(ps:List PTs)(a b:R2):Bool:=decide (0<ps.length) && (List.range ps.length).all (λk=>okpB xs (lst a ps k) (ps.getD k P0)) && decide (cmp (lst a ps ps.length) b=0)
def ValP(ps:List PTs):Prop:=∀z∈ps,(z.1=1\/z.1=2)/\Ef z.2.1/\Ef z.2.2
theorem Ef.efit{a:R2}(h:Ef a):Go.Sky.efit a=true:=by have:=h.b1;have:=h.b2;unfold Go.Sky.efit;exact aL O
theorem Zxx(h:(!b)=true):b=false:=by cases b<;>simp_all
theorem Zxy(h:(!b)=false):b=true:=by cases b<;>simp_all
theorem Bq {P:Program} {N:Nat} {sc:Nat->Prop} {env:Ob} {H:Hp}      {d j e:Nat}  (B:ops[i]? = some o) (r:o.guard=some (j,b)) (t:(ops[j]?).bind (·.dst)=some e) (n:lk env e=some undef) (l:o.dst=some d) 
  (h:LD P N sc M ops F rest ((d,undef)::env) H) (k:Nat.blt d N=true:=by rfl):LD P N sc M ops F ((i,2)::rest) env H:=⟨o,d,B,l,k,λa w g=>by simp [Region.wanted,r,g.yieldedu t n],h⟩
theorem Yfj(fr k ov e l h:Int)(Q R S r t B:Value)(x y z G H I:List Int)(V:Sgo fr k ov x y z)(D:Sgo e l h G H I):Xs prog 159 #[.agg #[.int .i64 fr,.int .i64 k,.int .i64 ov,Q,R,S],.agg #[.int .i64 e,.int .i64 l,.int .i64 h,r,t,B]] [Yw 1 Yk Q x,Yw 1 Yk R y,Yw 1 Yk S z,Yw 1 Yk r G,Yw 1 Yk t H,Yw 1 Yk B I] (.bool (Zlo k ov x y z e h G H I)):=by
 refine Zh func159 ntmps159 λZ Y P j=>go 2 ?_;refine Yg (Yh 7) λW _=>Yg (Yh 8) λN _=>go 4 ?_;rcases(show k=e\/k≠e by omega)with g|g
 .refine Qg (λ_=>False) [(0,0),(1,0),(2,0),(3,0),(4,0),(5,0),(6,0),(8,0),(7,1),(9,1),(10,0),(11,0),(12,3)]<|go 4 ?_;refine Xe J J (Xt (dT (Yjy J J J) (vB (aL g))))<|go 3 ?_;refine Zi1 J J J J J (Xb (n:=8) (Zsn _ _ _ _ _ _ _ _ _ 1 1 V ⟨O3,O3⟩ ⟨O3,O3⟩) J J J K3 call177 (Zm 1 J J J (Zm 2 J J J (Zm 3 J J J Zo))) J P.h) (λ_ _=>?_);refine Zi1 J J J J J (Xb (n:=8) (Zsn _ _ _ _ _ _ _ _ _ 0 1 D ⟨O3,O3⟩ ⟨O3,O3⟩) J J J K3 call177 (Zm 4 J J J (Zm 5 J J J (Zm 6 J J J Zo))) J P.h) (λ_ _=>?_);refine Co (Xt (Ya7 J J J eg162 (λw=>eqlP w _ _ _ _ _ _ _ _))) J J J J J<|go 5 ?_;exact Xd j () results159 (by unfold Zlo;rw [aL g];rfl) aA Za
 .refine Qg (λ_=>False) [(0,0),(1,0),(2,0),(3,0),(4,0),(5,0),(6,2),(8,2),(7,2),(9,2),(10,2),(11,0),(12,3)]<|go 4 ?_;refine Xe J J (Xt (dF (Yjy J J J) (vB (aM g))))<|go 11 ?_;exact Xd j () results159 (by unfold Zlo;rw [aM g];rfl) aA Za
theorem Ea(v:Value)(ps:List Zt)(N:∀g∈ps,Gin g):Xs prog 89 #[v] [Qh 6 Qw qG v ps] (.bool (Pi ps)):=by
 refine Zh func89 ntmps89 λS R P l=>?_;refine Pv (Le (i:=1) J Zc) λI=>go 14 ?_;refine lp (G:=Nat) [0,5,6] [0,1] (λi=>[(7,.int .i64 (i:Int))]) (λi=>[]) (λi=>(i<=ps.length)/\(∀k,k<i->Zee ps k=true)) (λi=>ps.length-i) 0 ⟨O1,λk t=>absurd t (cI k)⟩ K1 aA ?_;rintro i ⟨hi,t⟩;refine go 6 ?_;refine Zd J (λw=>?_) (λw=>?_)
 .refine go 5 ?_;have h:=N _ (Ze (d:=G0) (show i<ps.length by omega));refine Zg (Pd (g:=(ps.getD i G0)) (z:=(ps.getD i G0).2.1) 1 51 J J (Ze) O5)<|Zg (Pd (g:=(ps.getD i G0)) (z:=(ps.getD i G0).2.2.1) 1 52 J J (Ze) O5)<|Zg (Pd (g:=(ps.getD i G0)) (z:=(ps.getD i G0).2.2.2) 1 53 J J (Ze) O5)<|go 3 ⟨O2,?_⟩;refine dt (Xl (ii:=1) G0 J J J Zc pG O2)<|Yg (Yb 2) λQ _=>go 5 ?_;rcases Znx (ps.getD i G0) i with e|⟨e,j⟩|⟨e,j⟩
  .refine Qg (λ_=>False) [(0,0),(1,1),(2,0),(3,0),(4,2),(5,2),(6,2),(7,2),(8,2),(9,2),(10,2),(11,2),(12,2),(13,2),(14,2),(15,2),(16,0)]<|go 1 ?_;refine Yn (Zk 2 [51,52,53] (Zck _ _ _ _ _ _ _ _ _ h.f h.t h.o h.x h.y h.z)) λ_ _=>?_;refine Xe J J (Xt (dT (Xc J J) (vB (by rw [show Cg _ _ _ _ _ _=_ from e];rfl))))<|go 4 ?_;refine Bq J J J J J<|Bq J J J J J<|Bq J J J J J<|Bq J J J J J<|Bq J J J J J<|Bq J J J J J<|Bq J J J J J<|Bq J J J J J<|go 16 ?_;exact Xd l () results89 (by rw [Zf8 (i:=i) O (Yhl e)]) aA Za
  .refine Qg (λ_=>False) [(0,0),(1,1),(2,0),(3,0),(4,0),(5,0),(6,0),(7,2),(8,2),(9,2),(10,2),(11,2),(12,2),(13,2),(14,2),(15,0),(16,0)]<|go 1 ?_;refine Yn (Zk 2 [51,52,53] (Zck _ _ _ _ _ _ _ _ _ h.f h.t h.o h.x h.y h.z)) λ_ _=>?_;refine Xe J J (Xt (dF (Xc J J) (vB (by rw [show Cg _ _ _ _ _ _=_ from e];rfl))))<|go 2 ?_;refine Co (Xt (dF (Zba J J J) (vB (aM O)))) J J J J J<|go 21 ⟨O,?_⟩;exact Yp (i+1) ⟨O1,λk H=>by rcases bM.1 H with r|r;exact t k r;subst r;exact Yhm e j⟩ O1 K1 aA
  .refine Zg (Pd (g:=(ps.getD (i-1) G0)) (z:=(ps.getD (i-1) G0).2.1) 1 54 J J (Ze) O5)<|Zg (Pd (g:=(ps.getD (i-1) G0)) (z:=(ps.getD (i-1) G0).2.2.1) 1 55 J J (Ze) O5)<|Zg (Pd (g:=(ps.getD (i-1) G0)) (z:=(ps.getD (i-1) G0).2.2.2) 1 56 J J (Ze) O5)<|Qg (λ_=>False) [(0,0),(1,1),(2,0),(3,0),(4,0),(5,0),(6,0),(7,0),(8,0),(9,0),(10,0),(11,0),(12,0),(13,1),(14,0),(15,0),(16,0)]<|go 1 ?_;refine Yn (Zk 2 [51,52,53] (Zck _ _ _ _ _ _ _ _ _ h.f h.t h.o h.x h.y h.z)) λ_ _=>?_;refine Xe J J (Xt (dF (Xc J J) (vB (by rw [show Cg _ _ _ _ _ _=_ from e];rfl))))<|go 2 ?_;refine Co (Xt (dT (Zba J J J) (vB (aL O)))) J J J J J<|go 4 ⟨O,?_⟩;refine Co (Xt (Zv (ii:=1) (i:=(i-1)) J J J J Zc Kp Hh)) J J J J J<|Co (Xt (Xl (ii:=1) G0 J J J Zc pG)) J J J J J<|go 1 ?_;refine Zi1 J J J J J (Xb (n:=2) (Yfj _ _ _ _ _ _ _ _ _ _ _ _ _ _ _ _ _ _ (Ib (N _ (Ze)) (Zbx (t (i-1) O))) (Ib h e)) J J J K2 call159 (Zm 54 J J J (Zm 55 J J J (Zm 56 J J J (Zm 51 J J J (Zm 52 J J J (Zm 53 J J J Zo)))))) J P.h) λ_ _=>go 5 ?_;refine Lj J (λB=>?_) (λB=>?_)
   .refine go 11 ?_;exact Xd l () results89 (by rw [Zf8 (i:=i) O ((Zhv e j).trans (Zxx ‹_›))]) aA Za
   .refine go 7 ⟨O,?_⟩;exact Yp (i+1) ⟨O1,λk H=>by rcases bM.1 H with r|r;exact t k r;subst r;exact(Zhv e j).trans (Zxy ‹_›)⟩ O1 K1 aA
 .obtain rfl:i=ps.length:=O;refine go 11 ?_;refine Yt (d:=33) J (λD=>?_) (λD=>?_)
  .refine go 8 ?_;exact Xd l () results89 (by rw [Zjp t];first|exact vB (bJ.2 O)|exact vB (aM O)) aA Za
  .refine go 8 ?_;exact Xd l () results89 (by rw [Zjp t];first|exact vB (bJ.2 O)|exact vB (aM O)) aA Za
abbrev Yi0 (o:Nat) (m:Int) (g:Zt):List Int:=formP o m g.1.2.2 (g.1.2.1-g.1.1) g.2.1.2 g.2.2.1.2 g.2.2.2.2
def Yig(o:Nat)(ps:List Zt)(m:Int):Bool:=ps.all λg=>!Gl (Yi0 o m g)
def Yl4(p:Nat->Bool):Nat->Nat->Nat->Nat
 | 0,i,_=>i
 | f+1,i,j=>if i<j then(if p ((i+j)/2)then Yl4 p f i ((i+j)/2)else Yl4 p f ((i+j)/2+1) j)else i
def Ylw(o:Nat)(ps:List Zt):Nat:=Yl4 (λn=>Yig o ps (n:Int)) 14 0 10001
def joG(g h:Zt):Bool:=joinB g.1.1 g.1.2.1 g.1.2.2 g.2.1.2 g.2.2.1.2 g.2.2.2.2 h.1.1 h.1.2.1 h.1.2.2 h.2.1.2 h.2.2.1.2 h.2.2.2.2
def joAll(ps:List Zt):Bool:=(List.range ps.length).all λi=>decide (i=0) || joG (ps.getD (i-1) G0) (ps.getD i G0)
def topV(ps:List Zt):Int×Int×Int:=
 if 10000<Ylw 1 ps\/10000<Ylw 2 ps then(0,0,3)else if joAll ps then((Ylw 1 ps:Int),(Ylw 2 ps:Int),0)else(0,0,10)
theorem Zp1{ps:List Zt}(l:∀g∈ps,Gin g)(k:Pi ps=true):∀g∈ps,SgG g:=λg j=>by obtain⟨i,hi,e⟩:=eN.1 j;have h:=Zbx ((Gg k).1 i hi);rw [aI,aN hi,fP,e]at h;exact Ib (l g j) h
def g8(g:Zt):Bool:=decide (g.2.1.2.length<=8) && decide (g.2.2.1.2.length<=8) && decide (g.2.2.2.2.length<=8)
def Zcf(ps:List Zt)(m:Nat):Bool:=(List.range ps.length).all (λi=>decide (m<i) || g8 (ps.getD i G0)) && decide (ps.length<=m)
theorem g8_t{g:Zt}(e:g.2.1.2.length<=8)(h:g.2.2.1.2.length<=8)(j:g.2.2.2.2.length<=8):g8 g=true:=by unfold g8;rw [aL e,aL h,aL j];rfl
theorem g8_f{g:Zt}(h:¬(g.2.1.2.length<=8/\g.2.2.1.2.length<=8/\g.2.2.2.2.length<=8)):g8 g=false:=by
 cases hb:g8 g with
 | false=>rfl
 | true=>
  unfold g8 at hb;simp only [aS,dW]at hb;exact absurd ⟨hb.1.1,hb.1.2,hb.2⟩ h
theorem Zw5{ps:List Zt}(hi:i<ps.length)(e:i<=m)(h:g8 (ps.getD i G0)=false):Zcf ps m=false:=by
 cases hb:Zcf ps m with
 | false=>rfl
 | true=>
  unfold Zcf at hb;rw [aS]at hb;have:=cP.1 hb.1 i (fX.2 hi);rw [h,aM O]at this;cases this
theorem Yi7{ps:List Zt}{n:Nat}(e:n=ps.length\/m<n)(h:∀k,k<n->g8 (ps.getD k G0)=true):Zcf ps m=decide (ps.length<=m):=by
 unfold Zcf;rw [cP.2 λi hi=>by
  have hi:=fX.1 hi;rcases bA m i with q|q
  .rw [aL q];rfl
  .rw [h i O,Bool.or_true]]
 rfl
theorem Yow:∀n,n<=5->∀i,i<n->(Oq n i:Int)*((n:Int)-(i:Int))/((i:Int)+1)=(Oq n (i+1):Int):=by intro n g i hi;have e:∀n,n<6->∀i,i<n->(Oq n i:Int)*((n:Int)-(i:Int))/((i:Int)+1)=(Oq n (i+1):Int):=O6;exact e n O i hi
theorem Bf(v:Value)(ps:List Zt)(m:Nat):Xs prog 20 #[v,.int .i64 (m:Int)] [Qh 6 Qw qG v ps] (.bool (Zcf ps m)):=by
 refine Zh func20 ntmps20 λP N I e=>?_;refine Pv (Le (i:=1) J Zc) λD=>go 12 ?_;refine lp (G:=Nat) [0,1] [0,1] (λi=>[(5,.int .i64 (i:Int))]) (λi=>[]) (λi=>(i<=ps.length)/\(∀k,k<i->g8 (ps.getD k G0)=true)) (λi=>ps.length-i) 0 ⟨O1,λk r=>absurd r (cI k)⟩ K1 aA ?_;rintro i ⟨hi,r⟩;refine go 8 ?_;refine Yt (d:=10) J (λt=>?_) (λt=>?_)
 .refine go 6 ?_;refine Zd J (λj=>?_) (λj=>?_)
  .refine go 5 ?_;refine Zg (Pd (g:=(ps.getD i G0)) (z:=(ps.getD i G0).2.1) 1 51 J J (Ze) O5)<|Zg (Pd (g:=(ps.getD i G0)) (z:=(ps.getD i G0).2.2.1) 1 52 J J (Ze) O5)<|Zg (Pd (g:=(ps.getD i G0)) (z:=(ps.getD i G0).2.2.2) 1 53 J J (Ze) O5)<|go 3 ?_;refine dt (Zv (ii:=1) (i:=i) J J J J Zc Kp Hh J)<|dt (Kd (ii:=1) J J J Zc Bw J Zcg J)<|dt (Kc (ii:=1) G0 J J J Zc isAgg33 J)<|go 3 ?_;refine Yt (d:=24) J (λw=>?_) (λw=>?_)
   .refine go 31 ?_;exact Xd e () results20 (by rw [Zw5 (i:=i) O O (g8_f O)]) aA Za
   .refine go 2 ?_;refine Fa (Zv (ii:=1) (i:=i) J J J J Zc Kp Hh J) J J<|Fa (Kd (ii:=1) J J J Zc Bw J Zcg J) J J<|Fa (Kc (ii:=1) G0 J J J Zc isAgg33 J) J J<|go 4 ?_;refine Yt (d:=33) J (λh=>?_) (λh=>?_)
    .refine go 22 ?_;exact Xd e () results20 (by rw [Zw5 (i:=i) O O (g8_f O)]) aA Za
    .refine go 2 ?_;refine Fa (Zv (ii:=1) (i:=i) J J J J Zc Kp Hh J) J J<|Fa (Kd (ii:=1) J J J Zc Bw J Zcg J) J J<|Fa (Kc (ii:=1) G0 J J J Zc isAgg33 J) J J<|go 5 ?_;refine Zd J (λl=>?_) (λl=>?_)
     .refine go 11 ?_;exact Xd e () results20 (by rw [Zw5 (i:=i) O O (g8_f O)]) aA Za
     .refine go 8 ⟨O,?_⟩;exact Yp (i+1) ⟨O1,λk H=>by rcases bM.1 H with B|B;exact r k B;subst B;exact g8_t O O O⟩ O1 K1 aA
  .refine go 15 ?_;exact Xd e () results20 (by rw [Yi7 (n:=i) O r];exact vB (bJ.2 O)) aA Za
 .refine go 22 ?_;exact Xd e () results20 (by rw [Yi7 (n:=i) O r];exact vB (bJ.2 O)) aA Za
theorem Zk6(n k:Nat)(h:n<=5)(t:k<=n):Xs prog 199 #[.int .i64 (n:Int),.int .i64 (k:Int)] [] (.int .i64 (Oq n k:Int)):=by
 refine Zh func199 ntmps199 λD B w g=>go 17 ?_;refine lp (G:=Nat) [0,1] [0] (λi=>[(6,.int .i64 (i:Int)),(5,.int .i64 (Oq n i:Int))]) (λi=>[]) (λi=>i<=k) (λi=>k-i) 0 O1 ⟨J,by cases n<;>rfl,aA⟩ aA ?_;rintro i hi;refine go 8 ?_;refine Zd J (λe=>?_) (λe=>?_)
 .refine go 4 ?_;have r:=Zrg (n:=n) (k:=i) h;have j:(0:Int)<=(Oq n i:Int)*((n:Int)-(i:Int)):=eJ O O;have l:=kD (show(Oq n i:Int)<=32 by omega) (show(n:Int)-(i:Int)<=5 by omega) O O3;refine go 8 ⟨O,O,O,?_⟩;refine dt (Zes J J J)<|go 9 ⟨O,?_⟩;exact Yp (i+1) O1 O1 ⟨J,by rw [Yow n h i O];rfl,aA⟩ aA
 .obtain rfl:k=i:=O;refine go 12 ?_;exact Xd g () results199 J aA Za
theorem Zpq(v:Value)(c:List Int)(g:∀x∈c,Nx x)(V:1<=c.length)(hl:c.length<=6):Cal prog 142 #[v] [Yw 1 Yk v c] true (G:=Value×List (Int×SL)) (λr=>Zb r.2=mk c.length λt=>ctl c t (t+1)) (λr=>r.1) (λr=>[pp r.1 r.2]):=by
 refine Zh func142 ntmps142 λw0 sc Q B=>?_;refine go 14 ⟨O,?_⟩;refine Zg (Kb 3 (v':= .int .i64 ((c.length-1:Nat):Int)) J (by congr 1;omega))<|go 11 ?_;refine Zg (Qr 70 2 89 Mg)<|Zg (Yy qI 71)<|lp (G:=Nat×Value×List (Int×SL)) [0,3] [0,1] (λq=>[(5,.int .i64 (q.1:Int)),(4,q.2.1)]) (λq=>[(70,On 2 89 Mg q.2.1 q.2.2),(71,Mc qI q.2.2)]) (λq=>(q.1<=c.length)/\(Zb q.2.2=mk q.1 (λt=>ctl c t (t+1)))/\(q.2.2.length=q.1)) (λq=>c.length-q.1) (0,.slice none 0 0,[]) ⟨O1,rfl,rfl⟩ K2 K2 ?_;rintro⟨i,vo,P⟩ ⟨hi,H,e⟩;dsimp only at hi H e;dsimp only;refine go 8 ?_;refine Zd J (λh=>?_) (λh=>?_)
 .refine go 6 ?_;refine dt (Qy (ivs:=[]) J aA (λa w hs=>Zx5))<|Yg (Yb 97) λR _=>go 10 ?_;refine Zg (Qr 98 1 3 Kv)<|Zg (Xi 98 J J pN)<|lp (G:=Nat×Value) [0,3,4,5,6] [0,70,71,1] (λq=>[(7,.int .i64 (q.1:Int))]) (λq=>[(97,box R 89 #[.bool (decide (ctl c i q.1<0)),q.2]),(98,Ow q.2 (ctl c i q.1).natAbs)]) (λq=>q.1<=i+1) (λq=>i+1-q.1) (0,.slice none 0 0) O1 K1 K2 ?_;rintro⟨k,vs⟩ S;dsimp only at S;dsimp only;refine go 8 ?_;refine Zd J (λl=>?_) (λl=>?_)
  .refine go 4 ?_;have W:=Zvs (n:=c.length-1) (j:=i) (k:=k) O;refine Qg (λ_=>False) [(0,0),(1,0),(2,0),(3,0),(4,0),(6,0),(7,0),(10,0),(11,0),(5,1),(8,1),(9,0),(12,1),(13,0),(14,1),(15,1),(16,1),(17,3)]<|go 3 ?_;refine Xe J J (Xt (Zv (ii:=1) (i:=k) J J J J Zq Pr Ij J))<|go 5 ⟨O,?_⟩;refine Yn (Zk 2 [] (Pq (c.getD k 0) (Lh g k))) λv _=>Yn (Zk 2 [] (Zk6 (c.length-1) k O O)) λ_ _=>?_;refine Xe J J (Xt (Zes J J J O3 O3 (by have:=Zjz (n:=c.length-1) (k:=k) O;omega)))<|Yn (Zk 2 [] (Zk6 i k O O)) λ_ _=>?_;refine go 1 ⟨show Nx (w60 (c.length-1) i k)from⟨O,O⟩,?_⟩;refine Yn (Zk 3 [] (Pq (w60 (c.length-1) i k))) λY _=>Yn (Zk 4 [2,3] (Ld _ _ (c.getD k 0) (w60 (c.length-1) i k) (aB (Ga (Lh g k)) O3) (aB (Zmp O) O3))) λZ _=>Yn (Zk 5 [98,4] (Zk4 _ _ (ctl c i k) (c.getD k 0*(w60 (c.length-1) i k)) (aB (Zdh g O O) O3) (aB (Yo _ _) (by have h1:=Ga (Lh g k);have h2:=Zmp (n:=c.length-1) (j:=i) (k:=k) O;omega)))) λN _=>?_;refine go 9 ⟨O,?_⟩;exact Zr (Xn 5 98 J J J)<|Yp (k+1,N) O1 O1 K1 K2
  .obtain rfl:k=i+1:=O;refine go 5 ?_;refine Zeg (Qs 98 J Zq) (λI D=>?_);subst D;refine go 3 ?_;refine tt (Xw (i:=73) (ivs:=[(0,_)]) (enc:=Mg) [(ctl c i (i+1),I)] J J K2 Zhe ti89 J J J J J pI.cells J J Q.h) (λa0 _=>?_);refine tt (Oc (xs:=P) (ys:=[_]) (i:=70) (j:=73) (by_:=32) J J J J J J O3 J (Yd pI) Zhe ti89 J pI J J J O8 O3 J Q.h) (λa1 _=>?_);refine go 9 ⟨O,?_⟩;exact Zr (Zu (q:=qI) (z:=(ctl c i (i+1),I)) 71 98 71 J J J J J)<|Yp (i+1,_,P ++ [(ctl c i (i+1),I)]) ⟨O1,by rw [Mx,Gy,H],by simp [e]⟩ O1 K2 K2
 .refine go 6 ?_;refine Zg (Xi 70 J J pI)<|Zg (Qc 70 71 72 J J J J)<|go 6 ?_;exact Xd B (_,P) results142 J (by rw [H,show i=c.length by omega]) (Pt 72 Za)
def pC:Enc Tryz.prog 33 1 (Nf (α:=List Int)):=Enc.flat Tryz.sizeOf33 Tryz.isAgg33 (λ_=>rfl)
abbrev C0:SL×List Int:=((none,0,0),[])
theorem Dg(fr l ov:Int)(e g h:SL)(x y z:List Int):Cal prog 141 #[.agg #[.int .i64 fr,.int .i64 l,.int .i64 ov,Xq e,Xq g,Xq h]] [Yw 1 Yk (Xq e) x,Yw 1 Yk (Xq g) y,Yw 1 Yk (Xq h) z] true (G:=Value) (λr=>True) (λr=>r) (λr=>[Qh 1 (Nf (α:=List Int)) qC r [(e,x),(g,y),(h,z)]]):=by refine Zh func141 ntmps141 λw t k j=>go 2 ?_;refine Yg (Yh 4) λn _=>go 11 ?_;refine tt (Xw (i:=5) (ivs:=[(0,_),(1,_),(2,_)]) (enc:=(Nf (α:=List Int))) ([(e,x),(g,y),(h,z)]:List (SL×List Int)) J J K6 Ap ti33 J J J J J pC.cells J J k.h) λv _=>go 4 ?_;exact Zr (Xi 5 J J pC)<|Zr (Yy qC 71)<|Zr (Zu (q:=qC) (z:=(e,x)) 71 1 71 J J J J J)<|Zr (Zu (q:=qC) (z:=(g,y)) 71 2 71 J J J J J)<|Zr (Zu (q:=qC) (z:=(h,z)) 71 3 71 J J J J J)<|Zr (Qc 5 71 72 J J J J)<|Xd j _ results141 J aA (Pt 72 Za)
theorem getD3{α:Type}{a b c d:α}(h:i<3):[a,b,c].getD i d=Zp i a b c:=by
 match i,h with
 | 0,_=>rfl
 | 1,_=>rfl
 | 2,_=>rfl
theorem Yfy{α β:Type}(i:Nat)(a b c:α×β):(Zp i a b c).2=Zp i a.2 b.2 c.2:=by unfold Zp;split<;>rfl
theorem Zha{e g j:SL}{x:List Int}{d:SL×List Int}(h:i<3):([(e,x),(g,y),(j,z)].getD i d).2=Zp i x y z:=by rw [getD3 h,Yfy]
theorem Zv0{b:Int} : 0<(a-b).sign↔b<a:=by rw [sgp];omega
theorem Yfr{b:Int} : (a-b).sign<0↔a<b:=by rw [Pf];omega
def Yoi(t m:Int):m<t\/(¬m<t/\t < -m)\/(¬m<t/\¬t < -m):=O
def axc(c:List Int):Bool:=!(decide (1<=c.length) && decide (c.length<=6) && !(decide (1<c.length) && decide (c.getD (c.length-1) 0=0)))
theorem axc_f(h:b=axc c)(e:b=false):1<=c.length/\c.length<=6/\¬(1<c.length/\c.getD (c.length-1) 0=0):=by subst h;unfold axc at e;simp only [Bool.not_eq_false',aS,gC,iW,dW,gD]at e;exact⟨e.1.1,e.1.2,λh=>by rcases e.2 with q|q;exact q h.1;exact q h.2⟩
theorem axc_t(h:b=axc c)(e:b=true):axB c ov=false:=by
 cases ha:axB c ov with
 | false=>rfl
 | true=>
  exfalso;unfold axB at ha;rw [aS]at ha;have:axc c=false:=by unfold axc;rw [ha.1];rfl
  rw [h,this]at e;cases e
theorem Yb6(h:¬1<=c.length):true=axc c:=by unfold axc;rw [aM h];rfl
theorem Yb5(h:¬c.length<=6):true=axc c:=by unfold axc;rw [aM h,mZ];rfl
theorem Yb4(e:1<=c.length)(g:c.length<=6)(h:¬1<c.length):false=axc c:=by unfold axc;rw [aL e,aL g,aM h];rfl
theorem Yb3(e:1<=c.length)(g:c.length<=6)(h:1<c.length):decide (c.getD (c.length-1) 0=0)=axc c:=by unfold axc;rw [aL e,aL g,aL h];simp
theorem Ypg(h:bl ov.natAbs<=64):bl (62914560*ov).natAbs<=100:=by have e:=Yo 62914560 ov;have g:bl (62914560:Int).natAbs<=30:=O3;omega
theorem Zdv(fr to ov:Int)(sx sy sz:SL)(x y z:List Int)(c6:Nx fr)(c7:Nx to)(t:Nx ov)(w:∀a∈x,Nx a)(B:∀a∈y,Nx a)(D:∀a∈z,Nx a):Xs prog 75 #[.agg #[.int .i64 fr,.int .i64 to,.int .i64 ov,Xq sx,Xq sy,Xq sz]] [Yw 1 Yk (Xq sx) x,Yw 1 Yk (Xq sy) y,Yw 1 Yk (Xq sz) z] (.bool (Cg fr to ov x y z)):=by
 refine Zh func75 ntmps75 λw0 sc R h=>?_;have a7:=Ga t;have l:=Ypg a7;have a8:=λi k=>bl_fc w B D a7 i k;have I:=λi=>a8 i 0;simp only [dS,Ny]at I;refine go 2 ?_;refine Yg (Yh 4) λbx _=>go 10 ?_;refine Yt (d:=13) J (λb5=>?_) (λb5=>?_)
 .refine go 31 ?_;exact Xd h () results75 (by rw [Zan O]) aA Za
 .refine go 7 ?_;refine Yt (d:=20) J (λV=>?_) (λV=>?_)
  .refine go 24 ?_;exact Xd h () results75 (by rw [Zan O]) aA Za
  .refine go 5 ?_;refine Yt (d:=25) J (λW=>?_) (λW=>?_)
   .refine go 19 ?_;exact Xd h () results75 (by rw [Zan O]) aA Za
   .refine go 5 ?_;refine Yt (d:=30) J (λY=>?_) (λY=>?_)
    .refine go 14 ?_;exact Xd h () results75 (by rw [Zan O]) aA Za
    .refine go 6 ?_;refine Zd J (λb1=>?_) (λb1=>?_)
     .refine go 7 ?_;exact Xd h () results75 (by rw [Zan O]) aA Za
     .refine go 6 ?_;refine cl 98 [] (Pq ov t) λv _=>Yg (Yb 97) λH _=>go 3 ?_;refine jn (G:=Nat×Value) [1,3] [0,1,2,3,4,98,97] (λq=>[(4,.pointer (some ⟨q.1,0,none⟩))]) (λq=>[(95,box q.1 89 #[.bool (decide (62914560*ov<0)),q.2]),(96,Ow q.2 (62914560*ov).natAbs)]) (λq=>True) ?_ ?_
      .refine Li (λ_=>False) [6]<|Zj (n:=5) [(1,0),(2,0)]<|go 3 ?_;refine Qj (n:=4) 0 5 ?_ ?_
       .refine Pz (Zk 5 [] (Pq 62914560 ⟨O3,O3⟩)) λc8 _=>?_;refine Qj (n:=3) 3 5 ?_ ?_
        .refine Pz (Zk 6 [] (Pq ov t)) λc9 _=>?_;refine Qj (n:=2) 4 5 ?_ ?_
         .refine Pz (Zk 96 [5,6] (Ld _ _ 62914560 ov O3)) λb7 _=>?_;refine Zj (n:=0) [(5,1),(6,3)]<|Yn (Yb 95) λa1 _=>go 2 ?_;exact Zn<|Po (a1,b7) aA K1 K2
         .refine Pz (Yb 95) λa2 _=>?_;refine Zj (n:=0) [(4,1),(6,3)]<|Yn (Zk 96 [5,6] (Ld _ _ 62914560 ov O3)) λb8 _=>go 2 ?_;exact Zn<|Po (a2,b8) aA K1 K2
        .refine Pz (Yb 95) λa3 _=>?_;refine Zj (n:=0) [(3,1),(4,1),(6,3)]<|Yn (Zk 7 [] (Pq ov t)) λd1 _=>Yn (Zk 96 [5,7] (Ld _ _ 62914560 ov O3)) λc0 _=>go 2 ?_;exact Zn<|Po (a3,c0) aA K1 K2
       .refine Pz (Yb 95) λa4 _=>?_;refine Zj (n:=0) [(0,1),(3,1),(4,1),(6,3)]<|Yn (Zk 8 [] (Pq 62914560 ⟨O3,O3⟩)) λd2 _=>Yn (Zk 9 [] (Pq ov t)) λd3 _=>Yn (Zk 96 [8,9] (Ld _ _ 62914560 ov O3)) λa9 _=>go 2 ?_;exact Zn<|Po (a4,a9) aA K1 K2
      .rintro⟨b9,vm⟩ -;dsimp only;refine go 3 ?_;refine cl 10 [1,2,3] (Dg _ _ _ _ _ _ _ _ _) λc1 _=>go 10 ?_;refine lp (G:=Nat×Value) [3,4,5] [0,95,96,1,2,3,4,10] (λq=>[(6,.int .i64 (q.1:Int))]) (λq=>[(97,box H 89 #[.bool (decide ((Ny ov (Me q.1 x y z))<0)),q.2]),(98,Ow q.2 ((Ny ov (Me q.1 x y z))).natAbs)]) (λq=>(q.1<=3)/\(∀k,k<q.1->axB (Zp k x y z) ov=true)) (λq=>3-q.1) (0,_) ⟨O1,λk hk=>absurd hk (cI k)⟩ ⟨J,aA⟩ ⟨J,J,aA⟩ ?_;rintro⟨i,vs⟩ ⟨hi,P⟩;dsimp only at hi P;dsimp only;refine go 7 ?_;refine Zd J (λb2=>?_) (λb2=>?_)
       .refine go 5 ?_;refine Zg (Kf 10 40 ([(sx,x),(sy,y),(sz,z)].getD i C0) J J (Ze (show i<3 by omega)) J)<|Zg (Nw 40 (q:=Yw 1 Yk (Xq ([(sx,x),(sy,y),(sz,z)].getD i C0).1) (Zp i x y z)) (aF (Yw 1 Yk _) (Zha O)) J J)<|go 3 ?_;refine dt (Zv (ii:=10) (i:=i) J J J J Zc Ap Zcg J (show i<3 by omega))<|dt (Xl (ii:=10) C0 J J J Zc pC (show i<3 by omega))<|go 4 ?_;refine jn (G:=Bool) [3,4,5,6,7] [0,97,98,95,96,1,2,3,4,10,40] (λbj=>[(74,.bool bj)]) (λbj=>[]) (λbj=>bj=axc (Zp i x y z)) ?_ ?_
        .refine go 5 ?_;refine Yt (d:=56) J (λb6=>?_) (λb6=>?_)
         .refine go 19 ?_;exact Po _ (by first|exact Yb6 O|exact Yb5 O|exact Yb4 O O O|exact Yb3 O O O) K1 aA
         .refine go 5 ?_;refine Yt (d:=61) J (λZ=>?_) (λZ=>?_)
          .refine go 14 ?_;exact Po _ (by first|exact Yb6 O|exact Yb5 O|exact Yb4 O O O|exact Yb3 O O O) K1 aA
          .refine go 4 ?_;refine Yt (d:=65) J (λa0=>?_) (λa0=>?_)
           .refine go 4 ⟨O,?_⟩;refine Fa (Zv (ii:=40) (i:=((Zp i x y z).length-1)) J J J J Zq Pr Ij) J J<|go 5 ⟨O,?_⟩;exact Po _ (by first|exact Yb6 O|exact Yb5 O|exact Yb4 O O O|exact Yb3 O O O) K1 aA
           .refine go 10 ?_;exact Po _ (by first|exact Yb6 O|exact Yb5 O|exact Yb4 O O O|exact Yb3 O O O) K1 aA
        .rintro bj a6;refine Lj J (λa5=>?_) (λa5=>?_)
         .refine go 12 ?_;exact Xd h () results75 (by rw [Zco (i:=i) (axc_t a6 ‹_›)]) aA Za
         .obtain⟨j1,j2,j3⟩:=axc_f a6 a5;refine go 5 ?_;refine cl 11 [40] (Zpq _ (Zp i x y z) (Ky w B D i) O O) λg hg=>go 4 ?_;have b4:=aF List.length hg;rw [Zi,Yu]at b4;refine go 5 ?_;refine lp (G:=Nat×Value) [3,4,5,6,7,8] [0,95,96,1,2,3,4,10,40,11] (λq=>[(9,.int .i64 (q.1:Int))]) (λq=>[(97,box H 89 #[.bool (decide ((Ny (Ny ov (Me i x y z)) ((Zp i x y z).take q.1))<0)),q.2]),(98,Ow q.2 ((Ny (Ny ov (Me i x y z)) ((Zp i x y z).take q.1))).natAbs)]) (λq=>(q.1<=(Zp i x y z).length)/\(∀j,j<q.1->((ctl (Zp i x y z) j (j+1)).natAbs:Int)<=(62914560*ov))) (λq=>(Zp i x y z).length-q.1) (0,_) ⟨O1,λj hj=>absurd hj (cI j)⟩ ⟨J,aA⟩ ⟨J,J,aA⟩ ?_;rintro⟨k,vs⟩ ⟨hk,S⟩;dsimp only at hk S;dsimp only;refine go 9 ?_;refine Zd J (λb3=>?_) (λb3=>?_)
          .refine go 5 ?_;refine Qg (λ_=>False) [(0,0),(1,0),(2,0),(3,0),(4,0),(5,1),(6,1),(7,3)]<|go 3 ?_;refine Xe J J (Xt (Zv (ii:=40) (i:=k) J J J J Zq Pr Ij J))<|go 1 ⟨O2,?_⟩;refine Yn (Zk 12 [] (Pq ((Zp i x y z).getD k 0) (Lh (Ky w B D i) k))) λc2 _=>Yn (Zk 13 [98,12] (Zs9 _ _ (Ny (Ny ov (Me i x y z)) ((Zp i x y z).take k)) ((Zp i x y z).getD k 0) (aB (Ga (Lh (Ky w B D i) k)) O3) (aB (a8 i k) O3))) λb0 _=>go 4 ?_;rcases Yoi (ctl (Zp i x y z) k (k+1)) (62914560*ov)with r|⟨r,Q⟩|⟨r,Q⟩
           .have e:(g.2.getD k I0).1=(ctl (Zp i x y z) k (k+1)):=by rw [Qx,hg,Nq,aG O]
            refine Qg (λ_=>False) [(0,0),(1,0),(2,0),(3,0),(4,0),(5,1),(6,0),(7,0),(8,2),(9,2),(10,2),(11,2),(12,2),(13,2),(14,2),(15,2),(16,0)]<|go 2 ?_;refine Xe J J (Xt (Zv (ii:=11) (i:=k) J J J J Zc Zhe Zak J))<|Xe J J (Xt (Xl (ii:=11) I0 J J J Zc pI))<|go 1 ?_;refine Kq J (Xb (n:=13) (Gf _ _ _ (62914560*ov) (by rw [e];exact aB (Zdh (Ky w B D i) O O) O3) (aB l O3)) J J J K2 call72 (Xr 11 J J (Ze (i:=k)) (Zm 96 J J J Zo)) J R.h) (λ_ _=>?_);refine Xe J J (Xt (dT (Zba J J J) (vB (aL (by rw [e,Zv0];exact r)))))<|go 28 ?_;exact Xd h () results75 (by rw [Zco (i:=i) (Zmx λh1 h2 h3 h4=>by rw [Zx0 (j:=k) O O]at h4;cases h4)]) aA Za
           .have e:(g.2.getD k I0).1=(ctl (Zp i x y z) k (k+1)):=by rw [Qx,hg,Nq,aG O]
            refine Qg (λ_=>False) [(0,0),(1,0),(2,0),(3,0),(4,0),(5,1),(6,0),(7,0),(8,0),(9,0),(10,0),(11,0),(12,0),(13,1),(14,1),(15,0),(16,0)]<|go 2 ?_;refine Xe J J (Xt (Zv (ii:=11) (i:=k) J J J J Zc Zhe Zak J))<|Xe J J (Xt (Xl (ii:=11) I0 J J J Zc pI))<|go 1 ?_;refine Kq J (Xb (n:=13) (Gf _ _ _ (62914560*ov) (by rw [e];exact aB (Zdh (Ky w B D i) O O) O3) (aB l O3)) J J J K2 call72 (Xr 11 J J (Ze (i:=k)) (Zm 96 J J J Zo)) J R.h) (λ_ _=>?_);refine Xe J J (Xt (dF (Zba J J J) (vB (aM (by rw [e,Zv0];exact r)))))<|go 3 ?_;refine Co (Xt (Zv (ii:=11) (i:=k) J J J J Zc Zhe Zak J)) J J J J J<|Co (Xt (Xl (ii:=11) I0 J J J Zc pI)) J J J J J<|go 1 ?_;refine Zi1 J J J J J (Xb (n:=14) (Zk3 _ (62914560*ov) (aB l O3)) J J J K1 call144 (Zm 96 J J J Zo) J R.h) (λc3 _=>?_);refine Zi1 J J J J J (Xb (n:=14) (Gf _ _ _ (-(62914560*ov)) (by rw [e];exact aB (Zdh (Ky w B D i) O O) O3) (by rw [dU];exact aB l O3)) J J J K2 call72 (Xr 11 J J (Ze (i:=k)) (Zm 14 J J J Zo)) J R.h) (λ_ _=>?_);refine Co (Xt (dT (Yjx J J J) (vB (aL (by rw [e,Yfr];exact Q))))) J J J J J<|go 19 ?_;exact Xd h () results75 (by rw [Zco (i:=i) (Zmx λh1 h2 h3 h4=>by rw [Zx0 (j:=k) O O]at h4;cases h4)]) aA Za
           .have e:(g.2.getD k I0).1=(ctl (Zp i x y z) k (k+1)):=by rw [Qx,hg,Nq,aG O]
            refine Qg (λ_=>False) [(0,0),(1,0),(2,0),(3,0),(4,0),(5,1),(6,0),(7,0),(8,0),(9,0),(10,0),(11,0),(12,0),(13,1),(14,1),(15,0),(16,0)]<|go 2 ?_;refine Xe J J (Xt (Zv (ii:=11) (i:=k) J J J J Zc Zhe Zak J))<|Xe J J (Xt (Xl (ii:=11) I0 J J J Zc pI))<|go 1 ?_;refine Kq J (Xb (n:=14) (Gf _ _ _ (62914560*ov) (by rw [e];exact aB (Zdh (Ky w B D i) O O) O3) (aB l O3)) J J J K2 call72 (Xr 11 J J (Ze (i:=k)) (Zm 96 J J J Zo)) J R.h) (λ_ _=>?_);refine Xe J J (Xt (dF (Zba J J J) (vB (aM (by rw [e,Zv0];exact r)))))<|go 3 ?_;refine Co (Xt (Zv (ii:=11) (i:=k) J J J J Zc Zhe Zak J)) J J J J J<|Co (Xt (Xl (ii:=11) I0 J J J Zc pI)) J J J J J<|go 1 ?_;refine Zi1 J J J J J (Xb (n:=15) (Zk3 _ (62914560*ov) (aB l O3)) J J J K1 call144 (Zm 96 J J J Zo) J R.h) (λc4 _=>?_);refine Zi1 J J J J J (Xb (n:=15) (Gf _ _ _ (-(62914560*ov)) (by rw [e];exact aB (Zdh (Ky w B D i) O O) O3) (by rw [dU];exact aB l O3)) J J J K2 call72 (Xr 11 J J (Ze (i:=k)) (Zm 15 J J J Zo)) J R.h) (λ_ _=>?_);refine Co (Xt (dF (Yjx J J J) (vB (aM (by rw [e,Yfr];exact Q))))) J J J J J<|go 12 ⟨O,?_⟩;exact Zr (Xn 13 98 J J J)<|Yp (k+1,b0) ⟨O1,λj hj=>by rcases bM.1 hj with N|N;exact S j N;subst N;omega⟩ O1 K1 ⟨by rw [Bs _ O];rfl,by rw [Bs _ O];rfl,aA⟩
          .obtain rfl:k=(Zp i x y z).length:=O;rw [bL];refine go 11 ⟨O,?_⟩;exact Zr (Xn 98 98 J J J)<|Yp (i+1,vs) ⟨O1,λk hk=>by rcases bM.1 hk with N|N;exact P k N;subst N;exact Yb7 j1 j2 j3 (Zxz λj hj=>by have:=S j hj;omega)⟩ O1 K1 ⟨by rw [Fs x y z O,Iz];rfl,by rw [Fs x y z O,Iz];rfl,aA⟩
       .obtain rfl:i=3:=O;refine go 6 ?_;refine Qg (λ_=>False) [(0,0),(1,1),(2,1),(3,0),(4,3)]<|go 1 ?_;refine Yn (Zk 16 [] (Pq 1 ⟨O3,O3⟩)) λc5 _=>Yn (Zk 16 [98,16] (Gf _ _ (Ny ov (Me 3 x y z)) 1 (aB (I _) O3))) λ_ _=>go 5 ?_;exact Xd h () results75 (by rw [Yfz O P];exact vB (bJ.2 (by rw [eP];omega))) aA Za
theorem Zaz(v:Value)(l:List Int)(H:∀x∈l,Nx x)(I:l.length<=1000):Cal prog 145 #[v] [Yw 1 Yk v l] true (G:=Value×List (Int×SL)) (λr=>Zb r.2=tzl l) (λr=>r.1) (λr=>[pp r.1 r.2]):=by
 refine Zh func145 ntmps145 λZ W N n=>?_;have B:=Zjc H;refine go 17 ?_;refine Zg (Qr 70 2 89 Mg)<|Zg (Yy qI 71)<|lp (G:=Nat×Value×List (Int×SL)) [0] [0,1] (λq=>[(4,.int .i64 (q.1:Int)),(3,q.2.1)]) (λq=>[(70,On 2 89 Mg q.2.1 q.2.2),(71,Mc qI q.2.2)]) (λq=>(q.1<=l.length)/\(Zb q.2.2=mk q.1 (cf l))/\(q.2.2.length=q.1)) (λq=>l.length-q.1) (0,.slice none 0 0,[]) ⟨O1,rfl,rfl⟩ K2 K2 ?_;rintro⟨i,Y,S⟩ ⟨hi,h,e⟩;dsimp only at hi h e;dsimp only;refine go 9 ?_;refine Zd J (λk=>?_) (λk=>?_)
 .refine go 8 ?_;refine dt (Zv (ii:=1) (i:=i) J J J J Zq Pr Ij J)<|go 1 ⟨O,?_⟩;refine cl 2 [] (Pq _ (H _ (Ze))) λv _=>?_;refine Zw1 (Qs 2 J Zq) (λD w=>?_);subst w;refine tt (Xw (i:=3) (ivs:=[(0,_)]) (enc:=Mg) [(l.getD i 0,D)] J J K2 Ke ti89 J J J J J pI.cells J J N.h) (λQ _=>?_);refine tt (Oc (i:=70) (j:=3) (by_:=32) J J J J J J O3 J (Yd pI) Ke ti89 J pI J J J O8 O3 J N.h) (λR _=>?_);refine go 9 ⟨O,?_⟩;exact Zr (Zu (q:=qI) (z:=(l.getD i 0,D)) 71 2 71 J J J J J)<|Yp (i+1,_,S ++ [(l.getD i 0,D)]) ⟨O1,by rw [Mx,Gy,h];dsimp only;rfl,by simp [e]⟩ O1 K2 K2
 .refine go 6 ?_;refine Zg (Xi 70 J J pI)<|Zg (Qc 70 71 72 J J J J)<|go 2 ?_;refine cl 4 [72] (Bc _ _ (by rw [h];exact Cw λt V=>by have:=B t;omega)) λg P=>go 4 ?_;exact Xd n _ results145 J (by rw [P,h,show i=l.length by omega,Zd3]) (Pt 4 Za)
def Hs(f:Nat->Rat):Nat->Rat
 | 0=>0
 | n+1=>Hs f n+f n
def Ma(f:Nat->Rat)(n:Nat):Hs f (n+1)=Hs f n+f n:=rfl
theorem La{f g:Nat->Rat} : ∀n,(∀i,i<n->f i=g i)->Hs f n=Hs g n
 | 0,_=>rfl
 | n+1,h=>by rw [Ma,Ma,La n λi hi=>h i O,h n O]
theorem Dh(f:Nat->Rat):∀n,Hs f (n+1)=f 0+Hs (λi=>f (i+1)) n
 | 0=>by show 0+f 0=f 0+0;grind
 | n+1=>by rw [Ma,Dh f n,Ma];grind
theorem Zk7(f g:Nat->Rat):∀n,Hs (λi=>f i+g i) n=Hs f n+Hs g n
 | 0=>by show(0:Rat)=0+0;grind
 | n+1=>by rw [Ma,Ma,Ma,Zk7 f g n];grind
theorem Ei(c:Rat)(f:Nat->Rat):∀n,Hs (λi=>c*f i) n=c*Hs f n
 | 0=>by show(0:Rat)=c*0;grind
 | n+1=>by rw [Ma,Ma,Ei c f n];grind
theorem Zmi(n:Nat):Oq n 0=1:=by cases n<;>rfl
def chz_s(n k:Nat):Oq (n+1) (k+1)=Oq n k+Oq n (k+1):=rfl
theorem Ykv{u w:Rat}(h:u+w=1):∀n,Hs (λj=>(Oq n j:Rat)*(u^j*w^(n-j))) (n+1)=1
 | 0=>by rw [Dh];show((Oq 0 0:Nat):Rat)*(u^0*w^0)+0=1;rw [Zmi,eG,eG];push_cast;grind
 | n+1=>by
  have e:=Ykv h n;rw [Dh];have g:Hs (λi=>(Oq (n+1) (i+1):Rat)*(u^(i+1)*w^(n+1-(i+1)))) (n+1)=Hs (λi=>u*((Oq n i:Rat)*(u^i*w^(n-i)))) (n+1)+Hs (λi=>(Oq n (i+1):Rat)*(u^(i+1)*w^(n-i))) (n+1):=by rw [<-Zk7];refine La _ λi hi=>?_;rw [chz_s,show n+1-(i+1)=n-i by omega,dP];push_cast;grind
  have k:Hs (λi=>(Oq n (i+1):Rat)*(u^(i+1)*w^(n-i))) (n+1)=Hs (λi=>(Oq n (i+1):Rat)*(u^(i+1)*w^(n-i))) n:=by rw [Ma,Zmh n (n+1) O];push_cast;grind
  have l:w*Hs (λj=>(Oq n j:Rat)*(u^j*w^(n-j))) (n+1)=w^(n+1)+Hs (λi=>(Oq n (i+1):Rat)*(u^(i+1)*w^(n-i))) n:=by
   rw [<-Ei,Dh,Zmi];congr 1
   .rw [jI,eG,dP];push_cast;grind
   .refine La _ λi hi=>?_;rw [show n-i=(n-(i+1))+1 by omega,dP w];grind
  rw [g,k,Ei,e];rw [e]at l;rw [Zmi,eG,jI];push_cast;grind
def Ha(d:Nat)(c:List Int)(j:Nat):Int:=Ye (λi=>cf c i*(Oq (d-i) (j-i):Int)) (j+1)
theorem brS_0(d:Nat)(a:Int)(c:List Int):Ha d (a::c) 0=a:=by unfold Ha;rw [Yi,Hm];show 0+a*((Oq (d-0) (0-0):Nat):Int)=a;rw [show 0-0=0 from rfl,Zmi];omega
theorem brS_s(d:Nat)(a:Int)(c:List Int)(j:Nat):Ha (d+1) (a::c) (j+1)=a*(Oq (d+1) (j+1):Int)+Ha d c j:=by unfold Ha;rw [Mp];congr 1;refine Xa λi hi=>?_;rw [show d+1-(i+1)=d-i by omega,show j+1-(i+1)=j-i by omega];rfl
theorem Ypb(d j:Nat):Ha d [] j=0:=by unfold Ha;exact(Zhj (m:=0) (bD _) λi _ _=>by rw [show cf [] i=0 from rfl,cM]).trans (Hm _)
theorem bern{u w:Rat}(h:u+w=1):∀(d:Nat) (c:List Int),c.length<=d+1->Hs (λj=>(Ha d c j:Rat)*(u^j*w^(d-j))) (d+1)=Zf c u
 | d,[],_=>by
  rw [La (g:=λ_=>0) (d+1) λi hi=>by rw [Ypb];push_cast;grind];show Hs (λ_=>0) (d+1)=0;have:∀n,Hs (λ_=>0) n=0:=λn=>by
   induction n with
   | zero=>rfl
   | succ n k=>rw [Ma,k];grind
  exact this _
 | 0,[a],_=>by rw [Ma,brS_0];show 0+(a:Rat)*(u^0*w^0)=(a:Rat)+u*0;rw [eG,eG];grind
 | 0,a::b::c,hl=>by simp at hl
 | d+1,a::c,hl=>by
  have k:=bern h d c (by simpa using hl);have e:=Ykv h (d+1);rw [Dh]at e;rw [Dh,brS_0];have l:Hs (λi=>(Ha (d+1) (a::c) (i+1):Rat)*(u^(i+1)*w^(d+1-(i+1)))) (d+1)=(a:Rat)*Hs (λi=>(Oq (d+1) (i+1):Rat)*(u^(i+1)*w^(d+1-(i+1)))) (d+1)+u*Hs (λj=>(Ha d c j:Rat)*(u^j*w^(d-j))) (d+1):=by rw [<-Ei,<-Ei,<-Zk7];refine La _ λi hi=>?_;rw [brS_s,show d+1-(i+1)=d-i by omega,dP];push_cast;grind
  rw [l,k];show _=(a:Rat)+u*Zf c u;rw [Zmi]at e;push_cast at e ⊢;grind
theorem Cb(a:Int):∀(c:List Int) (i:Nat),cf (c.map λx=>a*x) i=a*cf c i
 | [],i=>by rw [fS,show cf [] i=0 from rfl,dL]
 | x::c,0=>rfl
 | x::c,i+1=>Cb a c i
theorem Zwa(c:List Int)(a b e:Int)(u:Rat):Zf (mk (c.length+1) λt=>cf c t*a+(if t=0 then e else cf c (t-1)*b)) u=Zf c u*((a:Rat)+(b:Rat)*u)+(e:Rat):=by
 have h:Zf (mk (c.length+1) λt=>cf c t*a+(if t=0 then e else cf c (t-1)*b)) u=Zf (Ms (c.map λx=>a*x) (e::c.map λx=>b*x)) u:=Nv u _ _ λi=>by
  rw [Lk,Cb,Nq]
  match i with
  | 0=>rw [aG O,aG rfl];show cf c 0*a+e=a*cf c 0+e;rw [cQ]
  | i+1=>
   show _=a*cf c (i+1)+cf (c.map λx=>b*x) i;rw [Cb];by_cases hi:i<c.length
   .rw [aG O,aD O,eT,cQ,cQ (cf c i)]
   .rw [aD O,Yf (p:=c) (i:=i+1) O,Yf (p:=c) (i:=i) O];omega
 rw [h,Xj,Zl];show _+((e:Rat)+u*Zf (c.map λx=>b*x) u)=_;rw [Zl];grind
theorem Zs4(p:List Int)(a b d:Int){t u:Rat}(g:t*(d:Rat)=(a:Rat)+(b:Rat)*u):∀j,j+1<=p.length->Zf (Mt p a b d j) u=(d:Rat)^j*Zf (p.drop (p.length-1-j)) t
 | 0,h=>by
  have e:p.drop (p.length-1-0)=[cf p (p.length-1)]:=by rw [jI,eO O,jZ O];congr 1;unfold cf;rw [aI,aN O];rfl
  rw [Fv,e,eG,Pw,Pw];grind
 | j+1,h=>by
  have k:=Zs4 p a b d g j O;have e:p.drop (p.length-1-(j+1))=cf p (p.length-2-j)::p.drop (p.length-1-j):=by rw [eO O,show p.length-1-(j+1)+1=p.length-1-j by omega];congr 1;unfold cf;rw [aI,aN O];show p[p.length-1-(j+1)]=p[p.length-2-j];congr 1;omega
  rw [Zos,Zwa,k,e,<-g];show _=(d:Rat)^(j+1)*((cf p (p.length-2-j):Rat)+t*Zf (p.drop (p.length-1-j)) t);rw [dP];push_cast;rw [dP];generalize (d:Rat)^j=D;grind
theorem Zk1(a b d:Int){t u:Rat}(g:t*(d:Rat)=(a:Rat)+(b:Rat)*u)(e:p.length≠0):Zf (Lc p a b d) u=(d:Rat)^(p.length-1)*Zf p t:=by unfold Lc;rw [aD e,Nv u (tzl _) _ (λi=>Mu _ i),Zs4 p a b d g (p.length-1) O,gX,gO]
def Pb(c:List Int)(a b d:Int):List Int:=Zs (Lc (tzl c) a b d) (d^(6-c.length))
def Zb8(h:a.natAbs<=3600000):bl a.natAbs<=22:=(Qm 22 _).2 (aZ h O3)
theorem Zou(h:bl d.natAbs<=22):∀k,k<=5->bl (d^k).natAbs<=132
 | 0,_=>by rw [cK];decide
 | k+1,g=>by
  have e:∀k,bl (d^k).natAbs<=22*k+1:=λk=>by
   induction k with
   | zero=>rw [cK];decide
   | succ k j=>rw [cZ];have:=Yo (d^k) d;omega
  have:=e (k+1);omega
theorem Zh7(h:∀a∈c,Nx a)(G:1<=c.length/\c.length<=6){b:Int}(B:a.natAbs<=3600000)(D:b.natAbs<=3600000)(R:1<=d/\d<=3600000) :
  Vp (tzl c)/\¬Zmf (tzl c) a b d/\Vp (Lc (tzl c) a b d)/\bl (d^(6-c.length)).natAbs<=132/\(∀i,bl (cf (Lc (tzl c) a b d) i*d^(6-c.length)).natAbs<=65536)/\Vp (Pb c a b d)/\Sz 1000 (Pb c a b d)/\(Pb c a b d).length<=6:=by
 have N:(tzl c).length<=6:=aB (Mo c) G.2;have n:Sz 64 (tzl c):=(ab_in h).sz O3;have r:=Zb8 B;have t:=Zb8 D;have g:bl d.natAbs<=22:=Zb8 O;have l:=cp_not (cp_nf n r t g O O);have hs:Sz 300 (Lc (tzl c) a b d):=by
  have h:=Zjd (x:=a) (y:=b) (z:=d) (m:=22) n r t g ((tzl c).length-1);unfold Lc;split
  .exact Sz.nil _
  .refine(Sz.tzl h).mono ?_;have:((tzl c).length-1)*(22+1)<=5*23:=aQ O O;omega
 have I:Tr (Lc (tzl c) a b d):=by
  unfold Lc;split
  .exact .inl rfl
  .exact Qf _
 have j:(Lc (tzl c) a b d).length<=6:=aB (Ze8 _ _ _ _) N;have H:=Zou g (6-c.length) O;have w:∀i,bl (cf (Lc (tzl c) a b d) i*d^(6-c.length)).natAbs<=500:=λi=>by have P:=hs i;have Q:=Yo (cf (Lc (tzl c) a b d) i) (d^(6-c.length));omega
 have e:Sz 1000 (Pb c a b d):=λi=>by unfold Pb;rw [Yj];have:=w i;omega
 have k:(Pb c a b d).length<=6:=aB (Pu _ _) j;exact⟨⟨n.mono O,Qf _,O⟩,l,⟨hs.mono O,I,O⟩,H,λi=>by have:=w i;omega,⟨e.mono O,Qd _ _,O⟩,e,k⟩
def Zto(zs:List (SL×List Int)):List (SL×List Int):=zs ++ List.replicate (3-zs.length) ((none,0,0),[])
theorem Yif(h:zs.length<=3):(Zto zs).length=3:=by unfold Zto;rw [aY,aT];omega
theorem Yhf{z:SL×List Int}(hi:i<3)(h:zs.length=i):(Zto zs).set i z=Zto (zs ++ [z]):=by subst h;unfold Zto;rw [List.set_append_right _ _ (aH _),gX,aY,eC];congr 1;obtain⟨k,e⟩:∃k,3-zs.length=k+1:=⟨2-zs.length,O⟩;rw [e,jP,nN,show 3-(zs.length+[z].length)=k by simp;omega];rfl
theorem Zva{t:Nat}{f:Nat->List Int}(g:zs.length=i)(h:∀t,t<i->(zs.getD t d0).2=f t)(j:t<i+1):((zs ++ [(s,f i)]).getD t d0).2=f t:=by
 subst g;rw [aI];rcases bM.1 j with e|e
 .rw [cW e,<-aI];exact h t e
 .subst e;simp
theorem Yew{x:List Int}{b:Int}(k:zs.length=3)(h:∀t,t<3->(zs.getD t d0).2=Pb (Zp t x y z) a b d):∃l n r:SL,zs=[(l,Pb x a b d),(n,Pb y a b d),(r,Pb z a b d)]:=by
 match zs,k with
 | [w,B,D],_=>
  have e:=h 0 O3;have g:=h 1 O3;have j:=h 2 O3;simp [Zp]at e g j;exact⟨w.1,B.1,D.1,by rw [<-e,<-g,<-j]⟩
def Yju:List Int->List Int
 | []=>[]
 | a::p=>a::0::Yju p
theorem Zpi(x:Rat):∀p:List Int,Zf (Yju p) x=Zf p (x*x)
 | []=>rfl
 | a::p=>by show(a:Rat)+x*(((0:Int):Rat)+x*Zf (Yju p) x)=(a:Rat)+x*x*Zf p (x*x);rw [Zpi x p];push_cast;grind
theorem Zxu:∀(p:List Int) (i:Nat),cf (Yju p) (2*i)=cf p i
 | [],i=>rfl
 | a::p,0=>rfl
 | a::p,i+1=>by show cf (0::Yju p) (2*i+1)=cf p i;exact Zxu p i
theorem sq_nn(x:Rat):0<=x*x:=by
 rcases(show 0<=x\/x<=0 by grind)with h|h
 .exact aJ h h
 .have:=aJ (show 0<=-x by grind) (show 0<=-x by grind);grind
theorem Zs3(h:∀x:Rat,0<=x->Zf p x=Zf q x)(i:Nat):cf p i=cf q i:=by rw [<-Zxu p,<-Zxu q];exact Nj (λx=>by rw [Zpi,Zpi];exact h _ (sq_nn x)) _
theorem Zjk(f:Nat->Int)(x:Rat):∀n,Zf (mk n f) x=Hs (λj=>(f j:Rat)*x^j) n
 | 0=>rfl
 | n+1=>by rw [Gy,Zs2,Zjk f x n,Yu,Ma]
def NN(p:List Int):Prop:=∀i,0<=cf p i
theorem NN.smul{c:Int}(e:0<=c)(h:NN p):NN (p.map λa=>c*a):=λi=>by rw [Cb];exact eJ e (h i)
theorem NN.add(e:NN p)(g:NN q):NN (Ms p q):=λi=>by rw [Lk];exact Int.add_nonneg (e i) (g i)
theorem NN.lmul{q:List Int}(e:NN q):∀{p:List Int},NN p->NN (lmul p q)
 | [],_=>λi=>by show 0<=cf [] i;rw [show cf [] i=0 from rfl];exact fA _
 | c::p,h=>NN.add (NN.smul (h 0) e) λi=>by
  match i with
  | 0=>exact fA _
  | i+1=>exact NN.lmul e (p:=p) (λj=>h (j+1)) i
def lpw(l:List Int):Nat->List Int
 | 0=>[1]
 | k+1=>lmul l (lpw l k)
theorem Zpf(l:List Int)(x:Rat):∀k,Zf (lpw l k) x=Zf l x^k
 | 0=>by rw [eG];show((1:Int):Rat)+x*0=1;push_cast;grind
 | k+1=>by rw [show lpw l (k+1)=lmul l (lpw l k)from rfl,Ya,Zpf l x k,dP,kF]
theorem NN.lpw{l:List Int}(h:NN l):∀k,NN (lpw l k)
 | 0=>λi=>by
  show 0<=cf [1] i
  match i with
  | 0=>exact Int.one_nonneg
  | i+1=>exact fA _
 | k+1=>NN.lmul (NN.lpw h k) h
theorem NN.two{b:Int}(e:0<=a)(g:0<=b):NN [a,b]:=λi=>by
 match i with
 | 0=>exact e
 | 1=>exact g
 | i+2=>exact fA _
def sQ(f:Nat->Int)(W:Nat->List Int):Nat->List Int
 | 0=>[]
 | k+1=>Ms (sQ f W k) ((W k).map λa=>f k*a)
theorem Zv9(f:Nat->Int)(W:Nat->List Int)(x:Rat):∀k,Zf (sQ f W k) x=Hs (λi=>(f i:Rat)*Zf (W i) x) k
 | 0=>rfl
 | k+1=>by rw [show sQ f W (k+1)=Ms (sQ f W k) ((W k).map λa=>f k*a)from rfl,Xj,Zv9 f W x k,Zl,Ma]
theorem sQ_le{f g:Nat->Int}{W:Nat->List Int}{B:Int}(l:∀i,NN (W i)):∀k,(∀i,i<k->((f i).natAbs:Int)<=B*g i)->∀j,((cf (sQ f W k) j).natAbs:Int)<=B*cf (sQ g W k) j
 | 0,_,j=>by show((cf [] j).natAbs:Int)<=B*cf [] j;rw [show cf [] j=0 from rfl];simp
 | k+1,h,j=>by
  have G:=sQ_le l k (λi hi=>h i O) j;have n:=h k O;show((cf (Ms (sQ f W k) ((W k).map λa=>f k*a)) j).natAbs:Int)<=B*cf (Ms (sQ g W k) ((W k).map λa=>g k*a)) j;rw [Lk,Lk,Cb,Cb,kK,<-eD];have w:=l k j;have D:((f k*cf (W k) j).natAbs:Int)<=B*g k*cf (W k) j:=by rw [cF];push_cast;have e:((cf (W k) j).natAbs:Int)=cf (W k) j:=O;rw [e];exact eY n w
  generalize B*g k*cf (W k) j=t at *;generalize f k*cf (W k) j=s at *;generalize B*cf (sQ g W k) j=r at *;omega
theorem Zlj(a b:Rat):∀n:Nat,(a*b)^n=a^n*b^n
 | 0=>by rw [eG,eG,eG];grind
 | n+1=>by rw [dP,dP,dP,Zlj a b n];grind
theorem Yca(a:Rat)(m:Nat):∀n:Nat,a^(m+n)=a^m*a^n
 | 0=>by rw [eF,eG];grind
 | n+1=>by rw [<-fR,dP,dP,Yca a m n];grind
theorem Ykw{U V S:Rat}(h:U+V=S)(n:S≠0){d:Nat}(l:c.length<=d+1):Hs (λj=>(Ha d c j:Rat)*(U^j*V^(d-j))) (d+1)=S^d*Zf c (U/S):=by
 rw [<-bern (u:=U/S) (w:=V/S) (by rw [<-h];grind) d c l,<-Ei];refine La _ λj r=>?_;have e:U^j=S^j*(U/S)^j:=by rw [<-Zlj];congr 1;grind
 have g:V^(d-j)=S^(d-j)*(V/S)^(d-j):=by rw [<-Zlj];congr 1;grind
 have k:S^d=S^j*S^(d-j):=by rw [<-Yca];congr 1;omega
 rw [e,g,k];grind
theorem Yb0{U V S:Rat}(h:U+V=S)(l:S≠0)(d:Nat):Hs (λj=>(Oq d j:Rat)*(U^j*V^(d-j))) (d+1)=S^d:=by
 have:=Ykv (u:=U/S) (w:=V/S) (by rw [<-h];grind) d;rw [<-Rat.mul_one (S^d),<-this,<-Ei];refine La _ λj n=>?_;have e:U^j=S^j*(U/S)^j:=by rw [<-Zlj];congr 1;grind
 have g:V^(d-j)=S^(d-j)*(V/S)^(d-j):=by rw [<-Zlj];congr 1;grind
 have k:S^d=S^j*S^(d-j):=by rw [<-Yca];congr 1;omega
 rw [e,g,k];grind
theorem Zy4(a b:Int)(x:Rat):Zf [a,b] x=(a:Rat)+(b:Rat)*x:=by show(a:Rat)+x*((b:Rat)+x*0)=_;grind
theorem onepw(n:Nat):(1:Rat)^n=1:=by
 induction n with
 | zero=>rw [eG]
 | succ n e=>rw [dP,e];grind
theorem Zde(d:Int)(n:Nat):((d^n:Int):Rat)=(d:Rat)^n:=by
 induction n with
 | zero=>rw [cK,eG];rfl
 | succ n e=>rw [cZ,dP,<-e];push_cast;rfl
def Wij(a e d:Int)(n i:Nat):List Int:=lmul (lpw [a,e] i) (lpw [d-a,d-e] (n-i))
def Wij_nn{e:Int}(g:0<=a)(h:0<=e)(j:a<=d)(k:e<=d)(n i:Nat):NN (Wij a e d n i):=NN.lmul (NN.lpw (NN.two O O) _) (NN.lpw (NN.two g h) _)
theorem Zy5(a e d:Int)(n i:Nat)(x:Rat):Zf (Wij a e d n i) x=((a:Rat)+(e:Rat)*x)^i*(((d-a:Int):Rat)+((d-e:Int):Rat)*x)^(n-i):=by unfold Wij;rw [Ya,Zpf,Zpf,Zy4,Zy4]
theorem Ypd {X:List Int} {n:Nat} (hl:c.length<=n+1) (hX:X.length<=n+1) {b B:Int} (ha:0<=a) (hb:0<=b) (Q:a+b<=d) (Z:0<d) (hr:∀t u:Rat,t*(d:Rat)=(a:Rat)+(b:Rat)*u->Zf X u=(d:Rat)^m*Zf c t)
  (hB:∀j,j<n+1->((Ha n c j).natAbs:Int)<=B*(Oq n j:Int)):∀j,j<n+1->((Ha n X j).natAbs:Int)<=B*d^m*(Oq n j:Int):=by
 have a2:(0:Rat)<(d:Rat):=by exact_mod_cast Z
 have k:∀x:Rat,0<=x->(x+1)≠0:=λx e h=>O4;have w:∀x:Rat,((a:Rat)+((a+b:Int):Rat)*x)+(((d-a:Int):Rat)+((d-(a+b):Int):Rat)*x)=(d:Rat)*(x+1):=λx=>by push_cast;grind
 have l:∀x:Rat,0<=x->(d:Rat)*(x+1)≠0:=λx e h=>by have:=bB a2 (show(0:Rat)<x+1 by grind);grind
 have a3:∀x:Rat,0<=x->Zf (sQ (λi=>(Oq n i:Int)) (Wij a (a+b) d n) (n+1)) x=Zf (mk (n+1) λj=>d^n*(Oq n j:Int)) x:=λx e=>by
  rw [Zv9,Zjk];have H:=Yb0 (w x) (l x e) n;have I:=Yb0 (U:=x) (V:=1) (S:=x+1) rfl (k x e) n;have N:Hs (λi=>(((Oq n i:Nat):Int):Rat)*Zf (Wij a (a+b) d n i) x) (n+1)=((d:Rat)*(x+1))^n:=by rw [<-H];exact La _ λj D=>by rw [Zy5];push_cast;rfl
  rw [N,Zlj,<-I,<-Ei];refine La _ λj D=>?_;rw [onepw];push_cast;rw [<-Zde];push_cast;grind
 have a4:∀x:Rat,0<=x->Zf (mk (n+1) λj=>d^n*Ha n X j) x=Zf ((sQ (Ha n c) (Wij a (a+b) d n) (n+1)).map λq=>d^m*q) x:=λx e=>by
  rw [Zl,Zv9,Zjk];have H:=Ykw (w x) (l x e) hl;have I:=Ykw (U:=x) (V:=1) (S:=x+1) rfl (k x e) hX;have N:Hs (λi=>((Ha n c i:Int):Rat)*Zf (Wij a (a+b) d n i) x) (n+1)=((d:Rat)*(x+1))^n*Zf c (((a:Rat)+((a+b:Int):Rat)*x)/((d:Rat)*(x+1))):=by rw [<-H];exact La _ λj D=>by rw [Zy5]
  have e4:Hs (λj=>((d^n*Ha n X j:Int):Rat)*x^j) (n+1)=(d:Rat)^n*Hs (λj=>(Ha n X j:Rat)*(x^j*1^(n-j))) (n+1):=by rw [<-Ei];refine La _ λj D=>?_;rw [onepw,<-Zde];push_cast;grind
  rw [N,e4,I,hr (((a:Rat)+((a+b:Int):Rat)*x)/((d:Rat)*(x+1))) (x/(x+1)) ?_,Zlj,Zde]
  .grind
  .have P:=k x e;have G:(d:Rat)≠0:=O4;push_cast;grind
 have R:=Zs3 a3;have Y:=Zs3 a4;intro j D;have P:=R j;have G:=Y j;rw [Nq,aG D]at P G;rw [Cb]at G;have h3:=sQ_le (f:=Ha n c) (g:=λi=>(Oq n i:Int)) (W:=Wij a (a+b) d n) (B:=B) (Wij_nn ha O O Q n) (n+1) hB j;rw [P]at h3;have a1:0<d^n:=kN Z;have a0:0<=d^m:=eA (kN Z);have h4:((d^n*Ha n X j).natAbs:Int)=d^n*((Ha n X j).natAbs:Int):=by rw [cF];push_cast;rw [show((d^n).natAbs:Int)=d^n by omega]
 have h5:((d^m*cf (sQ (Ha n c) (Wij a (a+b) d n) (n+1)) j).natAbs:Int)=d^m*((cf (sQ (Ha n c) (Wij a (a+b) d n) (n+1)) j).natAbs:Int):=by rw [cF];push_cast;rw [show((d^m).natAbs:Int)=d^m by omega]
 have h6:=iL h3 a0;rw [<-h5,<-G,h4]at h6;refine lJ (a:=d^n) ?_ a1;refine Int.le_trans h6 (oD ?_);generalize d^n=p;generalize d^m=q;generalize (Oq n j:Int)=r;grind
theorem Ydu{s:Bool}(j:x.natAbs<=9223372036854775807)(h:sg s x):(x=0/\dg U x.natAbs=[])\/(s=true/\x<0/\dg U x.natAbs=[x.natAbs])\/(s=false/\0<x/\dg U x.natAbs=[x.natAbs]):=by
 have g:x.natAbs≠0->dg U x.natAbs=[x.natAbs]:=λk=>by have e:x.natAbs<U:=aZ j O3;rw [Zb3 O3 O,aW e,cN e];rfl
 rcases kB x 0 with q|q|q
 .right;left;refine⟨?_,q,g O⟩;cases s
  .have:=h.2 rfl;omega
  .rfl
 .subst q;exact .inl ⟨rfl,rfl⟩
 .right;right;refine⟨?_,q,g O⟩;cases s
  .rfl
  .have:=h.1 rfl;omega
theorem int_wn(e:x.natAbs<=9223372036854775807)(h:x<0):IntKind.i64.wrap (18446744073709551616-(x.natAbs:Int))=x:=by simp only [IntKind.wrap,IntKind.bits,IntKind.signed];simp;omega
theorem int_wp(e:x.natAbs<=9223372036854775807)(h:0<x):IntKind.i64.wrap ((([x.natAbs]:List Nat).getD 0 0:Nat):Int)=x:=by show IntKind.i64.wrap (x.natAbs:Int)=x;rw [Zbi ⟨O,O⟩];omega
theorem int_d0(e:x.natAbs<=9223372036854775807):¬((([x.natAbs]:List Nat).getD 0 0:Nat):Int)>=9223372036854775808:=by show ¬(x.natAbs:Int)>=_;omega
theorem Yij(e:x.natAbs<=9223372036854775807):¬((([x.natAbs]:List Nat).getD 0 0:Nat):Int)>9223372036854775808:=by show ¬(x.natAbs:Int)>_;omega
theorem int_m(h:x<0)(e:x.natAbs<=9223372036854775807):(-((([x.natAbs]:List Nat).getD 0 0:Nat):Int))%18446744073709551616=18446744073709551616-(x.natAbs:Int):=by show(-(x.natAbs:Int))%_=_;omega
variable {P:Program} {N:Nat} {sc:Nat->Prop} {env env':Ob} {H H':Hp}
def Hi(c:List Int)(g:Int):List Int:=if c.length=0 then [0]else c.map (· / g)
def mdO(ov g:Int):Int:=if ov/g<=4294967296 then ov/g else 0
def mdL(ov g:Int)(c:List Int):List Int:=if ov/g<=4294967296 then Hi c g else []
def Km(ov:Int)(x y z:List Int):Int:=Ny ov (Me 3 x y z)
structure Mdh (ov:Int) (x y z:List Int):Prop where
 o:0<ov
 b:bl ov.natAbs<=1000
 s:∀i,Sz 1000 (Zp i x y z)
 l:∀i,(Zp i x y z).length<=6
 c:∀i k,(cf (Zp i x y z) k).natAbs<=ov.natAbs*2146435072
def Zgm:∀(l:List Int) (g:Int),0<=g->0<=Ny g l
 | [],_,h=>h
 | x::l,g,h=>Zgm l _ (nS _)
theorem Yae:∀(l:List Int) (g:Int),Ny g l∣g/\∀x∈l,Ny g l∣x
 | [],g=>⟨Int.dvd_refl _,λx h=>nomatch h⟩
 | x::l,g=>by
  obtain⟨j,k⟩:=Yae l ((Int.gcd g x:Nat):Int);exact⟨iB j (kI ..),λy e=>by
   rcases bQ.1 e with rfl|e
   .exact iB j (jB ..)
   .exact k y e⟩
theorem Zwv{x:List Int}(hi:i<3)(h:a∈Zp i x y z):a∈Me 3 x y z:=by
 match i,hi with
 | 0,_=>exact cY.2 (.inl (cY.2 (.inl h)))
 | 1,_=>exact cY.2 (.inl (cY.2 (.inr h)))
 | 2,_=>exact cY.2 (.inr h)
theorem Mdh.g{x:List Int}(h:Mdh ov x y z):0<Km ov x y z/\Km ov x y z∣ov/\∀i,i<3->∀a∈Zp i x y z,Km ov x y z∣a:=by
 obtain⟨e,g⟩:=Yae (Me 3 x y z) ov;have j:=Zgm (Me 3 x y z) ov (eA h.o);have l:=h.o;refine⟨?_,e,λi hi a k=>g a (Zwv hi k)⟩;rcases Int.lt_or_eq_of_le j with q|q
 .exact q
 .exact absurd (nY.1 (q▸e)) O
theorem Mdh.fc{x:List Int}(h:Mdh ov x y z)(i k:Nat):bl (Ny (Ny ov (Me i x y z)) ((Zp i x y z).take k)).natAbs<=1000:=by
 have l:∀i,∀a∈Zp i x y z,bl a.natAbs<=1000:=λi a e=>by obtain⟨j,w⟩:=mR.1 e;have:=h.s i j;unfold cf at this;rw [aI,w]at this;exact this
 have t:∀a∈Me i x y z,bl a.natAbs<=1000:=λa e=>by
  unfold Me at e;have g:=l 0;have n:=l 1;have r:=l 2;simp only [Zp]at g n r;split at e
  .cases e
  .exact g a e
  .rcases cY.1 e with q|q
   .exact g a q
   .exact n a q
  .rcases cY.1 e with q|q
   .rcases cY.1 q with q|q
    .exact g a q
    .exact n a q
   .exact r a q
 exact Zg6 (λa e=>l i a (eK e)) (Zg6 t h.b)
theorem Mdh.fit{x:List Int}(h:Mdh ov x y z)(hs:ov/Km ov x y z<=4294967296)(hi:i<3)(k:Nat):((Zp i x y z).getD k 0/Km ov x y z).natAbs<=9223372036854775807:=by
 obtain⟨n,⟨s,e⟩,r⟩:=h.g;have D:Km ov x y z∣(Zp i x y z).getD k 0:=by
  rcases bA k (Zp i x y z).length with q|q
  .exact r i hi _ (Ze (d:=0) q)
  .rw [aI,bE q];exact jL _
 obtain⟨t,l⟩:=D;have j:((Zp i x y z).getD k 0).natAbs<=ov.natAbs*2146435072:=h.c i k;generalize Km ov x y z=g at *;rw [l,jQ _ O];rw [e,jQ _ O]at hs;rw [l,e,cF,cF,cT]at j;have B:=Nat.le_of_mul_le_mul_left j O;have G:=h.o;have I:0<s:=by
  rw [e]at G;by_cases q:0<s
  .exact q
  .have:=gM (eA n) (show s<=0 by omega);omega
 have w:s.natAbs*2146435072<=4294967296*2146435072:=aK _ O;exact aB B (aB w O3)
def mdO_t{g:Int}(h:ov/g<=4294967296):mdO ov g=ov/g:=aG h
def Zgg{g:Int}(h:ov/g<=4294967296):mdL ov g c=Hi c g:=aG h
def mdO_f{g:Int}(h:¬ov/g<=4294967296):mdO ov g=0:=aD h
def Yh3{g:Int}(h:¬ov/g<=4294967296):mdL ov g c=[]:=aD h
def dvL_0{g:Int}(h:c.length=0):Hi c g=[0]:=aG h
def dvL_n{g:Int}(h:c.length≠0):Hi c g=c.map (· / g):=aD h
theorem Ztx{g:Int}{k:Nat}(h:k<c.length):(c.take k).map (· / g) ++ [c.getD k 0/g]=(c.take (k+1)).map (· / g):=by rw [Py 0 _ _ h,dV];rfl
abbrev C6 (a b c:Value) (f:Nat->Value):Array Value:=#[a,b,c,f 0,f 1,f 2]
def upd(f:Nat->Value)(i:Nat)(v:Value)(j:Nat):Value:=if j=i then v else f j
theorem c6_get{a b c:Value}(h:i<3):(C6 a b c f)[3+i]? = some (f i):=by
 match i,h with
 | 0,_=>rfl
 | 1,_=>rfl
 | 2,_=>rfl
theorem Ykp{a b c:Value}(h:i<3):(C6 a b c (upd f i v))[3+i]? = some v:=by rw [c6_get h];unfold upd;rw [aG rfl]
theorem c6_lay{a b c:Value}(h:i<3):Fq (C6 a b c (upd f i u)) (3+i) [v]=C6 a b c (upd f i v):=by
 match i,h with
 | 0,_=>rfl
 | 1,_=>rfl
 | 2,_=>rfl
theorem Zxw{a b c:Value}{g:Nat->Value}(h:∀j,j<3->f j=g j):C6 a b c f=C6 a b c g:=by unfold C6;rw [h 0 O3,h 1 O3,h 2 O3]
theorem p3_sel{b:Nat}(h:i<3):Zp i (Value.pointer (some ⟨b,3,none⟩)) (Value.pointer (some ⟨b,4,none⟩)) (Value.pointer (some ⟨b,5,none⟩))= .pointer (some ⟨b,3+i,none⟩):=by
 match i,h with
 | 0,_=>rfl
 | 1,_=>rfl
 | 2,_=>rfl
theorem c3_get{a b c:Value}(h:i<3):(#[a,b,c]:Array Value)[0+i*1]? = some (Zp i a b c):=by
 match i,h with
 | 0,_=>rfl
 | 1,_=>rfl
 | 2,_=>rfl
def fz(zs:List (SL×List Int))(j:Nat):Value:=Xq (zs.getD j ((none,0,0),[])).1
theorem fz_upd(h:zs.length=i)(j:Nat):fz zs j=upd (fz zs) i (.slice none 0 0) j:=by
 unfold upd;split
 .rename_i e;subst e;subst h;unfold fz;rw [aI,bE (aH _)];rfl
 .rfl
theorem Yag(h:zs.length=i)(j:Nat):upd (fz zs) i (Xq s) j=fz (zs ++ [(s,c)]) j:=by
 subst h;unfold upd fz;split
 .rename_i e;subst e;simp
 .rename_i e;rw [aI,aI];rcases bA j zs.length with q|q
  .rw [cW q]
  .rw [bE q,bE O8]
def Zgf{t:Nat}{f:Nat->List Int}(g:zs.length=i)(h:∀t,t<i->(zs.getD t d0).2=f t)(e:c=f i)(j:t<i+1):((zs ++ [(s,c)]).getD t d0).2=f t:=e▸Zva g h j
theorem Yh2{x:List Int}{g:Int}(l:zs.length=3)(h:∀t,t<3->(zs.getD t d0).2=Hi (Zp t x y z) g):∃n r w:SL,zs=[(n,Hi x g),(r,Hi y g),(w,Hi z g)]:=by
 match zs,l with
 | [B,D,G],_=>
  have e:=h 0 O3;have j:=h 1 O3;have k:=h 2 O3;simp [Zp]at e j k;exact⟨B.1,D.1,G.1,by rw [<-e,<-j,<-k]⟩
theorem Yfs{b:Int} : 0<(a-b).sign↔¬a<=b:=by rw [sgp];omega
theorem t_st6   {x y:Operand} {t k:TypeId} {b n:Nat} {g h j:Value}   {w0:World}  (S:o.op= .store t x y) (I:o.dst=none)
  (W:ev env x=some (.pointer (some ⟨b,3+n,none⟩))) (Y:ev env y=some v) (B:lk H i=some (box b k (C6 g h j (upd f n u)))) (e:i≠0) (Q:∀w,(sizeOf t).run P w= .ok 1 w) (R:n<3) (r:One N sc env H v)
  (l:lk H 0=some (Qb w0 M0)) (V:∀b,w0.heap.size<=b->sc b) (D:M b) :
  T P N sc M o env H (G:=Unit) (λ_=>True) (λ_=>env) (λ_=>(i,box b k (C6 g h j (upd f n v)))::H):=by
 have:=t_stp1 (P:=P) (N:=N) (sc:=sc) (M:=M) S I W Y B e Q (by show Nat.ble (3+n+1) 6=true;simp;omega) r l V D;rw [c6_lay R]at this;exact this
theorem bl_dlq{b:Int}{n:Nat}(h:bl a.natAbs<=n)(g:0<b)(e:0<=a):bl (a/b).natAbs<=n:=(Qm n _).2 (aZ (by have j:=mA b e;have k:=iQ e (eA g);omega) ((Qm n _).1 h))
theorem Yiy{n:Nat}(h:∀z∈zs,∀b,(Xq z.1).ownBlock=some b->n<=b)(e:∀b,(Xq s).ownBlock=some b->n<=b):∀z∈zs ++ [(s,c)],∀b,(Xq z.1).ownBlock=some b->n<=b:=λz g=>by
 rcases cY.1 g with q|q
 .exact h z q
 .rw [bC.1 q];exact e
theorem fr3{n:Nat}{g j k:SL}{l r t:List Int}(h:∀z∈[(g,l),(j,r),(k,t)],∀b,(Xq z.1).ownBlock=some b->n<=b):∀p∈[Yw 1 Yk (Xq g) l1,Yw 1 Yk (Xq j) l2,Yw 1 Yk (Xq k) l3],∀b,p.fp b->n<=b:=λp w b e=>by
 simp only [bQ,fQ,lC]at w;rcases w with rfl|rfl|rfl
 .exact h (g,l) O5 b e.2
 .exact h (j,r) O5 b e.2
 .exact h (k,t) O5 b e.2
theorem fr0{n:Nat} : ∀p∈[Yw 1 Yk (Xq (none,0,0)) l1,Yw 1 Yk (Xq (none,0,0)) l2,Yw 1 Yk (Xq (none,0,0)) l3],∀b,p.fp b->n<=b:=λp e b g=>by simp only [bQ,fQ,lC]at e;rcases e with rfl|rfl|rfl<;>cases g.2
end Go.Sky
namespace Go.Sky
open Go.RowKit (Below)
variable {P:Program} {N:Nat} {sc:Nat->Prop} {env env':Ob} {H H':Hp} {Q Q':Exit->Act->World->Prop}
def Yf8{n:Nat}{a:String}{args:Array Value}{w:World}{R:Value->World->Prop}(h:Rows P a args w R):RowsIn Fence.wide n P a args w R:=λc b _=>
 let ⟨v,w',r,s⟩:=h c b;⟨v,w',r,stepsIn_wide.2 s⟩
def noQ:Exit->Act->World->Prop:=λ_ _ _=>False
section
variable {ops:Array Oper} {C:World->World->Prop}
def wpAnyZ(P:Program)(ops:Array Oper)(ts:List Nat)(C:World->World->Prop)(Q:Exit->Act->World->Prop):Nat->Array Bool->Act->World->Prop
 | 0,_,_,_=>False
 | c+1,b,a,w=>if Cp ops ts b=true then wpAnyIn Fence.wide 0 P .any ops Q (c+1) b a w else
  (Region.ready .any ops b=[]->False)/\
  ∀i∈Region.ready .any ops b,wpOp P ops noQ i (λe d=>C w d/\wpAnyZ P ops ts C Q c (b.setIfInBounds i true) e d) a w
inductive Dep (ops:Array Oper) (i:Nat):Nat->Prop
 | base {j:Nat} {o:Oper} {e:Edge} : ops[j]? = some o->e∈o.after->Region.binds .any e=true->e.on=i->Dep ops i j
 | step {j:Nat} {o:Oper} {e:Edge} : ops[j]? = some o->e∈o.after->Region.binds .any e=true->Dep ops i e.on->Dep ops i j
def Yjs(ops:Array Oper)(i:Nat):Nat->List Nat
 | 0=>[]
 | k+1=>match ops[k]? with
  | some o=>if o.after.any (λe=>Region.binds .any e && (e.on == i || (Yjs ops i k).contains e.on))then k::Yjs ops i k else Yjs ops i k
  | none=>Yjs ops i k
def Clo(ops:Array Oper)(a:Array Bool):Prop:=∀k o,ops[k]? = some o->a.getD k true=true->∀e∈o.after,Region.binds .any e=true->a.getD e.on true=true
theorem Ynv{l:Array Bool}{x:Nat}(h:l.getD x false=true):l.getD x true=true:=by rcases bA x l.size with a|a<;>simp_all
theorem Clo.set{a:Array Bool}{j:Nat}(n:Clo ops a)(p:j∈Region.ready .any ops a):Clo ops (a.setIfInBounds j true):=λk o f m e l i=>by
 obtain⟨q,r,g,b⟩:=mem_ready.1 p;have h:a.getD e.on true=true:=by
  by_cases d:j=k
  .subst d;rw [g]at f;cases f;exact Ynv (b _ l i)
  .rw [getD_set_ne true d]at m;exact n k o f m e l i
 by_cases c:j=e.on
 .subst c;by_cases hs:e.on<a.size<;>simp_all
 .rw [getD_set_ne true c];exact h
end
def Zzl(ops:Array Oper)(ts:List Nat):List (Nat×Nat)->Array Bool->Bool
 | [],_=>true
 | (i,1)::rest,listed=>(Region.ready .any ops listed == [i]) && !(Cp ops ts listed) && Zzl ops ts rest (listed.setIfInBounds i true)
 | (i,3)::rest,listed=>false
 | (i,_)::rest,listed=>(Region.ready .any ops listed).contains i && Region.free .any ops listed i && !(ts.contains i) && ts.all (λj=>(Yjs ops i ops.size).contains j) && Zzl ops ts rest (listed.setIfInBounds i true)
def YL(P:Program)(N:Nat)(sc:Nat->Prop)(ops:Array Oper)(Q:Exit->Act->World->Prop)(k:Nat)(b:Array Bool)(env:Ob)(H:Hp):Prop:=
 ∀a w,Sat N sc env H a w->wpAnyIn Fence.wide 0 P .any ops Q (k+1) b a w
end Go.Sky
namespace Go.Sky
open Go.RowKit (Below)
variable {P:Program} {N:Nat} {sc:Nat->Prop} {env env':Ob} {H H':Hp} {Q Q':Exit->Act->World->Prop}
def CalY(P:Program)(f:FuncId)(d:List Value)(pre:List Pc)(i:Prop){G:Type}(j:G->Prop)(h:G->Value):Prop:=
 ∀(l:Nat) (J:World->Prop) (w:World),(∀p∈pre,p.holds w)->
  (∀g,j g->∀a,Below w.heap.size w a->YieldAt Fence.wide 0 P l #[h g] a λe c=>e= .returned (.bool false)/\J c)->
  Calls P f (.func (.yield l) #[] #[]::d).toArray w λe b=>(∃v,e= .returned v)/\((i/\Below w.heap.size w b)\/J b)
def FPostY(P:Program)(fn:Func)(w0:World)(b:Prop)(J:World->Prop):Exit->Act->World->Prop:=
 bodyPost P fn λe a=>(∃v,e= .returned v)/\((b/\Below w0.heap.size w0 a)\/J a)
def YJ(P:Program)(w0:World)(l:Nat){G:Type}(d:G->Prop)(c:G->Value)(J:World->Prop):Prop:=
 ∀g,d g->∀a,Below w0.heap.size w0 a->YieldAt Fence.wide 0 P l #[c g] a λe b=>e= .returned (.bool false)/\J b
theorem Ygc{fn:Func}{tmps:Array Value}{w:World}(a:fn.results=#[]):(results fn tmps).run P w= .ok (.tuple #[]) w:=by rw [Zk2,a];simp
end Go.Sky

