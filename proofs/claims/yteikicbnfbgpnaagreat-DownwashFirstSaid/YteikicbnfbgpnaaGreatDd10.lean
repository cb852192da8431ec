/- Rules, arithmetic and contracts: part 11. No conditions but those that each theorem names. -/
import Derived.Test.YteikicbnfbgpnaaGreatDd09
import Derived.MapKept
set_option linter.all false
namespace Go.Sky
variable{o:Oper}{x y:Operand}{t:TypeId}{i M:Nat}{kd:IntKind}{c p q ns:List Int}{f:Nat->List Int}
section
variable {P:Program} {N:Nat} {sc:Nat->Prop} {env:Pz} {H:Hp}
theorem d_ix4   {e:TypeId}   {m d g h j:Int} (s:o.op= .index t x y) (v:ev env x=some (.agg #[.int .i64 d,.int .i64 g,.int .i64 h,.int .i64 j])) (z:ev env y=some (.int kd m))
  (u:P.underlying t=some (.array 4 e)) (n:∀w,(sizeOf e).run P w= .ok 1 w) (l:∀w,(isAgg e).run P w= .ok false w) (b:m=(i:Int)) (r:i<4):Mx P N sc o env H (.int .i64 ([d,g,h,j].getD i 0)):=λa w hs=>by
 subst b;have k:i=0\/i=1\/i=2\/i=3:=O;rcases k with rfl|rfl|rfl|rfl<;>simp [execOp,s,hs.ev v,hs.ev z,Instr.index,asIntOf,run_underlying u,n,l,asAgg,part]
theorem d_ix9   {e:TypeId}   {m d g h:Int} {n r s j k l:Value} (D:o.op= .index t x y) (G:ev env x=some (.agg #[n,j,.int .i64 d,r,k,.int .i64 g,s,l,.int .i64 h])) (I:ev env y=some (.int kd m))
  (F:P.underlying t=some (.array 3 e)) (z:∀w,(sizeOf e).run P w= .ok 3 w) (v:∀w,(isAgg e).run P w= .ok true w) (b:m=(i:Int)) (B:i<3):Mx P N sc o env H (.agg #[Zp i n r s,Zp i j k l,.int .i64 (Zp i d g h)]):=λa w hs=>by
 subst b;have u:i=0\/i=1\/i=2:=O;rcases u with rfl|rfl|rfl<;>simp [execOp,D,hs.ev G,hs.ev I,Instr.index,asIntOf,run_underlying F,z,v,asAgg,part,Zp]
end
def KA:Nat:=360287970189639680
theorem AxC.ka{a:Int}(h:AxC c a)(b:1<=a)(d:a<=4294967296):Ab KA (tzl c):=λk=>by have:=h.cg k;rw [Mv];unfold KA;omega
def BG:Nat:=2^250*2^250
theorem bl_two{a b x:Nat}(h:x<2^a*2^b):bl x<=a+b:=(Qm (a+b) x).2 (by rw [bW];exact h)
def Zvh{x:Nat}(h:x<BG):bl x<=500:=bl_two (a:=250) (b:=250) h
def Ab.sg(h:Ab M p)(a:M<BG):Sz 500 p:=λi=>Zvh (aZ (h i) a)
def Fv(h:Ab M p)(a:M<BG)(d:Tr p)(b:p.length<=25):Vp p:=⟨(h.sg a).mono O3,d,b⟩
theorem Zs1{c:Int}(h:Ab M p)(b:M*c.natAbs<BG)(i:Nat):bl (cf p i*c).natAbs<=65536:=by have a:=Ep h c i;rw [Yk]at a;exact aB (Zvh (aZ a b)) O3
theorem ad_ab{K:Nat}(h:Ab M p)(e:Ab K q)(d:M+K<BG)(i:Nat):bl (cf p i+cf q i).natAbs<=65536/\bl (cf p i-cf q i).natAbs<=65536:=by have a:=h i;have b:=e i;exact⟨aB (Zvh (aZ (by omega:_<=M+K) d)) O3,aB (Zvh (aZ (by omega:_<=M+K) d)) O3⟩
theorem mf_ab(h:Ab M p)(b:M<BG)(d:p.length<=11):¬Az p p:=λa=>by have m:=Qq (h.sg b);rcases a.2.2 with w|w<;>omega
def dfP(p q:List Int)(a b:Int):List Int:=Dc (Zs (tzl p) b) (Zs (tzl q) a)
def dfK(p q:List Int)(a b k:Int):List Int:=Zs (dfP p q a b) k
def sqK(p q:List Int)(a b k:Int):List Int:=Qn (dfK p q a b k) (dfK p q a b k)
def sqP(p q:List Int)(a b:Int):List Int:=Qn (dfP p q a b) (dfP p q a b)
def KD:Nat:=KA*4294967296+KA*4294967296
structure FmX (p q:List Int) (a b k:Int):Prop where
 v1:Vp (tzl p)
 v2:Vp (tzl q)
 b1:bl b.natAbs<=65536
 a1:bl a.natAbs<=65536
 k1:bl k.natAbs<=65536
 s1:∀i,bl (cf (tzl p) i*b).natAbs<=65536
 s2:∀i,bl (cf (tzl q) i*a).natAbs<=65536
 v3:Vp (Zs (tzl p) b)
 v4:Vp (Zs (tzl q) a)
 s3:∀i,bl (cf (Zs (tzl p) b) i-cf (Zs (tzl q) a) i).natAbs<=65536
 v5:Vp (dfP p q a b)
 s4:∀i,bl (cf (dfP p q a b) i*k).natAbs<=65536
 v6:Vp (dfK p q a b k)
 m6:¬Az (dfK p q a b k) (dfK p q a b k)
 v7:Vp (sqK p q a b k)
 ab:Ab (6*((KD*100)*(KD*100))) (sqK p q a b k)
 l:(sqK p q a b k).length<=11
 m5:¬Az (dfP p q a b) (dfP p q a b)
 v8:Vp (sqP p q a b)
 ab8:Ab (6*((KD*100)*(KD*100))) (sqP p q a b)
 l8:(sqP p q a b).length<=11
theorem fmX{a b k:Int}(l:Ab KA (tzl p))(m:Ab KA (tzl q))(lp:p.length<=6)(V:q.length<=6)(B:1<=a/\a<=4294967296)(D:1<=b/\b<=4294967296)(W:1<=k/\k<=100):FmX p q a b k:=by
 have r:(tzl p).length<=6:=aB (Mp p) lp;have s:(tzl q).length<=6:=aB (Mp q) V;have u:Ab (KA*4294967296) (Zs (tzl p) b):=(Ep l b).mono (aX _ O);have v:Ab (KA*4294967296) (Zs (tzl q) a):=(Ep m a).mono (aX _ O);have d:Ab KD (dfP p q a b):=Ylh u v;have e:Ab (KD*100) (dfK p q a b k):=(Ep d k).mono (aX _ O);have j:Ab (KD*100) (dfP p q a b):=d.mono O6;have R:(Zs (tzl p) b).length<=6:=aB (Pt _ _) r;have S:(Zs (tzl q) a).length<=6:=aB (Pt _ _) s;have g:(dfP p q a b).length<=6:=Yae R S;have n:(dfK p q a b k).length<=6:=aB (Pt _ _) g;have t5:Tr (dfP p q a b):=Qg _;have t6:Tr (dfK p q a b k):=Qg _;have w:=Yli e e n;have z:=Yli j j g;have F:=Yaf t6 t6 n n;have G:=Yaf t5 t5 g g;have h:∀c:Int,1<=c/\c<=4294967296->bl c.natAbs<=65536:=λc Q=>aB ((Qm 40 _).2 O) O6;have I:∀c:Int,1<=c/\c<=4294967296->KA*c.natAbs<BG:=λc Q=>aZ (aX KA (by omega:c.natAbs<=4294967296)) O6;exact⟨Fv l O6 (Qg _) O,Fv m O6 (Qg _) O,h b D,h a B,h k O,Zs1 l (I b D),Zs1 m (I a B),
  Fv u O6 (Qg _) O,Fv v O6 (Qg _) O,λi=>(ad_ab u v O6 i).2,Fv d O6 t5 O,
  Zs1 d (aZ (aX KD (by omega:k.natAbs<=100)) O6),Fv e O6 t6 O,mf_ab e O6 O,Fv w O6 (Qi _ _) (by have:(sqK p q a b k).length<=_:=F;omega),w,F,
  mf_ab j O6 O,Fv z O6 (Qi _ _) (by have:(sqP p q a b).length<=_:=G;omega),z,G⟩
def ngC(ns:List Int):Nat->List Int
 | 0=>[-1]
 | i+1=>Zs (Zs (ngC ns i) (ns.getD i 0)) (ns.getD i 0)
def sqN(ns:List Int):Nat->Nat
 | 0=>1
 | i+1=>sqN ns i*(ns.getD i 0).natAbs*(ns.getD i 0).natAbs
theorem Zwy(ns:List Int):∀i,Ab (sqN ns i) (ngC ns i)/\(ngC ns i).length<=1/\Tr (ngC ns i)
 | 0=>⟨λi=>by
   match i with
   | 0=>show(cf [-1] 0).natAbs<=1;decide
   | i+1=>show(cf [-1] (i+1)).natAbs<=1;rw [Yg O5];decide,aH _,show Tr [-1]from .inr O3⟩
 | i+1=>by obtain⟨a,b,d⟩:=Zwy ns i;exact⟨Ep (Ep a _) _,aB (Pt _ _) (aB (Pt _ _) b),Qg _⟩
theorem Yfk{ns:List Int}{B:Nat}(h:∀i,(ns.getD i 0).natAbs<=B):∀i,sqN ns i<=(B*B)^i
 | 0=>aH _
 | i+1=>by rw [bX,<-cT];exact aR (aR (Yfk h i) (h i)) (h i)
structure NgX (ns:List Int) (i:Nat):Prop where
 b:bl (ns.getD i 0).natAbs<=65536
 inn:Nz (ns.getD i 0)
 v:Vp (ngC ns i)
 s:∀k,bl (cf (ngC ns i) k*ns.getD i 0).natAbs<=65536
 v2:Vp (Zs (ngC ns i) (ns.getD i 0))
 s2:∀k,bl (cf (Zs (ngC ns i) (ns.getD i 0)) k*ns.getD i 0).natAbs<=65536
theorem ngX(h:∀i,(ns.getD i 0).natAbs<=4294967296)(hi:i<=4):NgX ns i:=by obtain⟨j,n,k⟩:=Zwy ns i;have e:=Yfk h i;have g:(4294967296*4294967296)^i<=(4294967296*4294967296)^4:=dH O6 hi;have a:Ab ((4294967296*4294967296)^4) (ngC ns i):=j.mono (aB e g);have b:=h i;have d:Ab ((4294967296*4294967296)^4*4294967296) (Zs (ngC ns i) (ns.getD i 0)):=(Ep a _).mono (aX _ b);have l:(4294967296*4294967296)^4*(ns.getD i 0).natAbs<BG:=aZ (aX _ b) O6;have m:(4294967296*4294967296)^4*4294967296*(ns.getD i 0).natAbs<BG:=aZ (aX _ b) O6;exact⟨aB ((Qm 40 _).2 O) O6,⟨O,O⟩,Fv a O6 k O,Zs1 a l,Fv d O6 (Qg _) (aB (Pt _ _) O),Zs1 d m⟩
def smP(c:List Int)(f:Nat->List Int):Nat->List Int
 | 0=>c
 | i+1=>Fg (smP c f i) (f i)
theorem Yfr{c:List Int}{f:Nat->List Int}{C F:Nat}(a:Ab C c)(d:c.length<=11)(g:Tr c)(b:∀i,Ab F (f i))(e:∀i,(f i).length<=11):∀i,Ab (C+i*F) (smP c f i)/\(smP c f i).length<=11/\Tr (smP c f i)
 | 0=>⟨by rw [gI];exact a,d,g⟩
 | i+1=>by obtain⟨h,j,k⟩:=Yfr a d g b e i;exact⟨by rw [dB,<-fR];exact Zye h (b i),Zqo j (e i),Qg _⟩
structure SmX (c:List Int) (f:Nat->List Int):Prop where
 v:∀i,i<=3->Vp (smP c f i)
 s:∀i,i<3->∀k,bl (cf (smP c f i) k+cf (f i) k).natAbs<=65536
 d:Cvd (Zx (smP c f 3))
theorem smX(m:Ab (2^190) c)(s:c.length<=1)(r:Tr c)(l:∀i,Ab (6*((KD*100)*(KD*100))) (f i))(n:∀i,(f i).length<=11):SmX c f:=by
 have b:=Yfr m O r l n;have g:∀i,i<=3->2^190+i*(6*((KD*100)*(KD*100)))<2^205:=λi hi=>aZ (Nat.add_le_add_left (aK _ hi) _) O6;have a:(2:Nat)^205<BG:=O6;refine⟨λi hi=>?_,λi hi k=>?_,?_⟩
 .obtain⟨d,j,h⟩:=b i;exact Fv d (jP (g i hi) a) h O
 .obtain⟨d,j,h⟩:=b i;refine(ad_ab d (l i) ?_ k).1;have:=g (i+1) hi;rw [dB]at this;have e:=jP this a;omega
 .obtain⟨d,j,h⟩:=b 3;have hs:=d.sz (g 3 (aH _));exact⟨Lp (Fv d (jP (g 3 (aH _)) a) h O),Ho hs,by rw [Zw];exact j⟩
end Go.Sky
namespace Go.Sky
variable{m i k:Nat}{x y z x2 y2 z2 Y Z c:List Int}{D d ov fr2 to2 ov2 zd zn ze:Int}{a b xs ys:List Zv}{zs gs:List (Int×SL)}{o:Oper}{t et:TypeId}{f:Nat->List Int}{w0:World}{M0:Nat->Prop}{v:Value}
theorem fill33(s u w B F G H I M e g h j l n p q r:Value):Instr.fill (λi=>some (i*3,3)) #[s,u,w,B,F,G,H,I,M] [(0,.agg #[e,g,h]),(1,.agg #[j,l,n]),(2,.agg #[p,q,r])]=some #[e,g,h,j,l,n,p,q,r]:=by simp [Instr.fill,Value.cells]
theorem fillG(j l n e g h:Value):Instr.fill (λi=>some (i*3,3)) ((List.range (1*3)).map ((Value.agg #[j,l,n]).cells[· % (Value.agg #[j,l,n]).cells.size]!)).toArray [(0,.agg #[e,g,h])]=some #[e,g,h]:=by
 simp [Instr.fill,Value.cells,List.range,List.range.loop]
 try rfl
def Yd0(m:Int)(l:List Int):Bool:=l.all λx=>decide (-m<=x) && decide (x<=m)
theorem insB_t{m:Int}{l:List Int}(h:∀i,i<l.length->-m<=l.getD i 0/\l.getD i 0<=m):Yd0 m l=true:=cJ.2 λx n=>by obtain⟨k,j,rfl⟩:=Gs.1 n;obtain⟨e,g⟩:=h k j;rw [aN e,aN g];rfl
theorem Yio{m:Int}{l:List Int}(hi:i<l.length)(h:¬(-m<=l.getD i 0/\l.getD i 0<=m)):Yd0 m l=false:=by
 cases hb:Yd0 m l with
 | false=>rfl
 | true=>
  have:=cJ.1 hb _ (Zd (d:=0) hi);rw [aQ]at this;exact absurd ⟨cF this.1,cF this.2⟩ h
def ptB(x y z:Int):Bool:=Yd0 1048576 [x,y,z]
theorem pt_b{x y z:Int}(h:ptB x y z=true):(-1048576<=x/\x<=1048576)/\(-1048576<=y/\y<=1048576)/\(-1048576<=z/\z<=1048576):=by unfold ptB Yd0 at h;simp only [nO,List.all_nil,Bool.and_true,aQ,dQ]at h;exact h
def znB(D n d:Int):Bool:=decide (1<=D/\D<=4194304/\1<=n/\n<=d/\d<=100)
def Ylq{n:Int}(h:znB D n d=true):1<=D/\D<=4194304/\1<=n/\n<=d/\d<=100:=cF h
theorem Zej{x y:Int}{A B:Nat}(e:x.natAbs<=A)(g:y.natAbs<=B):(x*y).natAbs<=A*B:=by rw [cH];exact aR e g
def ptsB(g h j l e p D n d:Int):Bool:=decide (D*d*(D*d)<=(g-l)*d*((g-l)*d)+(h-e)*d*((h-e)*d)+(j-p)*n*((j-p)*n))
def fqZ(n d ov ov2:Int)(x y z x2 y2 z2:List Int)(i:Nat):List Int:=sqK (Zp i x y z) (Zp i x2 y2 z2) ov ov2 (Zp i d d n)
def cnZ(D d ov ov2:Int):List Int:=ngC [D,d,ov,ov2] 4
def smZ(D n d ov ov2:Int)(x y z x2 y2 z2:List Int)(i:Nat):List Int:=smP (cnZ D d ov ov2) (fqZ n d ov ov2 x y z x2 y2 z2) i
def fmZ(D n d ov ov2:Int)(x y z x2 y2 z2:List Int):List Int:=Zx (smZ D n d ov ov2 x y z x2 y2 z2 3)
structure FzX (D n d ov ov2:Int) (x y z x2 y2 z2:List Int):Prop where
 X:∀i,FmX (Zp i x y z) (Zp i x2 y2 z2) ov ov2 (Zp i d d n)
 K:∀i,Nz (Zp i d d n)
 N:∀i,i<=4->NgX [D,d,ov,ov2] i
 Q:SmX (cnZ D d ov ov2) (fqZ n d ov ov2 x y z x2 y2 z2)
theorem Zan{fr r:Int}(h:Cd fr r ov x y z=true)(i:Nat):Ab KA (tzl (Zp i x y z)):=by unfold Cd Ycl at h;simp only [aQ,dQ]at h;obtain⟨⟨⟨⟨⟨⟨⟨⟨s,u⟩,w⟩,e⟩,g⟩,j⟩,n⟩,q⟩,-⟩:=h;exact Cc (p:=λl=>Ab KA (tzl l)) ((AxC.of j).ka e g) ((AxC.of n).ka e g) ((AxC.of q).ka e g)
theorem fzX{fr M n:Int}(h:Sgo fr M ov x y z)(e:Sgo fr2 to2 ov2 x2 y2 z2)(u:∀i,Ab KA (tzl (Zp i x y z)))(g:∀i,Ab KA (tzl (Zp i x2 y2 z2)))(B:znB D n d=true):FzX D n d ov ov2 x y z x2 y2 z2:=by
 obtain⟨P,N,Q,R,S⟩:=Ylq B;have F:=h.o1;have G:=h.o2;have H:=e.o1;have I:=e.o2;have r:∀i,1<=Zp i d d n/\Zp i d d n<=100:=λi=>Cc (p:=λk:Int=>1<=k/\k<=100) ⟨O,O⟩ ⟨O,O⟩ ⟨O,O⟩;have j:∀i,FmX (Zp i x y z) (Zp i x2 y2 z2) ov ov2 (Zp i d d n):=λi=>fmX (u i) (g i) (h.lc i).2 (e.lc i).2 ⟨F,G⟩ ⟨H,I⟩ (r i);have w:∀i,([D,d,ov,ov2].getD i 0).natAbs<=4294967296:=λi=>by
  match i with
  | 0=>show D.natAbs<=_;omega
  | 1=>show d.natAbs<=_;omega
  | 2=>show ov.natAbs<=_;omega
  | 3=>show ov2.natAbs<=_;omega
  | i+4=>show(0:Int).natAbs<=_;decide
 refine⟨j,λi=>?_,λi hi=>ngX w hi,?_⟩
 .obtain⟨l,q⟩:=r i;exact⟨O,O⟩
 .obtain⟨l,q,s⟩:=Zwy [D,d,ov,ov2] 4;refine smX (l.mono ?_) q s (λi=>(j i).ab) (λi=>(j i).l);show 1*D.natAbs*D.natAbs*d.natAbs*d.natAbs*ov.natAbs*ov.natAbs*ov2.natAbs*ov2.natAbs<=2^190;refine aB (aR (aR (aR (aR (aR (aR (aR (aR (aH 1) (show D.natAbs<=4194304 by omega)) (show D.natAbs<=4194304 by omega)) (show d.natAbs<=100 by omega)) (show d.natAbs<=100 by omega)) (show ov.natAbs<=4294967296 by omega)) (show ov.natAbs<=4294967296 by omega)) (show ov2.natAbs<=4294967296 by omega)) (show ov2.natAbs<=4294967296 by omega)) O6
theorem Yao{n:Int}(h:FzX D n d ov ov2 x y z x2 y2 z2):Cvd (fmZ D n d ov ov2 x y z x2 y2 z2):=by unfold fmZ smZ;exact h.Q.d
def tzlm1:(if 25<(tzl [(-1:Int)]).length then []else tzl [-1])=[-1]:=O3
abbrev GpT:=(Int×Int)×(SL×List Int)
abbrev Za7 (g:GpT):Value:= .agg #[.int .i64 g.1.1,.int .i64 g.1.2,Xn g.2.1]
abbrev qGp (g:GpT):Pc:=Yw 2 wv (Xn g.2.1) g.2.2
abbrev Gp0:GpT:=((0,0),((none,0,0),[]))
abbrev GpU:=Int×Int×List Int
def unP(g:GpT):GpU:=(g.1.1,g.1.2,g.2.2)
def gpZ(D n d:Int)(g h:Zvs):GpU:=(g.1.1,g.1.2.1,fmZ D n d g.1.2.2 h.1.2.2 g.2.1 g.2.2.1 g.2.2.2 h.2.1 h.2.2.1 h.2.2.2)
def Ke(D n d:Int)(a b:List Zv):List GpU:=List.zipWith (gpZ D n d) (Ih a b a) (Ih a b b)
def Bk(a b:List Zv):Int:=if Dl a b=9 then 0 else Dl a b
def Zrf(h:Dl a b≠0)(ps:List Zv):Ih a b ps=[]:=aD h
theorem Zw9{n:Int}(h:Dl a b≠0):Ke D n d a b=[]:=by unfold Ke;rw [Zrf h];rfl
theorem Zly{ts:List Int}{a b ps:List Zv}(e:∀k,Oj (ts.getD k 0) (ts.getD (k+1) 0) a=true->Oj (ts.getD k 0) (ts.getD (k+1) 0) b=true->k+1<ts.length->(Zdc (ts.getD k 0) (ts.getD (k+1) 0) ps).length=1):∀n,n+1<=ts.length->Ck ts a b n=true->(Zg1 ts ps n).length=n
 | 0,_,_=>rfl
 | n+1,j,g=>by have h:Ck ts a b (n+1)=(Ck ts a b n && (Oj (ts.getD n 0) (ts.getD (n+1) 0) a && Oj (ts.getD n 0) (ts.getD (n+1) 0) b)):=rfl;rw [h,aQ,aQ]at g;show(Zg1 ts ps n ++ Zdc _ _ ps).length=_;rw [aY,Zly e n O g.1,e n g.2.1 g.2.2 O]
theorem Yka{ps:List Zv}{fr h:Int}(hi:∀g∈ps,Gin g)(l:Om ps=true)(p:spF ps<=fr)(q:fr<h)(r:h<=spL ps)(j:∀g∈ps,¬(fr<g.1.1/\g.1.1<h))(s:Oj fr h ps=true):(Zdc fr h ps).length=1:=by have n:=(Gi l).2.1;unfold Zdc;rw [aF s,aP,Ybd (Zcw hi l).1 (λe=>by rw [e]at n;simp at n) p q r j]
theorem Zxv(a b:List Zv):Dl a b=9\/Dl a b=0\/Dl a b=7:=by
 unfold Dl;split
 .exact .inl rfl
 .split
  .exact .inr (.inl rfl)
  .exact .inr (.inr rfl)
theorem comE_0(h:Dl a b=0):¬cmF a b>=Ak a b/\Zxu a b=true:=by
 unfold Dl at h;by_cases e:cmF a b>=Ak a b
 .rw [aF e]at h;exact absurd h O3
 .rw [aD e]at h;cases hk:Zxu a b with
  | true=>exact⟨e,rfl⟩
  | false=>rw [hk]at h;exact absurd h O3
theorem Zre(u:∀g∈a,Gin g)(w:∀g∈b,Gin g)(q:Om a=true)(r:Om b=true):(Ih a b a).length=(Ih a b b).length/\(Ih a b a).length<=2+a.length+b.length:=by
 by_cases h:Dl a b=0
 .obtain⟨P,F⟩:=comE_0 h;have B:=bks (a:=a) (b:=b) O;have N:=B.two;have e:∀ps,Ih a b ps=Zg1 (Nd a b) ps ((Nd a b).length-1):=λps=>aF h;have I:=Zly (ts:=Nd a b) (a:=a) (b:=b) (ps:=a) (λk G H j=>by obtain⟨l,n,p⟩:=B.lt k j;unfold cmF at l;unfold Ak at p;exact Yka u q O n O (λg s=>B.no k j g (.inl s)) G) ((Nd a b).length-1) O F
  have M:=Zly (ts:=Nd a b) (a:=a) (b:=b) (ps:=b) (λk G H j=>by obtain⟨l,n,p⟩:=B.lt k j;unfold cmF at l;unfold Ak at p;exact Yka w r O n O (λg s=>B.no k j g (.inr s)) H) ((Nd a b).length-1) O F
  have Q:=Zqn a b;rw [e,e,I,M];exact⟨rfl,O⟩
 .rw [Zrf h,Zrf h];exact⟨rfl,bG _⟩
theorem Zh9{ps zs:List Zv}(hi:∀g∈ps,Gin g)(G:Om ps=true)(M:zs.map unS=Ih a b ps):∀q∈zs,Gin q/\seB q=true:=by
 have s:∀n,∀u∈Zg1 (Nd a b) ps n,∃(fr l:Int) (g:Zv),g∈ps/\Ku fr l g=true/\Zg0 fr l g=true/\u=Zu6 fr l g:=λn=>by
  induction n with
  | zero=>intro u r;cases r
  | succ n N=>
   intro u r;rcases cY.1 (show u∈Zg1 (Nd a b) ps n ++ _ from r)with h|h
   .exact N u h
   .unfold Zdc at h;split at h
    .rename_i H;obtain⟨g,w,rfl⟩:=fT.1 h;obtain⟨e,p⟩:=gT.1 w;exact⟨_,_,g,e,p,cJ.1 H g w,rfl⟩
    .cases h
 intro q I;have j:unS q∈Ih a b ps:=by rw [<-M];exact fT.2 ⟨q,I,rfl⟩
 unfold Ih at j;split at j
 .obtain⟨fr,l,g,e,p,B,F⟩:=s _ _ j;have:=You (hi g e) ((Zcw hi G).2.1 g e) p B F;exact⟨this.1,this.2.1⟩
 .cases j
theorem zip_s{α β γ:Type}{f:α->β->γ} : ∀{l:List α} {m:List β} {k:Nat} {x:α} {y:β},l[k]? = some x->m[k]? = some y->(List.zipWith f l m).take (k+1)=(List.zipWith f l m).take k ++ [f x y]
 | [],_,_,_,_,h,_=>by simp at h
 | _::_,[],_,_,_,_,h=>by simp at h
 | a::l,b::m,0,x,y,h,h2=>by simp at h h2;subst h;subst h2;simp
 | a::l,b::m,k+1,x,y,h,h2=>by have:=zip_s (f:=f) (l:=l) (m:=m) (k:=k) (by simpa using h) (by simpa using h2);simp only [List.zipWith_cons_cons,kW,this,iF]
def gpY(q:Zv)(g:SL×List Int):GpT:=((q.1.1,q.1.2.1),g)
theorem Yaj{n:Int}{zs:List GpT}{g:SL×List Int}(r:xs.map unS=Ih a b a)(s:ys.map unS=Ih a b b)(h:zs.map unP=(Ke D n d a b).take k)(j:k<xs.length)(e:k<ys.length)(q:g.2=fmZ D n d (xs.getD k G0).1.2.2 (ys.getD k G0).1.2.2 (xs.getD k G0).2.1.2 (xs.getD k G0).2.2.1.2 (xs.getD k G0).2.2.2.2 (ys.getD k G0).2.1.2 (ys.getD k G0).2.2.1.2 (ys.getD k G0).2.2.2.2) :
  (zs ++ [gpY (xs.getD k G0) g]).map unP=(Ke D n d a b).take (k+1):=by
 have l:(Ih a b a)[k]? = some (unS (xs.getD k G0)):=by rw [<-r,eR,aL j,aG,aL j];rfl
 have p:(Ih a b b)[k]? = some (unS (ys.getD k G0)):=by rw [<-s,eR,aL e,aG,aL e];rfl
 unfold Ke at h ⊢;rw [zip_s l p,dY,h,cK,fS];simp only [gpY,unP,gpZ,unS];rw [q]
theorem Yix{n:Int}{zs:List GpT}(g:xs.map unS=Ih a b a)(j:(Ih a b a).length=(Ih a b b).length)(h:zs.map unP=(Ke D n d a b).take xs.length):zs.map unP=Ke D n d a b:=by rw [h,bL];have e:=aI List.length g;rw [aP]at e;unfold Ke;rw [kZ];omega
def Yi0(h:Dl a b=9):Bk a b=0:=aF h
def Yiz(h:¬Dl a b=9):Bk a b=Dl a b:=aD h
theorem inI_o{fr e:Int}(h:Sgo fr e ov x y z):Nz ov:=⟨by have:=h.o1;omega,by have:=h.o2;omega⟩
def Zl6(l:List GpU):Option GpU:=l.find? λg=>He g.2.2
def Ha(l:List GpU):Int×Int×Bool:=match Zl6 l with
 | some g=>(g.1,g.2.1,true)
 | none=>(0,0,false)
theorem fst_n{l:List GpU}(h:∀i,i<l.length->He (l.getD i (0,0,[])).2.2=false):Ha l=(0,0,false):=by
 have:Zl6 l=none:=List.find?_eq_none.2 λg e=>by obtain⟨i,hi,rfl⟩:=dX.1 e;have:=h i hi;rw [aG,aL hi]at this;rw [show He (l[i]).2.2=false from this];exact cZ
 unfold Ha;rw [this]
theorem fst_s:∀{l:List GpU} {k:Nat},k<l.length->(∀i,i<k->He (l.getD i (0,0,[])).2.2=false)->He (l.getD k (0,0,[])).2.2=true->Zl6 l=some (l.getD k (0,0,[]))
 | [],_,h,_,_=>absurd h (bT _)
 | g::l,0,_,_,h2=>kI (by exact h2)
 | g::l,k+1,h,h1,h2=>by have e:Zl6 (g::l)=Zl6 l:=kJ (by rw [show He g.2.2=false from h1 0 (jO _)];exact cZ);rw [e];exact fst_s (l:=l) (k:=k) (by simpa using h) (λi hi=>h1 (i+1) O) h2
theorem Cb(zs:List GpT)(k:Nat):(zs.map unP).getD k (0,0,[])=unP (zs.getD k Gp0):=by rw [aG,eR,aG];cases zs[k]?<;>rfl
theorem cvd_gp{n:Int}(s:∀g∈a,Gin g)(u:∀g∈b,Gin g)(h:Om a=true)(j:Om b=true)(V:znB D n d=true)(G:xs.map unS=Ih a b a)(H:ys.map unS=Ih a b b):∀g∈Ke D n d a b,Cvd g.2.2:=λg F=>by
 unfold Ke at F;obtain⟨k,Q,e⟩:=dX.1 F;rw [List.getElem_zipWith]at e;subst e;rw [kZ]at Q;have l:k<(Ih a b a).length:=O;have p:k<(Ih a b b).length:=O;have W:(Ih a b a)[k]∈xs.map unS:=by rw [G];exact fO l
 have q2:(Ih a b b)[k]∈ys.map unS:=by rw [H];exact fO p
 obtain⟨q,R,N⟩:=fT.1 W;obtain⟨r,S,P⟩:=fT.1 q2;obtain⟨I,w⟩:=Zh9 s h G q R;obtain⟨M,B⟩:=Zh9 u j H r S;rw [<-N,<-P];simp only [gpZ,unS];exact Yao (fzX (Kz I w) (Kz M B) (Zan w) (Zan B) V)
def mkS(u:Zvs):Zv:=(u.1,((none,0,0),u.2.1),((none,0,0),u.2.2.1),((none,0,0),u.2.2.2))
theorem un_mk(l:List Zvs):(l.map mkS).map unS=l:=by rw [lD];exact List.map_id' _
theorem Yj5{n:Int}(l:∀g∈a,Gin g)(p:∀g∈b,Gin g)(e:Om a=true)(j:Om b=true)(s:znB D n d=true){zs:List GpT}(h:zs.map unP=Ke D n d a b)(q:k<zs.length):Cvd (zs.getD k Gp0).2.2:=by
 have r:unP (zs.getD k Gp0)∈Ke D n d a b:=by rw [<-h];exact fT.2 ⟨_,Zd q,rfl⟩
 exact cvd_gp l p e j s (un_mk (Ih a b a)) (un_mk (Ih a b b)) _ r
theorem fst_at{l:List GpU}{zs:List GpT}(h:zs.map unP=l)(e:k<zs.length)(j:∀i,i<k->He (zs.getD i Gp0).2.2=false)(g:He (zs.getD k Gp0).2.2=true):Ha l=((zs.getD k Gp0).1.1,(zs.getD k Gp0).1.2,true):=by subst h;have:=fst_s (l:=zs.map unP) (k:=k) (by rw [aP];exact e) (λi hi=>by rw [Cb];exact j i hi) (by rw [Cb];exact g);unfold Ha;rw [this,Cb];rfl
theorem fst_no{l:List GpU}{zs:List GpT}(h:zs.map unP=l)(e:∀i,i<zs.length->He (zs.getD i Gp0).2.2=false):Ha l=(0,0,false):=by subst h;exact fst_n λi hi=>by rw [Cb];exact e i (by rw [aP]at hi;exact hi)
theorem Yn8{n:Int}(p:∀g∈a,Gin g)(q:∀g∈b,Gin g)(j:Om a=true)(l:Om b=true){zs:List GpT}(h:zs.map unP=Ke D n d a b):zs.length<=2+a.length+b.length:=by have r:=Zre p q j l;have e:=aI List.length h;rw [aP]at e;unfold Ke at e;rw [kZ]at e;omega
def apZ(D n d:Int)(a b:List Zv):Bool:=decide (Bk a b=0) && !(Ha (Ke D n d a b)).2.2
theorem ap_t{n:Int}(h:Bk a b=0):apZ D n d a b=!(Ha (Ke D n d a b)).2.2:=by unfold apZ;rw [aN h];rfl
theorem ap_f{n:Int}(h:¬Bk a b=0):apZ D n d a b=false:=by unfold apZ;rw [aM h];rfl
def Ev(a b k:Int):List Int:=if b-a=0\/k=2 then [a]else if k=1 then [a,b-a]else [a,0,0,10*(b-a),-15*(b-a),6*(b-a)]
def tmL_0{a b k:Int}(h:b-a=0\/k=2):Ev a b k=[a]:=aF h
def tmL_1{a b k:Int}(h:¬(b-a=0\/k=2))(e:k=1):Ev a b k=[a,b-a]:=(aD h).trans (aF e)
def tmL_2{a b k:Int}(h:¬(b-a=0\/k=2))(e:k≠1):Ev a b k=[a,0,0,10*(b-a),-15*(b-a),6*(b-a)]:=(aD h).trans (aD e)
def lineG(k:Int)(s:SL×SL×SL):Zv:=((0,1000,1),(s.1,Ev 0 300 k),(s.2.1,Ev 0 400 k),(s.2.2,Ev 0 0 k))
def stayG(s:SL×SL×SL):Zv:=((1000,2000,1),(s.1,Ev 0 0 2),(s.2.1,Ev 0 0 2),(s.2.2,Ev 0 0 2))
theorem Ox{l:List Int}(h:l.all (λa=>decide (-9223372036854775808<=a/\a<=9223372036854775807))=true):∀a∈l,Nz a:=λa e=>by have:=cJ.1 h a e;simp only [dQ]at this;exact this
def litb(l:List Int):Bool:=(l.all λx=>decide (-1000000<=x) && decide (x<=1000000)) && (decide (tzl l=l) && decide (l.length<=25))
instance eokDec:∀f a b,Decidable (eok f a b)
 | 0,_,b=>inferInstanceAs (Decidable (b=[]))
 | f+1,a,b=>@instDecidableOr _ _ _ (@instDecidableAnd _ _ _ (eokDec f b (Zx (Xv a b))))
def Kd(g h j l e n k:Int)(s:SL×SL×SL):Zv:=((0,1000,1),(s.1,Ev g l k),(s.2.1,Ev h e k),(s.2.2,Ev j n k))
def kn_f1:fmZ 100 1 2 1 1 (Ev 0 0 2) (Ev 0 0 2) (Ev 0 0 2) (Ev 0 0 2) (Ev 0 0 2) (Ev 200 200 2)=[]:=O6
def kn_f2:fmZ 100 1 2 1 1 (Ev 0 0 2) (Ev 0 0 2) (Ev 0 0 2) (Ev 0 0 2) (Ev 0 0 2) (Ev 100 100 2)=tzl [-1]:=O6
def kn_e1(s t:SL×SL×SL):Bk [Kd 0 0 0 400 0 0 1 s] [Kd 200 0 200 200 0 200 2 t]=0:=O7
def kn_a1(s t:SL×SL×SL):apZ 100 1 2 [Kd 0 0 0 400 0 0 1 s] [Kd 200 0 200 200 0 200 2 t]=true:=O7
def kn_a2(s t:SL×SL×SL):apZ 101 1 2 [Kd 0 0 0 400 0 0 1 s] [Kd 200 0 200 200 0 200 2 t]=false:=O7
def kn_p1(s:SL×SL×SL):Om [Kd 0 0 0 400 0 0 1 s]=true:=O7
def kn_p2(s:SL×SL×SL):Om [Kd 200 0 200 200 0 200 2 s]=true:=O7
def kn_s0:Cd 0 1000 1 (Ev 0 0 2) (Ev 0 0 2) (Ev 0 0 2)=true:=O6
def kn_s1:Cd 0 1000 1 (Ev 0 0 2) (Ev 0 0 2) (Ev 200 200 2)=true:=O6
def kn_s2:Cd 0 1000 1 (Ev 0 0 2) (Ev 0 0 2) (Ev 100 100 2)=true:=O6
theorem kn_g1(s:SL×SL×SL):∀g∈[Kd 0 0 0 400 0 0 1 s],Gin g:=λg e=>by rw [bE.1 e];exact⟨show Nz (0:Int)from⟨O3,O3⟩,show Nz (1000:Int)from⟨O3,O3⟩,show Nz (1:Int)from⟨O3,O3⟩,show ∀a∈Ev 0 400 1,Nz a from Ox O3,show ∀a∈Ev 0 0 1,Nz a from Ox O3,show ∀a∈Ev 0 0 1,Nz a from Ox O3⟩
theorem kn_g2(s:SL×SL×SL):∀g∈[Kd 200 0 200 200 0 200 2 s],Gin g:=λg e=>by rw [bE.1 e];exact⟨show Nz (0:Int)from⟨O3,O3⟩,show Nz (1000:Int)from⟨O3,O3⟩,show Nz (1:Int)from⟨O3,O3⟩,show ∀a∈Ev 200 200 2,Nz a from Ox O3,show ∀a∈Ev 0 0 2,Nz a from Ox O3,show ∀a∈Ev 200 200 2,Nz a from Ox O3⟩
def sm_bl{x:Int}{M:Nat}(h:x.natAbs<=1000000000000000000000000)(e:80<=M):bl x.natAbs<=M:=aB ((Qm 80 _).2 (aZ h O3)) e
def pt_1:ptB 0 0 0=true:=O3
theorem to_m1(e:Zb gs=tzl [-1]):Sz 1000000 (Zb gs)/\gs.length<=1000:=by have g:=aI List.length e;rw [Zh]at g;have j:(tzl [(-1:Int)]).length=1:=O3;refine⟨?_,O⟩;rw [e];exact(Sz.tzl (Zjd (λx h=>by rw [bE.1 h];exact⟨O3,O3⟩))).mono O
theorem i_le{l:List Int}(h:Zb zs=l){n:Nat}(e:l.length<=n):zs.length<=n:=by rw [<-Zh,h];exact e
theorem Zcf{l:List Int}(h:Zb zs=l)(e:Vp l):Sz 1000000 (Zb zs):=by rw [h];exact e.sz.mono O3
def Cj{l:List Int}(h:Zb zs=l)(g:Vp l){n:Nat}(e:25<=n):zs.length<=n:=i_le h (aB g.len e)
abbrev TzT:=SL×List (Int×SL)
def sqF(ov ov2:Int)(x y z x2 y2 z2:List Int)(i:Nat):List Int:=sqP (Zp i x y z) (Zp i x2 y2 z2) ov ov2
def sqR(ov ov2:Int)(x y z x2 y2 z2:List Int):Nat->List (List Int)
 | 0=>[]
 | i+1=>sqR ov ov2 x y z x2 y2 z2 i ++ [sqF ov ov2 x y z x2 y2 z2 i]
theorem sqR_s{e:List TzT}{g:TzT}(h:e.map (λz=>Zb z.2)=sqR ov ov2 x y z x2 y2 z2 i)(j:Zb g.2=sqF ov ov2 x y z x2 y2 z2 i):(e ++ [g]).map (λz=>Zb z.2)=sqR ov ov2 x y z x2 y2 z2 (i+1):=by rw [dY,h,cK,fS,j];rfl
theorem sqR_at{e:List TzT}(h:e.map (λz=>Zb z.2)=sqR ov ov2 x y z x2 y2 z2 3):e.length=3/\Zb (e.getD 0 T0).2=sqF ov ov2 x y z x2 y2 z2 0/\Zb (e.getD 1 T0).2=sqF ov ov2 x y z x2 y2 z2 1/\Zb (e.getD 2 T0).2=sqF ov ov2 x y z x2 y2 z2 2:=by
 have j:=aI List.length h;rw [aP]at j;have j:e.length=3:=j
 match e,j with
 | [a,b,c],_=>
  have g:[Zb a.2,Zb b.2,Zb c.2]=[sqF ov ov2 x y z x2 y2 z2 0,sqF ov ov2 x y z x2 y2 z2 1,sqF ov ov2 x y z x2 y2 z2 2]:=h;injection g with e0 g;injection g with e1 g;injection g with e2 g;exact⟨rfl,e0,e1,e2⟩
def ovW(ov ov2:Int):Int:=ov*ov2*(ov*ov2)
def rfL(zn ze ov ov2:Int)(x y z x2 y2 z2:List Int):List Int:=Fg (Zs (Fg (sqF ov ov2 x y z x2 y2 z2 0) (sqF ov ov2 x y z x2 y2 z2 1)) (ze*ze)) (Zs (sqF ov ov2 x y z x2 y2 z2 2) (zn*zn))
def rfW(zd ze ov ov2:Int):Int:=zd*zd*(ze*ze)*ovW ov ov2
def rfZ(zd zn ze ov ov2:Int)(x y z x2 y2 z2:List Int):List Int:=Dc (rfL zn ze ov ov2 x y z x2 y2 z2) (tzl [rfW zd ze ov ov2])
theorem Yfl(p q:List Int)(a b k:Int):sqK p q a b k=Zs (sqP p q a b) (k*k):=by unfold sqK dfK sqP;exact Ycy _ _
def Zro(w:Int):cf [w] 0=w:=rfl
theorem ab_one{w:Int}{M:Nat}(h:w.natAbs<=M):Ab M (tzl [w]):=λi=>by
 rw [Mv]
 match i with
 | 0=>rw [Zro];exact h
 | i+1=>rw [Yg O5];exact bG _
theorem Ydj(w:Int)(i:Nat):cf [w] i=-(cf [-1] i*w):=by
 match i with
 | 0=>rw [Zro,Zro];omega
 | i+1=>rw [Yg O5,Yg O5];omega
theorem rf_eq(zd zn ze ov ov2:Int)(x y z x2 y2 z2:List Int):rfZ zd zn ze ov ov2 x y z x2 y2 z2=smZ zd zn ze ov ov2 x y z x2 y2 z2 3:=by
 have h:Tr (smZ zd zn ze ov ov2 x y z x2 y2 z2 3):=by unfold smZ;exact Qg _
 refine(Ap _ _).ext h λi=>?_;unfold rfL smZ;simp only [smP];rw [Ix,Dw,Yk,Dw,Yk,Dw,Dw,Dw,Mv];unfold fqZ;rw [Yfl,Yfl,Yfl,Yk,Yk,Yk];have e:cf (cnZ zd ze ov ov2) i=cf [-1] i*zd*zd*ze*ze*ov*ov*ov2*ov2:=by unfold cnZ;simp only [ngC,Yk,List.getD_cons_zero,nG]
 have g:=Ydj (rfW zd ze ov ov2) i;rw [e,g];unfold rfW ovW sqF;simp only [Zp];generalize cf (sqP x x2 ov ov2) i=A;generalize cf (sqP y y2 ov ov2) i=B;generalize cf (sqP z z2 ov ov2) i=C;generalize cf [-1] i=D;grind
structure RfX (zd zn ze ov ov2:Int) (x y z x2 y2 z2:List Int):Prop where
 v0:∀i,Vp (sqF ov ov2 x y z x2 y2 z2 i)
 v1:Vp (Fg (sqF ov ov2 x y z x2 y2 z2 0) (sqF ov ov2 x y z x2 y2 z2 1))
 v2:Vp (Zs (Fg (sqF ov ov2 x y z x2 y2 z2 0) (sqF ov ov2 x y z x2 y2 z2 1)) (ze*ze))
 v3:Vp (Zs (sqF ov ov2 x y z x2 y2 z2 2) (zn*zn))
 v4:Vp (rfL zn ze ov ov2 x y z x2 y2 z2)
 v5:Vp (tzl [rfW zd ze ov ov2])
 v6:Vp (rfZ zd zn ze ov ov2 x y z x2 y2 z2)
 wb:bl (rfW zd ze ov ov2).natAbs<=1000000
 ob:bl (ov*ov2).natAbs<=1000
 oW:bl (ovW ov ov2).natAbs<=1000
 eb:bl (ze*ze).natAbs<=1000
 nb:bl (zn*zn).natAbs<=1000
 db:bl (zd*zd).natAbs<=1000
 xb:bl (zd*zd*(ze*ze)).natAbs<=1000
theorem rfX{fr to:Int}(w:Sgo fr to ov x y z)(e:Sgo fr2 to2 ov2 x2 y2 z2)(hA:∀i,Ab KA (tzl (Zp i x y z)))(u:∀i,Ab KA (tzl (Zp i x2 y2 z2)))(hz:znB zd zn ze=true):RfX zd zn ze ov ov2 x y z x2 y2 z2:=by
 obtain⟨z1,a7,z3,z4,z5⟩:=Ylq hz;have o1:=w.o1;have o2:=w.o2;have o3:=e.o1;have o4:=e.o2;have W:∀i,FmX (Zp i x y z) (Zp i x2 y2 z2) ov ov2 1:=λi=>fmX (hA i) (u i) (w.lc i).2 (e.lc i).2 ⟨o1,o2⟩ ⟨o3,o4⟩ ⟨O3,O3⟩;have r:=Zej (x:=ov) (y:=ov2) (A:=4294967296) (B:=4294967296) O O;have Q:=Zej (x:=ov*ov2) (y:=ov*ov2) r r;have s:=Zej (x:=ze) (y:=ze) (A:=100) (B:=100) O O;have R:=Zej (x:=zn) (y:=zn) (A:=100) (B:=100) O O;have S:=Zej (x:=zd) (y:=zd) (A:=4194304) (B:=4194304) O O;have V:=Zej (x:=zd*zd) (y:=ze*ze) S s;have b7:=Zej (x:=zd*zd*(ze*ze)) (y:=ov*ov2*(ov*ov2)) V Q;have hw:(rfW zd ze ov ov2).natAbs<=4194304*4194304*(100*100)*(4294967296*4294967296*(4294967296*4294967296)):=by unfold rfW ovW;exact b7
 have g:∀{v:Int} {M:Nat},v.natAbs<=M->M<BG->bl v.natAbs<=500:=λh hM=>Zvh (aZ h hM);have j:∀i,Ab (6*((KD*100)*(KD*100))) (sqF ov ov2 x y z x2 y2 z2 i):=λi=>(W i).ab8;have l:∀i,(sqF ov ov2 x y z x2 y2 z2 i).length<=11:=λi=>(W i).l8;have t0:∀i,Tr (sqF ov ov2 x y z x2 y2 z2 i):=λi=>Qi _ _;have G:=Zye (j 0) (j 1);have l1:=Zqo (l 0) (l 1);have H:Ab ((6*((KD*100)*(KD*100))+6*((KD*100)*(KD*100)))*10000) (Zs (Fg (sqF ov ov2 x y z x2 y2 z2 0) (sqF ov ov2 x y z x2 y2 z2 1)) (ze*ze)):=(Ep G (ze*ze)).mono (aX _ s);have l2:=aB (Pt (Fg (sqF ov ov2 x y z x2 y2 z2 0) (sqF ov ov2 x y z x2 y2 z2 1)) (ze*ze)) l1;have I:Ab (6*((KD*100)*(KD*100))*10000) (Zs (sqF ov ov2 x y z x2 y2 z2 2) (zn*zn)):=(Ep (j 2) (zn*zn)).mono (aX _ R);have l3:=aB (Pt (sqF ov ov2 x y z x2 y2 z2 2) (zn*zn)) (l 2);have N:=Zye H I;have l4:=Zqo l2 l3;have P:Ab (4194304*4194304*(100*100)*(4294967296*4294967296*(4294967296*4294967296))) (tzl [rfW zd ze ov ov2]):=ab_one hw;have l5:(tzl [rfW zd ze ov ov2]).length<=1:=Mp _;have a6:=Ylh N P;have l6:=Yae (n:=11) (q:=tzl [rfW zd ze ov ov2]) l4 O;have p:Ab ((6*((KD*100)*(KD*100))+6*((KD*100)*(KD*100)))*10000+6*((KD*100)*(KD*100))*10000+4194304*4194304*(100*100)*(4294967296*4294967296*(4294967296*4294967296))) (rfZ zd zn ze ov ov2 x y z x2 y2 z2):=by unfold rfZ rfL;exact a6
 have F:(rfZ zd zn ze ov ov2 x y z x2 y2 z2).length<=11:=by unfold rfZ rfL;exact l6
 have t6:Tr (rfZ zd zn ze ov ov2 x y z x2 y2 z2):=by unfold rfZ;exact Qg _
 constructor
 .exact(λi=>Fv (j i) O6 (t0 i) (aB (l i) O3))
 .exact(Fv G O6 (Qg _) (aB l1 O3))
 .exact(Fv H O6 (Qg _) (aB l2 O3))
 .exact(Fv I O6 (Qg _) (aB l3 O3))
 .exact(Fv N O6 (Qg _) (aB l4 O3))
 .exact(Fv P O6 (Qg _) (aB l5 O3))
 .exact(Fv p O6 t6 (aB F O3))
 .exact(aB (g hw O6) O3)
 .exact(aB (g r O6) O3)
 .exact(aB (g Q O6) O3)
 .exact(aB (g s O6) O3)
 .exact(aB (g R O6) O3)
 .exact(aB (g S O6) O3)
 .exact(aB (g V O6) O3)
theorem ov_b{fr h:Int}(g:Sgo fr h ov x y z)(e:Sgo fr2 to2 ov2 x2 y2 z2):bl (ov*ov2).natAbs<=1000000000:=by have j:=g.o1;have l:=g.o2;have n:=e.o1;have p:=e.o2;exact sm_bl (aB (Zej (x:=ov) (y:=ov2) (A:=4294967296) (B:=4294967296) O O) O3) O3
theorem Ymu(h:Zb zs=rfZ zd zn ze ov ov2 x y z x2 y2 z2):zs.length≠0->Ys (Zb zs)≠0:=λg=>by
 have j:Zb zs≠[]:=λe=>g (by rw [<-Zh,e];rfl);have l:Tr (Zb zs):=by rw [h];unfold rfZ;exact Ap _ _
 have:=Ykf l j;intro e;rw [e]at this;exact absurd this O3
theorem rf_fin{ys:List (Int×SL)}(h:Zb ys=Zx (Zb zs))(e:Zb zs=rfZ zd zn ze ov ov2 x y z x2 y2 z2):Zb ys=fmZ zd zn ze ov ov2 x y z x2 y2 z2:=by rw [h,e,rf_eq];unfold fmZ;rfl
def tpI(n k:Nat):Nat:=n/1000000000^k
theorem Yl3(n:Nat):tpI n (dg 1000000000 n).length=0:=by unfold tpI;exact cP ((Xk O3 _ n).1 (aH _))
theorem tpI_s(n k:Nat):tpI n (k+1)*1000000000+(dg 1000000000 n).getD k 0=tpI n k:=by unfold tpI;rw [Hg O3,bX,<-aU];omega
theorem Yez(n:Nat):tpI n 0=n:=by unfold tpI;rw [fD,nF]
def tpI_le(n k:Nat):tpI n k<=n:=eI _ _
theorem Yak{g:Int}(e:0<=g)(l:List Int):∀k,k<=l.length->Ma g (l.take k)=(Int.gcd g (Ys (l.take k)):Int)
 | 0,_=>by rw [dV];show g=((Int.gcd g 0:Nat):Int);rw [nV];omega
 | k+1,h=>by rw [Bq g O,Ld O,Yak e l k O,Int.gcd_assoc]
def gcR(o:Int)(X Y Z:List Int):Nat->Int
 | 0=>o
 | i+1=>(Int.gcd (gcR o X Y Z i) (Ys (Zp i X Y Z)):Int)
theorem Zw8{o:Int}(e:0<o)(X Y Z:List Int):∀i,i<=3->gcR o X Y Z i=Ma o (Mh i X Y Z)/\0<=gcR o X Y Z i
 | 0,_=>⟨rfl,eC e⟩
 | i+1,hi=>by obtain⟨g,h⟩:=Zw8 e X Y Z i O;refine⟨?_,nU _⟩;show((Int.gcd (gcR o X Y Z i) (Ys (Zp i X Y Z)):Nat):Int)=_;rw [Fq X Y Z O,Iz,<-g];have:=Yak h (Zp i X Y Z) (Zp i X Y Z).length (aH _);rw [bM]at this;exact this.symm
def gcR_A{o:Int}{X:List Int}(h:Mdh o X Y Z):gcR o X Y Z 3=Kk o X Y Z:=(Zw8 h.o X Y Z 3 (aH _)).1
theorem Zgp{o:Int}{X:List Int}(h:Mdh o X Y Z)(hi:i<=3):bl (gcR o X Y Z i).natAbs<=1000:=by rw [(Zw8 h.o X Y Z i hi).1];have:=h.fc i 0;rw [dV]at this;exact this
structure Row3 (ws:List TzT) (X Y Z:List Int):Prop where
 l:ws.length=3
 e:∀i,i<3->Zb (ws.getD i T0).2=Zp i X Y Z
theorem Zs5{g:List TzT}{t:Nat}{j:TzT}(n:g.length=i)(h:∀t,t<i->Zb (g.getD t T0).2=f t)(q:Zb j.2=f i)(p:t<i+1):Zb ((g ++ [j]).getD t T0).2=f t:=by
 rcases bC.1 p with l|l
 .have e:(g ++ [j]).getD t T0=g.getD t T0:=by rw [aG,aG,cW O]
  rw [e];exact h t l
 .subst l;have e:(g ++ [j]).getD t T0=j:=by rw [aG,dM O,n,gX];rfl
  rw [e];exact q
theorem Zy7{e:List TzT}{a b:Int}(g:e.length=3)(h:∀t,t<3->Zb (e.getD t T0).2=Pa (Zp t x y z) a b d):Row3 e (Pa x a b d) (Pa y a b d) (Pa z a b d):=⟨g,λi hi=>by
 rw [h i hi]
 match i,hi with
 | 0,_=>rfl
 | 1,_=>rfl
 | 2,_=>rfl⟩
theorem Yje(h:AxC c ov)(l:Zb zs=tzl c):5-max 0 ((zs.length:Int)-1)=((6-c.length:Nat):Int):=by
 have n:=h.l;have e:zs.length=(tzl c).length:=by rw [<-Zh,l]
 rcases Ylb h with g|g
 .rw [e,g];omega
 .subst g;have j:(tzl [(0:Int)]).length=0:=O3;rw [e,j];decide
theorem Zjz(h:∀a∈c,Nz a)(j:c.length<=6)(g:Zb zs=tzl c):zs.length<=30/\Xm (Zb zs)+zs.length*(30+1)+1+zs.length+1+30<=900000:=by have e:zs.length<=6:=i_le g (aB (Mp c) j);have m:=Qq (p:=Zb zs) (n:=64) (by rw [g];exact(ab_in h).sz O3);have:=aK 31 e;exact⟨O,O⟩
def Zs0(fr e:Int)(g:Zv)(r:SL×SL×SL):Zv:=((cA fr g,cB e g,cO g/cG fr e g),(r.1,Hk (cX fr e g g.2.1.2) (cG fr e g)),(r.2.1,Hk (cX fr e g g.2.2.1.2) (cG fr e g)),(r.2.2,Hk (cX fr e g g.2.2.2.2) (cG fr e g)))
theorem cut_un{fr j:Int}{g:Zv}(r:SL×SL×SL)(h:Zg0 fr j g=true):unS (Zs0 fr j g r)=Zu6 fr j g:=by have e:cO g/cG fr j g<=4294967296:=cF h;unfold Zu6 unS Zs0 mdO;rw [aF e,Zgj e,Zgj e,Zgj e]
theorem cutI_y{fr e:Int}{ps zs:List Zv}{x j:Zv}(h:Zrc fr e ps k zs)(g:(ps.filter (Ku fr e))[k]? = some x)(p:Zg0 fr e x=true)(q:unS j=Zu6 fr e x):Zrc fr e ps (k+1) (zs ++ [j]):=by
 obtain⟨l,n⟩:=h;refine⟨?_,?_⟩
 .rw [dY,l,Zhi g,dY,cK,fS,cK,fS,q]
 .rw [Zhi g,mR,n];simp [p]
theorem Zyz{g:Zv}(h:seB g=true)(i:Nat):AxC (Zp i g.2.1.2 g.2.2.1.2 g.2.2.2.2) g.1.2.2:=by obtain⟨e,j,n⟩:=Zv8 h;exact Cc (p:=λl=>AxC l g.1.2.2) e j n
theorem Ybf{fr e:Int}{g:Zv}(j:SgG g)(h:Ku fr e g=true):g.1.1<=cA fr g/\cA fr g<cB e g/\cB e g<=g.1.2.1:=by have:=cF h;exact⟨Int.le_max_right _ _,this,Int.min_le_right _ _⟩
theorem fl_le(ps:List Zv)(p:Zv->Bool)(i:Nat):((ps.take i).filter p).length<=i:=by have:=iX p (ps.take i);have e:=List.length_take_le i ps;omega
theorem cut_t{fr e:Int}{ps:List Zv}(h:Zu7 fr e ps=0):Oj fr e ps=true:=by
 cases hb:Oj fr e ps with
 | true=>rfl
 | false=>rw [Zxr hb]at h;exact absurd h O3
def nxF(t c:Int)(ps:List Zv):Nat->Int
 | 0=>c
 | i+1=>if t<(ps.getD i G0).1.1 then min (nxF t c ps i) (ps.getD i G0).1.1 else nxF t c ps i
def Yhs{t c:Int}{ps:List Zv}(h:t<(ps.getD i G0).1.1):nxF t c ps (i+1)=min (nxF t c ps i) (ps.getD i G0).1.1:=aF h
def Yhu{t c:Int}{ps:List Zv}(h:¬t<(ps.getD i G0).1.1):nxF t c ps (i+1)=nxF t c ps i:=aD h
theorem Yht(t c:Int)(ps:List Zv):∀i,nxF t c ps i<=c/\(∀k,k<i->t<(ps.getD k G0).1.1->nxF t c ps i<=(ps.getD k G0).1.1)/\(nxF t c ps i=c\/∃k,k<i/\t<(ps.getD k G0).1.1/\nxF t c ps i=(ps.getD k G0).1.1)
 | 0=>⟨fA _,λk j=>absurd j (bT k),.inl rfl⟩
 | i+1=>by
  obtain⟨r,q,g⟩:=Yht t c ps i;by_cases h:t<(ps.getD i G0).1.1
  .rw [Yhs h];refine⟨O,λk j l=>?_,?_⟩
   .rcases bC.1 j with e|e
    .have:=q k e l;omega
    .subst e;exact Int.min_le_right _ _
   .by_cases s:nxF t c ps i<=(ps.getD i G0).1.1
    .rw [Int.min_eq_left s];rcases g with g|⟨k,u,n,p⟩
     .exact .inl g
     .exact .inr ⟨k,O,n,p⟩
    .rw [Int.min_eq_right O];exact .inr ⟨i,O,h,rfl⟩
  .rw [Yhu h];refine⟨r,λk j l=>?_,?_⟩
   .rcases bC.1 j with e|e
    .exact q k e l
    .subst e;exact absurd l h
   .rcases g with g|⟨k,u,n,p⟩
    .exact .inl g
    .exact .inr ⟨k,O,n,p⟩
theorem nx_eq(B:Bks a b){n:Nat}(I:n+1<(Nd a b).length):nxF ((Nd a b).getD n 0) (nxF ((Nd a b).getD n 0) (Ak a b) a a.length) b b.length=(Nd a b).getD (n+1) 0:=by
 obtain⟨W,b2,b3⟩:=B.lt n I;have hs:=Yby a b;obtain⟨p1,S,M⟩:=Yht ((Nd a b).getD n 0) (Ak a b) a a.length;obtain⟨q1,V,N⟩:=Yht ((Nd a b).getD n 0) (nxF ((Nd a b).getD n 0) (Ak a b) a a.length) b b.length;generalize nxF ((Nd a b).getD n 0) (Ak a b) a a.length=s at *;generalize nxF ((Nd a b).getD n 0) s b b.length=r at *;have R:r<=(Nd a b).getD (n+1) 0:=by
  rcases Zaa.1 (Zd (zs:=Nd a b) (i:=n+1) (d:=0) I)with h|h|⟨F,p,⟨g,j,e⟩|⟨g,j,e⟩⟩
  .omega
  .omega
  .obtain⟨k,w,rfl⟩:=dX.1 j;have l:a.getD k G0=a[k]:=by rw [aG,aL w];rfl
   have:=S k w (by rw [l];omega);rw [l]at this;omega
  .obtain⟨k,w,rfl⟩:=dX.1 j;have l:b.getD k G0=b[k]:=by rw [aG,aL w];rfl
   have:=V k w (by rw [l];omega);rw [l]at this;omega
 have G:r∈Nd a b/\(Nd a b).getD n 0<r:=by
  have H:r=Ak a b\/∃g,(g∈a\/g∈b)/\(Nd a b).getD n 0<g.1.1/\r=g.1.1:=by
   rcases N with N|⟨k,F,p,u⟩
   .rcases M with M|⟨k,F,p,u⟩
    .exact .inl O
    .exact .inr ⟨a.getD k G0,.inl (Zd F),p,O⟩
   .exact .inr ⟨b.getD k G0,.inr (Zd F),p,u⟩
  rcases H with h|⟨g,j,p,u⟩
  .exact⟨Zaa.2 (.inr (.inl h)),O⟩
  .refine⟨?_,O⟩;by_cases P:r=Ak a b
   .exact Zaa.2 (.inr (.inl P))
   .refine Zaa.2 (.inr (.inr ⟨O,O,?_⟩));rcases j with j|j
    .exact .inl ⟨g,j,u.symm⟩
    .exact .inr ⟨g,j,u.symm⟩
 obtain⟨q,Q,e⟩:=Gs.1 G.1;have hl:(Nd a b).getD (n+1) 0<=r:=by
  rcases jD q n with c|c|c
  .have:=hs q n c O;omega
  .subst c;omega
  .rcases iP (show n+1<=q from c)with d|d
   .have:=hs (n+1) q d Q;omega
   .rw [<-d]at e;omega
 omega
theorem Ypn(B:Bks a b){n:Nat}(g:n+1<=(Nd a b).length)(h:¬(Nd a b).getD n 0<Ak a b):n+1=(Nd a b).length:=by
 rcases iP g with e|e
 .obtain⟨j,l,p⟩:=B.lt n e;omega
 .exact e
theorem Ykz(B:Bks a b){n:Nat}(g:n+1<=(Nd a b).length)(h:(Nd a b).getD n 0<Ak a b):n+1<(Nd a b).length:=by
 rcases iP g with e|e
 .exact e
 .have:=B.ls;rw [show(Nd a b).length-1=n by omega]at this;omega
def bdI:List GpU->Int
 | []=>-1
 | g::l=>if He g.2.2 then 0 else if bdI l<0 then -1 else bdI l+1
theorem bdI_s:∀{l:List GpU} {k:Nat},k<l.length->(∀i,i<k->He (l.getD i (0,0,[])).2.2=false)->He (l.getD k (0,0,[])).2.2=true->bdI l=(k:Int)
 | [],_,h,_,_=>absurd h (bT _)
 | g::l,0,_,_,e=>by have e:He g.2.2=true:=e;unfold bdI;rw [aF e];rfl
 | g::l,k+1,h,h1,e=>by have j:He g.2.2=false:=h1 0 (jO _);have:=bdI_s (l:=l) (k:=k) (by simpa using h) (λi hi=>h1 (i+1) O) e;unfold bdI;rw [aD (by rw [j];exact cZ),this,aD O];rfl
theorem bdI_n:∀{l:List GpU},(∀i,i<l.length->He (l.getD i (0,0,[])).2.2=false)->bdI l=-1
 | [],_=>rfl
 | g::l,h=>by have e:He g.2.2=false:=h 0 (jO _);have:=bdI_n (l:=l) λi hi=>h (i+1) (by simpa using hi);unfold bdI;rw [aD (by rw [e];exact cZ),this];rfl
theorem bd_at{zs:List GpT}(e:k<zs.length)(h:∀i,i<k->He (zs.getD i Gp0).2.2=false)(g:He (zs.getD k Gp0).2.2=true):bdI (zs.map unP)=(k:Int):=
 bdI_s (by rw [aP];exact e) (λi hi=>by rw [Cb];exact h i hi) (by rw [Cb];exact g)
theorem bd_no{zs:List GpT}(e:∀i,i<zs.length->He (zs.getD i Gp0).2.2=false):bdI (zs.map unP)=-1:=
 bdI_n λi hi=>by rw [Cb];exact e i (by rw [aP]at hi;exact hi)
theorem Yb5:∀l:List GpU,decide (bdI l<0)=!(Ha l).2.2
 | []=>rfl
 | g::l=>by
  have n:=Yb5 l;cases hn:He g.2.2 with
  | true=>
   have e:Zl6 (g::l)=some g:=kI (by exact hn);have h:bdI (g::l)=0:=by show(if He g.2.2 then(0:Int)else _)=0;rw [hn];rfl
   unfold Ha;rw [e,h];rfl
  | false=>
   have e:Zl6 (g::l)=Zl6 l:=kJ (by rw [show He g.2.2=false from hn];exact cZ);have h:bdI (g::l)=if bdI l<0 then -1 else bdI l+1:=by show(if He g.2.2 then(0:Int)else _)=_;rw [hn];rfl
   have j:Ha (g::l)=Ha l:=by unfold Ha;rw [e]
   rw [j,<-n,h,bJ];split<;>omega
theorem ap_b{n:Int}{zs:List GpT}(h:zs.map unP=Ke D n d a b)(e:Bk a b=0):decide (bdI (zs.map unP)<0)=apZ D n d a b:=by rw [Yb5,h,ap_t e]
theorem com_e0(j:¬Dl a b=9)(l:xs.map unS=Ih a b a)(h:0<xs.length):Dl a b=0:=by
 rcases Zxv a b with g|g|g
 .exact absurd g j
 .exact g
 .have e:=aI List.length l;rw [Zrf O,aP]at e;have:xs.length=0:=e;omega
theorem few_le{ps:List Zv}(h:Zh5 ps m=true):ps.length<=m:=by unfold Zh5 at h;rw [aQ]at h;exact cF h.2
open Go Go.MapKept
variable {P:Program} {N:Nat} {sc:Nat->Prop} {env env':Pz} {H H':Hp} {Q Q':Exit->Act->World->Prop} {M:Nat->Prop}
abbrev PT:=SL×List Zv
abbrev Cr:PT:=((none,0,0),[])
abbrev Zh7 (x:PT):Value:=Xn x.1
abbrev qP (x:PT):Pc:=Ph 6 Oq qG (Xn x.1) x.2
def mpc(b:Nat)(e:Array MapEntry)(n:Nat):Pc:=
 {own:=true,fp:=λk=>k=b,holds:=λw=>w.heap[b]? = some (.map e n)
  lt:=λw k h j=>by subst j;exact(bB.1 h).1
  stable:=λw p h g=>by rw [<-h];exact g.block b (bB.1 h).1 (λl=>l rfl) }
theorem t_mm   {d:Nat}   (n:o.op= .makeMap t none) (l:o.dst=some d) (h:Nat.blt d N=true)
  (e:lk H 0=some (Xx w0 M0)) (q:∀b,w0.heap.size<=b->sc b) :
  T P N sc M o env H (G:=Nat) (λ_=>True) (λb=>(d,.map (some b))::env) (λb=>(i,mpc b #[] 0)::H):=λa w hs K Q g=>by
 have p:(execOp a.eval o).run P w= .ok (.value (.map (some w.heap.size))) (w.alloc (.map #[] 0)):=by simp only [execOp,n,Sem.run_bind,Option.map_none];rfl
 unfold Oper.wp;rw [p];show K (a.put o.dst _) _;rw [l];exact g w.heap.size _ _ aA ((hs.new e q i (mpc w.heap.size #[] 0) (.map #[] 0) (heap_alloc_new w _) (λb j=>j)).put d _ h) (Chg.alloc _ _ _)
theorem t_mi  {kt:TypeId} {x y z:Operand} {b:Nat} {c:Bool}    (W:o.op= .insert t x y z) (R:o.dst=none)
  (hx:ev env x=some (.map (some b))) (hy:ev env y=some (.bool c)) (hz:ev env z=some v) (s:lk H i=some (mpc b #[] 0)) (p:i≠0) (S:P.underlying t=some (.map kt et)) (g:P.underlying kt=some .bool)
  (B:lk H 0=some (Xx w0 M0)) (hw:∀b,w0.heap.size<=b->sc b) (I:M b) :
  T P N sc M o env H (G:=Unit) (λ_=>True) (λ_=>env) (λ_=>(i,mpc b #[MapEntry.mk (.bool c) v 0] 1)::H):=λa w hs K Q F=>by
 have n:w.heap[b]? = some (.map #[] 0):=hs.hold i _ s;have r:b<w.heap.size:=(bB.1 n).1;have hr:(execOp a.eval o).run P w= .ok .skip { w with heap:=w.heap.setIfInBounds b (.map #[MapEntry.mk (.bool c) v 0] 1) }:=by simp [execOp,W,hs.ev hx,hs.ev hy,hs.ev hz,Instr.mapUpdate,run_underlying S,Go.MapKept.run_getObj_map n,run_checkKey g (show IsKey .bool (.bool c)from aA),run_findKey g (k:= .bool c) (l:=[]) (a:=none) rfl,Go.MapKept.run_setObj_map _ n]
 unfold Oper.wp;rw [hr];show K (a.put o.dst _) _;rw [R];have u:∀h:Nat->Prop,h b->Chg h w { w with heap:=w.heap.setIfInBounds b (.map #[MapEntry.mk (.bool c) v 0] 1) }:=λh j=>
  ⟨rfl,rfl,rfl,O5,λk g V=>by have:b≠k:=λe=>V (e▸j);simp [kU,this]⟩
 exact F () _ _ aA ((hs.upd s rfl p (q:=mpc b #[MapEntry.mk (.bool c) v 0] 1) (u (λk=>k=b) rfl) (by show(w.heap.setIfInBounds b (.map #[MapEntry.mk (.bool c) v 0] 1))[b]? = some (.map #[MapEntry.mk (.bool c) v 0] 1);simp [kU,r]) (λk g=> .inl g) B hw).put_none undef) (u _ I)
theorem d_ml  {kt:TypeId} {x y:Operand} {b n:Nat} {c e:Bool} {r:Value} (q:o.op= .lookup t x y false)
  (s:ev env x=some (.map (some b))) (u:ev env y=some (.bool e)) (F:lk H i=some (mpc b #[MapEntry.mk (.bool c) v 0] n)) (p:P.underlying t=some (.map kt et)) (g:P.underlying kt=some .bool)
  (G:∀w,(zeroValue et).run P w= .ok r w):Mx P N sc o env H (if e=c then v else r):=λa w hs=>by
 have j:w.heap[b]? = some (.map #[MapEntry.mk (.bool c) v 0] n):=hs.hold i _ F;by_cases h:e=c
 .subst h;simp [execOp,q,hs.ev s,hs.ev u,Instr.lookup,run_underlying p,Go.MapKept.run_getObj_map j,run_checkKey g (show IsKey .bool (.bool e)from aA),run_findKey g (k:= .bool e) (l:=[MapEntry.mk (.bool e) v 0]) (a:=some (0,v)) (by simp [Instr.findNow,Instr.sameNow])]
 .have B:(e == c)=false:=by simpa using h
  simp [execOp,q,hs.ev s,hs.ev u,Instr.lookup,run_underlying p,Go.MapKept.run_getObj_map j,run_checkKey g (show IsKey .bool (.bool e)from aA),run_findKey g (k:= .bool e) (l:=[MapEntry.mk (.bool c) v 0]) (a:=none) (by simp [Instr.findNow,Instr.sameNow,B]),G,h]
def s_dsl{β:Type}{enc:β->Value}{q:β->Pc}{zs:List β}(i j:Nat)(hi:lk H i=some (Ph k enc q v zs))(e:Nat.beq i 0=false):∀a w,Sat N sc env H a w->Sat N sc env ((j,Yw k enc v zs)::H) a w:=
 Zb9 i j hi e rfl (λw h=>h.1) (λb g=> .inl g) rfl
def Zgu{β:Type}{zs:List β}{d:β}(h:k<(zs.drop i).length):(zs.drop i).getD k d∈zs:=jG (Zd h)
theorem Yok{β:Type}(zs:List β)(i k:Nat)(d:β):(zs.drop i).getD k d=zs.getD (i+k) d:=by simp [aG]
def Zc5(m k:Nat)(e:List PT):Bool:=decide (e.length<=m) && e.all λx=>Zh5 x.2 k
def Zcj(e:List PT):Bool:=e.all λx=>Om x.2
abbrev ClT:=(Int×Int×Int×Int)×Bool×Int
abbrev clE (r:ClT):Value:= .tuple #[.agg #[.int .i64 r.1.1,.int .i64 r.1.2.1,.int .i64 r.1.2.2.1,.int .i64 r.1.2.2.2],.bool r.2.1,.int .i64 r.2.2]
def pth(ps:List PT)(i:Nat):List Zv:=(ps.getD i Cr).2
def clV(D n d:Int)(ps:List PT)(i k:Nat):ClT:=
 (if(Ha (Ke D n d (pth ps i) (pth ps k))).2.2=true then((i:Int),(k:Int),(Ha (Ke D n d (pth ps i) (pth ps k))).1,(Ha (Ke D n d (pth ps i) (pth ps k))).2.1)else(0,0,0,0),(Ha (Ke D n d (pth ps i) (pth ps k))).2.2,Bk (pth ps i) (pth ps k))
def ClA(D n d:Int)(ps:List PT)(i:Nat):Prop:=∀j k,j<k->k<ps.length->j<i->apZ D n d (pth ps j) (pth ps k)=true
def ClB(D n d:Int)(ps:List PT)(i m:Nat):Prop:=∀k,i<k->k<m->apZ D n d (pth ps i) (pth ps k)=true
def ClR(D n d:Int)(ps:List PT)(r:ClT):Prop:=
 (r=((0,0,0,0),false,0)/\ClA D n d ps ps.length)\/∃i k,i<k/\k<ps.length/\ClA D n d ps i/\ClB D n d ps i k/\apZ D n d (pth ps i) (pth ps k)=false/\r=clV D n d ps i k
def clA_0{n:Int}{ps:List PT} : ClA D n d ps 0:=λj k _ _ h=>absurd h (bT _)
def clB_0{n:Int}{ps:List PT} : ClB D n d ps i (i+1):=λk e g=>absurd e O
theorem clB_s{n:Int}{ps:List PT}(h:ClB D n d ps i m)(g:apZ D n d (pth ps i) (pth ps m)=true):ClB D n d ps i (m+1):=λk j l=>by
 rcases bC.1 l with e|e
 .exact h k j e
 .subst e;exact g
theorem clA_s{n:Int}{ps:List PT}(h:ClA D n d ps i)(l:ClB D n d ps i m)(r:ps.length<=m):ClA D n d ps (i+1):=λj k g p q=>by
 rcases bC.1 q with e|e
 .exact h j k g p e
 .subst e;exact l k g O
def Yko{n:Int}{ps:List PT}(h:ClA D n d ps i)(hi:ps.length<=i):ClR D n d ps ((0,0,0,0),false,0):= .inl ⟨rfl,λj k e g l=>h j k e g O⟩
def Zxw{n:Int}{ps:List PT}(h:ClA D n d ps i)(e:ClB D n d ps i k)(hi:i<k)(j:k<ps.length)(g:apZ D n d (pth ps i) (pth ps k)=false):ClR D n d ps (clV D n d ps i k):= .inr ⟨i,k,hi,j,h,e,g,rfl⟩
theorem Ykn{n:Int}{ps:List PT}{r s:ClT}(h:ClR D n d ps r)(g:ClR D n d ps s):r=s:=by
 rcases h with⟨rfl,h⟩|⟨i,k,w,F,R,S,l,rfl⟩<;>rcases g with⟨rfl,g⟩|⟨j,m,u,B,G,I,e,rfl⟩
 .rfl
 .have:=h j m u B O;rw [this]at e;cases e
 .have:=g i k w F O;rw [this]at l;cases l
 .rcases jD i j with p|p|p
  .have:=G i k w F p;rw [this]at l;cases l
  .subst p;rcases jD k m with q|q|q
   .have:=I k w q;rw [this]at l;cases l
   .subst q;rfl
   .have:=S m u q;rw [this]at e;cases e
  .have:=R j m u B p;rw [this]at e;cases e
theorem ap_no{n:Int}(h:(Ha (Ke D n d a b)).2.2=false)(e:Bk a b=0):apZ D n d a b=true:=by unfold apZ;rw [h,aN e];rfl
theorem ap_is{n:Int}(h:(Ha (Ke D n d a b)).2.2=true):apZ D n d a b=false:=by unfold apZ;rw [h];exact lN _
theorem ap_e{n:Int}(e:Bk a b≠0):apZ D n d a b=false:=by unfold apZ;rw [aM e];rfl
theorem Zrz:∀l:List GpU,0<=bdI l->Ha l=((l.getD (bdI l).toNat (0,0,[])).1,(l.getD (bdI l).toNat (0,0,[])).2.1,true)/\(bdI l).toNat<l.length
 | [],h=>absurd h O3
 | g::l,h=>by
  cases hn:He g.2.2 with
  | true=>
   have e:Zl6 (g::l)=some g:=kI (by exact hn);have j:bdI (g::l)=0:=by show(if He g.2.2 then(0:Int)else _)=0;rw [hn];rfl
   unfold Ha;rw [e,j];exact⟨rfl,jO _⟩
  | false=>
   have e:Zl6 (g::l)=Zl6 l:=kJ (by rw [show He g.2.2=false from hn];exact cZ);have j:bdI (g::l)=if bdI l<0 then -1 else bdI l+1:=by show(if He g.2.2 then(0:Int)else _)=_;rw [hn];rfl
   have p:Ha (g::l)=Ha l:=by unfold Ha;rw [e]
   by_cases n:bdI l<0
   .rw [j,aF n]at h;exact absurd h O3
   .rw [aD n]at j;obtain⟨r,s⟩:=Zrz l O;have q:(bdI (g::l)).toNat=(bdI l).toNat+1:=O;rw [p,r,q];exact⟨rfl,by rw [dI];omega⟩
def An{e:List PT}(h:Zcj e=true){x:PT}(g:x∈e):Om x.2=true:=cJ.1 h x g
theorem Ylw{e:List PT}{x:PT}(g:x∈e)(h:Om x.2=false):Zcj e=false:=by
 cases hv:Zcj e with
 | false=>rfl
 | true=>rw [An hv g]at h;cases h
theorem Zsc{e:List PT}(l:e.length<=m)(h:∀k,k<m->k<e.length->Om (pth e k)=true):Zcj e=true:=
 cJ.2 λx j=>by obtain⟨k,g,rfl⟩:=dX.1 j;have:=h k O g;unfold pth at this;rwa [aG,aL g]at this
def Zzn(e:List PT)(i k:Nat):((e.drop (i+1)).getD k Cr).2=pth e (i+1+k):=aI Prod.snd (Yok e (i+1) k Cr)
theorem Ykm{n:Int}{e:List PT}(h:ClA D n d e i)(j:ClB D n d e i (i+1+k))(l:k<(e.drop (i+1)).length)(g:apZ D n d (e.getD i Cr).2 ((e.drop (i+1)).getD k Cr).2=false):ClR D n d e (clV D n d e i (i+1+k)):=
 Zxw h j O (by rw [dJ]at l;omega) (by rw [Zzn]at g;exact g)
theorem cl_go{n:Int}{e:List PT}(g:ClB D n d e i (i+1+k))(h:apZ D n d (e.getD i Cr).2 ((e.drop (i+1)).getD k Cr).2=true):ClB D n d e i (i+1+(k+1)):=
 clB_s g (by rw [Zzn]at h;exact h)
theorem clV_t{n:Int}{e:List PT}(h:(Ha (Ke D n d (e.getD i Cr).2 ((e.drop (i+1)).getD k Cr).2)).2.2=true):clV D n d e i (i+1+k)=(((i:Int),(i:Int)+1+(k:Int),(Ha (Ke D n d (e.getD i Cr).2 ((e.drop (i+1)).getD k Cr).2)).1,(Ha (Ke D n d (e.getD i Cr).2 ((e.drop (i+1)).getD k Cr).2)).2.1),(Ha (Ke D n d (e.getD i Cr).2 ((e.drop (i+1)).getD k Cr).2)).2.2,Bk (e.getD i Cr).2 ((e.drop (i+1)).getD k Cr).2):=by rw [Zzn]at h ⊢;have h:(Ha (Ke D n d (pth e i) (pth e (i+1+k)))).2.2=true:=h;unfold clV;rw [aF h];rfl
theorem clV_f{n:Int}{e:List PT}(h:(Ha (Ke D n d (e.getD i Cr).2 ((e.drop (i+1)).getD k Cr).2)).2.2=false):clV D n d e i (i+1+k)=((0,0,0,0),(Ha (Ke D n d (e.getD i Cr).2 ((e.drop (i+1)).getD k Cr).2)).2.2,Bk (e.getD i Cr).2 ((e.drop (i+1)).getD k Cr).2):=by rw [Zzn]at h ⊢;unfold clV;rw [aD (by rw [show(Ha (Ke D n d (pth e i) (pth e (i+1+k)))).2.2=false from h];exact cZ)];rfl
theorem fst_e{n:Int}(h:Bk a b≠0):Ha (Ke D n d a b)=(0,0,false):=by rw [Zw9 (λe=>h (by unfold Bk;rw [e];rfl))];rfl
theorem clW_e{n:Int}{e:List PT}(h:Bk (e.getD i Cr).2 (e.getD k Cr).2≠0):clV D n d e i k=((0,0,0,0),false,Bk (e.getD i Cr).2 (e.getD k Cr).2):=by have g:Ha (Ke D n d (pth e i) (pth e k))=(0,0,false):=fst_e h;unfold clV;rw [g];rfl
theorem clW_t{n:Int}{e:List PT}{zs:List GpT}(j:¬Bk (e.getD i Cr).2 (e.getD k Cr).2≠0)(q:zs.map unP=Ke D n d (e.getD i Cr).2 (e.getD k Cr).2)(h:bdI (zs.map unP)>=0) :
  clV D n d e i k=(((i:Int),(k:Int),(zs.getD (bdI (zs.map unP)).toNat Gp0).1.1,(zs.getD (bdI (zs.map unP)).toNat Gp0).1.2),true,0):=by
 have g:=(Zrz (zs.map unP) h).1;rw [Cb]at g;have l:Ha (Ke D n d (pth e i) (pth e k))=((zs.getD (bdI (zs.map unP)).toNat Gp0).1.1,(zs.getD (bdI (zs.map unP)).toNat Gp0).1.2,true):=by show Ha (Ke D n d (e.getD i Cr).2 (e.getD k Cr).2)=_;rw [<-q];exact g
 have p:Bk (pth e i) (pth e k)=0:=kK.1 j;unfold clV;rw [l,p];rfl
theorem Zm4{n:Int}{zs:List GpT}(e:zs.map unP=Ke D n d a b)(h:bdI (zs.map unP)>=0):apZ D n d a b=false/\(bdI (zs.map unP)).toNat<zs.length:=
 ⟨ap_is (by rw [<-e,(Zrz _ h).1]),by have:=(Zrz (zs.map unP) h).2;rwa [aP]at this⟩
theorem apW_f{n:Int}{zs:List GpT}(g:zs.map unP=Ke D n d a b)(e:¬Bk a b≠0)(h:¬bdI (zs.map unP)>=0):apZ D n d a b=true:=by rw [<-ap_b g (kK.1 e)];exact aN O
theorem Zq0{e:List PT}(h:Zc5 m k e=true):e.length<=m/\∀x∈e,Zh5 x.2 k=true:=by unfold Zc5 at h;rw [aQ,dQ]at h;exact⟨h.1,cJ.1 h.2⟩
theorem Yoa{e:List PT}{x:PT}(g:x∈e)(h:Zh5 x.2 k=false):Zc5 m k e=false:=by
 cases hv:Zc5 m k e with
 | false=>rfl
 | true=>rw [(Zq0 hv).2 x g]at h;cases h
theorem Yi9{e:List PT}(h:∀j,j<i->Zh5 (pth e j) k=true)(hi:¬(i<e.length/\i<=m))(p:i<=e.length):Zc5 m k e=decide (e.length<=m):=by
 unfold Zc5;by_cases g:e.length<=m
 .rw [aN g,mE];refine cJ.2 λx n=>?_;obtain⟨j,l,rfl⟩:=dX.1 n;have:=h j O;unfold pth at this;rwa [aG,aL l]at this
 .rw [aM g,Bool.false_and]
end Go.Sky
namespace Go.Sky
open Go.ChangeShapes Go.WideShapes Go.ChangeAt Go.RowKit Go.Joins Go.Deep
open Go.Proofs
variable {P:Program} {W:World} {H:Type} {enc:TypeId×Value->H}
theorem Ydg {t0 t ti ts e:TypeId} {f0 f1 f2 f3 f4 f5:Field} {c:Value} {v:Nat} {x:DataW H×List MemPlace} (V:P.underlying t0=some (.slice t)) (ht:P.underlying t=some (.struct #[f0,f1,f2,f3,f4,f5]))
  (h0:f0.type=ti) (h1:f1.type=ti) (h2:f2.type=ti) (h3:f3.type=ts) (h4:f4.type=ts) (h5:f5.type=ts) (o0:f0.offset=0) (o1:f1.offset=1) (o2:f2.offset=2) (o3:f3.offset=3) (o4:f4.offset=4) (o5:f5.offset=5)
  (hi:P.underlying ti=some (.int .i64)) (hs:P.underlying ts=some (.slice e)) (he:P.underlying e=some (.int .i64)) (hc:P.cellsOf e=1) (I:P.cellsOf ti=1) (M:P.cellsOf ts=1) (hC:P.cellsOf t=6)
  (h:DataW.trod enc P W 0 (λ_=>true) true v t0 [c]=some x):∃z:PT,c=Xn z.1/\(qP z).holds W/\∀g∈z.2,Gin g:=by
 rcases open_slice V h with⟨S,_⟩|⟨a,r,a0,m,n,D,Pl,S,_,hl,hm,w,hx,N⟩
 .cases S;exact⟨Cr,rfl,⟨Dg 6 Oq W,λz Z=>by cases Z⟩,λg d=>by cases d⟩
 .cases S;simp at w;subst w
  haveI:Inhabited Zv:=⟨G0⟩
  by_cases hn:r=0
  .subst hn;exact⟨((some a,0,m),[]),rfl,⟨⟨⟨some a,m,rfl,hl,hm,.inl rfl⟩,λb F=>absurd rfl F.1⟩,λz Z=>by cases Z⟩,λg d=>by cases d⟩
  .obtain⟨B,Y,q⟩:=Zdd (p:=λi (g:Zv)=>W.cells? 0 (a.add (i*6)) 6=some [.int .i64 g.1.1,.int .i64 g.1.2.1,.int .i64 g.1.2.2,Xn g.2.1.1,Xn g.2.2.1.1,Xn g.2.2.2.1]/\(qG g).holds W/\Gin g) r λi f=>by obtain⟨a1,k2,k3⟩:=N i O;rw [hC]at k2;obtain⟨g,rfl,k4,k5⟩:=Ycx ht h0 h1 h2 h3 h4 h5 o0 o1 o2 o3 o4 o5 hi hs he hc I M hC k3;exact⟨g,k2,k4,k5⟩
   have k:∀g∈B,(qG g).holds W/\Gin g:=λg d=>by obtain⟨i,f,rfl⟩:=kV d;exact(q i _ (aL f)).2
   obtain⟨g,s,y⟩:=a;have c0:=(World.cells?_some (q 0 (B[0]' O) (aL O)).1).2.2 0 O;obtain⟨o,l⟩:=Zox c0;have o:y=none:=o;have l:g<W.heap.size:=l;subst o;refine⟨((some ⟨g,s,none⟩,r,m),B),rfl,⟨⟨⟨some ⟨g,s,none⟩,m,by rw [Y],by show B.length<=m;omega,hm,.inr ⟨g,s,rfl,λi x f j u Q=>?_⟩⟩,λb F=>by cases F.2;exact l⟩,λg d=>(k g d).1⟩,λg d=>(k g d).2⟩;obtain⟨_,_,G⟩:=World.cells?_some (q i x f).1;have R:j<6:=by
    rcases bA j 6 with h|h
    .exact h
    .rw [bF (by simp [Value.cells];omega)]at Q;cases Q
   have:=G j R;simp only [Ok]at this;rw [this];simpa [Value.cells]using Q
theorem Zwt {tl t0 t ti ts e:TypeId} {f0 f1 f2 f3 f4 f5:Field} {v:Value} {d:DataW H} {p:List MemPlace} (k:P.underlying tl=some (.slice t0)) (G:P.cellsOf t0=1) (V:P.underlying t0=some (.slice t)) (ht:P.underlying t=some (.struct #[f0,f1,f2,f3,f4,f5]))
  (h0:f0.type=ti) (h1:f1.type=ti) (h2:f2.type=ti) (h3:f3.type=ts) (h4:f4.type=ts) (h5:f5.type=ts) (o0:f0.offset=0) (o1:f1.offset=1) (o2:f2.offset=2) (o3:f3.offset=3) (o4:f4.offset=4) (o5:f5.offset=5)
  (hi:P.underlying ti=some (.int .i64)) (hs:P.underlying ts=some (.slice e)) (he:P.underlying e=some (.int .i64)) (hc:P.cellsOf e=1) (M:P.cellsOf ti=1) (N:P.cellsOf ts=1) (hC:P.cellsOf t=6)
  {r:Reach} {b0:Nat} (Y:Value.okWide P W r b0 tl v) (h:DataW.Trod enc P W 0 (λ_=>true) true tl v d p):∃ls:List PT,(Ph 1 Zh7 qP v ls).holds W/\∀x∈ls,∀g∈x.2,Gin g:=by
 obtain⟨a0,F,a6,rfl⟩:=okWide_slice k Y;obtain⟨a3,hf⟩:=h;rcases open_slice k hf with⟨w,_⟩|⟨a,a4,a2,m,n,D,Pl,w,_,hl,hm,s,hx,Q⟩
 .simp [Value.cells]at w;obtain⟨rfl,rfl,rfl⟩:=w;exact⟨[],⟨Dg 1 Zh7 W,λz hz=>by cases hz⟩,λg o=>by cases o⟩
 .simp [Value.cells]at w;obtain⟨rfl,rfl,rfl⟩:=w;simp at s;subst s
  haveI:Inhabited PT:=⟨Cr⟩
  obtain⟨xs,Z,B⟩:=Zdd (p:=λi (z:PT)=>W.cells? 0 (a.add (i*1)) 1=some [Xn z.1]/\(qP z).holds W/\∀g∈z.2,Gin g) F λi f=>by
   obtain⟨q,k2,k3⟩:=Q i O;rw [G]at k2;obtain⟨c,rfl⟩:∃c,q=[c]:=by
    have:=(World.cells?_some k2).2.1
    match q,this with
    | [c],_=>exact⟨c,rfl⟩
   obtain⟨z,rfl,k4,k5⟩:=Ydg V ht h0 h1 h2 h3 h4 h5 o0 o1 o2 o3 o4 o5 hi hs he hc M N hC k3;exact⟨z,k2,k4,k5⟩
  have l:∀z∈xs,(qP z).holds W/\∀g∈z.2,Gin g:=λg o=>by obtain⟨i,f,rfl⟩:=kV o;exact(B i _ (aL f)).2
  refine⟨xs,⟨⟨⟨some a,m,by rw [Z],O,hm,?_⟩,λb hb=>?_⟩,λg o=>(l g o).1⟩,λg o=>(l g o).2⟩
  .rcases aV F with hz|hz
   .exact .inl (aC O)
   .right;obtain⟨g,a1,a5⟩:=a;obtain⟨y,_⟩:=Zli k Y;simp only at y;subst y;refine⟨g,a1,rfl,λi x f j u R=>?_⟩;obtain⟨_,_,I⟩:=World.cells?_some (B i x f).1;have S:j<1:=by
     rcases bA j 1 with h|h
     .exact h
     .rw [bF (by simp [Value.cells];omega)]at R;cases R
    have:=I j S;simp only [Ok]at this;rw [this];simpa [Value.cells]using R
  .cases hb.2;exact(Zli k Y).2
end Go.Sky
namespace Go.Sky
open Go.ChangeShapes Go.WideShapes Go.ChangeAt Go.RowKit Go.Joins Go.Deep
open Go.Proofs
variable {P:Program} {W:World} {H:Type} {enc:TypeId×Value->H}
theorem Zws {t ti:TypeId} {f0 f1 f2:Field} {v:Value} {d:DataW H} {p:List MemPlace} (q:P.underlying t=some (.struct #[f0,f1,f2])) (F:P.cellsOf t=3) (z:f0.type=ti) (B:f1.type=ti) (D:f2.type=ti) (R:f0.offset=0) (S:f1.offset=1) (V:f2.offset=2)
  (hi:P.underlying ti=some (.int .i64)) (f:P.cellsOf ti=1) {r:Reach} {x:Nat} (I:Value.okWide P W r x t v) (h:DataW.Trod enc P W 0 (λ_=>true) true t v d p):∃a b c:Int,v= .agg #[.int .i64 a,.int .i64 b,.int .i64 c]/\Nz a/\Nz b/\Nz c:=by
 obtain⟨y,rfl,e⟩:=okWide_struct q I;obtain⟨o,G⟩:=h;obtain⟨xs,n,_,hx,hl,i,g⟩:=DataW.trod_struct q G;rw [F]at e;obtain⟨l⟩:=y;have e:l.length=3:=by simpa using e
 match l,e with
 | [c0,c1,c2],_=>
 match xs,i with
 | [y0,y1,y2],_=>
 have j:=g 0 f0 rfl;have k:=g 1 f1 rfl;have m:=g 2 f2 rfl;rw [z,R,f]at j;rw [B,S,f]at k;rw [D,V,f]at m;obtain⟨M,s,Y⟩:=DataW.trod_int hi j;obtain⟨N,u,Z⟩:=DataW.trod_int hi k;obtain⟨Q,w,w2⟩:=DataW.trod_int hi m;simp [Value.cells]at s u w;subst s;subst u;subst w;exact⟨M,N,Q,rfl,Zh3 Y.2,Zh3 Z.2,Zh3 w2.2⟩
end Go.Sky
namespace Go.Proofs.YteikicbnfbgpnaaGreat
open Go Go.Joins Go.Sky
def Ly{a b:Bool}(h:a=true)(c:b=true):(a && b)=true:=by rw [h,c];rfl
def cf0:(λ(P:Program) (f:FuncId) (fn:Func) (s:ChangeSpec) (c:OpenClaim)=>c.wf (OpenSpec.ofChange s)) Tryz.checked.prog 6 Tryz.f6 Rows.downwashFirstSpec Rows.downwashFirstRow=true:=O7
def cf1:(λ(P:Program) (f:FuncId) (fn:Func) (s:ChangeSpec) (c:OpenClaim)=>laidOutB P) Tryz.checked.prog 6 Tryz.f6 Rows.downwashFirstSpec Rows.downwashFirstRow=true:=O7
def cf2:(λ(P:Program) (f:FuncId) (fn:Func) (s:ChangeSpec) (c:OpenClaim)=>mapsRowed P) Tryz.checked.prog 6 Tryz.f6 Rows.downwashFirstSpec Rows.downwashFirstRow=true:=O7
def cf3:(λ(P:Program) (f:FuncId) (fn:Func) (s:ChangeSpec) (c:OpenClaim)=>fn.params.all (P.readableRec ·)) Tryz.checked.prog 6 Tryz.f6 Rows.downwashFirstSpec Rows.downwashFirstRow=true:=O7
def cf4:(λ(P:Program) (f:FuncId) (fn:Func) (s:ChangeSpec) (c:OpenClaim)=>namedTie P c.named s.vars) Tryz.checked.prog 6 Tryz.f6 Rows.downwashFirstSpec Rows.downwashFirstRow=true:=O7
def cf5:(λ(P:Program) (f:FuncId) (fn:Func) (s:ChangeSpec) (c:OpenClaim)=>c.stops == []) Tryz.checked.prog 6 Tryz.f6 Rows.downwashFirstSpec Rows.downwashFirstRow=true:=O7
def cf6:(λ(P:Program) (f:FuncId) (fn:Func) (s:ChangeSpec) (c:OpenClaim)=>P.stops == []) Tryz.checked.prog 6 Tryz.f6 Rows.downwashFirstSpec Rows.downwashFirstRow=true:=O7
def cf7:(λ(P:Program) (f:FuncId) (fn:Func) (s:ChangeSpec) (c:OpenClaim)=>c.knobs == []) Tryz.checked.prog 6 Tryz.f6 Rows.downwashFirstSpec Rows.downwashFirstRow=true:=O7
def cf8:(λ(P:Program) (f:FuncId) (fn:Func) (s:ChangeSpec) (c:OpenClaim)=>P.stopKnobs == []) Tryz.checked.prog 6 Tryz.f6 Rows.downwashFirstSpec Rows.downwashFirstRow=true:=O7
def cf9:(λ(P:Program) (f:FuncId) (fn:Func) (s:ChangeSpec) (c:OpenClaim)=>c.inPlace == P.inPlace f) Tryz.checked.prog 6 Tryz.f6 Rows.downwashFirstSpec Rows.downwashFirstRow=true:=O7
def cf10:(λ(P:Program) (f:FuncId) (fn:Func) (s:ChangeSpec) (c:OpenClaim)=>c.unfollowed == P.unfollowed f) Tryz.checked.prog 6 Tryz.f6 Rows.downwashFirstSpec Rows.downwashFirstRow=true:=O7
def cf11:(λ(P:Program) (f:FuncId) (fn:Func) (s:ChangeSpec) (c:OpenClaim)=>c.recurses == P.recurses f) Tryz.checked.prog 6 Tryz.f6 Rows.downwashFirstSpec Rows.downwashFirstRow=true:=O7
def cf12:(λ(P:Program) (f:FuncId) (fn:Func) (s:ChangeSpec) (c:OpenClaim)=>c.named == P.varsNamed f) Tryz.checked.prog 6 Tryz.f6 Rows.downwashFirstSpec Rows.downwashFirstRow=true:=O7
def cf13:(λ(P:Program) (f:FuncId) (fn:Func) (s:ChangeSpec) (c:OpenClaim)=>(c.maps == (fn.params.toList ++ s.plain.varTypes P).any (P.mapsRec ·))) Tryz.checked.prog 6 Tryz.f6 Rows.downwashFirstSpec Rows.downwashFirstRow=true:=O7
def cf14:(λ(P:Program) (f:FuncId) (fn:Func) (s:ChangeSpec) (c:OpenClaim)=>(c.ifaces == (fn.params.toList ++ s.plain.varTypes P).any (P.ifacesRec ·))) Tryz.checked.prog 6 Tryz.f6 Rows.downwashFirstSpec Rows.downwashFirstRow=true:=O7
def cf15:(λ(P:Program) (f:FuncId) (fn:Func) (s:ChangeSpec) (c:OpenClaim)=>c.mapsOut == P.mapsAmong fn.resultTypes.toList) Tryz.checked.prog 6 Tryz.f6 Rows.downwashFirstSpec Rows.downwashFirstRow=true:=O7
def cf16:(λ(P:Program) (f:FuncId) (fn:Func) (s:ChangeSpec) (c:OpenClaim)=>(c.loops == (fn.params.toList ++ s.plain.varTypes P).any (P.loopsFrom ·))) Tryz.checked.prog 6 Tryz.f6 Rows.downwashFirstSpec Rows.downwashFirstRow=true:=O7
def cf17:(λ(P:Program) (f:FuncId) (fn:Func) (s:ChangeSpec) (c:OpenClaim)=>(c.wideKeys == (fn.params.toList ++ s.plain.varTypes P ++ fn.resultTypes.toList).any (P.wideKeysFrom ·))) Tryz.checked.prog 6 Tryz.f6 Rows.downwashFirstSpec Rows.downwashFirstRow=true:=O7
def cf18:(λ(P:Program) (f:FuncId) (fn:Func) (s:ChangeSpec) (c:OpenClaim)=>s.vars.all (P.varReadable ·)) Tryz.checked.prog 6 Tryz.f6 Rows.downwashFirstSpec Rows.downwashFirstRow=true:=O7
def cf19:(λ(P:Program) (f:FuncId) (fn:Func) (s:ChangeSpec) (c:OpenClaim)=>fn.resultTypes.all (λt=>P.readableRec t && decide (t<P.types.size))) Tryz.checked.prog 6 Tryz.f6 Rows.downwashFirstSpec Rows.downwashFirstRow=true:=O7
def cf20:(λ(P:Program) (f:FuncId) (fn:Func) (s:ChangeSpec) (c:OpenClaim)=>(c.ifacesOut == fn.resultTypes.toList.any (P.ifacesRec ·))) Tryz.checked.prog 6 Tryz.f6 Rows.downwashFirstSpec Rows.downwashFirstRow=true:=O7
def cf21:(λ(P:Program) (f:FuncId) (fn:Func) (s:ChangeSpec) (c:OpenClaim)=>(c.loopsOut == fn.resultTypes.toList.any (P.loopsFrom ·))) Tryz.checked.prog 6 Tryz.f6 Rows.downwashFirstSpec Rows.downwashFirstRow=true:=O7
def cf22:(λ(P:Program) (f:FuncId) (fn:Func) (s:ChangeSpec) (c:OpenClaim)=>c.plainKeys == P.plainKeys) Tryz.checked.prog 6 Tryz.f6 Rows.downwashFirstSpec Rows.downwashFirstRow=true:=O7
def cf23:(λ(P:Program) (f:FuncId) (fn:Func) (s:ChangeSpec) (c:OpenClaim)=>c.shortTexts.isNone) Tryz.checked.prog 6 Tryz.f6 Rows.downwashFirstSpec Rows.downwashFirstRow=true:=O7
def cf24:(λ(P:Program) (f:FuncId) (fn:Func) (s:ChangeSpec) (c:OpenClaim)=>P.stopsHeard) Tryz.checked.prog 6 Tryz.f6 Rows.downwashFirstSpec Rows.downwashFirstRow=true:=O7
def cf25:(λ(P:Program) (f:FuncId) (fn:Func) (s:ChangeSpec) (c:OpenClaim)=>P.mayEnter) Tryz.checked.prog 6 Tryz.f6 Rows.downwashFirstSpec Rows.downwashFirstRow=true:=O7
def cf26:(λ(P:Program) (f:FuncId) (fn:Func) (s:ChangeSpec) (c:OpenClaim)=>c.lifted == P.liftsFinal) Tryz.checked.prog 6 Tryz.f6 Rows.downwashFirstSpec Rows.downwashFirstRow=true:=O7
def cf27:(λ(P:Program) (f:FuncId) (fn:Func) (s:ChangeSpec) (c:OpenClaim)=>P.make == some c.make) Tryz.checked.prog 6 Tryz.f6 Rows.downwashFirstSpec Rows.downwashFirstRow=true:=O7
def cf28:(λ(P:Program) (f:FuncId) (fn:Func) (s:ChangeSpec) (c:OpenClaim)=>c.kinds == (if c.domain.isEmpty then []else fn.params.toList.map λt=>match P.underlying t with|some (.int k)=>some k|_=>none)) Tryz.checked.prog 6 Tryz.f6 Rows.downwashFirstSpec Rows.downwashFirstRow=true:=O7
def cf29:(λ(P:Program) (f:FuncId) (fn:Func) (s:ChangeSpec) (c:OpenClaim)=>c.pinned == c.pinnedBy) Tryz.checked.prog 6 Tryz.f6 Rows.downwashFirstSpec Rows.downwashFirstRow=true:=O7
def cf30:(λ(P:Program) (f:FuncId) (fn:Func) (s:ChangeSpec) (c:OpenClaim)=>(c.veiled == (fn.params.toList ++ s.plain.varTypes P ++ fn.resultTypes.toList).any (P.veiledRec ·))) Tryz.checked.prog 6 Tryz.f6 Rows.downwashFirstSpec Rows.downwashFirstRow=true:=O7
def cf31:(λ(P:Program) (f:FuncId) (fn:Func) (s:ChangeSpec) (c:OpenClaim)=>c.veiledFits P fn.params.toList (fn.params.toList ++ s.plain.varTypes P ++ fn.resultTypes.toList)) Tryz.checked.prog 6 Tryz.f6 Rows.downwashFirstSpec Rows.downwashFirstRow=true:=O7
set_option maxRecDepth 100000 in
def closed:joinedFacts Tryz.checked.prog 6 Tryz.f6 Rows.downwashFirstSpec Rows.downwashFirstRow=true:=(Ly (Ly (Ly (Ly (Ly (Ly (Ly (Ly (Ly (Ly (Ly (Ly (Ly (Ly (Ly (Ly (Ly (Ly (Ly (Ly (Ly (Ly (Ly (Ly (Ly (Ly (Ly (Ly (Ly (Ly (Ly cf0 cf1) cf2) cf3) cf4) cf5) cf6) cf7) cf8) cf9) cf10) cf11) cf12) cf13) cf14) cf15) cf16) cf17) cf18) cf19) cf20) cf21) cf22) cf23) cf24) cf25) cf26) cf27) cf28) cf29) cf30) cf31)
end Go.Proofs.YteikicbnfbgpnaaGreat
namespace Go.Sky
variable {P:Program} {N:Nat} {sc:Nat->Prop} {env env':Pz} {H H' H0:Hp} {Q Q':Exit->Act->World->Prop} {M:Nat->Prop}
@[reducible] def drp2:Nat->Hp->Hp
 | _,[]=>[]
 | k,(i,p)::r=>match Nat.beq i k with
  | true=>drp2 k r
  | false=>(i,p)::drp2 k r
theorem Ya3:∀(k:Nat) (H:Hp),drp2 k H=drp k H
 | _,[]=>rfl
 | k,(i,p)::r=>by unfold drp2 drp;cases Nat.beq i k<;>simp [Ya3 k r]
@[reducible] def anyb:List Nat->Nat->Bool
 | [],_=>false
 | k::r,i=>match Nat.beq i k with
  | true=>true
  | false=>anyb r i
theorem Zr0:∀(a:List Nat) (i:Nat),anyb a i=a.any (Nat.beq i)
 | [],_=>rfl
 | k::r,i=>by unfold anyb;rw [List.any_cons,<-Zr0 r i];cases Nat.beq i k<;>rfl
@[reducible] def rst2 (a:List Nat):Hp->Hp
 | []=>[]
 | (i,p)::r=>match anyb a i with
  | true=>(i,p)::rst2 a r
  | false=>rst2 a r
theorem Zy3(a:List Nat):∀H:Hp,rst2 a H=rst a H
 | []=>rfl
 | (i,p)::r=>by unfold rst2 rst;rw [<-Zr0];cases anyb a i<;>simp [Zy3 a r]
class AgI (H0 H:Hp) (ks:List Nat):Prop where h:Agr H0 H ks
instance:AgI H0 H []:=⟨aA⟩
instance {k:Nat} {ks:List Nat} {p:Pc} [h1:Som (lk2 H k) p] [h2:Som (lk2 H0 k) p] [h:AgI H0 H ks]:AgI H0 H (k::ks):=⟨⟨h1.l.trans h2.l.symm,h.h⟩⟩
class StI (P:Program) (N:Nat) (sc:Nat->Prop) (M:Nat->Prop) (op:Go.Op) (env:Pz) (H:Hp) (v:outParam Value) (s:outParam Prop):Prop where
 h:s->∀{d:Option Tmp} {ty:TypeId} {pos:String} {af:Array Edge} {g:Option (Nat×Bool)},Stb P N sc M ⟨d,op,ty,pos,af,g⟩ env H v
section
variable {op:Go.Op} {v:Value} {s:Prop} {k b:Nat} {t:TypeId} {l:List Value} {ks:List Nat}
instance [h:DI P N sc op env H v s]:StI P N sc (λ_=>False) op env H v s:=⟨λhs=>Xu (h.h hs)⟩
instance [hb:BxI H b k t l] [h:DI P N sc op env (drp2 k H) v s]:StI P N sc (λx=>x=b) op env H v s:=⟨λhs=>st1 k hb.h (by rw [<-Ya3];exact h.h hs)⟩
instance [ha:AgI H0 H ks] [h:DI P N sc op env (rst2 ks H) v s]:StI P N sc (Off H0 ks) op env H v s:=⟨λhs=>Gl (by rw [<-Zy3];exact h.h hs) ha.h⟩
end
class MI (M:Nat->Prop) (b:Nat):Prop where h:M b
class MS (N:Nat) (sc:Nat->Prop) (M:Nat->Prop) (env:Pz) (H:Hp) (b:Nat):Prop where h:∀a w,Sat N sc env H a w->M b
instance {b:Nat} : MS N sc (λ_=>True) env H b:=⟨λ_ _ _=>trivial⟩
instance {b:Nat} : MS N sc (λx=>x=b) env H b:=⟨λ_ _ _=>rfl⟩
instance {b:Nat} [h:MI M b]:MS N sc M env H b:=⟨λ_ _ _=>h.h⟩
@[reducible] def nin (ks:List Nat) (i:Nat):Bool:=match anyb ks i with
 | true=>false
 | false=>true
instance (priority:=low) {b i:Nat} {t:TypeId} {l:List Value} {ks:List Nat} [hb:BxI H b i t l] [hn:TB (nin ks i)] [ha:AgI H0 H ks]:MS N sc (Off H0 ks) env H b:=⟨λa w hs=>λk hk p hp hf=>by
 rw [<-ha.h.mem k hk]at hp;have hne:i≠k:=λe=>by
  subst e;have h1:=hn.h;unfold nin at h1;rw [Zr0]at h1;cases h2:ks.any (Nat.beq i)with
  | true=>rw [h2]at h1;cases h1
  | false=>
   have:=List.any_eq_false.1 h2 i hk;simp at this
 exact hs.sep i k _ p hne hb.h hp rfl b rfl hf⟩
section
variable {d i j k b e n:Nat} {vs ws l l':List Value} {w0:World} {M0:Nat->Prop} {ty t tb:TypeId} {pos:String} {af:Array Edge} {g:Option (Nat×Bool)} {x y:Operand} {v z:Value} {bb:Bool}
variable {ll:List Oper} {F:Pz->Hp->Prop} {rest:List (Nat×Nat)} {op:Go.Op} {G:Type} {φ:G->Prop} {genv:G->Pz} {gH:G->Hp} {dd:Option Tmp} {q r s:Prop}
def t_stm [hx:Som (ev2 env x) (.pointer (some ⟨b,j,none⟩))] [hy:Som (ev2 env y) v] [hB:BxI H b i tb l] [hi:TB (neb i 0)] [hv:CeI P N sc env H v vs] [hk:Siz P t k] [hl:TB (lenq vs k)] [hf:TB (fits l j vs)] [hr:LEv (lay2 l j vs) l']
  [h0:Som (lk2 H 0) (Xx w0 M0)] [hw:Hw w0 sc] [hM:MS N sc M env H b]:T P N sc M ⟨none,.store t x y,ty,pos,af,g⟩ env H (G:=Unit) (λ_=>True) (λ_=>env) (λ_=>(i,box b tb l'.toArray)::H):=λa w hs=>Ye3 (hM.h a w hs) a w hs
def Xg(n:Nat){ks:List Nat}[hz:Zer P t z][hc:ClI z l][h0:Som (lk2 H 0) (Xx w0 M0)][hN:TB (ltb d N)][hw:Hw w0 sc][ha:AgI H0 H ks] :
  T P N sc (Off H0 ks) ⟨some d,.alloc t,ty,pos,af,g⟩ env H (G:=Nat) (λb=>MI (Off H0 ks) b) (λb=>(d,.pointer (some ⟨b,0,none⟩))::env) (λb=>(n,box b t l.toArray)::H):=λa w hs K Q f=>
 Ye4 (i:=n) rfl rfl (Nm hN.h) hz.h hc.h h0.l hw.h ha.h a w hs K Q λg c m h=>f g c m ⟨h⟩
def Yp(a:T P N sc M ⟨dd,op,ty,pos,af,none⟩ env H φ genv gH)[ho:Som (nth ll i) ⟨dd,op,ty,pos,af,none⟩](h:∀g,φ g->LD P N sc M ll.toArray F rest (genv g) (gH g)):LD P N sc M ll.toArray F ((i,1)::rest) env H:=Ko ho.n a h
def r3x(a:T P N sc (λ_=>True) ⟨dd,op,ty,pos,af,none⟩ env H φ genv gH)[ho:Som (nth ll i) ⟨dd,op,ty,pos,af,none⟩](h:∀g,φ g->LD P N sc M ll.toArray F rest (genv g) (gH g)):LD P N sc M ll.toArray F ((i,3)::rest) env H:=r3' ho.n a h
def Px{ts:List Nat}{a:Array Bool}(c:T P N sc M ⟨dd,op,ty,pos,af,none⟩ env H φ genv gH)[ho:Som (nth ll i) ⟨dd,op,ty,pos,af,none⟩](h:∀g,φ g->A P N sc M ll.toArray ts Q n (a.setIfInBounds i true) (genv g) (gH g)):Zr3 P N sc M ll.toArray ts Q n a env H i:=Kl ho.n c h
instance [ho:Som (nth ll i) ⟨some d,op,ty,pos,af,none⟩] [h1:StI P N sc M op env H v s] [h2:TB (ltb d N)] [h:Adv n (LD P N sc M ll.toArray F rest ((d,v)::env) H) q] [h3:AndO s q r]:Adv (n+1) (LD P N sc M ll.toArray F ((i,0)::rest) env H) r:=
 ⟨λk=>Xe ho.n rfl (h1.h (h3.h k).1) (h.h (h3.h k).2) rfl (Nm h2.h)⟩
instance [ho:Som (nth ll i) ⟨some d,op,ty,pos,af,some (j,bb)⟩] [hj:Som (dsto ll j) e] [he:Som (lk2 env e) (.bool bb)] [hN:TB (ltb e N)] [h1:StI P N sc M op env H v s] [h2:TB (ltb d N)] [h:Adv n (LD P N sc M ll.toArray F rest ((d,v)::env) H) q] [h3:AndO s q r]:Adv (n+1) (LD P N sc M ll.toArray F ((i,0)::rest) env H) r:=
 ⟨λk=>r0g (h1.h (h3.h k).1) ho.n rfl (Dt hj) he.l rfl (h.h (h3.h k).2) (Nm hN.h) (Nm h2.h)⟩
instance [ho:Som (nth ll i) ⟨some d,op,ty,pos,af,some (j,true)⟩] [hj:Som (dsto ll j) e] [he:Som (lk2 env e) (.bool false)] [hN:TB (ltb e N)] [h2:TB (ltb d N)] [h:Adv n (LD P N sc M ll.toArray F rest ((d,undef)::env) H) q]:Adv (n+1) (LD P N sc M ll.toArray F ((i,2)::rest) env H) q:=
 ⟨λk=>r2 ho.n rfl (Dt hj) he.l rfl (Nm hN.h) rfl (Nm h2.h) (h.h k)⟩
instance [ho:Som (nth ll i) ⟨some d,op,ty,pos,af,some (j,false)⟩] [hj:Som (dsto ll j) e] [he:Som (lk2 env e) (.bool true)] [hN:TB (ltb e N)] [h2:TB (ltb d N)] [h:Adv n (LD P N sc M ll.toArray F rest ((d,undef)::env) H) q]:Adv (n+1) (LD P N sc M ll.toArray F ((i,2)::rest) env H) q:=
 ⟨λk=>r2 ho.n rfl (Dt hj) he.l rfl (Nm hN.h) rfl (Nm h2.h) (h.h k)⟩
instance [ho:Som (nth ll i) ⟨none,.store t x y,ty,pos,af,none⟩] [hx:Som (ev2 env x) (.pointer (some ⟨b,j,none⟩))] [hy:Som (ev2 env y) v] [hB:BxI H b k tb l] [hi:TB (neb k 0)] [hv:CeI P N sc env H v vs] [hk:Siz P t e] [hl:TB (lenq vs e)] [hf:TB (fits l j vs)] [hr:LEv (lay2 l j vs) l']
  [h0:Som (lk2 H 0) (Xx w0 M0)] [hw:Hw w0 sc] [h:Adv n (LD P N sc M ll.toArray F rest env ((k,box b tb l'.toArray)::H)) q]:Adv (n+1) (LD P N sc M ll.toArray F ((i,3)::rest) env H) q:=
 ⟨λq=>r3' ho.n (Ye3 aA) λ_ _=>h.h q⟩
instance [ho:Som (nth ll i) ⟨none,.store t x y,ty,pos,af,none⟩] [hx:Som (ev2 env x) (.pointer (some ⟨b,j,none⟩))] [hy:Som (ev2 env y) v] [hB:BxI H b k tb l] [hi:TB (neb k 0)] [hM:MS N sc M env H b] [hv:CeI P N sc env H v vs] [hk:Siz P t e] [hl:TB (lenq vs e)] [hf:TB (fits l j vs)] [hr:LEv (lay2 l j vs) l']
  [h0:Som (lk2 H 0) (Xx w0 M0)] [hw:Hw w0 sc] [h:Adv n (LD P N sc M ll.toArray F rest env ((k,box b tb l'.toArray)::H)) q]:Adv (n+1) (LD P N sc M ll.toArray F ((i,1)::rest) env H) q:=
 ⟨λq=>Ko ho.n t_stm λ_ _=>h.h q⟩
instance [ho:Som (nth ll i) ⟨some d,op,ty,pos,af,none⟩] [h1:DI P N sc op env H v s] [h2:TB (ltb d N)] [h:Adv n (LD P N sc M ll.toArray F rest ((d,v)::env) H) q] [h3:AndO s q r]:Adv (n+1) (LD P N sc M ll.toArray F ((i,1)::rest) env H) r:=
 ⟨λk=>Ko ho.n (Zem (h1.h (h3.h k).1) rfl (Nm h2.h)) λ_ _=>h.h (h3.h k).2⟩
instance [ho:Som (nth ll i) ⟨some d,op,ty,pos,af,none⟩] [h1:DI P N sc op env H v s] [h2:TB (ltb d N)] [h:Adv n (LD P N sc M ll.toArray F rest ((d,v)::env) H) q] [h3:AndO s q r]:Adv (n+1) (LD P N sc M ll.toArray F ((i,3)::rest) env H) r:=
 ⟨λk=>r3' ho.n (Zem (h1.h (h3.h k).1) rfl (Nm h2.h)) λ_ _=>h.h (h3.h k).2⟩
instance [h:Adv n (F env H) q] {ops:Array Oper} : Adv (n+1) (LD P N sc M ops F [] env H) q:=⟨λk=>r_fin (h.h k)⟩
theorem Qd {id:Nat} {l:List Oper} (M:Nat->Prop) (a:List (Nat×Nat)) (h:LD P N sc M l.toArray (X N sc .normal Q) a env H) (c:P.follows .mixedOrders=true:=by kernel_rfl)
  (f:(Region.noSelect l.toArray && Nat.beq a.length l.length && De l.toArray (Zcu a) a (Array.replicate l.length false) && (Region.ready .any l.toArray (Af a (Array.replicate l.length false))).isEmpty)=true:=by kernel_rfl) :
  E P N sc (.region id l.toArray true) Q env H:=e_dreg M a c f h
end
end Go.Sky
namespace Go.Sky
open Go.RowKit (Below)
variable {P:Program} {N:Nat} {sc:Nat->Prop} {env env':Pz} {H H':Hp} {Q Q':Exit->Act->World->Prop} {M:Nat->Prop}
class EnI (vs:List Value) (env:outParam Pz):Prop where h:Of 0 vs=env
class PnI (vs:List Pc) (H:outParam Hp):Prop where h:Qt 1 vs=H
section
variable {a b c d e f g i j:Value} {p q r s t u v w x y:Pc}
instance:EnI [] []:=⟨rfl⟩
instance:EnI [a] [(0,a)]:=⟨rfl⟩
instance:EnI [a,b] [(0,a),(1,b)]:=⟨rfl⟩
instance:EnI [a,b,c] [(0,a),(1,b),(2,c)]:=⟨rfl⟩
instance:EnI [a,b,c,d] [(0,a),(1,b),(2,c),(3,d)]:=⟨rfl⟩
instance:EnI [a,b,c,d,e] [(0,a),(1,b),(2,c),(3,d),(4,e)]:=⟨rfl⟩
instance:EnI [a,b,c,d,e,f] [(0,a),(1,b),(2,c),(3,d),(4,e),(5,f)]:=⟨rfl⟩
instance:EnI [a,b,c,d,e,f,g] [(0,a),(1,b),(2,c),(3,d),(4,e),(5,f),(6,g)]:=⟨rfl⟩
instance:PnI [] []:=⟨rfl⟩
instance:PnI [p] [(1,p)]:=⟨rfl⟩
instance:PnI [p,q] [(1,p),(2,q)]:=⟨rfl⟩
instance:PnI [p,q,r] [(1,p),(2,q),(3,r)]:=⟨rfl⟩
instance:PnI [p,q,r,s] [(1,p),(2,q),(3,r),(4,s)]:=⟨rfl⟩
instance:PnI [p,q,r,s,t] [(1,p),(2,q),(3,r),(4,s),(5,t)]:=⟨rfl⟩
instance:PnI [p,q,r,s,t,u] [(1,p),(2,q),(3,r),(4,s),(5,t),(6,u)]:=⟨rfl⟩
instance:PnI [p,q,r,s,t,u,v] [(1,p),(2,q),(3,r),(4,s),(5,t),(6,u),(7,v)]:=⟨rfl⟩
instance:PnI [p,q,r,s,t,u,v,w] [(1,p),(2,q),(3,r),(4,s),(5,t),(6,u),(7,v),(8,w)]:=⟨rfl⟩
instance:PnI [p,q,r,s,t,u,v,w,x] [(1,p),(2,q),(3,r),(4,s),(5,t),(6,u),(7,v),(8,w),(9,x)]:=⟨rfl⟩
instance:PnI [p,q,r,s,t,u,v,w,x,y] [(1,p),(2,q),(3,r),(4,s),(5,t),(6,u),(7,v),(8,w),(9,x),(10,y)]:=⟨rfl⟩
end
class RoL (l:List Pc):Prop where h:AllRo l
instance:RoL []:=⟨aA⟩
instance {p:Pc} {r:List Pc} [h:RoI p] [h2:RoL r]:RoL (p::r):=⟨⟨h.h,h2.h⟩⟩
theorem Zi {f:FuncId} {fn:Func} {c:Code} {vs:List Value} {pre:List Pc} {al:Bool} {G:Type} {φ:G->Prop} {Yr:G->Value} {l:G->List Pc} {N:Nat} (B:P.funcs[f]? = some fn) (o:fn.ntmps=N)
  [he:EnI vs env] [hp:PnI pre H] [hro:RoL pre] (h:∀k (sc:Nat->Prop),Hw k sc->(∀b,sc b->k.heap.size<=b\/∃q∈pre,q.fp b)->E P N sc c (Zdm P fn k pre al φ Yr l) env ((0,Xx k (λ_=>False))::H))
  (z:fn.body=some c:=by rfl) (m:Nat.ble vs.length N=true:=by rfl):Cal P f vs.toArray pre al φ Yr l:=
 cal_in B z o m hro.h λk sc D n=>by rw [he.h,hp.h];exact h k sc ⟨D⟩ n
class RvI (P:Program) (N:Nat) (sc:Nat->Prop) (env:Pz) (H:Hp) (r:ResultVar) (v:outParam Value):Prop where h:RV P N sc env H r v
instance {t:Nat} {v:Value} [h:Som (lk2 env t) v]:RvI P N sc env H (.tmp t) v:=⟨h.l⟩
instance {c b i k:Nat} {t tb:TypeId} {l:List Value} [h:Som (lk2 env c) (.pointer (some ⟨b,0,none⟩))] [h1:Agg P t true] [h2:BxI H b i tb l] [h3:Siz P t k] [h4:TB (lenq l k)]:RvI P N sc env H (.cell c t) (.agg l.toArray):=⟨Fy h.l h2.h h1.h h3.h (Zgk h4.h)⟩
instance {c b i:Nat} {t tb:TypeId} {v:Value} [h:Som (lk2 env c) (.pointer (some ⟨b,0,none⟩))] [h1:Agg P t false] [h2:BxI H b i tb [v]]:RvI P N sc env H (.cell c t) v:=⟨Yf7 h.l h2.h h1.h⟩
section
variable {fn:Func} {pre:List Pc} {al:Bool} {G:Type} {φ:G->Prop} {Yr:G->Value} {its:G->List Pc} {w0:World} {r1 r2 r3:ResultVar} {v1 v2 v3:Value}
def Xd(k:∀b,sc b->w0.heap.size<=b\/∃q∈pre,q.fp b)(g:G)(l:fn.results=#[r1])[h1:RvI P N sc env H r1 v1][h0:Som (lk2 H 0) (Xx w0 (λ_=>False))](n:Yr g=v1)(m:φ g)(h:Give H al (its g)) :
  X N sc .ret (Zdm P fn w0 pre al φ Yr its) env H:=Zr5 (.inl rfl) k g v1 (λa w hs=>Zeh hs l h1.h) n m h0.l h
def My(k:∀b,sc b->w0.heap.size<=b\/∃q∈pre,q.fp b)(g:G)(l:fn.results=#[r1,r2])[h1:RvI P N sc env H r1 v1][h2:RvI P N sc env H r2 v2][h0:Som (lk2 H 0) (Xx w0 (λ_=>False))](n:Yr g= .tuple #[v1,v2])(m:φ g)(h:Give H al (its g)) :
  X N sc .ret (Zdm P fn w0 pre al φ Yr its) env H:=Zr5 (.inl rfl) k g (.tuple #[v1,v2]) (λa w hs=>Yc5 hs l h1.h h2.h) n m h0.l h
def xe3(k:∀b,sc b->w0.heap.size<=b\/∃q∈pre,q.fp b)(g:G)(l:fn.results=#[r1,r2,r3])[h1:RvI P N sc env H r1 v1][h2:RvI P N sc env H r2 v2][h3:RvI P N sc env H r3 v3][h0:Som (lk2 H 0) (Xx w0 (λ_=>False))](n:Yr g= .tuple #[v1,v2,v3])(m:φ g)(h:Give H al (its g)) :
  X N sc .ret (Zdm P fn w0 pre al φ Yr its) env H:=Zr5 (.inl rfl) k g (.tuple #[v1,v2,v3]) (λa w hs=>res3 hs l h1.h h2.h h3.h) n m h0.l h
end
class EncE {α:Type} (k:Nat) (enc:α->Value):Prop where h:∃(P:Program) (t:TypeId),Enc P t k enc
theorem Ps{p k:Pc}{r:List Pc}(i:Nat)[hi:Som (lk2 H i) k][h0:TB (neb i 0)][ho:RoI k](h:Give H true r)(e:k=p:=by rfl):Give H true (p::r):=e▸Gj i hi.l (Zvk (Zbz h0.h)) ho.h h
section
variable {α:Type} {k i:Nat} {e:TypeId} {enc:α->Value} {v v':Value} {xs ys:List α} {al:Bool} {r:List Pc}
theorem gow(i:Nat)[hi:Som (lk2 H i) (On k e enc v xs)][h0:TB (neb i 0)][he:EncE k enc](h:Give H al r)(l:xs=ys:=by rfl):Give H al (Yw k enc v ys::r):=by obtain⟨_,_,m⟩:=he.h;exact Yd2 i hi.l (Zvk (Zbz h0.h)) m l h
end
section
variable {n:Nat} {x b:Bool} {d e j:Nat} {op:Go.Op} {ty:TypeId} {pos:String} {af:Array Edge} {rest:List Oper} {ops:Array Oper} {ll:List Oper}
def kf [h1:DI P N sc op env H (.bool x) True][h2:TB (ltb d N)](e:x=false)(h:L P N sc ops rest Q ((d,.bool false)::env) H):L P N sc ops (⟨some d,op,ty,pos,af,none⟩::rest) Q env H:=dt (Qh (h1.h aA) (aI _ e)) h (Nm h2.h)
def kt [h1:DI P N sc op env H (.bool x) True][h2:TB (ltb d N)](e:x=true)(h:L P N sc ops rest Q ((d,.bool true)::env) H):L P N sc ops (⟨some d,op,ty,pos,af,none⟩::rest) Q env H:=dt (Qh (h1.h aA) (aI _ e)) h (Nm h2.h)
def kfg [h1:DI P N sc op env H (.bool x) True][hj:Som (dsto ll j) e][hg:Som (lk2 env e) (.bool b)][h4:TB (ltb e N)][h2:TB (ltb d N)](e:x=false)(h:L P N sc ll.toArray rest Q ((d,.bool false)::env) H):L P N sc ll.toArray (⟨some d,op,ty,pos,af,some (j,b)⟩::rest) Q env H:=Cm (Qh (h1.h aA) (aI _ e)) (Dt hj) hg.l h (Nm h4.h) (Nm h2.h)
def ktg [h1:DI P N sc op env H (.bool x) True][hj:Som (dsto ll j) e][hg:Som (lk2 env e) (.bool b)][h4:TB (ltb e N)][h2:TB (ltb d N)](e:x=true)(h:L P N sc ll.toArray rest Q ((d,.bool true)::env) H):L P N sc ll.toArray (⟨some d,op,ty,pos,af,some (j,b)⟩::rest) Q env H:=Cm (Qh (h1.h aA) (aI _ e)) (Dt hj) hg.l h (Nm h4.h) (Nm h2.h)
end
section
variable {f:FuncId} {xs:List Operand} {ats:Array TypeId} {d i j e n:Nat} {vs:List Value} {pre:List Pc} {al b:Bool} {G:Type} {φ:G->Prop} {Yr:G->Value} {its:G->List Pc} {w0:World} {M0:Nat->Prop} {ty:TypeId} {pos:String} {af:Array Edge} {G':G->Hp} {ops:Array Oper} {rest ll:List Oper}
def cl (n:Nat) (l:List Nat) (m:Cal P f vs.toArray pre al φ Yr its) [hx:EvI env xs vs] [hf:CalF P f] [hp:PreL P H al l pre] [h0:Som (lk2 H 0) (Xx w0 M0)] [hN:TB (ltb d N)] [hw:Hw w0 sc] [ha:∀g,AddI n (its g) H (G' g)]
  (h:∀g,φ g->L P N sc ops rest Q ((d,Yr g)::env) (G' g)):L P N sc ops (⟨some d,.call { callee:= .value (.func f),args:=xs.toArray,argTypes:=ats },ty,pos,af,none⟩::rest) Q env H:=Yh (Zk n l m) h
def Cl (n:Nat) (l:List Nat) (m:Cal P f vs.toArray pre al φ Yr its) [hx:EvI env xs vs] [hf:CalF P f] [hp:PreL P H al l pre] [h0:Som (lk2 H 0) (Xx w0 M0)] [hN:TB (ltb d N)] [hw:Hw w0 sc] [ha:∀g,AddI n (its g) H (G' g)] [hj:Som (dsto ll j) e] [he:Som (lk2 env e) (.bool b)] [hN2:TB (ltb e N)]
  (h:∀g,φ g->L P N sc ll.toArray rest Q ((d,Yr g)::env) (G' g)):L P N sc ll.toArray (⟨some d,.call { callee:= .value (.func f),args:=xs.toArray,argTypes:=ats },ty,pos,af,some (j,b)⟩::rest) Q env H:=gt' (Zk n l m) h
end
class SeI (l:List Nat) (env:Pz) (cs:outParam Pz):Prop where h:Sub cs env
instance:SeI [] env []:=⟨aA⟩
instance {t:Nat} {l:List Nat} {v:Value} {cs:Pz} [h:Som (lk2 env t) v] [h2:SeI l env cs]:SeI (t::l) env ((t,v)::cs):=⟨⟨h.l,h2.h⟩⟩
class SeH (l:List Nat) (H:Hp) (ch:outParam Hp):Prop where h:HSub ch H
instance:SeH [] H []:=⟨aA⟩
instance {t:Nat} {l:List Nat} {v:Pc} {cs:Hp} [h:Som (lk2 H t) v] [h2:SeH l H cs]:SeH (t::l) H ((t,v)::cs):=⟨⟨h.l,h2.h⟩⟩
class ApI {α:Type _} (a b:List α) (c:outParam (List α)):Prop where h:a ++ b=c
instance {α:Type _} {b:List α} : ApI [] b b:=⟨rfl⟩
instance {α:Type _} {x:α} {a b c:List α} [h:ApI a b c]:ApI (x::a) b (x::c):=⟨by rw [<-h.h];rfl⟩
class SbI (cs env:Pz):Prop where h:Sub cs env
instance:SbI [] env:=⟨aA⟩
instance {t:Nat} {v:Value} {cs:Pz} [h:Som (lk2 env t) v] [h2:SbI cs env]:SbI ((t,v)::cs) env:=⟨⟨h.l,h2.h⟩⟩
class HbI (ch H:Hp):Prop where h:HSub ch H
instance:HbI [] H:=⟨aA⟩
instance {t:Nat} {v:Pc} {cs:Hp} [h:Som (lk2 H t) v] [h2:HbI cs H]:HbI ((t,v)::cs) H:=⟨⟨h.l,h2.h⟩⟩
def Sub.app:∀{a b e:Pz},Sub a e->Sub b e->Sub (a ++ b) e
 | [],_,_,_,h=>h
 | (_,_)::_,_,_,h1,h=>⟨h1.1,Sub.app h1.2 h⟩
def HSub.app:∀{a b e:Hp},HSub a e->HSub b e->HSub (a ++ b) e
 | [],_,_,_,h=>h
 | (_,_)::_,_,_,h1,h=>⟨h1.1,HSub.app h1.2 h⟩
section
variable {c x y:Code} {G:Type} {cs:Pz} {ch:Hp} {e1:G->Pz} {H1:G->Hp} {ov:G->Pz} {oh:G->Hp} {inv:G->Prop} {μ:G->Nat} {g:G}
theorem lp (l D:List Nat) (ov:G->Pz) (oh:G->Hp) (inv:G->Prop) (μ:G->Nat) (m:G) (B:inv m) (hs:Sub (ov m) env) (z:HSub (oh m) H) [h1:SeI l env cs] [h2:SeH D H ch] [h3:∀g,ApI (ov g) cs (e1 g)] [h4:∀g,ApI (oh g) ch (H1 g)]
  (h:∀g,inv g->E P N sc c (Exit.then (Ypy N sc cs ch ov oh inv μ g) Q) (e1 g) (H1 g)):E P N sc (.loop c) Q env H:=
 e_lp cs ch ov oh inv μ m B (hs.app h1.h) (z.app h2.h) λg o=>by rw [(h3 g).h,(h4 g).h];exact h g o
def Ym(h:G)(l:inv h)(m:μ h<μ g)(hs:Sub (ov h) env)(o:HSub (oh h) H)[k1:SbI cs env][k2:HbI ch H]:X N sc .normal (Exit.then (Ypy N sc cs ch ov oh inv μ g) Q) env H:=x_rnd h l m (hs.app k1.h) (o.app k2.h)
theorem jn (l z:List Nat) (ov:G->Pz) (oh:G->Hp) (inv:G->Prop) [h1:SeI l env cs] [h2:SeH z H ch] [h3:∀g,ApI (ov g) cs (e1 g)] [h4:∀g,ApI (oh g) ch (H1 g)]
  (m:E P N sc x (Exit.then (JnK N sc cs ch ov oh inv) Q) env H) (o:∀g,inv g->E P N sc y Q (e1 g) (H1 g)):E P N sc (.seq x y) Q env H:=
 e_jn cs ch ov oh inv h1.h h2.h m λg h=>by rw [(h3 g).h,(h4 g).h];exact o g h
def Pn(h:G)(l:inv h)(hs:Sub (ov h) env)(m:HSub (oh h) H)[k1:SbI cs env][k2:HbI ch H]:X N sc .normal (Exit.then (JnK N sc cs ch ov oh inv) Q) env H:=x_jn h l (hs.app k1.h) (m.app k2.h)
end
end Go.Sky
namespace Go.Sky
open Go.Proofs
set_option linter.all false
set_option synthInstance.maxHeartbeats 0
@[reducible,instance] def iUnd3:=Und.mk Tryz.underlying3
@[reducible,instance] def iUnd4:=Und.mk Tryz.underlying4
@[reducible,instance] def iUnd5:=Und.mk Tryz.underlying5
@[reducible,instance] def iUnd9:=Und.mk Tryz.underlying9
@[reducible,instance] def iUnd33:=Und.mk Tryz.underlying33
@[reducible,instance] def iUnd39:=Und.mk Tryz.underlying39
@[reducible,instance] def iUnd40:=Und.mk Tryz.underlying40
@[reducible,instance] def iUnd47:=Und.mk Tryz.underlying47
@[reducible,instance] def iUnd80:=Und.mk Tryz.underlying80
@[reducible,instance] def iUnd82:=Und.mk Tryz.underlying82
@[reducible,instance] def iUnd89:=Und.mk Tryz.underlying89
@[reducible,instance] def iUnd91:=Und.mk Tryz.underlying91
@[reducible,instance] def iUnd121:=Und.mk Tryz.underlying121
@[reducible,instance] def iUnd197:=Und.mk Tryz.underlying197
@[reducible,instance] def iUnd217:=Und.mk Tryz.underlying217
@[reducible,instance] def iUnd219:=Und.mk Tryz.underlying219
@[reducible,instance] def iUnd230:=Und.mk Tryz.underlying230
@[reducible,instance] def iUnd232:=Und.mk Tryz.underlying232
@[reducible,instance] def iUnd248:=Und.mk Tryz.underlying248
@[reducible,instance] def iUnd250:=Und.mk Tryz.underlying250
@[reducible,instance] def iUnd268:=Und.mk Tryz.underlying268
@[reducible,instance] def iUnd270:=Und.mk Tryz.underlying270
@[reducible,instance] def iUnd274:=Und.mk Tryz.underlying274
@[reducible,instance] def iUnd276:=Und.mk Tryz.underlying276
@[reducible,instance] def iUnd280:=Und.mk Tryz.underlying280
@[reducible,instance] def iUnd316:=Und.mk Tryz.underlying316
@[reducible,instance] def iSiz3:=Siz.mk Tryz.sizeOf3
@[reducible,instance] def iSiz4:=Siz.mk Tryz.sizeOf4
@[reducible,instance] def iSiz5:=Siz.mk Tryz.sizeOf5
@[reducible,instance] def iSiz9:=Siz.mk Tryz.sizeOf9
@[reducible,instance] def iSiz26:=Siz.mk Tryz.sizeOf26
@[reducible,instance] def iSiz33:=Siz.mk Tryz.sizeOf33
@[reducible,instance] def iSiz40:=Siz.mk Tryz.sizeOf40
@[reducible,instance] def iSiz47:=Siz.mk Tryz.sizeOf47
@[reducible,instance] def iSiz80:=Siz.mk Tryz.sizeOf80
@[reducible,instance] def iSiz82:=Siz.mk Tryz.sizeOf82
@[reducible,instance] def iSiz89:=Siz.mk Tryz.sizeOf89
@[reducible,instance] def iSiz91:=Siz.mk Tryz.sizeOf91
@[reducible,instance] def iSiz217:=Siz.mk Tryz.sizeOf217
@[reducible,instance] def iSiz219:=Siz.mk Tryz.sizeOf219
@[reducible,instance] def iSiz232:=Siz.mk Tryz.sizeOf232
@[reducible,instance] def iSiz248:=Siz.mk Tryz.sizeOf248
@[reducible,instance] def iSiz268:=Siz.mk Tryz.sizeOf268
@[reducible,instance] def iSiz270:=Siz.mk Tryz.sizeOf270
@[reducible,instance] def iSiz276:=Siz.mk Tryz.sizeOf276
@[reducible,instance] def iAgg4:=Agg.mk Tryz.isAgg4
@[reducible,instance] def iAgg9:=Agg.mk Tryz.isAgg9
@[reducible,instance] def iAgg26:=Agg.mk Tryz.isAgg26
@[reducible,instance] def iAgg33:=Agg.mk Tryz.isAgg33
@[reducible,instance] def iAgg80:=Agg.mk Tryz.isAgg80
@[reducible,instance] def iAgg82:=Agg.mk Tryz.isAgg82
@[reducible,instance] def iAgg89:=Agg.mk Tryz.isAgg89
@[reducible,instance] def iAgg91:=Agg.mk Tryz.isAgg91
@[reducible,instance] def iAgg217:=Agg.mk Tryz.isAgg217
@[reducible,instance] def iAgg219:=Agg.mk Tryz.isAgg219
@[reducible,instance] def iAgg268:=Agg.mk Tryz.isAgg268
@[reducible,instance] def iAgg270:=Agg.mk Tryz.isAgg270
@[reducible,instance] def iAgg276:=Agg.mk Tryz.isAgg276
@[reducible,instance] def iZer80:=Zer.mk Tryz.zeroValue80
@[reducible,instance] def iZer82:=Zer.mk Tryz.zeroValue82
@[reducible,instance] def iZer89:=Zer.mk Tryz.zeroValue89
@[reducible,instance] def iZer91:=Zer.mk Tryz.zeroValue91
@[reducible,instance] def iZer219:=Zer.mk Tryz.zeroValue219
@[reducible,instance] def iZer232:=Zer.mk Tryz.zeroValue232
@[reducible,instance] def iZer250:=Zer.mk Tryz.zeroValue250
@[reducible,instance] def iZer270:=Zer.mk Tryz.zeroValue270
@[reducible,instance] def iZer274:=Zer.mk Tryz.zeroValue274
@[reducible,instance] def iZer276:=Zer.mk Tryz.zeroValue276
@[reducible,instance] def iCalF57:=CalF.mk Tryz.call57
@[reducible,instance] def iCalF67:=CalF.mk Tryz.call67
@[reducible,instance] def iCalF69:=CalF.mk Tryz.call69
@[reducible,instance] def iCalF70:=CalF.mk Tryz.call70
@[reducible,instance] def iCalF72:=CalF.mk Tryz.call72
@[reducible,instance] def iCalF76:=CalF.mk Tryz.call76
@[reducible,instance] def iCalF78:=CalF.mk Tryz.call78
@[reducible,instance] def iCalF79:=CalF.mk Tryz.call79
@[reducible,instance] def iCalF81:=CalF.mk Tryz.call81
@[reducible,instance] def iCalF82:=CalF.mk Tryz.call82
@[reducible,instance] def iCalF97:=CalF.mk Tryz.call97
@[reducible,instance] def iCalF99:=CalF.mk Tryz.call99
@[reducible,instance] def iCalF100:=CalF.mk Tryz.call100
@[reducible,instance] def iCalF105:=CalF.mk Tryz.call105
@[reducible,instance] def iCalF106:=CalF.mk Tryz.call106
@[reducible,instance] def iCalF117:=CalF.mk Tryz.call117
@[reducible,instance] def iCalF118:=CalF.mk Tryz.call118
@[reducible,instance] def iCalF119:=CalF.mk Tryz.call119
@[reducible,instance] def iCalF126:=CalF.mk Tryz.call126
@[reducible,instance] def iCalF127:=CalF.mk Tryz.call127
@[reducible,instance] def iCalF128:=CalF.mk Tryz.call128
@[reducible,instance] def iCalF129:=CalF.mk Tryz.call129
@[reducible,instance] def iCalF130:=CalF.mk Tryz.call130
@[reducible,instance] def iCalF131:=CalF.mk Tryz.call131
@[reducible,instance] def iCalF135:=CalF.mk Tryz.call135
@[reducible,instance] def iCalF136:=CalF.mk Tryz.call136
@[reducible,instance] def iCalF138:=CalF.mk Tryz.call138
@[reducible,instance] def iCalF140:=CalF.mk Tryz.call140
@[reducible,instance] def iCalF143:=CalF.mk Tryz.call143
@[reducible,instance] def iCalF144:=CalF.mk Tryz.call144
@[reducible,instance] def iCalF146:=CalF.mk Tryz.call146
@[reducible,instance] def iCalF147:=CalF.mk Tryz.call147
@[reducible,instance] def iCalF148:=CalF.mk Tryz.call148
@[reducible,instance] def iCalF149:=CalF.mk Tryz.call149
@[reducible,instance] def iCalF164:=CalF.mk Tryz.call164
@[reducible,instance] def iCalF165:=CalF.mk Tryz.call165
@[reducible,instance] def iCalF166:=CalF.mk Tryz.call166
@[reducible,instance] def iCalF167:=CalF.mk Tryz.call167
@[reducible,instance] def iCalF169:=CalF.mk Tryz.call169
@[reducible,instance] def iCalF170:=CalF.mk Tryz.call170
@[reducible,instance] def iCalF172:=CalF.mk Tryz.call172
@[reducible,instance] def iCalF173:=CalF.mk Tryz.call173
@[reducible,instance] def iCalF178:=CalF.mk Tryz.call178
@[reducible,instance] def iCalF179:=CalF.mk Tryz.call179
@[reducible,instance] def iCalF180:=CalF.mk Tryz.call180
@[reducible,instance] def iCalF183:=CalF.mk Tryz.call183
@[reducible,instance] def iCalF184:=CalF.mk Tryz.call184
@[reducible,instance] def iCalF188:=CalF.mk Tryz.call188
@[reducible,instance] def iCalF189:=CalF.mk Tryz.call189
@[reducible,instance] def iCalF190:=CalF.mk Tryz.call190
@[reducible,instance] def iCalF191:=CalF.mk Tryz.call191
@[reducible,instance] def iCalF192:=CalF.mk Tryz.call192
@[reducible,instance] def iCalF193:=CalF.mk Tryz.call193
@[reducible,instance] def iCalF194:=CalF.mk Tryz.call194
@[reducible,instance] def iCalF195:=CalF.mk Tryz.call195
@[reducible,instance] def iCalF196:=CalF.mk Tryz.call196
@[reducible,instance] def iCalF197:=CalF.mk Tryz.call197
@[reducible,instance] def iCalF198:=CalF.mk Tryz.call198
@[reducible,instance] def iCalF200:=CalF.mk Tryz.call200
@[reducible,instance] def iCalF201:=CalF.mk Tryz.call201
@[reducible,instance] def iCalF202:=CalF.mk Tryz.call202
@[reducible,instance] def iCalF209:=CalF.mk Tryz.call209
@[reducible,instance] def iCalF210:=CalF.mk Tryz.call210
@[reducible,instance] def iCalF211:=CalF.mk Tryz.call211
@[reducible,instance] def iCalF212:=CalF.mk Tryz.call212
@[reducible,instance] def iCalF213:=CalF.mk Tryz.call213
@[reducible,instance] def iCalF214:=CalF.mk Tryz.call214
@[reducible,instance] def iCalF215:=CalF.mk Tryz.call215
@[reducible,instance] def iCalF216:=CalF.mk Tryz.call216
@[reducible,instance] def iCalF217:=CalF.mk Tryz.call217
@[reducible,instance] def iCalF218:=CalF.mk Tryz.call218
@[reducible,instance] def iCalF219:=CalF.mk Tryz.call219
@[reducible,instance] def iCalF220:=CalF.mk Tryz.call220
@[reducible,instance] def iCalF221:=CalF.mk Tryz.call221
@[reducible,instance] def iCalF222:=CalF.mk Tryz.call222
@[reducible,instance] def iCalF223:=CalF.mk Tryz.call223
@[reducible,instance] def iCalF224:=CalF.mk Tryz.call224
@[reducible,instance] def iCalF225:=CalF.mk Tryz.call225
@[reducible,instance] def iCalF226:=CalF.mk Tryz.call226
@[reducible,instance] def iCalF228:=CalF.mk Tryz.call228
@[reducible,instance] def iCalF232:=CalF.mk Tryz.call232
@[reducible,instance] def iCalF233:=CalF.mk Tryz.call233
@[reducible,instance] def iCalF234:=CalF.mk Tryz.call234
@[reducible,instance] def iCalF235:=CalF.mk Tryz.call235
@[reducible,instance] def iCalF236:=CalF.mk Tryz.call236
@[reducible,instance] def iCalF237:=CalF.mk Tryz.call237
@[reducible,instance] def iCalF238:=CalF.mk Tryz.call238
@[reducible,instance] def iCalF239:=CalF.mk Tryz.call239
@[reducible,instance] def iCalF240:=CalF.mk Tryz.call240
@[reducible,instance] def iCalF251:=CalF.mk Tryz.call251
@[reducible,instance] def iCalF254:=CalF.mk Tryz.call254
@[reducible,instance] def iCalF255:=CalF.mk Tryz.call255
@[reducible,instance] def iCalF256:=CalF.mk Tryz.call256
@[reducible,instance] def iCalF257:=CalF.mk Tryz.call257
@[reducible,instance] def iCalF258:=CalF.mk Tryz.call258
@[reducible,instance] def iCalF259:=CalF.mk Tryz.call259
@[reducible,instance] def iCalF260:=CalF.mk Tryz.call260
@[reducible,instance] def iCalF261:=CalF.mk Tryz.call261
@[reducible,instance] def iCalF262:=CalF.mk Tryz.call262
@[reducible,instance] def iCalF263:=CalF.mk Tryz.call263
@[reducible,instance] def iCalF264:=CalF.mk Tryz.call264
@[reducible,instance] def iCalF265:=CalF.mk Tryz.call265
@[reducible,instance] def iCalF266:=CalF.mk Tryz.call266
@[reducible,instance] def iCalF267:=CalF.mk Tryz.call267
@[reducible,instance] def iCalF268:=CalF.mk Tryz.call268
@[reducible,instance] def iCalF272:=CalF.mk Tryz.call272
@[reducible,instance] def iCalF280:=CalF.mk Tryz.call280
@[reducible,instance] def iCalF281:=CalF.mk Tryz.call281
@[reducible,instance] def iCalF282:=CalF.mk Tryz.call282
@[reducible,instance] def iCalF283:=CalF.mk Tryz.call283
@[reducible,instance] def iCalF284:=CalF.mk Tryz.call284
@[reducible,instance] def iCalF285:=CalF.mk Tryz.call285
@[reducible,instance] def iCalF286:=CalF.mk Tryz.call286
@[reducible,instance] def iCalF287:=CalF.mk Tryz.call287
@[reducible,instance] def iCalF288:=CalF.mk Tryz.call288
@[reducible,instance] def iCalF289:=CalF.mk Tryz.call289
@[reducible,instance] def iCalF290:=CalF.mk Tryz.call290
@[reducible,instance] def iCalF291:=CalF.mk Tryz.call291
@[reducible,instance] def iCalF292:=CalF.mk Tryz.call292
@[reducible,instance] def iCalF293:=CalF.mk Tryz.call293
@[reducible,instance] def iCalF294:=CalF.mk Tryz.call294
@[reducible,instance] def iCalF295:=CalF.mk Tryz.call295
@[reducible,instance] def iCalF297:=CalF.mk Tryz.call297
@[reducible,instance] def iCalF298:=CalF.mk Tryz.call298
@[reducible,instance] def iCalF299:=CalF.mk Tryz.call299
@[reducible,instance] def iCalF300:=CalF.mk Tryz.call300
@[reducible,instance] def iCalF301:=CalF.mk Tryz.call301
@[reducible,instance] def iCalF302:=CalF.mk Tryz.call302
@[reducible,instance] def iCalF303:=CalF.mk Tryz.call303
@[reducible,instance] def iCalF304:=CalF.mk Tryz.call304
@[reducible,instance] def iCalF305:=CalF.mk Tryz.call305
@[reducible,instance] def iCalF306:=CalF.mk Tryz.call306
@[reducible,instance] def iCalF307:=CalF.mk Tryz.call307
@[reducible,instance] def iCalF308:=CalF.mk Tryz.call308
@[reducible,instance] def iCalF309:=CalF.mk Tryz.call309
@[reducible,instance] def iCalF310:=CalF.mk Tryz.call310
@[reducible,instance] def iCalF311:=CalF.mk Tryz.call311
@[reducible,instance] def iCalF312:=CalF.mk Tryz.call312
@[reducible,instance] def iCalF313:=CalF.mk Tryz.call313
@[reducible,instance] def iCalF314:=CalF.mk Tryz.call314
@[reducible,instance] def iCalF315:=CalF.mk Tryz.call315
instance:EncT Tryz.prog 232 1 Mw:=⟨pU⟩
instance:EncE 1 Mw:=⟨_,_,pU⟩
instance:EncT Tryz.prog 5 1 Zi7:=⟨pB⟩
instance:EncE 1 Zi7:=⟨_,_,pB⟩
instance:EncT Tryz.prog 3 1 Kt:=⟨pN⟩
instance:EncE 1 Kt:=⟨_,_,pN⟩
instance:EncT Tryz.prog 3 1 Yl:=⟨pZ⟩
instance:EncE 1 Yl:=⟨_,_,pZ⟩
instance:EncT Tryz.prog 80 2 Zxi:=⟨pW⟩
instance:EncE 2 Zxi:=⟨_,_,pW⟩
instance:EncT Tryz.prog 80 2 wv:=⟨pV⟩
instance:EncE 2 wv:=⟨_,_,pV⟩
instance:EncT Tryz.prog 89 2 Mi:=⟨pI⟩
instance:EncE 2 Mi:=⟨_,_,pI⟩
instance {α:Type} : EncT Tryz.prog 40 1 (Nf (α:=α)):=⟨pS⟩
instance {α:Type} : EncE 1 (Nf (α:=α)):=⟨_,_,pS⟩
instance:EncT Tryz.prog 276 8 iq:=⟨pY⟩
instance:EncE 8 iq:=⟨_,_,pY⟩
instance:EncT Tryz.prog 82 4 rq:=⟨pQ⟩
instance:EncE 4 rq:=⟨_,_,pQ⟩
instance:EncT Tryz.prog 82 4 encQ:=⟨pR⟩
instance:EncE 4 encQ:=⟨_,_,pR⟩
@[reducible,instance] def iUnd23:=Und.mk Tryz.underlying23
@[reducible,instance] def iUnd25:=Und.mk Tryz.underlying25
@[reducible,instance] def iUnd35:=Und.mk Tryz.underlying35
@[reducible,instance] def iUnd38:=Und.mk Tryz.underlying38
@[reducible,instance] def iUnd46:=Und.mk Tryz.underlying46
@[reducible,instance] def iUnd50:=Und.mk Tryz.underlying50
@[reducible,instance] def iUnd61:=Und.mk Tryz.underlying61
@[reducible,instance] def iUnd130:=Und.mk Tryz.underlying130
@[reducible,instance] def iUnd135:=Und.mk Tryz.underlying135
@[reducible,instance] def iUnd140:=Und.mk Tryz.underlying140
@[reducible,instance] def iUnd166:=Und.mk Tryz.underlying166
@[reducible,instance] def iUnd182:=Und.mk Tryz.underlying182
@[reducible,instance] def iUnd186:=Und.mk Tryz.underlying186
@[reducible,instance] def iUnd189:=Und.mk Tryz.underlying189
@[reducible,instance] def iUnd190:=Und.mk Tryz.underlying190
@[reducible,instance] def iUnd193:=Und.mk Tryz.underlying193
@[reducible,instance] def iUnd210:=Und.mk Tryz.underlying210
@[reducible,instance] def iUnd242:=Und.mk Tryz.underlying242
@[reducible,instance] def iUnd243:=Und.mk Tryz.underlying243
@[reducible,instance] def iUnd331:=Und.mk Tryz.underlying331
@[reducible,instance] def iSiz23:=Siz.mk Tryz.sizeOf23
@[reducible,instance] def iSiz25:=Siz.mk Tryz.sizeOf25
@[reducible,instance] def iSiz35:=Siz.mk Tryz.sizeOf35
@[reducible,instance] def iSiz38:=Siz.mk Tryz.sizeOf38
@[reducible,instance] def iSiz46:=Siz.mk Tryz.sizeOf46
@[reducible,instance] def iSiz64:=Siz.mk Tryz.sizeOf64
@[reducible,instance] def iSiz130:=Siz.mk Tryz.sizeOf130
@[reducible,instance] def iSiz135:=Siz.mk Tryz.sizeOf135
@[reducible,instance] def iSiz162:=Siz.mk Tryz.sizeOf162
@[reducible,instance] def iSiz182:=Siz.mk Tryz.sizeOf182
@[reducible,instance] def iSiz189:=Siz.mk Tryz.sizeOf189
@[reducible,instance] def iSiz210:=Siz.mk Tryz.sizeOf210
@[reducible,instance] def iSiz242:=Siz.mk Tryz.sizeOf242
@[reducible,instance] def iSiz243:=Siz.mk Tryz.sizeOf243
@[reducible,instance] def iSiz330:=Siz.mk Tryz.sizeOf330
@[reducible,instance] def iAgg3:=Agg.mk Tryz.isAgg3
@[reducible,instance] def iAgg23:=Agg.mk Tryz.isAgg23
@[reducible,instance] def iAgg25:=Agg.mk Tryz.isAgg25
@[reducible,instance] def iAgg35:=Agg.mk Tryz.isAgg35
@[reducible,instance] def iAgg38:=Agg.mk Tryz.isAgg38
@[reducible,instance] def iAgg40:=Agg.mk Tryz.isAgg40
@[reducible,instance] def iAgg46:=Agg.mk Tryz.isAgg46
@[reducible,instance] def iAgg64:=Agg.mk Tryz.isAgg64
@[reducible,instance] def iAgg130:=Agg.mk Tryz.isAgg130
@[reducible,instance] def iAgg135:=Agg.mk Tryz.isAgg135
@[reducible,instance] def iAgg162:=Agg.mk Tryz.isAgg162
@[reducible,instance] def iAgg182:=Agg.mk Tryz.isAgg182
@[reducible,instance] def iAgg189:=Agg.mk Tryz.isAgg189
@[reducible,instance] def iAgg210:=Agg.mk Tryz.isAgg210
@[reducible,instance] def iAgg243:=Agg.mk Tryz.isAgg243
@[reducible,instance] def iAgg330:=Agg.mk Tryz.isAgg330
@[reducible,instance] def iZer3:=Zer.mk Tryz.zeroValue3
@[reducible,instance] def iZer23:=Zer.mk Tryz.zeroValue23
@[reducible,instance] def iZer25:=Zer.mk Tryz.zeroValue25
@[reducible,instance] def iZer26:=Zer.mk Tryz.zeroValue26
@[reducible,instance] def iZer35:=Zer.mk Tryz.zeroValue35
@[reducible,instance] def iZer38:=Zer.mk Tryz.zeroValue38
@[reducible,instance] def iZer64:=Zer.mk Tryz.zeroValue64
@[reducible,instance] def iZer130:=Zer.mk Tryz.zeroValue130
@[reducible,instance] def iZer135:=Zer.mk Tryz.zeroValue135
@[reducible,instance] def iZer162:=Zer.mk Tryz.zeroValue162
@[reducible,instance] def iZer166:=Zer.mk Tryz.zeroValue166
@[reducible,instance] def iZer182:=Zer.mk Tryz.zeroValue182
@[reducible,instance] def iZer189:=Zer.mk Tryz.zeroValue189
@[reducible,instance] def iZer210:=Zer.mk Tryz.zeroValue210
@[reducible,instance] def iZer243:=Zer.mk Tryz.zeroValue243
@[reducible,instance] def iCalF14:=CalF.mk Tryz.call14
@[reducible,instance] def iCalF15:=CalF.mk Tryz.call15
@[reducible,instance] def iCalF16:=CalF.mk Tryz.call16
@[reducible,instance] def iCalF17:=CalF.mk Tryz.call17
@[reducible,instance] def iCalF18:=CalF.mk Tryz.call18
@[reducible,instance] def iCalF19:=CalF.mk Tryz.call19
@[reducible,instance] def iCalF20:=CalF.mk Tryz.call20
@[reducible,instance] def iCalF21:=CalF.mk Tryz.call21
@[reducible,instance] def iCalF22:=CalF.mk Tryz.call22
@[reducible,instance] def iCalF23:=CalF.mk Tryz.call23
@[reducible,instance] def iCalF24:=CalF.mk Tryz.call24
@[reducible,instance] def iCalF25:=CalF.mk Tryz.call25
@[reducible,instance] def iCalF26:=CalF.mk Tryz.call26
@[reducible,instance] def iCalF27:=CalF.mk Tryz.call27
@[reducible,instance] def iCalF28:=CalF.mk Tryz.call28
@[reducible,instance] def iCalF29:=CalF.mk Tryz.call29
@[reducible,instance] def iCalF30:=CalF.mk Tryz.call30
@[reducible,instance] def iCalF31:=CalF.mk Tryz.call31
@[reducible,instance] def iCalF32:=CalF.mk Tryz.call32
@[reducible,instance] def iCalF33:=CalF.mk Tryz.call33
@[reducible,instance] def iCalF34:=CalF.mk Tryz.call34
@[reducible,instance] def iCalF35:=CalF.mk Tryz.call35
@[reducible,instance] def iCalF53:=CalF.mk Tryz.call53
@[reducible,instance] def iCalF54:=CalF.mk Tryz.call54
@[reducible,instance] def iCalF61:=CalF.mk Tryz.call61
@[reducible,instance] def iCalF62:=CalF.mk Tryz.call62
@[reducible,instance] def iCalF63:=CalF.mk Tryz.call63
@[reducible,instance] def iCalF64:=CalF.mk Tryz.call64
@[reducible,instance] def iCalF65:=CalF.mk Tryz.call65
@[reducible,instance] def iCalF66:=CalF.mk Tryz.call66
@[reducible,instance] def iCalF68:=CalF.mk Tryz.call68
@[reducible,instance] def iCalF71:=CalF.mk Tryz.call71
@[reducible,instance] def iCalF73:=CalF.mk Tryz.call73
@[reducible,instance] def iCalF74:=CalF.mk Tryz.call74
@[reducible,instance] def iCalF75:=CalF.mk Tryz.call75
@[reducible,instance] def iCalF77:=CalF.mk Tryz.call77
@[reducible,instance] def iCalF80:=CalF.mk Tryz.call80
@[reducible,instance] def iCalF83:=CalF.mk Tryz.call83
@[reducible,instance] def iCalF84:=CalF.mk Tryz.call84
@[reducible,instance] def iCalF85:=CalF.mk Tryz.call85
@[reducible,instance] def iCalF86:=CalF.mk Tryz.call86
@[reducible,instance] def iCalF87:=CalF.mk Tryz.call87
@[reducible,instance] def iCalF88:=CalF.mk Tryz.call88
@[reducible,instance] def iCalF89:=CalF.mk Tryz.call89
@[reducible,instance] def iCalF113:=CalF.mk Tryz.call113
@[reducible,instance] def iCalF114:=CalF.mk Tryz.call114
@[reducible,instance] def iCalF115:=CalF.mk Tryz.call115
@[reducible,instance] def iCalF121:=CalF.mk Tryz.call121
@[reducible,instance] def iCalF124:=CalF.mk Tryz.call124
@[reducible,instance] def iCalF125:=CalF.mk Tryz.call125
@[reducible,instance] def iCalF132:=CalF.mk Tryz.call132
@[reducible,instance] def iCalF133:=CalF.mk Tryz.call133
@[reducible,instance] def iCalF134:=CalF.mk Tryz.call134
@[reducible,instance] def iCalF137:=CalF.mk Tryz.call137
@[reducible,instance] def iCalF139:=CalF.mk Tryz.call139
@[reducible,instance] def iCalF141:=CalF.mk Tryz.call141
@[reducible,instance] def iCalF142:=CalF.mk Tryz.call142
@[reducible,instance] def iCalF145:=CalF.mk Tryz.call145
@[reducible,instance] def iCalF150:=CalF.mk Tryz.call150
@[reducible,instance] def iCalF151:=CalF.mk Tryz.call151
@[reducible,instance] def iCalF152:=CalF.mk Tryz.call152
@[reducible,instance] def iCalF153:=CalF.mk Tryz.call153
@[reducible,instance] def iCalF154:=CalF.mk Tryz.call154
@[reducible,instance] def iCalF155:=CalF.mk Tryz.call155
@[reducible,instance] def iCalF156:=CalF.mk Tryz.call156
@[reducible,instance] def iCalF157:=CalF.mk Tryz.call157
@[reducible,instance] def iCalF158:=CalF.mk Tryz.call158
@[reducible,instance] def iCalF159:=CalF.mk Tryz.call159
@[reducible,instance] def iCalF163:=CalF.mk Tryz.call163
@[reducible,instance] def iCalF168:=CalF.mk Tryz.call168
@[reducible,instance] def iCalF177:=CalF.mk Tryz.call177
@[reducible,instance] def iCalF181:=CalF.mk Tryz.call181
@[reducible,instance] def iCalF185:=CalF.mk Tryz.call185
@[reducible,instance] def iCalF186:=CalF.mk Tryz.call186
@[reducible,instance] def iCalF187:=CalF.mk Tryz.call187
@[reducible,instance] def iCalF199:=CalF.mk Tryz.call199
@[reducible,instance] def iCalF203:=CalF.mk Tryz.call203
@[reducible,instance] def iCalF204:=CalF.mk Tryz.call204
@[reducible,instance] def iCalF205:=CalF.mk Tryz.call205
@[reducible,instance] def iCalF206:=CalF.mk Tryz.call206
@[reducible,instance] def iCalF207:=CalF.mk Tryz.call207
@[reducible,instance] def iCalF208:=CalF.mk Tryz.call208
@[reducible,instance] def iCalF227:=CalF.mk Tryz.call227
@[reducible,instance] def iCalF229:=CalF.mk Tryz.call229
@[reducible,instance] def iCalF230:=CalF.mk Tryz.call230
@[reducible,instance] def iCalF231:=CalF.mk Tryz.call231
@[reducible,instance] def iCalF241:=CalF.mk Tryz.call241
@[reducible,instance] def iCalF247:=CalF.mk Tryz.call247
@[reducible,instance] def iCalF252:=CalF.mk Tryz.call252
@[reducible,instance] def iCalF253:=CalF.mk Tryz.call253
@[reducible,instance] def iCalF271:=CalF.mk Tryz.call271
@[reducible,instance] def iCalF278:=CalF.mk Tryz.call278
@[reducible,instance] def iCalF279:=CalF.mk Tryz.call279
end Go.Sky

