/- Rules, arithmetic and contracts: part 11. No conditions but those that each theorem names. -/
import Derived.Test.YtoaklaecgjlfoaaTm09
import Derived.MapKept
set_option linter.all false
namespace Go.Sky
def spd(o:Nat)(x y z:List Int)(u:Rat):Rat:=Za (refS o x y z 3) u
def lstB(o:Nat)(ps:List Zk):Nat:=Zli (λn=>Zjb o ps (n:Int)) 14 0 10000
def lsV(o:Nat)(ps:List Zk):Nat:=if Zjb o ps 10000 then lstB o ps else 0
def dR(o:Nat)(c:List Int)(u:Rat):Rat:=Za (dN o (tzl c)) u
def Prt.num{q g:Zk}{G:Int}(h:Prt q g G):∃v s:Rat,0<=v/\0<s/\v+s<=1/\s*((g.1.2.1-g.1.1:Int):Rat)=((q.1.2.1-q.1.1:Int):Rat)/\v*((g.1.2.1-g.1.1:Int):Rat)=((q.1.1-g.1.1:Int):Rat)/\(0:Rat)<((g.1.2.1-g.1.1:Int):Rat)/\
  ∀i (u:Rat),Za (Xh i q.2.1.2 q.2.2.1.2 q.2.2.2.2) u*(G:Rat)=((g.1.2.1-g.1.1:Int):Rat)^5*Za (Xh i g.2.1.2 g.2.2.1.2 g.2.2.2.2) (v+s*u):=by
 have k:=h.a0;have l:=h.b0;have m:=h.ab;have r:=h.x;generalize g.1.2.1-g.1.1=d at *;generalize q.1.2.1-q.1.1=b at *;generalize q.1.1-g.1.1=a at *;have f:(0:Rat)<(d:Rat):=by exact_mod_cast (show 0<d by omega)
 have n:(0:Rat)<=(a:Rat):=by exact_mod_cast k
 have p:(0:Rat)<(b:Rat):=by exact_mod_cast l
 have o:(a:Rat)+(b:Rat)<=(d:Rat):=by exact_mod_cast m
 have hi:0<(d:Rat)⁻¹:=dW.2 f;have c:(a:Rat)/d*d=a:=kS O2;have e:(b:Rat)/d*d=b:=kS O2;refine⟨(a:Rat)/d,(b:Rat)/d,?_,?_,?_,e,c,f,λi u=>r i _ u (by
  have j:(b:Rat)/d*u*d=((b:Rat)/d*d)*u:=by rw [gR,jF u,<-gR]
  rw [Rat.add_mul,c,j,e])⟩
 .rw [fO];exact aC n (bQ hi)
 .rw [fO];exact aN p hi
 .have:((a:Rat)/d+b/d)*d<=1*d:=by rw [Rat.add_mul,c,e];grind
  exact Rat.le_of_mul_le_mul_right this f
def inn(fr a:Int)(ps:List Zk):List Int:=(ps.filter λg=>decide (fr<g.1.1) && decide (g.1.1<a)).map λg=>g.1.1
def cmF(a b:List Zk):Int:=max (spF a) (spF b)
def cmL(a b:List Zk):Int:=min (spL a) (spL b)
def tmsI(a b:List Zk)(i:Nat):List Int:=cmF a b::cmL a b::((if 1<=i then inn (cmF a b) (cmL a b) a else []) ++ (if 2<=i then inn (cmF a b) (cmL a b) b else []))
def brk(a b:List Zk):List Int:=srtU (tmsI a b 2)
def sel2{α:Type _}(i:Nat)(a b:α):α:=if i=0 then a else b
structure Bks (a b:List Zk):Prop where
 two:2<=(brk a b).length
 hd:(brk a b).getD 0 0=cmF a b
 ls:(brk a b).getD ((brk a b).length-1) 0=cmL a b
 lt:∀k,k+1<(brk a b).length->cmF a b<=(brk a b).getD k 0/\(brk a b).getD k 0<(brk a b).getD (k+1) 0/\(brk a b).getD (k+1) 0<=cmL a b
 no:∀k,k+1<(brk a b).length->∀g,g∈a\/g∈b->¬((brk a b).getD k 0<g.1.1/\g.1.1<(brk a b).getD (k+1) 0)
def comN(ts:List Int)(ps:List Zk):Nat->List Zcd
 | 0=>[]
 | n+1=>comN ts ps n ++ cutR (ts.getD n 0) (ts.getD (n+1) 0) ps
def comKn(ts:List Int)(a b:List Zk):Nat->Bool
 | 0=>true
 | n+1=>comKn ts a b n && (Zb2 (ts.getD n 0) (ts.getD (n+1) 0) a && Zb2 (ts.getD n 0) (ts.getD (n+1) 0) b)
def comK(a b:List Zk):Bool:=comKn (brk a b) a b ((brk a b).length-1)
def comE(a b:List Zk):Int:=if cmF a b>=cmL a b then 9 else if comK a b then 0 else 7
def Znb(a b ps:List Zk):List Zcd:=if comE a b=0 then comN (brk a b) ps ((brk a b).length-1)else []
def tik(a b:List Zk)(i k:Nat):List Int:=tmsI a b i ++ inn (cmF a b) (cmL a b) ((sel2 i a b).take k)
section
variable {P:Program} {N:Nat} {sc:Nat->Prop} {env:Yd} {H:Hp}
end
end Go.Sky
namespace Go.Sky
variable{c p:List Int}
section
variable {P:Program} {N:Nat} {sc:Nat->Prop} {env:Yd} {H:Hp}
end
def KA:Nat:=360287970189639680
theorem AxC.ka{a:Int}(h:AxC c a)(b:1<=a)(d:a<=4294967296):Ab KA (tzl c):=λk=>by have:=h.cg k;rw [Py];unfold KA;omega
def BG:Nat:=2^250*2^250
theorem bl_two{a b x:Nat}(h:x<2^a*2^b):bl x<=a+b:=(Oo (a+b) x).2 (by rw [eO];exact h)
def bl_bg{x:Nat}(h:x<BG):bl x<=500:=bl_two (a:=250) (b:=250) h
def Ab.sg{M:Nat}(h:Ab M p)(a:M<BG):Sz 500 p:=λi=>bl_bg (fE (h i) a)
def dfP(p q:List Int)(a b:Int):List Int:=Fh (Ya (tzl p) b) (Ya (tzl q) a)
def dfK(p q:List Int)(a b k:Int):List Int:=Ya (dfP p q a b) k
def sqK(p q:List Int)(a b k:Int):List Int:=Yj (dfK p q a b k) (dfK p q a b k)
def sqP(p q:List Int)(a b:Int):List Int:=Yj (dfP p q a b) (dfP p q a b)
def KD:Nat:=KA*4294967296+KA*4294967296
structure FmX (p q:List Int) (a b k:Int):Prop where
 v1:Vp (tzl p)
 v2:Vp (tzl q)
 b1:bl b.natAbs<=65536
 a1:bl a.natAbs<=65536
 k1:bl k.natAbs<=65536
 s1:∀i,bl (cf (tzl p) i*b).natAbs<=65536
 s2:∀i,bl (cf (tzl q) i*a).natAbs<=65536
 v3:Vp (Ya (tzl p) b)
 v4:Vp (Ya (tzl q) a)
 s3:∀i,bl (cf (Ya (tzl p) b) i-cf (Ya (tzl q) a) i).natAbs<=65536
 v5:Vp (dfP p q a b)
 s4:∀i,bl (cf (dfP p q a b) i*k).natAbs<=65536
 v6:Vp (dfK p q a b k)
 m6:¬Ci (dfK p q a b k) (dfK p q a b k)
 v7:Vp (sqK p q a b k)
 ab:Ab (6*((KD*100)*(KD*100))) (sqK p q a b k)
 l:(sqK p q a b k).length<=11
 m5:¬Ci (dfP p q a b) (dfP p q a b)
 v8:Vp (sqP p q a b)
 ab8:Ab (6*((KD*100)*(KD*100))) (sqP p q a b)
 l8:(sqP p q a b).length<=11
def ngC(a:List Int):Nat->List Int
 | 0=>[-1]
 | i+1=>Ya (Ya (ngC a i) (a.getD i 0)) (a.getD i 0)
def sqN(a:List Int):Nat->Nat
 | 0=>1
 | i+1=>sqN a i*(a.getD i 0).natAbs*(a.getD i 0).natAbs
structure NgX (ns:List Int) (i:Nat):Prop where
 b:bl (ns.getD i 0).natAbs<=65536
 inn:Ir (ns.getD i 0)
 v:Vp (ngC ns i)
 s:∀k,bl (cf (ngC ns i) k*ns.getD i 0).natAbs<=65536
 v2:Vp (Ya (ngC ns i) (ns.getD i 0))
 s2:∀k,bl (cf (Ya (ngC ns i) (ns.getD i 0)) k*ns.getD i 0).natAbs<=65536
def smP(c:List Int)(f:Nat->List Int):Nat->List Int
 | 0=>c
 | i+1=>Dw (smP c f i) (f i)
structure SmX (c:List Int) (f:Nat->List Int):Prop where
 v:∀i,i<=3->Vp (smP c f i)
 s:∀i,i<3->∀k,bl (cf (smP c f i) k+cf (f i) k).natAbs<=65536
 d:Cvd (Zq (smP c f 3))
end Go.Sky
namespace Go.Sky
def Zbt(m:Int)(l:List Int):Bool:=l.all λx=>decide (-m<=x) && decide (x<=m)
def insB_t{m:Int}{l:List Int}(h:∀i,i<l.length->-m<=l.getD i 0/\l.getD i 0<=m):Zbt m l=true:=dG.2 λx d=>by obtain⟨k,c,rfl⟩:=Zi2.1 d;obtain⟨a,b⟩:=h k c;rw [aQ a,aQ b];rfl
def Zjf (i:Nat){m:Int}{l:List Int}(hi:i<l.length)(h:¬(-m<=l.getD i 0/\l.getD i 0<=m)):Zbt m l=false:=by
 cases hb:Zbt m l with
 | false=>rfl
 | true=>
  have:=dG.1 hb _ (Ym _ (d:=0) hi);rw [bH]at this;exact absurd ⟨bB this.1,bB this.2⟩ h
def ptB(x y z:Int):Bool:=Zbt 1048576 [x,y,z]
def pt_b{x y z:Int}(h:ptB x y z=true):(-1048576<=x/\x<=1048576)/\(-1048576<=y/\y<=1048576)/\(-1048576<=z/\z<=1048576):=by unfold ptB Zbt at h;simp only [kK,List.all_nil,Bool.and_true,bH,cD]at h;exact h
def znB(D n d:Int):Bool:=decide (1<=D/\D<=4194304/\1<=n/\n<=d/\d<=100)
def ptsB(b c e f a g D n d:Int):Bool:=decide (D*d*(D*d)<=(b-f)*d*((b-f)*d)+(c-a)*d*((c-a)*d)+(e-g)*n*((e-g)*n))
def fqZ(n d b a:Int)(x y z c e f:List Int)(i:Nat):List Int:=sqK (Xh i x y z) (Xh i c e f) b a (Xh i d d n)
def cnZ(D d b a:Int):List Int:=ngC [D,d,b,a] 4
def smZ(D n d b a:Int)(x y z c e f:List Int)(i:Nat):List Int:=smP (cnZ D d b a) (fqZ n d b a x y z c e f) i
def fmZ(D n d b a:Int)(x y z c e f:List Int):List Int:=Zq (smZ D n d b a x y z c e f 3)
structure FzX (D n d ov ov2:Int) (x y z x2 y2 z2:List Int):Prop where
 X:∀i,FmX (Xh i x y z) (Xh i x2 y2 z2) ov ov2 (Xh i d d n)
 K:∀i,Ir (Xh i d d n)
 N:∀i,i<=4->NgX [D,d,ov,ov2] i
 Q:SmX (cnZ D d ov ov2) (fqZ n d ov ov2 x y z x2 y2 z2)
abbrev GpT:=(Int×Int)×(SL×List Int)
abbrev encGp (g:GpT):Value:= .agg #[.int .i64 g.1.1,.int .i64 g.1.2,Qu g.2.1]
abbrev qGp (g:GpT):Pc:=Ou 2 wv (Qu g.2.1) g.2.2
abbrev Gp0:GpT:=((0,0),((none,0,0),[]))
abbrev GpU:=Int×Int×List Int
def unP(g:GpT):GpU:=(g.1.1,g.1.2,g.2.2)
def gpZ(D n d:Int)(g h:Zcd):GpU:=(g.1.1,g.1.2.1,fmZ D n d g.1.2.2 h.1.2.2 g.2.1 g.2.2.1 g.2.2.2 h.2.1 h.2.2.1 h.2.2.2)
def Zde(D n d:Int)(a b:List Zk):List GpU:=List.zipWith (gpZ D n d) (Znb a b a) (Znb a b b)
def Av(a b:List Zk):Int:=if comE a b=9 then 0 else comE a b
def gpY(q:Zk)(g:SL×List Int):GpT:=((q.1.1,q.1.2.1),g)
def fstP(l:List GpU):Option GpU:=l.find? λg=>Zg2 g.2.2
def Zjl(l:List GpU):Int×Int×Bool:=match fstP l with
 | some g=>(g.1,g.2.1,true)
 | none=>(0,0,false)
def mkS(u:Zcd):Zk:=(u.1,((none,0,0),u.2.1),((none,0,0),u.2.2.1),((none,0,0),u.2.2.2))
def apZ(D n d:Int)(a b:List Zk):Bool:=decide (Av a b=0) && !(Zjl (Zde D n d a b)).2.2
def tmL(a b k:Int):List Int:=if b-a=0\/k=2 then [a]else if k=1 then [a,b-a]else [a,0,0,10*(b-a),-15*(b-a),6*(b-a)]
def lineG(k:Int)(s:SL×SL×SL):Zk:=((0,1000,1),(s.1,tmL 0 300 k),(s.2.1,tmL 0 400 k),(s.2.2,tmL 0 0 k))
def stayG(s:SL×SL×SL):Zk:=((1000,2000,1),(s.1,tmL 0 0 2),(s.2.1,tmL 0 0 2),(s.2.2,tmL 0 0 2))
def litb(l:List Int):Bool:=(l.all λx=>decide (-1000000<=x) && decide (x<=1000000)) && (decide (tzl l=l) && decide (l.length<=25))
instance eokDec:∀f a b,Decidable (eok f a b)
 | 0,_,b=>inferInstanceAs (Decidable (b=[]))
 | f+1,a,b=>@instDecidableOr _ _ _ (@instDecidableAnd _ _ _ (eokDec f b (Zq (Yn a b))))
def legZ(b c d e a f k:Int)(s:SL×SL×SL):Zk:=((0,1000,1),(s.1,tmL b e k),(s.2.1,tmL c a k),(s.2.2,tmL d f k))
abbrev TzT:=SL×List (Int×SL)
def sqF(b a:Int)(x y z c d e:List Int)(i:Nat):List Int:=sqP (Xh i x y z) (Xh i c d e) b a
def sqR(b a:Int)(x y z c d e:List Int):Nat->List (List Int)
 | 0=>[]
 | i+1=>sqR b a x y z c d e i ++ [sqF b a x y z c d e i]
def ovW(b a:Int):Int:=b*a*(b*a)
def rfL(g f b a:Int)(x y z c d e:List Int):List Int:=Dw (Ya (Dw (sqF b a x y z c d e 0) (sqF b a x y z c d e 1)) (f*f)) (Ya (sqF b a x y z c d e 2) (g*g))
def rfW(b c d a:Int):Int:=b*b*(c*c)*ovW d a
def rfZ(g h c b a:Int)(x y z d e f:List Int):List Int:=Fh (rfL h c b a x y z d e f) (tzl [rfW g c b a])
structure RfX (zd zn ze ov ov2:Int) (x y z x2 y2 z2:List Int):Prop where
 v0:∀i,Vp (sqF ov ov2 x y z x2 y2 z2 i)
 v1:Vp (Dw (sqF ov ov2 x y z x2 y2 z2 0) (sqF ov ov2 x y z x2 y2 z2 1))
 v2:Vp (Ya (Dw (sqF ov ov2 x y z x2 y2 z2 0) (sqF ov ov2 x y z x2 y2 z2 1)) (ze*ze))
 v3:Vp (Ya (sqF ov ov2 x y z x2 y2 z2 2) (zn*zn))
 v4:Vp (rfL zn ze ov ov2 x y z x2 y2 z2)
 v5:Vp (tzl [rfW zd ze ov ov2])
 v6:Vp (rfZ zd zn ze ov ov2 x y z x2 y2 z2)
 wb:bl (rfW zd ze ov ov2).natAbs<=1000000
 ob:bl (ov*ov2).natAbs<=1000
 oW:bl (ovW ov ov2).natAbs<=1000
 eb:bl (ze*ze).natAbs<=1000
 nb:bl (zn*zn).natAbs<=1000
 db:bl (zd*zd).natAbs<=1000
 xb:bl (zd*zd*(ze*ze)).natAbs<=1000
def tpI(n k:Nat):Nat:=n/1000000000^k
def gcR(o:Int)(X Y Z:List Int):Nat->Int
 | 0=>o
 | i+1=>(Int.gcd (gcR o X Y Z i) (Zx (Xh i X Y Z)):Int)
structure Row3 (ws:List TzT) (X Y Z:List Int):Prop where
 l:ws.length=3
 e:∀i,i<3->ints (ws.getD i T0).2=Xh i X Y Z
def segY(fr a:Int)(g:Zk)(r:SL×SL×SL):Zk:=((cA fr g,cB a g,cO g/cG fr a g),(r.1,dvL (cX fr a g g.2.1.2) (cG fr a g)),(r.2.1,dvL (cX fr a g g.2.2.1.2) (cG fr a g)),(r.2.2,dvL (cX fr a g g.2.2.2.2) (cG fr a g)))
def nxF(t c:Int)(ps:List Zk):Nat->Int
 | 0=>c
 | i+1=>if t<(ps.getD i G0).1.1 then min (nxF t c ps i) (ps.getD i G0).1.1 else nxF t c ps i
def bdI:List GpU->Int
 | []=>-1
 | g::l=>if Zg2 g.2.2 then 0 else if bdI l<0 then -1 else bdI l+1
open Go Go.MapKept
variable {P:Program} {N:Nat} {sc:Nat->Prop} {env env':Yd} {H H':Hp} {Q Q':Exit->Act->World->Prop} {M:Nat->Prop}
abbrev PT:=SL×List Zk
abbrev PT0:PT:=((none,0,0),[])
abbrev encP (x:PT):Value:=Qu x.1
abbrev qP (x:PT):Pc:=Nd 6 Zmw qG (Qu x.1) x.2
def mpc(b:Nat)(a:Array MapEntry)(n:Nat):Pc:=
 {own:=true,fp:=λk=>k=b,holds:=λw=>w.heap[b]? = some (.map a n)
  lt:=λw k h d=>by subst d;exact(aL.1 h).1
  stable:=λw f h c=>by rw [<-h];exact c.block b (aL.1 h).1 (λe=>e rfl) }
def fewsB(m k:Nat)(a:List PT):Bool:=decide (a.length<=m) && a.all λx=>fewB x.2 k
def valsB(a:List PT):Bool:=a.all λx=>Nt x.2
abbrev ClT:=(Int×Int×Int×Int)×Bool×Int
abbrev clE (r:ClT):Value:= .tuple #[.agg #[.int .i64 r.1.1,.int .i64 r.1.2.1,.int .i64 r.1.2.2.1,.int .i64 r.1.2.2.2],.bool r.2.1,.int .i64 r.2.2]
def pth(ps:List PT)(i:Nat):List Zk:=(ps.getD i PT0).2
def clV(D n d:Int)(ps:List PT)(i k:Nat):ClT:=
 (if(Zjl (Zde D n d (pth ps i) (pth ps k))).2.2=true then((i:Int),(k:Int),(Zjl (Zde D n d (pth ps i) (pth ps k))).1,(Zjl (Zde D n d (pth ps i) (pth ps k))).2.1)else(0,0,0,0),(Zjl (Zde D n d (pth ps i) (pth ps k))).2.2,Av (pth ps i) (pth ps k))
def ClA(D n d:Int)(ps:List PT)(i:Nat):Prop:=∀j k,j<k->k<ps.length->j<i->apZ D n d (pth ps j) (pth ps k)=true
def ClB(D n d:Int)(ps:List PT)(i m:Nat):Prop:=∀k,i<k->k<m->apZ D n d (pth ps i) (pth ps k)=true
def ClR(D n d:Int)(ps:List PT)(r:ClT):Prop:=
 (r=((0,0,0,0),false,0)/\ClA D n d ps ps.length)\/∃i k,i<k/\k<ps.length/\ClA D n d ps i/\ClB D n d ps i k/\apZ D n d (pth ps i) (pth ps k)=false/\r=clV D n d ps i k
end Go.Sky
namespace Go.Sky
open Go Go.MapKept
variable {P:Program} {N:Nat} {sc:Nat->Prop} {env env':Yd} {H H':Hp} {Q Q':Exit->Act->World->Prop} {M:Nat->Prop}
def mpe(a:Array MapEntry)(b:List (Int×Value)):Prop:=a.toList.map (λe=>(e.key,e.val))=b.map λp=>(Value.int .i64 p.1,p.2)
def mpi(b:Nat)(d:List (Int×Value)):Pc:=
 {own:=true,fp:=λk=>k=b,holds:=λw=>∃a n,w.heap[b]? = some (.map a n)/\mpe a d
  lt:=λw k h g=>by subst g;obtain⟨_,_,h,_⟩:=h;exact(aL.1 h).1
  stable:=λw j h f=>by obtain⟨a,n,c,e⟩:=h;exact⟨a,n,(f.block b (aL.1 c).1 (λi=>i rfl)).trans c,e⟩ }
def mfi:List (Int×Value)->Int->Nat->Option (Nat×Value)
 | [],_,_=>none
 | (a,v)::r,k,i=>if k=a then some (i,v)else mfi r k (i+1)
end Go.Sky
namespace Go.Sky
def Zld(a b:Int)(c:List Int):List Int:=a::(if a=b then []else c.map λf=>f*(b-a))
abbrev glRow:List Int:=[0,0,10,-15,6]
def glC(a b:Int):List Int:=Zld a b glRow
abbrev d2V (a b c e d f:Int):Int:=(a-e)*(a-e)+(b-d)*(b-d)+(c-f)*(c-f)
abbrev uNear:Rat:=(1-57735026918962576/100000000000000000)/2
structure GlS (g:Zk) (T ax ay az bx b2 bz:Int):Prop where
 f:g.1.1=0
 t:g.1.2.1=T
 o:g.1.2.2=1
 x:g.2.1.2=glC ax bx
 y:g.2.2.1.2=glC ay b2
 z:g.2.2.2.2=glC az bz
section
variable {g:Zk} {T ax ay az bx b2 bz:Int} (hg:GlS g T ax ay az bx b2 bz) (hT:1<=T/\T<=3600000) (ha:ptB ax ay az=true) (hb:ptB bx b2 bz=true)
include hg hT ha hb
end
end Go.Sky

