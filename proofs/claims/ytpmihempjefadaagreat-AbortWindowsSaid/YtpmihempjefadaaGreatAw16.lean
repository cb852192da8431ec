/- Rules, arithmetic and contracts: part 17. No conditions but those that each theorem names. -/
import Derived.Test.YtpmihempjefadaaGreatAw15
import Derived.MapKept
set_option linter.all false
set_option maxHeartbeats 4000000
namespace Go.Sky
variable{D d:Int}{a b:List Ze}
def tmL(a b k:Int):List Int:=if b-a=0\/k=2 then [a]else if k=1 then [a,b-a]else [a,0,0,10*(b-a),-15*(b-a),6*(b-a)]
def lineG(k:Int)(s:SL×SL×SL):Ze:=((0,1000,1),(s.1,tmL 0 300 k),(s.2.1,tmL 0 400 k),(s.2.2,tmL 0 0 k))
def stayG(s:SL×SL×SL):Ze:=((1000,2000,1),(s.1,tmL 0 0 2),(s.2.1,tmL 0 0 2),(s.2.2,tmL 0 0 2))
theorem Zhe{l:List Int}(h:l.all (λa=>decide (-9223372036854775808<=a/\a<=9223372036854775807))=true):∀a∈l,Mr a:=λa c=>by have:=bF.1 h a c;simp only [cZ]at this;exact this
def legZ(e f g h c i k:Int)(s:SL×SL×SL):Ze:=((0,1000,1),(s.1,tmL e h k),(s.2.1,tmL f c k),(s.2.2,tmL g i k))
abbrev TzT:=SL×List (Int×SL)
def sqF(e c:Int)(x y z f g h:List Int)(i:Nat):List Int:=sqP (Ye i x y z) (Ye i f g h) e c
def sqR(e c:Int)(x y z f g h:List Int):Nat->List (List Int)
 | 0=>[]
 | i+1=>sqR e c x y z f g h i ++ [sqF e c x y z f g h i]
def ovW(e c:Int):Int:=e*c*(e*c)
def rfL(j i e c:Int)(x y z f g h:List Int):List Int:=Zcj (Yi (Zcj (sqF e c x y z f g h 0) (sqF e c x y z f g h 1)) (i*i)) (Yi (sqF e c x y z f g h 2) (j*j))
def rfW(e f g c:Int):Int:=e*e*(f*f)*ovW g c
def rfZ(j k f e c:Int)(x y z g h i:List Int):List Int:=Zbl (rfL k f e c x y z g h i) (tzl [rfW j f e c])
structure RfX (zd zn ze ov ov2:Int) (x y z x2 y2 z2:List Int):Prop where
 v0:∀i,Vp (sqF ov ov2 x y z x2 y2 z2 i)
 v1:Vp (Zcj (sqF ov ov2 x y z x2 y2 z2 0) (sqF ov ov2 x y z x2 y2 z2 1))
 v2:Vp (Yi (Zcj (sqF ov ov2 x y z x2 y2 z2 0) (sqF ov ov2 x y z x2 y2 z2 1)) (ze*ze))
 v3:Vp (Yi (sqF ov ov2 x y z x2 y2 z2 2) (zn*zn))
 v4:Vp (rfL zn ze ov ov2 x y z x2 y2 z2)
 v5:Vp (tzl [rfW zd ze ov ov2])
 v6:Vp (rfZ zd zn ze ov ov2 x y z x2 y2 z2)
 wb:bl (rfW zd ze ov ov2).natAbs<=1000000
 ob:bl (ov*ov2).natAbs<=1000
 oW:bl (ovW ov ov2).natAbs<=1000
 eb:bl (ze*ze).natAbs<=1000
 nb:bl (zn*zn).natAbs<=1000
 db:bl (zd*zd).natAbs<=1000
 xb:bl (zd*zd*(ze*ze)).natAbs<=1000
def tpI(n k:Nat):Nat:=n/1000000000^k
def gcR(o:Int)(X Y Z:List Int):Nat->Int
 | 0=>o
 | i+1=>(Int.gcd (gcR o X Y Z i) (Xl (Ye i X Y Z)):Int)
structure Row3 (ws:List TzT) (X Y Z:List Int):Prop where
 l:ws.length=3
 e:∀i,i<3->ints (ws.getD i T0).2=Ye i X Y Z
def segY(fr c:Int)(g:Ze)(r:SL×SL×SL):Ze:=((cA fr g,cB c g,cO g/cG fr c g),(r.1,Cf (cX fr c g g.2.1.2) (cG fr c g)),(r.2.1,Cf (cX fr c g g.2.2.1.2) (cG fr c g)),(r.2.2,Cf (cX fr c g g.2.2.2.2) (cG fr c g)))
def nxF(t c:Int)(ps:List Ze):Nat->Int
 | 0=>c
 | i+1=>if t<(ps.getD i G0).1.1 then min (nxF t c ps i) (ps.getD i G0).1.1 else nxF t c ps i
def bdI:List GpU->Int
 | []=>-1
 | g::l=>if Zd4 g.2.2 then 0 else if bdI l<0 then -1 else bdI l+1
open Go Go.MapKept
variable {P:Program} {N:Nat} {sc:Nat->Prop} {env env':Qj} {H H':Hp} {Q Q':Exit->Act->World->Prop} {M:Nat->Prop}
abbrev PT:=SL×List Ze
abbrev PT0:PT:=((none,0,0),[])
abbrev encP (x:PT):Value:=Xo x.1
abbrev qP (x:PT):Pc:=Qi 6 Pz qG (Xo x.1) x.2
def mpc(b:Nat)(c:Array MapEntry)(n:Nat):Pc:=
 {own:=true,fp:=λk=>k=b,holds:=λw=>w.heap[b]? = some (.map c n)
  lt:=λw k h f=>by subst f;exact(aO.1 h).1
  stable:=λw i h e=>by rw [<-h];exact e.block b (aO.1 h).1 (λg=>g rfl) }
def fewsB(m k:Nat)(c:List PT):Bool:=decide (c.length<=m) && c.all λx=>fewB x.2 k
def valsB(c:List PT):Bool:=c.all λx=>Xt x.2
abbrev ClT:=(Int×Int×Int×Int)×Bool×Int
abbrev clE (r:ClT):Value:= .tuple #[.agg #[.int .i64 r.1.1,.int .i64 r.1.2.1,.int .i64 r.1.2.2.1,.int .i64 r.1.2.2.2],.bool r.2.1,.int .i64 r.2.2]
def pth(ps:List PT)(i:Nat):List Ze:=(ps.getD i PT0).2
def clV(D n d:Int)(ps:List PT)(i k:Nat):ClT:=
 (if(Zig (Gl D n d (pth ps i) (pth ps k))).2.2=true then((i:Int),(k:Int),(Zig (Gl D n d (pth ps i) (pth ps k))).1,(Zig (Gl D n d (pth ps i) (pth ps k))).2.1)else(0,0,0,0),(Zig (Gl D n d (pth ps i) (pth ps k))).2.2,Ec (pth ps i) (pth ps k))
def ClA(D n d:Int)(ps:List PT)(i:Nat):Prop:=∀j k,j<k->k<ps.length->j<i->apZ D n d (pth ps j) (pth ps k)=true
def ClB(D n d:Int)(ps:List PT)(i m:Nat):Prop:=∀k,i<k->k<m->apZ D n d (pth ps i) (pth ps k)=true
def ClR(D n d:Int)(ps:List PT)(r:ClT):Prop:=
 (r=((0,0,0,0),false,0)/\ClA D n d ps ps.length)\/∃i k,i<k/\k<ps.length/\ClA D n d ps i/\ClB D n d ps i k/\apZ D n d (pth ps i) (pth ps k)=false/\r=clV D n d ps i k
theorem ap_no{n:Int}(h:(Zig (Gl D n d a b)).2.2=false)(c:Ec a b=0):apZ D n d a b=true:=by unfold apZ;rw [h,aI c];rfl
theorem ap_is{n:Int}(h:(Zig (Gl D n d a b)).2.2=true):apZ D n d a b=false:=by unfold apZ;rw [h];exact dH _
theorem ap_e{n:Int}(c:Ec a b≠0):apZ D n d a b=false:=by unfold apZ;rw [aK c];rfl
end Go.Sky
namespace Go.Sky
variable{p q x y z x2 y2 z2:List Int}{a b:List Ze}{D ov ov2:Int}{zs:List GpT}{t:TypeId}{kd:IntKind}
theorem Zep(h:Tr p):Yi p 1=p:=by
 unfold Yi;have:p.map (· * (1:Int))=p:=by rw [show(λx:Int=>x*1)=id from oO λx=>iC x,nB]
 rw [this,Zah h]
def dk_one{a b:Int} : dfK p q a b 1=dfP p q a b:=Zep (Qq _)
theorem Yj4{a b:Int} : sqK p q a b 1=sqP p q a b:=by unfold sqK sqP;rw [dk_one]
theorem ng_one(D ov ov2:Int):ngC [D,1,ov,ov2] 4=ngC [D,ov,ov2] 3:=by
 have c:ngC [D,1,ov,ov2] 1=ngC [D,ov,ov2] 1:=rfl;have t1:Tr (ngC [D,ov,ov2] 1):=(Zo1 _ 1).2.2;have d:ngC [D,1,ov,ov2] 2=ngC [D,ov,ov2] 1:=by show Yi (Yi (ngC [D,1,ov,ov2] 1) 1) 1=_;rw [c,Zep t1,Zep t1]
 have e:ngC [D,1,ov,ov2] 3=ngC [D,ov,ov2] 2:=by show Yi (Yi (ngC [D,1,ov,ov2] 2) ov) ov=Yi (Yi (ngC [D,ov,ov2] 1) ov) ov;rw [d]
 show Yi (Yi (ngC [D,1,ov,ov2] 3) ov2) ov2=Yi (Yi (ngC [D,ov,ov2] 2) ov2) ov2;rw [e]
def fqS(ov ov2:Int)(x y z x2 y2 z2:List Int)(i:Nat):List Int:=sqP (Ye i x y z) (Ye i x2 y2 z2) ov ov2
def smS(D ov ov2:Int)(x y z x2 y2 z2:List Int)(i:Nat):List Int:=smP (ngC [D,ov,ov2] 3) (fqS ov ov2 x y z x2 y2 z2) i
def Yds(i:Nat):Ye i (1:Int) 1 1=1:=Bj (p:=λk:Int=>k=1) rfl rfl rfl
theorem fsZ(D ov ov2:Int)(x y z x2 y2 z2:List Int):fmZ D 1 1 ov ov2 x y z x2 y2 z2=Yh (smS D ov ov2 x y z x2 y2 z2 3):=by
 have c:fqZ 1 1 ov ov2 x y z x2 y2 z2=fqS ov ov2 x y z x2 y2 z2:=oO λi=>by unfold fqZ fqS;rw [Yds,Yj4]
 unfold fmZ smZ smS cnZ;rw [c,ng_one]
def dsB(D:Int):Bool:=decide (0<=D) && decide (D<=4194304)
theorem ds_b(h:dsB D=true):0<=D/\D<=4194304:=by unfold dsB at h;rw [aQ,cZ,cZ]at h;exact h
structure FsX (D ov ov2:Int) (x y z x2 y2 z2:List Int):Prop where
 X:∀i,FmX (Ye i x y z) (Ye i x2 y2 z2) ov ov2 1
 N:∀i,i<=3->NgX [D,ov,ov2] i
 Q:SmX (ngC [D,ov,ov2] 3) (fqS ov ov2 x y z x2 y2 z2)
theorem fsX{fr w d h:Int}(f:Sgo fr w ov x y z)(c:Sgo d h ov2 x2 y2 z2)(m:∀i,Ab KA (tzl (Ye i x y z)))(e:∀i,Ab KA (tzl (Ye i x2 y2 z2)))(o:dsB D=true):FsX D ov ov2 x y z x2 y2 z2:=by
 obtain⟨F,B⟩:=ds_b o;have r:=f.o1;have s:=f.o2;have u:=c.o1;have v:=c.o2;have g:∀i,FmX (Ye i x y z) (Ye i x2 y2 z2) ov ov2 1:=λi=>fmX (m i) (e i) (f.lc i).2 (c.lc i).2 ⟨r,s⟩ ⟨u,v⟩ ⟨O3,O3⟩;have n:∀i,([D,ov,ov2].getD i 0).natAbs<=4294967296:=λi=>by
  match i with
  | 0=>show D.natAbs<=_;omega
  | 1=>show ov.natAbs<=_;omega
  | 2=>show ov2.natAbs<=_;omega
  | i+3=>show(0:Int).natAbs<=_;decide
 refine⟨g,λi hi=>ngX n (aB hi O3),?_⟩;obtain⟨j,k,l⟩:=Zo1 [D,ov,ov2] 3;refine smX (j.mono ?_) k l (λi=>(g i).ab8) (λi=>(g i).l8);show 1*D.natAbs*D.natAbs*ov.natAbs*ov.natAbs*ov2.natAbs*ov2.natAbs<=2^190;refine aB (aY (aY (aY (aY (aY (aY (aJ 1) (show D.natAbs<=4194304 by omega)) (show D.natAbs<=4194304 by omega)) (show ov.natAbs<=4294967296 by omega)) (show ov.natAbs<=4294967296 by omega)) (show ov2.natAbs<=4294967296 by omega)) (show ov2.natAbs<=4294967296 by omega)) O7
theorem Ymd(h:FsX D ov ov2 x y z x2 y2 z2):Cvd (fmZ D 1 1 ov ov2 x y z x2 y2 z2):=by rw [fsZ];exact h.Q.d
theorem cvd_gs(i:∀g∈a,Gin g)(j:∀g∈b,Gin g)(c:Xt a=true)(d:Xt b=true)(I:dsB D=true){xs ys:List Ze}(o:xs.map Dn=It a b a)(s:ys.map Dn=It a b b):∀g∈Gl D 1 1 a b,Cvd g.2.2:=λg n=>by
 unfold Gl at n;obtain⟨k,F,e⟩:=eD.1 n;rw [List.getElem_zipWith]at e;subst e;rw [nH]at F;have f:k<(It a b a).length:=O;have h:k<(It a b b).length:=O;have M:(It a b a)[k]∈xs.map Dn:=by rw [o];exact fW f
 have N:(It a b b)[k]∈ys.map Dn:=by rw [s];exact fW h
 obtain⟨q,G,w⟩:=eV.1 M;obtain⟨r,H,B⟩:=eV.1 N;obtain⟨u,l⟩:=Zp6 i c o q G;obtain⟨v,m⟩:=Zp6 j d s r H;rw [<-w,<-B];simp only [gpZ,Dn];exact Ymd (fsX (Iz u l) (Iz v m) (Zoc l) (Zoc m) I)
theorem cvd_as(e:∀g∈a,Gin g)(f:∀g∈b,Gin g)(c:Xt a=true)(d:Xt b=true)(l:dsB D=true)(h:zs.map unP=Gl D 1 1 a b){k:Nat}(i:k<zs.length):Cvd (zs.getD k Gp0).2.2:=by
 have j:unP (zs.getD k Gp0)∈Gl D 1 1 a b:=by rw [<-h];exact eV.2 ⟨_,Zi i,rfl⟩
 exact cvd_gs e f c d l (un_mk (It a b a)) (un_mk (It a b b)) _ j
section
variable {P:Program} {N:Nat} {sc:Nat->Prop} {env:Qj} {H:Hp}
theorem d_ix3i {o:Oper} {x y:Operand} {e:TypeId} {i:Nat}  {m d f g:Int} (n:o.op= .index t x y) (s:ev env x=some (.agg #[.int .i64 d,.int .i64 f,.int .i64 g])) (u:ev env y=some (.int kd m))
  (r:P.underlying t=some (.array 3 e)) (k:∀w,(sizeOf e).run P w= .ok 1 w) (j:∀w,(isAgg e).run P w= .ok false w) (c:m=(i:Int)) (l:i<3):Mt P N sc o env H (.int .i64 ([d,f,g].getD i 0)):=λa w hs=>by
 subst c;have h:i=0\/i=1\/i=2:=O;rcases h with rfl|rfl|rfl<;>simp [execOp,n,hs.ev s,hs.ev u,Instr.index,asIntOf,run_underlying r,k,j,asAgg,part]
end
theorem df_sel{X Y Z:List Int}(i:Nat)(c:X=dfP x x2 ov ov2)(d:Y=dfP y y2 ov ov2)(e:Z=dfP z z2 ov ov2):Ye i X Y Z=dfP (Ye i x y z) (Ye i x2 y2 z2) ov ov2:=by subst c d e;unfold Ye;split<;>rfl
end Go.Sky
namespace Go.Sky
open Go.Proofs.Tryz
open Go.Proofs
set_option synthInstance.maxHeartbeats 0
set_option synthInstance.maxSize 100000
set_option maxRecDepth 20000
set_option linter.unusedSimpArgs false
variable{zd:Int}{d i:Nat}{x:Operand}{va vb:Value}{pa pb:List Ze}{ops:Array Oper}{o:Oper}{rest:List Oper}{ops':List Operand}{tys:Array TypeId}{w0:World}{M:Nat->Prop}{Jx:World->Prop}{pre:List Pc}
theorem Ydt:Xj prog 258 #[.int .i64 zd] [] (.bool (dsB zd)):=by
 refine Zd func258 ntmps258 λw0 e c a=>go 10 ?_;refine Zj 5 J (λb=>?_) (λb=>?_)
 .refine go 7 ?_;exact Yx a () results258 (by unfold dsB;first|(simp_all;done)|(simp_all;omega)) aA Za
 .refine go 7 ?_;exact Yx a () results258 (by unfold dsB;first|(simp_all;done)|(simp_all;omega)) aA Za
theorem Zj3{v w:Value}{c d:List Int}{fr H f k p b:Int}{I N P r s t:Value}(e:FmX c d f b 1)(z:∀a∈c,Mr a)(h:c.length<=6)(B:∀a∈d,Mr a)(j:d.length<=6)(D:Mr f)(l:Mr b):Cal prog 349 #[v,w,.agg #[.int .i64 fr,.int .i64 H,.int .i64 f,I,N,P],.agg #[.int .i64 k,.int .i64 p,.int .i64 b,r,s,t]] [Ys 1 Xf v c,Ys 1 Xf w d] true (G:=SL×List Int) (λg=>g.2=dfP c d f b) (λg=>Xo g.1) (λg=>[Ys 2 wv (Xo g.1) g.2]):=by refine Zd func349 ntmps349 λw0 S R m=>go 2 ?_;refine Zz (Zu 3) λQ _=>Zz (Zu 4) λu _=>go 6 ?_;refine cl 5 [1] (Zfq z (aB h O3)) λ_ _=>?_;refine Nk (Qa 5 (q:=Ys 2 wv _ (tzl c)) (aN (Ys 2 wv _) (aD (Zn1 h))) J J)<|go 10 ?_;refine cl 6 [2] (Zfq B (aB j O3)) λ_ _=>?_;refine Nk (Qa 6 (q:=Ys 2 wv _ (tzl d)) (aN (Ys 2 wv _) (aD (Zn1 j))) J J)<|go 12 ?_;refine cl 6 [] (Zn b l) λ_ _=>cl 7 [5] (Ka b e.v1 e.b1 e.s1) λ_ _=>go 11 ?_;refine cl 7 [] (Zn f D) λ_ _=>cl 8 [6] (Ka f e.v2 e.a1 e.s2) λ_ _=>go 10 ?_;refine cl 9 [7,8] (Yef (Yi (tzl c) b) (Yi (tzl d) f) e.v3 e.v4 e.s3) λ_ _=>?_;refine Nk (Qa 9 (q:=Ys 2 wv _ (dfP c d f b)) (aN (Ys 2 wv _) J) J J)<|go 13 ?_;refine Znu (Ml 9 J Zk) (λF n=>?_);subst n;generalize dfP c d f b=y;exact Yx m (F,y) results349 J J (Kd 9 Za)
theorem Ykh{fr Y e s t b:Int}{Z vy vz u B D:Value}{x y z h j k:List Int}(l:Sgo fr Y e x y z)(c:Sgo s t b h j k)(hA:∀i,Ab KA (tzl (Ye i x y z)))(I:∀i,Ab KA (tzl (Ye i h j k)))(R:dsB zd=true):Cal prog 316 #[.agg #[.int .i64 fr,.int .i64 Y,.int .i64 e,Z,vy,vz],.agg #[.int .i64 s,.int .i64 t,.int .i64 b,u,B,D],.int .i64 zd] [Ys 1 Xf Z x,Ys 1 Xf vy y,Ys 1 Xf vz z,Ys 1 Xf u h,Ys 1 Xf B j,Ys 1 Xf D k] true (G:=SL×List Int) (λg=>g.2=fmZ zd 1 1 e b x y z h j k) (λg=>Xo g.1) (λg=>[Ys 2 wv (Xo g.1) g.2]):=by
 refine Zd func316 ntmps316 λw0 sc hw P=>?_;have n:=fsX l c hA I R;refine go 2<|Zz (Zu 7) λbx _=>Zz (Zu 8) λS _=>go 5 ?_;refine tt (Oe [(0,_)] 9 (enc:=Xf) ([-1]:List Int) J J K2 Le ti3 J J J J J pZ.cells J J hw.h) (λv _=>?_);refine Nk (Na 9 J J pZ)<|cl 10 [9] (Zfq (λa ha=>by rw [bZ.1 ha];exact⟨O3,O3⟩)) λ_ _=>?_;refine Nk (Qa 10 (q:=Ys 2 wv _ [-1]) (aN (Ys 2 wv _) tzlm1) J J)<|go 15 ?_;refine dt (Xp [(0,_),(1,_),(2,_)] J K6 (λa w hs=>Yip ((Zl J) a w hs) ((Zl J) a w hs) ((Zl J) a w hs)))<|go 4 ?_;refine Zr (Kh 10 80 J J J)<|lp (G:=Nat×Value) [3,4,23] [0,1,2,3,4,5,6,7,8,9,10] (λq=>[(24,.int .i64 (q.1:Int)),(7,q.2)]) (λq=>[(80,Ys 2 wv q.2 (ngC [zd,e,b] q.1))]) (λq=>q.1<=3) (λq=>3-q.1) (0,_) O1 K2 K1 ?_;rintro⟨i,vs⟩ hi;dsimp only at hi;dsimp only;have f:=n.N i hi;refine go 6<|Zc J (λF=>?_) (λF=>?_)
 .refine go 6 ?_;refine dt (d_ix3i (i:=i) J J J underlying106 Dx iA3 J O)<|go 7 ?_;refine cl 10 [] (Zn ([zd,e,b].getD i 0) f.inn) λ_ _=>cl 11 [80] (Ka (xs:=(ngC [zd,e,b] i)) ([zd,e,b].getD i 0) f.v f.b f.s) λ_ _=>go 9 ?_;refine cl 11 [] (Zn ([zd,e,b].getD i 0) f.inn) λ_ _=>cl 12 [11] (Ka (xs:=(Yi (ngC [zd,e,b] i) ([zd,e,b].getD i 0))) ([zd,e,b].getD i 0) f.v2 f.b f.s2) λ_ _=>?_;refine go 11 ⟨O,?_⟩;exact Xg (Kh 12 80 J J J)<|Yl (i+1,_) O1 O1 K2 K1
 .obtain rfl:i=3:=O;refine go 7<|Pd (λ_=>False) [(0,0),(1,0),(2,0),(3,0),(4,0),(5,0),(7,0),(8,0),(9,0),(10,0),(11,0),(12,0),(14,0),(15,0),(16,0),(17,0),(18,0),(19,0),(22,0),(6,1),(13,1),(20,1),(21,0)]<|go 19<|Qk (Zv 13 [1,4] (Zj3 (n.X 0) (l.hc 0) (l.lc 0).2 (c.hc 0) (c.lc 0).2 (Zna l) (Zna c))) λfq N=>Qk (Zv 14 [2,5] (Zj3 (n.X 1) (l.hc 1) (l.lc 1).2 (c.hc 1) (c.lc 1).2 (Zna l) (Zna c))) λV p=>Qk (Zv 15 [3,6] (Zj3 (n.X 2) (l.hc 2) (l.lc 2).2 (c.hc 2) (c.lc 2).2 (Zna l) (Zna c))) λW r=>?_;refine Qb J J (Pq (Xp [(0,_),(1,_),(2,_)] J K6 (λa w hs=>Yio ((Ok 13 J Zk) a w hs) ((Ok 14 J Zk) a w hs) ((Ok 15 J Zk) a w hs))))<|go 3 ?_;refine lp (G:=Nat×Value) [63] [0,1,2,3,4,5,6,7,8,9,10,13,14,15] (λq=>[(64,.int .i64 (q.1:Int)),(7,q.2)]) (λq=>[(80,Ys 2 wv q.2 (smS zd e b x y z h j k q.1))]) (λq=>q.1<=3) (λq=>3-q.1) (0,_) O1 K2 K1 ?_;rintro⟨i,vs⟩ hi;dsimp only at hi;dsimp only;have m:=n.X i;refine go 6<|Zc J (λH=>?_) (λH=>?_)
  .refine go 5<|Zr (Zg2 i 13 14 15 90 J J J J J J)<|Zr (Qa 90 (q:=Ys 2 wv _ (dfP (Ye i x y z) (Ye i h j k) e b)) (aN (Ys 2 wv _) (df_sel i N p r)) J J)<|go 1 ?_;refine dt (Znn i J J J underlying173 sizeOf133 isAgg133 J)<|go 7 ?_;refine cl 16 [90,90] (Zr3 (dfP (Ye i x y z) (Ye i h j k) e b) (dfP (Ye i x y z) (Ye i h j k) e b) m.v5 m.v5 m.m5) λ_ _=>?_;refine Nk (Qa 16 (q:=Ys 2 wv _ (fqS e b x y z h j k i)) (aN (Ys 2 wv _) J) J J)<|go 9 ?_;refine cl 17 [80,16] (Yeg (smS zd e b x y z h j k i) (fqS e b x y z h j k i) (n.Q.v i O) m.v8 (n.Q.s i O)) λ_ _=>?_;refine go 11 ⟨O,?_⟩;exact Xg (Kh 17 80 J J J)<|Yl (i+1,_) O1 O1 K2 K1
  .obtain rfl:i=3:=O;refine go 8 ?_;refine cl 18 [80] (Ny (n.Q.v 3 (aJ _))) λ_ _=>?_;refine Nk (Qa 18 (q:=Ys 2 wv _ (fmZ zd 1 1 e b x y z h j k)) (aN (Ys 2 wv _) (fsZ zd e b x y z h j k).symm) J J)<|go 13 ?_;refine Znu (Ml 18 J Zk) (λsq Q=>?_);subst Q;generalize fmZ zd 1 1 e b x y z h j k=X9;exact Yx P (sq,X9) results316 J J (Kd 18 Za)
theorem Ykg(m:∀g∈pa,Gin g)(n:∀g∈pb,Gin g)(f:Xt pa=true)(h:Xt pb=true)(P:pa.length<=5)(Q:pb.length<=5)(R:dsB zd=true):Cal prog 259 #[va,vb,.int .i64 zd] [Qi 6 Pz qG va pa,Qi 6 Pz qG vb pb] true (G:=Value×List GpT) (λg=>g.2.map unP=Gl zd 1 1 pa pb) (λg=> .tuple #[g.1,.int .i64 (Ec pa pb)]) (λg=>[Qi 3 Zcw qGp g.1 g.2]):=by
 refine Zd func259 ntmps259 λw0 sc S t=>go 10 ?_;refine cl 3 [1,2] (Yao m n f h P Q) λb c=>go 16<|Zc J (λe=>?_) (λe=>?_)
 .have H:=e;refine go 8<|Xg (Zfi 72 3 Zcw qGp) ?_;exact Nn t (.slice none 0 0,[]) results259 (by rw [gapE_9 H]) (gapZ_0 O).symm (Kd 72 Za)
 .have H:=e;refine go 16<|Zr (Hb 74 3 284 Zcw)<|Zr (On qGp 76) ?_;have I:=Ym0 m n f h;have Y:b.1.2.length=(It pa pb pa).length:=by rw [<-c.1,aW]
  have Z:b.2.2.length=(It pa pb pb).length:=by rw [<-c.2,aW]
  refine lp (G:=Nat×Value×List GpT) [2,9,10,23,24] [0,1,2,3,4] (λq=>[(25,.int .i64 (q.1:Int)),(11,q.2.1)]) (λq=>[(74,Ol 3 284 Zcw q.2.1 q.2.2),(76,Hf qGp q.2.2)]) (λq=>(q.1<=b.1.2.length)/\(q.2.2.map unP=(Gl zd 1 1 pa pb).take q.1)/\(q.2.2.length=q.1)) (λq=>b.1.2.length-q.1) (0,.slice none 0 0,[]) ⟨O1,(by rw [eX];rfl),rfl⟩ K2 K2 ?_;rintro⟨k,vq,V⟩ ⟨W,p,u⟩;dsimp only at W p u;dsimp only;refine go 6<|Zc J (λF=>?_) (λF=>?_)
  .refine go 5 ?_;obtain⟨B,r⟩:=Zp6 m f c.1 _ (Zi (d:=G0) (show k<b.1.2.length by omega));refine Zr (Gm (b.1.2.getD k G0) ((b.1.2.getD k G0).2.1) 3 51 J J Zi O8)<|Zr (Gm (b.1.2.getD k G0) ((b.1.2.getD k G0).2.2.1) 3 52 J J Zi O8)<|Zr (Gm (b.1.2.getD k G0) ((b.1.2.getD k G0).2.2.2) 3 53 J J Zi O8)<|go 2 ?_;refine dt (Ym 3 k J J J J Yf Zfb Zbx J)<|dt (Of 3 G0 J J J Yf pG)<|Zz (Zx 5) λbx _=>go 4 ?_;obtain⟨D,s⟩:=Zp6 n h c.2 _ (Zi (d:=G0) (show k<b.2.2.length by omega));refine Zr (Gm (b.2.2.getD k G0) ((b.2.2.getD k G0).2.1) 4 54 J J Zi O8)<|Zr (Gm (b.2.2.getD k G0) ((b.2.2.getD k G0).2.2.1) 4 55 J J Zi O8)<|Zr (Gm (b.2.2.getD k G0) ((b.2.2.getD k G0).2.2.2) 4 56 J J Zi O8)<|Ng [4,5] [15]<|Zw 0 [(0,0),(1,0),(2,0),(3,0),(4,0),(5,0),(6,0),(7,0),(8,0),(9,0),(10,0),(11,1),(12,0),(13,1),(14,1),(15,3)]<|go 8 ?_;refine Qb J J (Ft (Ym 4 k J J J J Yf Zfb Zbx J) K2)<|Qb J J (Ft (Of 4 G0 J J J Yf pG) K2)<|go 1 ?_;refine Qk (Zv 84 [51,52,53,54,55,56] (Ykh (Iz B r) (Iz D s) (Zoc r) (Zoc s) R)) λy N=>?_;refine Qb J J (Ft (Xp [(0,_),(1,_),(2,_)] J K6 (λa w hs=>Yik ((Zl J) a w hs) ((Zl J) a w hs) ((Zl J) a w hs))) K2)<|Bm J (Oe [(0,_)] 6 (enc:=Zcw) [(gpY (b.1.2.getD k G0) y)] J J K2 underlying185 ti284 J J fillG J J pGp.cells J J S.h) (λv _=>?_);refine Bm J (t_offr 74 J J J K2 (λl=>(Yjx 40 (i:=74) (j:=6) J J J J J J O3 J (Yo pGp) underlying185 ti284 J pGp J J J O9 O3 J S.h l))) λa0 _=>go 2 ?_;refine Yq<|go 6 ⟨O,?_⟩;exact Xg (Qs (q:=qGp) (z:=(gpY (b.1.2.getD k G0) y)) 76 84 76 J J J J J)<|Yl (k+1,_,V ++ [(gpY (b.1.2.getD k G0) y)]) ⟨O1,Yl2 c.1 c.2 p O O N,by rw [bE,u];rfl⟩ O1 K2 K2
  .obtain rfl:k=b.1.2.length:=O;refine go 14<|Xg (Na 74 J J pGp)<|Xg (Dz 74 76 78 J J J J) ?_;exact Nn t (vq,V) results259 (by rw [gapE_n H]) (gp_all c.1 I.1 p) (Kd 78 Za)
theorem Ykj(e:∀g∈pa,Gin g)(f:∀g∈pb,Gin g)(a:Xt pa=true)(c:Xt pb=true)(k:pa.length<=5)(l:pb.length<=5)(h:dsB zd=true):Cal prog 186 #[va,vb,.int .i64 zd] [Qi 6 Pz qG va pa,Qi 6 Pz qG vb pb] true (G:=Value×List GpT) (λg=>g.2.map unP=Gl zd 1 1 pa pb) (λg=> .tuple #[g.1,.int .i64 (Ec pa pb)]) (λg=>[Qi 3 Zcw qGp g.1 g.2]):=by refine Zd func186 ntmps186 λw0 q p m=>go 10 ?_;refine cl 2 [1] (Om e) λ_ _=>?_;refine dt (dF (Yz J J) (aN (λb=>Value.bool (!b)) a))<|go 2 ?_;refine Kj 2 [2] (Om f) λ_ _=>?_;refine Fj (dF (Yz J J) (aN (λb=>Value.bool (!b)) c)) J J<|go 3 ?_;refine Kj 2 [] Ydt λ_ _=>?_;refine Fj (dF (Yz J J) (aN (λb=>Value.bool (!b)) h)) J J<|go 11 ?_;refine cl 3 [1,2] (Ykg e f a c k l h) λn j=>go 7 ?_;exact Nn m _ results186 J j (Kd 3 Za)
open Go.RowKit Below
variable {P:Program} {N:Nat} {sc:Nat->Prop} {env env':Qj} {H H':Hp} {Q Q':Exit->Act->World->Prop}
def fctP(p:Prop):Pc:={ own:=false,fp:=λ_=>False,holds:=λ_=>p,lt:=λ_ _ _ h=>h.elim,stable:=λ_ _ h _=>h }
theorem wtd{j e:Nat}{b:Bool}(h:o.guard=some (j,b))(k:(ops[j]?).bind (·.dst)=some e)(g:lk env e=some (.bool b))(c:Nat.blt e N=true):∀a w,Sat N sc env H a w->Region.wanted o (yielded ops a.tmps)=true:=λa w hs=>by have f:=hs.yielded k g c;simp [Region.wanted,h,f]
theorem Mj{v:Value}(f:Mt P N sc o env H v)(e:∀a w,Sat N sc env H a w->Region.wanted o (yielded ops a.tmps)=true)(c:o.dst=some d)(b:Nat.blt d N=true)(h:LI P N sc ops rest Q ((d,v)::env) H):LI P N sc ops (o::rest) Q env H:=λa w hs=>by unfold wpListIn;rw [aF (e a w hs)];refine⟨λ_ _=>trivial,?_⟩;show o.uponIn Fence.wide 0 P a _ Q ((execOp a.eval o).run P w);rw [f a w hs];show wpListIn Fence.wide 0 P ops Q rest (a.put o.dst v) w;rw [c];exact h _ w (hs.put d v b)
theorem Zdq (vs:List Value)(pre:List Pc)    {l:Nat}     {W:World}  {J:Nat->World->Prop}  {α G:Type} {xs:List α} {ys:α->G->List Value} {D:α->G->List Pc} 
  {k:Nat} (y:α) (g:G) (hY:YJI P w0 l M J Jx xs ys D) (hy:xs[k]? = some y) (hJ:J k W) (hW:w0.heap.size<=W.heap.size) (m:∀p∈pre,∀b,p.fp b->b<w0.heap.size/\¬M b)
  (ho:o.op= .call { callee:= .value x,args:=ops'.toArray,argTypes:=tys }) (hg:∀a w,Sat N sc env H a w->Region.wanted o (yielded ops a.tmps)=true) (hd:o.dst=some d) (Z:Nat.blt d N=true) (hx:ev env x=some (.func (.yield l) #[] #[])) (r:EvL env ops' vs) (S:vs=ys y g)
  (h0:lk H 0=some (Zt W (λ_=>False))) (u:∀p∈D y g,p.own=false/\(∀b,p.fp b->W.heap.size<=b)/\∃i I,lk H i=some I/\∀w,I.holds w->p.holds w)
  (v:AllRo pre) (n:HSub (Yg 1 pre) H)
  (ht:∀c,J (k+1) c->w0.heap.size<=c.heap.size->LI P N sc ops rest Q ((d,.bool true)::env) ((0,Zt c (λ_=>False))::Yg 1 pre))
  (hf:∀c,Jx c->w0.heap.size<=c.heap.size->LI P N sc ops rest Q ((d,.bool false)::env) ((0,Zt c (λ_=>False))::Yg 1 pre)):LI P N sc ops (o::rest) Q env H:=λa w hs=>by
 subst S;have Y:=Ix (hs.hold 0 _ h0);obtain⟨fn,F,f,s,z,j⟩:=hY k y g hy W w hJ hW Y (λp hp=>by obtain⟨h1,h2,i,I,hi,hh⟩:=u p hp;exact⟨hh w (hs.hold i I hi),h1,h2⟩)
 have R:(o.semAt Fence.wide.round a.eval).run P w= .ok (.round l fn F f s) w:=by show(execOp a.eval o).run P w=_;have hm:=r.map hs;have V:=hs.ev hx;simp [execOp,ho,resolve,invoke,Deferred.ofValue,hm,V,z,Sem.run_bind]
 unfold wpListIn;rw [aF (hg a w hs)];refine⟨λ_ _=>trivial,?_⟩;rw [R];refine⟨λh=>(by cases h),j.mono ?_⟩;have B:w0.heap.size<=w.heap.size:=aB hW Y.size;rintro e c (⟨rfl,q,t⟩|⟨rfl,q,t⟩)
 .show wpListIn Fence.wide 0 P ops Q rest (a.put o.dst _) c;rw [hd];exact ht c q (aB B t.size) _ c ((hs.base m v n t).put d _ Z)
 .show wpListIn Fence.wide 0 P ops Q rest (a.put o.dst _) c;rw [hd];exact hf c q (aB B t.size) _ c ((hs.base m v n t).put d _ Z)
theorem Zi4{α:Type}{ps:List α}{p:α->Bool}{d:α}(hi:i<ps.length)(b:p (ps.getD i d)=true):(ps.filter p)[((ps.take i).filter p).length]? = some (ps.getD i d):=by
 have h:=fH i ps;have a:ps.drop i=ps.getD i d::ps.drop (i+1):=by rw [aE,aL hi,fC];exact eG hi
 conv=>lhs;arg 1;rw [<-h,a]
 rw [fO,eR b];simp
theorem Zyw{α:Type}{ps:List α}{p:α->Bool}{d:α}(hi:i<ps.length)(a:p (ps.getD i d)=true):((ps.take (i+1)).filter p).length=((ps.take i).filter p).length+1:=by rw [Ps d _ _ hi,fO,eR a,bE];rfl
theorem Zyx{α:Type}{ps:List α}{p:α->Bool}{d:α}(hi:i<ps.length)(a:p (ps.getD i d)=false):((ps.take (i+1)).filter p).length=((ps.take i).filter p).length:=by rw [Ps d _ _ hi,fO,gE (by rw [a];exact bD),bE];rfl
theorem Zf9{φ:Prop}{n:Nat}{H:Hp}{k:Pc}(h:φ)(c:lk H 0=some k):∀p∈[fctP φ],p.own=false/\(∀b,p.fp b->n<=b)/\∃i a,lk H i=some a/\∀w,a.holds w->p.holds w:=λp f=>by rw [bZ.1 f];exact⟨rfl,λb e=>e.elim,0,k,c,λ_ _=>h⟩
theorem fk_of{fn:Func}{al:Bool}{G:Type}{φ:G->Prop}{val:G->Value}{b:G->List Pc}(h:X N sc .ret (Zag P fn w0 pre al φ val b) env H):X N sc .ret (Zc9 P fn w0 pre al φ val b) env H:=λa w hs=>by obtain⟨e,v,f,c⟩:=h a w hs;show LeavesInM Fence.wide 0 P fn a.tmps _ a.defers .returning w;rw [e];exact⟨v,f,c⟩
end Go.Sky
namespace Go.Sky
open Go.Proofs.Tryz
open Go.Proofs
set_option synthInstance.maxHeartbeats 0
set_option synthInstance.maxSize 100000
set_option maxRecDepth 20000
set_option linter.unusedSimpArgs false
variable{D:Int}{a b:List Ze}{zs:List GpT}
theorem Zal(x y:Int)(f:Mr x)(g:Mr y)(d:y≠0):Xj prog 262 #[.int .i64 x,.int .i64 y] [] (.agg #[.bool (decide (Ho x y<0)),.string (Xn (Ho x y).natAbs),.bool (decide (Ip x y<0)),.string (Xn (Ip x y).natAbs)]):=by refine Zd func262 ntmps262 λk j i c=>go 2 ?_;refine Zz (Zx 1) λh _=>go 6 ?_;refine cl 1 [] (Gf x y f g d) λ_ _=>go 3<|Zz (Zx 2) λe _=>go 11 ?_;exact Yx c () results262 J aA Za
theorem Yki(v:Value)(zs:List GpT)(Q:Nat)(B:∀z∈zs,Cvd z.2.2):Zun prog 260 [.pointer (some ⟨Q,0,none⟩)] [Oz Q 185 #[v],Qi 3 Zcw qGp v zs] (α:=GpT) (G:=R2) (zs.filter (λz:GpT=>Zd4 z.2.2)) (λc g=>[.agg #[.int .i64 c.1.1,.int .i64 c.1.2,Xo c.2.1],.agg #[.bool (decide (g.1<0)),.string (Xn (g.1).natAbs),.bool (decide (g.2<0)),.string (Xn (g.2).natAbs)]]) (λc g=>[fctP (Fnd c.2.2 (qv (0,1)) (qv (1,1)) g)]):=by
 refine Zqf func260 J ntmps260 J K2 ?_;intro l M JI Jx w0 sc hw k o h y w;simp only [Qf,Yg];have F:=Hw.mk hw;refine Lh (Ev (i:=2) J Yf) λa3=>go 8 ?_;refine lp (G:=Nat×World) [0,8,9] [1,2] (λq=>[(10,.int .i64 (q.1:Int))]) (λq=>[(0,Zt q.2 (λ_=>False))]) (λq=>(q.1<=zs.length)/\(JI ((zs.take q.1).filter (λz:GpT=>Zd4 z.2.2)).length q.2)/\(w0.heap.size<=q.2.heap.size)) (λq=>zs.length-q.1) (0,w0) ⟨O1,y,aJ _⟩ K1 K1 ?_;rintro⟨i,W⟩ ⟨hi,n,p⟩;dsimp only at hi n p;dsimp only;have b2:=Yfw F p;refine go 6<|Zc J (λx=>?_) (λx=>?_)
 .refine go 5<|Zr (Zen 2 55 (zs.getD i Gp0) J J Zi J) ?_;have j:=B (zs.getD i Gp0) Zi;refine go 1 ?_;refine dt (Ym 2 i J J J J Yf underlying185 sizeOf284 J)<|dt (Of 2 Gp0 J J J Yf pGp)<|Zz (Zx 3) λbx _=>go 4 ?_;rcases tf (Zd4 (zs.getD i Gp0).2.2)with d|d
  .refine Ng [3] [12]<|Zw 11 [(0,0),(1,0)]<|go 3 ?_;refine Nm 10 2 9 ?_ ?_
   .refine Iy (Zv 3 [] (Zal 0 1 ⟨O3,O3⟩ ⟨O3,O3⟩ O3)) λ_ _=>?_;refine Nm 9 3 9 ?_ ?_
    .refine Iy (Zv 3 [] (Zal 1 1 ⟨O3,O3⟩ ⟨O3,O3⟩ O3)) λ_ _=>?_;refine Nm 8 4 9 ?_ ?_
     .refine Iy (Zv 3 [55] (Fu (0,1) (1,1) j Zh7 Zh6 Zh9 d)) λ_ _=>?_;refine Zw 0 [(5,0),(6,0),(7,0),(8,0),(9,1),(10,1),(11,0),(12,3)]<|go 4 ?_;refine Qk (Nx 4) λR ho=>go 4<|Yq<|go 21 ⟨O,?_⟩;exact Yl (i+1,W) ⟨O1,by rw [Zyx O d];exact n,p⟩ O1 K1 K1
     .refine Iy (Nx 5) λS a4=>?_;refine Zw 0 [(4,1),(5,0),(6,0),(7,0),(8,0),(10,1),(11,0),(12,3)]<|Qk (Zv 5 [55] (Fu (0,1) (1,1) j Zh7 Zh6 Zh9 d)) λ_ _=>go 8 ?_;refine Yq<|go 21 ⟨O,?_⟩;exact Yl (i+1,W) ⟨O1,by rw [Zyx O d];exact n,p⟩ O1 K1 K1
    .refine Iy (Nx 6) λV a5=>?_;refine Zw 0 [(3,1),(4,1),(5,0),(6,0),(7,0),(8,0),(10,1),(11,0),(12,3)]<|Qk (Zv 6 [] (Zal 1 1 ⟨O3,O3⟩ ⟨O3,O3⟩ O3)) λ_ _=>Qk (Zv 6 [55] (Fu (0,1) (1,1) j Zh7 Zh6 Zh9 d)) λ_ _=>go 8 ?_;refine Yq<|go 21 ⟨O,?_⟩;exact Yl (i+1,W) ⟨O1,by rw [Zyx O d];exact n,p⟩ O1 K1 K1
   .refine Iy (Nx 7) λY a6=>?_;refine Zw 0 [(2,1),(3,1),(4,1),(5,0),(6,0),(7,0),(8,0),(10,1),(11,0),(12,3)]<|Qk (Zv 7 [] (Zal 0 1 ⟨O3,O3⟩ ⟨O3,O3⟩ O3)) λ_ _=>Qk (Zv 7 [] (Zal 1 1 ⟨O3,O3⟩ ⟨O3,O3⟩ O3)) λ_ _=>Qk (Zv 7 [55] (Fu (0,1) (1,1) j Zh7 Zh6 Zh9 d)) λ_ _=>go 8 ?_;refine Yq<|go 21 ⟨O,?_⟩;exact Yl (i+1,W) ⟨O1,by rw [Zyx O d];exact n,p⟩ O1 K1 K1
  .refine Ng [3] [12]<|Zw 11 [(0,0),(1,0)]<|go 3 ?_;refine Nm 10 2 9 ?_ ?_
   .refine Iy (Zv 7 [] (Zal 0 1 ⟨O3,O3⟩ ⟨O3,O3⟩ O3)) λ_ _=>?_;refine Nm 9 3 9 ?_ ?_
    .refine Iy (Zv 7 [] (Zal 1 1 ⟨O3,O3⟩ ⟨O3,O3⟩ O3)) λ_ _=>?_;refine Nm 8 4 9 ?_ ?_
     .refine Iy (Zv 7 [55] (Gv (0,1) (1,1) j Zh7 Zh6 Zh9 d)) λH r=>?_;refine Zw 0 [(5,0),(6,0),(7,0),(8,0),(9,1),(10,1),(11,0),(12,3)]<|go 4 ?_;refine Qk (Nx 8) λZ a7=>go 4<|Yq<|go 2<|Ybt ?_;refine Pu (Hg J J) J<|Pu (Hg J J) J<|Mj (Hg J J) (wtd J J J J) J J<|Mj (DI.h aA) (wtd J J J J) J J<|Mj (DI.h aA) (wtd J J J J) J J<|Zdq [_,_] [_,_] (zs.getD i Gp0) H w (Zi4 O d) n p k J (wtd J J J J) J J J K2 J J (Zf9 r J) K2 K2 (λm e f=>?_) (λm e f=>?_)
      .simp only [Yg];refine Mj (dF (Yz J J) J) (wtd J J J J) J J<|Pu (Cy J J J) J<|Ch<|go 9 ⟨O,?_⟩;exact Yl (i+1,m) ⟨O1,by rw [Zyw O d];exact e,f⟩ O1 K1 K1
      .simp only [Yg];refine Mj (dT (Yz J J) J) (wtd J J J J) J J<|Pu (Cy J J J) J<|Ch<|go 7 ?_;exact Za9 (.inl J) J J o h (.inr e)
     .refine Iy (Nx 9) λa0 a8=>?_;refine Zw 0 [(4,1),(5,0),(6,0),(7,0),(8,0),(10,1),(11,0),(12,3)]<|Qk (Zv 9 [55] (Gv (0,1) (1,1) j Zh7 Zh6 Zh9 d)) λI s=>go 8 ?_;refine Yq<|go 2<|Ybt ?_;refine Pu (Hg J J) J<|Pu (Hg J J) J<|Mj (Hg J J) (wtd J J J J) J J<|Mj (DI.h aA) (wtd J J J J) J J<|Mj (DI.h aA) (wtd J J J J) J J<|Zdq [_,_] [_,_] (zs.getD i Gp0) I w (Zi4 O d) n p k J (wtd J J J J) J J J K2 J J (Zf9 s J) K2 K2 (λm e f=>?_) (λm e f=>?_)
      .simp only [Yg];refine Mj (dF (Yz J J) J) (wtd J J J J) J J<|Pu (Cy J J J) J<|Ch<|go 9 ⟨O,?_⟩;exact Yl (i+1,m) ⟨O1,by rw [Zyw O d];exact e,f⟩ O1 K1 K1
      .simp only [Yg];refine Mj (dT (Yz J J) J) (wtd J J J J) J J<|Pu (Cy J J J) J<|Ch<|go 7 ?_;exact Za9 (.inl J) J J o h (.inr e)
    .refine Iy (Nx 10) λa1 a9=>?_;refine Zw 0 [(3,1),(4,1),(5,0),(6,0),(7,0),(8,0),(10,1),(11,0),(12,3)]<|Qk (Zv 10 [] (Zal 1 1 ⟨O3,O3⟩ ⟨O3,O3⟩ O3)) λ_ _=>Qk (Zv 10 [55] (Gv (0,1) (1,1) j Zh7 Zh6 Zh9 d)) λN t=>go 8 ?_;refine Yq<|go 2<|Ybt ?_;refine Pu (Hg J J) J<|Pu (Hg J J) J<|Mj (Hg J J) (wtd J J J J) J J<|Mj (DI.h aA) (wtd J J J J) J J<|Mj (DI.h aA) (wtd J J J J) J J<|Zdq [_,_] [_,_] (zs.getD i Gp0) N w (Zi4 O d) n p k J (wtd J J J J) J J J K2 J J (Zf9 t J) K2 K2 (λm e f=>?_) (λm e f=>?_)
     .simp only [Yg];refine Mj (dF (Yz J J) J) (wtd J J J J) J J<|Pu (Cy J J J) J<|Ch<|go 9 ⟨O,?_⟩;exact Yl (i+1,m) ⟨O1,by rw [Zyw O d];exact e,f⟩ O1 K1 K1
     .simp only [Yg];refine Mj (dT (Yz J J) J) (wtd J J J J) J J<|Pu (Cy J J J) J<|Ch<|go 7 ?_;exact Za9 (.inl J) J J o h (.inr e)
   .refine Iy (Nx 11) λa2 b0=>?_;refine Zw 0 [(2,1),(3,1),(4,1),(5,0),(6,0),(7,0),(8,0),(10,1),(11,0),(12,3)]<|Qk (Zv 11 [] (Zal 0 1 ⟨O3,O3⟩ ⟨O3,O3⟩ O3)) λ_ _=>Qk (Zv 11 [] (Zal 1 1 ⟨O3,O3⟩ ⟨O3,O3⟩ O3)) λ_ _=>Qk (Zv 11 [55] (Gv (0,1) (1,1) j Zh7 Zh6 Zh9 d)) λP u=>go 8 ?_;refine Yq<|go 2<|Ybt ?_;refine Pu (Hg J J) J<|Pu (Hg J J) J<|Mj (Hg J J) (wtd J J J J) J J<|Mj (DI.h aA) (wtd J J J J) J J<|Mj (DI.h aA) (wtd J J J J) J J<|Zdq [_,_] [_,_] (zs.getD i Gp0) P w (Zi4 O d) n p k J (wtd J J J J) J J J K2 J J (Zf9 u J) K2 K2 (λm e f=>?_) (λm e f=>?_)
    .simp only [Yg];refine Mj (dF (Yz J J) J) (wtd J J J J) J J<|Pu (Cy J J J) J<|Ch<|go 9 ⟨O,?_⟩;exact Yl (i+1,m) ⟨O1,by rw [Zyw O d];exact e,f⟩ O1 K1 K1
    .simp only [Yg];refine Mj (dT (Yz J J) J) (wtd J J J J) J J<|Pu (Cy J J J) J<|Ch<|go 7 ?_;exact Za9 (.inl J) J J o h (.inr e)
 .obtain rfl:i=zs.length:=O;rw [bT]at n;exact go 4<|Za9 (.inr J) J J o h (.inl n)
theorem Ymw(e:∀g∈a,Gin g)(f:∀g∈b,Gin g)(c:Xt a=true)(d:Xt b=true)(l:dsB D=true)(h:zs.map unP=Gl D 1 1 a b):∀z∈zs,Cvd z.2.2:=λz j=>by obtain⟨k,i,rfl⟩:=kW j;have:=cvd_as e f c d l h i;rwa [aE,aL i]at this
def nbF(z:GpT):Bool:=Zd4 z.2.2
theorem Ynq{n d:Int}(h:zs.map unP=Gl D n d a b)(c:¬Ec a b≠0)(e:(zs.filter λz=>Zd4 z.2.2).length=0):apZ D n d a b=true:=by
 refine ap_no ?_ (iD.1 c);rw [fst_no h λi hi=>?_];cases hn:Zd4 (zs.getD i Gp0).2.2 with
 | false=>rfl
 | true=>
  have:zs.getD i Gp0∈zs.filter λz=>Zd4 z.2.2:=fM.2 ⟨Zi hi,hn⟩;rw [aG e]at this;cases this
theorem Yij{n d:Int}{k:Nat}{x:GpT}(h:zs.map unP=Gl D n d a b)(f:(zs.filter λz=>Zd4 z.2.2)[k]? = some x):apZ D n d a b=false:=by
 have c:=(fM.1 (dU f));refine ap_is ?_;cases hf:(Zig (Gl D n d a b)).2.2 with
 | true=>rfl
 | false=>
  exfalso;have e:Ymc (Gl D n d a b)=none:=by
   cases he:Ymc (Gl D n d a b)with
   | none=>rfl
   | some g=>unfold Zig at hf;rw [he]at hf;cases hf
  have:=nT.1 e (unP x) (by rw [<-h];exact eV.2 ⟨x,c.1,rfl⟩);exact this c.2
theorem se_bad{v:Value}:Cal prog 187 #[v] [Qi 3 Zcw qGp v zs] true (G:=Nat) (λg=>True) (λg=> .func (.func 260) #[] #[.pointer (some ⟨g,0,none⟩)]) (λg=>[Oz g 185 #[v]]):=by refine Zd func187 ntmps187 λj h f c=>?_;refine Ztb (Ml 1 J Yf) (λi d=>?_);subst d;refine go 2<|Zz (Zu 2) λe _=>go 5 ?_;refine dt (Zgf [] [_] J aA K1)<|go 4 ?_;exact Xg (Zce 2 J J)<|Yx c _ results187 J aA (Kd 2 Za)
theorem Ydu{Q R:Value}(o r:List Ze)(F:Int)(y:∀g∈o,Gin g)(z:∀g∈r,Gin g)(u:Xt o=true)(v:Xt r=true)(H:o.length<=5)(I:r.length<=5)(B:dsB F=true):Xj prog 114 #[Q,R,.int .i64 F] [Qi 6 Pz qG Q o,Qi 6 Pz qG R r] (.tuple #[.bool (apZ F 1 1 o r),.int .i64 (Ec o r)]):=by
 refine Zdy func114 J ntmps114 J K2 ?_;intro s sc M n;have M:=Hw.mk M;simp only [Qf,Yg];refine go 2<|Zz (Zx 3) λe _=>Zz (Zx 4) λc _=>go 7 ?_;refine cl 5 [1,2] (Ykj y z u v H I B) λi m=>go 14<|Zc J (λj=>?_) (λj=>?_)
 .have t:=j;refine go 9 ?_;exact fk_of<|Nn n () results114 (by rw [ap_e t]) aA Za
 .have t:=j;refine go 6 ?_;refine cl 6 [5] se_bad λb _=>go 3 ?_;refine e_rfi ([Oz b 185 #[i.1],Qi 3 Zcw qGp i.1 i.2]) s (λ(_:Nat) (_:Unit)=>[(0,Zt s (λ_=>False)),(3,box e 4 #[.bool false]),(4,box c 26 #[.int .i64 0])]) (λk _=>k=0) (λ(_:Unit)=>[(0,Zt s (λ_=>False)),(3,box e 4 #[.bool false]),(4,box c 26 #[.int .i64 0])]) (λ_=>apZ F 1 1 o r=false) () J (by intro d w;first|exact enters_of func260 O6 rfl d w|exact call260 d w) (Yki i.1 i.2 b (Ymw y z u v B m)) ?_ (λ_ _=>J) J M.h J J K3 (λ_ _=>⟨J,J⟩) (λ_=>⟨J,J⟩) (λk x Z i W f l S V=>?_) J (λi f D od=>?_) (λ_ N=>?_)
  .intro p P;simp only [aZ,dJ,gF]at P;rcases P with rfl|rfl
   .exact⟨J,6,J⟩
   .exact⟨J,5,J⟩
  .refine Zbs (env':=[(6,.pointer (some ⟨e,0,none⟩)),(7,.pointer (some ⟨c,0,none⟩))]) (H':=[(92,Zt V S),(0,Zt s (λ_=>False)),(3,box e 4 #[.bool false]),(4,box c 26 #[.int .i64 0])]) (λa w hs=>hs.weaken ⟨J,J,aA⟩ ⟨J,J,J,J,aA⟩)<|Zpu λa w hs=>⟨J,[(6,.pointer (some ⟨e,0,none⟩)),(7,.pointer (some ⟨c,0,none⟩))],[(0,Zt s (λ_=>False)),(3,box e 4 #[.bool false]),(4,box c 26 #[.int .i64 0])],J,(λq h=>by cases h;rfl),⟨.inr (λb G=>⟨0,_,J,G⟩),.inl J,.inl J,aA⟩,hs.weaken ⟨J,J,aA⟩ ⟨J,J,J,J,aA⟩,λY _=>?_⟩;refine Lu<|Zpx J<|go 2 ?_;refine go 1 ?_;exact Yjg<|Zvx λa w hs=>Or.inr ⟨J,(),Yij m W,⟨.inr (λb G=>⟨0,_,J,G⟩),.inl J,.inl J,aA⟩,[],hs.weaken aA ⟨J,J,J,J,aA⟩⟩
  .refine go 2 ?_;refine go 1 ?_;refine Yjh λa w hs=>⟨J,[(6,.pointer (some ⟨e,0,none⟩)),(7,.pointer (some ⟨c,0,none⟩))],[(0,Zt s (λ_=>False)),(3,box e 4 #[.bool true]),(4,box c 26 #[.int .i64 0])],J,⟨⟨_,J,J,λ_ h=>h⟩,⟨_,J,J,λ_ h=>h⟩,⟨_,J,J,λ_ h=>h⟩,aA⟩,hs.weaken ⟨J,J,aA⟩ ⟨J,J,J,J,aA⟩,?_⟩;exact Nn n () results114 (by rw [Ynq m t f,iD.1 t]) aA Za
  .exact Nn n () results114 (by rw [N,iD.1 t]) aA Za
def dfA(p q:List Int)(d c:Int)(t:Rat):Rat:=Zb p t*(c:Rat)-Zb q t*(d:Rat)
def fvE(D n d e c:Int)(x y z f g h:List Int)(t:Rat):Rat:=
 ((d:Rat)*dfA x f e c t)*((d:Rat)*dfA x f e c t)+((d:Rat)*dfA y g e c t)*((d:Rat)*dfA y g e c t)+((n:Rat)*dfA z h e c t)*((n:Rat)*dfA z h e c t)
  - ((D:Rat)*(d:Rat)*(e:Rat)*(c:Rat))*((D:Rat)*(d:Rat)*(e:Rat)*(c:Rat))
def fvU(D n d:Int)(g h:Zhs)(t:Rat):Rat:=fvE D n d g.1.2.2 h.1.2.2 g.2.1 g.2.2.1 g.2.2.2 h.2.1 h.2.2.1 h.2.2.2 t
def gZ(o:Int)(l:List Int):Nat->Int
 | 0=>o
 | i+1=>(Int.gcd (gZ o l i) (cf l i):Int)
def plC(a d:Int)(x y z:List Int)(t:Nat):Int:=pl (Ye t x y z) a d
def lowL(o:Int)(l:List Int):List Int:=mk 3 λt=>cf l t/gZ o l 3
theorem me_no{g h:Ze}(c:h.1.1≠g.1.2.1):meG g h=false:=by unfold meG Zkv;rw [aK (λe=>c e.symm)];rfl
def lastB(ps:List Ze)(t:Int):Bool:=decide (spF ps<=t) && decide (t<=spL ps)
def exI(ps:List Ze)(t:Int):Nat:=ps.findIdx λg=>decide (t<=g.1.2.1)
theorem Yg0{ps:List Ze}(d:Xt ps=true){i:Nat}(hi:i+1<ps.length):(ps.getD (i+1) G0).1.1=(ps.getD i G0).1.2.1:=by have h:=(Oh d).1 (i+1) hi;have c:=Zki (Cr h) (mH i);rw [h]at c;refine bJ λe=>?_;have:=me_no (g:=ps.getD i G0) (h:=ps.getD (i+1) G0) e;rw [show i+1-1=i from rfl,this]at c;cases c
def exA(ps:List Ze)(t:Int):Int:=t-(ps.getD (exI ps t) G0).1.1
def exD(ps:List Ze)(t:Int):Int:=(ps.getD (exI ps t) G0).1.2.1-(ps.getD (exI ps t) G0).1.1
def exO(ps:List Ze)(t:Int):Int:=(ps.getD (exI ps t) G0).1.2.2*exD ps t^5/gS (ps.getD (exI ps t) G0).1.2.2 (exA ps t) (exD ps t) (ps.getD (exI ps t) G0).2.1.2 (ps.getD (exI ps t) G0).2.2.1.2 (ps.getD (exI ps t) G0).2.2.2.2 3
def exL(ps:List Ze)(t:Int):List Int:=lowL ((ps.getD (exI ps t) G0).1.2.2*exD ps t^5) (mk 3 (plC (exA ps t) (exD ps t) (ps.getD (exI ps t) G0).2.1.2 (ps.getD (exI ps t) G0).2.2.1.2 (ps.getD (exI ps t) G0).2.2.2.2))
section
variable {P:Program} {N:Nat} {sc:Nat->Prop} {env:Qj} {H:Hp}
end
end Go.Sky
namespace Go.Sky
def Zw7{ps:List Ze}(d:∀g∈ps,Gin g)(b:Xt ps=true){k m:Nat}(l:k<=m)(a:m<ps.length):(ps.getD k G0).1.2.1<=(ps.getD m G0).1.2.1:=by
 induction m with
 | zero=>
   obtain rfl:k=0:=O;exact fE _
 | succ m e=>
  rcases aX m k with h|h
  .obtain rfl:k=m+1:=O;exact fE _
  .have f:=e h O;have i:=Yg0 b a;have c:SgG (ps.getD (m+1) G0):=Iz (d _ (Zi a)) (Cr ((Oh b).1 _ a));have j:=c.t2;omega
def exC(ps:List Ze)(t:Int)(c:List Int):Int:=pl c (exA ps t) (exD ps t)/gS (ps.getD (exI ps t) G0).1.2.2 (exA ps t) (exD ps t) (ps.getD (exI ps t) G0).2.1.2 (ps.getD (exI ps t) G0).2.2.1.2 (ps.getD (exI ps t) G0).2.2.2.2 3
open Go.Proofs.Tryz
open Go.Proofs
set_option synthInstance.maxHeartbeats 0
set_option synthInstance.maxSize 100000
set_option maxRecDepth 20000
set_option linter.unusedSimpArgs false
def Zrf{v:Value}{ps:List Ze}(d:∀g∈ps,Gin g)(c:Xt ps=false):Xj prog 35 #[v] [Qi 6 Pz qG v ps] (.tuple #[.int .i64 0,.int .i64 0,.int .i64 2]):=by refine Zd func35 ntmps35 λh f e a=>go 11 ?_;refine cl 1 [1] (Om d) λ_ _=>?_;refine dt (dT (Yz J J) (aN (λb=>Value.bool (!b)) c))<|go 12 ?_;exact xe3 a () results35 J aA Za
def Zip{v:Value}(ps:List Ze)(h:∀g∈ps,Gin g)(c:Xt ps=true):Xj prog 35 #[v] [Qi 6 Pz qG v ps] (.tuple #[.int .i64 (spF ps),.int .i64 (spL ps),.int .i64 0]):=by refine Zd func35 ntmps35 λl k j a=>?_;refine Lh (Ev (i:=1) J Yf) (λd=>?_);obtain⟨-,e,f⟩:=Oh c;refine go 11 ?_;refine cl 1 [1] (Om h) λ_ _=>?_;refine dt (dF (Yz J J) (aN (λb=>Value.bool (!b)) c))<|go 6 ?_;refine Pd (λ_=>False) [(0,0),(1,0),(2,0),(3,0),(4,0),(5,0),(6,0),(7,0),(8,0),(9,0),(10,0),(11,0),(12,3),(13,3)]<|go 2 ⟨O,?_⟩;refine Qb J J (Pq (Zgh 1 J J J Yf Zfc J Dx J))<|Qb J J (Pq (Zgg 1 G0 J J J Yf iA3 J))<|go 4 ⟨O,?_⟩;refine Qb J J (Pq (Ym 1 (ps.length-1) J J J J Yf Zfb Zbx))<|Qb J J (Pq (Zgh 1 J J J Yf Zfc J Dx J))<|Qb J J (Pq (Zgg 1 G0 J J J Yf iA3 J))<|go 6 ?_;exact xe3 a () results35 J aA Za
def spX(g:Ze)(i:Nat)(s:Rat):Rat:=Zb (Ye i g.2.1.2 g.2.2.1.2 g.2.2.2.2) s
end Go.Sky

