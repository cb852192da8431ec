/- Rules, arithmetic and contracts: part 11. No conditions but those that each theorem names. -/
import Derived.Test.YthennaflbbajkaaGreatAf09
set_option linter.all false
namespace Go.Sky
variable{p q x y z x2 y2 z2:List Int}{a b:List Ze}{D ov ov2:Int}{zs:List GpT}{t:TypeId}{kd:IntKind}
theorem Zkd(h:Tr p):Yy p 1=p:=by unfold Yy;simp_all [mR,iH,kW,Zam]
def dk_one{a b:Int} : dfK p q a b 1=dfP p q a b:=Zkd (Qp _)
theorem Yk0{a b:Int} : sqK p q a b 1=sqP p q a b:=by unfold sqK sqP;rw [dk_one]
theorem ng_one(D ov ov2:Int):ngC [D,1,ov,ov2] 4=ngC [D,ov,ov2] 3:=by
 have c:ngC [D,1,ov,ov2] 1=ngC [D,ov,ov2] 1:=rfl;have t1:Tr (ngC [D,ov,ov2] 1):=(Zo9 _ 1).2.2;have d:ngC [D,1,ov,ov2] 2=ngC [D,ov,ov2] 1:=by show Yy _ 1=_;grind [Zkd]
 have e:ngC [D,1,ov,ov2] 3=ngC [D,ov,ov2] 2:=by show Yy _ ov=Yy _ ov;grind
 show Yy _ ov2=Yy _ ov2;grind
def fqS(ov ov2:Int)(x y z x2 y2 z2:List Int)(i:Nat):List Int:=sqP (Yg i x y z) (Yg i x2 y2 z2) ov ov2
def smS(D ov ov2:Int)(x y z x2 y2 z2:List Int)(i:Nat):List Int:=smP (ngC [D,ov,ov2] 3) (fqS ov ov2 x y z x2 y2 z2) i
def Yen(i:Nat):Yg i (1:Int) 1 1=1:=Bn (p:=λk=>k=1) rfl rfl rfl
theorem fsZ(D ov ov2:Int)(x y z x2 y2 z2:List Int):fmZ D 1 1 ov ov2 x y z x2 y2 z2=Yu (smS D ov ov2 x y z x2 y2 z2 3):=by
 have c:fqZ 1 1 ov ov2 x y z x2 y2 z2=fqS ov ov2 x y z x2 y2 z2:=mR λi=>by unfold fqZ fqS;rw [Yen,Yk0]
 unfold fmZ smZ smS cnZ;grind [ng_one]
def dsB(D:Int):Bool:=decide (0<=D) && decide (D<=4194304)
theorem ds_b(h:dsB D=true):0<=D/\D<=4194304:=by unfold dsB at h;grind
structure FsX (D ov ov2:Int) (x y z x2 y2 z2:List Int):Prop where
 X:∀i,FmX (Yg i x y z) (Yg i x2 y2 z2) ov ov2 1
 N:∀i,i<=3->NgX [D,ov,ov2] i
 Q:SmX (ngC [D,ov,ov2] 3) (fqS ov ov2 x y z x2 y2 z2)
theorem fsX{fr w d h:Int}(f:Sgo fr w ov x y z)(c:Sgo d h ov2 x2 y2 z2)(m:∀i,Ab KA (tzl (Yg i x y z)))(e:∀i,Ab KA (tzl (Yg i x2 y2 z2)))(o:dsB D=true):FsX D ov ov2 x y z x2 y2 z2:=by
 obtain⟨F,B⟩:=ds_b o;have r:=f.o1;have s:=f.o2;have u:=c.o1;have v:=c.o2;have g:∀i,FmX (Yg i x y z) (Yg i x2 y2 z2) ov ov2 1:=λi=>fmX (m i) (e i) (f.lc i).2 (c.lc i).2 ⟨r,s⟩ ⟨u,v⟩ ⟨O3,O3⟩;have n:∀i,([D,ov,ov2].getD i 0).natAbs<=4294967296:=λi=>by
  match i with
  | 0=>show D.natAbs<=_;omega
  | 1=>show ov.natAbs<=_;omega
  | 2=>show ov2.natAbs<=_;omega
  | i+3=>show(0:Int).natAbs<=_;decide
 refine⟨g,λi hi=>ngX n (aB hi O3),?_⟩;obtain⟨j,k,l⟩:=Zo9 [D,ov,ov2] 3;refine smX (j.mono ?_) k l (λi=>(g i).ab8) (λi=>(g i).l8);show 1*D.natAbs*D.natAbs*ov.natAbs*ov.natAbs*ov2.natAbs*ov2.natAbs<=2^190;refine aB (aS (aS (aS (aS (aS (aS (aI 1) (show D.natAbs<=4194304 by omega)) (show D.natAbs<=4194304 by omega)) (show ov.natAbs<=4294967296 by omega)) (show ov.natAbs<=4294967296 by omega)) (show ov2.natAbs<=4294967296 by omega)) (show ov2.natAbs<=4294967296 by omega)) O8
theorem Ym3(h:FsX D ov ov2 x y z x2 y2 z2):Cvd (fmZ D 1 1 ov ov2 x y z x2 y2 z2):=by rw [fsZ];exact h.Q.d
theorem cvd_gs(i:∀g∈a,Gin g)(j:∀g∈b,Gin g)(c:Xc a=true)(d:Xc b=true)(I:dsB D=true){xs ys:List Ze}(o:xs.map Ds=Iv a b a)(s:ys.map Ds=Iv a b b):∀g∈Gi D 1 1 a b,Cvd g.2.2:=λg n=>by
 unfold Gi at n;obtain⟨k,F,e⟩:=dG.1 n;rw [List.getElem_zipWith]at e;subst e;rw [List.length_zipWith]at F;have f:k<(Iv a b a).length:=O;have h:k<(Iv a b b).length:=O;have M:(Iv a b a)[k]∈xs.map Ds:=by rw [o];exact iV f
 have N:(Iv a b b)[k]∈ys.map Ds:=by rw [s];exact iV h
 obtain⟨q,G,w⟩:=eJ.1 M;obtain⟨r,H,B⟩:=eJ.1 N;obtain⟨u,l⟩:=Zqg i c o q G;obtain⟨v,m⟩:=Zqg j d s r H;rw [<-w,<-B];simp only [gpZ,Ds];exact Ym3 (fsX (Ie u l) (Ie v m) (Zok l) (Zok m) I)
theorem cvd_as(e:∀g∈a,Gin g)(f:∀g∈b,Gin g)(c:Xc a=true)(d:Xc b=true)(l:dsB D=true)(h:zs.map unP=Gi D 1 1 a b){k:Nat}(i:k<zs.length):Cvd (zs.getD k Gp0).2.2:=by
 have j:unP (zs.getD k Gp0)∈Gi D 1 1 a b:=by rw [<-h];exact eJ.2 ⟨_,Zk i,rfl⟩
 exact cvd_gs e f c d l (un_mk (Iv a b a)) (un_mk (Iv a b b)) _ j
section
variable {P:Program} {N:Nat} {sc:Nat->Prop} {env:Qk} {H:Hp}
theorem d_ix3i {o:Oper} {x y:Operand} {e:TypeId} {i:Nat}  {m d f g:Int} (n:o.op= .index t x y) (s:ev env x=some (.agg #[.int .i64 d,.int .i64 f,.int .i64 g])) (u:ev env y=some (.int kd m))
  (r:P.underlying t=some (.array 3 e)) (k:∀w,(sizeOf e).run P w= .ok 1 w) (j:∀w,(isAgg e).run P w= .ok false w) (c:m=(i:Int)) (l:i<3):Mv P N sc o env H (.int .i64 ([d,f,g].getD i 0)):=λa w hs=>by
 subst c;have h:i=0\/i=1\/i=2:=O;rcases h with rfl|rfl|rfl<;>simp [execOp,n,hs.ev s,hs.ev u,Instr.index,asIntOf,run_underlying r,k,j,asAgg,part]
end
theorem df_sel{X Y Z:List Int}(i:Nat)(c:X=dfP x x2 ov ov2)(d:Y=dfP y y2 ov ov2)(e:Z=dfP z z2 ov ov2):Yg i X Y Z=dfP (Yg i x y z) (Yg i x2 y2 z2) ov ov2:=by subst c d e;unfold Yg;split<;>rfl
end Go.Sky
namespace Go.Sky
open Go.RowKit Below
variable{ops:Array Oper}{o:Oper}{rest:List Oper}{d i:Nat}{x:Operand}{ops':List Operand}{tys:Array TypeId}{w0:World}{M:Nat->Prop}{Jx:World->Prop}{pre:List Pc}
variable {P:Program} {N:Nat} {sc:Nat->Prop} {env env':Qk} {H H':Hp} {Q Q':Exit->Act->World->Prop}
def fctP(p:Prop):Pc:={ own:=false,fp:=λ_=>False,holds:=λ_=>p,lt:=λ_ _ _ h=>h.elim,stable:=λ_ _ h _=>h }
theorem wtd{j e:Nat}{b:Bool}(h:o.guard=some (j,b))(k:(ops[j]?).bind (·.dst)=some e)(g:lk env e=some (.bool b))(c:Nat.blt e N=true):∀a w,Sat N sc env H a w->Region.wanted o (yielded ops a.tmps)=true:=λa w hs=>by have f:=hs.yielded k g c;simp [Region.wanted,h,f]
theorem Mm{v:Value}(f:Mv P N sc o env H v)(e:∀a w,Sat N sc env H a w->Region.wanted o (yielded ops a.tmps)=true)(c:o.dst=some d)(b:Nat.blt d N=true)(h:LI P N sc ops rest Q ((d,v)::env) H):LI P N sc ops (o::rest) Q env H:=λa w hs=>by unfold wpListIn;rw [aO (e a w hs)];refine⟨λ_ _=>trivial,?_⟩;show o.uponIn Fence.wide 0 P a _ Q ((execOp a.eval o).run P w);rw [f a w hs];show wpListIn Fence.wide 0 P ops Q rest (a.put o.dst v) w;rw [c];exact h _ w (hs.put d v b)
theorem Zdl (vs:List Value)(pre:List Pc)    {l:Nat}     {W:World}  {J:Nat->World->Prop}  {α G:Type} {xs:List α} {ys:α->G->List Value} {D:α->G->List Pc} 
  {k:Nat} (y:α) (g:G) (hY:YJI P w0 l M J Jx xs ys D) (hy:xs[k]? = some y) (hJ:J k W) (hW:w0.heap.size<=W.heap.size) (m:∀p∈pre,∀b,p.fp b->b<w0.heap.size/\¬M b)
  (ho:o.op= .call { callee:= .value x,args:=ops'.toArray,argTypes:=tys }) (hg:∀a w,Sat N sc env H a w->Region.wanted o (yielded ops a.tmps)=true) (hd:o.dst=some d) (Z:Nat.blt d N=true) (hx:ev env x=some (.func (.yield l) #[] #[])) (r:EvL env ops' vs) (S:vs=ys y g)
  (h0:lk H 0=some (Zt W (λ_=>False))) (u:∀p∈D y g,p.own=false/\(∀b,p.fp b->W.heap.size<=b)/\∃i I,lk H i=some I/\∀w,I.holds w->p.holds w)
  (v:AllRo pre) (n:HSub (Yl 1 pre) H)
  (ht:∀c,J (k+1) c->w0.heap.size<=c.heap.size->LI P N sc ops rest Q ((d,.bool true)::env) ((0,Zt c (λ_=>False))::Yl 1 pre))
  (hf:∀c,Jx c->w0.heap.size<=c.heap.size->LI P N sc ops rest Q ((d,.bool false)::env) ((0,Zt c (λ_=>False))::Yl 1 pre)):LI P N sc ops (o::rest) Q env H:=λa w hs=>by
 subst S;have Y:=Iz (hs.hold 0 _ h0);obtain⟨fn,F,f,s,z,j⟩:=hY k y g hy W w hJ hW Y (λp hp=>by obtain⟨h1,h2,i,I,hi,hh⟩:=u p hp;exact⟨hh w (hs.hold i I hi),h1,h2⟩)
 have R:(o.semAt Fence.wide.round a.eval).run P w= .ok (.round l fn F f s) w:=by show(execOp a.eval o).run P w=_;have hm:=r.map hs;have V:=hs.ev hx;simp [execOp,ho,resolve,invoke,Deferred.ofValue,hm,V,z,Sem.run_bind]
 unfold wpListIn;rw [aO (hg a w hs)];refine⟨λ_ _=>trivial,?_⟩;rw [R];refine⟨λh=>(by cases h),j.mono ?_⟩;have B:w0.heap.size<=w.heap.size:=aB hW Y.size;rintro e c (⟨rfl,q,t⟩|⟨rfl,q,t⟩)
 .show wpListIn Fence.wide 0 P ops Q rest (a.put o.dst _) c;rw [hd];exact ht c q (aB B t.size) _ c ((hs.base m v n t).put d _ Z)
 .show wpListIn Fence.wide 0 P ops Q rest (a.put o.dst _) c;rw [hd];exact hf c q (aB B t.size) _ c ((hs.base m v n t).put d _ Z)
theorem Zi2{α:Type}{ps:List α}{p:α->Bool}{d:α}(hi:i<ps.length)(b:p (ps.getD i d)=true):(ps.filter p)[((ps.take i).filter p).length]? = some (ps.getD i d):=by
 have h:=fJ i ps;have a:ps.drop i=ps.getD i d::ps.drop (i+1):=by rw [aN,aM hi,eY];exact dU hi
 conv=>lhs;arg 1;rw [<-h,a]
 rw [fI,eG b];simp
theorem Zzl{α:Type}{ps:List α}{p:α->Bool}{d:α}(hi:i<ps.length)(a:p (ps.getD i d)=true):((ps.take (i+1)).filter p).length=((ps.take i).filter p).length+1:=by rw [Pr d _ _ hi,fI,eG a,cF];rfl
theorem Zzm{α:Type}{ps:List α}{p:α->Bool}{d:α}(hi:i<ps.length)(a:p (ps.getD i d)=false):((ps.take (i+1)).filter p).length=((ps.take i).filter p).length:=by rw [Pr d _ _ hi,fI,fV (by rw [a];exact bF),cF];rfl
theorem Zf9{φ:Prop}{n:Nat}{H:Hp}{k:Pc}(h:φ)(c:lk H 0=some k):∀p∈[fctP φ],p.own=false/\(∀b,p.fp b->n<=b)/\∃i a,lk H i=some a/\∀w,a.holds w->p.holds w:=λp f=>by rw [bZ.1 f];exact⟨rfl,λb e=>e.elim,0,k,c,λ_ _=>h⟩
theorem fk_of{fn:Func}{al:Bool}{G:Type}{φ:G->Prop}{val:G->Value}{b:G->List Pc}(h:X N sc .ret (Zal P fn w0 pre al φ val b) env H):X N sc .ret (Zc6 P fn w0 pre al φ val b) env H:=λa w hs=>by obtain⟨e,v,f,c⟩:=h a w hs;show LeavesInM Fence.wide 0 P fn a.tmps _ a.defers .returning w;rw [e];exact⟨v,f,c⟩
end Go.Sky
namespace Go.Sky
variable{D x:Int}{a b:List Ze}{zs:List GpT}
theorem Ynn(e:∀g∈a,Gin g)(f:∀g∈b,Gin g)(c:Xc a=true)(d:Xc b=true)(l:dsB D=true)(h:zs.map unP=Gi D 1 1 a b):∀z∈zs,Cvd z.2.2:=λz j=>by obtain⟨k,i,rfl⟩:=iC j;have:=cvd_as e f c d l h i;rwa [aN,aM i]at this
def nbF(z:GpT):Bool:=Zes z.2.2
theorem Yoh{n d:Int}(h:zs.map unP=Gi D n d a b)(c:¬Eg a b≠0)(e:(zs.filter λz=>Zes z.2.2).length=0):apZ D n d a b=true:=by
 refine ap_no ?_ (eD.1 c);rw [fst_no h λi hi=>?_];cases hn:Zes (zs.getD i Gp0).2.2 with
 | false=>rfl
 | true=>
  have:zs.getD i Gp0∈zs.filter λz=>Zes z.2.2:=fM.2 ⟨Zk hi,hn⟩;rw [aH e]at this;cases this
theorem Yje{n d:Int}{k:Nat}{x:GpT}(h:zs.map unP=Gi D n d a b)(f:(zs.filter λz=>Zes z.2.2)[k]? = some x):apZ D n d a b=false:=by
 have c:=(fM.1 (dH f));refine ap_is ?_;cases hf:(Zie (Gi D n d a b)).2.2 with
 | true=>rfl
 | false=>
  exfalso;have e:Ym2 (Gi D n d a b)=none:=by
   cases he:Ym2 (Gi D n d a b)with
   | none=>rfl
   | some g=>unfold Zie at hf;rw [he]at hf;cases hf
  have:=lT.1 e (unP x) (by rw [<-h];exact eJ.2 ⟨x,c.1,rfl⟩);exact this c.2
open Go.RowKit Below
section
variable {P:Program} {N:Nat} {sc:Nat->Prop} {env:Qk} {H:Hp}
end
theorem rn_one(d:My x):Gn x 1=x/\Ir x 1=1:=by
 have c:Lf x 1=1:=by simp [Zpi]
 have f:¬Lb x 1:=by unfold Lb;rw [c,mC];have:=Eo d;have e:bl (1/1:Int).natAbs<=1:=O3;omega
 simp_all [Zbl,mC]
abbrev wtM (z:GpT) (u:R2):R2:=(Gn (u.1*(z.1.2-z.1.1)) (u.2*1),Ir (u.1*(z.1.2-z.1.1)) (u.2*1))
abbrev wtT (z:GpT) (u:R2):R2:=(Gn ((wtM z u).1*1+z.1.1*(wtM z u).2) ((wtM z u).2*1),Ir ((wtM z u).1*1+z.1.1*(wtM z u).2) ((wtM z u).2*1))
abbrev wtV (g:R2×Int):Value:= .tuple #[.agg #[.bool (decide (g.1.1<0)),.string (Xn (g.1.1).natAbs),.bool (decide (g.1.2<0)),.string (Xn (g.1.2).natAbs)],.int .i64 g.2]
theorem Yi7{g:Int}(h:g∣x)(d:g≠0):bl (x/g).natAbs<=bl x.natAbs:=by refine Ll ?_;obtain⟨c,rfl⟩:=h;simp_all [fA,bQ,kD]
theorem nrf{y:Int}(k:bl x.natAbs<=65536)(l:bl y.natAbs<=65536)(g:0<y):¬Lb x y/\bl (Gn x y).natAbs<=bl x.natAbs/\bl (Ir x y).natAbs<=bl y.natAbs/\0<Ir x y:=by
 have c:Lf x y≠0:=Zy5 O;have e:Lf x y∣x:=by grind [Zpi,Int.gcd_dvd_left]
 have f:Lf x y∣y:=by grind [Zpi,Int.gcd_dvd_right]
 have i:=Yi7 e c;have j:=Yi7 f c;have d:¬Lb x y:=λh=>by unfold Lb at h;omega
 refine⟨d,?_,?_,Zo8 d g⟩
 all_goals simp_all [Zbl]
def WtP(D:Int)(a b:List Ze)(g:R2×Int):Prop:=
 (Eg a b≠0/\g=((0,0),Eg a b))\/(Eg a b=0/\apZ D 1 1 a b=true/\g=((0,0),9))\/
  (Eg a b=0/\apZ D 1 1 a b=false/\g.2=0/\∃z:GpT,unP z∈Gi D 1 1 a b/\∃u,Fnd z.2.2 (qv (0,1)) (qv (1,1)) u/\g.1=wtT z u)
def prow(n i:Nat):List (Nat×Nat):=(List.range (n-(i+1))).map λj=>(i,i+1+j)
def prU(n:Nat):Nat->List (Nat×Nat)
 | 0=>[]
 | i+1=>prU n i ++ prow n i
abbrev prs (n:Nat):List (Nat×Nat):=prU n n
def lx(p q:Nat×Nat):Prop:=p.1<q.1\/(p.1=q.1/\p.2<q.2)
def PrI(D:Int)(c:List PT)(k:Nat):Prop:=∀j p,j<k->(prs c.length)[j]? = some p->apZ D 1 1 (pth c p.1) (pth c p.2)=true
end Go.Sky
namespace Go.Sky
def dfA(p q:List Int)(b a:Int)(t:Rat):Rat:=Zc p t*(a:Rat)-Zc q t*(b:Rat)
def fvE(D n d b a:Int)(x y z c e f:List Int)(t:Rat):Rat:=
 ((d:Rat)*dfA x c b a t)*((d:Rat)*dfA x c b a t)+((d:Rat)*dfA y e b a t)*((d:Rat)*dfA y e b a t)+((n:Rat)*dfA z f b a t)*((n:Rat)*dfA z f b a t)
  - ((D:Rat)*(d:Rat)*(b:Rat)*(a:Rat))*((D:Rat)*(d:Rat)*(b:Rat)*(a:Rat))
def fvU(D n d:Int)(g h:Zht)(t:Rat):Rat:=fvE D n d g.1.2.2 h.1.2.2 g.2.1 g.2.2.1 g.2.2.2 h.2.1 h.2.2.1 h.2.2.2 t
def gZ(o:Int)(l:List Int):Nat->Int
 | 0=>o
 | i+1=>(Int.gcd (gZ o l i) (cf l i):Int)
def plC(a d:Int)(x y z:List Int)(t:Nat):Int:=pl (Yg t x y z) a d
def lowL(o:Int)(l:List Int):List Int:=mk 3 λt=>cf l t/gZ o l 3
def me_no{g h:Ze}(a:h.1.1≠g.1.2.1):meG g h=false:=by unfold meG Zkx;rw [aF (λe=>a e.symm)];rfl
def lastB(ps:List Ze)(t:Int):Bool:=decide (spF ps<=t) && decide (t<=spL ps)
def exI(ps:List Ze)(t:Int):Nat:=ps.findIdx λg=>decide (t<=g.1.2.1)
def Yhu{ps:List Ze}(b:Xc ps=true){i:Nat}(hi:i+1<ps.length):(ps.getD (i+1) G0).1.1=(ps.getD i G0).1.2.1:=by have h:=(Oi b).1 (i+1) hi;have a:=Zkj (Cz h) (mE i);rw [h]at a;refine bC λc=>?_;have:=me_no (g:=ps.getD i G0) (h:=ps.getD (i+1) G0) c;rw [show i+1-1=i from rfl,this]at a;cases a
def exA(ps:List Ze)(t:Int):Int:=t-(ps.getD (exI ps t) G0).1.1
def exD(ps:List Ze)(t:Int):Int:=(ps.getD (exI ps t) G0).1.2.1-(ps.getD (exI ps t) G0).1.1
def exO(ps:List Ze)(t:Int):Int:=(ps.getD (exI ps t) G0).1.2.2*exD ps t^5/gS (ps.getD (exI ps t) G0).1.2.2 (exA ps t) (exD ps t) (ps.getD (exI ps t) G0).2.1.2 (ps.getD (exI ps t) G0).2.2.1.2 (ps.getD (exI ps t) G0).2.2.2.2 3
def exL(ps:List Ze)(t:Int):List Int:=lowL ((ps.getD (exI ps t) G0).1.2.2*exD ps t^5) (mk 3 (plC (exA ps t) (exD ps t) (ps.getD (exI ps t) G0).2.1.2 (ps.getD (exI ps t) G0).2.2.1.2 (ps.getD (exI ps t) G0).2.2.2.2))
section
variable {P:Program} {N:Nat} {sc:Nat->Prop} {env:Qk} {H:Hp}
end
end Go.Sky
namespace Go.Sky
def Zxp{ps:List Ze}(d:∀g∈ps,Gin g)(b:Xc ps=true){k m:Nat}(l:k<=m)(a:m<ps.length):(ps.getD k G0).1.2.1<=(ps.getD m G0).1.2.1:=by
 induction m with
 | zero=>
   obtain rfl:k=0:=O;exact eV _
 | succ m e=>
  rcases aW m k with h|h
  .obtain rfl:k=m+1:=O;exact eV _
  .have f:=e h O;have i:=Yhu b a;have c:SgG (ps.getD (m+1) G0):=Ie (d _ (Zk a)) (Cz ((Oi b).1 _ a));have j:=c.t2;omega
def exC(ps:List Ze)(t:Int)(c:List Int):Int:=pl c (exA ps t) (exD ps t)/gS (ps.getD (exI ps t) G0).1.2.2 (exA ps t) (exD ps t) (ps.getD (exI ps t) G0).2.1.2 (ps.getD (exI ps t) G0).2.2.1.2 (ps.getD (exI ps t) G0).2.2.2.2 3
def spX(g:Ze)(i:Nat)(s:Rat):Rat:=Zc (Yg i g.2.1.2 g.2.2.1.2 g.2.2.2.2) s
def exN(ps:List Ze)(t:Int)(i:Nat):Int:=exC ps t (Yg i (ps.getD (exI ps t) G0).2.1.2 (ps.getD (exI ps t) G0).2.2.1.2 (ps.getD (exI ps t) G0).2.2.2.2)
def rdN(ps:List Ze)(t:Int)(i:Nat):Int:=(exN ps t i+exN ps t i+exO ps t)/(exO ps t+exO ps t)
def rdL(ps:List Ze)(t:Int):Nat->List Int
 | 0=>[0,0,0]
 | i+1=>(rdL ps t i).set i (rdN ps t i)
structure AtB (n o:Int):Prop where
 b1:bl n.natAbs<=30000
 b2:bl o.natAbs<=30000
 n2:bl (n+n).natAbs<=30000
 o2:bl (o+o).natAbs<=30000
 s:bl (n+n+o).natAbs<=30000
 z:o+o≠0
 q:((n+n+o)/(o+o)).natAbs<=9223372036854775807
section
variable {P:Program} {N:Nat} {sc:Nat->Prop} {env:Qk} {H:Hp}
end
end Go.Sky
namespace Go.Sky
def SmP(g:Ze)(s:Rat)(h:Ze)(u:Rat):Prop:=∀i,i<3->spX g i s*(h.1.2.2:Rat)=spX h i u*(g.1.2.2:Rat)
def SmP.symm{g h:Ze}{s u:Rat}(e:SmP g s h u):SmP h u g s:=λi hi=>(e i hi).symm
def SmP.trans{g h k:Ze}{s u v:Rat}(a:(h.1.2.2:Rat)≠0)(e:SmP g s h u)(f:SmP h u k v):SmP g s k v:=λi hi=>by
 have b:=e i hi;have c:=f i hi;have:(spX g i s*(k.1.2.2:Rat)-spX k i v*(g.1.2.2:Rat))*(h.1.2.2:Rat)=0:=O4;rcases Rat.mul_eq_zero.1 this with q|q
 .grind
 .exact absurd q a
def sTm(g:Ze)(t:Int):Rat:=((t-g.1.1:Int):Rat)/((g.1.2.1-g.1.1:Int):Rat)
section
variable {D n d:Int} {a b:List Ze} (hpa:∀g∈a,Gin g) (hpb:∀g∈b,Gin g) (hba:Xc a=true) (hbb:Xc b=true) (hz:znB D n d=true)
include hpa hpb hba hbb hz
end
end Go.Sky
namespace Go.Sky
def NrP(a b:List Ze)(g:Int×Int):Prop:=
 (Eg a b≠0/\g=(0,Eg a b))\/(Eg a b=0/\Gi 0 1 1 a b=[]/\g=(0,9))\/
  (Eg a b=0/\Gi 0 1 1 a b≠[]/\g.2=0/\0<=g.1/\g.1<=4194304/\∀k,1<=k->k<=4194304->apZ k 1 1 a b=decide (k<=g.1))
section
variable {a b:List Ze} (hpa:∀g∈a,Gin g) (hpb:∀g∈b,Gin g) (hba:Xc a=true) (hbb:Xc b=true)
include hpa hpb hba hbb
end
def NrS(a b:List Ze)(r:Nat):Prop:=r<=4194304/\(∀k,k<r->apZ ((k:Int)+1) 1 1 a b=true)/\∀k,r<=k->k<4194304->apZ ((k:Int)+1) 1 1 a b=false
theorem ds_in{k:Int}(c:0<=k)(d:k<=4194304):dsB k=true:=by unfold dsB;grind
section
variable {a b:List Ze} (hpa:∀g∈a,Gin g) (hpb:∀g∈b,Gin g) (hba:Xc a=true) (hbb:Xc b=true)
include hpa hpb hba hbb
end
def Ymi(fr j d e f h c i k:Int)(s:SL×SL×SL):Ze:=((fr,j,1),(s.1,tmL d h k),(s.2.1,tmL e c k),(s.2.2,tmL f i k))
def gv0(s:SL×SL×SL):Ze:=Ymi 0 1000 0 0 0 1000 0 0 1 s
def gv1(s:SL×SL×SL):Ze:=Ymi 0 1000 1000 300 0 0 300 0 1 s
def gv2(s:SL×SL×SL):Ze:=Ymi 500 2000 0 700 0 0 700 0 2 s
def gvL(s:SL×SL×SL):Ze:=Ymi 1000 2000 0 0 0 1000 0 0 1 s
section
variable (s t:SL×SL×SL)
end
end Go.Sky
namespace Go.Sky
def shG(b:Int)(g:Ze):Ze:=((g.1.1+b,g.1.2.1+b,g.1.2.2),g.2)
def shK(b:Int)(ps:List Ze)(k:Nat):List Ze:=(ps.take k).map (shG b) ++ ps.drop k
abbrev shA (b:Int) (x:Ze):Ze:=((x.1.1+b,x.1.2.1,x.1.2.2),x.2)
abbrev shB (b:Int) (x:Ze):Ze:=((x.1.1,x.1.2.1+b,x.1.2.2),x.2)
def Yd4{ps:List Ze}(b:∀g∈ps,Gin g)(a:Xc ps=true):0<=spF ps/\spF ps<=3600000/\0<=spL ps/\spL ps<=3600000:=by have c:=(Oi a).2.1;have s:SgG (ps.getD 0 G0):=Ie (b _ (Zk O)) (Cz ((Oi a).1 _ O));have t:SgG (ps.getD (ps.length-1) G0):=Ie (b _ (Zk O)) (Cz ((Oi a).1 _ O));have d:=s.t1;have e:=s.t2;have f:=s.t3;have t1:=t.t1;have t2:=t.t2;have t3:=t.t3;unfold spF spL;omega
def ShR(ps:List Ze)(y:Int)(zs:List Ze)(e:Int):Prop:=(e=3/\(y < -(spF ps)\/y>3600000-spL ps))\/(e=0/\¬y < -(spF ps)/\¬y>3600000-spL ps/\zs.map Ds=(ps.map (shG y)).map Ds)
open Go.RowKit Below
variable {P:Program} {N:Nat} {sc:Nat->Prop} {env env':Qk} {H H':Hp} {Q Q':Exit->Act->World->Prop} {M:Nat->Prop}
def emp:Pc:=⟨false,λ_=>False,λ_=>True,λ_ _ _ h=>h.elim,λ_ _ _ _=>trivial⟩
def l3(z:Ze)(i:Nat):SL×List Int:=Yg i z.2.1 z.2.2.1 z.2.2.2
abbrev olz (e:TypeId) (p:SL×List Int):Pc:=Nc 1 e Xi (Yx p.1) p.2
def ol3(e:TypeId)(zs:List Ze):Pc:=
 {own:=true
  fp:=λb=>∃k i,k<zs.length/\i<3/\(olz e (l3 (zs.getD k G0) i)).fp b
  holds:=λw=>(∀k i,k<zs.length->i<3->(olz e (l3 (zs.getD k G0) i)).holds w)/\∀k i m j b,k<zs.length->i<3->m<zs.length->j<3->(olz e (l3 (zs.getD k G0) i)).fp b->(olz e (l3 (zs.getD m G0) j)).fp b->k=m/\i=j
  lt:=λw b h ⟨k,i,c,hi,d⟩=>(olz e _).lt w b (h.1 k i c hi) d
  stable:=λw n h a=>⟨λk i c hi=>(olz e _).stable w n (h.1 k i c hi) ⟨a.os,a.tape,a.output,a.size,λb d g=>a.block b d (λf=>g (λl=>f ⟨k,i,c,hi,l⟩))⟩,h.2⟩ }
def opa(e s:TypeId)(v:Value)(zs:List Ze):Pc:=
 {own:=true
  fp:=λb=>v.ownBlock=some b\/(ol3 e zs).fp b
  holds:=λw=>(Nc 6 s Pw v zs).holds w/\(ol3 e zs).holds w/\∀b,v.ownBlock=some b->(ol3 e zs).fp b->False
  lt:=λw b h c=>c.elim (λc=>(Nc 6 s Pw v zs).lt w b h.1 c) (λc=>(ol3 e zs).lt w b h.2.1 c)
  stable:=λw i h a=>⟨(Nc 6 s Pw v zs).stable w i h.1 ⟨a.os,a.tape,a.output,a.size,λb c f=>a.block b c (λd=>f (λg=>d (.inl g)))⟩,(ol3 e zs).stable w i h.2.1 ⟨a.os,a.tape,a.output,a.size,λb c f=>a.block b c (λd=>f (λg=>d (.inr g)))⟩,h.2.2⟩ }
def Sat.drop{a:Act}{w:World}(h:Sat N sc env H a w)(j:Nat):Sat N sc env ((j,emp)::H) a w:=
 h.add j emp aA (λ_ _ _ _ _ _ b=>b.elim) (λ_ b=>b.elim)
def stL(z:Ze)(i j:Nat)(u:Int):Ze:=(z.1,if i=0 then(z.2.1.1,z.2.1.2.set j u)else z.2.1,if i=1 then(z.2.2.1.1,z.2.2.1.2.set j u)else z.2.2.1,if i=2 then(z.2.2.2.1,z.2.2.2.2.set j u)else z.2.2.2)
end Go.Sky
namespace Go.Sky
abbrev S3T:=SL×SL×SL
abbrev GvT:=(S3T×S3T×S3T)×(SL×SL×SL)
def gvs(q:GvT):List PT:=[(q.2.1,[gv0 q.1.1]),(q.2.2.1,[gv1 q.1.2.1]),(q.2.2.2,[gv2 q.1.2.2])]
def NrL(a b:List Ze)(c hi:Int):Prop:=0<=c/\c<=hi/\hi<=4194304/\(∀k,1<=k->k<=c->apZ k 1 1 a b=true)/\∀k,hi<k->k<=4194304->apZ k 1 1 a b=false
section
variable {a b:List Ze} (hpa:∀g∈a,Gin g) (hpb:∀g∈b,Gin g) (hba:Xc a=true) (hbb:Xc b=true)
include hpa hpb hba hbb
end
end Go.Sky
namespace Go.Sky
def sR(g:Ze)(t:Rat):Rat:=(t-(g.1.1:Rat))/((g.1.2.1-g.1.1:Int):Rat)
def InG(g:Ze)(t:Rat):Prop:=(g.1.1:Rat)<=t/\t<=(g.1.2.1:Rat)
def pzQ(g:Ze)(i:Nat)(s:Rat):Rat:=spX g i s/(g.1.2.2:Rat)
def dQ(g h:Ze)(s u:Rat):Rat:=(pzQ g 0 s-pzQ h 0 u)*(pzQ g 0 s-pzQ h 0 u)+(pzQ g 1 s-pzQ h 1 u)*(pzQ g 1 s-pzQ h 1 u)+(pzQ g 2 s-pzQ h 2 u)*(pzQ g 2 s-pzQ h 2 u)
structure Pcs (a b:List Ze) (n:Nat) (T:Nat->Int) (ua ub:Nat->Zht) (ja jb:Nat->Nat):Prop where
 n1:1<=n
 t0:T 0=cmF a b
 tn:T n=cmL a b
 lt:∀k,k<n->T k<T (k+1)/\cmF a b<=T k/\T (k+1)<=cmL a b
 la:∀k,k<n->ja k<a.length/\(a.getD (ja k) G0).1.1<=T k/\T (k+1)<=(a.getD (ja k) G0).1.2.1
 lb:∀k,k<n->jb k<b.length/\(b.getD (jb k) G0).1.1<=T k/\T (k+1)<=(b.getD (jb k) G0).1.2.1
 pa:∀k,k<n->SgG (mkS (ua k))/\(∃G,Prt (mkS (ua k)) (a.getD (ja k) G0) G)/\(ua k).1.1=T k/\(ua k).1.2.1=T (k+1)
 pb:∀k,k<n->SgG (mkS (ub k))/\(∃G,Prt (mkS (ub k)) (b.getD (jb k) G0) G)/\(ub k).1.1=T k/\(ub k).1.2.1=T (k+1)
 ra:Iv a b a=(List.range n).map ua
 rb:Iv a b b=(List.range n).map ub
section
variable {a b:List Ze} (hpa:∀g∈a,Gin g) (hpb:∀g∈b,Gin g) (hba:Xc a=true) (hbb:Xc b=true)
include hpa hpb hba hbb
end
end Go.Sky

