/- Rules, arithmetic and contracts: part 11. No conditions but those that each theorem names. -/
import Derived.Test.YthennaflbbajkaaGreatAk09
set_option linter.all false
namespace Go.Sky
variable{p q x y z x2 y2 z2:List Int}{a b:List Zd}{D ov ov2:Int}{zs:List GpT}{t:TypeId}{kd:IntKind}
theorem Zlg(h:Tr p):Yo p 1=p:=by unfold Yo;simp_all [nM,iF,mB,Za2]
def dk_one{a b:Int} : dfK p q a b 1=dfP p q a b:=Zlg (Qt _)
theorem Yne{a b:Int} : sqK p q a b 1=sqP p q a b:=by unfold sqK sqP;rw [dk_one]
theorem ng_one(D ov ov2:Int):ngC [D,1,ov,ov2] 4=ngC [D,ov,ov2] 3:=by
 have c:ngC [D,1,ov,ov2] 1=ngC [D,ov,ov2] 1:=rfl;have t1:Tr (ngC [D,ov,ov2] 1):=(Zqc _ 1).2.2;have d:ngC [D,1,ov,ov2] 2=ngC [D,ov,ov2] 1:=by show Yo _ 1=_;grind [Zlg]
 have e:ngC [D,1,ov,ov2] 3=ngC [D,ov,ov2] 2:=by show Yo _ ov=Yo _ ov;grind
 show Yo _ ov2=Yo _ ov2;grind
def fqS(ov ov2:Int)(x y z x2 y2 z2:List Int)(i:Nat):List Int:=sqP (Ya i x y z) (Ya i x2 y2 z2) ov ov2
def smS(D ov ov2:Int)(x y z x2 y2 z2:List Int)(i:Nat):List Int:=smP (ngC [D,ov,ov2] 3) (fqS ov ov2 x y z x2 y2 z2) i
def Ygc(i:Nat):Ya i (1:Int) 1 1=1:=Eu (p:=λk=>k=1) rfl rfl rfl
theorem fsZ(D ov ov2:Int)(x y z x2 y2 z2:List Int):fmZ D 1 1 ov ov2 x y z x2 y2 z2=Yw (smS D ov ov2 x y z x2 y2 z2 3):=by
 have c:fqZ 1 1 ov ov2 x y z x2 y2 z2=fqS ov ov2 x y z x2 y2 z2:=nM λi=>by unfold fqZ fqS;rw [Ygc,Yne]
 unfold fmZ smZ smS cnZ;grind [ng_one]
def dsB(D:Int):Bool:=decide (0<=D) && decide (D<=4194304)
theorem ds_b(h:dsB D=true):0<=D/\D<=4194304:=by unfold dsB at h;grind
structure FsX (D ov ov2:Int) (x y z x2 y2 z2:List Int):Prop where
 X:∀i,FmX (Ya i x y z) (Ya i x2 y2 z2) ov ov2 1
 N:∀i,i<=3->NgX [D,ov,ov2] i
 Q:SmX (ngC [D,ov,ov2] 3) (fqS ov ov2 x y z x2 y2 z2)
theorem fsX{fr to d h:Int}(f:Sgo fr to ov x y z)(c:Sgo d h ov2 x2 y2 z2)(m:∀i,Ab KA (tzl (Ya i x y z)))(e:∀i,Ab KA (tzl (Ya i x2 y2 z2)))(o:dsB D=true):FsX D ov ov2 x y z x2 y2 z2:=by
 obtain⟨B,w⟩:=ds_b o;have r:=f.o1;have s:=f.o2;have u:=c.o1;have v:=c.o2;have g:∀i,FmX (Ya i x y z) (Ya i x2 y2 z2) ov ov2 1:=λi=>fmX (m i) (e i) (f.lc i).2 (c.lc i).2 ⟨r,s⟩ ⟨u,v⟩ ⟨O4,O4⟩;have n:∀i,([D,ov,ov2].getD i 0).natAbs<=4294967296:=λi=>by
  match i with
  | 0=>show D.natAbs<=_;omega
  | 1=>show ov.natAbs<=_;omega
  | 2=>show ov2.natAbs<=_;omega
  | i+3=>show(0:Int).natAbs<=_;decide
 refine⟨g,λi hi=>ngX n (aB hi O4),?_⟩;obtain⟨j,k,l⟩:=Zqc [D,ov,ov2] 3;refine smX (j.mono ?_) k l (λi=>(g i).ab8) (λi=>(g i).l8);show 1*D.natAbs*D.natAbs*ov.natAbs*ov.natAbs*ov2.natAbs*ov2.natAbs<=2^190;refine aB (aU (aU (aU (aU (aU (aU (aI 1) (show D.natAbs<=4194304 by omega)) (show D.natAbs<=4194304 by omega)) (show ov.natAbs<=4294967296 by omega)) (show ov.natAbs<=4294967296 by omega)) (show ov2.natAbs<=4294967296 by omega)) (show ov2.natAbs<=4294967296 by omega)) O9
theorem Ypn(h:FsX D ov ov2 x y z x2 y2 z2):Cvd (fmZ D 1 1 ov ov2 x y z x2 y2 z2):=by rw [fsZ];exact h.Q.d
theorem Yko(i:∀g∈a,Gin g)(j:∀g∈b,Gin g)(c:Yg a=true)(d:Yg b=true)(I:dsB D=true){xs ys:List Zd}(o:xs.map Ei=Lt a b a)(s:ys.map Ei=Lt a b b):∀g∈Ie D 1 1 a b,Cvd g.2.2:=λg n=>by
 unfold Ie at n;obtain⟨k,F,e⟩:=dI.1 n;rw [List.getElem_zipWith]at e;subst e;rw [List.length_zipWith]at F;have f:k<(Lt a b a).length:=O1;have h:k<(Lt a b b).length:=O1;have M:(Lt a b a)[k]∈xs.map Ei:=by rw [o];exact jP f
 have N:(Lt a b b)[k]∈ys.map Ei:=by rw [s];exact jP h
 obtain⟨q,G,w⟩:=dP.1 M;obtain⟨r,H,B⟩:=dP.1 N;obtain⟨u,l⟩:=Zrs i c o q G;obtain⟨v,m⟩:=Zrs j d s r H;rw [<-w,<-B];simp only [gpZ,Ei];exact Ypn (fsX (Oo u l) (Oo v m) (Zpj l) (Zpj m) I)
theorem cvd_as(e:∀g∈a,Gin g)(f:∀g∈b,Gin g)(c:Yg a=true)(d:Yg b=true)(l:dsB D=true)(h:zs.map unP=Ie D 1 1 a b){k:Nat}(i:k<zs.length):Cvd (zs.getD k Gp0).2.2:=by
 have j:unP (zs.getD k Gp0)∈Ie D 1 1 a b:=by rw [<-h];exact dP.2 ⟨_,Zg i,rfl⟩
 exact Yko e f c d l (Zy5 (Lt a b a)) (Zy5 (Lt a b b)) _ j
section
variable {P:Program} {N:Nat} {sc:Nat->Prop} {env:Qm} {H:Hp}
theorem d_ix3i {o:Oper} {x y:Operand} {e:TypeId} {i:Nat}  {m d f g:Int} (n:o.op= .index t x y) (s:ev env x=some (.agg #[.int .i64 d,.int .i64 f,.int .i64 g])) (u:ev env y=some (.int kd m))
  (r:P.underlying t=some (.array 3 e)) (k:∀w,(sizeOf e).run P w= .ok 1 w) (j:∀w,(isAgg e).run P w= .ok false w) (c:m=(i:Int)) (l:i<3):Ld P N sc o env H (.int .i64 ([d,f,g].getD i 0)):=λa w hs=>by
 subst c;have h:i=0\/i=1\/i=2:=O1;rcases h with rfl|rfl|rfl<;>simp [execOp,n,hs.ev s,hs.ev u,Instr.index,asIntOf,run_underlying r,k,j,asAgg,part]
end
theorem df_sel{X Y Z:List Int}(i:Nat)(c:X=dfP x x2 ov ov2)(d:Y=dfP y y2 ov ov2)(e:Z=dfP z z2 ov ov2):Ya i X Y Z=dfP (Ya i x y z) (Ya i x2 y2 z2) ov ov2:=by subst c d e;unfold Ya;split<;>rfl
end Go.Sky
namespace Go.Sky
open Go.RowKit Below
variable{ops:Array Oper}{rest:List Oper}{d i:Nat}{x:Operand}{ops':List Operand}{tys:Array TypeId}{w0:World}{M:Nat->Prop}{Jx:World->Prop}{pre:List Pc}
variable {P:Program} {N:Nat} {sc:Nat->Prop} {env env':Qm} {H H':Hp} {Q Q':Exit->Act->World->Prop}
def fctP(p:Prop):Pc:={ own:=false,fp:=λ_=>False,holds:=λ_=>p,lt:=λ_ _ _ h=>h.elim,stable:=λ_ _ h _=>h }
theorem wtd{o:Oper}{j e:Nat}{b:Bool}(h:o.guard=some (j,b))(k:(ops[j]?).bind (·.dst)=some e)(g:lk env e=some (.bool b))(c:Nat.blt e N=true):∀a w,Sat N sc env H a w->Region.wanted o (yielded ops a.tmps)=true:=λa w hs=>by have f:=hs.yielded k g c;simp [Region.wanted,h,f]
theorem Mu{o:Oper}{v:Value}(f:Ld P N sc o env H v)(e:∀a w,Sat N sc env H a w->Region.wanted o (yielded ops a.tmps)=true)(c:o.dst=some d)(b:Nat.blt d N=true)(h:LI P N sc ops rest Q ((d,v)::env) H):LI P N sc ops (o::rest) Q env H:=λa w hs=>by unfold wpListIn;rw [aO (e a w hs)];refine⟨λ_ _=>trivial,?_⟩;show o.uponIn Fence.wide 0 P a _ Q ((execOp a.eval o).run P w);rw [f a w hs];show wpListIn Fence.wide 0 P ops Q rest (a.put o.dst v) w;rw [c];exact h _ w (hs.put d v b)
theorem Zec (vs:List Value)(pre:List Pc)   {o:Oper} {l:Nat}     {W:World}  {J:Nat->World->Prop}  {α G:Type} {xs:List α} {ys:α->G->List Value} {D:α->G->List Pc} 
  {k:Nat} (y:α) (g:G) (hY:YJI P w0 l M J Jx xs ys D) (hy:xs[k]? = some y) (hJ:J k W) (hW:w0.heap.size<=W.heap.size) (m:∀p∈pre,∀b,p.fp b->b<w0.heap.size/\¬M b)
  (ho:o.op= .call { callee:= .value x,args:=ops'.toArray,argTypes:=tys }) (hg:∀a w,Sat N sc env H a w->Region.wanted o (yielded ops a.tmps)=true) (hd:o.dst=some d) (Z:Nat.blt d N=true) (hx:ev env x=some (.func (.yield l) #[] #[])) (r:EvL env ops' vs) (S:vs=ys y g)
  (h0:lk H 0=some (Zy W (λ_=>False))) (u:∀p∈D y g,p.own=false/\(∀b,p.fp b->W.heap.size<=b)/\∃i I,lk H i=some I/\∀w,I.holds w->p.holds w)
  (v:AllRo pre) (n:HSub (Yn 1 pre) H)
  (ht:∀c,J (k+1) c->w0.heap.size<=c.heap.size->LI P N sc ops rest Q ((d,.bool true)::env) ((0,Zy c (λ_=>False))::Yn 1 pre))
  (hf:∀c,Jx c->w0.heap.size<=c.heap.size->LI P N sc ops rest Q ((d,.bool false)::env) ((0,Zy c (λ_=>False))::Yn 1 pre)):LI P N sc ops (o::rest) Q env H:=λa w hs=>by
 subst S;have Y:=Hk (hs.hold 0 _ h0);obtain⟨fn,F,f,s,z,j⟩:=hY k y g hy W w hJ hW Y (λp hp=>by obtain⟨h1,h2,i,I,hi,hh⟩:=u p hp;exact⟨hh w (hs.hold i I hi),h1,h2⟩)
 have R:(o.semAt Fence.wide.round a.eval).run P w= .ok (.round l fn F f s) w:=by show(execOp a.eval o).run P w=_;have hm:=r.map hs;have V:=hs.ev hx;simp [execOp,ho,resolve,invoke,Deferred.ofValue,hm,V,z,Sem.run_bind]
 unfold wpListIn;rw [aO (hg a w hs)];refine⟨λ_ _=>trivial,?_⟩;rw [R];refine⟨λh=>(by cases h),j.mono ?_⟩;have B:w0.heap.size<=w.heap.size:=aB hW Y.size;rintro e c (⟨rfl,q,t⟩|⟨rfl,q,t⟩)
 .show wpListIn Fence.wide 0 P ops Q rest (a.put o.dst _) c;rw [hd];exact ht c q (aB B t.size) _ c ((hs.base m v n t).put d _ Z)
 .show wpListIn Fence.wide 0 P ops Q rest (a.put o.dst _) c;rw [hd];exact hf c q (aB B t.size) _ c ((hs.base m v n t).put d _ Z)
theorem Zjy{α:Type}{ps:List α}{p:α->Bool}{d:α}(hi:i<ps.length)(b:p (ps.getD i d)=true):(ps.filter p)[((ps.take i).filter p).length]? = some (ps.getD i d):=by
 have h:=fT i ps;have a:ps.drop i=ps.getD i d::ps.drop (i+1):=by rw [aJ,aL hi,fA];exact eU hi
 conv=>lhs;arg 1;rw [<-h,a]
 rw [fS,eO b];simp
theorem Ya2{α:Type}{ps:List α}{p:α->Bool}{d:α}(hi:i<ps.length)(a:p (ps.getD i d)=true):((ps.take (i+1)).filter p).length=((ps.take i).filter p).length+1:=by rw [Pu d _ _ hi,fS,eO a,cM];rfl
theorem Ya3{α:Type}{ps:List α}{p:α->Bool}{d:α}(hi:i<ps.length)(a:p (ps.getD i d)=false):((ps.take (i+1)).filter p).length=((ps.take i).filter p).length:=by rw [Pu d _ _ hi,fS,gL (by rw [a];exact bG),cM];rfl
theorem Zha{φ:Prop}{n:Nat}{H:Hp}{k:Pc}(h:φ)(c:lk H 0=some k):∀p∈[fctP φ],p.own=false/\(∀b,p.fp b->n<=b)/\∃i a,lk H i=some a/\∀w,a.holds w->p.holds w:=λp f=>by rw [cE.1 f];exact⟨rfl,λb e=>e.elim,0,k,c,λ_ _=>h⟩
theorem fk_of{fn:Func}{al:Bool}{G:Type}{φ:G->Prop}{val:G->Value}{b:G->List Pc}(h:X N sc .ret (Za1 P fn w0 pre al φ val b) env H):X N sc .ret (Zdw P fn w0 pre al φ val b) env H:=λa w hs=>by obtain⟨e,v,f,c⟩:=h a w hs;show LeavesInM Fence.wide 0 P fn a.tmps _ a.defers .returning w;rw [e];exact⟨v,f,c⟩
end Go.Sky
namespace Go.Sky
variable{D x:Int}{a b:List Zd}{zs:List GpT}
theorem Yp8(e:∀g∈a,Gin g)(f:∀g∈b,Gin g)(c:Yg a=true)(d:Yg b=true)(l:dsB D=true)(h:zs.map unP=Ie D 1 1 a b):∀z∈zs,Cvd z.2.2:=λz j=>by obtain⟨k,i,rfl⟩:=fO j;have:=cvd_as e f c d l h i;rwa [aJ,aL i]at this
def nbF(z:GpT):Bool:=Zcq z.2.2
theorem Yq3{n d:Int}(h:zs.map unP=Ie D n d a b)(c:¬Ga a b≠0)(e:(zs.filter λz=>Zcq z.2.2).length=0):apZ D n d a b=true:=by
 refine ap_no ?_ (fM.1 c);rw [fst_no h λi hi=>?_];cases hn:Zcq (zs.getD i Gp0).2.2 with
 | false=>rfl
 | true=>
  have:zs.getD i Gp0∈zs.filter λz=>Zcq z.2.2:=fN.2 ⟨Zg hi,hn⟩;rw [aK e]at this;cases this
theorem Ylp{n d:Int}{k:Nat}{x:GpT}(h:zs.map unP=Ie D n d a b)(f:(zs.filter λz=>Zcq z.2.2)[k]? = some x):apZ D n d a b=false:=by
 have c:=(fN.1 (dD f));refine ap_is ?_;cases hf:(Zen (Ie D n d a b)).2.2 with
 | true=>rfl
 | false=>
  exfalso;have e:Ydz (Ie D n d a b)=none:=by
   cases he:Ydz (Ie D n d a b)with
   | none=>rfl
   | some g=>unfold Zen at hf;rw [he]at hf;cases hf
  have:=jB.1 e (unP x) (by rw [<-h];exact dP.2 ⟨x,c.1,rfl⟩);exact this c.2
open Go.RowKit Below
section
variable {P:Program} {N:Nat} {sc:Nat->Prop} {env:Qm} {H:Hp}
end
theorem rn_one(d:La x):Fe x 1=x/\Hd x 1=1:=by
 have c:Nw x 1=1:=by simp [Zib]
 have f:¬Li x 1:=by unfold Li;rw [c,nA];have:=Dw d;have e:bl (1/1:Int).natAbs<=1:=O4;omega
 simp_all [Za8,nA]
abbrev wtM (z:GpT) (u:R2):R2:=(Fe (u.1*(z.1.2-z.1.1)) (u.2*1),Hd (u.1*(z.1.2-z.1.1)) (u.2*1))
abbrev wtT (z:GpT) (u:R2):R2:=(Fe ((wtM z u).1*1+z.1.1*(wtM z u).2) ((wtM z u).2*1),Hd ((wtM z u).1*1+z.1.1*(wtM z u).2) ((wtM z u).2*1))
abbrev wtV (g:R2×Int):Value:= .tuple #[.agg #[.bool (decide (g.1.1<0)),.string (Xo (g.1.1).natAbs),.bool (decide (g.1.2<0)),.string (Xo (g.1.2).natAbs)],.int .i64 g.2]
theorem Ylj{g:Int}(h:g∣x)(d:g≠0):bl (x/g).natAbs<=bl x.natAbs:=by refine Lq ?_;obtain⟨c,rfl⟩:=h;simp_all [dJ,bR,lB]
theorem nrf{y:Int}(k:bl x.natAbs<=65536)(l:bl y.natAbs<=65536)(g:0<y):¬Li x y/\bl (Fe x y).natAbs<=bl x.natAbs/\bl (Hd x y).natAbs<=bl y.natAbs/\0<Hd x y:=by
 have c:Nw x y≠0:=Zqm O1;have e:Nw x y∣x:=by grind [Zib,Int.gcd_dvd_left]
 have f:Nw x y∣y:=by grind [Zib,Int.gcd_dvd_right]
 have i:=Ylj e c;have j:=Ylj f c;have d:¬Li x y:=λh=>by unfold Li at h;omega
 refine⟨d,?_,?_,Zqa d g⟩
 all_goals simp_all [Za8]
def WtP(D:Int)(a b:List Zd)(g:R2×Int):Prop:=
 (Ga a b≠0/\g=((0,0),Ga a b))\/(Ga a b=0/\apZ D 1 1 a b=true/\g=((0,0),9))\/
  (Ga a b=0/\apZ D 1 1 a b=false/\g.2=0/\∃z:GpT,unP z∈Ie D 1 1 a b/\∃u,Fnd z.2.2 (qv (0,1)) (qv (1,1)) u/\g.1=wtT z u)
def prow(n i:Nat):List (Nat×Nat):=(List.range (n-(i+1))).map λj=>(i,i+1+j)
def prU(n:Nat):Nat->List (Nat×Nat)
 | 0=>[]
 | i+1=>prU n i ++ prow n i
abbrev prs (n:Nat):List (Nat×Nat):=prU n n
def lx(p q:Nat×Nat):Prop:=p.1<q.1\/(p.1=q.1/\p.2<q.2)
def PrI(D:Int)(c:List PT)(k:Nat):Prop:=∀j p,j<k->(prs c.length)[j]? = some p->apZ D 1 1 (pth c p.1) (pth c p.2)=true
end Go.Sky
namespace Go.Sky
variable{D d ov ov2 t:Int}{x y z:List Int}{a b:List Zd}{i:Nat}
def dfA(p q:List Int)(ov ov2:Int)(t:Rat):Rat:=Zc p t*(ov2:Rat)-Zc q t*(ov:Rat)
theorem Ynz(p q:List Int)(a b:Int)(t:Rat):Zc (dfP p q a b) t=dfA p q a b t:=by unfold dfP dfA;grind [Zk8,Zb3,Le]
theorem Zpn(p q:List Int)(a b k:Int)(t:Rat):Zc (sqK p q a b k) t=((k:Rat)*dfA p q a b t)*((k:Rat)*dfA p q a b t):=by unfold sqK dfK;rw [Xn,Zb3,Ynz]
def fvE(D n d ov ov2:Int)(x y z c e f:List Int)(t:Rat):Rat:=
 ((d:Rat)*dfA x c ov ov2 t)*((d:Rat)*dfA x c ov ov2 t)+((d:Rat)*dfA y e ov ov2 t)*((d:Rat)*dfA y e ov ov2 t)+((n:Rat)*dfA z f ov ov2 t)*((n:Rat)*dfA z f ov ov2 t)
  - ((D:Rat)*(d:Rat)*(ov:Rat)*(ov2:Rat))*((D:Rat)*(d:Rat)*(ov:Rat)*(ov2:Rat))
theorem Yn0(D d ov ov2:Int)(t:Rat):Zc (cnZ D d ov ov2) t=- (((D:Rat)*(d:Rat)*(ov:Rat)*(ov2:Rat))*((D:Rat)*(d:Rat)*(ov:Rat)*(ov2:Rat))):=by show Zc (Yo (Yo (Yo (Yo (Yo (Yo (Yo (Yo [-1] D) D) d) d) ov) ov) ov2) ov2) t=_;simp only [Zb3];rw [show Zc [-1] t=(-1:Rat)from by show((-1:Int))+t*0=_;grind];grind
theorem Zzt(D n d ov ov2:Int)(x y z c e f:List Int)(t:Rat):Zc (smZ D n d ov ov2 x y z c e f 3) t=fvE D n d ov ov2 x y z c e f t:=by show Zc (Za7 (Za7 (Za7 (cnZ D d ov ov2) (fqZ n d ov ov2 x y z c e f 0)) (fqZ n d ov ov2 x y z c e f 1)) (fqZ n d ov ov2 x y z c e f 2)) t=_;rw [Zla,Zla,Zla,Yn0];show _+Zc (sqK x c ov ov2 d) t+Zc (sqK y e ov ov2 d) t+Zc (sqK z f ov ov2 n) t=_;rw [Zpn,Zpn,Zpn];unfold fvE;grind
theorem Ye8(D n d ov ov2:Int)(x y z c e f:List Int):Tr (smZ D n d ov ov2 x y z c e f 3):=Qt _
theorem negZ{n:Int}{e f g:List Int}(h:Cvd (fmZ D n d ov ov2 x y z e f g)):Zcq (fmZ D n d ov ov2 x y z e f g)=false↔∀t:Rat,0<=t->t<=1->0<=fvE D n d ov ov2 x y z e f g t:=by
 have c:Zcq _=true↔Zy0 _ _ _:=Zqb h O1 O1 O9;have m:qv (0,1)=0:=O9;have o:qv (1,1)=1:=O9;rw [m,o]at c;rw [<-Bool.not_eq_true,c];constructor
 .intro p t j k;refine iJ.1 λl=>p ⟨t,j,k,?_⟩;unfold fmZ;grind [Zt8,Ye8,Zzt]
 .rintro q ⟨t,j,k,l⟩;unfold fmZ at l;grind [Zt8,Ye8,Zzt,Rat.not_le]
theorem sq_le{a b c:Rat}(f:0<=a)(h:a<=b):(a*c)*(a*c)<=(b*c)*(b*c):=by have e:=aD (show 0<=b-a by grind) (show 0<=b+a by grind);have g:=aD e (Yfs c);grind
theorem Ypk{n e f:Int}(d:Int){h j g:List Int}(t:Rat)(k:0<=e)(l:e<=D)(m:0<=n)(o:n<=f):fvE D n d ov ov2 x y z h j g t<=fvE e f d ov ov2 x y z h j g t:=by
 have p:(0:Rat)<=(e):=by exact_mod_cast k
 have q:(e)<=(D:Rat):=by exact_mod_cast l
 have r:(0:Rat)<=(n):=by exact_mod_cast m
 have s:(n:Rat)<=(f):=by exact_mod_cast o
 have u:=sq_le (c:=(d)*(ov)*(ov2)) p q;have v:=sq_le (c:=dfA z g ov ov2 t) r s;unfold fvE;grind
def fvU(D n d:Int)(g h:Zck)(t:Rat):Rat:=fvE D n d g.1.2.2 h.1.2.2 g.2.1 g.2.2.1 g.2.2.2 h.2.1 h.2.2.1 h.2.2.2 t
theorem Ypm(l:List GpU):(Zen l).2.2=false↔∀g∈l,Zcq g.2.2=false:=by
 constructor
 .intro h g c;cases he:Ydz l with
  | some q=>unfold Zen at h;grind
  | none=>
   have:=jB.1 he g c;grind
 .intro h;have:Ydz l=none:=jB.2 λg c=>O5;unfold Zen;grind
theorem Yeo{α β γ:Type}(f:α->β->γ)(x:γ):∀(l:List α) (m:List β),x∈List.zipWith f l m↔∃g h,(g,h)∈l.zip m/\f g h=x
 | [],m=>O8
 | _::_,[]=>O8
 | a::l,b::m=>by
  rw [lF,aW,Yeo f x l m];constructor
  .rintro(rfl|⟨g,h,j,e⟩)
   .exact⟨a,b,.head _,rfl⟩
   .exact⟨g,h,.tail _ j,e⟩
  .rintro⟨g,h,j,e⟩;rcases aW.1 j with c|c
   .cases c;exact .inl e.symm
   .exact .inr ⟨g,h,c,e⟩
theorem ap_e2{n:Int} : apZ D n d a b=true↔Ga a b=0/\(Zen (Ie D n d a b)).2.2=false:=by unfold apZ;simp
theorem Zyr{n:Int}(c:∀g∈Ie D n d a b,Cvd g.2.2):apZ D n d a b=true↔Ga a b=0/\∀g h,(g,h)∈(Lt a b a).zip (Lt a b b)->∀t:Rat,0<=t->t<=1->0<=fvU D n d g h t:=by
 rw [ap_e2,Ypm];have f:∀x,x∈Ie D n d a b↔∃g h,(g,h)∈(Lt a b a).zip _/\gpZ D n d g h=x:=λx=>Yeo _ x _ _;generalize Ie D n d a b=L at f c;refine and_congr nK ⟨λh g q l=>?_,λh g m=>?_⟩
 .have k:=(f _).2 ⟨g,q,l,rfl⟩;have j:=c _ k;have o:=h _ k;simp only [gpZ]at j o;exact(negZ j).1 o
 .obtain⟨p,q,l,e⟩:=(f g).1 m;have j:=c g m;rw [<-e]at j ⊢;simp only [gpZ]at j ⊢;exact(negZ j).2 (h p q l)
theorem Yq7{n f k:Int}(j:∀g∈Ie D n d a b,Cvd g.2.2)(c:∀g∈Ie f k d a b,Cvd g.2.2)(l:0<=f)(m:f<=D)(o:0<=n)(p:n<=k)(h:apZ D n d a b=true):apZ f k d a b=true:=by obtain⟨e,r⟩:=(Zyr j).1 h;exact(Zyr c).2 ⟨e,λg q s t t0 t1=>fJ (r g q s t t0 t1) (Ypk d t l m o p)⟩
def gZ(o:Int)(l:List Int):Nat->Int
 | 0=>o
 | i+1=>(Int.gcd (gZ o l i) (cf l i):Int)
def plC(a d:Int)(x y z:List Int)(t:Nat):Int:=pl (Ya t x y z) a d
def lowL(o:Int)(l:List Int):List Int:=mk 3 λt=>cf l t/gZ o l 3
theorem me_no{g h:Zd}(c:h.1.1≠g.1.2.1):meG g h=false:=by unfold meG Zi0;rw [aG (λe=>c e.symm)];rfl
def gS_d{fr to:Int}(h:Sgo fr to ov x y z){a:Int}(c:0<=a/\a<=3600000)(e:1<=d/\d<=3600000):bl (ov*d^5/gS ov a d x y z 3).natAbs<=200:=bl_dl (aB (Zi1 h c e 0).2 O4)
def Hh(ps:List Zd)(t:Int):Bool:=decide (Ac ps<=t) && decide (t<=Bi ps)
theorem Zxj{ps:List Zd}(h:Hh ps t=true):Ac ps<=t/\t<=Bi ps:=by unfold Hh at h;rw [aP,bO,bO]at h;exact h
def Lv(ps:List Zd)(t:Int):Nat:=ps.findIdx λg=>decide (t<=g.1.2.1)
theorem exI_at{ps:List Zd}(hi:i<ps.length)(f:∀j,j<i->¬t<=(ps.getD j G0).1.2.1)(h:t<=(ps.getD i G0).1.2.1):Lv ps t=i:=by
 unfold Lv;refine(List.findIdx_eq hi).2 ⟨?_,λj e=>?_⟩
 .have c:=h;rw [aJ,aL hi]at c;exact aE c
 .have c:=f j e;rw [aJ,aL (iR e hi)]at c;exact aG c
theorem Zfr{ps:List Zd}(e:Yg ps=true)(hi:i+1<ps.length):(ps.getD (i+1) G0).1.1=(ps.getD i G0).1.2.1:=by have h:=(Xb e).1 (i+1) hi;have c:=Zh7 (Om h) (nB i);rw [h]at c;refine aZ λf=>?_;have:=me_no (g:=ps.getD i G0) (h:=ps.getD (i+1) G0) f;rw [show i+1-1=i from rfl,this]at c;cases c
theorem ex_ok{ps:List Zd}(k:∀g∈ps,Gin g)(e:Yg ps=true)(f:Hh ps t=true)(hi:i<ps.length)(c:∀j,j<i->¬t<=(ps.getD j G0).1.2.1)(h:t<=(ps.getD i G0).1.2.1) :
  SgG (ps.getD i G0)/\(0<=t-(ps.getD i G0).1.1/\t-(ps.getD i G0).1.1<=3600000)/\(1<=(ps.getD i G0).1.2.1-(ps.getD i G0).1.1/\(ps.getD i G0).1.2.1-(ps.getD i G0).1.1<=3600000):=by
 have hs:SgG (ps.getD i G0):=Oo (k _ (Zg hi)) (Om ((Xb e).1 i hi));have m:=hs.t1;have n:=hs.t2;have o:=hs.t3;have l:(ps.getD i G0).1.1<=t:=by
  match i,hi,c with
  | 0,_,_=>exact(Zxj f).1
  | j+1,hi,c=>
   have:=c j (Nat.lt_succ_self j);rw [Zfr e hi];omega
 exact⟨hs,⟨O1,O1⟩,⟨O1,O1⟩⟩
theorem ex_no{ps:List Zd}(c:Yg ps=true)(f:Hh ps t=true)(e:∀j,j<ps.length->¬t<=(ps.getD j G0).1.2.1):False:=by have g:=(Xb c).2.1;exact e (ps.length-1) O1 (Zxj f).2
def exA(ps:List Zd)(t:Int):Int:=t-(ps.getD (Lv ps t) G0).1.1
def exD(ps:List Zd)(t:Int):Int:=(ps.getD (Lv ps t) G0).1.2.1-(ps.getD (Lv ps t) G0).1.1
def exO(ps:List Zd)(t:Int):Int:=(ps.getD (Lv ps t) G0).1.2.2*exD ps t^5/gS (ps.getD (Lv ps t) G0).1.2.2 (exA ps t) (exD ps t) (ps.getD (Lv ps t) G0).2.1.2 (ps.getD (Lv ps t) G0).2.2.1.2 (ps.getD (Lv ps t) G0).2.2.2.2 3
def exL(ps:List Zd)(t:Int):List Int:=lowL ((ps.getD (Lv ps t) G0).1.2.2*exD ps t^5) (mk 3 (plC (exA ps t) (exD ps t) (ps.getD (Lv ps t) G0).2.1.2 (ps.getD (Lv ps t) G0).2.2.1.2 (ps.getD (Lv ps t) G0).2.2.2.2))
section
variable {P:Program} {N:Nat} {sc:Nat->Prop} {env:Qm} {H:Hp}
end
end Go.Sky
namespace Go.Sky
variable{t d ov:Int}{i:Nat}{c:List Int}{kd:IntKind}
theorem Zf7{ps:List Zd}(f:∀g∈ps,Gin g)(b:Yg ps=true){k m:Nat}(p:k<=m)(a:m<ps.length):(ps.getD k G0).1.2.1<=(ps.getD m G0).1.2.1:=by
 induction m with
 | zero=>
   obtain rfl:k=0:=O1;exact eA _
 | succ m j=>
  rcases bA m k with h|h
  .obtain rfl:k=m+1:=O1;exact eA _
  .have l:=j h O1;have n:=Zfr b a;have e:SgG (ps.getD (m+1) G0):=Oo (f _ (Zg a)) (Om ((Xb b).1 _ a));have o:=e.t2;omega
theorem exI_s{ps:List Zd}(e:Yg ps=true)(l:Hh ps t=true){j:Nat}(g:i<=j/\j<=ps.length)(f:¬i<j)(a:∀k,k<i->¬t<=(ps.getD k G0).1.2.1)(b:∀k,j<=k->k<ps.length->t<=(ps.getD k G0).1.2.1):Lv ps t=i:=by
 by_cases h:i<ps.length
 .exact exI_at h a (b i O1 h)
 .exact(ex_no e l λk m=>a k O1).elim
theorem Zfs{ps:List Zd}(b:Yg ps=true)(f:Hh ps t=true):Lv ps t<ps.length:=by refine aZ λh=>ex_no b f λj e a=>h ?_;exact List.findIdx_lt_length.2 ⟨_,Zg e,aE a⟩
theorem Zcd{ps:List Zd}(k:∀g∈ps,Gin g)(b:Yg ps=true)(f:Hh ps t=true):SgG (ps.getD (Lv ps t) G0)/\(0<=exA ps t/\exA ps t<=3600000)/\(1<=exD ps t/\exD ps t<=3600000):=by
 have h:=Zfs b f;refine ex_ok k b f h (λj e a=>?_) ?_
 .have:=lG e;rw [aJ,aL (iR e h)]at a;exact kJ this a
 .have:=mF (xs:=ps) (p:=λg:Zd=>decide (t<=g.1.2.1)) (w:=h);rw [aJ,aL h];exact bL this
def exC(ps:List Zd)(t:Int)(c:List Int):Int:=pl c (exA ps t) (exD ps t)/gS (ps.getD (Lv ps t) G0).1.2.2 (exA ps t) (exD ps t) (ps.getD (Lv ps t) G0).2.1.2 (ps.getD (Lv ps t) G0).2.2.1.2 (ps.getD (Lv ps t) G0).2.2.2.2 3
theorem rev_qs(c:List Int)(x:Rat):Zc c x=He (λk=>(cf c k:Rat)*x^k) c.length:=by grind [Zgg,Zgz]
theorem plT_q(c:List Int)(a:Int)(e:d≠0):∀n,n<6->((plT c a d n:Int):Rat)=(d:Rat)^5*((cf c n:Rat)*((a:Rat)/(d:Rat))^n):=λn b=>by
 have f:(d:Rat)≠0:=O11;unfold plT;rw [show c.getD n 0=cf c n from rfl]
 match n,b with
 | 0,_=>grind
 | 1,_=>grind
 | 2,_=>grind
 | 3,_=>grind
 | 4,_=>grind
 | 5,_=>grind
theorem pls_q(c:List Int)(a:Int){d:Int}(b:d≠0):∀n,n<=6->((plS c a d n:Int):Rat)=(d:Rat)^5*He (λk=>(cf c k:Rat)*((a:Rat)/(d:Rat))^k) n
 | 0,_=>by show((0))=_*0;simp
 | n+1,e=>by rw [show plS c a d _=plS c a d n+plT c a d n from rfl,Ot,Rat.mul_add,<-plT_q c a b n O1,<-pls_q c a b n O1];push_cast;rfl
theorem pl_q(b:c.length<=6)(a:Int)(e:d≠0):((pl c a d:Int):Rat)=(d:Rat)^5*Zc c ((a:Rat)/(d:Rat)):=by unfold pl;grind [pls_q,rev_qs]
theorem Zmc(o a d:Int)(x y z:List Int):∀i j,j<=i->gS o a d x y z i∣gS o a d x y z j/\∀k,k<j->gS o a d x y z i∣pl (Ya k x y z) a d
 | 0,j,g=>by simp_all
 | i+1,j,g=>by
  have b:gS o a d x y z (i+1)∣gS o a d x y z i:=jO ..;have l:gS o a d x y z (i+1)∣pl _ a d:=gD ..;rcases bA i j with h|h
  .obtain rfl:j=i+1:=O1;refine⟨kD _,λk e=>?_⟩;rcases aC.1 e with f|f
   .exact eW b ((Zmc o a d x y z i i (aI _)).2 k f)
   grind
  .exact⟨eW b (Zmc o a d x y z i j h).1,λk e=>eW b ((Zmc o a d x y z i j h).2 k e)⟩
def spX(g:Zd)(i:Nat)(s:Rat):Rat:=Zc (Ya i g.2.1.2 g.2.2.1.2 g.2.2.2.2) s
def Yaq{g:Zd}(h:SgG g)(i:Nat):(Ya i g.2.1.2 g.2.2.1.2 g.2.2.2.2).length<=6:=(h.lc i).2
theorem Yig (a:Int)(d:Int){g:Zd}(h:SgG g)(l:0<=a/\a<=3600000)(m:1<=d/\d<=3600000)(hi:i<3) :
  ((pl (Ya i g.2.1.2 g.2.2.1.2 g.2.2.2.2) a d/gS g.1.2.2 a d g.2.1.2 g.2.2.1.2 g.2.2.2.2 3:Int):Rat)*(g.1.2.2:Rat)=((g.1.2.2*d^5/gS g.1.2.2 a d g.2.1.2 g.2.2.1.2 g.2.2.2.2 3:Int):Rat)*spX g i ((a:Rat)/(d:Rat)):=by
 have n:d≠0:=O1;have r:=(Zi1 h l m 3).1;obtain⟨q,k⟩:=Zmc _ a d _ _ _ 3 3 (aI _);have j:=(Zmc g.1.2.2 a d g.2.1.2 g.2.2.1.2 g.2.2.2.2 3 0 O8).1;have f:=iW (k i hi);have e:g.1.2.2*d^5/gS _ a d _ _ _ 3*gS _ a d _ _ _ 3=g.1.2.2*d^5:=iW j;have p:=pl_q (Yaq h i) a n;unfold spX;generalize pl _ a d/gS _ a d _ _ _ 3=C at f ⊢;generalize g.1.2.2*d^5/gS _ a d _ _ _ 3=O at e ⊢;generalize gS _ a d _ _ _ 3=b at *;generalize Zc _ _=R at *;generalize g.1.2.2=ov at *;have o:(b:Rat)≠0:=by exact_mod_cast (show b≠0 by omega)
 have s:(O)*(b)=(ov)*(d:Rat)^5:=by exact_mod_cast e
 have u:(C)*(b)=(d)^5*R:=by rw [<-p];exact_mod_cast f
 grind
theorem Yjy{ps:List Zd}(j:∀g∈ps,Gin g)(f:Yg ps=true)(h:Hh ps t=true)(hi:i<3) :
  ((exC ps t (Ya i (ps.getD (Lv ps t) G0).2.1.2 (ps.getD (Lv ps t) G0).2.2.1.2 (ps.getD (Lv ps t) G0).2.2.2.2):Int):Rat)*((ps.getD (Lv ps t) G0).1.2.2:Rat)=((exO ps t:Int):Rat)*spX (ps.getD (Lv ps t) G0) i ((exA ps t:Rat)/(exD ps t:Rat)):=by
 obtain⟨e,a,b⟩:=Zcd j f h;exact Yig _ _ e a b hi
theorem Ygq{M x:Rat}(g:0<=M)(f:0<=x)(j:x<=1):∀c:List Int,(∀a∈c,-M<=(a:Rat)/\(a:Rat)<=M)->-((c.length:Rat)*M)<=Zc c x/\Zc c x<=(c.length:Rat)*M
 | [],_=>by
  show -(((0))*M)<=0/\(0)<=((0))*M
  all_goals simp
 | a::p,h=>by
  obtain⟨m,n⟩:=Ygq g f j p λb k=>h b (.tail _ k);have l:(0)<=(p.length)*M:=aD O5 g;have e:(((a::p).length))=(p.length)+1:=O8;have o:=aD (show 0<=1-x by grind) l;have q:=aD f (show 0<=(p.length)*M-Zc p x by grind);have r:=aD f (show 0<=(p.length)*M+Zc p x by grind);rw [e,show Zc _ x=(a)+x*Zc p x from rfl]
  all_goals grind
theorem div01{a:Int}(b:0<=a)(e:a<=d)(f:0<d):0<=(a:Rat)/(d:Rat)/\(a:Rat)/(d:Rat)<=1:=by
 have qd:(0)<(d:Rat):=by exact_mod_cast f
 have k:(0:Rat)<=(a):=by exact_mod_cast b
 have j:(a)<=(d:Rat):=by exact_mod_cast e
 have g:((a:Rat)/(d))*(d)=(a):=eE O5;generalize (a)/(d:Rat)=u at g ⊢;constructor
 .refine iJ.1 λh=>?_;have:=aT (show 0 < -u by grind) qd;grind
 .refine iJ.1 λh=>?_;have:=aT (show 0<u-1 by grind) qd;grind
theorem cOb{C O M:Int}{R L:Rat}(l:1<=ov)(e:0<O)(b:0<=M)(k:L<=6)(f:(C:Rat)*(ov:Rat)=(O:Rat)*R)(r1:-(L*(M:Rat))<=R)(r2:R<=L*(M:Rat)):-(6*(O*M))<=C*ov/\C*ov<=6*(O*M):=by
 have a:(0)<(O:Rat):=by exact_mod_cast e
 have g:(0:Rat)<=(M):=by exact_mod_cast b
 have m:=aD (show 0<=6-L by grind) g;have h:=aD (cT a) (show 0<=6*(M)-R by grind);have j:=aD (cT a) (show 0<=6*(M)+R by grind);constructor
 .have:-(6*((O)*(M)))<=(C:Rat)*(ov):=O5;exact_mod_cast this
 .have:(C:Rat)*(ov)<=6*((O)*(M)):=O5;exact_mod_cast this
theorem cOc{C O:Int}(f:1<=ov)(e:0<O)(h:-(6*(O*(83886080*ov)))<=C*ov/\C*ov<=6*(O*(83886080*ov))):C.natAbs<=503316480*O.natAbs:=by have f1:C*ov<=(503316480*O)*ov:=O5;have f2:(-(503316480*O))*ov<=C*ov:=O5;have a:=dL f1 O1;have b:=dL f2 O1;omega
theorem Zq8{ps:List Zd}(e:Yg ps=true)(f:Hh ps t=true):exA ps t<=exD ps t:=by
 have a:=Zfs e f;have b:=mF (w:=a);have g:t<=(ps.getD (Lv ps t) G0).1.2.1:=by rw [aJ,aL a];exact bL b
 unfold exA exD;omega
theorem Zol{ps:List Zd}(n:∀g∈ps,Gin g)(k:Yg ps=true)(m:Hh ps t=true):0<exO ps t:=by obtain⟨b,h,j⟩:=Zcd n k m;have o:=b.o1;have l:=(Zi1 b h j 3).1;have f:=(Zmc (ps.getD (Lv ps t) G0).1.2.2 (exA ps t) (exD ps t) (ps.getD (Lv ps t) G0).2.1.2 (ps.getD (Lv ps t) G0).2.2.1.2 (ps.getD (Lv ps t) G0).2.2.2.2 3 0 O8).1;have e:0<(ps.getD (Lv ps t) G0).1.2.2*exD ps t^5:=dU O1 (iH O1);obtain⟨q,a⟩:=f;have a:(ps.getD _ G0).1.2.2*exD ps t^5=_*q:=a;unfold exO;rw [a]at e ⊢;rw [dJ _ O1];exact kX e l
theorem exC_b{ps:List Zd}(m:∀g∈ps,Gin g)(b:Yg ps=true)(f:Hh ps t=true)(hi:i<3) :
  (exC ps t (Ya i (ps.getD (Lv ps t) G0).2.1.2 (ps.getD (Lv ps t) G0).2.2.1.2 (ps.getD (Lv ps t) G0).2.2.2.2)).natAbs<=503316480*(exO ps t).natAbs:=by
 obtain⟨s,y,I⟩:=Zcd m b f;have q:=Zfs b f;have e:=Zpk (Om ((Xb b).1 _ q));have F:AxC (Ya i _ _ _) _:=Eu (p:=λl=>AxC l _) e.1 e.2.1 e.2.2;have v:=s.o1;obtain⟨G,H⟩:=div01 y.1 (Zq8 b f) O1;have r:=Yjy m b f hi;have j:=Yaq s i;refine cOc v (Zol m b f) ?_;obtain⟨M,z⟩:∃M:Int,M=83886080*(ps.getD (Lv ps t) G0).1.2.2:=⟨_,rfl⟩;rw [<-z];have h:0<=M:=O1;have o:∀a∈Ya i (ps.getD (Lv ps t) G0).2.1.2 (ps.getD (Lv ps t) G0).2.2.1.2 (ps.getD (Lv ps t) G0).2.2.2.2,-(M:Rat)<=(a)/\(a)<=(M:Rat):=λa B=>by obtain⟨k,D,rfl⟩:=fO B;have n:=F.cg k;unfold cf at n;rw [aJ,aL D,fA]at n;generalize (Ya i (ps.getD _ G0).2.1.2 _ _)[k]=u at n;have w:-M<=u:=O1;have x:u<=M:=O1;exact⟨by exact_mod_cast w,by exact_mod_cast x⟩
 obtain⟨r1,r2⟩:=Ygq (by exact_mod_cast h) G H _ o;exact cOb v (Zol m b f) h (by exact_mod_cast j) r r1 r2
def exN(ps:List Zd)(t:Int)(i:Nat):Int:=exC ps t (Ya i (ps.getD (Lv ps t) G0).2.1.2 (ps.getD (Lv ps t) G0).2.2.1.2 (ps.getD (Lv ps t) G0).2.2.2.2)
theorem Ypp(ps:List Zd)(t:Int)(i:Nat):Ya i (exC ps t (ps.getD (Lv ps t) G0).2.1.2) (exC ps t (ps.getD (Lv ps t) G0).2.2.1.2) (exC ps t (ps.getD (Lv ps t) G0).2.2.2.2)=exN ps t i:=by unfold exN Ya;split<;>rfl
def rdN(ps:List Zd)(t:Int)(i:Nat):Int:=(exN ps t i+exN ps t i+exO ps t)/(exO ps t+exO ps t)
def rdL(ps:List Zd)(t:Int):Nat->List Int
 | 0=>[0,0,0]
 | i+1=>(rdL ps t i).set i (rdN ps t i)
theorem Zgk(ps:List Zd)(t:Int):∀i,(rdL ps t i).length=3
 | 0=>rfl
 | i+1=>by show(List.set _ _ _).length=3;rw [cH];exact Zgk ps t i
theorem rdL_s(ps:List Zd)(t:Int)(i:Nat):rdL ps t (i+1)=(rdL ps t i).set (0+i*1) (rdN ps t i):=by rw [bZ,jD];rfl
structure AtB (n o:Int):Prop where
 b1:bl n.natAbs<=30000
 b2:bl o.natAbs<=30000
 n2:bl (n+n).natAbs<=30000
 o2:bl (o+o).natAbs<=30000
 s:bl (n+n+o).natAbs<=30000
 z:o+o≠0
 q:((n+n+o)/(o+o)).natAbs<=9223372036854775807
theorem atB{n o:Int}(k:0<o)(j:bl o.natAbs<=200)(h:n.natAbs<=503316480*o.natAbs):AtB n o:=by
 have b:=(Qs 200 _).1 j;have f:n.natAbs<2^230:=by refine aY h ?_;exact cZ (iI b O4) O9
 have w:∀m:Nat,m<2^240->bl m<=30000:=λm g=>aB ((Qs 240 m).2 g) O4;have a:2^200<=2^230:=O9;have e:4*2^230<=2^240:=O9;generalize 2^200=A at b a;generalize 2^230=B at f a e;generalize 2^240=C at w e;refine⟨w _ O1,w _ O1,w _ O1,w _ O1,w _ O1,O1,?_⟩;have l:-503316481<=(n+n+o)/(o+o):=lW O1 O1;have p:(n+n+o)/(o+o)<503316482:=lX O1 O1;omega
theorem exN_b{ps:List Zd}(e:∀g∈ps,Gin g)(a:Yg ps=true)(b:Hh ps t=true)(hi:i<3):AtB (exN ps t i) (exO ps t):=by obtain⟨j,f,h⟩:=Zcd e a b;exact atB (Zol e a b) (gS_d j f h) (exC_b e a b hi)
section
variable {P:Program} {N:Nat} {sc:Nat->Prop} {env:Qm} {H:Hp}
theorem d_ixw3 {o:Oper} {x y:Operand} {t e:TypeId}   {m f g h:Int} (p:o.op= .index t x y) (r:ev env x=some (.agg #[.bool (decide (f<0)),.string (Xo f.natAbs),.bool (decide (g<0)),.string (Xo g.natAbs),.bool (decide (h<0)),.string (Xo h.natAbs)])) (s:ev env y=some (.int kd m))
  (q:P.underlying t=some (.array 3 e)) (l:∀w,(sizeOf e).run P w= .ok 2 w) (k:∀w,(isAgg e).run P w= .ok true w) (b:m=(i:Int)) (n:i<3):Ld P N sc o env H (wv (Ya i f g h)):=λa w hs=>by
 subst b;have j:i=0\/i=1\/i=2:=O1;rcases j with rfl|rfl|rfl<;>simp [execOp,p,hs.ev r,hs.ev s,Instr.index,asIntOf,run_underlying q,l,k,asAgg,part,Ya,wv]
end
theorem fill32{j k l m n o a b e f g h:Value}:Instr.fill (λi=>some (i*2,2)) #[j,k,l,m,n,o] [(0,.agg #[a,b]),(1,.agg #[e,f]),(2,.agg #[g,h])]=some #[a,b,e,f,g,h]:=by simp [Instr.fill,Value.cells]
end Go.Sky
namespace Go.Sky
def Zs1(f g h:Nat->Int):∀n,Ye (λi=>(f i-g i)*h i) n=Ye (λi=>f i*h i) n-Ye (λi=>g i*h i) n
 | 0=>by rw [Kf,Kf,Kf];rfl
 | n+1=>by rw [Yi,Yi,Yi,Zs1 f g h n,Int.sub_mul];omega
def Yle(d:Nat)(p q:List Int)(j:Nat):Kb d (Bq p q) j=Kb d p j-Kb d q j:=by unfold Kb;rw [<-Zs1];refine aH (λf=>Ye f (j+1)) (funext λi=>?_);rw [Bx]
def Yb5{M:Int}:∀(d j:Nat),j<=d->Kb d [M] j=M*(Ob d j:Int)
 | d,0,_=>by rw [Ylf,Zi7];omega
 | 0,j+1,h=>absurd h O1
 | d+1,j+1,h=>by rw [brS_s,Zr4];omega
def Zzu(M:Int)(x:Rat):Zc [M] x=(M:Rat):=by show(M:Rat)+x*0=_;grind
def rev_M{c:List Int}{b:Int}(h:AxC c b){u:Rat}(f:0<=u)(g:u<=1):-((1048576*b:Int):Rat)<=Zc c u/\Zc c u<=((1048576*b:Int):Rat):=by
 have k:=h.l;have a:∀j,j<(c.length-1)+1->-(1048576*b*(Ob (c.length-1) j:Int))<=Kb (c.length-1) c j/\Kb (c.length-1) c j<=1048576*b*(Ob (c.length-1) j:Int):=λj d=>by have:=h.b j O1;omega
 generalize 1048576*b=M at a ⊢;have i:∀j,Kb (c.length-1) [] j=0:=λj=>Zr4 _ _;constructor
 .-- c + M
  have e:(Bq c [-M]).length<=(c.length-1)+1:=Zqq O1 (by show 1<=_;omega);have:=Zv4 e (λj d=>by rw [Zlf,Yle,Yb5 _ _ O1];have:=(a j d).1;rw [iG];omega) f g;rw [Zk8,Zzu]at this;push_cast at this;grind
 .have e:(Bq [M] c).length<=(c.length-1)+1:=Zqq (by show 1<=_;omega) O1;have:=Zv4 e (λj d=>by rw [Zlf,Yle,Yb5 _ _ O1];have:=(a j d).2;omega) f g;rw [Zk8,Zzu]at this;grind
def SmP(g:Zd)(s:Rat)(h:Zd)(u:Rat):Prop:=∀i,i<3->spX g i s*(h.1.2.2:Rat)=spX h i u*(g.1.2.2:Rat)
def SmP.symm{g h:Zd}{s u:Rat}(e:SmP g s h u):SmP h u g s:=λi hi=>(e i hi).symm
def SmP.trans{g h k:Zd}{s u v:Rat}(a:(h.1.2.2:Rat)≠0)(e:SmP g s h u)(f:SmP h u k v):SmP g s k v:=λi hi=>by
 have b:=e i hi;have c:=f i hi;have:(spX g i s*(k.1.2.2:Rat)-spX k i v*(g.1.2.2:Rat))*(h.1.2.2:Rat)=0:=O5;rcases fG.1 this with q|q
 .grind
 .exact absurd q a
def Zt1{g:Zd}(h:SgG g):(g.1.2.2:Rat)≠0:=by have:=h.o1;exact_mod_cast (show g.1.2.2≠0 by omega)
def SmP_me{g h:Zd}(b:SgG g)(m:SgG h)(e:meG g h=true):SmP g 1 h 0:=λi hi=>by
 unfold meG Zi0 Ygg at e;rw [aP,bO,bO]at e;obtain⟨-,n,o,p,r⟩:=e;have l:=Yig 1 1 b ⟨O4,O4⟩ ⟨O4,O4⟩ hi;have j:=Yig 0 1 m ⟨O4,O4⟩ ⟨O4,O4⟩ hi;have hs:pl (Ya i g.2.1.2 g.2.2.1.2 g.2.2.2.2) 1 1/gS g.1.2.2 1 1 g.2.1.2 g.2.2.1.2 g.2.2.2.2 3=pl (Ya i h.2.1.2 h.2.2.1.2 h.2.2.2.2) 0 1/gS h.1.2.2 0 1 h.2.1.2 h.2.2.1.2 h.2.2.2.2 3:=by
  match i,hi with
  | 0,_=>exact n
  | 1,_=>exact o
  | 2,_=>exact p
 rw [<-hs,<-r]at j;rw [show((1:Int):Rat)/((1:Int):Rat)=1 by decide +kernel]at l;rw [show((0:Int):Rat)/((1:Int):Rat)=0 by decide +kernel]at j;have t:0<g.1.2.2*1^5/gS g.1.2.2 1 1 g.2.1.2 g.2.2.1.2 g.2.2.2.2 3:=by
  have c:=(Zi1 b (a:=1) (d:=1) ⟨O4,O4⟩ ⟨O4,O4⟩ 3).1;obtain⟨q,f⟩:=(Zmc g.1.2.2 1 1 g.2.1.2 g.2.2.1.2 g.2.2.2.2 3 0 O1).1;have f:g.1.2.2*1^5=gS g.1.2.2 1 1 g.2.1.2 g.2.2.1.2 g.2.2.2.2 3*q:=f;have k:0<g.1.2.2*1^5:=by have:=b.o1;omega
  rw [f]at k ⊢;rw [dJ _ O1];exact kX k c
 generalize g.1.2.2*1^5/gS g.1.2.2 1 1 g.2.1.2 g.2.2.1.2 g.2.2.2.2 3=O at *;generalize pl (Ya i g.2.1.2 g.2.2.1.2 g.2.2.2.2) 1 1/gS g.1.2.2 1 1 g.2.1.2 g.2.2.1.2 g.2.2.2.2 3=C at *;have s:(O:Rat)≠0:=by exact_mod_cast (show O≠0 by omega)
 have:(spX g i 1*(h.1.2.2:Rat)-spX h i 0*(g.1.2.2:Rat))*(O:Rat)=0:=O5;rcases fG.1 this with q|q
 .grind
 .exact absurd q s
def Yra{q g:Zd}{G:Int}(h:Prt q g G){t u:Rat}(e:t*((g.1.2.1-g.1.1:Int):Rat)=((q.1.1-g.1.1:Int):Rat)+((q.1.2.1-q.1.1:Int):Rat)*u):SmP q u g t:=λi hi=>by
 have d:=h.x i t u e;have c:(q.1.2.2:Rat)*(G:Rat)=(g.1.2.2:Rat)*((g.1.2.1-g.1.1:Int):Rat)^5:=by exact_mod_cast h.o
 have b:(G:Rat)≠0:=by have:=h.g0;exact_mod_cast (show G≠0 by omega)
 unfold spX;have:(Zc (Ya i q.2.1.2 q.2.2.1.2 q.2.2.2.2) u*(g.1.2.2:Rat)-Zc (Ya i g.2.1.2 g.2.2.1.2 g.2.2.2.2) t*(q.1.2.2:Rat))*(G:Rat)=0:=O5;rcases fG.1 this with a|a
 .grind
 .exact absurd a b
def sTm(g:Zd)(t:Int):Rat:=((t-g.1.1:Int):Rat)/((g.1.2.1-g.1.1:Int):Rat)
def Zpi{ps:List Zd}(u:∀g∈ps,Gin g)(c:Yg ps=true){fr to:Int}(v:Ac ps<=fr)(w:fr<to)(o:to<=Bi ps)(k:∀g∈ps,¬(fr<g.1.1/\g.1.1<to)) :
  ∃j,j<ps.length/\(ps.getD j G0).1.1<=fr/\to<=(ps.getD j G0).1.2.1:=by
 have h:Hh ps to=true:=by unfold Hh;rw [aE (show Ac ps<=to by omega),aE o];rfl
 have b:=Zfs c h;have q:to<=(ps.getD (Lv ps to) G0).1.2.1:=by have:=Zq8 c h;unfold exA exD at this;omega
 have r:=(Zcd u c h).2.1.1;unfold exA at r;refine⟨Lv ps to,b,?_,q⟩;refine Int.not_lt.1 λs=>?_;rcases iQ (ps.getD (Lv ps to) G0).1.1 to with l|l
 .exact k _ (Zg b) ⟨s,l⟩
 .have e:(ps.getD (Lv ps to) G0).1.1=to:=O1;rcases bB (Lv ps to)with n|n
  .rw [n]at e;have:Ac ps=to:=e;omega
  .obtain⟨m,t⟩:∃m,Lv ps to=m+1:=⟨Lv ps to-1,O1⟩;have d:=Zfr c (i:=m) O1;rw [<-t,e]at d;have f:=lG (xs:=ps) (p:=λg:Zd=>decide (to<=g.1.2.1)) (i:=m) (show m<Lv ps to by omega);have a:to<=(ps.getD m G0).1.2.1:=O1;rw [aJ,aL (show m<ps.length by omega)]at a;exact kJ f a
def Ybr{ps:List Zd}(r:∀g∈ps,Gin g)(k:Yg ps=true){fr to:Int}(n:Ac ps<=fr)(h:fr<to)(o:to<=Bi ps)(b:∀g∈ps,¬(fr<g.1.1/\g.1.1<to))(a:Qu fr to ps=true){j:Nat}(p:j<ps.length)(s:(ps.getD j G0).1.1<=fr)(t:to<=(ps.getD j G0).1.2.1) :
  Gy fr to ps=[Zeo fr to (ps.getD j G0)]/\Nz fr to (ps.getD j G0)=true/\Zfx fr to (ps.getD j G0)=true/\(Zeo fr to (ps.getD j G0)).1.1=fr/\(Zeo fr to (ps.getD j G0)).1.2.1=to:=by
 have l:=(Xb k).2.1;have d:cA fr (ps.getD j G0)=fr:=by unfold cA;omega
 have f:cB to (ps.getD j G0)=to:=by unfold cB;omega
 have i:Nz fr to (ps.getD j G0)=true:=by unfold Nz;rw [d,f];exact aE h
 have m:ps.getD j G0∈ps.filter (Nz fr to):=fN.2 ⟨Zg p,i⟩;have q:=Zrq (Ez r k).1 (λe=>by rw [e]at l;simp at l) n h o b;obtain⟨z,c⟩:=List.length_eq_one_iff.1 q;rw [c]at m;obtain rfl:=cE.1 m;refine⟨?_,i,?_,d,f⟩
 .unfold Gy;rw [aO a,c];rfl
 .unfold Qu at a;rw [c]at a;simpa using a
def Zvv{c:List Int}{a b:List Zd} : ∀{n:Nat},Fc c a b n=true->∀k,k<n->Qu (c.getD k 0) (c.getD (k+1) 0) a=true/\Qu (c.getD k 0) (c.getD (k+1) 0) b=true
 | 0,_,k,e=>absurd e (bJ k)
 | n+1,h,k,e=>by
  have f:Fc c a b (n+1)=(Fc c a b n && (Qu _ _ a && Qu _ _ b)):=rfl;rw [f,aP,aP]at h;rcases aC.1 e with d|d
  .exact Zvv h.1 k d
  .subst d;exact h.2
def cvS{D:Int}{a b:List Zd}(e:∀g∈a,Gin g)(f:∀g∈b,Gin g)(c:Yg a=true)(d:Yg b=true)(h:dsB D=true):∀g∈Ie D 1 1 a b,Cvd g.2.2:=Yko e f c d h (Zy5 (Lt a b a)) (Zy5 (Lt a b b))
section
variable {D n d:Int} {a b:List Zd} (hpa:∀g∈a,Gin g) (hpb:∀g∈b,Gin g) (hba:Yg a=true) (hbb:Yg b=true) (hz:znB D n d=true)
include hpa hpb hba hbb hz
end
end Go.Sky
namespace Go.Sky
def NrP(a b:List Zd)(g:Int×Int):Prop:=
 (Ga a b≠0/\g=(0,Ga a b))\/(Ga a b=0/\Ie 0 1 1 a b=[]/\g=(0,9))\/
  (Ga a b=0/\Ie 0 1 1 a b≠[]/\g.2=0/\0<=g.1/\g.1<=4194304/\∀k,1<=k->k<=4194304->apZ k 1 1 a b=decide (k<=g.1))
section
variable {a b:List Zd} (hpa:∀g∈a,Gin g) (hpb:∀g∈b,Gin g) (hba:Yg a=true) (hbb:Yg b=true)
include hpa hpb hba hbb
end
def NrS(a b:List Zd)(r:Nat):Prop:=r<=4194304/\(∀k,k<r->apZ ((k:Int)+1) 1 1 a b=true)/\∀k,r<=k->k<4194304->apZ ((k:Int)+1) 1 1 a b=false
theorem ds_in{k:Int}(c:0<=k)(d:k<=4194304):dsB k=true:=by unfold dsB;grind
section
variable {a b:List Zd} (hpa:∀g∈a,Gin g) (hpb:∀g∈b,Gin g) (hba:Yg a=true) (hbb:Yg b=true)
include hpa hpb hba hbb
end
def Yo0(fr to d e f h c i k:Int)(s:SL×SL×SL):Zd:=((fr,to,1),(s.1,tmL d h k),(s.2.1,tmL e c k),(s.2.2,tmL f i k))
def gv0(s:SL×SL×SL):Zd:=Yo0 0 1000 0 0 0 1000 0 0 1 s
def gv1(s:SL×SL×SL):Zd:=Yo0 0 1000 1000 300 0 0 300 0 1 s
def gv2(s:SL×SL×SL):Zd:=Yo0 500 2000 0 700 0 0 700 0 2 s
def gvL(s:SL×SL×SL):Zd:=Yo0 1000 2000 0 0 0 1000 0 0 1 s
section
variable (s t:SL×SL×SL)
end
end Go.Sky
namespace Go.Sky
def shG(b:Int)(g:Zd):Zd:=((g.1.1+b,g.1.2.1+b,g.1.2.2),g.2)
def shK(b:Int)(ps:List Zd)(k:Nat):List Zd:=(ps.take k).map (shG b) ++ ps.drop k
abbrev shA (b:Int) (x:Zd):Zd:=((x.1.1+b,x.1.2.1,x.1.2.2),x.2)
abbrev shB (b:Int) (x:Zd):Zd:=((x.1.1,x.1.2.1+b,x.1.2.2),x.2)
def Yfv{ps:List Zd}(b:∀g∈ps,Gin g)(a:Yg ps=true):0<=Ac ps/\Ac ps<=3600000/\0<=Bi ps/\Bi ps<=3600000:=by have c:=(Xb a).2.1;have s:SgG (ps.getD 0 G0):=Oo (b _ (Zg O1)) (Om ((Xb a).1 _ O1));have t:SgG (ps.getD (ps.length-1) G0):=Oo (b _ (Zg O1)) (Om ((Xb a).1 _ O1));have d:=s.t1;have e:=s.t2;have f:=s.t3;have t1:=t.t1;have t2:=t.t2;have t3:=t.t3;unfold Ac Bi;omega
def ShR(ps:List Zd)(y:Int)(zs:List Zd)(e:Int):Prop:=(e=3/\(y < -(Ac ps)\/y>3600000-Bi ps))\/(e=0/\¬y < -(Ac ps)/\¬y>3600000-Bi ps/\zs.map Ei=(ps.map (shG y)).map Ei)
open Go.RowKit Below
variable {P:Program} {N:Nat} {sc:Nat->Prop} {env env':Qm} {H H':Hp} {Q Q':Exit->Act->World->Prop} {M:Nat->Prop}
def emp:Pc:=⟨false,λ_=>False,λ_=>True,λ_ _ _ h=>h.elim,λ_ _ _ _=>trivial⟩
def l3(z:Zd)(i:Nat):SL×List Int:=Ya i z.2.1 z.2.2.1 z.2.2.2
abbrev olz (e:TypeId) (p:SL×List Int):Pc:=Nk 1 e Xk (Xa p.1) p.2
def ol3(e:TypeId)(zs:List Zd):Pc:=
 {own:=true
  fp:=λb=>∃k i,k<zs.length/\i<3/\(olz e (l3 (zs.getD k G0) i)).fp b
  holds:=λw=>(∀k i,k<zs.length->i<3->(olz e (l3 (zs.getD k G0) i)).holds w)/\∀k i m j b,k<zs.length->i<3->m<zs.length->j<3->(olz e (l3 (zs.getD k G0) i)).fp b->(olz e (l3 (zs.getD m G0) j)).fp b->k=m/\i=j
  lt:=λw b h ⟨k,i,c,hi,d⟩=>(olz e _).lt w b (h.1 k i c hi) d
  stable:=λw n h a=>⟨λk i c hi=>(olz e _).stable w n (h.1 k i c hi) ⟨a.os,a.tape,a.output,a.size,λb d g=>a.block b d (λf=>g (λl=>f ⟨k,i,c,hi,l⟩))⟩,h.2⟩ }
def opa(e s:TypeId)(v:Value)(zs:List Zd):Pc:=
 {own:=true
  fp:=λb=>v.ownBlock=some b\/(ol3 e zs).fp b
  holds:=λw=>(Nk 6 s Pt v zs).holds w/\(ol3 e zs).holds w/\∀b,v.ownBlock=some b->(ol3 e zs).fp b->False
  lt:=λw b h c=>c.elim (λc=>(Nk 6 s Pt v zs).lt w b h.1 c) (λc=>(ol3 e zs).lt w b h.2.1 c)
  stable:=λw i h a=>⟨(Nk 6 s Pt v zs).stable w i h.1 ⟨a.os,a.tape,a.output,a.size,λb c f=>a.block b c (λd=>f (λg=>d (.inl g)))⟩,(ol3 e zs).stable w i h.2.1 ⟨a.os,a.tape,a.output,a.size,λb c f=>a.block b c (λd=>f (λg=>d (.inr g)))⟩,h.2.2⟩ }
def Sat.drop{a:Act}{w:World}(h:Sat N sc env H a w)(j:Nat):Sat N sc env ((j,emp)::H) a w:=
 h.add j emp aA (λ_ _ _ _ _ _ b=>b.elim) (λ_ b=>b.elim)
def stL(z:Zd)(i j:Nat)(u:Int):Zd:=(z.1,if i=0 then(z.2.1.1,z.2.1.2.set j u)else z.2.1,if i=1 then(z.2.2.1.1,z.2.2.1.2.set j u)else z.2.2.1,if i=2 then(z.2.2.2.1,z.2.2.2.2.set j u)else z.2.2.2)
end Go.Sky
namespace Go.Sky
abbrev S3T:=SL×SL×SL
abbrev GvT:=(S3T×S3T×S3T)×(SL×SL×SL)
def gvs(q:GvT):List PT:=[(q.2.1,[gv0 q.1.1]),(q.2.2.1,[gv1 q.1.2.1]),(q.2.2.2,[gv2 q.1.2.2])]
def NrL(a b:List Zd)(c hi:Int):Prop:=0<=c/\c<=hi/\hi<=4194304/\(∀k,1<=k->k<=c->apZ k 1 1 a b=true)/\∀k,hi<k->k<=4194304->apZ k 1 1 a b=false
section
variable {a b:List Zd} (hpa:∀g∈a,Gin g) (hpb:∀g∈b,Gin g) (hba:Yg a=true) (hbb:Yg b=true)
include hpa hpb hba hbb
end
end Go.Sky
namespace Go.Sky
variable{t u:Rat}{k:Nat}{q h:Zd}
def sR(g:Zd)(t:Rat):Rat:=(t-(g.1.1:Rat))/((g.1.2.1-g.1.1:Int):Rat)
def InG(g:Zd)(t:Rat):Prop:=(g.1.1:Rat)<=t/\t<=(g.1.2.1:Rat)
theorem Yij{g:Zd}(h:SgG g):((g.1.2.1-g.1.1:Int):Rat)≠0:=by have:=h.t2;exact_mod_cast (show g.1.2.1-g.1.1≠0 by omega)
theorem Ygi{g:Zd}(h:SgG g)(t:Rat):sR g t*((g.1.2.1-g.1.1:Int):Rat)=t-(g.1.1:Rat):=by unfold sR;exact eE (Yij h)
theorem Zzm{ps:List Zd}(r:∀g∈ps,Gin g)(a:Yg ps=true){j:Nat}(w:j<k)(b:k<ps.length)(n:InG (ps.getD j G0) t)(o:InG (ps.getD k G0) t) :
  SmP (ps.getD j G0) (sR (ps.getD j G0) t) (ps.getD k G0) (sR (ps.getD k G0) t):=by
 have sg:∀k,k<ps.length->SgG (ps.getD k G0):=λk b=>Oo (r _ (Zg b)) (Om ((Xb a).1 _ b));have x:(ps.getD k G0).1.1<=(ps.getD j G0).1.2.1:=by exact_mod_cast fJ o.1 n.2
 have f:k=j+1:=by refine aZ λD=>?_;obtain⟨m,rfl⟩:∃m,k=m+1:=⟨k-1,O1⟩;have c:=Zfr a b;have d:=Zf7 r a (k:=j+1) (m:=m) O1 O1;have z:=Zfr a (i:=j) O1;have B:=(sg (j+1) O1).t2;omega
 subst f;have p:=Zfr a (i:=j) O1;have y:meG (ps.getD j G0) (ps.getD (j+1) G0)=true:=by have c:=(Xb a).1 _ b;have d:=Zh7 (Om c) (nB _);rw [c]at d;exact d.symm
 have e:t=((ps.getD j G0).1.2.1:Rat):=by refine Rat.le_antisymm n.2 ?_;rw [<-p];exact o.1
 have l:=sg j O1;have s:sR (ps.getD j G0) t=1:=by unfold sR;rw [e,show(((ps.getD j G0).1.2.1:Rat)-((ps.getD j G0).1.1:Rat))=(((ps.getD j G0).1.2.1-(ps.getD j G0).1.1:Int):Rat) by push_cast;rfl,jR];exact mR _ (Yij l)
 have v:sR (ps.getD (j+1) G0) t=0:=by unfold sR;rw [e,p,jR];grind
 rw [s,v];exact SmP_me l (sg _ b) y
theorem Zk2{ps:List Zd}(d:∀g∈ps,Gin g)(c:Yg ps=true){j:Nat}(e:j<ps.length)(f:k<ps.length)(a:InG (ps.getD j G0) t)(b:InG (ps.getD k G0) t) :
  SmP (ps.getD j G0) (sR (ps.getD j G0) t) (ps.getD k G0) (sR (ps.getD k G0) t):=by
 rcases kS j k with h|h|h
 .exact Zzm d c h f a b
 .subst h;exact λi hi=>rfl
 .exact(Zzm d c h e b a).symm
theorem Zyz{g:Zd}{G:Int}(a:SgG g)(h:Prt q g G) : SmP q u g (sR g ((q.1.1:Rat)+u*((q.1.2.1-q.1.1:Int):Rat))):=
 Yra h (by rw [Ygi a];push_cast;grind)
def pzQ(g:Zd)(i:Nat)(s:Rat):Rat:=spX g i s/(g.1.2.2:Rat)
def dQ(g h:Zd)(s u:Rat):Rat:=(pzQ g 0 s-pzQ h 0 u)*(pzQ g 0 s-pzQ h 0 u)+(pzQ g 1 s-pzQ h 1 u)*(pzQ g 1 s-pzQ h 1 u)+(pzQ g 2 s-pzQ h 2 u)*(pzQ g 2 s-pzQ h 2 u)
theorem Zc4{g:Zd}{s:Rat}(j:SgG g)(l:SgG h)(e:SmP g s h u){i:Nat}(hi:i<3):pzQ g i s=pzQ h i u:=by
 have c:=e i hi;have a:=Zt1 j;have b:=Zt1 l;have d:pzQ g i s*(g.1.2.2:Rat)=spX g i s:=eE a;have f:pzQ h i u*(h.1.2.2:Rat)=spX h i u:=eE b;rw [<-d,<-f]at c;have:(pzQ g i s-pzQ h i u)*((g.1.2.2:Rat)*(h.1.2.2:Rat))=0:=O5;rcases fG.1 this with k|k
 .grind
 .rcases fG.1 k with k|k
  .exact absurd k a
  .exact absurd k b
theorem dQ_sm{g r:Zd}{s v w:Rat}(a:SgG g)(b:SgG h)(c:SgG q)(d:SgG r)(e:SmP g s q v)(f:SmP h u r w):dQ g h s u=dQ q r v w:=by unfold dQ;rw [Zc4 a c e (i:=0) O4,Zc4 a c e (i:=1) O4,Zc4 a c e (i:=2) O4,Zc4 b d f (i:=0) O4,Zc4 b d f (i:=1) O4,Zc4 b d f (i:=2) O4]
theorem fv_dQ{g:Zd}(s:SgG g)(v:SgG h)(D:Int)(t:Rat):0<=fvE D 1 1 g.1.2.2 h.1.2.2 g.2.1.2 g.2.2.1.2 g.2.2.2.2 h.2.1.2 h.2.2.1.2 h.2.2.2.2 t↔(D:Rat)*D<=dQ g h t t:=by
 have c:=Zt1 s;have d:=Zt1 v;have a:∀i,spX g i t=pzQ g i t*(g.1.2.2:Rat)/\spX h i t=pzQ h i t*(h.1.2.2:Rat):=λi=>⟨(eE c).symm,(eE d).symm⟩;have f:Zc g.2.1.2 t=pzQ g 0 t*(g.1.2.2:Rat):=(a 0).1;have j:Zc g.2.2.1.2 t=pzQ g 1 t*(g.1.2.2:Rat):=(a 1).1;have l:Zc g.2.2.2.2 t=pzQ g 2 t*(g.1.2.2:Rat):=(a 2).1;have m:Zc h.2.1.2 t=pzQ h 0 t*(h.1.2.2:Rat):=(a 0).2;have n:Zc h.2.2.1.2 t=pzQ h 1 t*(h.1.2.2:Rat):=(a 1).2;have o:Zc h.2.2.2.2 t=pzQ h 2 t*(h.1.2.2:Rat):=(a 2).2;have w:(g.1.2.2:Rat)*(h.1.2.2:Rat)≠0:=λe=>by
  rcases fG.1 e with k|k
  .exact c k
  .exact d k
 have b:0<((g.1.2.2:Rat)*(h.1.2.2:Rat))*((g.1.2.2:Rat)*(h.1.2.2:Rat)):=by have x:=Yfs ((g.1.2.2:Rat)*(h.1.2.2:Rat));refine Rat.not_le.1 λy=>?_;have r:((g.1.2.2:Rat)*(h.1.2.2:Rat))*((g.1.2.2:Rat)*(h.1.2.2:Rat))=0:=O5;rcases fG.1 r with k|k<;>exact w k
 have e:fvE D 1 1 g.1.2.2 h.1.2.2 g.2.1.2 g.2.2.1.2 g.2.2.2.2 h.2.1.2 h.2.2.1.2 h.2.2.2.2 t=((g.1.2.2:Rat)*(h.1.2.2:Rat))*((g.1.2.2:Rat)*(h.1.2.2:Rat))*(dQ g h t t-(D:Rat)*D):=by unfold fvE dfA dQ;rw [f,j,l,m,n,o];push_cast;grind
 rw [e];constructor
 .intro p;refine iJ.1 λz=>?_;have:=aT b (show 0<(D:Rat)*D-dQ g h t t by grind);grind
 .intro p;exact aD (cT b) O5
structure Pcs (a b:List Zd) (n:Nat) (T:Nat->Int) (ua ub:Nat->Zck) (ja jb:Nat->Nat):Prop where
 n1:1<=n
 t0:T 0=Ag a b
 tn:T n=Af a b
 lt:∀k,k<n->T k<T (k+1)/\Ag a b<=T k/\T (k+1)<=Af a b
 la:∀k,k<n->ja k<a.length/\(a.getD (ja k) G0).1.1<=T k/\T (k+1)<=(a.getD (ja k) G0).1.2.1
 lb:∀k,k<n->jb k<b.length/\(b.getD (jb k) G0).1.1<=T k/\T (k+1)<=(b.getD (jb k) G0).1.2.1
 pa:∀k,k<n->SgG (mkS (ua k))/\(∃G,Prt (mkS (ua k)) (a.getD (ja k) G0) G)/\(ua k).1.1=T k/\(ua k).1.2.1=T (k+1)
 pb:∀k,k<n->SgG (mkS (ub k))/\(∃G,Prt (mkS (ub k)) (b.getD (jb k) G0) G)/\(ub k).1.1=T k/\(ub k).1.2.1=T (k+1)
 ra:Lt a b a=(List.range n).map ua
 rb:Lt a b b=(List.range n).map ub
theorem Zmw{a:List Int}{ps:List Zd}{u:Nat->Zck} : ∀n,(∀k,k<n->Gy (a.getD k 0) (a.getD (k+1) 0) ps=[u k])->Zcs a ps n=(List.range n).map u
 | 0,_=>rfl
 | n+1,h=>by show Zcs a ps n ++ Gy _ _ ps=_;rw [Zmw n (λk b=>h k O1),h n O1,lI,dW];rfl
theorem pcs{a b:List Zd}(s:∀g∈a,Gin g)(v:∀g∈b,Gin g)(o:Yg a=true)(p:Yg b=true)(W:Ag a b<Af a b)(H:Ga a b=0):∃n T Z ub e f,Pcs a b n T Z ub e f:=by
 have w:Bg a b=0:=by
  unfold Ga at H;split at H
  .rename_i S;unfold Bg at S;omega
  omega
 obtain⟨-,V⟩:=Yk0 w;have B:=bks _ _ W;have Y:=B.two;have G:∀ps,Lt a b ps=Zcs (Lg a b) ps ((Lg a b).length-1):=λps=>aO w;have kk:=Zvv V;have R:∀k,k+1<(Lg a b).length->∃j,j<a.length/\(a.getD j G0).1.1<=(Lg a b).getD k 0/\(Lg a b).getD (k+1) 0<=(a.getD j G0).1.2.1:=λk c=>by obtain⟨i,l,m⟩:=B.lt k c;unfold Ag at i;unfold Af at m;exact Zpi s o O1 l O1 λg r=>B.no k c g (.inl r)
 have gb:∀k,k+1<(Lg a b).length->∃j,j<b.length/\(b.getD j G0).1.1<=(Lg a b).getD k 0/\(Lg a b).getD (k+1) 0<=(b.getD j G0).1.2.1:=λk c=>by obtain⟨i,l,m⟩:=B.lt k c;unfold Ag at i;unfold Af at m;exact Zpi v p O1 l O1 λg r=>B.no k c g (.inr r)
 have x:∃(e f:Nat->Nat),∀k,k+1<(Lg a b).length->(e k<a.length/\(a.getD (e k) G0).1.1<=(Lg a b).getD k 0/\(Lg a b).getD (k+1) 0<=(a.getD (e k) G0).1.2.1)/\(f k<b.length/\(b.getD (f k) G0).1.1<=(Lg a b).getD k 0/\(Lg a b).getD (k+1) 0<=(b.getD (f k) G0).1.2.1):=by refine⟨λk=>if c:k+1<(Lg a b).length then Classical.choose (R k c)else 0,λk=>if c:k+1<(Lg a b).length then Classical.choose (gb k c)else 0,λk c=>?_⟩;grind
 obtain⟨e,f,d⟩:=x;have D:∀k,k+1<(Lg a b).length->_:=λk c=>by obtain⟨i,l,m⟩:=B.lt k c;unfold Ag at i;unfold Af at m;exact Ybr s o O1 l O1 (λg r=>B.no k c g (.inl r)) (kk k O1).1 (d k c).1.1 (d k c).1.2.1 (d k c).1.2.2
 have F:∀k,k+1<(Lg a b).length->_:=λk c=>by obtain⟨i,l,m⟩:=B.lt k c;unfold Ag at i;unfold Af at m;exact Ybr v p O1 l O1 (λg r=>B.no k c g (.inr r)) (kk k O1).2 (d k c).2.1 (d k c).2.2.1 (d k c).2.2.2
 refine⟨(Lg a b).length-1,λk=>(Lg a b).getD k 0,λk=>Zeo ((Lg a b).getD k 0) ((Lg a b).getD (k+1) 0) (a.getD (e k) G0),λk=>Zeo ((Lg a b).getD k 0) ((Lg a b).getD (k+1) 0) (b.getD (f k) G0),e,f,O1,B.hd,B.ls,λk c=>?_,λk c=>(d k O1).1,λk c=>(d k O1).2,λk c=>?_,λk c=>?_,?_,?_⟩
 .obtain⟨i,l,m⟩:=B.lt k O1;omega
 .obtain⟨-,y,z,I,M⟩:=D k O1;obtain⟨N,P,Q⟩:=Zj2 (q:=mkS (Zeo ((Lg a b).getD k 0) ((Lg a b).getD (k+1) 0) (a.getD (e k) G0))) (s _ (Zg (d k O1).1.1)) (Om ((Xb o).1 _ (d k O1).1.1)) y z rfl;grind [Oo]
 .obtain⟨-,y,z,I,M⟩:=F k O1;obtain⟨N,P,Q⟩:=Zj2 (q:=mkS (Zeo ((Lg a b).getD k 0) ((Lg a b).getD (k+1) 0) (b.getD (f k) G0))) (v _ (Zg (d k O1).2.1)) (Om ((Xb p).1 _ (d k O1).2.1)) y z rfl;exact⟨Oo N P,⟨_,Q⟩,I,M⟩
 .rw [G];exact Zmw _ λk c=>(D k O1).1
 .rw [G];exact Zmw _ λk c=>(F k O1).1
theorem btwR{T:Nat->Int}{t:Rat}(b:(T 0:Rat)<=t):∀n,1<=n->t<=(T n:Rat)->∃k,k<n/\(T k:Rat)<=t/\t<=(T (k+1):Rat)
 | 0,h,_=>absurd h O8
 | 1,_,h=>⟨0,O8,b,h⟩
 | n+2,_,h=>by
  rcases Rat.le_total with a|a
  .obtain⟨k,e,c,d⟩:=btwR b (n+1) O1 a;exact⟨k,O1,c,d⟩
  .exact⟨n+1,O1,a,h⟩
section
variable {a b:List Zd} (hpa:∀g∈a,Gin g) (hpb:∀g∈b,Gin g) (hba:Yg a=true) (hbb:Yg b=true)
include hpa hpb hba hbb
theorem pcs_at{n:Nat}{T:Nat->Int}{e f:Nat->Zck}{m o:Nat->Nat}(P:Pcs a b n T e f m o):∀k,k<n->∀u:Rat,0<=u->u<=1->∀t:Rat,t=(T k:Rat)+u*((T (k+1)-T k:Int):Rat)->InG (a.getD (m k) G0) t/\InG (b.getD (o k) G0) t/\(Ag a b:Rat)<=t/\t<=(Af a b:Rat)/\dQ (mkS (e k)) (mkS (f k)) u u=dQ (a.getD (m k) G0) (b.getD (o k) G0) (sR (a.getD (m k) G0) t) (sR (b.getD (o k) G0) t):=by
 intro k d u S u1 t l;have i:∀k,k<a.length->SgG (a.getD k G0):=λk d=>Oo (hpa _ (Zg d)) (Om ((Xb hba).1 _ d));have j:∀k,k<b.length->SgG (b.getD k G0):=λk d=>Oo (hpb _ (Zg d)) (Om ((Xb hbb).1 _ d));obtain⟨r,V,W⟩:=P.la k d;obtain⟨s,Y,Z⟩:=P.lb k d;obtain⟨Q,⟨G,M⟩,v,w⟩:=P.pa k d;obtain⟨R,⟨K,N⟩,z,B⟩:=P.pb k d;obtain⟨l1,H,l3⟩:=P.lt k d;have p:(0:Rat)<=((T (k+1)-T k:Int):Rat):=by exact_mod_cast (show 0<=T (k+1)-T k by omega)
 have m1:=aD S p;have I:=aD (show(0:Rat)<=1-u by grind) p;have t1:(T k:Rat)<=t:=by rw [l];grind
 have t2:t<=(T (k+1):Rat):=by rw [l];push_cast at I ⊢;grind
 have c:∀{x y:Int},x<=y->(x:Rat)<=(y:Rat):=λh=>by exact_mod_cast h
 have f1:=Zyz (i _ r) M (u:=u);have f2:=Zyz (j _ s) N (u:=u);have D:((mkS (e k)).1.1:Rat)+u*(((mkS (e k)).1.2.1-(mkS (e k)).1.1:Int):Rat)=t:=by rw [l,show(mkS (e k)).1.1=T k from v,show(mkS (e k)).1.2.1=T (k+1)from w]
 have F:((mkS (f k)).1.1:Rat)+u*(((mkS (f k)).1.2.1-(mkS (f k)).1.1:Int):Rat)=t:=by rw [l,show(mkS (f k)).1.1=T k from z,show(mkS (f k)).1.2.1=T (k+1)from B]
 rw [D]at f1;rw [F]at f2;exact⟨⟨fJ (c V) t1,fJ t2 (c W)⟩,⟨fJ (c Y) t1,fJ t2 (c Z)⟩,fJ (c H) t1,fJ t2 (c l3),dQ_sm Q R (i _ r) (j _ s) f1 f2⟩
theorem ap_sem{D:Int}(R:dsB D=true)(r:Ag a b<Af a b)(w:Ga a b=0) :
  apZ D 1 1 a b=true↔∀t:Rat,(Ag a b:Rat)<=t->t<=(Af a b:Rat)->∀j k,j<a.length->k<b.length->InG (a.getD j G0) t->InG (b.getD k G0) t->(D:Rat)*D<=dQ (a.getD j G0) (b.getD k G0) (sR (a.getD j G0) t) (sR (b.getD k G0) t):=by
 obtain⟨n,T,G,H,Y,Z,P⟩:=pcs hpa hpb hba hbb r w;have i:∀k,k<a.length->SgG (a.getD k G0):=λk c=>Oo (hpa _ (Zg c)) (Om ((Xb hba).1 _ c));have l:∀k,k<b.length->SgG (b.getD k G0):=λk c=>Oo (hpb _ (Zg c)) (Om ((Xb hbb).1 _ c));have F:=pcs_at hpa hpb hba hbb P;have B:(Lt a b a).zip (Lt a b b)=(List.range n).map λk=>(G k,H k):=by rw [P.ra,P.rb,List.zip_map']
 rw [Zyr (cvS hpa hpb hba hbb R)];constructor
 .rintro⟨-,h⟩ t N Q j m x f V W;obtain⟨k,c,k1,k2⟩:=btwR (T:=T) (by rw [P.t0];exact N) n P.n1 (by rw [P.tn];exact Q);obtain⟨l1,-,-⟩:=P.lt k c;have S:((T (k+1)-T k:Int):Rat)≠0:=by exact_mod_cast (show T (k+1)-T k≠0 by omega)
  have y:(0:Rat)<((T (k+1)-T k:Int):Rat):=by exact_mod_cast (show 0<T (k+1)-T k by omega)
  have z:(t-(T k:Rat))/((T (k+1)-T k:Int):Rat)*((T (k+1)-T k:Int):Rat)=t-(T k:Rat):=eE S;generalize (t-(T k:Rat))/((T (k+1)-T k:Int):Rat)=u at z;have o:0<=u:=by refine iJ.1 λr=>?_;have:=aT (show 0 < -u by grind) y;grind
  have p:u<=1:=by refine iJ.1 λr=>?_;have:=aT (show 0<u-1 by grind) y;push_cast at this z;grind
  obtain⟨s,v,-,-,e⟩:=F k c u o p t O5;have d:=h (G k) (H k) (by rw [B];exact dP.2 ⟨k,cF.2 c,rfl⟩) u o p;have d:=(fv_dQ (P.pa k c).1 (P.pb k c).1 D u).1 d;rw [e]at d;rw [dQ_sm (i _ x) (l _ f) (i _ (P.la k c).1) (l _ (P.lb k c).1) (Zk2 hpa hba x (P.la k c).1 V s) (Zk2 hpb hbb f (P.lb k c).1 W v)];exact d
 .intro h;refine⟨w,λg q f u o p=>?_⟩;rw [B]at f;obtain⟨k,c,e⟩:=dP.1 f;have c:=cF.1 c;cases e;obtain⟨s,v,I,M,e⟩:=F k c u o p _ rfl;have d:=h _ I M _ _ (P.la k c).1 (P.lb k c).1 s v;rw [<-e]at d;exact(fv_dQ (P.pa k c).1 (P.pb k c).1 D u).2 d
end
end Go.Sky

