/- Rules, arithmetic and contracts: part 16. No conditions but those that each theorem names. -/
import Derived.Test.YtlnoheikolgejaaGreatLb14
import Derived.RangeFuncNested
set_option linter.all false
set_option maxHeartbeats 4000000
namespace Go.Sky
open Go.RowKit Below
variable{ops:Array Oper}{o:Oper}{rest:List Oper}{d i:Nat}{x:Operand}{ops':List Operand}{tys:Array TypeId}{w0:World}{M:Nat->Prop}{Jx:World->Prop}{pre:List Pc}
variable {P:Program} {N:Nat} {sc:Nat->Prop} {env env':Pt} {H H':Hp} {Q Q':Exit->Act->World->Prop}
def fctP(p:Prop):Pc:={ own:=false,fp:=λ_=>False,holds:=λ_=>p,lt:=λ_ _ _ h=>h.elim,stable:=λ_ _ h _=>h }
theorem wtd{j e:Nat}{b:Bool}(h:o.guard=some (j,b))(k:(ops[j]?).bind (·.dst)=some e)(g:lk env e=some (.bool b))(c:Nat.blt e N=true):∀a w,Sat N sc env H a w->Region.wanted o (yielded ops a.tmps)=true:=λa w hs=>by have f:=hs.yielded k g c;simp [Region.wanted,h,f]
theorem My{v:Value}(f:Mk P N sc o env H v)(e:∀a w,Sat N sc env H a w->Region.wanted o (yielded ops a.tmps)=true)(c:o.dst=some d)(b:Nat.blt d N=true)(h:LI P N sc ops rest Q ((d,v)::env) H):LI P N sc ops (o::rest) Q env H:=λa w hs=>by unfold wpListIn;rw [aM (e a w hs)];refine⟨λ_ _=>trivial,?_⟩;show o.uponIn Fence.wide 0 P a _ Q ((execOp a.eval o).run P w);rw [f a w hs];show wpListIn Fence.wide 0 P ops Q rest (a.put o.dst v) w;rw [c];exact h _ w (hs.put d v b)
theorem Zet (vs:List Value)(pre:List Pc)    {l:Nat}     {W:World}  {J:Nat->World->Prop}  {α G:Type} {xs:List α} {ys:α->G->List Value} {D:α->G->List Pc} 
  {k:Nat} (y:α) (g:G) (hY:YJI P w0 l M J Jx xs ys D) (hy:xs[k]? = some y) (hJ:J k W) (hW:w0.heap.size<=W.heap.size) (m:∀p∈pre,∀b,p.fp b->b<w0.heap.size/\¬M b)
  (ho:o.op= .call { callee:= .value x,args:=ops'.toArray,argTypes:=tys }) (hg:∀a w,Sat N sc env H a w->Region.wanted o (yielded ops a.tmps)=true) (hd:o.dst=some d) (Z:Nat.blt d N=true) (hx:ev env x=some (.func (.yield l) #[] #[])) (r:EvL env ops' vs) (S:vs=ys y g)
  (h0:lk H 0=some (Xt W (λ_=>False))) (u:∀p∈D y g,p.own=false/\(∀b,p.fp b->W.heap.size<=b)/\∃i I,lk H i=some I/\∀w,I.holds w->p.holds w)
  (v:AllRo pre) (n:HSub (Xh 1 pre) H)
  (ht:∀c,J (k+1) c->w0.heap.size<=c.heap.size->LI P N sc ops rest Q ((d,.bool true)::env) ((0,Xt c (λ_=>False))::Xh 1 pre))
  (hf:∀c,Jx c->w0.heap.size<=c.heap.size->LI P N sc ops rest Q ((d,.bool false)::env) ((0,Xt c (λ_=>False))::Xh 1 pre)):LI P N sc ops (o::rest) Q env H:=λa w hs=>by
 subst S;have Y:=Ho (hs.hold 0 _ h0);obtain⟨fn,F,f,s,z,j⟩:=hY k y g hy W w hJ hW Y (λp hp=>by obtain⟨h1,h2,i,I,hi,hh⟩:=u p hp;exact⟨hh w (hs.hold i I hi),h1,h2⟩)
 have R:(o.semAt Fence.wide.round a.eval).run P w= .ok (.round l fn F f s) w:=by show(execOp a.eval o).run P w=_;have hm:=r.map hs;have V:=hs.ev hx;simp [execOp,ho,resolve,invoke,Deferred.ofValue,hm,V,z,Sem.run_bind]
 unfold wpListIn;rw [aM (hg a w hs)];refine⟨λ_ _=>trivial,?_⟩;rw [R];refine⟨λh=>(by cases h),j.mono ?_⟩;have B:w0.heap.size<=w.heap.size:=aB hW Y.size;rintro e c (⟨rfl,q,t⟩|⟨rfl,q,t⟩)
 .show wpListIn Fence.wide 0 P ops Q rest (a.put o.dst _) c;rw [hd];exact ht c q (aB B t.size) _ c ((hs.base m v n t).put d _ Z)
 .show wpListIn Fence.wide 0 P ops Q rest (a.put o.dst _) c;rw [hd];exact hf c q (aB B t.size) _ c ((hs.base m v n t).put d _ Z)
theorem Zla{α:Type}{ps:List α}{p:α->Bool}{d:α}(hi:i<ps.length)(b:p (ps.getD i d)=true):(ps.filter p)[((ps.take i).filter p).length]? = some (ps.getD i d):=by
 have h:=fI i ps;have a:ps.drop i=ps.getD i d::ps.drop (i+1):=by rw [aK,aN hi,eQ];exact eH hi
 conv=>lhs;arg 1;rw [<-h,a]
 rw [fH,eA b];simp
theorem Ydg{α:Type}{ps:List α}{p:α->Bool}{d:α}(hi:i<ps.length)(a:p (ps.getD i d)=true):((ps.take (i+1)).filter p).length=((ps.take i).filter p).length+1:=by rw [Qx d _ _ hi,fH,eA a,aP];rfl
theorem Ydh{α:Type}{ps:List α}{p:α->Bool}{d:α}(hi:i<ps.length)(a:p (ps.getD i d)=false):((ps.take (i+1)).filter p).length=((ps.take i).filter p).length:=by rw [Qx d _ _ hi,fH,fX (by rw [a];exact eD),aP];rfl
theorem Zhx{φ:Prop}{n:Nat}{H:Hp}{k:Pc}(h:φ)(c:lk H 0=some k):∀p∈[fctP φ],p.own=false/\(∀b,p.fp b->n<=b)/\∃i a,lk H i=some a/\∀w,a.holds w->p.holds w:=λp f=>by rw [cI.1 f];exact⟨rfl,λb e=>e.elim,0,k,c,λ_ _=>h⟩
theorem fk_of{fn:Func}{al:Bool}{G:Type}{φ:G->Prop}{val:G->Value}{b:G->List Pc}(h:X N sc .ret (Zc2 P fn w0 pre al φ val b) env H):X N sc .ret (Zgg P fn w0 pre al φ val b) env H:=λa w hs=>by obtain⟨e,v,f,c⟩:=h a w hs;show LeavesInM Fence.wide 0 P fn a.tmps _ a.defers .returning w;rw [e];exact⟨v,f,c⟩
end Go.Sky
namespace Go.Sky
open Go.Proofs.Tryz
open Go.Proofs
set_option synthInstance.maxHeartbeats 0
set_option synthInstance.maxSize 100000
set_option maxRecDepth 20000
set_option linter.unusedSimpArgs false
variable{D:Int}{a b:List Zt}{zs:List GpT}
theorem Za8(x y:Int)(f:Mw x)(g:Mw y)(d:y≠0):Xq prog 176 #[.int .i64 x,.int .i64 y] [] (.agg #[.bool (decide (Zac x y<0)),.string (Qw (Zac x y).natAbs),.bool (decide (Dw x y<0)),.string (Qw (Dw x y).natAbs)]):=by refine Zg func176 ntmps176 λk j i c=>go 2 ?_;refine Yk (Yh 1) λh _=>go 6 ?_;refine cl 1 [] (Ei x y f g d) λ_ _=>go 3<|Yk (Yh 2) λe _=>go 11 ?_;exact Yq c () results176 J aA Za
theorem Yql(v:Value)(zs:List GpT)(Q:Nat)(B:∀z∈zs,Cvd z.2.2):Yuh prog 174 [.pointer (some ⟨Q,0,none⟩)] [Hr Q 155 #[v],Qb 3 Ie qGp v zs] (α:=GpT) (G:=R2) (zs.filter (λz:GpT=>Hu z.2.2)) (λc g=>[.agg #[.int .i64 c.1.1,.int .i64 c.1.2,Xi c.2.1],.agg #[.bool (decide (g.1<0)),.string (Qw (g.1).natAbs),.bool (decide (g.2<0)),.string (Qw (g.2).natAbs)]]) (λc g=>[fctP (Fnd c.2.2 (qv (0,1)) (qv (1,1)) g)]):=by
 refine Yes func174 J ntmps174 J K2 ?_;intro l M JI Jx w0 sc hw k o h y w;simp only [Po,Xh];have F:=Hw.mk hw;refine Xr (Ps (i:=2) J Ze) λa3=>go 8 ?_;refine lp (G:=Nat×World) [0,8,9] [1,2] (λq=>[(10,.int .i64 (q.1:Int))]) (λq=>[(0,Xt q.2 (λ_=>False))]) (λq=>(q.1<=zs.length)/\(JI ((zs.take q.1).filter (λz:GpT=>Hu z.2.2)).length q.2)/\(w0.heap.size<=q.2.heap.size)) (λq=>zs.length-q.1) (0,w0) ⟨O1,y,aH _⟩ K1 K1 ?_;rintro⟨i,W⟩ ⟨hi,n,p⟩;dsimp only at hi n p;dsimp only;have b2:=hw_up F p;refine go 6<|Zc J (λx=>?_) (λx=>?_)
 .refine go 5<|Zf (Oj 2 55 (zs.getD i Gp0) J J (Zd O) J) ?_;have j:=B (zs.getD i Gp0) (Zd O);refine go 1 ?_;refine dt (Zv 2 i J J J J Ze Ze9 sizeOf178 J)<|dt (Xd 2 Gp0 J J J Ze pGp)<|Yk (Yh 3) λbx _=>go 4 ?_;rcases tf (Hu (zs.getD i Gp0).2.2)with d|d
  .refine Qn [3] [12]<|Zk 11 [(0,0),(1,0)]<|go 3 ?_;refine Pk 10 2 9 ?_ ?_
   .refine Nl (Zp 3 [] (Za8 0 1 ⟨O3,O3⟩ ⟨O3,O3⟩ O3)) λ_ _=>?_;refine Pk 9 3 9 ?_ ?_
    .refine Nl (Zp 3 [] (Za8 1 1 ⟨O3,O3⟩ ⟨O3,O3⟩ O3)) λ_ _=>?_;refine Pk 8 4 9 ?_ ?_
     .refine Nl (Zp 3 [55] (Gc (0,1) (1,1) j Zfm Zfl Zd0 d)) λ_ _=>?_;refine Zk 0 [(5,0),(6,0),(7,0),(8,0),(9,1),(10,1),(11,0),(12,3)]<|go 4 ?_;refine Ys (Qo 4) λR ho=>go 4<|Zu<|go 21 ⟨O,?_⟩;exact Yi (i+1,W) ⟨O1,by rw [Ydh O d];exact n,p⟩ O1 K1 K1
     .refine Nl (Qo 5) λS a4=>?_;refine Zk 0 [(4,1),(5,0),(6,0),(7,0),(8,0),(10,1),(11,0),(12,3)]<|Ys (Zp 5 [55] (Gc (0,1) (1,1) j Zfm Zfl Zd0 d)) λ_ _=>go 8 ?_;refine Zu<|go 21 ⟨O,?_⟩;exact Yi (i+1,W) ⟨O1,by rw [Ydh O d];exact n,p⟩ O1 K1 K1
    .refine Nl (Qo 6) λV a5=>?_;refine Zk 0 [(3,1),(4,1),(5,0),(6,0),(7,0),(8,0),(10,1),(11,0),(12,3)]<|Ys (Zp 6 [] (Za8 1 1 ⟨O3,O3⟩ ⟨O3,O3⟩ O3)) λ_ _=>Ys (Zp 6 [55] (Gc (0,1) (1,1) j Zfm Zfl Zd0 d)) λ_ _=>go 8 ?_;refine Zu<|go 21 ⟨O,?_⟩;exact Yi (i+1,W) ⟨O1,by rw [Ydh O d];exact n,p⟩ O1 K1 K1
   .refine Nl (Qo 7) λY a6=>?_;refine Zk 0 [(2,1),(3,1),(4,1),(5,0),(6,0),(7,0),(8,0),(10,1),(11,0),(12,3)]<|Ys (Zp 7 [] (Za8 0 1 ⟨O3,O3⟩ ⟨O3,O3⟩ O3)) λ_ _=>Ys (Zp 7 [] (Za8 1 1 ⟨O3,O3⟩ ⟨O3,O3⟩ O3)) λ_ _=>Ys (Zp 7 [55] (Gc (0,1) (1,1) j Zfm Zfl Zd0 d)) λ_ _=>go 8 ?_;refine Zu<|go 21 ⟨O,?_⟩;exact Yi (i+1,W) ⟨O1,by rw [Ydh O d];exact n,p⟩ O1 K1 K1
  .refine Qn [3] [12]<|Zk 11 [(0,0),(1,0)]<|go 3 ?_;refine Pk 10 2 9 ?_ ?_
   .refine Nl (Zp 7 [] (Za8 0 1 ⟨O3,O3⟩ ⟨O3,O3⟩ O3)) λ_ _=>?_;refine Pk 9 3 9 ?_ ?_
    .refine Nl (Zp 7 [] (Za8 1 1 ⟨O3,O3⟩ ⟨O3,O3⟩ O3)) λ_ _=>?_;refine Pk 8 4 9 ?_ ?_
     .refine Nl (Zp 7 [55] (Hg (0,1) (1,1) j Zfm Zfl Zd0 d)) λH r=>?_;refine Zk 0 [(5,0),(6,0),(7,0),(8,0),(9,1),(10,1),(11,0),(12,3)]<|go 4 ?_;refine Ys (Qo 8) λZ a7=>go 4<|Zu<|go 2<|Ym6 ?_;refine Kn (Zbw J J) J<|Kn (Zbw J J) J<|My (Zbw J J) (wtd J J J J) J J<|My (DI.h aA) (wtd J J J J) J J<|My (DI.h aA) (wtd J J J J) J J<|Zet [_,_] [_,_] (zs.getD i Gp0) H w (Zla O d) n p k J (wtd J J J J) J J J K2 J J (Zhx r J) K2 K2 (λm e f=>?_) (λm e f=>?_)
      .simp only [Xh];refine My (dF (Qc J J) J) (wtd J J J J) J J<|Kn (Aj J J J) J<|Zbb<|go 9 ⟨O,?_⟩;exact Yi (i+1,m) ⟨O1,by rw [Ydg O d];exact e,f⟩ O1 K1 K1
      .simp only [Xh];refine My (dT (Qc J J) J) (wtd J J J J) J J<|Kn (Aj J J J) J<|Zbb<|go 7 ?_;exact Zfp (.inl J) J J o h (.inr e)
     .refine Nl (Qo 9) λa0 a8=>?_;refine Zk 0 [(4,1),(5,0),(6,0),(7,0),(8,0),(10,1),(11,0),(12,3)]<|Ys (Zp 9 [55] (Hg (0,1) (1,1) j Zfm Zfl Zd0 d)) λI s=>go 8 ?_;refine Zu<|go 2<|Ym6 ?_;refine Kn (Zbw J J) J<|Kn (Zbw J J) J<|My (Zbw J J) (wtd J J J J) J J<|My (DI.h aA) (wtd J J J J) J J<|My (DI.h aA) (wtd J J J J) J J<|Zet [_,_] [_,_] (zs.getD i Gp0) I w (Zla O d) n p k J (wtd J J J J) J J J K2 J J (Zhx s J) K2 K2 (λm e f=>?_) (λm e f=>?_)
      .simp only [Xh];refine My (dF (Qc J J) J) (wtd J J J J) J J<|Kn (Aj J J J) J<|Zbb<|go 9 ⟨O,?_⟩;exact Yi (i+1,m) ⟨O1,by rw [Ydg O d];exact e,f⟩ O1 K1 K1
      .simp only [Xh];refine My (dT (Qc J J) J) (wtd J J J J) J J<|Kn (Aj J J J) J<|Zbb<|go 7 ?_;exact Zfp (.inl J) J J o h (.inr e)
    .refine Nl (Qo 10) λa1 a9=>?_;refine Zk 0 [(3,1),(4,1),(5,0),(6,0),(7,0),(8,0),(10,1),(11,0),(12,3)]<|Ys (Zp 10 [] (Za8 1 1 ⟨O3,O3⟩ ⟨O3,O3⟩ O3)) λ_ _=>Ys (Zp 10 [55] (Hg (0,1) (1,1) j Zfm Zfl Zd0 d)) λN t=>go 8 ?_;refine Zu<|go 2<|Ym6 ?_;refine Kn (Zbw J J) J<|Kn (Zbw J J) J<|My (Zbw J J) (wtd J J J J) J J<|My (DI.h aA) (wtd J J J J) J J<|My (DI.h aA) (wtd J J J J) J J<|Zet [_,_] [_,_] (zs.getD i Gp0) N w (Zla O d) n p k J (wtd J J J J) J J J K2 J J (Zhx t J) K2 K2 (λm e f=>?_) (λm e f=>?_)
     .simp only [Xh];refine My (dF (Qc J J) J) (wtd J J J J) J J<|Kn (Aj J J J) J<|Zbb<|go 9 ⟨O,?_⟩;exact Yi (i+1,m) ⟨O1,by rw [Ydg O d];exact e,f⟩ O1 K1 K1
     .simp only [Xh];refine My (dT (Qc J J) J) (wtd J J J J) J J<|Kn (Aj J J J) J<|Zbb<|go 7 ?_;exact Zfp (.inl J) J J o h (.inr e)
   .refine Nl (Qo 11) λa2 b0=>?_;refine Zk 0 [(2,1),(3,1),(4,1),(5,0),(6,0),(7,0),(8,0),(10,1),(11,0),(12,3)]<|Ys (Zp 11 [] (Za8 0 1 ⟨O3,O3⟩ ⟨O3,O3⟩ O3)) λ_ _=>Ys (Zp 11 [] (Za8 1 1 ⟨O3,O3⟩ ⟨O3,O3⟩ O3)) λ_ _=>Ys (Zp 11 [55] (Hg (0,1) (1,1) j Zfm Zfl Zd0 d)) λP u=>go 8 ?_;refine Zu<|go 2<|Ym6 ?_;refine Kn (Zbw J J) J<|Kn (Zbw J J) J<|My (Zbw J J) (wtd J J J J) J J<|My (DI.h aA) (wtd J J J J) J J<|My (DI.h aA) (wtd J J J J) J J<|Zet [_,_] [_,_] (zs.getD i Gp0) P w (Zla O d) n p k J (wtd J J J J) J J J K2 J J (Zhx u J) K2 K2 (λm e f=>?_) (λm e f=>?_)
    .simp only [Xh];refine My (dF (Qc J J) J) (wtd J J J J) J J<|Kn (Aj J J J) J<|Zbb<|go 9 ⟨O,?_⟩;exact Yi (i+1,m) ⟨O1,by rw [Ydg O d];exact e,f⟩ O1 K1 K1
    .simp only [Xh];refine My (dT (Qc J J) J) (wtd J J J J) J J<|Kn (Aj J J J) J<|Zbb<|go 7 ?_;exact Zfp (.inl J) J J o h (.inr e)
 .obtain rfl:i=zs.length:=O;rw [bS]at n;exact go 4<|Zfp (.inr J) J J o h (.inl n)
theorem Ys4(e:∀g∈a,Gin g)(f:∀g∈b,Gin g)(c:Xl a=true)(d:Xl b=true)(l:dsB D=true)(h:zs.map unP=Kj D 1 1 a b):∀z∈zs,Cvd z.2.2:=λz j=>by obtain⟨k,i,rfl⟩:=fR j;have:=Ynn e f c d l h i;rwa [aK,aN i]at this
theorem Yt8{n d:Int}(h:zs.map unP=Kj D n d a b)(c:¬Ey a b≠0)(e:(zs.filter λz=>Hu z.2.2).length=0):apZ D n d a b=true:=by
 refine ap_no ?_ (dM.1 c);rw [Ymp h λi hi=>?_];cases hn:Hu (zs.getD i Gp0).2.2 with
 | false=>rfl
 | true=>
  have:zs.getD i Gp0∈zs.filter λz=>Hu z.2.2:=gQ.2 ⟨Zd hi,hn⟩;rw [aC e]at this;cases this
theorem Yop{n d:Int}{k:Nat}{x:GpT}(h:zs.map unP=Kj D n d a b)(f:(zs.filter λz=>Hu z.2.2)[k]? = some x):apZ D n d a b=false:=by
 have c:=(gQ.1 (jE f));refine ap_is ?_;cases hf:(Zcq (Kj D n d a b)).2.2 with
 | true=>rfl
 | false=>
  exfalso;have e:Zoy (Kj D n d a b)=none:=by
   cases he:Zoy (Kj D n d a b)with
   | none=>rfl
   | some g=>unfold Zcq at hf;rw [he]at hf;cases hf
  have:=mG.1 e (unP x) (by rw [<-h];exact dZ.2 ⟨x,c.1,rfl⟩);exact this c.2
theorem se_bad{v:Value}:Cal prog 108 #[v] [Qb 3 Ie qGp v zs] true (G:=Nat) (λg=>True) (λg=> .func (.func 174) #[] #[.pointer (some ⟨g,0,none⟩)]) (λg=>[Hr g 155 #[v]]):=by refine Zg func108 ntmps108 λj h f c=>?_;refine Zdt (Xe 1 J Ze) (λi d=>?_);subst d;refine go 2<|Yk (Yf 2) λe _=>go 5 ?_;refine dt (Yd2 [] [_] J aA K1)<|go 4 ?_;exact Zn (Ziu 2 J J)<|Yq c _ results108 J aA (Qy 2 Za)
theorem Yjb{Q R:Value}(o r:List Zt)(F:Int)(y:∀g∈o,Gin g)(z:∀g∈r,Gin g)(u:Xl o=true)(v:Xl r=true)(H:o.length<=5)(I:r.length<=5)(B:dsB F=true):Xq prog 44 #[Q,R,.int .i64 F] [Qb 6 Qt qG Q o,Qb 6 Qt qG R r] (.tuple #[.bool (apZ F 1 1 o r),.int .i64 (Ey o r)]):=by
 refine Yet func44 J ntmps44 J K2 ?_;intro s sc M n;have M:=Hw.mk M;simp only [Po,Xh];refine go 2<|Yk (Yh 3) λe _=>Yk (Yh 4) λc _=>go 7 ?_;refine cl 5 [1,2] (Yqm y z u v H I B) λi m=>go 14<|Zc J (λj=>?_) (λj=>?_)
 .have t:=j;refine go 9 ?_;exact fk_of<|Nb n () results44 (by rw [ap_e t]) aA Za
 .have t:=j;refine go 6 ?_;refine cl 6 [5] se_bad λb _=>go 3 ?_;refine e_rfi ([Hr b 155 #[i.1],Qb 3 Ie qGp i.1 i.2]) s (λ(_:Nat) (_:Unit)=>[(0,Xt s (λ_=>False)),(3,box e 4 #[.bool false]),(4,box c 28 #[.int .i64 0])]) (λk _=>k=0) (λ(_:Unit)=>[(0,Xt s (λ_=>False)),(3,box e 4 #[.bool false]),(4,box c 28 #[.int .i64 0])]) (λ_=>apZ F 1 1 o r=false) () J (by intro d w;first|exact enters_of func174 O6 rfl d w|exact call174 d w) (Yql i.1 i.2 b (Ys4 y z u v B m)) ?_ (λ_ _=>J) J M.h J J K3 (λ_ _=>⟨J,J⟩) (λ_=>⟨J,J⟩) (λk x Z i W f l S V=>?_) J (λi f D od=>?_) (λ_ N=>?_)
  .intro p P;simp only [bD,cM,fA]at P;rcases P with rfl|rfl
   .exact⟨J,6,J⟩
   .exact⟨J,5,J⟩
  .refine Ym2 (env':=[(6,.pointer (some ⟨e,0,none⟩)),(7,.pointer (some ⟨c,0,none⟩))]) (H':=[(92,Xt V S),(0,Xt s (λ_=>False)),(3,box e 4 #[.bool false]),(4,box c 28 #[.int .i64 0])]) (λa w hs=>hs.weaken ⟨J,J,aA⟩ ⟨J,J,J,J,aA⟩)<|Ydq λa w hs=>⟨J,[(6,.pointer (some ⟨e,0,none⟩)),(7,.pointer (some ⟨c,0,none⟩))],[(0,Xt s (λ_=>False)),(3,box e 4 #[.bool false]),(4,box c 28 #[.int .i64 0])],J,(λq h=>by cases h;rfl),⟨.inr (λb G=>⟨0,_,J,G⟩),.inl J,.inl J,aA⟩,hs.weaken ⟨J,J,aA⟩ ⟨J,J,J,J,aA⟩,λY _=>?_⟩;refine Zw2<|Zs2 J<|go 2 ?_;refine go 1 ?_;exact Ypf<|Ym1 λa w hs=>Or.inr ⟨J,(),Yop m W,⟨.inr (λb G=>⟨0,_,J,G⟩),.inl J,.inl J,aA⟩,[],hs.weaken aA ⟨J,J,J,J,aA⟩⟩
  .refine go 2 ?_;refine go 1 ?_;refine Ypg λa w hs=>⟨J,[(6,.pointer (some ⟨e,0,none⟩)),(7,.pointer (some ⟨c,0,none⟩))],[(0,Xt s (λ_=>False)),(3,box e 4 #[.bool true]),(4,box c 28 #[.int .i64 0])],J,⟨⟨_,J,J,λ_ h=>h⟩,⟨_,J,J,λ_ h=>h⟩,⟨_,J,J,λ_ h=>h⟩,aA⟩,hs.weaken ⟨J,J,aA⟩ ⟨J,J,J,J,aA⟩,?_⟩;exact Nb n () results44 (by rw [Yt8 m t f,dM.1 t]) aA Za
  .exact Nb n () results44 (by rw [N,dM.1 t]) aA Za
def spX(g:Zt)(i:Nat)(s:Rat):Rat:=Zi (Zw i g.2.1.2 g.2.2.1.2 g.2.2.2.2) s
open Go.RowKit Below
section
variable {P:Program} {N:Nat} {sc:Nat->Prop} {env:Pt} {H:Hp}
end
def lx(p q:Nat×Nat):Prop:=p.1<q.1\/(p.1=q.1/\p.2<q.2)
end Go.Sky
namespace Go.Sky
def SmP(g:Zt)(s:Rat)(h:Zt)(u:Rat):Prop:=∀i,i<3->spX g i s*(h.1.2.2:Rat)=spX h i u*(g.1.2.2:Rat)
def SmP.symm{g h:Zt}{s u:Rat}(e:SmP g s h u):SmP h u g s:=λi hi=>(e i hi).symm
def SmP.trans{g h k:Zt}{s u v:Rat}(a:(h.1.2.2:Rat)≠0)(e:SmP g s h u)(f:SmP h u k v):SmP g s k v:=λi hi=>by
 have b:=e i hi;have c:=f i hi;have:(spX g i s*(k.1.2.2:Rat)-spX k i v*(g.1.2.2:Rat))*(h.1.2.2:Rat)=0:=O4;rcases Rat.mul_eq_zero.1 this with q|q
 .grind
 .exact absurd q a
section
variable {a b:List Zt} (hpa:∀g∈a,Gin g) (hpb:∀g∈b,Gin g) (hba:Xl a=true) (hbb:Xl b=true)
include hpa hpb hba hbb
end
section
variable {a b:List Zt} (hpa:∀g∈a,Gin g) (hpb:∀g∈b,Gin g) (hba:Xl a=true) (hbb:Xl b=true)
include hpa hpb hba hbb
end
section
variable (s t:SL×SL×SL)
end
end Go.Sky

