/- Rules, arithmetic and contracts: part 19. No conditions but those that each theorem names. -/
import Derived.Test.YteikicbnfbgpnaaGreatEn17
import Derived.MapKept
import Derived.RangeFuncNested
set_option linter.all false
set_option maxHeartbeats 4000000
namespace Go.Sky
open Go.Proofs.Tryz
open Go.Proofs
variable{v u:Value}{zs ys:List GpT}{k m i:Nat}{D d:Int}{a b:List Zl}
def Zuz(x y:Int)(h:bl x.natAbs<=1000000)(j:bl y.natAbs<=1000000):∀(n:Nat) (v w u:Value) (zs:List (Int×SL)) (k:Nat) (g:Vp (Zb zs)) (f:Sz k (Zb zs)) (c:k+5*zs.length<=260) (e:zs.length<n),Cal prog 255 #[v,.agg #[.bool (decide (x<0)),w,.bool (decide (y<0)),u]] [pp v zs,Ox w x.natAbs,Ox u y.natAbs] false (G:=Unit) (λ_=>True) (λ_=> .int .i64 (aft (Pn (Zb zs)) (x,y))) (λ_=>[])
 | 0,v,w,u,zs,k,g,f,c,e=>absurd e (cI _)
 | n+1,v,w,u,zs,k,g,f,c,e=>Zoa x y h j n (Zuz x y h j n) v w u zs k g f c e
set_option synthInstance.maxHeartbeats 0
set_option synthInstance.maxSize 100000
set_option maxRecDepth 20000
set_option linter.unusedSimpArgs false
theorem Zx5{w H G:Value}{zs:List (Int×SL)}(x y j h:Int)(S:bl x.natAbs<=1000000)(V:bl y.natAbs<=1000000)(r:bl j.natAbs<=1000000)(s:bl h.natAbs<=1000000)(l:0<h)(p:Cvd (Zb zs)):Qd prog 256 #[v,.agg #[.bool (decide (x<0)),w,.bool (decide (y<0)),u],.agg #[.bool (decide (j<0)),H,.bool (decide (h<0)),G]] [pp v zs,Ox w x.natAbs,Ox u y.natAbs,Ox H j.natAbs,Ox G h.natAbs] (.bool (crb (Ae (Zb zs)) (x,y) (j,h))):=by
 refine Zh func256 ntmps256 λw0 sc hw q=>?_;have N:=Zi zs;have I:=p.l;have P:=Ydf (Ae (Zb zs)) (x,y);have Q:=Ydf (Ae (Zb zs)) (j,h);have R:=Zky (Zb zs);refine go 2 ?_;refine Ym (Yr 6) λZ _=>Ym (Yr 7) λB _=>go 11 ?_;refine Ze J (λt=>?_) (λt=>?_)
 .refine go 7 ?_;exact Xo q () results256 (by rw [Yru O]) aA Za
 .have c:(Zb zs).length≠0:=O;obtain⟨W,F,Y,o4,-⟩:=Zcb p (λe=>c (by rw [e];rfl));refine go 5 ?_;refine cl 8 [1] (r4_odd p O) λg M=>?_;have n:Zb g.2=Kd (Zb zs):=M;have z:=aH List.length n;rw [Zi]at z;refine go 8 ?_;refine cl 8 [8,2,3,4,5] (Yix x y j h (by rw [n];exact F) (λe=>W.one (aC (by rw [<-n,Zi];exact e))) (by rw [n];exact Y.mono O) O S V r s) λ_ _=>go 5 ?_;refine Zg (Kk 8 (v':= .int .i64 ((chv (Ae (Zb zs)) (x,y))-(chv (Ae (Zb zs)) (j,h)))) J (by rw [n,Yc9 c,Yc9 c]))<|go 3 ?_;refine cl 8 [8,4,5] (Ao j h r s (by rw [n];exact F.sz.mono O)) λ_ _=>go 3 ?_;refine Ze J (λo=>?_) (λo=>?_)
  .have f:Cj j h (Kd (Zb zs))=0:=by rw [<-n];exact o
   refine go 14 ⟨O,?_⟩;exact Xo q () results256 (by first|rw [crx_t p c l f]|rw [crx_f p c l f]) aA Za
  .have f:¬Cj j h (Kd (Zb zs))=0:=by rw [<-n];exact o
   refine go 10 ?_;exact Xo q () results256 (by first|rw [crx_t p c l f]|rw [crx_f p c l f]) aA Za
theorem Zuy{w H G:Value}{zs:List (Int×SL)}(x y f e:Int)(s:bl x.natAbs<=1000000)(t:bl y.natAbs<=1000000)(q:bl f.natAbs<=1000000)(r:bl e.natAbs<=1000000)(l:0<y)(c:0<e)(g:Cvd (Zb zs))(j:¬0<cmp (x,y) (f,e)):Qd prog 206 #[v,.agg #[.bool (decide (x<0)),w,.bool (decide (y<0)),u],.agg #[.bool (decide (f<0)),H,.bool (decide (e<0)),G]] [pp v zs,Ox w x.natAbs,Ox u y.natAbs,Ox H f.natAbs,Ox G e.natAbs] (.bool (ngb (Pn (Zb zs)) (Ae (Zb zs)) (x,y) (f,e))):=by
 refine Zh func206 ntmps206 λR Q P h=>?_;have M:=Zi zs;have I:=g.l;have n:Sz 1000000 (Zb zs):=g.v.sz.mono O;refine go 2 ?_;refine Ym (Yr 6) λN _=>Ym (Yr 7) λF _=>go 8 ?_;refine cl 7 [2,3,4,5] (Zx4 x y f e O O O O) λ_ _=>go 3 ?_;refine Ze J (λz=>?_) (λz=>?_)
 .refine go 4 ?_;refine cl 7 [1,2,3] (Ao x y s t n) λ_ _=>go 6 ?_;exact Xo h () results206 (by rw [ngb_e (show cmp (x,y) (f,e)=0 by assumption)]) aA Za
 .refine go 6 ?_;refine cl 7 [1,2,3] (Ao x y s t n) λ_ _=>go 2 ?_;refine Xg 19 J (λB=>?_) (λB=>?_)
  .refine go 21 ?_;exact Xo h () results206 (by first|rw [Ybp g l c j ‹_›]|rw [Ybo g l c j ‹_›]|rw [Ybn (show ¬cmp (x,y) (f,e)=0 by assumption) ‹_›]|rw [Ybm (show ¬cmp (x,y) (f,e)=0 by assumption) ‹_›]) aA Za
  .refine go 2 ?_;refine De 7 [1,4,5] (Ao f e q r n) λ_ _=>go 3 ?_;refine Xg 25 J (λo=>?_) (λo=>?_)
   .refine go 15 ?_;exact Xo h () results206 (by first|rw [Ybp g l c j ‹_›]|rw [Ybo g l c j ‹_›]|rw [Ybn (show ¬cmp (x,y) (f,e)=0 by assumption) ‹_›]|rw [Ybm (show ¬cmp (x,y) (f,e)=0 by assumption) ‹_›]) aA Za
   .refine go 2 ?_;refine De 7 [1,2,3] (Zuz x y s t _ _ _ _ _ 205 g.v g.s O (iR _)) λ_ _=>go 3 ?_;refine Xg 31 J (λp=>?_) (λp=>?_)
    .refine go 9 ?_;exact Xo h () results206 (by first|rw [Ybp g l c j ‹_›]|rw [Ybo g l c j ‹_›]|rw [Ybn (show ¬cmp (x,y) (f,e)=0 by assumption) ‹_›]|rw [Ybm (show ¬cmp (x,y) (f,e)=0 by assumption) ‹_›]) aA Za
    .refine go 3 ?_;refine De 7 [1,2,3,4,5] (Zx5 x y f e s t q r c g) λ_ _=>go 5 ?_;exact Xo h () results206 (by first|rw [Ybp g l c j ‹_›]|rw [Ybo g l c j ‹_›]|rw [Ybn (show ¬cmp (x,y) (f,e)=0 by assumption) ‹_›]|rw [Ybm (show ¬cmp (x,y) (f,e)=0 by assumption) ‹_›]) aA Za
def bdI:List GpU->Int
 | []=>-1
 | g::l=>if Ir g.2.2 then 0 else if bdI l<0 then -1 else bdI l+1
theorem bdI_s:∀{l:List GpU} {k:Nat},k<l.length->(∀i,i<k->Ir (l.getD i (0,0,[])).2.2=false)->Ir (l.getD k (0,0,[])).2.2=true->bdI l=(k:Int)
 | [],_,e,_,_=>absurd e (cI _)
 | g::l,0,_,_,c=>by have c:Ir g.2.2=true:=c;unfold bdI;rw [aG c];rfl
 | g::l,k+1,e,h1,c=>by have f:Ir g.2.2=false:=h1 0 (lH _);have:=bdI_s (l:=l) (k:=k) (by simpa using e) (λi hi=>h1 (i+1) O) c;unfold bdI;rw [aD (by rw [f];exact cW),this,aD O];rfl
theorem bdI_n:∀{l:List GpU},(∀i,i<l.length->Ir (l.getD i (0,0,[])).2.2=false)->bdI l=-1
 | [],_=>rfl
 | g::l,h=>by have c:Ir g.2.2=false:=h 0 (lH _);have:=bdI_n (l:=l) λi hi=>h (i+1) (by simpa using hi);unfold bdI;rw [aD (by rw [c];exact cW),this];rfl
theorem bd_at(c:k<zs.length)(f:∀i,i<k->Ir (zs.getD i Gp0).2.2=false)(e:Ir (zs.getD k Gp0).2.2=true):bdI (zs.map unP)=(k:Int):=
 bdI_s (by rw [aP];exact c) (λi hi=>by rw [Za4];exact f i hi) (by rw [Za4];exact e)
theorem bd_no(c:∀i,i<zs.length->Ir (zs.getD i Gp0).2.2=false):bdI (zs.map unP)=-1:=
 bdI_n λi hi=>by rw [Za4];exact c i (by rw [aP]at hi;exact hi)
theorem Yds:∀l:List GpU,decide (bdI l<0)=!(Cb l).2.2
 | []=>rfl
 | g::l=>by
  have h:=Yds l;cases hn:Ir g.2.2 with
  | true=>
   have e:Zjy (g::l)=some g:=mV (by exact hn);have c:bdI (g::l)=0:=by show(if Ir g.2.2 then(0:Int)else _)=0;rw [hn];rfl
   unfold Cb;rw [e,c];rfl
  | false=>
   have e:Zjy (g::l)=Zjy l:=mW (by rw [show Ir g.2.2=false from hn];exact cW);have c:bdI (g::l)=if bdI l<0 then -1 else bdI l+1:=by show(if Ir g.2.2 then(0:Int)else _)=_;rw [hn];rfl
   have f:Cb (g::l)=Cb l:=by unfold Cb;rw [e]
   rw [f,<-h,c,bL];split<;>omega
theorem ap_b{n:Int}(h:zs.map unP=Mg D n d a b)(c:Iv a b=0):decide (bdI (zs.map unP)<0)=Ek D n d a b:=by rw [Yds,h,ap_t c]
theorem com_e0{xs:List Zl}(f:¬Gv a b=9)(g:xs.map Gs=Lr a b a)(h:0<xs.length):Gv a b=0:=by
 rcases Znh a b with c|c|c
 .exact absurd c f
 .exact c
 .have e:=aH List.length g;rw [Zsp O,aP]at e;have:xs.length=0:=e;omega
theorem gp_eq{xs:List GpT}(h:xs.map unP=ys.map unP):xs.length=ys.length/\∀k,(xs.getD k Gp0).1.1=(ys.getD k Gp0).1.1/\(xs.getD k Gp0).1.2=(ys.getD k Gp0).1.2/\(xs.getD k Gp0).2.2=(ys.getD k Gp0).2.2:=by have e:=aH List.length h;rw [aP,aP]at e;refine⟨e,λk=>?_⟩;have:=aH (λl=>l.getD k (0,0,[])) h;rw [Za4,Za4]at this;unfold unP at this;injection this with h1 h2;injection h2 with h2 h3;exact⟨h1,h2,h3⟩
theorem Ylm{ps:List Zl}(h:Zde ps m=true):ps.length<=m:=by unfold Zde at h;rw [aR]at h;exact cE h.2
theorem Yi0(j:zs.map unP=ys.map unP):Qd prog 31 #[v,u] [Xs 3 Gi qGp v zs,Xs 3 Gi qGp u ys] (.bool true):=by
 refine Zh func31 ntmps31 λp o l f=>?_;refine Pg (Mh (i:=1) J Zc) (λg=>?_);obtain⟨n,c⟩:=gp_eq j;refine go 12 ?_;refine kf (aN O)<|go 12 ?_;refine lp (G:=Nat) [0,1] [0,1,2] (λi=>[(5,.int .i64 (i:Int))]) (λi=>[]) (λi=>i<=zs.length) (λi=>zs.length-i) 0 O1 K1 aA ?_;rintro i hi;refine go 9 ?_;refine Ze J (λe=>?_) (λe=>?_)
 .refine go 5 ?_;refine Zg (Ni 1 55 (zs.getD i Gp0) J J Zd J)<|Zg (Ni 2 56 (ys.getD i Gp0) J J Zd J)<|Qf (λ_=>False) [(0,0),(1,0),(2,0),(3,0),(4,0),(5,0),(6,0),(7,0),(8,0),(9,0),(10,0),(11,0),(12,0),(13,0),(14,0),(15,0),(16,0),(17,0),(18,0),(19,0),(20,0),(21,0),(22,0),(23,0),(24,0),(25,0),(26,0),(27,0),(28,0),(29,0),(30,0),(31,0),(32,0),(33,0),(34,0),(35,1),(36,0),(37,0)]<|go 2 ?_;refine Xj J J (Xq (Zv 1 i J J J J Zc Zh0 sizeOf130 J))<|Xj J J (Xq (Li 1 J J J Zc Zlf J Kv J))<|Xj J J (Xq (Lx 1 Gp0 J J J Zc iA3 J))<|go 2 ?_;refine Xj J J (Xq (Zv 2 i J J J J Zc Zh0 sizeOf130 J))<|Xj J J (Xq (Li 2 J J J Zc Zlf J Kv J))<|Xj J J (Xq (Lx 2 Gp0 J J J Zc iA3 J))<|Xj J J (Xq (dF (Zne J J J) (vB (aN (λh=>h (c i).1)))))<|go 3 ?_;refine Ei (Xq (Zv 1 i J J J J Zc Zh0 sizeOf130 J)) J J J J J<|Ei (Xq (Li 1 J J J Zc Zlf J Kv J)) J J J J J<|Ei (Xq (Lx 1 Gp0 J J J Zc iA3 J)) J J J J J<|go 2 ?_;refine Ei (Xq (Zv 2 i J J J J Zc Zh0 sizeOf130 J)) J J J J J<|Ei (Xq (Li 2 J J J Zc Zlf J Kv J)) J J J J J<|Ei (Xq (Lx 2 Gp0 J J J Zc iA3 J)) J J J J J<|Ei (Xq (dF (Zne J J J) (vB (aN (λh=>h (c i).2.1))))) J J J J J<|go 4 ?_;refine Ei (Xq (Zv 1 i J J J J Zc Zh0 sizeOf130 J)) J J J J J<|Ei (Xq (Li 1 J J J Zc Zlf J sizeOf40 J)) J J J J J<|Ei (Xq (Lx 1 Gp0 J J J Zc isAgg40 J)) J J J J J<|go 2 ?_;refine Ei (Xq (Zv 2 i J J J J Zc Zh0 sizeOf130 J)) J J J J J<|Ei (Xq (Li 2 J J J Zc Zlf J sizeOf40 J)) J J J J J<|Ei (Xq (Lx 2 Gp0 J J J Zc isAgg40 J)) J J J J J<|Zfi J J J J J (Xc 2 Zo5 J J J K2 call23 (Zk 55 J J J (Zk 56 J J J Zn)) J l.h) (λ_ _=>?_);refine Ei (Xq (dF (Ymc J J) (vB (aN (λh=>h (c i).2.2))))) J J J J J<|go 12 ⟨O,?_⟩;exact Yh (i+1) O1 O1 K1 aA
 .refine go 11 ?_;exact Xo f () results31 J aA Za
theorem Yiz:Cal prog 207 #[] [] true (G:=Value×Value) (λr=>True) (λr=> .agg #[.bool (decide ((0:Int)<0)),r.1,.bool (decide ((1:Int)<0)),r.2]) (λr=>[Ox r.1 ((0:Int)).natAbs,Ox r.2 ((1:Int)).natAbs]):=by refine Zh func207 ntmps207 λj h g c=>go 2 ?_;refine Ym (Ya 1) λf _=>go 4 ?_;refine cl 2 [] (Pu 0 ⟨O3,O3⟩) λv _=>cl 3 [] (Pu 1 ⟨O3,O3⟩) λe _=>?_;refine dt (Qv [(0,_),(1,_)] J K4 (λa w hs=>Ynh))<|go 4 ?_;exact Xo c (_,_) results207 J aA (Ps 2 (Ps 3 Za))
theorem Ypu:Cal prog 208 #[] [] true (G:=Value×Value) (λr=>True) (λr=> .agg #[.bool (decide ((1:Int)<0)),r.1,.bool (decide ((1:Int)<0)),r.2]) (λr=>[Ox r.1 ((1:Int)).natAbs,Ox r.2 ((1:Int)).natAbs]):=by refine Zh func208 ntmps208 λj h g c=>go 2 ?_;refine Ym (Ya 1) λf _=>go 4 ?_;refine cl 2 [] (Pu 1 ⟨O3,O3⟩) λv _=>cl 3 [] (Pu 1 ⟨O3,O3⟩) λe _=>?_;refine dt (Qv [(0,_),(1,_)] J K4 (λa w hs=>Ynh))<|go 4 ?_;exact Xo c (_,_) results208 J aA (Ps 2 (Ps 3 Za))
theorem Yez{zs:List (Int×SL)}(f:Cvd (Zb zs)):Qd prog 157 #[v] [pp v zs] (.bool (Ir (Zb zs))):=by refine Zh func157 ntmps157 λl j h c=>go 8 ?_;refine cl 2 [] Yiz λg _=>cl 4 [] Ypu λe _=>cl 5 [1,2,3,4,5] (Zuy 0 1 1 1 O3 O3 O3 O3 O3 O3 f Zhl) λ_ _=>go 4 ?_;exact Xo c () results157 J aA Za
theorem Ypv(e:∀k,k<zs.length->Cvd (zs.getD k Gp0).2.2):Qd prog 88 #[v] [Xs 3 Gi qGp v zs] (.int .i64 (bdI (zs.map unP))):=by
 refine Zh func88 ntmps88 λt s r h=>?_;refine Pg (Mh (i:=1) J Zc) λq=>go 12 ?_;refine lp (G:=Nat) [0] [0,1] (λi=>[(3,.int .i64 (i:Int))]) (λi=>[]) (λi=>(i<=zs.length)/\(∀k,k<i->Ir (zs.getD k Gp0).2.2=false)) (λi=>zs.length-i) 0 ⟨O1,λk o=>absurd o (cI k)⟩ K1 aA ?_;rintro i ⟨hi,p⟩;refine go 9 ?_;refine Ze J (λj=>?_) (λj=>?_)
 .refine go 5 ?_;refine Zg (Ni 1 55 (zs.getD i Gp0) J J Zd J)<|go 3 ?_;refine dt (Zv 1 i J J J J Zc Zh0 sizeOf130 J)<|dt (Li 1 J J J Zc Zlf J sizeOf40 J)<|dt (Lx 1 Gp0 J J J Zc isAgg40 J)<|cl 2 [55] (Ypi ((e i O).v.sz.mono O3) (aB (e i O).v.len O3)) λg n=>cl 2 [2] (Yez (by rw [n];exact e i O)) λ_ _=>go 2 ?_;refine Md J (λc=>?_) (λc=>?_)
  .have f:Ir (zs.getD i Gp0).2.2=true:=by rw [<-n];exact c
   refine go 12 ?_;exact Xo h () results88 (by rw [bd_at O p f]) aA Za
  .have f:Ir (zs.getD i Gp0).2.2=false:=by rw [<-n];exact c
   refine go 8 ⟨O,?_⟩;exact Yh (i+1) ⟨O1,λk o=>by rcases bP.1 o with l|l;exact p k l;subst l;exact f⟩ O1 K1 aA
 .obtain rfl:i=zs.length:=O;refine go 11 ?_;exact Xo h () results88 (by rw [bd_no p]) aA Za
open Go Go.MapKept
variable {P:Program} {N:Nat} {sc:Nat->Prop} {env env':Pw} {H H':Hp} {Q Q':Exit->Act->World->Prop} {M:Nat->Prop}
abbrev PT:=SL×List Zl
abbrev PT0:PT:=((none,0,0),[])
abbrev Zm9 (x:PT):Value:=Xm x.1
abbrev qP (x:PT):Pc:=Xs 6 Qj qG (Xm x.1) x.2
def mpc(b:Nat)(c:Array MapEntry)(n:Nat):Pc:=
 {own:=true,fp:=λk=>k=b,holds:=λw=>w.heap[b]? = some (.map c n)
  lt:=λw k h f=>by subst f;exact(aY.1 h).1
  stable:=λw j h e=>by rw [<-h];exact e.block b (aY.1 h).1 (λg=>g rfl) }
def fewsB(m k:Nat)(c:List PT):Bool:=decide (c.length<=m) && c.all λx=>Zde x.2 k
def Zf1(c:List PT):Bool:=c.all λx=>Xl x.2
abbrev ClT:=(Int×Int×Int×Int)×Bool×Int
abbrev clE (r:ClT):Value:= .tuple #[.agg #[.int .i64 r.1.1,.int .i64 r.1.2.1,.int .i64 r.1.2.2.1,.int .i64 r.1.2.2.2],.bool r.2.1,.int .i64 r.2.2]
def pth(ps:List PT)(i:Nat):List Zl:=(ps.getD i PT0).2
def clV(D n d:Int)(ps:List PT)(i k:Nat):ClT:=
 (if(Cb (Mg D n d (pth ps i) (pth ps k))).2.2=true then((i:Int),(k:Int),(Cb (Mg D n d (pth ps i) (pth ps k))).1,(Cb (Mg D n d (pth ps i) (pth ps k))).2.1)else(0,0,0,0),(Cb (Mg D n d (pth ps i) (pth ps k))).2.2,Iv (pth ps i) (pth ps k))
def ClA(D n d:Int)(ps:List PT)(i:Nat):Prop:=∀j k,j<k->k<ps.length->j<i->Ek D n d (pth ps j) (pth ps k)=true
def ClB(D n d:Int)(ps:List PT)(i m:Nat):Prop:=∀k,i<k->k<m->Ek D n d (pth ps i) (pth ps k)=true
def ClR(D n d:Int)(ps:List PT)(r:ClT):Prop:=
 (r=((0,0,0,0),false,0)/\ClA D n d ps ps.length)\/∃i k,i<k/\k<ps.length/\ClA D n d ps i/\ClB D n d ps i k/\Ek D n d (pth ps i) (pth ps k)=false/\r=clV D n d ps i k
def clA_0{n:Int}{ps:List PT} : ClA D n d ps 0:=λj k _ _ h=>absurd h (cI _)
def clB_0{n:Int}{ps:List PT} : ClB D n d ps i (i+1):=λk c e=>absurd c O
def Ymz{n:Int}{ps:List PT}(h:ClA D n d ps i)(c:ClB D n d ps i k)(hi:i<k)(f:k<ps.length)(e:Ek D n d (pth ps i) (pth ps k)=false):ClR D n d ps (clV D n d ps i k):= .inr ⟨i,k,hi,f,h,c,e,rfl⟩
theorem Zw3{n:Int}{ps:List PT}{r s:ClT}(h:ClR D n d ps r)(g:ClR D n d ps s):r=s:=by
 rcases h with⟨rfl,h⟩|⟨i,k,p,t,y,z,e,rfl⟩<;>rcases g with⟨rfl,g⟩|⟨j,m,o,q,w,x,c,rfl⟩
 .rfl
 .have:=h j m o q O;rw [this]at c;cases c
 .have:=g i k p t O;rw [this]at e;cases e
 .rcases iJ i j with f|f|f
  .have:=w i k p t f;rw [this]at e;cases e
  .subst f;rcases iJ k m with l|l|l
   .have:=x k p l;rw [this]at e;cases e
   .subst l;rfl
   .have:=z m o l;rw [this]at c;cases c
  .have:=y j m o q f;rw [this]at c;cases c
theorem ap_no{n:Int}(h:(Cb (Mg D n d a b)).2.2=false)(c:Iv a b=0):Ek D n d a b=true:=by unfold Ek;rw [h,aK c];rfl
theorem ap_is{n:Int}(h:(Cb (Mg D n d a b)).2.2=true):Ek D n d a b=false:=by unfold Ek;rw [h];exact lQ _
theorem ap_e{n:Int}(c:Iv a b≠0):Ek D n d a b=false:=by unfold Ek;rw [aN c];rfl
def Zf0{c:List PT}(h:Zf1 c=true){x:PT}(e:x∈c):Xl x.2=true:=cP.1 h x e
theorem Yod{c:List PT}{x:PT}(e:x∈c)(h:Xl x.2=false):Zf1 c=false:=by
 cases hv:Zf1 c with
 | false=>rfl
 | true=>rw [Zf0 hv e]at h;cases h
theorem Ygs{c:List PT}(g:c.length<=m)(h:∀k,k<m->k<c.length->Xl (pth c k)=true):Zf1 c=true:=
 cP.2 λx f=>by obtain⟨k,e,rfl⟩:=eK.1 f;have:=h k O e;unfold pth at this;rwa [aE,aM e]at this
end Go.Sky
namespace Go.Sky
open Go.Proofs
variable{a b:List Zl}{p q x y z x2 y2 z2:List Int}{D ov ov2:Int}{zs:List GpT}{t:TypeId}{kd:IntKind}
def pPq:Enc Tryz.prog 38 1 Zm9:=Enc.flat Tryz.sizeOf38 Tryz.isAgg38 (λ_=>rfl)
@[reducible,instance] def encPqI:EncT Tryz.prog 38 1 Zm9:=⟨pPq⟩
def shCl:Tryz.prog.stoodInHeld 64=false:=O6
def egCl:Tryz.prog.eqGuardType Tryz.prog.depth 64=false:=O6
theorem inCl(m:Nat)(w:World)(a b c d:Int):(Op.equalIn (m+2) 64 (.agg #[.int .i64 a,.int .i64 b,.int .i64 c,.int .i64 d]) (.agg #[.int .i64 a,.int .i64 b,.int .i64 c,.int .i64 d])).run Tryz.prog w= .ok true w:=by
 have e:Tryz.prog.underlying 64=some (.struct (Tryz.prog.fieldsOf 64)):=by unfold Program.fieldsOf;rw [Tryz.underlying64]
 rw [run_equalIn_agg w (m+1) 64 _ _ e shCl];unfold Program.fieldsOf;rw [Tryz.underlying64];simp [Op.eqFields,part,Tryz.isAgg3,run_equalIn_int _ _ _ _ _ _ _ Tryz.underlying3]
theorem eqCl(w:World){a b c d:Int}:(binOp .eql 64 (.agg #[.int .i64 a,.int .i64 b,.int .i64 c,.int .i64 d]) (.agg #[.int .i64 a,.int .i64 b,.int .i64 c,.int .i64 d])).run Tryz.prog w= .ok (.bool true) w:=by rw [run_eql_struct,inCl];rfl
theorem Ap(h:Tr p):Zq p 1=p:=by
 unfold Zq;have:p.map (· * (1:Int))=p:=by rw [show(λx:Int=>x*1)=id from oQ λx=>fH x,oN]
 rw [this,Ah h]
def dk_one{a b:Int} : dfK p q a b 1=dfP p q a b:=Ap (Qi _)
theorem Yow{a b:Int} : sqK p q a b 1=sqP p q a b:=by unfold sqK sqP;rw [dk_one]
theorem ng_one(D ov ov2:Int):ngC [D,1,ov,ov2] 4=ngC [D,ov,ov2] 3:=by
 have c:ngC [D,1,ov,ov2] 1=ngC [D,ov,ov2] 1:=rfl;have t1:Tr (ngC [D,ov,ov2] 1):=(Zrg _ 1).2.2;have d:ngC [D,1,ov,ov2] 2=ngC [D,ov,ov2] 1:=by show Zq (Zq (ngC [D,1,ov,ov2] 1) 1) 1=_;rw [c,Ap t1,Ap t1]
 have e:ngC [D,1,ov,ov2] 3=ngC [D,ov,ov2] 2:=by show Zq (Zq (ngC [D,1,ov,ov2] 2) ov) ov=Zq (Zq (ngC [D,ov,ov2] 1) ov) ov;rw [d]
 show Zq (Zq (ngC [D,1,ov,ov2] 3) ov2) ov2=Zq (Zq (ngC [D,ov,ov2] 2) ov2) ov2;rw [e]
def fqS(ov ov2:Int)(x y z x2 y2 z2:List Int)(i:Nat):List Int:=sqP (Zu i x y z) (Zu i x2 y2 z2) ov ov2
def smS(D ov ov2:Int)(x y z x2 y2 z2:List Int)(i:Nat):List Int:=smP (ngC [D,ov,ov2] 3) (fqS ov ov2 x y z x2 y2 z2) i
def Yh5(i:Nat):Zu i (1:Int) 1 1=1:=Cr (p:=λk:Int=>k=1) rfl rfl rfl
theorem fsZ(D ov ov2:Int)(x y z x2 y2 z2:List Int):fmZ D 1 1 ov ov2 x y z x2 y2 z2=Zw (smS D ov ov2 x y z x2 y2 z2 3):=by
 have c:fqZ 1 1 ov ov2 x y z x2 y2 z2=fqS ov ov2 x y z x2 y2 z2:=oQ λi=>by unfold fqZ fqS;rw [Yh5,Yow]
 unfold fmZ smZ smS cnZ;rw [c,ng_one]
def dsB(D:Int):Bool:=decide (0<=D) && decide (D<=4194304)
theorem ds_b(h:dsB D=true):0<=D/\D<=4194304:=by unfold dsB at h;rw [aR,dO,dO]at h;exact h
structure FsX (D ov ov2:Int) (x y z x2 y2 z2:List Int):Prop where
 X:∀i,FmX (Zu i x y z) (Zu i x2 y2 z2) ov ov2 1
 N:∀i,i<=3->NgX [D,ov,ov2] i
 Q:SmX (ngC [D,ov,ov2] 3) (fqS ov ov2 x y z x2 y2 z2)
theorem fsX{fr w d h:Int}(f:Sgo fr w ov x y z)(c:Sgo d h ov2 x2 y2 z2)(m:∀i,Ab KA (tzl (Zu i x y z)))(e:∀i,Ab KA (tzl (Zu i x2 y2 z2)))(o:dsB D=true):FsX D ov ov2 x y z x2 y2 z2:=by
 obtain⟨F,B⟩:=ds_b o;have r:=f.o1;have s:=f.o2;have u:=c.o1;have v:=c.o2;have g:∀i,FmX (Zu i x y z) (Zu i x2 y2 z2) ov ov2 1:=λi=>fmX (m i) (e i) (f.lc i).2 (c.lc i).2 ⟨r,s⟩ ⟨u,v⟩ ⟨O3,O3⟩;have n:∀i,([D,ov,ov2].getD i 0).natAbs<=4294967296:=λi=>by
  match i with
  | 0=>show D.natAbs<=_;omega
  | 1=>show ov.natAbs<=_;omega
  | 2=>show ov2.natAbs<=_;omega
  | i+3=>show(0:Int).natAbs<=_;decide
 refine⟨g,λi hi=>ngX n (aB hi O3),?_⟩;obtain⟨j,k,l⟩:=Zrg [D,ov,ov2] 3;refine smX (j.mono ?_) k l (λi=>(g i).ab8) (λi=>(g i).l8);show 1*D.natAbs*D.natAbs*ov.natAbs*ov.natAbs*ov2.natAbs*ov2.natAbs<=2^190;refine aB (aU (aU (aU (aU (aU (aU (aI 1) (show D.natAbs<=4194304 by omega)) (show D.natAbs<=4194304 by omega)) (show ov.natAbs<=4294967296 by omega)) (show ov.natAbs<=4294967296 by omega)) (show ov2.natAbs<=4294967296 by omega)) (show ov2.natAbs<=4294967296 by omega)) O5
theorem Ycc(h:FsX D ov ov2 x y z x2 y2 z2):Cvd (fmZ D 1 1 ov ov2 x y z x2 y2 z2):=by rw [fsZ];exact h.Q.d
theorem Ymi(i:∀g∈a,Gin g)(j:∀g∈b,Gin g)(c:Xl a=true)(d:Xl b=true)(I:dsB D=true){xs ys:List Zl}(o:xs.map Gs=Lr a b a)(s:ys.map Gs=Lr a b b):∀g∈Mg D 1 1 a b,Cvd g.2.2:=λg n=>by
 unfold Mg at n;obtain⟨k,F,e⟩:=eK.1 n;rw [List.getElem_zipWith]at e;subst e;rw [lB]at F;have f:k<(Lr a b a).length:=O;have h:k<(Lr a b b).length:=O;have M:(Lr a b a)[k]∈xs.map Gs:=by rw [o];exact fY f
 have N:(Lr a b b)[k]∈ys.map Gs:=by rw [s];exact fY h
 obtain⟨q,G,w⟩:=eJ.1 M;obtain⟨r,H,B⟩:=eJ.1 N;obtain⟨u,l⟩:=Ziv i c o q G;obtain⟨v,m⟩:=Ziv j d s r H;rw [<-w,<-B];simp only [gpZ,Gs];exact Ycc (fsX (Lo u l) (Lo v m) (Zax l) (Zax m) I)
theorem Ymj(e:∀g∈a,Gin g)(f:∀g∈b,Gin g)(c:Xl a=true)(d:Xl b=true)(l:dsB D=true)(h:zs.map unP=Mg D 1 1 a b){k:Nat}(i:k<zs.length):Cvd (zs.getD k Gp0).2.2:=by
 have j:unP (zs.getD k Gp0)∈Mg D 1 1 a b:=by rw [<-h];exact eJ.2 ⟨_,Zd i,rfl⟩
 exact Ymi e f c d l (Zz1 (Lr a b a)) (Zz1 (Lr a b b)) _ j
section
variable {P:Program} {N:Nat} {sc:Nat->Prop} {env:Pw} {H:Hp}
theorem d_ix3i {o:Oper} {x y:Operand} {e:TypeId} {i:Nat}  {m d f g:Int} (n:o.op= .index t x y) (s:ev env x=some (.agg #[.int .i64 d,.int .i64 f,.int .i64 g])) (u:ev env y=some (.int kd m))
  (r:P.underlying t=some (.array 3 e)) (k:∀w,(sizeOf e).run P w= .ok 1 w) (j:∀w,(isAgg e).run P w= .ok false w) (c:m=(i:Int)) (l:i<3):Lj P N sc o env H (.int .i64 ([d,f,g].getD i 0)):=λa w hs=>by
 subst c;have h:i=0\/i=1\/i=2:=O;rcases h with rfl|rfl|rfl<;>simp [execOp,n,hs.ev s,hs.ev u,Instr.index,asIntOf,run_underlying r,k,j,asAgg,part]
end
theorem df_sel{X Y Z:List Int}(i:Nat)(c:X=dfP x x2 ov ov2)(d:Y=dfP y y2 ov ov2)(e:Z=dfP z z2 ov ov2):Zu i X Y Z=dfP (Zu i x y z) (Zu i x2 y2 z2) ov ov2:=by subst c d e;unfold Zu;split<;>rfl
end Go.Sky
namespace Go.Sky
open Go.Proofs.Tryz
open Go.Proofs
set_option synthInstance.maxHeartbeats 0
set_option synthInstance.maxSize 100000
set_option maxRecDepth 20000
set_option linter.unusedSimpArgs false
variable{zd:Int}{d i:Nat}{vx vy vz vx2 vy2 vz2 va vb:Value}{x:Operand}{ops:Array Oper}{o:Oper}{rest:List Oper}{ops':List Operand}{tys:Array TypeId}{w0:World}{M:Nat->Prop}{Jx:World->Prop}{pre:List Pc}
theorem Zgd:Qd prog 93 #[.int .i64 zd] [] (.bool (dsB zd)):=by
 refine Zh func93 ntmps93 λw0 e c a=>go 10 ?_;refine Xg 5 J (λb=>?_) (λb=>?_)
 .refine go 7 ?_;exact Xo a () results93 (by unfold dsB;first|(simp_all;done)|(simp_all;omega)) aA Za
 .refine go 7 ?_;exact Xo a () results93 (by unfold dsB;first|(simp_all;done)|(simp_all;omega)) aA Za
theorem Zls{s t:Value}{c d:List Int}{fr B f k p b:Int}(e:FmX c d f b 1)(v:∀a∈c,Nz a)(h:c.length<=6)(w:∀a∈d,Nz a)(j:d.length<=6)(y:Nz f)(l:Nz b):Cal prog 161 #[s,t,.agg #[.int .i64 fr,.int .i64 B,.int .i64 f,vx,vy,vz],.agg #[.int .i64 k,.int .i64 p,.int .i64 b,vx2,vy2,vz2]] [Yx 1 Yi s c,Yx 1 Yi t d] true (G:=SL×List Int) (λg=>g.2=dfP c d f b) (λg=>Xm g.1) (λg=>[Yx 2 wv (Xm g.1) g.2]):=by refine Zh func161 ntmps161 λw0 H F m=>go 2 ?_;refine Ym (Yr 3) λD _=>Ym (Yr 4) λr _=>go 6 ?_;refine cl 5 [1] (Zgn v (aB h O3)) λ_ _=>?_;refine Xf (Np 5 (q:=Yx 2 wv _ (tzl c)) (aH (Yx 2 wv _) (aD (Zp4 h))) J J)<|go 10 ?_;refine cl 6 [2] (Zgn w (aB j O3)) λ_ _=>?_;refine Xf (Np 6 (q:=Yx 2 wv _ (tzl d)) (aH (Yx 2 wv _) (aD (Zp4 j))) J J)<|go 12 ?_;refine cl 6 [] (Zz b l) λ_ _=>cl 7 [5] (Ia b e.v1 e.b1 e.s1) λ_ _=>go 11 ?_;refine cl 7 [] (Zz f y) λ_ _=>cl 8 [6] (Ia f e.v2 e.a1 e.s2) λ_ _=>go 10 ?_;refine cl 9 [7,8] (Yjk (Zq (tzl c) b) (Zq (tzl d) f) e.v3 e.v4 e.s3) λ_ _=>?_;refine Xf (Np 9 (q:=Yx 2 wv _ (dfP c d f b)) (aH (Yx 2 wv _) J) J J)<|go 13 ?_;refine Ztj (Xe 9 J Zr) (λz n=>?_);subst n;generalize dfP c d f b=u;exact Xo m (z,u) results161 J J (Ps 9 Za)
theorem Yan{fr S e s t b:Int}{x y z h j k:List Int}(l:Sgo fr S e x y z)(c:Sgo s t b h j k)(W:∀i,Ab KA (tzl (Zu i x y z)))(D:∀i,Ab KA (tzl (Zu i h j k)))(N:dsB zd=true):Cal prog 94 #[.agg #[.int .i64 fr,.int .i64 S,.int .i64 e,vx,vy,vz],.agg #[.int .i64 s,.int .i64 t,.int .i64 b,vx2,vy2,vz2],.int .i64 zd] [Yx 1 Yi vx x,Yx 1 Yi vy y,Yx 1 Yi vz z,Yx 1 Yi vx2 h,Yx 1 Yi vy2 j,Yx 1 Yi vz2 k] true (G:=SL×List Int) (λg=>g.2=fmZ zd 1 1 e b x y z h j k) (λg=>Xm g.1) (λg=>[Yx 2 wv (Xm g.1) g.2]):=by
 refine Zh func94 ntmps94 λw0 sc Z H=>?_;have n:=fsX l c W D N;refine go 2 ?_;refine Ym (Yr 7) λbx _=>Ym (Yr 8) λP _=>go 5 ?_;refine tt (Xv [(0,_)] 9 (enc:=Yi) ([-1]:List Int) J J K2 Pp ti3 J J J J J pZ.cells J J Z.h) (λv _=>?_);refine Xf (Xn 9 J J pZ)<|cl 10 [9] (Zgn (λa Y=>by rw [bO.1 Y];exact⟨O3,O3⟩)) λ_ _=>?_;refine Xf (Np 10 (q:=Yx 2 wv _ [-1]) (aH (Yx 2 wv _) tzlm1) J J)<|go 15 ?_;refine dt (Qv [(0,_),(1,_),(2,_)] J K6 (λa w hs=>Ynm ((Yj J) a w hs) ((Yj J) a w hs) ((Yj J) a w hs)))<|go 4 ?_;refine Zg (Xu 10 80 J J J)<|lp (G:=Nat×Value) [3,4,23] [0,1,2,3,4,5,6,7,8,9,10] (λq=>[(24,.int .i64 (q.1:Int)),(7,q.2)]) (λq=>[(80,Yx 2 wv q.2 (ngC [zd,e,b] q.1))]) (λq=>q.1<=3) (λq=>3-q.1) (0,_) O1 K2 K1 ?_;rintro⟨i,vs⟩ hi;dsimp only at hi;dsimp only;have f:=n.N i hi;refine go 6 ?_;refine Ze J (λu=>?_) (λu=>?_)
 .refine go 6 ?_;refine dt (d_ix3i (i:=i) J J J underlying165 Kv iA3 J O)<|go 7 ?_;refine cl 10 [] (Zz ([zd,e,b].getD i 0) f.inn) λ_ _=>cl 11 [80] (Ia (xs:=(ngC [zd,e,b] i)) ([zd,e,b].getD i 0) f.v f.b f.s) λ_ _=>go 9 ?_;refine cl 11 [] (Zz ([zd,e,b].getD i 0) f.inn) λ_ _=>cl 12 [11] (Ia (xs:=(Zq (ngC [zd,e,b] i) ([zd,e,b].getD i 0))) ([zd,e,b].getD i 0) f.v2 f.b f.s2) λ_ _=>?_;refine go 11 ⟨O,?_⟩;exact Zs (Xu 12 80 J J J)<|Yh (i+1,_) O1 O1 K2 K1
 .obtain rfl:i=3:=O;refine go 7 ?_;refine Qf (λ_=>False) [(0,0),(1,0),(2,0),(3,0),(4,0),(5,0),(7,0),(8,0),(9,0),(10,0),(11,0),(12,0),(14,0),(15,0),(16,0),(17,0),(18,0),(19,0),(22,0),(6,1),(13,1),(20,1),(21,0)]<|go 19 ?_;refine Yw (Zm 13 [1,4] (Zls (n.X 0) (l.hc 0) (l.lc 0).2 (c.hc 0) (c.lc 0).2 (Zpj l) (Zpj c))) λfq F=>Yw (Zm 14 [2,5] (Zls (n.X 1) (l.hc 1) (l.lc 1).2 (c.hc 1) (c.lc 1).2 (Zpj l) (Zpj c))) λQ p=>Yw (Zm 15 [3,6] (Zls (n.X 2) (l.hc 2) (l.lc 2).2 (c.hc 2) (c.lc 2).2 (Zpj l) (Zpj c))) λR r=>?_;refine Xj J J (Xq (Qv [(0,_),(1,_),(2,_)] J K6 (λa w hs=>Ynk ((On 13 J Zr) a w hs) ((On 14 J Zr) a w hs) ((On 15 J Zr) a w hs))))<|go 3 ?_;refine lp (G:=Nat×Value) [63] [0,1,2,3,4,5,6,7,8,9,10,13,14,15] (λq=>[(64,.int .i64 (q.1:Int)),(7,q.2)]) (λq=>[(80,Yx 2 wv q.2 (smS zd e b x y z h j k q.1))]) (λq=>q.1<=3) (λq=>3-q.1) (0,_) O1 K2 K1 ?_;rintro⟨i,vs⟩ hi;dsimp only at hi;dsimp only;have m:=n.X i;refine go 6 ?_;refine Ze J (λB=>?_) (λB=>?_)
  .refine go 5 ?_;refine Zg (Zh9 i 13 14 15 90 J J J J J J)<|Zg (Np 90 (q:=Yx 2 wv _ (dfP (Zu i x y z) (Zu i h j k) e b)) (aH (Yx 2 wv _) (df_sel i F p r)) J J)<|go 1 ?_;refine dt (Zps i J J J underlying210 sizeOf40 isAgg40 J)<|go 7 ?_;refine cl 16 [90,90] (Zu7 (dfP (Zu i x y z) (Zu i h j k) e b) (dfP (Zu i x y z) (Zu i h j k) e b) m.v5 m.v5 m.m5) λ_ _=>?_;refine Xf (Np 16 (q:=Yx 2 wv _ (fqS e b x y z h j k i)) (aH (Yx 2 wv _) J) J J)<|go 9 ?_;refine cl 17 [80,16] (Yjl (smS zd e b x y z h j k i) (fqS e b x y z h j k i) (n.Q.v i O) m.v8 (n.Q.s i O)) λ_ _=>?_;refine go 11 ⟨O,?_⟩;exact Zs (Xu 17 80 J J J)<|Yh (i+1,_) O1 O1 K2 K1
  .obtain rfl:i=3:=O;refine go 8 ?_;refine cl 18 [80] (Mz (n.Q.v 3 (aI _))) λ_ _=>?_;refine Xf (Np 18 (q:=Yx 2 wv _ (fmZ zd 1 1 e b x y z h j k)) (aH (Yx 2 wv _) (fsZ zd e b x y z h j k).symm) J J)<|go 13 ?_;refine Ztj (Xe 18 J Zr) (λsq I=>?_);subst I;generalize fmZ zd 1 1 e b x y z h j k=V;exact Xo H (sq,V) results94 J J (Ps 18 Za)
theorem Ypc(fr u t c f e:Int)(x y z v w B:List Int)(zd:Int)(F:Nz fr)(P:Nz u)(I:Nz t)(S:∀a∈x,Nz a)(V:∀a∈y,Nz a)(W:∀a∈z,Nz a)(l:Nz c)(n:Nz f)(m:Nz e)(p:∀a∈v,Nz a)(q:∀a∈w,Nz a)(r:∀a∈B,Nz a)(j:Ba fr u t x y z=true)(k:Ba c f e v w B=true)(H:fr=c)(Q:u=f)(s:dsB zd=true):Cal prog 37 #[.agg #[.int .i64 fr,.int .i64 u,.int .i64 t,vx,vy,vz],.agg #[.int .i64 c,.int .i64 f,.int .i64 e,vx2,vy2,vz2],.int .i64 zd] [Yx 1 Yi vx x,Yx 1 Yi vy y,Yx 1 Yi vz z,Yx 1 Yi vx2 v,Yx 1 Yi vy2 w,Yx 1 Yi vz2 B] true (G:=SL×List Int) (λg=>g.2=fmZ zd 1 1 t e x y z v w B) (λg=> .tuple #[Xm g.1,.int .i64 0]) (λg=>[Yx 2 wv (Xm g.1) g.2]):=by refine Zh func37 ntmps37 λw0 sc hw N=>go 2 ?_;refine Ym (Yr 7) λY _=>Ym (Yr 8) λR _=>go 8 ?_;refine cl 8 [1,2,3] (Zcw F P I S V W) λ_ _=>?_;refine dt (dF (Xi J J) (aH (λb=>Value.bool (!b)) j))<|go 2 ?_;refine De 8 [4,5,6] (Zcw l n m p q r) λ_ _=>?_;refine Ej (dF (Xi J J) (aH (λb=>Value.bool (!b)) k)) J J<|go 6 ?_;refine kfg (aN (λh=>h H))<|go 6 ?_;refine kfg (aN (λh=>h Q))<|go 3 ?_;refine De 8 [] Zgd λ_ _=>?_;refine Ej (dF (Xi J J) (aH (λb=>Value.bool (!b)) s)) J J<|go 11 ?_;refine cl 9 [1,2,3,4,5,6] (Yan (Sgo.of S V W j) (Sgo.of p q r k) (Zax j) (Zax k) s) λZ D=>go 5 ?_;exact Nx N _ results37 J D (Ps 9 Za)
theorem Yam{e f:List Zl}(n:∀g∈e,Gin g)(p:∀g∈f,Gin g)(j:Xl e=true)(l:Xl f=true)(Q:e.length<=5)(R:f.length<=5)(S:dsB zd=true):Cal prog 95 #[va,vb,.int .i64 zd] [Xs 6 Qj qG va e,Xs 6 Qj qG vb f] true (G:=Value×List GpT) (λg=>g.2.map unP=Mg zd 1 1 e f) (λg=> .tuple #[g.1,.int .i64 (Iv e f)]) (λg=>[Xs 3 Gi qGp g.1 g.2]):=by
 refine Zh func95 ntmps95 λw0 sc V u=>go 10 ?_;refine cl 3 [1,2] (Yek n p j l Q R) λb c=>go 16 ?_;refine Ze J (λh=>?_) (λh=>?_)
 .have I:=h;refine go 8 ?_;exact Zs (Ch 72 3 Gi qGp)<|Nx u (.slice none 0 0,[]) results95 (by rw [Zys I]) (Zrx O).symm (Ps 72 Za)
 .have I:=h;refine go 16 ?_;refine Zg (Qy 74 3 130 Gi)<|Zg (Yo qGp 76) ?_;have N:=Zso n p j l;have Z:b.1.2.length=(Lr e f e).length:=by rw [<-c.1,aP]
  have a0:b.2.2.length=(Lr e f f).length:=by rw [<-c.2,aP]
  refine lp (G:=Nat×Value×List GpT) [2,9,10,23,24] [0,1,2,3,4] (λq=>[(25,.int .i64 (q.1:Int)),(11,q.2.1)]) (λq=>[(74,Oa 3 130 Gi q.2.1 q.2.2),(76,Nj qGp q.2.2)]) (λq=>(q.1<=b.1.2.length)/\(q.2.2.map unP=(Mg zd 1 1 e f).take q.1)/\(q.2.2.length=q.1)) (λq=>b.1.2.length-q.1) (0,.slice none 0 0,[]) ⟨O1,(by rw [dS];rfl),rfl⟩ K2 K2 ?_;rintro⟨k,vq,W⟩ ⟨Y,r,y⟩;dsimp only at Y r y;dsimp only;refine go 6 ?_;refine Ze J (λH=>?_) (λH=>?_)
  .refine go 5 ?_;obtain⟨D,s⟩:=Ziv n j c.1 _ (Zd (d:=G0) (show k<b.1.2.length by omega));refine Zg (Pm (b.1.2.getD k G0) ((b.1.2.getD k G0).2.1) 3 51 J J Zd O7)<|Zg (Pm (b.1.2.getD k G0) ((b.1.2.getD k G0).2.2.1) 3 52 J J Zd O7)<|Zg (Pm (b.1.2.getD k G0) ((b.1.2.getD k G0).2.2.2) 3 53 J J Zd O7)<|go 2 ?_;refine dt (Zv 3 k J J J J Zc Ln Ix J)<|dt (Yz 3 G0 J J J Zc pG)<|Ym (Ya 5) λbx _=>go 4 ?_;obtain⟨F,t⟩:=Ziv p l c.2 _ (Zd (d:=G0) (show k<b.2.2.length by omega));refine Zg (Pm (b.2.2.getD k G0) ((b.2.2.getD k G0).2.1) 4 54 J J Zd O7)<|Zg (Pm (b.2.2.getD k G0) ((b.2.2.getD k G0).2.2.1) 4 55 J J Zd O7)<|Zg (Pm (b.2.2.getD k G0) ((b.2.2.getD k G0).2.2.2) 4 56 J J Zd O7)<|Po [4,5] [15]<|Zj 0 [(0,0),(1,0),(2,0),(3,0),(4,0),(5,0),(6,0),(7,0),(8,0),(9,0),(10,0),(11,1),(12,0),(13,1),(14,1),(15,3)]<|go 8 ?_;refine Xj J J (Eg (Zv 4 k J J J J Zc Ln Ix J) K2)<|Xj J J (Eg (Yz 4 G0 J J J Zc pG) K2)<|go 1 ?_;refine Yw (Zm 84 [51,52,53,54,55,56] (Yan (Lo D s) (Lo F t) (Zax s) (Zax t) S)) λB P=>?_;refine Xj J J (Eg (Qv [(0,_),(1,_),(2,_)] J K6 (λa w hs=>Znz ((Yj J) a w hs) ((Yj J) a w hs) ((Yj J) a w hs))) K2)<|Kr J (Xv [(0,_)] 6 (enc:=Gi) [(gpY (b.1.2.getD k G0) B)] J J K2 Zh0 ti130 J J Yll J J pGp.cells J J V.h) (λv _=>?_);refine Kr J (Zb0 74 J J J K2 (λm=>(Bj 74 6 40 J J J J J J O3 J (Yb pGp) Zh0 ti130 J pGp J J J O8 O3 J V.h m))) λa1 _=>go 2 ?_;refine Zt<|go 6 ⟨O,?_⟩;exact Zs (Zp (q:=qGp) (z:=(gpY (b.1.2.getD k G0) B)) 76 84 76 J J J J J)<|Yh (k+1,_,W ++ [(gpY (b.1.2.getD k G0) B)]) ⟨O1,Yb7 c.1 c.2 r O O P,by rw [aS,y];rfl⟩ O1 K2 K2
  .obtain rfl:k=b.1.2.length:=O;refine go 14 ?_;exact Zs (Xn 74 J J pGp)<|Zs (Xw 74 76 78 J J J J)<|Nx u (vq,W) results95 (by rw [Zry I]) (Yla c.1 N.1 r) (Ps 78 Za)
theorem Zuh(k l:List Zl)(zd:Int)(e:∀g∈k,Gin g)(h:∀g∈l,Gin g)(m:¬(Xl k=true/\Xl l=true/\dsB zd=true)):Qd prog 40 #[va,vb,.int .i64 zd] [Xs 6 Qj qG va k,Xs 6 Qj qG vb l] (.tuple #[.slice none 0 0,.int .i64 2]):=by
 refine Zh func40 ntmps40 λw0 p n f=>go 8 ?_;rcases Yja m with a|⟨a,c⟩|⟨a,c,j⟩
 .refine go 2 ?_;refine cl 2 [1] (Nn e) λ_ _=>?_;refine dt (dT (Xi J J) (aH (λb=>Value.bool (!b)) a))<|go 21 ?_;exact Nx f () results40 J aA Za
 .refine go 2 ?_;refine cl 2 [1] (Nn e) λ_ _=>?_;refine dt (dF (Xi J J) (aH (λb=>Value.bool (!b)) a))<|go 2 ?_;refine De 2 [2] (Nn h) λ_ _=>?_;refine Ej (dT (Xi J J) (aH (λb=>Value.bool (!b)) c)) J J<|go 17 ?_;exact Nx f () results40 J aA Za
 .refine go 2 ?_;refine cl 2 [1] (Nn e) λ_ _=>?_;refine dt (dF (Xi J J) (aH (λb=>Value.bool (!b)) a))<|go 2 ?_;refine De 2 [2] (Nn h) λ_ _=>?_;refine Ej (dF (Xi J J) (aH (λb=>Value.bool (!b)) c)) J J<|go 3 ?_;refine De 2 [] Zgd λ_ _=>?_;refine Ej (dT (Xi J J) (aH (λb=>Value.bool (!b)) j)) J J<|go 12 ?_;exact Nx f () results40 J aA Za
theorem Zkc(a c:List Zl)(zd:Int)(h:∀g∈a,Gin g)(j:∀g∈c,Gin g)(e:Xl a=true)(f:Xl c=true)(m:a.length<=5)(n:c.length<=5)(k:dsB zd=true):Cal prog 40 #[va,vb,.int .i64 zd] [Xs 6 Qj qG va a,Xs 6 Qj qG vb c] true (G:=Value×List GpT) (λg=>g.2.map unP=Mg zd 1 1 a c) (λg=> .tuple #[g.1,.int .i64 (Iv a c)]) (λg=>[Xs 3 Gi qGp g.1 g.2]):=by refine Zh func40 ntmps40 λw0 s r p=>go 10 ?_;refine cl 2 [1] (Nn h) λ_ _=>?_;refine dt (dF (Xi J J) (aH (λb=>Value.bool (!b)) e))<|go 2 ?_;refine De 2 [2] (Nn j) λ_ _=>?_;refine Ej (dF (Xi J J) (aH (λb=>Value.bool (!b)) f)) J J<|go 3 ?_;refine De 2 [] Zgd λ_ _=>?_;refine Ej (dF (Xi J J) (aH (λb=>Value.bool (!b)) k)) J J<|go 11 ?_;refine cl 3 [1,2] (Yam h j e f m n k) λq l=>go 7 ?_;exact Nx p _ results40 J l (Ps 3 Za)
open Go.RowKit Below
variable {P:Program} {N:Nat} {sc:Nat->Prop} {env env':Pw} {H H':Hp} {Q Q':Exit->Act->World->Prop}
def fctP(p:Prop):Pc:={ own:=false,fp:=λ_=>False,holds:=λ_=>p,lt:=λ_ _ _ h=>h.elim,stable:=λ_ _ h _=>h }
theorem wtd{j e:Nat}{b:Bool}(h:o.guard=some (j,b))(k:(ops[j]?).bind (·.dst)=some e)(g:lk env e=some (.bool b))(c:Nat.blt e N=true):∀a w,Sat N sc env H a w->Region.wanted o (yielded ops a.tmps)=true:=λa w hs=>by have f:=hs.yielded k g c;simp [Region.wanted,h,f]
theorem Lf{v:Value}(f:Lj P N sc o env H v)(e:∀a w,Sat N sc env H a w->Region.wanted o (yielded ops a.tmps)=true)(c:o.dst=some d)(b:Nat.blt d N=true)(h:LI P N sc ops rest Q ((d,v)::env) H):LI P N sc ops (o::rest) Q env H:=λa w hs=>by unfold wpListIn;rw [aG (e a w hs)];refine⟨λ_ _=>trivial,?_⟩;show o.uponIn Fence.wide 0 P a _ Q ((execOp a.eval o).run P w);rw [f a w hs];show wpListIn Fence.wide 0 P ops Q rest (a.put o.dst v) w;rw [c];exact h _ w (hs.put d v b)
theorem Zej (vs:List Value)(pre:List Pc)    {l:Nat}     {W:World}  {J:Nat->World->Prop}  {α G:Type} {xs:List α} {ys:α->G->List Value} {D:α->G->List Pc} 
  {k:Nat} (y:α) (g:G) (hY:YJI P w0 l M J Jx xs ys D) (hy:xs[k]? = some y) (hJ:J k W) (hW:w0.heap.size<=W.heap.size) (m:∀p∈pre,∀b,p.fp b->b<w0.heap.size/\¬M b)
  (ho:o.op= .call { callee:= .value x,args:=ops'.toArray,argTypes:=tys }) (hg:∀a w,Sat N sc env H a w->Region.wanted o (yielded ops a.tmps)=true) (hd:o.dst=some d) (Z:Nat.blt d N=true) (hx:ev env x=some (.func (.yield l) #[] #[])) (r:EvL env ops' vs) (S:vs=ys y g)
  (h0:lk H 0=some (Yt W (λ_=>False))) (u:∀p∈D y g,p.own=false/\(∀b,p.fp b->W.heap.size<=b)/\∃i I,lk H i=some I/\∀w,I.holds w->p.holds w)
  (v:AllRo pre) (n:HSub (Xb 1 pre) H)
  (ht:∀c,J (k+1) c->w0.heap.size<=c.heap.size->LI P N sc ops rest Q ((d,.bool true)::env) ((0,Yt c (λ_=>False))::Xb 1 pre))
  (hf:∀c,Jx c->w0.heap.size<=c.heap.size->LI P N sc ops rest Q ((d,.bool false)::env) ((0,Yt c (λ_=>False))::Xb 1 pre)):LI P N sc ops (o::rest) Q env H:=λa w hs=>by
 subst S;have Y:=Ie (hs.hold 0 _ h0);obtain⟨fn,F,f,s,z,j⟩:=hY k y g hy W w hJ hW Y (λp hp=>by obtain⟨h1,h2,i,I,hi,hh⟩:=u p hp;exact⟨hh w (hs.hold i I hi),h1,h2⟩)
 have R:(o.semAt Fence.wide.round a.eval).run P w= .ok (.round l fn F f s) w:=by show(execOp a.eval o).run P w=_;have hm:=r.map hs;have V:=hs.ev hx;simp [execOp,ho,resolve,invoke,Deferred.ofValue,hm,V,z,Sem.run_bind]
 unfold wpListIn;rw [aG (hg a w hs)];refine⟨λ_ _=>trivial,?_⟩;rw [R];refine⟨λh=>(by cases h),j.mono ?_⟩;have B:w0.heap.size<=w.heap.size:=aB hW Y.size;rintro e c (⟨rfl,q,t⟩|⟨rfl,q,t⟩)
 .show wpListIn Fence.wide 0 P ops Q rest (a.put o.dst _) c;rw [hd];exact ht c q (aB B t.size) _ c ((hs.base m v n t).put d _ Z)
 .show wpListIn Fence.wide 0 P ops Q rest (a.put o.dst _) c;rw [hd];exact hf c q (aB B t.size) _ c ((hs.base m v n t).put d _ Z)
theorem Zkt{α:Type}{ps:List α}{p:α->Bool}{d:α}(hi:i<ps.length)(b:p (ps.getD i d)=true):(ps.filter p)[((ps.take i).filter p).length]? = some (ps.getD i d):=by
 have h:=fJ i ps;have a:ps.drop i=ps.getD i d::ps.drop (i+1):=by rw [aE,aM hi,fE];exact eA hi
 conv=>lhs;arg 1;rw [<-h,a]
 rw [fP,eF b];simp
theorem Ycd{α:Type}{ps:List α}{p:α->Bool}{d:α}(hi:i<ps.length)(a:p (ps.getD i d)=true):((ps.take (i+1)).filter p).length=((ps.take i).filter p).length+1:=by rw [Pq d _ _ hi,fP,eF a,aS];rfl
theorem Yce{α:Type}{ps:List α}{p:α->Bool}{d:α}(hi:i<ps.length)(a:p (ps.getD i d)=false):((ps.take (i+1)).filter p).length=((ps.take i).filter p).length:=by rw [Pq d _ _ hi,fP,fQ (by rw [a];exact cW),aS];rfl
theorem Zha{φ:Prop}{n:Nat}{H:Hp}{k:Pc}(h:φ)(c:lk H 0=some k):∀p∈[fctP φ],p.own=false/\(∀b,p.fp b->n<=b)/\∃i a,lk H i=some a/\∀w,a.holds w->p.holds w:=λp f=>by rw [bO.1 f];exact⟨rfl,λb e=>e.elim,0,k,c,λ_ _=>h⟩
theorem fk_of{fn:Func}{al:Bool}{G:Type}{φ:G->Prop}{Yn:G->Value}{b:G->List Pc}(h:X N sc .ret (Zcr P fn w0 pre al φ Yn b) env H):X N sc .ret (Zfu P fn w0 pre al φ Yn b) env H:=λa w hs=>by obtain⟨e,v,f,c⟩:=h a w hs;show LeavesInM Fence.wide 0 P fn a.tmps _ a.defers .returning w;rw [e];exact⟨v,f,c⟩
end Go.Sky
namespace Go.Sky
open Go.Proofs.Tryz
open Go.Proofs
set_option synthInstance.maxHeartbeats 0
set_option synthInstance.maxSize 100000
set_option maxRecDepth 20000
set_option linter.unusedSimpArgs false
variable{D:Int}{a b:List Zl}{zs:List GpT}{Mf0 Mf:Nat->Prop}{body y:Code}{lbv:List Value}{pre:List Pc}{r id:Nat}{ops:List Oper}{c:Operand}{Hall:Hp}{Wb:World}
theorem Zaw(x y:Int)(g:Nz x)(h:Nz y)(e:y≠0):Qd prog 98 #[.int .i64 x,.int .i64 y] [] (.agg #[.bool (decide (Es x y<0)),.string (Qp (Es x y).natAbs),.bool (decide (Fo x y<0)),.string (Qp (Fo x y).natAbs)]):=by refine Zh func98 ntmps98 λl k j d=>go 2 ?_;refine Ym (Ya 1) λi _=>go 6 ?_;refine cl 1 [] (Zp2 x y g h e) λ_ _=>go 3 ?_;refine Ym (Ya 2) λf _=>go 11 ?_;exact Xo d () results98 J aA Za
theorem Zqe(v:Value)(zs:List GpT)(S:Nat)(H:∀z∈zs,Cvd z.2.2):Ygg prog 162 [.pointer (some ⟨S,0,none⟩)] [Ky S 50 #[v],Xs 3 Gi qGp v zs] (α:=GpT) (G:=R2) (zs.filter (λz:GpT=>Ir z.2.2)) (λc g=>[.agg #[.int .i64 c.1.1,.int .i64 c.1.2,Xm c.2.1],.agg #[.bool (decide (g.1<0)),.string (Qp (g.1).natAbs),.bool (decide (g.2<0)),.string (Qp (g.2).natAbs)]]) (λc g=>[fctP (Fnd c.2.2 (qv (0,1)) (qv (1,1)) g)]):=by
 refine Zs2 func162 J ntmps162 J K2 ?_;intro l M JI Jx w0 sc hw k o h F x;simp only [Pa,Xb];have I:=Hw.mk hw;refine Pg (Mh (i:=2) J Zc) λa5=>go 8 ?_;refine lp (G:=Nat×World) [0,8,9] [1,2] (λq=>[(10,.int .i64 (q.1:Int))]) (λq=>[(0,Yt q.2 (λ_=>False))]) (λq=>(q.1<=zs.length)/\(JI ((zs.take q.1).filter (λz:GpT=>Ir z.2.2)).length q.2)/\(w0.heap.size<=q.2.heap.size)) (λq=>zs.length-q.1) (0,w0) ⟨O1,F,aI _⟩ K1 K1 ?_;rintro⟨i,W⟩ ⟨hi,n,p⟩;dsimp only at hi n p;dsimp only;have b4:=Yb6 I p;refine go 6 ?_;refine Ze J (λB=>?_) (λB=>?_)
 .refine go 5 ?_;refine Zg (Ni 2 55 (zs.getD i Gp0) J J Zd J) ?_;have j:=H (zs.getD i Gp0) Zd;refine go 1 ?_;refine dt (Zv 2 i J J J J Zc Zh0 sizeOf130 J)<|dt (Yz 2 Gp0 J J J Zc pGp)<|Ym (Ya 3) λbx _=>go 4 ?_;rcases tf (Ir (zs.getD i Gp0).2.2)with d|d
  .refine Po [3] [12]<|Zj 11 [(0,0),(1,0)]<|go 3 ?_;refine Qw 10 2 9 ?_ ?_
   .refine Ot (Zm 3 [] (Zaw 0 1 ⟨O3,O3⟩ ⟨O3,O3⟩ O3)) λ_ _=>?_;refine Qw 9 3 9 ?_ ?_
    .refine Ot (Zm 3 [] (Zaw 1 1 ⟨O3,O3⟩ ⟨O3,O3⟩ O3)) λ_ _=>?_;refine Qw 8 4 9 ?_ ?_
     .refine Ot (Zm 3 [55] (Em (0,1) (1,1) j Zjm Zjl Zhl d)) λ_ _=>?_;refine Zj 0 [(5,0),(6,0),(7,0),(8,0),(9,1),(10,1),(11,0),(12,3)]<|go 4 ?_;refine Yw (Qe 4) λV ho=>go 4 ?_;refine Zt<|go 21 ⟨O,?_⟩;exact Yh (i+1,W) ⟨O1,by rw [Yce O d];exact n,p⟩ O1 K1 K1
     .refine Ot (Qe 5) λY a6=>?_;refine Zj 0 [(4,1),(5,0),(6,0),(7,0),(8,0),(10,1),(11,0),(12,3)]<|Yw (Zm 5 [55] (Em (0,1) (1,1) j Zjm Zjl Zhl d)) λ_ _=>go 8 ?_;refine Zt<|go 21 ⟨O,?_⟩;exact Yh (i+1,W) ⟨O1,by rw [Yce O d];exact n,p⟩ O1 K1 K1
    .refine Ot (Qe 6) λZ a7=>?_;refine Zj 0 [(3,1),(4,1),(5,0),(6,0),(7,0),(8,0),(10,1),(11,0),(12,3)]<|Yw (Zm 6 [] (Zaw 1 1 ⟨O3,O3⟩ ⟨O3,O3⟩ O3)) λ_ _=>Yw (Zm 6 [55] (Em (0,1) (1,1) j Zjm Zjl Zhl d)) λ_ _=>go 8 ?_;refine Zt<|go 21 ⟨O,?_⟩;exact Yh (i+1,W) ⟨O1,by rw [Yce O d];exact n,p⟩ O1 K1 K1
   .refine Ot (Qe 7) λa0 a8=>?_;refine Zj 0 [(2,1),(3,1),(4,1),(5,0),(6,0),(7,0),(8,0),(10,1),(11,0),(12,3)]<|Yw (Zm 7 [] (Zaw 0 1 ⟨O3,O3⟩ ⟨O3,O3⟩ O3)) λ_ _=>Yw (Zm 7 [] (Zaw 1 1 ⟨O3,O3⟩ ⟨O3,O3⟩ O3)) λ_ _=>Yw (Zm 7 [55] (Em (0,1) (1,1) j Zjm Zjl Zhl d)) λ_ _=>go 8 ?_;refine Zt<|go 21 ⟨O,?_⟩;exact Yh (i+1,W) ⟨O1,by rw [Yce O d];exact n,p⟩ O1 K1 K1
  .refine Po [3] [12]<|Zj 11 [(0,0),(1,0)]<|go 3 ?_;refine Qw 10 2 9 ?_ ?_
   .refine Ot (Zm 7 [] (Zaw 0 1 ⟨O3,O3⟩ ⟨O3,O3⟩ O3)) λ_ _=>?_;refine Qw 9 3 9 ?_ ?_
    .refine Ot (Zm 7 [] (Zaw 1 1 ⟨O3,O3⟩ ⟨O3,O3⟩ O3)) λ_ _=>?_;refine Qw 8 4 9 ?_ ?_
     .refine Ot (Zm 7 [55] (Fg (0,1) (1,1) j Zjm Zjl Zhl d)) λN s=>?_;refine Zj 0 [(5,0),(6,0),(7,0),(8,0),(9,1),(10,1),(11,0),(12,3)]<|go 4 ?_;refine Yw (Qe 8) λa1 a9=>go 4 ?_;refine Zt<|go 2 ?_;refine Yf1<|La (Za1 J J) J<|La (Za1 J J) J<|Lf (Za1 J J) (wtd J J J J) J J<|Lf (DI.h aA) (wtd J J J J) J J<|Lf (DI.h aA) (wtd J J J J) J J<|Zej [_,_] [_,_] (zs.getD i Gp0) N x (Zkt O d) n p k J (wtd J J J J) J J J K2 J J (Zha s J) K2 K2 (λm e f=>?_) (λm e f=>?_)
      .simp only [Xb];refine Lf (dF (Xi J J) J) (wtd J J J J) J J<|La (Bt J J J) J<|Bc<|go 9 ⟨O,?_⟩;exact Yh (i+1,m) ⟨O1,by rw [Ycd O d];exact e,f⟩ O1 K1 K1
      .simp only [Xb];refine Lf (dT (Xi J J) J) (wtd J J J J) J J<|La (Bt J J J) J<|Bc<|go 7 ?_;exact Zbt (.inl J) J J o h (.inr e)
     .refine Ot (Qe 9) λa2 b0=>?_;refine Zj 0 [(4,1),(5,0),(6,0),(7,0),(8,0),(10,1),(11,0),(12,3)]<|Yw (Zm 9 [55] (Fg (0,1) (1,1) j Zjm Zjl Zhl d)) λP t=>go 8 ?_;refine Zt<|go 2 ?_;refine Yf1<|La (Za1 J J) J<|La (Za1 J J) J<|Lf (Za1 J J) (wtd J J J J) J J<|Lf (DI.h aA) (wtd J J J J) J J<|Lf (DI.h aA) (wtd J J J J) J J<|Zej [_,_] [_,_] (zs.getD i Gp0) P x (Zkt O d) n p k J (wtd J J J J) J J J K2 J J (Zha t J) K2 K2 (λm e f=>?_) (λm e f=>?_)
      .simp only [Xb];refine Lf (dF (Xi J J) J) (wtd J J J J) J J<|La (Bt J J J) J<|Bc<|go 9 ⟨O,?_⟩;exact Yh (i+1,m) ⟨O1,by rw [Ycd O d];exact e,f⟩ O1 K1 K1
      .simp only [Xb];refine Lf (dT (Xi J J) J) (wtd J J J J) J J<|La (Bt J J J) J<|Bc<|go 7 ?_;exact Zbt (.inl J) J J o h (.inr e)
    .refine Ot (Qe 10) λa3 b2=>?_;refine Zj 0 [(3,1),(4,1),(5,0),(6,0),(7,0),(8,0),(10,1),(11,0),(12,3)]<|Yw (Zm 10 [] (Zaw 1 1 ⟨O3,O3⟩ ⟨O3,O3⟩ O3)) λ_ _=>Yw (Zm 10 [55] (Fg (0,1) (1,1) j Zjm Zjl Zhl d)) λQ u=>go 8 ?_;refine Zt<|go 2 ?_;refine Yf1<|La (Za1 J J) J<|La (Za1 J J) J<|Lf (Za1 J J) (wtd J J J J) J J<|Lf (DI.h aA) (wtd J J J J) J J<|Lf (DI.h aA) (wtd J J J J) J J<|Zej [_,_] [_,_] (zs.getD i Gp0) Q x (Zkt O d) n p k J (wtd J J J J) J J J K2 J J (Zha u J) K2 K2 (λm e f=>?_) (λm e f=>?_)
     .simp only [Xb];refine Lf (dF (Xi J J) J) (wtd J J J J) J J<|La (Bt J J J) J<|Bc<|go 9 ⟨O,?_⟩;exact Yh (i+1,m) ⟨O1,by rw [Ycd O d];exact e,f⟩ O1 K1 K1
     .simp only [Xb];refine Lf (dT (Xi J J) J) (wtd J J J J) J J<|La (Bt J J J) J<|Bc<|go 7 ?_;exact Zbt (.inl J) J J o h (.inr e)
   .refine Ot (Qe 11) λa4 b3=>?_;refine Zj 0 [(2,1),(3,1),(4,1),(5,0),(6,0),(7,0),(8,0),(10,1),(11,0),(12,3)]<|Yw (Zm 11 [] (Zaw 0 1 ⟨O3,O3⟩ ⟨O3,O3⟩ O3)) λ_ _=>Yw (Zm 11 [] (Zaw 1 1 ⟨O3,O3⟩ ⟨O3,O3⟩ O3)) λ_ _=>Yw (Zm 11 [55] (Fg (0,1) (1,1) j Zjm Zjl Zhl d)) λR w=>go 8 ?_;refine Zt<|go 2 ?_;refine Yf1<|La (Za1 J J) J<|La (Za1 J J) J<|Lf (Za1 J J) (wtd J J J J) J J<|Lf (DI.h aA) (wtd J J J J) J J<|Lf (DI.h aA) (wtd J J J J) J J<|Zej [_,_] [_,_] (zs.getD i Gp0) R x (Zkt O d) n p k J (wtd J J J J) J J J K2 J J (Zha w J) K2 K2 (λm e f=>?_) (λm e f=>?_)
    .simp only [Xb];refine Lf (dF (Xi J J) J) (wtd J J J J) J J<|La (Bt J J J) J<|Bc<|go 9 ⟨O,?_⟩;exact Yh (i+1,m) ⟨O1,by rw [Ycd O d];exact e,f⟩ O1 K1 K1
    .simp only [Xb];refine Lf (dT (Xi J J) J) (wtd J J J J) J J<|La (Bt J J J) J<|Bc<|go 7 ?_;exact Zbt (.inl J) J J o h (.inr e)
 .obtain rfl:i=zs.length:=O;rw [bK]at n;refine go 4 ?_;exact Zbt (.inr J) J J o h (.inl n)
theorem Zsk(f:∀g∈a,Gin g)(i:∀g∈b,Gin g)(d:Xl a=true)(e:Xl b=true)(m:dsB D=true)(h:zs.map unP=Mg D 1 1 a b):∀z∈zs,Cvd z.2.2:=λz l=>by obtain⟨k,j,rfl⟩:=kX l;have:=Ymj f i d e m h j;rwa [aE,aM j]at this
def nbF(z:GpT):Bool:=Ir z.2.2
theorem Ydt{n d:Int}(h:zs.map unP=Mg D n d a b)(e:¬Iv a b≠0)(f:(zs.filter λz=>Ir z.2.2).length=0):Ek D n d a b=true:=by
 refine ap_no ?_ (fU.1 e);rw [fst_no h λi hi=>?_];cases hn:Ir (zs.getD i Gp0).2.2 with
 | false=>rfl
 | true=>
  have:zs.getD i Gp0∈zs.filter λz=>Ir z.2.2:=fW.2 ⟨Zd hi,hn⟩;rw [aC f]at this;cases this
theorem Znv{n d:Int}{k:Nat}{x:GpT}(h:zs.map unP=Mg D n d a b)(i:(zs.filter λz=>Ir z.2.2)[k]? = some x):Ek D n d a b=false:=by
 have f:=(fW.1 (gL i));refine ap_is ?_;cases hf:(Cb (Mg D n d a b)).2.2 with
 | true=>rfl
 | false=>
  exfalso;have e:Zjy (Mg D n d a b)=none:=by
   cases he:Zjy (Mg D n d a b)with
   | none=>rfl
   | some g=>unfold Cb at hf;rw [he]at hf;cases hf
  have:=kE.1 e (unP x) (by rw [<-h];exact eJ.2 ⟨x,f.1,rfl⟩);exact this f.2
theorem Zxt{v:Value}:Cal prog 96 #[v] [Xs 3 Gi qGp v zs] true (G:=Nat) (λg=>True) (λg=> .func (.func 162) #[] #[.pointer (some ⟨g,0,none⟩)]) (λg=>[Ky g 50 #[v]]):=by refine Zh func96 ntmps96 λk i h d=>?_;refine Dn (Xe 1 J Zc) (λj e=>?_);subst e;refine go 2 ?_;refine Ym (Yr 2) λf _=>go 5 ?_;refine dt (Zwp [] [_] J aA K1)<|go 4 ?_;exact Zs (Zff 2 J J)<|Xo d _ results96 J aA (Ps 2 Za)
theorem Zlt{V W:Value}(s t:List Zl)(I:Int)(F:∀g∈s,Gin g)(G:∀g∈t,Gin g)(z:Xl s=true)(B:Xl t=true)(N:s.length<=5)(P:t.length<=5)(H:dsB I=true):Qd prog 42 #[V,W,.int .i64 I] [Xs 6 Qj qG V s,Xs 6 Qj qG W t] (.tuple #[.bool (Ek I 1 1 s t),.int .i64 (Iv s t)]):=by
 refine Zk0 func42 J ntmps42 J K2 ?_;intro u sc Q o;have Q:=Hw.mk Q;simp only [Pa,Xb];refine go 2 ?_;refine Ym (Ya 3) λf _=>Ym (Ya 4) λd _=>go 7 ?_;refine cl 5 [1,2] (Zkc _ _ _ F G z B N P H) λj n=>go 14 ?_;refine Ze J (λm=>?_) (λm=>?_)
 .have v:=m;refine go 9 ?_;exact fk_of<|Nx o () results42 (by rw [ap_e v]) aA Za
 .have v:=m;refine go 6 ?_;refine cl 6 [5] Zxt λb _=>go 3 ?_;refine Ycp ([Ky b 50 #[j.1],Xs 3 Gi qGp j.1 j.2]) u (λ(_:Nat) (_:Unit)=>[(0,Yt u (λ_=>False)),(3,box f 4 #[.bool false]),(4,box d 26 #[.int .i64 0])]) (λk _=>k=0) (λ(_:Unit)=>[(0,Yt u (λ_=>False)),(3,box f 4 #[.bool false]),(4,box d 26 #[.int .i64 0])]) (λ_=>Ek I 1 1 s t=false) () J (by intro e w;first|exact enters_of func162 O6 rfl e w|exact call162 e w) (Zqe j.1 j.2 b (Zsk F G z B H n)) ?_ (λ_ _=>J) J Q.h J J K3 (λ_ _=>⟨J,J⟩) (λ_=>⟨J,J⟩) (λk x gi j Z i l Mf Y=>?_) J (λj i D od=>?_) (λ_ R=>?_)
  .intro p S;simp only [bE,dX,iF]at S;rcases S with rfl|rfl
   .exact⟨J,6,J⟩
   .exact⟨J,5,J⟩
  .refine Zit (env':=[(6,.pointer (some ⟨f,0,none⟩)),(7,.pointer (some ⟨d,0,none⟩))]) (H':=[(92,Yt Y Mf),(0,Yt u (λ_=>False)),(3,box f 4 #[.bool false]),(4,box d 26 #[.int .i64 0])]) (λa w hs=>hs.weaken ⟨J,J,aA⟩ ⟨J,J,J,J,aA⟩)<|Zsa λa w hs=>⟨J,[(6,.pointer (some ⟨f,0,none⟩)),(7,.pointer (some ⟨d,0,none⟩))],[(0,Yt u (λ_=>False)),(3,box f 4 #[.bool false]),(4,box d 26 #[.int .i64 0])],J,(λq h=>by cases h;rfl),⟨.inr (λb M=>⟨0,_,J,M⟩),.inl J,.inl J,aA⟩,hs.weaken ⟨J,J,aA⟩ ⟨J,J,J,J,aA⟩,λWb _=>?_⟩;refine Zdg<|Zsc J<|go 2 ?_;refine go 1 ?_;exact Yn6<|Zy1 λa w hs=>Or.inr ⟨J,(),Znv n Z,⟨.inr (λb M=>⟨0,_,J,M⟩),.inl J,.inl J,aA⟩,[],hs.weaken aA ⟨J,J,J,J,aA⟩⟩
  .refine go 2 ?_;refine go 1 ?_;refine Yd4 λa w hs=>⟨J,[(6,.pointer (some ⟨f,0,none⟩)),(7,.pointer (some ⟨d,0,none⟩))],[(0,Yt u (λ_=>False)),(3,box f 4 #[.bool true]),(4,box d 26 #[.int .i64 0])],J,⟨⟨_,J,J,λ_ h=>h⟩,⟨_,J,J,λ_ h=>h⟩,⟨_,J,J,λ_ h=>h⟩,aA⟩,hs.weaken ⟨J,J,aA⟩ ⟨J,J,J,J,aA⟩,?_⟩;exact Nx o () results42 (by rw [Ydt n v i,fU.1 v]) aA Za
  .exact Nx o () results42 (by rw [R,fU.1 v]) aA Za
open Go.RowKit Below
variable {P:Program} {N:Nat} {sc:Nat->Prop} {env env':Pw} {H H':Hp} {Q Q':Exit->Act->World->Prop}
theorem er_rfi {l0:Nat}  {c0:World} {g:Operand} {gf:Nat} {ps:List Nat} {assign:Code}   {α G:Type} {xs:List α} {ys:α->G->List Value} {B:α->G->List Pc} {w0:World}
  {GG GX:Type} (HH:Nat->GG->Hp) (b1:Nat->GG->Prop) (HX:GX->Hp) (b2:GX->Prop) (c1:GG) (f5:LpAt l0 Mf0 c0) (c2:lk H 92=some (Yt c0 Mf0))
  (hg:ev env g=some (.func (.func gf) #[] lbv.toArray)) (eg:∀args w,(callFunc gf args).run P w= .ok (.enter gf args) w) (hc:Ygg P gf lbv pre xs ys B)
  (hp:∀p∈pre,p.own=false/\∃i,lk H i=some p) (g4:∀x F,(ys x F).length=ps.length) (g3:(ps.all λp=>Nat.blt p N)=true)
  (hw:∀b,w0.heap.size<=b->sc b) (h0:lk H 0=some (Yt w0 (λ_=>False)))
  (c9:b1 0 c1) (a5:HSub (HH 0 c1) H) (hk:∀k s,lk (HH k s) 0=some (Yt w0 (λ_=>False))/\lk (HH k s) 93=none) (g0:∀gx,lk (HX gx) 0=some (Yt w0 (λ_=>False))/\lk (HX gx) 93=none)
  (b5:∀k x F s,xs[k]? = some x->b1 k s->∀l Mf M a W,Sat N sc (renv ps (ys x F) env) ((93,Yt M Mf)::adds 100 (B x F) (HH k s)) a W->
   assign.wpIn (Fence.wide.inRound l) 0 P (RAn 93 P N sc l Mf (adds 100 (B x F) (HH k s)) body (HH (k+1)) (b1 (k+1)) HX b2 M) a W)
  (hD:∀s,b1 xs.length s->X N sc .normal Q env (HH xs.length s))
  (hX:∀gx,b2 gx->X N sc .ret Q env (HX gx)) :
  ER P N sc l0 (.rangeFunc g ps.toArray assign body) Q env H:=λa w hs=>by
 have a4:∀i p,lk H i=some p->∀b,p.fp b->b<w.heap.size:=λi p hi b n=>p.lt w b (hs.hold i p hi) n;have g7:w0.heap.size<=w.heap.size:=(hs.hold 0 _ h0).size;have e5:Chg Mf0 c0 w:=hs.hold 92 _ c2;obtain⟨⟨r0,e9⟩,e7⟩:=f5;have e8:w.heap[l0]? = some (.loop r0):=(e5.block _ (aY.1 e9).1 e7).trans e9;refine wpIn_rangeFunc ?_;intro d6 f8;obtain⟨d,f⟩:∃d:LoopState->Option Code->Loop,d=λst pe=>{ state:=st,pending:=pe,fn:=d6,tmps:=a.tmps,params:=ps.toArray,assign,body,defers:=r0.defers }:=⟨_,rfl⟩;obtain⟨W1,b3⟩:∃W1,w.alloc (.loop (d .ready none))=W1:=⟨_,rfl⟩;have f6:W1.heap[w.heap.size]? = some (.loop (d .ready none)):=by rw [<-b3];exact World.alloc_heap_new w _
 have e2:Below w.heap.size w W1:=by rw [<-b3];exact(Below.refl _ w).alloc (aI _) _
 have h7:W1.heap.size=w.heap.size+1:=by rw [<-b3];simp
 have e0:(#[.func (.yield w.heap.size) #[] #[]] ++ lbv.toArray:Array Value)=(Value.func (.yield w.heap.size) #[] #[]::lbv).toArray:=O7;refine⟨w.heap.size,[],W1,{ target:= .fn (.func gf) lbv.toArray,args:=#[.func (.yield w.heap.size) #[] #[]] },W1,gf,
  (Value.func (.yield w.heap.size) #[] #[]::lbv).toArray,W1,?_,?_,λ_ _=>trivial,?_,λh=>(by cases h),?_⟩
 .rw [<-b3,f];exact run_enterLoop_inner e8 _ _ _ _ _
 .simp only [resolve,hs.ev hg];simp [go_sem]
 .simp [invoke,go_sem,eg]
 have b0:∀(I:Hp) (r:Loop),Zjp λW=>W.heap[w.heap.size]? = some (.loop r)/\W1.heap.size<=W.heap.size/\Kps sc w (w.heap.size+1) (Mof (w.heap.size+1) H) I W:=λI r W W' ⟨h1,h3,h4⟩ hB=>
  ⟨(hB.block _ (aY.1 h1).1).trans h1,aB h3 hB.size,h4.stays hB⟩
 have g2:¬Mof (w.heap.size+1) H w.heap.size:=λh=>by
  rcases h with⟨i,q,hq,_,hf⟩|h
  .have:=a4 i q hq _ hf;omega
  .omega
 have b4:∀(I:Hp) (W:World),Kps sc w (w.heap.size+1) (Mof (w.heap.size+1) H) I W->∀(o:Obj),Kps sc w (w.heap.size+1) (Mof (w.heap.size+1) H) I (W.putObj w.heap.size o):=λI W h o=>h.put a4 ⟨aI _,O⟩;refine callsIn_wide.2 ((hc w.heap.size (λb=>(∃i q,lk H i=some q/\q.own=true/\q.fp b)\/b=w.heap.size)
  (λk W=>∃s,b1 k s/\(W.heap[w.heap.size]? = some (.loop (d .ready none))/\W1.heap.size<=W.heap.size/\Kps sc w (w.heap.size+1) (Mof (w.heap.size+1) H) (HH k s) W))
  (λW=>∃gx,b2 gx/\(W.heap[w.heap.size]? = some (.loop (d .done (some .ret)))/\W1.heap.size<=W.heap.size/\Kps sc w (w.heap.size+1) (Mof (w.heap.size+1) H) (HX gx) W)) W1
  ?_ ?_ ?_ ?_ ?_ ?_).mono ?_)
 .intro p u;obtain⟨ho,i,hi⟩:=hp p u;exact p.stable _ _ (hs.hold i p hi) (Chg.of_below e2)
 .rintro p u b n (⟨i,q,hq,d4,g5⟩|rfl)
  .obtain⟨ho,j,V⟩:=hp p u;exact hs.sep i j q p (λe=>by subst e;rw [hq]at V;cases V;rw [ho]at d4;cases d4) hq V d4 b g5 n
  .obtain⟨ho,j,V⟩:=hp p u;have:=a4 j p V _ n;omega
 .rintro k W W' ⟨s,c7,h⟩ hB;exact⟨s,c7,b0 _ _ W W' h hB⟩
 .rintro W W' ⟨gx,c7,h⟩ hB;exact⟨gx,c7,b0 _ _ W W' h hB⟩
 .refine⟨c1,c9,f6,aI _,λi it hi=>it.stable _ _ (hs.hold i it (a5.lk i it hi)) (Chg.of_below e2),λi j it jt d2 hi V=>hs.sep i j it jt d2 (a5.lk i it hi) (a5.lk j jt V),
   λi it c9 hi=>hs.scope i it c9 (a5.lk i it hi),λi it hi _ b n=> .inl (a4 i it (a5.lk i it hi) b n),λi it hi ho b n=> .inl ⟨i,it,a5.lk i it hi,ho,n⟩⟩
 .rintro k x F hx W M ⟨s,R,hl,f2,Y⟩ h8 hB S;have e6:M.heap[w.heap.size]? = some (.loop (d .ready none)):=(hB.block _ O).trans hl;have hy:=run_yield (P:=P) (args:=(ys x F).toArray) e6 (by rw [f];simp [g4]);have a8:∀p∈B x F,∀b,p.fp b->w.heap.size+1<=b:=λp hp b n=>by have:=(S p hp).2.2 b n;omega
  have s1:Sat N sc env (HH k s) { tmps:=a.tmps,defers:=[] } M:=(Y.stays hB).sat hs.size rfl hs.env;have s2:Sat N sc env (adds 100 (B x F) (HH k s)) { tmps:=a.tmps,defers:=[] } M:=s1.adds (w1:=M) _ _ λp u=>⟨(S p u).1,(S p u).2.1,λb n=>hw b (by have:=a8 p u b n;omega),λj jt V ho b n a7=>by have h1:=(S p u).2.2 b n;have h2:=jt.lt W b (Y.hold j jt V) a7;omega⟩
  have b6:∀j q,lk (adds 100 (B x F) (HH k s)) j=some q->(q∈B x F)\/lk (HH k s) j=some q:=λj q h=>Zrm _ _ _ j q h;have u:∀j q,lk (adds 100 (B x F) (HH k s)) j=some q->∀b,q.fp b->q.own=true->Mof (w.heap.size+1) H b:=λj q V b n ho=>by
   rcases b6 j q V with h|h
   .rw [(S q h).2.1]at ho;cases ho
   .exact Y.mf j q h ho b n
  have b9:∀j q,lk (adds 100 (B x F) (HH k s)) j=some q->∀b,q.fp b->q.own=false->b<w.heap.size\/w.heap.size+1<=b:=λj q V b n ho=>by
   rcases b6 j q V with h|h
   .exact .inr (a8 q h b n)
   .exact Y.off j q h ho b n
  have s3:=s2.rounds ps (ys x F) g3;have s4:Sat N sc (renv ps (ys x F) env) ((93,Yt M (Mfs sc (w.heap.size+1) H))::adds 100 (B x F) (HH k s)) _ M:=s3.add 93 (Yt M (Mfs sc (w.heap.size+1) H)) (Chg.refl _ _) (λj jt d2 V Lz b n a7=>by
   rcases Lz with h|h
   .cases h
   .exact n.2 (.inl (u j jt V b a7 h))) (λb n=>fI.1 λhn=>n.2 (.inr hn))
  have d1:¬Mfs sc (w.heap.size+1) H w.heap.size:=λh=>h.elim g2 (λhn=>hn (hw _ g7));rw [f]at hy;refine⟨d6,_,assign,body,hy,roundIn_of_wpIn f8 ?_⟩;have hr:=b5 k x F s hx R w.heap.size (Mfs sc (w.heap.size+1) H) M _ M s4;have e3:(ps.toArray.zip (ys x F).toArray).foldl (λt (p,v)=>t.setIfInBounds p v) a.tmps=(ps.zip (ys x F)).foldl (λt pv=>t.setIfInBounds pv.1 pv.2) a.tmps:=O7;have f0:w.heap.size+1<=M.heap.size:=by have:=hB.size;omega
  have f9:∀(I:Hp),lk I 0=some (Yt w0 (λ_=>False))/\lk I 93=none->∀q,lk I 0=some q->q.own=false:=λI h q hq=>by rw [h.1]at hq;cases hq;rfl
  rw [show(ps.toArray.zip (ys x F).toArray).foldl (λt (x:Nat×Value)=>t.setIfInBounds x.1 x.2) a.tmps=(ps.zip (ys x F)).foldl (λt pv=>t.setIfInBounds pv.1 pv.2) a.tmps from e3];refine wpIn_mono hr ?_;rintro e a1 W2 ⟨rfl,d5,H1,c2,d8,f3,Z,c6⟩;have a0:Chg (Mfs sc (w.heap.size+1) H) M W2:=Z.hold 93 _ (Yg _ _ _);have g1:W2.heap[w.heap.size]? = some (.loop (d .ready none)):=(a0.block _ O d1).trans e6;have p1:=Z.ps c2 O3 d8 f0 f3 u b9 a4;have h5:M.heap.size<=W2.heap.size:=a0.size;obtain⟨m,z⟩:∃m,W2.putObj w.heap.size (.loop { d .ready none with state:= .busy })=m:=⟨_,rfl⟩;have g9:Sat N sc d5 ((93,Yt m (Mfs sc (w.heap.size+1) H))::H1) a1 m:=by
   have p2:=b4 _ _ p1 (.loop { d .ready none with state:= .busy });rw [z]at p2;refine(p2.sat Z.size Z.defers Z.env).add 93 (Yt m (Mfs sc (w.heap.size+1) H)) (Chg.refl _ _) (λj jt d2 V Lz b n a7=>?_) (λb n=>fI.1 λhn=>n.2 (.inr hn));rcases Lz with h|h
   .cases h
   .exact n.2 (.inl (p2.mf j jt V h b a7))
  have g6:W2.heap.size=m.heap.size:=by rw [<-z];simp
  have b8:m.heap[w.heap.size]? = some (.loop { d .ready none with state:= .busy }):=by rw [<-z];exact World.putObj_heap_same O
  refine⟨m,by rw [<-z];exact run_beginRound g1 (by rw [f]),wpIn_mono (c6 m ⟨⟨_,b8⟩,d1⟩ a1 m g9) ?_⟩;have b7:∀(I:Hp) (env':Pw) (a3:Act) (W3:World),(lk I 0=some (Yt w0 (λ_=>False))/\lk I 93=none)->FpM I (adds 100 (B x F) (HH k s))->Sat N sc env' ((93,Yt m (Mfs sc (w.heap.size+1) H))::I) a3 W3->∀(r:Loop),
    W3.heap[w.heap.size]? = some (.loop { d .ready none with state:= .busy })/\(((W3.putObj w.heap.size (.loop r)).heap[w.heap.size]? = some (.loop r)/\
     W1.heap.size<=(W3.putObj w.heap.size (.loop r)).heap.size/\Kps sc w (w.heap.size+1) (Mof (w.heap.size+1) H) I (W3.putObj w.heap.size (.loop r)))/\
     Chg (λb=>((∃i q,lk H i=some q/\q.own=true/\q.fp b)\/b=w.heap.size)\/W1.heap.size<=b) M (W3.putObj w.heap.size (.loop r))):=by
   intro I env' a3 W3 d0 f4 a6 r;have a2:Chg (Mfs sc (w.heap.size+1) H) m W3:=a6.hold 93 _ (Yg _ _ _);have a9:=(a2.block _ O d1).trans b8;have h6:=a2.size;have p3:=a6.ps d0.2 O3 (f9 I d0) O f4 u b9 a4;refine⟨a9,⟨World.putObj_heap_same O,O8,b4 _ _ p3 _⟩,?_⟩;have k0:(Yt w0 (λ_=>False)).holds M:=Y.stays hB |>.hold 0 _ (hk k s).1;have k3:(Yt w0 (λ_=>False)).holds W3:=p3.hold 0 _ d0.1;refine⟨?_,?_,?_,O8,λb n hn=>?_⟩
   .exact a2.os.trans ((by rw [<-z];rfl:m.os=W2.os).trans a0.os)
   .exact a2.tape.trans ((by rw [<-z];rfl:m.tape=W2.tape).trans a0.tape)
   .exact a2.output.trans ((by rw [<-z];rfl:m.output=W2.output).trans a0.output)
   .have e4:b≠w.heap.size:=λe=>hn (.inl (.inr e));have f7:¬Mof (w.heap.size+1) H b:=λh=>by
     rcases h with h|h
     .exact hn (.inl (.inl h))
     .exact hn (.inr O)
    refine(World.putObj_heap_other e4).trans ?_;by_cases f1:sc b
    .have d9:¬Mfs sc (w.heap.size+1) H b:=λh=>h.elim f7 (λh=>h f1);refine(a2.block b O d9).trans ?_;have:m.heap[b]? = W2.heap[b]?:=by rw [<-z];exact World.putObj_heap_other e4
     exact this.trans (a0.block b n d9)
    .have e1:b<w0.heap.size:=by
      rcases aZ b w0.heap.size with h|h
      .exact h
      .exact absurd (hw b h) f1
     exact(k3.block b e1 (λh=>h)).trans (k0.block b e1 (λh=>h)).symm
  rintro e a3 W3 (⟨rfl,d7,c8,c4,env',a6⟩|⟨rfl,gx,c8,c4,env',a6⟩)
  .obtain⟨a9,c5,c3⟩:=b7 _ env' a3 W3 (hk (k+1) d7) c4 a6 (d .ready none);have:=run_endRound (P:=P) none a9;rw [show({ ({ d .ready none with state:= .busy } : Loop)with state:=if(none:Option Code).isNone then LoopState.ready else .done,pending:=none } : Loop)=d .ready none by rw [f];rfl]at this;exact⟨_,_,this,.inl ⟨rfl,⟨d7,c8,c5⟩,c3⟩⟩
  .obtain⟨a9,c5,c3⟩:=b7 _ env' a3 W3 (g0 gx) c4 a6 (d .done (some .ret));have:=run_endRound (P:=P) (some .ret) a9;rw [show({ ({ d .ready none with state:= .busy } : Loop)with state:=if(some Code.ret).isNone then LoopState.ready else .done,pending:=some .ret } : Loop)=d .done (some .ret) by rw [f];rfl]at this;exact⟨_,_,this,.inr ⟨rfl,⟨gx,c8,c5⟩,c3⟩⟩
 .rintro e W2 ⟨⟨v,rfl⟩,⟨s,R,hl,f2,d3⟩|⟨gx,R,hl,f2,d3⟩⟩
  .refine⟨none,_,by have:=run_endLoop (P:=P) hl (by rw [f];simp);rw [f]at this;exact this,?_⟩;have p3:=b4 _ _ d3 (.loop (d .exhausted none));rw [f]at p3;have s3:=p3.sat (a:=a) hs.size hs.defers hs.env;exact hD s R _ _ s3
  .refine⟨some .ret,_,by have:=run_endLoop (P:=P) hl (by rw [f];simp);rw [f]at this;exact this,wpIn_ret ?_⟩;have p3:=b4 _ _ d3 (.loop { d .done (some .ret)with state:= .exhausted });rw [f]at p3;exact hX gx R _ _ (p3.sat (a:=a) hs.size hs.defers hs.env)
theorem Ztf{ops:Array Oper}{r:Nat}(f:Zko ops.toList):∀(d:Nat) (e:Array Bool) (a:Act) (w:World),wpAny P .any ops (Fb Q) d e a w->wpAnyIn (Fence.wide.inRound r) 0 P .any ops Q d e a w
 | 0,_,_,_,h=>h
 | d+1,e,a,w,h=>by
  refine⟨h.1,λi hi=>?_⟩;have g:=h.2 i hi;unfold wpOp at g;unfold wpOpIn;split
  .rename_i j;simp only [j]at g;exact Ztf f d _ a w g
  .rename_i o j;simp only [j]at g;split
   .rename_i k;simp only [k,lC]at g;exact Oper.wpIn_mono (λa w l=>Ztf f d _ a w l) (Ybj (f o (by rw [<-Array.getElem?_toList]at j;exact gL j)) (g.resolve_right λh=>Da h.2))
   .rename_i k;simp only [k]at g;exact⟨λ_ _=>trivial,Ztf f d _ _ w g⟩
def Zk6(h:ER P N sc r y Q env H):X N sc .normal (Exit.then (λa w=>y.wpIn (Fence.wide.inRound r) 0 P Q a w) Q) env H:=λa w hs=>h a w hs
def Zxg(h:X N sc .normal Q env H):X N sc .normal (Fb Q) env H:=λa w hs=>h a w hs
def Zcg(d:ops.all ndB=true)(h:L P N sc ops.toArray ops (Fb Q) env H):ER P N sc r (.region id ops.toArray false) Q env H:=Zsb d h
def Ylt(h:X N sc .normal Q env H):ER P N sc r .skip Q env H:=Zsa h
def Ycl(h:X N sc .ret Q env H):ER P N sc r .ret Q env H:=Zy1 h
def Yra{x:Code}{p:Prop}[Decidable p](d:ev env c=some (.bool (decide p)))(f:p->ER P N sc r x Q env H)(e:¬p->ER P N sc r y Q env H):ER P N sc r (.cond c x y) Q env H:=
 Zwb d (λh=>f (cE h)) (λh=>e (iY h))
def xq_rn{n:Nat}{g i:Type}{h:g->Hp}{d:g->Prop}{j:i->Hp}{e:i->Prop}(f:g)(hi:d f)(k:FpM (h f) Hall)(l:HSub ((n,Yt Wb Mf)::h f) H):X N sc .normal (RBn n N sc Mf Hall h d j e Wb) env H:=
 λa w hs=>Or.inl ⟨rfl,f,hi,k,[],hs.weaken aA l⟩
def x_rr{n:Nat}{i f:Type}{j:i->Hp}{h:i->Prop}{g:f->Hp}{d:f->Prop}(e:f)(hi:d e)(k:FpM (g e) Hall)(l:HSub ((n,Yt Wb Mf)::g e) H):X N sc .ret (RBn n N sc Mf Hall j h g d Wb) env H:=
 λa w hs=>Or.inr ⟨rfl,e,hi,k,[],hs.weaken aA l⟩
def x_ra {n l:Nat}    {h i:Type} {j:h->Hp} {g:h->Prop} {k:i->Hp} {e:i->Prop} {m:World} (d:Pw) (f:Hp) (u:Sub d env) (v:HSub ((n,Yt m Mf)::f) H) (p:lk f n=none) (o:∀q,lk f 0=some q->q.own=false) (s:FpM f Hall)
  (t:∀Wb,LpAt l Mf Wb->ER P N sc l body (RBn n N sc Mf Hall j g k e Wb) d ((n,Yt Wb Mf)::f)):X N sc .normal (RAn n P N sc l Mf Hall body j g k e m) env H:=
 λa w hs=>⟨rfl,d,f,p,o,s,hs.weaken u v,t⟩
theorem Ylu  {l:List Oper} (M:Nat->Prop) (e:List Nat) (f:P.follows .mixedOrders=true) (d:l.all ndB=true)
  (h:A P N sc M l.toArray e Q l.length (Array.replicate l.length false) env H):ER P N sc r (.region id l.toArray true) Q env H:=λa w hs=>by
 refine wpIn_region_any f (Ztf (Zil d) _ _ _ _ (Zbv e (C:=Chg M) _ _ _ _ ?_));simpa using h a _ hs.drew
theorem Yq9  {l:List Oper} (M:Nat->Prop) (d:List (Nat×Nat)) (o:P.follows .mixedOrders=true) (f:l.all ndB=true)
  (g:(Region.noSelect l.toArray && Nat.beq d.length l.length && Fs l.toArray (Ar d) d (Array.replicate l.length false) &&
   (Region.ready .any l.toArray (Ev d (Array.replicate l.length false))).isEmpty)=true)
  (h:LD P N sc M l.toArray (X N sc .normal Q) d env H):ER P N sc r (.region id l.toArray true) Q env H:=by
 simp only [aR]at g;obtain⟨⟨⟨i,e⟩,j⟩,k⟩:=g;have e:=dM e;refine Ylu M (Ar d) o f ?_;have:=LD.sound (n:=0) (Q:=Q) i d _ env H j h (λenv H m=>Zt m k);rw [<-e];rw [<-e]at this;simpa using this
end Go.Sky
namespace Go.Sky
open Go.RowKit Below
variable{i k:Nat}{x:Nat×Nat}{D:Int}{ls:List PT}{zs:List GpT}
section
variable {P:Program} {N:Nat} {sc:Nat->Prop} {env:Pw} {H:Hp}
end
abbrev wtM (z:GpT) (u:R2):R2:=(Es (u.1*(z.1.2-z.1.1)) (u.2*1),Fo (u.1*(z.1.2-z.1.1)) (u.2*1))
abbrev wtT (z:GpT) (u:R2):R2:=(Es ((wtM z u).1*1+z.1.1*(wtM z u).2) ((wtM z u).2*1),Fo ((wtM z u).1*1+z.1.1*(wtM z u).2) ((wtM z u).2*1))
abbrev wtV (g:R2×Int):Value:= .tuple #[.agg #[.bool (decide (g.1.1<0)),.string (Qp (g.1.1).natAbs),.bool (decide (g.1.2<0)),.string (Qp (g.1.2).natAbs)],.int .i64 g.2]
def WtP(D:Int)(a b:List Zl)(g:R2×Int):Prop:=
 (Iv a b≠0/\g=((0,0),Iv a b))\/(Iv a b=0/\Ek D 1 1 a b=true/\g=((0,0),9))\/
  (Iv a b=0/\Ek D 1 1 a b=false/\g.2=0/\∃z:GpT,unP z∈Mg D 1 1 a b/\∃u,Fnd z.2.2 (qv (0,1)) (qv (1,1)) u/\g.1=wtT z u)
def Zu3(n i:Nat):List (Nat×Nat):=(List.range (n-(i+1))).map λj=>(i,i+1+j)
def prU(n:Nat):Nat->List (Nat×Nat)
 | 0=>[]
 | i+1=>prU n i ++ Zu3 n i
abbrev prs (n:Nat):List (Nat×Nat):=prU n n
theorem prU_le{n m:Nat}(h:i<=m):∃r,prU n m=prU n i ++ r:=by
 obtain⟨d,rfl⟩:=Nat.exists_eq_add_of_le h;clear h
 induction d with
 | zero=>exact⟨[],(iA _).symm⟩
 | succ d b=>
  obtain⟨r,a⟩:=b;exact⟨r ++ Zu3 n (i+d),by rw [<-dB,<-a];rfl⟩
theorem pr_len{n:Nat} : (prU n (i+1)).length=(prU n i).length+(n-(i+1)):=by show(prU n i ++ Zu3 n i).length=_;rw [aS];unfold Zu3;rw [aP,oL]
theorem pr_at{n j:Nat}(hi:i<n)(a:j<n-(i+1)):(prs n)[(prU n i).length+j]? = some (i,i+1+j):=by obtain⟨r,b⟩:=prU_le (n:=n) (show i+1<=n from hi);unfold prs;rw [b,show prU n (i+1)=prU n i ++ Zu3 n i from rfl,dB,dC O,mN,cS (by unfold Zu3;rw [aP,oL];exact a)];unfold Zu3;rw [eI,List.getElem?_range a];rfl
theorem Yjf (n:Nat)(i:Nat)(k:Nat)(hi:i<n)(a:i+1<=k)(b:k<n):(prs n)[(prU n i).length+(k-(i+1))]? = some (i,k):=by rw [pr_at hi O];congr 2;omega
theorem Zx9{n m:Nat}(h:(i,k)∈prU n m):i<m/\i<k/\k<n:=by
 induction m with
 | zero=>cases h
 | succ m c=>
  rcases cZ.1 h with h|h
  .obtain⟨d,a⟩:=c h;exact⟨O,a⟩
  .obtain⟨j,b,e⟩:=eJ.1 h;rw [fR]at b;cases e;exact⟨O,O,O⟩
def lx(p q:Nat×Nat):Prop:=p.1<q.1\/(p.1=q.1/\p.2<q.2)
theorem pr_pw(n:Nat):∀m,(prU n m).Pairwise lx
 | 0=>List.Pairwise.nil
 | m+1=>by
  refine List.pairwise_append.2 ⟨pr_pw n m,?_,λp d q e=>?_⟩
  .unfold Zu3;rw [List.pairwise_map];exact(List.pairwise_lt_range).imp λ{a b} h=> .inr ⟨rfl,O⟩
  .obtain⟨a,b⟩:=p;obtain⟨c,_⟩:=Zx9 d;obtain⟨j,f,rfl⟩:=eJ.1 e;exact .inl c
theorem Yje (y:Nat×Nat){n:Nat}(m:(prs n)[k]? = some x)(l:y.1<y.2/\y.2<n)(h:lx y x):∃j,j<k/\(prs n)[j]? = some y:=by
 obtain⟨a,b⟩:=y;dsimp only at l;have d:=Yjf n a b O O l.2;refine⟨_,?_,d⟩;obtain⟨p,f⟩:=dZ.1 m;obtain⟨o,e⟩:=dZ.1 d;rcases iJ ((prU n a).length+(b-(a+1))) k with c|c|c
 .exact c
 .exfalso;subst c;rw [f]at e;subst e;rcases h with h|h<;>omega
 .exfalso;have:=List.pairwise_iff_getElem.1 (pr_pw n n) k _ p o c;rw [f,e]at this;rcases h with h|h<;>rcases this with g|g<;>omega
def PrI(D:Int)(ls:List PT)(k:Nat):Prop:=∀j p,j<k->(prs ls.length)[j]? = some p->Ek D 1 1 (pth ls p.1) (pth ls p.2)=true
theorem prI_s(h:PrI D ls k)(e:(prs ls.length)[k]? = some x)(c:Ek D 1 1 (pth ls x.1) (pth ls x.2)=true):PrI D ls (k+1):=λj p d b=>by
 rcases bP.1 d with a|a
 .exact h j p a b
 .subst a;rw [e]at b;cases b;exact c
theorem prI_A(h:PrI D ls k)(g:(prs ls.length)[k]? = some x):ClA D 1 1 ls x.1/\ClB D 1 1 ls x.1 x.2/\x.1<x.2/\x.2<ls.length:=by
 obtain⟨-,l,m⟩:=Zx9 (gL g);refine⟨λa b d e n=>?_,λb d e=>?_,l,m⟩
 .obtain⟨j,f,c⟩:=Yje (a,b) g ⟨d,e⟩ (.inl n);have:=h j (a,b) f c;exact this
 .obtain⟨j,f,c⟩:=Yje (x.1,b) g ⟨d,show b<ls.length by omega⟩ (.inr ⟨rfl,e⟩);have:=h j (x.1,b) f c;exact this
theorem Yp2(h:PrI D ls (prs ls.length).length):ClR D 1 1 ls ((0,0,0,0),false,0):= .inl ⟨rfl,λa b d e f=>by have c:=Yjf ls.length a b f d e;have:=h _ (a,b) (dZ.1 c).1 c;exact this⟩
theorem Yp1(h:PrI D ls k)(g:(prs ls.length)[k]? = some x)(a:Iv (pth ls x.1) (pth ls x.2)≠0):ClR D 1 1 ls ((0,0,0,0),false,Iv (pth ls x.1) (pth ls x.2)):=by obtain⟨c,d,e,f⟩:=prI_A h g;have:=Ymz c d e f (ap_e a);have j:Mg D 1 1 (pth ls x.1) (pth ls x.2)=[]:=Zrx λb=>a (by unfold Iv;rw [b];rfl);unfold clV at this;rw [j]at this;exact this
theorem Zyt{x:GpT}(a:(zs.filter λz=>Ir z.2.2)[0]? = some x):Cb (zs.map unP)=(x.1.1,x.1.2,true):=by
 induction zs with
 | nil=>cases a
 | cons z zs b=>
  cases hn:Ir z.2.2 with
  | true=>
   rw [eF (by exact hn)]at a;have a:some z=some x:=a;obtain rfl:z=x:=Option.some.inj a;have e:Zjy ((z::zs).map unP)=some (unP z):=mV (by exact hn);unfold Cb;rw [e];rfl
  | false=>
   rw [fQ (by rw [hn];exact cW)]at a;have e:Zjy ((z::zs).map unP)=Zjy (zs.map unP):=mW (by rw [show Ir (unP z).2.2=false from hn];exact cW);have:=b a;unfold Cb at this ⊢;rw [e];exact this
theorem Yp0{c:Nat}{y:GpT}(h:PrI D ls k)(m:(prs ls.length)[k]? = some x)(d:¬Iv (pth ls x.1) (pth ls x.2)≠0)(b:zs.map unP=Mg D 1 1 (pth ls x.1) (pth ls x.2))(l:c=0)(a:(zs.filter λz=>Ir z.2.2)[c]? = some y) :
  ClR D 1 1 ls (((x.1:Int),(x.2:Int),y.1.1,y.1.2),true,0):=by
 subst l;obtain⟨e,f,g,j⟩:=prI_A h m;have:=Ymz e f g j (Znv b a);unfold clV at this;rw [<-b,Zyt a,fU.1 d]at this;exact this
def vidx_t(hi:i<ls.length)(h:Xl (pth ls i)=false):Zf1 ls=false:=Yod (x:=ls.getD i PT0) (Zd hi) h
end Go.Sky
namespace Go.Sky
variable{D d ov2:Int}{a b:List Zl}
def dfA(p q:List Int)(c ov2:Int)(t:Rat):Rat:=Zf p t*(ov2:Rat)-Zf q t*(c:Rat)
theorem Ypo(p q:List Int)(a b:Int)(t:Rat):Zf (dfP p q a b) t=dfA p q a b t:=by unfold dfP dfA;rw [Yik,Fn,Fn,Ms,Ms];grind
theorem Zql(p q:List Int)(a b k:Int)(t:Rat):Zf (sqK p q a b k) t=((k:Rat)*dfA p q a b t)*((k:Rat)*dfA p q a b t):=by unfold sqK dfK;rw [Yp,Fn,Ypo]
def fvE(D n d c ov2:Int)(x y z e f g:List Int)(t:Rat):Rat:=
 ((d:Rat)*dfA x e c ov2 t)*((d:Rat)*dfA x e c ov2 t)+((d:Rat)*dfA y f c ov2 t)*((d:Rat)*dfA y f c ov2 t)+((n:Rat)*dfA z g c ov2 t)*((n:Rat)*dfA z g c ov2 t)
  - ((D:Rat)*(d:Rat)*(c:Rat)*(ov2:Rat))*((D:Rat)*(d:Rat)*(c:Rat)*(ov2:Rat))
theorem Ypp(D d c ov2:Int)(t:Rat):Zf (cnZ D d c ov2) t=- (((D:Rat)*(d:Rat)*(c:Rat)*(ov2:Rat))*((D:Rat)*(d:Rat)*(c:Rat)*(ov2:Rat))):=by show Zf (Zq (Zq (Zq (Zq (Zq (Zq (Zq (Zq [-1] D) D) d) d) c) c) ov2) ov2) t=_;simp only [Fn];rw [show Zf [-1] t=(-1:Rat)from by show((-1:Int):Rat)+t*0=_;grind];grind
theorem Yay(D n d c ov2:Int)(x y z e f g:List Int)(t:Rat):Zf (smZ D n d c ov2 x y z e f g 3) t=fvE D n d c ov2 x y z e f g t:=by show Zf (Ht (Ht (Ht (cnZ D d c ov2) (fqZ n d c ov2 x y z e f g 0)) (fqZ n d c ov2 x y z e f g 1)) (fqZ n d c ov2 x y z e f g 2)) t=_;rw [Zl0,Zl0,Zl0,Ypp];show _+Zf (sqK x e c ov2 d) t+Zf (sqK y f c ov2 d) t+Zf (sqK z g c ov2 n) t=_;rw [Zql,Zql,Zql];unfold fvE;grind
def Ygx(D n d c ov2:Int)(x y z e f g:List Int):Tr (smZ D n d c ov2 x y z e f g 3):=Qi _
theorem negZ{n f:Int}{x y z g i j:List Int}(h:Cvd (fmZ D n d f ov2 x y z g i j)):Ir (fmZ D n d f ov2 x y z g i j)=false↔∀t:Rat,0<=t->t<=1->0<=fvE D n d f ov2 x y z g i j t:=by
 have e:Ir (fmZ D n d f ov2 x y z g i j)=true↔Zzw (fmZ D n d f ov2 x y z g i j) (qv (0,1)) (qv (1,1)):=Zgu h O3 O3 O5;have m:qv (0,1)=0:=O5;have o:qv (1,1)=1:=O5;rw [m,o]at e;rw [<-Bool.not_eq_true,e];constructor
 .intro q t k l;refine Rat.not_lt.1 λc=>q ⟨t,k,l,?_⟩;unfold fmZ;rw [Zvg (Ygx ..),Yay];exact c
 .rintro p ⟨t,k,l,c⟩;unfold fmZ at c;rw [Zvg (Ygx ..),Yay]at c;exact absurd (p t k l) (Rat.not_le.2 c)
theorem sq_le{a b c:Rat}(f:0<=a)(h:a<=b):(a*c)*(a*c)<=(b*c)*(b*c):=by have e:=aL (show 0<=b-a by grind) (show 0<=b+a by grind);have g:=aL e (sq_nn c);grind
theorem Yq5{n e g:Int}(d:Int){f:Int}{x y z i j h:List Int}(t:Rat)(k:0<=e)(l:e<=D)(m:0<=n)(o:n<=g):fvE D n d f ov2 x y z i j h t<=fvE e g d f ov2 x y z i j h t:=by
 have p:(0:Rat)<=(e:Rat):=by exact_mod_cast k
 have q:(e:Rat)<=(D:Rat):=by exact_mod_cast l
 have r:(0:Rat)<=(n:Rat):=by exact_mod_cast m
 have s:(n:Rat)<=(g:Rat):=by exact_mod_cast o
 have u:=sq_le (c:=(d:Rat)*(f:Rat)*(ov2:Rat)) p q;have v:=sq_le (c:=dfA z h f ov2 t) r s;unfold fvE;grind
def fvU(D n d:Int)(g h:Zof)(t:Rat):Rat:=fvE D n d g.1.2.2 h.1.2.2 g.2.1 g.2.2.1 g.2.2.2 h.2.1 h.2.2.1 h.2.2.2 t
theorem Yq7(l:List GpU):(Cb l).2.2=false↔∀g∈l,Ir g.2.2=false:=by
 constructor
 .intro h g c;cases he:Zjy l with
  | some q=>unfold Cb at h;rw [he]at h;cases h
  | none=>
   have:=kE.1 he g c;cases hn:Ir g.2.2 with
   | false=>rfl
   | true=>exact absurd hn this
 .intro h;have:Zjy l=none:=kE.2 λg c=>by rw [h g c];exact cW
  unfold Cb;rw [this]
theorem Ygh{α β γ:Type}(f:α->β->γ)(x:γ):∀(l:List α) (m:List β),x∈List.zipWith f l m↔∃g h,(g,h)∈l.zip m/\f g h=x
 | [],m=>O7
 | _::_,[]=>O7
 | a::l,b::m=>by
  rw [mU,bE,Ygh f x l m,List.zip_cons_cons];constructor
  .rintro(rfl|⟨g,h,i,e⟩)
   .exact⟨a,b,.head _,rfl⟩
   .exact⟨g,h,.tail _ i,e⟩
  .rintro⟨g,h,i,e⟩;rcases bE.1 i with c|c
   .cases c;exact .inl e.symm
   .exact .inr ⟨g,h,c,e⟩
theorem ap_e2{n:Int} : Ek D n d a b=true↔Iv a b=0/\(Cb (Mg D n d a b)).2.2=false:=by unfold Ek;rw [aR,dO,fS]
theorem Ynp{n:Int}(f:∀g∈Mg D n d a b,Cvd g.2.2):Ek D n d a b=true↔Iv a b=0/\∀g h,(g,h)∈(Lr a b a).zip (Lr a b b)->∀t:Rat,0<=t->t<=1->0<=fvU D n d g h t:=by
 rw [ap_e2,Yq7];have c:∀x,x∈Mg D n d a b↔∃g h,(g,h)∈(Lr a b a).zip (Lr a b b)/\gpZ D n d g h=x:=λx=>Ygh _ x _ _;generalize (Lr a b a).zip (Lr a b b)=Z at c;generalize Mg D n d a b=L at c f;refine and_congr oR ⟨λh g q k=>?_,λh g l=>?_⟩
 .have j:gpZ D n d g q∈L:=(c _).2 ⟨g,q,k,rfl⟩;have i:=f _ j;have m:=h _ j;simp only [gpZ]at i m;exact(negZ i).1 m
 .obtain⟨p,q,k,e⟩:=(c g).1 l;have i:=f g l;rw [<-e]at i ⊢;simp only [gpZ]at i ⊢;exact(negZ i).2 (h p q k)
theorem Ysv{n f j:Int}(i:∀g∈Mg D n d a b,Cvd g.2.2)(c:∀g∈Mg f j d a b,Cvd g.2.2)(k:0<=f)(l:f<=D)(m:0<=n)(o:n<=j)(h:Ek D n d a b=true):Ek f j d a b=true:=by obtain⟨e,p⟩:=(Ynp i).1 h;exact(Ynp c).2 ⟨e,λg q r t t0 t1=>mQ (p g q r t t0 t1) (Yq5 d t k l m o)⟩
end Go.Sky

