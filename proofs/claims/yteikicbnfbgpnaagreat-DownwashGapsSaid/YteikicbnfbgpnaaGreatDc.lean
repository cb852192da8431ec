/- The law: part 19. No conditions but those that each theorem names. -/
import Derived.Test.YteikicbnfbgpnaaGreatDc17
set_option linter.all false
namespace Go.Sky
open Go.Proofs.Tryz
open Go.Proofs
variable{zs:List GpT}{a b:List Zt}
def Ztc(x y:Int)(g:bl x.natAbs<=1000000)(h:bl y.natAbs<=1000000):∀(n:Nat) (v w u:Value) (zs:List (Int×SL)) (k:Nat) (f:Vp (Zb zs)) (e:Sz k (Zb zs)) (c:k+5*zs.length<=260) (d:zs.length<n),Cal prog 255 #[v,.agg #[.bool (decide (x<0)),w,.bool (decide (y<0)),u]] [pp v zs,Ow w x.natAbs,Ow u y.natAbs] false (G:=Unit) (λ_=>True) (λ_=> .int .i64 (aft (Pg (Zb zs)) (x,y))) (λ_=>[])
 | 0,v,w,u,zs,k,f,e,c,d=>absurd d (cI _)
 | n+1,v,w,u,zs,k,f,e,c,d=>Zna x y g h n (Ztc x y g h n) v w u zs k f e c d
set_option synthInstance.maxHeartbeats 0
set_option synthInstance.maxSize 100000
set_option maxRecDepth 20000
set_option maxHeartbeats 1000000
set_option linter.unusedSimpArgs false
theorem Zwf(v w u z t:Value)(zs:List (Int×SL))(x y h f:Int)(M:bl x.natAbs<=1000000)(N:bl y.natAbs<=1000000)(n:bl h.natAbs<=1000000)(o:bl f.natAbs<=1000000)(i:0<f)(l:Cvd (Zb zs)):Xs prog 256 #[v,.agg #[.bool (decide (x<0)),w,.bool (decide (y<0)),u],.agg #[.bool (decide (h<0)),z,.bool (decide (f<0)),t]] [pp v zs,Ow w x.natAbs,Ow u y.natAbs,Ow z h.natAbs,Ow t f.natAbs] (.bool (crb (Ct (Zb zs)) (x,y) (h,f))):=by
 refine Zh func256 ntmps256 λY W S m=>?_;have F:=Zi zs;have B:=l.l;have G:=Ybn (Ct (Zb zs)) (x,y);have H:=Ybn (Ct (Zb zs)) (h,f);have I:=Zj0 (Zb zs);refine go 2 ?_;refine Yg (Yh 6) λR _=>Yg (Yh 7) λr _=>go 11 ?_;refine Zd J (λp=>?_) (λp=>?_)
 .refine go 7 ?_;exact Xd m () results256 (by rw [Yok O]) aA Za
 .have c:(Zb zs).length≠0:=O;obtain⟨P,s,Q,V,-⟩:=Zby l (λe=>c (by rw [e];rfl));refine go 5 ?_;refine cl 8 [1] (r4_odd _ _ l O) λg D=>?_;have j:Zb g.2=Lt (Zb zs):=D;have q:=aF List.length j;rw [Zi]at q;refine go 8 ?_;refine cl 8 [8,2,3,4,5] (Ygl _ _ _ _ _ _ x y h f (by rw [j];exact s) (λe=>P.one (aC (by rw [<-j,Zi];exact e))) (by rw [j];exact Q.mono O) O M N n o) λ_ _=>go 5 ?_;refine Zg (Kb 8 (v':= .int .i64 ((chv (Ct (Zb zs)) (x,y))-(chv (Ct (Zb zs)) (h,f)))) J (by rw [j,Ybh c,Ybh c]))<|go 3 ?_;refine cl 8 [8,4,5] (Af _ _ _ _ h f n o (by rw [j];exact s.sz.mono O)) λ_ _=>go 3 ?_;refine Zd J (λk=>?_) (λk=>?_)
  .have d:Dx h f (Lt (Zb zs))=0:=by rw [<-j];exact k
   refine go 14 ⟨O,?_⟩;exact Xd m () results256 (by first|rw [crx_t l c i d]|rw [crx_f l c i d]) aA Za
  .have d:¬Dx h f (Lt (Zb zs))=0:=by rw [<-j];exact k
   refine go 10 ?_;exact Xd m () results256 (by first|rw [crx_t l c i d]|rw [crx_f l c i d]) aA Za
theorem Ztb(v w u B z:Value)(zs:List (Int×SL))(x y f e:Int)(p:bl x.natAbs<=1000000)(q:bl y.natAbs<=1000000)(n:bl f.natAbs<=1000000)(o:bl e.natAbs<=1000000)(j:0<y)(c:0<e)(g:Cvd (Zb zs))(i:¬0<cmp (x,y) (f,e)):Xs prog 206 #[v,.agg #[.bool (decide (x<0)),w,.bool (decide (y<0)),u],.agg #[.bool (decide (f<0)),B,.bool (decide (e<0)),z]] [pp v zs,Ow w x.natAbs,Ow u y.natAbs,Ow B f.natAbs,Ow z e.natAbs] (.bool (ngb (Pg (Zb zs)) (Ct (Zb zs)) (x,y) (f,e))):=by
 refine Zh func206 ntmps206 λM I H h=>?_;have F:=Zi zs;have D:=g.l;have k:Sz 1000000 (Zb zs):=g.v.sz.mono O;refine go 2 ?_;refine Yg (Yh 6) λG _=>Yg (Yh 7) λt _=>go 8 ?_;refine cl 7 [2,3,4,5] (Zwe _ _ _ _ x y f e O O O O) λ_ _=>go 3 ?_;refine Zd J (λr=>?_) (λr=>?_)
 .refine go 4 ?_;refine cl 7 [1,2,3] (Af _ _ _ _ x y p q k) λ_ _=>go 6 ?_;exact Xd h () results206 (by rw [ngb_e (show cmp (x,y) (f,e)=0 by assumption)]) aA Za
 .refine go 6 ?_;refine cl 7 [1,2,3] (Af _ _ _ _ x y p q k) λ_ _=>go 2 ?_;refine Yt (d:=19) J (λs=>?_) (λs=>?_)
  .refine go 21 ?_;exact Xd h () results206 (by first|rw [Zzv g j c i ‹_›]|rw [Zzu g j c i ‹_›]|rw [Zzt (show ¬cmp (x,y) (f,e)=0 by assumption) ‹_›]|rw [Zzs (show ¬cmp (x,y) (f,e)=0 by assumption) ‹_›]) aA Za
  .refine go 2 ?_;refine Gm 7 [1,4,5] (Af _ _ _ _ f e n o k) λ_ _=>go 3 ?_;refine Yt (d:=25) J (λl=>?_) (λl=>?_)
   .refine go 15 ?_;exact Xd h () results206 (by first|rw [Zzv g j c i ‹_›]|rw [Zzu g j c i ‹_›]|rw [Zzt (show ¬cmp (x,y) (f,e)=0 by assumption) ‹_›]|rw [Zzs (show ¬cmp (x,y) (f,e)=0 by assumption) ‹_›]) aA Za
   .refine go 2 ?_;refine Gm 7 [1,2,3] (Ztc x y p q _ _ _ _ _ 205 g.v g.s O (iI _)) λ_ _=>go 3 ?_;refine Yt (d:=31) J (λm=>?_) (λm=>?_)
    .refine go 9 ?_;exact Xd h () results206 (by first|rw [Zzv g j c i ‹_›]|rw [Zzu g j c i ‹_›]|rw [Zzt (show ¬cmp (x,y) (f,e)=0 by assumption) ‹_›]|rw [Zzs (show ¬cmp (x,y) (f,e)=0 by assumption) ‹_›]) aA Za
    .refine go 3 ?_;refine Gm 7 [1,2,3,4,5] (Zwf _ _ _ _ _ _ x y f e p q n o c g) λ_ _=>go 5 ?_;exact Xd h () results206 (by first|rw [Zzv g j c i ‹_›]|rw [Zzu g j c i ‹_›]|rw [Zzt (show ¬cmp (x,y) (f,e)=0 by assumption) ‹_›]|rw [Zzs (show ¬cmp (x,y) (f,e)=0 by assumption) ‹_›]) aA Za
def bdI:List GpU->Int
 | []=>-1
 | g::l=>if Gl g.2.2 then 0 else if bdI l<0 then -1 else bdI l+1
theorem bdI_s:∀{l:List GpU} {k:Nat},k<l.length->(∀i,i<k->Gl (l.getD i (0,0,[])).2.2=false)->Gl (l.getD k (0,0,[])).2.2=true->bdI l=(k:Int)
 | [],_,d,_,_=>absurd d (cI _)
 | g::l,0,_,_,c=>by have c:Gl g.2.2=true:=c;unfold bdI;rw [aG c];rfl
 | g::l,k+1,d,h1,c=>by have e:Gl g.2.2=false:=h1 0 (kE _);have:=bdI_s (l:=l) (k:=k) (by simpa using d) (λi hi=>h1 (i+1) O) c;unfold bdI;rw [aD (by rw [e];exact dC),this,aD O];rfl
theorem bdI_n:∀{l:List GpU},(∀i,i<l.length->Gl (l.getD i (0,0,[])).2.2=false)->bdI l=-1
 | [],_=>rfl
 | g::l,h=>by have c:Gl g.2.2=false:=h 0 (kE _);have:=bdI_n (l:=l) λi hi=>h (i+1) (by simpa using hi);unfold bdI;rw [aD (by rw [c];exact dC),this];rfl
theorem bd_at{k:Nat}(c:k<zs.length)(e:∀i,i<k->Gl (zs.getD i Gp0).2.2=false)(d:Gl (zs.getD k Gp0).2.2=true):bdI (zs.map unP)=(k:Int):=
 bdI_s (by rw [aP];exact c) (λi hi=>by rw [Fy];exact e i hi) (by rw [Fy];exact d)
theorem bd_no(c:∀i,i<zs.length->Gl (zs.getD i Gp0).2.2=false):bdI (zs.map unP)=-1:=
 bdI_n λi hi=>by rw [Fy];exact c i (by rw [aP]at hi;exact hi)
theorem Yb1:∀l:List GpU,decide (bdI l<0)=!(Zfa l).2.2
 | []=>rfl
 | g::l=>by
  have f:=Yb1 l;cases hn:Gl g.2.2 with
  | true=>
   have e:Zuh (g::l)=some g:=mG (by exact hn);have c:bdI (g::l)=0:=by show(if Gl g.2.2 then(0:Int)else _)=0;rw [hn];rfl
   unfold Zfa;rw [e,c];rfl
  | false=>
   have e:Zuh (g::l)=Zuh l:=mH (by rw [show Gl g.2.2=false from hn];exact dC);have c:bdI (g::l)=if bdI l<0 then -1 else bdI l+1:=by show(if Gl g.2.2 then(0:Int)else _)=_;rw [hn];rfl
   have d:Zfa (g::l)=Zfa l:=by unfold Zfa;rw [e]
   rw [d,<-f,c,bJ];split<;>omega
theorem ap_b{D n d:Int}(h:zs.map unP=Bl D n d a b)(c:Zh3 a b=0):decide (bdI (zs.map unP)<0)=apZ D n d a b:=by rw [Yb1,h,ap_t c]
theorem com_e0{xs:List Zt}(d:¬Dr a b=9)(f:xs.map unS=Ik a b a)(h:0<xs.length):Dr a b=0:=by
 rcases Zxp a b with c|c|c
 .exact absurd c d
 .exact c
 .have e:=aF List.length f;rw [Zrc O,aP]at e;have:xs.length=0:=e;omega
theorem gp_eq{xs ys:List GpT}(h:xs.map unP=ys.map unP):xs.length=ys.length/\∀k,(xs.getD k Gp0).1.1=(ys.getD k Gp0).1.1/\(xs.getD k Gp0).1.2=(ys.getD k Gp0).1.2/\(xs.getD k Gp0).2.2=(ys.getD k Gp0).2.2:=by have e:=aF List.length h;rw [aP,aP]at e;refine⟨e,λk=>?_⟩;have:=aF (λl=>l.getD k (0,0,[])) h;rw [Fy,Fy]at this;unfold unP at this;injection this with h1 h2;injection h2 with h2 h3;exact⟨h1,h2,h3⟩
def Ycf{a b c:Bool}(h:¬(a=true/\b=true/\c=true)):a=false\/(a=true/\b=false)\/(a=true/\b=true/\c=false):=Ygw h
theorem Yi6{ps:List Zt}{m:Nat}(h:Zcf ps m=true):ps.length<=m:=by unfold Zcf at h;rw [aS]at h;exact cC h.2
set_option maxHeartbeats 1000000 in
theorem Ygp(v u:Value)(zs ys:List GpT)(g:zs.map unP=ys.map unP):Xs prog 31 #[v,u] [Qh 3 Eo qGp v zs,Qh 3 Eo qGp u ys] (.bool true):=by
 refine Zh func31 ntmps31 λm l j e=>?_;refine Pv (Le (i:=1) J Zc) (λf=>?_);obtain⟨k,c⟩:=gp_eq g;refine go 12 ?_;refine kf (aM O)<|go 12 ?_;refine lp (G:=Nat) [0,1] [0,1,2] (λi=>[(5,.int .i64 (i:Int))]) (λi=>[]) (λi=>i<=zs.length) (λi=>zs.length-i) 0 O1 K1 aA ?_;rintro i hi;refine go 9 ?_;refine Zd J (λd=>?_) (λd=>?_)
 .refine go 5 ?_;refine Zg (Kf 1 55 (zs.getD i Gp0) J J (Ze) J)<|Zg (Kf 2 56 (ys.getD i Gp0) J J (Ze) J)<|Qg (λ_=>False) [(0,0),(1,0),(2,0),(3,0),(4,0),(5,0),(6,0),(7,0),(8,0),(9,0),(10,0),(11,0),(12,0),(13,0),(14,0),(15,0),(16,0),(17,0),(18,0),(19,0),(20,0),(21,0),(22,0),(23,0),(24,0),(25,0),(26,0),(27,0),(28,0),(29,0),(30,0),(31,0),(32,0),(33,0),(34,0),(35,1),(36,0),(37,0)]<|go 2 ?_;refine Xe J J (Xt (Zv (ii:=1) (i:=i) J J J J Zc Zke sizeOf130 J))<|Xe J J (Xt (Kd (ii:=1) J J J Zc Zkg J Ij J))<|Xe J J (Xt (Kc (ii:=1) Gp0 J J J Zc iA3 J))<|go 2 ?_;refine Xe J J (Xt (Zv (ii:=2) (i:=i) J J J J Zc Zke sizeOf130 J))<|Xe J J (Xt (Kd (ii:=2) J J J Zc Zkg J Ij J))<|Xe J J (Xt (Kc (ii:=2) Gp0 J J J Zc iA3 J))<|Xe J J (Xt (dF (Zuz J J J) (vB (aM (λh=>h (c i).1)))))<|go 3 ?_;refine Co (Xt (Zv (ii:=1) (i:=i) J J J J Zc Zke sizeOf130 J)) J J J J J<|Co (Xt (Kd (ii:=1) J J J Zc Zkg J Ij J)) J J J J J<|Co (Xt (Kc (ii:=1) Gp0 J J J Zc iA3 J)) J J J J J<|go 2 ?_;refine Co (Xt (Zv (ii:=2) (i:=i) J J J J Zc Zke sizeOf130 J)) J J J J J<|Co (Xt (Kd (ii:=2) J J J Zc Zkg J Ij J)) J J J J J<|Co (Xt (Kc (ii:=2) Gp0 J J J Zc iA3 J)) J J J J J<|Co (Xt (dF (Zuz J J J) (vB (aM (λh=>h (c i).2.1))))) J J J J J<|go 4 ?_;refine Co (Xt (Zv (ii:=1) (i:=i) J J J J Zc Zke sizeOf130 J)) J J J J J<|Co (Xt (Kd (ii:=1) J J J Zc Zkg J sizeOf40 J)) J J J J J<|Co (Xt (Kc (ii:=1) Gp0 J J J Zc isAgg40 J)) J J J J J<|go 2 ?_;refine Co (Xt (Zv (ii:=2) (i:=i) J J J J Zc Zke sizeOf130 J)) J J J J J<|Co (Xt (Kd (ii:=2) J J J Zc Zkg J sizeOf40 J)) J J J J J<|Co (Xt (Kc (ii:=2) Gp0 J J J Zc isAgg40 J)) J J J J J<|Zi1 J J J J J (Xb (n:=2) (Zn3 _ _ _ _) J J J K2 call23 (Zm 55 J J J (Zm 56 J J J Zo)) J j.h) (λ_ _=>?_);refine Co (Xt (dF (Ya3 J J) (vB (aM (λh=>h (c i).2.2))))) J J J J J<|go 12 ⟨O,?_⟩;exact Yp (i+1) O1 O1 K1 aA
 .refine go 11 ?_;exact Xd e () results31 J aA Za
theorem Ygo:Cal prog 207 #[] [] true (G:=Value×Value) (λr=>True) (λr=> .agg #[.bool (decide ((0:Int)<0)),r.1,.bool (decide ((1:Int)<0)),r.2]) (λr=>[Ow r.1 ((0:Int)).natAbs,Ow r.2 ((1:Int)).natAbs]):=by refine Zh func207 ntmps207 λh g f c=>go 2 ?_;refine Yg (Yb 1) λe _=>go 4 ?_;refine cl 2 [] (Pq 0 ⟨O3,O3⟩) λv _=>cl 3 [] (Pq 1 ⟨O3,O3⟩) λd _=>?_;refine dt (Qy (ivs:=[(0,_),(1,_)]) J K4 (λa w hs=>Ykx))<|go 4 ?_;exact Xd c (_,_) results207 J aA (Pt 2 (Pt 3 Za))
theorem Ymt:Cal prog 208 #[] [] true (G:=Value×Value) (λr=>True) (λr=> .agg #[.bool (decide ((1:Int)<0)),r.1,.bool (decide ((1:Int)<0)),r.2]) (λr=>[Ow r.1 ((1:Int)).natAbs,Ow r.2 ((1:Int)).natAbs]):=by refine Zh func208 ntmps208 λh g f c=>go 2 ?_;refine Yg (Yb 1) λe _=>go 4 ?_;refine cl 2 [] (Pq 1 ⟨O3,O3⟩) λv _=>cl 3 [] (Pq 1 ⟨O3,O3⟩) λd _=>?_;refine dt (Qy (ivs:=[(0,_),(1,_)]) J K4 (λa w hs=>Ykx))<|go 4 ?_;exact Xd c (_,_) results208 J aA (Pt 2 (Pt 3 Za))
theorem Yc4(v:Value)(zs:List (Int×SL))(e:Cvd (Zb zs)):Xs prog 157 #[v] [pp v zs] (.bool (Gl (Zb zs))):=by refine Zh func157 ntmps157 λi h f c=>go 8 ?_;refine cl 2 [] (Ygo) λg _=>cl 4 [] (Ymt) λd _=>cl 5 [1,2,3,4,5] (Ztb _ _ _ _ _ _ 0 1 1 1 O3 O3 O3 O3 O3 O3 e Ykg) λ_ _=>go 4 ?_;exact Xd c () results157 J aA Za
set_option maxHeartbeats 1000000 in
theorem Ymu(v:Value)(zs:List GpT)(d:∀k,k<zs.length->Cvd (zs.getD k Gp0).2.2):Xs prog 88 #[v] [Qh 3 Eo qGp v zs] (.int .i64 (bdI (zs.map unP))):=by
 refine Zh func88 ntmps88 λr q p f=>?_;refine Pv (Le (i:=1) J Zc) λo=>go 12 ?_;refine lp (G:=Nat) [0] [0,1] (λi=>[(3,.int .i64 (i:Int))]) (λi=>[]) (λi=>(i<=zs.length)/\(∀k,k<i->Gl (zs.getD k Gp0).2.2=false)) (λi=>zs.length-i) 0 ⟨O1,λk m=>absurd m (cI k)⟩ K1 aA ?_;rintro i ⟨hi,n⟩;refine go 9 ?_;refine Zd J (λh=>?_) (λh=>?_)
 .refine go 5 ?_;refine Zg (Kf 1 55 (zs.getD i Gp0) J J (Ze) J)<|go 3 ?_;refine dt (Zv (ii:=1) (i:=i) J J J J Zc Zke sizeOf130 J)<|dt (Kd (ii:=1) J J J Zc Zkg J sizeOf40 J)<|dt (Kc (ii:=1) Gp0 J J J Zc isAgg40 J)<|cl 2 [55] (Ymj _ _ ((d i O).v.sz.mono O3) (aB (d i O).v.len O3)) λg l=>cl 2 [2] (Yc4 _ _ (by rw [l];exact d i O)) λ_ _=>go 2 ?_;refine Lj J (λc=>?_) (λc=>?_)
  .have e:Gl (zs.getD i Gp0).2.2=true:=by rw [<-l];exact c
   refine go 12 ?_;exact Xd f () results88 (by rw [bd_at O n e]) aA Za
  .have e:Gl (zs.getD i Gp0).2.2=false:=by rw [<-l];exact c
   refine go 8 ⟨O,?_⟩;exact Yp (i+1) ⟨O1,λk m=>by rcases bM.1 m with j|j;exact n k j;subst j;exact e⟩ O1 K1 aA
 .obtain rfl:i=zs.length:=O;refine go 11 ?_;exact Xd f () results88 (by rw [bd_no n]) aA Za
set_option maxHeartbeats 1000000 in
theorem Ztd(va vb:Value)(f h:List Zt)(Q S R:Int)(t:∀g∈f,Gin g)(u:∀g∈h,Gin g)(p:Pi f=true)(r:Pi h=true)(Y:f.length<=5)(Z:h.length<=5)(N:znB Q S R=true):Cal prog 29 #[va,vb,.agg #[.int .i64 Q,.int .i64 S,.int .i64 R]] [Qh 6 Qw qG va f,Qh 6 Qw qG vb h] true (G:=Value×List GpT) (λg=>g.2.map unP=Bl Q S R f h) (λg=> .tuple #[g.1,.int .i64 (Zh3 f h)]) (λg=>[Qh 3 Eo qGp g.1 g.2]):=by
 refine Zh func29 ntmps29 λw0 sc hw H=>go 2 ?_;refine Yg (Yh 3) λbx _=>go 8 ?_;refine cl 4 [1,2] (Zwi _ _ _ _ t u p r Y Z) λc e=>go 16 ?_;refine Zd J (λo=>?_) (λo=>?_)
 .have P:=o;refine go 8 ?_;exact Zr (Du 72 3 Eo qGp)<|Mi H (.slice none 0 0,[]) results29 (by rw [Yix P]) (Yiv O).symm (Pt 72 Za)
 .have P:=o;refine go 14 ?_;refine Zg (Qr 74 3 130 Eo)<|Zg (Yy qGp 76) ?_;have V:=Zrb t u p r;have a1:c.1.2.length=(Ik f h f).length:=by rw [<-e.1,aP]
  have a2:c.2.2.length=(Ik f h h).length:=by rw [<-e.2,aP]
  refine lp (G:=Nat×Value×List GpT) [5,8,9,10] [0,1,2,3,4,5] (λq=>[(12,.int .i64 (q.1:Int)),(11,q.2.1)]) (λq=>[(74,On 3 130 Eo q.2.1 q.2.2),(76,Mc qGp q.2.2)]) (λq=>(q.1<=c.1.2.length)/\(q.2.2.map unP=(Bl Q S R f h).take q.1)/\(q.2.2.length=q.1)) (λq=>c.1.2.length-q.1) (0,.slice none 0 0,[]) ⟨O1,(by rw [dS];rfl),rfl⟩ K2 K2 ?_;rintro⟨k,vq,zs⟩ ⟨hk,x,M⟩;dsimp only at hk x M;dsimp only;refine go 8 ?_;refine Yt (d:=26) J (λa0=>?_) (λa0=>?_)
  .refine go 1 ?_;refine ktg (aL (com_e0 P e.1 O))<|go 8 ?_;obtain⟨B,l⟩:=Zh6 t p e.1 _ (Ze (d:=G0) (show k<c.1.2.length by omega));obtain⟨D,m⟩:=Zh6 u r e.2 _ (Ze (d:=G0) (show k<c.2.2.length by omega));refine Zg (Pd (g:=(c.1.2.getD k G0)) (z:=(c.1.2.getD k G0).2.1) 4 51 J J (Ze) O5)<|Zg (Pd (g:=(c.1.2.getD k G0)) (z:=(c.1.2.getD k G0).2.2.1) 4 52 J J (Ze) O5)<|Zg (Pd (g:=(c.1.2.getD k G0)) (z:=(c.1.2.getD k G0).2.2.2) 4 53 J J (Ze) O5)<|Zg (Pd (g:=(c.2.2.getD k G0)) (z:=(c.2.2.getD k G0).2.1) 5 54 J J (Ze) O5)<|Zg (Pd (g:=(c.2.2.getD k G0)) (z:=(c.2.2.getD k G0).2.2.1) 5 55 J J (Ze) O5)<|Zg (Pd (g:=(c.2.2.getD k G0)) (z:=(c.2.2.getD k G0).2.2.2) 5 56 J J (Ze) O5) ?_;have F:=Yah (fzX (Ib B l) (Ib D m) (Zao l) (Zao m) N);refine Px [3,4,5] [25]<|Zj (n:=4) [(0,0),(1,0),(2,0),(3,0),(4,0),(5,0),(6,0),(7,0),(8,0),(9,0),(10,0),(11,0),(12,0),(13,0),(14,0),(15,0),(16,0),(17,0),(18,0),(19,0),(20,1),(21,1)]<|go 3 ?_;refine Xe J J (Gj (Zv (ii:=4) (i:=k) J J J J Zc Kp Hh J) K3)<|Xe J J (Gj (Kd (ii:=4) J J J Zc Bw J Ij J) K3)<|Xe J J (Gj (Kc (ii:=4) G0 J J J Zc iA3 J) K3)<|go 2 ?_;refine Xe J J (Gj (Zv (ii:=4) (i:=k) J J J J Zc Kp Hh J) K3)<|Xe J J (Gj (Kd (ii:=4) J J J Zc Bw J Ij J) K3)<|Xe J J (Gj (Kc (ii:=4) G0 J J J Zc iA3 J) K3)<|go 2 ?_;refine Xe J J (Gj (Zv (ii:=4) (i:=k) J J J J Zc Kp Hh J) K3)<|Xe J J (Gj (Xl (ii:=4) G0 J J J Zc pG) K3)<|go 2 ?_;refine Xe J J (Gj (Zv (ii:=5) (i:=k) J J J J Zc Kp Hh J) K3)<|Xe J J (Gj (Xl (ii:=5) G0 J J J Zc pG) K3)<|go 1 ?_;refine Yn (Zk 83 [51,52,53,54,55,56] (Ygn _ _ _ _ _ _ _ _ _ _ _ _ _ _ _ _ _ _ _ _ _ (Ib B l) (Ib D m) (Zao l) (Zao m) N)) λg W=>Yn (Zk 84 [83] (rp_to _ _ (Zce W F.v) (Cm W F.v O3))) λv _=>go 1 ?_;refine Zvn (Qs 84 J Zq) (λy I=>?_);subst I;refine Zj (n:=0) [(22,0),(23,1),(24,1),(25,3)]<|Xe J J (Gj (Qy (ivs:=[(0,_),(1,_),(2,_)]) J K6 (λa w hs=>Zvi ((Yr J) a w hs) ((Yr J) a w hs) ((Yr J) a w hs))) K3)<|Kq J (Xw (i:=6) (ivs:=[(0,_)]) (enc:=Eo) [(gpY (c.1.2.getD k G0) (y,Zb g.2))] J J K2 Zke ti130 J J (fillG _ _ _ _ _ _) J J pGp.cells J J hw.h) (λa3 _=>?_);refine Kq J (Zbn 74 J J J K3 (λs=>(Bb (i:=74) (j:=6) (by_:=40) J J J J J J O3 J (Yd pGp) Zke ti130 J pGp J J J O8 O3 J hw.h s))) λa4 _=>go 2 ?_;refine Zn<|go 7 ⟨O,?_⟩;exact Zr (Zu (q:=qGp) (z:=(gpY (c.1.2.getD k G0) (y,Zb g.2))) 76 84 76 J J J J J)<|Yp (k+1,_,zs ++ [(gpY (c.1.2.getD k G0) (y,Zb g.2))]) ⟨O1,Yac e.1 e.2 x O O W,by rw [aY,M];rfl⟩ O1 K2 K2
  .refine go 20 ?_;obtain rfl:k=c.1.2.length:=O;exact Zr (Xi 74 J J pGp)<|Zr (Qc 74 76 78 J J J J)<|Mi H (vq,zs) results29 (by rw [Yiw P]) (Yit e.1 V.1 x) (Pt 78 Za)
theorem Yc3(u v:Value)(e f:List Zt)(r t s:Int)(j:∀g∈e,Gin g)(l:∀g∈f,Gin g)(h:Pi e=true)(i:Pi f=true)(o:e.length<=5)(p:f.length<=5)(n:znB r t s=true):Xs prog 30 #[u,v,.agg #[.int .i64 r,.int .i64 t,.int .i64 s]] [Qh 6 Qw qG u e,Qh 6 Qw qG v f] (.tuple #[.bool (apZ r t s e f),.int .i64 (Zh3 e f)]):=by
 refine Zh func30 ntmps30 λD B z m=>go 2 ?_;refine Yg (Yh 3) λx _=>go 9 ?_;refine cl 4 [1,2] (Ztd _ _ _ _ _ _ _ j l h i o p n) λy c=>go 12 ?_;refine Yt (d:=19) J (λq=>?_) (λq=>?_)
 .refine go 1 ?_;refine Gm 4 [4] (Ymu _ _ (λk w=>Yj0 j l h i n c w)) λ_ _=>go 8 ?_;exact Mi m () results30 (by first|rw [ap_b c ‹_›]|rw [Ypl ‹_›]) aA Za
 .refine go 10 ?_;exact Mi m () results30 (by first|rw [ap_b c ‹_›]|rw [Ypl ‹_›]) aA Za
set_option maxHeartbeats 1000000 in
theorem Zwz(i j:Value)(e f:List Zt)(n p o:Int)(l:∀g∈e,Gin g)(m:∀g∈f,Gin g)(k:¬(Zcf e 4=true/\Zcf f 4=true)):Xs prog 5 #[i,j,.agg #[.int .i64 n,.int .i64 p,.int .i64 o]] [Qh 6 Qw qG i e,Qh 6 Qw qG j f] (.bool true):=by
 refine Zh func5 ntmps5 λt s r d=>go 2 ?_;refine Yg (Yh 3) λq _=>go 5 ?_;rcases Zxq k with c|⟨c,h⟩
 .refine go 2 ?_;refine cl 3 [1] (Bf _ e 4) λ_ _=>?_;refine dt (dT (Xc J J) (aF (λb=>Value.bool (!b)) c))<|go 10 ?_;refine cl 3 [] (Fr) λ_ _=>go 5 ?_;exact Xd d () results5 J aA Za
 .refine go 2 ?_;refine cl 3 [1] (Bf _ e 4) λ_ _=>?_;refine dt (dF (Xc J J) (aF (λb=>Value.bool (!b)) c))<|go 2 ?_;refine Gm 3 [2] (Bf _ f 4) λ_ _=>?_;refine Fa (dT (Xc J J) (aF (λb=>Value.bool (!b)) h)) J J<|go 6 ?_;refine cl 3 [] (Fr) λ_ _=>go 5 ?_;exact Xd d () results5 J aA Za
set_option maxHeartbeats 1000000 in
theorem Zw0(o p:Value)(i j:List Zt)(q s r:Int)(c:∀g∈i,Gin g)(e:∀g∈j,Gin g)(m:Zcf i 4=true)(n:Zcf j 4=true)(k:¬(Pi i=true/\Pi j=true))(h:znB q s r=true):Xs prog 5 #[o,p,.agg #[.int .i64 q,.int .i64 s,.int .i64 r]] [Qh 6 Qw qG o i,Qh 6 Qw qG p j] (.bool true):=by
 refine Zh func5 ntmps5 λw v u f=>?_;refine Zg (Qr 98 3 130 Eo)<|Zg (Xi 98 J J pGp)<|go 2 ?_;refine Yg (Yh 3) λt _=>go 7 ?_;refine cl 3 [1] (Bf _ i 4) λ_ _=>?_;refine dt (dF (Xc J J) (aF (λb=>Value.bool (!b)) m))<|go 2 ?_;refine Gm 3 [2] (Bf _ j 4) λ_ _=>?_;refine Fa (dF (Xc J J) (aF (λb=>Value.bool (!b)) n)) J J<|go 11 ?_;refine cl 3 [1,2] (Ziv _ _ _ _ _ _ _ c e k h) λ_ _=>go 12 ?_;refine cl 3 [1,2] (Zq5 _ _ _ _ _ _ _ c e k h) λ_ _=>go 9 ?_;rcases Zxq k with d|⟨d,l⟩
 .refine go 2 ?_;refine cl 3 [1] (Ng _ _ c) λ_ _=>?_;refine dt (dT (Xc J J) (aF (λb=>Value.bool (!b)) d))<|go 17 ?_;refine kt (aL O5)<|go 2 ?_;refine ktg (aL O3)<|go 3 ?_;refine Fa (dT (Xc J J) J) J J<|go 3 ?_;refine ktg (aL O3)<|go 2 ?_;refine Gm 3 [] (Fr) λ_ _=>go 6 ?_;exact Xd f () results5 J aA Za
 .refine go 2 ?_;refine cl 3 [1] (Ng _ _ c) λ_ _=>?_;refine dt (dF (Xc J J) (aF (λb=>Value.bool (!b)) d))<|go 2 ?_;refine Gm 3 [2] (Ng _ _ e) λ_ _=>?_;refine Fa (dT (Xc J J) (aF (λb=>Value.bool (!b)) l)) J J<|go 13 ?_;refine kt (aL O5)<|go 2 ?_;refine ktg (aL O3)<|go 3 ?_;refine Fa (dT (Xc J J) J) J J<|go 3 ?_;refine ktg (aL O3)<|go 2 ?_;refine Gm 3 [] (Fr) λ_ _=>go 6 ?_;exact Xd f () results5 J aA Za
set_option maxHeartbeats 1000000 in
theorem Zt9(t u:Value)(l m:List Zt)(q s r:Int)(e:∀g∈l,Gin g)(f:∀g∈m,Gin g)(o:Zcf l 4=true)(p:Zcf m 4=true)(k:znB q s r=false):Xs prog 5 #[t,u,.agg #[.int .i64 q,.int .i64 s,.int .i64 r]] [Qh 6 Qw qG t l,Qh 6 Qw qG u m] (.bool true):=by
 refine Zh func5 ntmps5 λy x w j=>?_;refine Zg (Qr 98 3 130 Eo)<|Zg (Xi 98 J J pGp)<|go 2 ?_;refine Yg (Yh 3) λv _=>go 7 ?_;refine cl 3 [1] (Bf _ l 4) λ_ _=>?_;refine dt (dF (Xc J J) (aF (λb=>Value.bool (!b)) o))<|go 2 ?_;refine Gm 3 [2] (Bf _ m 4) λ_ _=>?_;refine Fa (dF (Xc J J) (aF (λb=>Value.bool (!b)) p)) J J<|go 11 ?_;refine cl 3 [1,2] (Zgq _ _ _ _ _ _ _ e f k) λ_ _=>go 12 ?_;refine cl 3 [1,2] (Znd _ _ _ _ _ _ _ e f k) λ_ _=>go 9 ?_;rcases Ycf (a:=Pi l) (b:=Pi m) (c:=znB q s r) (λh=>by rw [k]at h;cases h.2.2)with d|⟨d,i⟩|⟨d,i,n⟩
 .refine go 2 ?_;refine cl 3 [1] (Ng _ _ e) λ_ _=>?_;refine dt (dT (Xc J J) (aF (λb=>Value.bool (!b)) d))<|go 17 ?_;refine kt (aL O5)<|go 2 ?_;refine ktg (aL O3)<|go 3 ?_;refine Fa (dT (Xc J J) J) J J<|go 3 ?_;refine ktg (aL O3)<|go 2 ?_;refine Gm 3 [] (Fr) λ_ _=>go 6 ?_;exact Xd j () results5 J aA Za
 .refine go 2 ?_;refine cl 3 [1] (Ng _ _ e) λ_ _=>?_;refine dt (dF (Xc J J) (aF (λb=>Value.bool (!b)) d))<|go 2 ?_;refine Gm 3 [2] (Ng _ _ f) λ_ _=>?_;refine Fa (dT (Xc J J) (aF (λb=>Value.bool (!b)) i)) J J<|go 13 ?_;refine kt (aL O5)<|go 2 ?_;refine ktg (aL O3)<|go 3 ?_;refine Fa (dT (Xc J J) J) J J<|go 3 ?_;refine ktg (aL O3)<|go 2 ?_;refine Gm 3 [] (Fr) λ_ _=>go 6 ?_;exact Xd j () results5 J aA Za
 .refine go 2 ?_;refine cl 3 [1] (Ng _ _ e) λ_ _=>?_;refine dt (dF (Xc J J) (aF (λb=>Value.bool (!b)) d))<|go 2 ?_;refine Gm 3 [2] (Ng _ _ f) λ_ _=>?_;refine Fa (dF (Xc J J) (aF (λb=>Value.bool (!b)) i)) J J<|go 3 ?_;refine Gm 3 [] (Zn4 _ _ _) λ_ _=>?_;refine Fa (dT (Xc J J) (aF (λb=>Value.bool (!b)) n)) J J<|go 8 ?_;refine kt (aL O5)<|go 2 ?_;refine ktg (aL O3)<|go 3 ?_;refine Fa (dT (Xc J J) J) J J<|go 3 ?_;refine ktg (aL O3)<|go 2 ?_;refine Gm 3 [] (Fr) λ_ _=>go 6 ?_;exact Xd j () results5 J aA Za
set_option maxHeartbeats 1000000 in
theorem Ydp(s t:Value)(l m:List Zt)(u w v:Int)(e:∀g∈l,Gin g)(f:∀g∈m,Gin g)(n:Zcf l 4=true)(o:Zcf m 4=true)(c:Pi l=true)(d:Pi m=true)(h:znB u w v=true):Xs prog 5 #[s,t,.agg #[.int .i64 u,.int .i64 w,.int .i64 v]] [Qh 6 Qw qG s l,Qh 6 Qw qG t m] (.bool true):=by refine Zh func5 ntmps5 λD B z q=>?_;have i:l.length<=5:=aB (Yi6 n) O3;have j:m.length<=5:=aB (Yi6 o) O3;refine go 2 ?_;refine Yg (Yh 3) λx _=>go 7 ?_;refine cl 3 [1] (Bf _ l 4) λ_ _=>?_;refine dt (dF (Xc J J) (aF (λb=>Value.bool (!b)) n))<|go 2 ?_;refine Gm 3 [2] (Bf _ m 4) λ_ _=>?_;refine Fa (dF (Xc J J) (aF (λb=>Value.bool (!b)) o)) J J<|go 11 ?_;refine cl 4 [1,2] (Yat _ _ _ _ _ _ _ e f c d i j h) λy p=>go 12 ?_;refine cl 4 [1,2] (Zma _ _ _ _ _ _ _ e f c d i j h) λ_ _=>go 11 ?_;refine cl 4 [1] (Ng _ _ e) λ_ _=>?_;refine dt (dF (Xc J J) (aF (λb=>Value.bool (!b)) c))<|go 2 ?_;refine Gm 4 [2] (Ng _ _ f) λ_ _=>?_;refine Fa (dF (Xc J J) (aF (λb=>Value.bool (!b)) d)) J J<|go 3 ?_;refine Gm 4 [] (Zn4 _ _ _) λ_ _=>?_;refine Fa (dF (Xc J J) (aF (λb=>Value.bool (!b)) h)) J J<|go 11 ?_;refine cl 5 [1,2] (Ztd _ _ _ _ _ _ _ e f c d i j h) λr k=>go 12 ?_;refine cl 5 [1,2] (Yc3 _ _ _ _ _ _ _ e f c d i j h) λ_ _=>go 11 ?_;refine cl 5 [4,5] (Ygp _ _ _ _ (p.trans k.symm)) λ_ _=>go 3 ?_;refine ktg (aL J)<|go 4 ?_;refine ktg (beq_self_eq_true _)<|go 4 ?_;refine ktg (aL J)<|go 2 ?_;refine Gm 5 [] (Fr) λ_ _=>go 5 ?_;exact Xd q () results5 J aA Za
theorem law_dg(i:Value)(e:List Zt)(j:Value)(f:List Zt)(k m l:Int)(c:∀g∈e,Gin g)(d:∀g∈f,Gin g):Xs prog 5 #[i,j,.agg #[.int .i64 k,.int .i64 m,.int .i64 l]] [Qh 6 Qw qG i e,Qh 6 Qw qG j f] (.bool true):=by
 by_cases h:Zcf e 4=true/\Zcf f 4=true
 .cases hzn:znB k m l with
  | false=>exact Zt9 i j e f k m l c d h.1 h.2 hzn
  | true=>
   by_cases n:Pi e=true/\Pi f=true
   .exact Ydp i j e f k m l c d h.1 h.2 n.1 n.2 hzn
   .exact Zw0 i j e f k m l c d h.1 h.2 n hzn
 .exact Zwz i j e f k m l c d h
end Go.Sky
namespace Go.Proofs.YteikicbnfbgpnaaGreat
open Go.ChangeShapes Go.WideShapes Go.ChangeAt Go.RowKit Go.Joins Go.Deep Go.Sky
def own:ownKnob Tryz.prog.godebug=none:=O7
def Zqm:laidOutB Tryz.prog=true:=O7
set_option maxRecDepth 100000 in
def lifted(Z:Os)(d:Z.Started)(H:Type)(enc:TypeId×Value->H) :
  ReturnsInHanded {} Tryz.checked Z 5 .any (Rows.downwashGapsSpec.pre6 enc Tryz.prog Tryz.f5 Rows.downwashGapsRow.domain false) (Rows.downwashGapsSpec.post enc Tryz.prog Tryz.f5 false true false false):=by
 refine returnsInHanded_of_change (C:=Tryz.checked) own d O7 Tryz.func5
  (ChangeSpec.witness6 (enc:=enc) (C:=Tryz.checked) false ⟨#[],#[.slice none 0 0,.slice none 0 0,.agg #[.int .i64 0,.int .i64 0,.int .i64 0]],[]⟩ 8 O7 O7 O7 O7) ?_
 intro W g a ds gs n c V Y _;have b:∀(j:Nat) t v,Tryz.f5.params[j]? = some t->a[j]? = some v->Value.okWide Tryz.prog W .any g t v:=c;have u:=V;obtain⟨p,q,i,hV,rfl,a3,a4⟩:=V;have S:DataW.TrodAll enc Tryz.prog W 0 (λ_=>true) true Tryz.f5.params.toList a.toList ds p:=i;rw [Tryz.params5]at S b;obtain⟨M,a5,d0,a0,p0,q0,w,rfl,rfl,o,r0⟩:=trodAll_cons S;obtain⟨N,a6,d1,a1,p1,q1,rfl,rfl,rfl,r,r1⟩:=trodAll_cons r0;obtain⟨v2,a7,d2,a2,p2,q2,rfl,rfl,rfl,s,r2⟩:=trodAll_cons r1;obtain⟨rfl,rfl,rfl⟩:=trodAll_nil r2;obtain rfl:a=#[M,N,v2]:=by cases a;simp_all
 obtain⟨rfl,rfl⟩:=trodVars_none hV;have F:∀x∈p0,x.block<W.heap.size:=by obtain⟨m,k⟩:=o;exact DataW.trod_lt m _ _ _ k
 obtain⟨l0,y,B⟩:=Zoc Tryz.underlying38 Tryz.underlying35 rfl rfl rfl rfl rfl rfl rfl rfl rfl rfl rfl rfl Tryz.underlying3 Tryz.underlying33 Tryz.underlying3 O7 O7 O7 O7 (b 0 38 M rfl rfl) o;have G:∀x∈p1,x.block<W.heap.size:=by obtain⟨m,k⟩:=r;exact DataW.trod_lt m _ _ _ k
 obtain⟨l1,z,D⟩:=Zoc Tryz.underlying38 Tryz.underlying35 rfl rfl rfl rfl rfl rfl rfl rfl rfl rfl rfl rfl Tryz.underlying3 Tryz.underlying33 Tryz.underlying3 O7 O7 O7 O7 (b 1 38 N rfl rfl) r;have I:∀x∈p2,x.block<W.heap.size:=by obtain⟨m,k⟩:=s;exact DataW.trod_lt m _ _ _ k
 obtain⟨P,Q,R,rfl,-,-,-⟩:=Zwo Tryz.underlying25 O7 rfl rfl rfl rfl rfl rfl Tryz.underlying3 O7 (b 2 (25) v2 rfl rfl) s;clear i c;refine(law_dg M l0 N l1 P Q R B D W (λp l=>by cases l with|head=>exact y|tail _ l=>cases l with|head=>exact z|tail _ l=>cases l)).mono λe W' ⟨_,he,_,f,_⟩=>?_;subst he;exact⟨_,rfl,_,_,_,[],_,[],u,trodAll_mk1 (shut_bool Tryz.underlying4 _),(trodAll_cons_mk (Below.trod Zqm O7 (cC O7) o f F) (trodAll_cons_mk (Below.trod Zqm O7 (cC O7) r f G) (trodAll_cons_mk (Below.trod Zqm O7 (cC O7) s f I) trodAll_mk0))),rfl,f.frame _,λh=>by cases h⟩
theorem x_holds : Rows.DownwashGapsSaid :=
 OpenClaim.holds_of_wide 5 Tryz.f5 rfl rfl rfl rfl rfl rfl rfl ⟨rfl,rfl,rfl,rfl,rfl⟩ rfl rfl rfl rfl rfl O7 Tryz.func5 closed
  (cC O7) (by unfold Func.isWrapper;first|(rw [aG O6];kernel_rfl)|(rw [aD O6];exact⟨rfl,rfl⟩))
  (λos started H enc _=>lifted os started H enc)
#print axioms x_holds
end Go.Proofs.YteikicbnfbgpnaaGreat

